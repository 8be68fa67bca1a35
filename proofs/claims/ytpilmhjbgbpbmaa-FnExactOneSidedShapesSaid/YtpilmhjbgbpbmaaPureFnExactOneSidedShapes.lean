/- The program's OneSidedShapes returns what the reference's returns, for all numbers of cells, without any condition. -/
import Derived.Test.YtpilmhjbgbpbmaaXx0
import Derived.Test.YtpilmhjbgbpbmaaXx10
import Derived.Test.YtpilmhjbgbpbmaaXx11
import Derived.Test.YtpilmhjbgbpbmaaXx14
import Derived.Test.YtpilmhjbgbpbmaaXx15
import Derived.Test.YtpilmhjbgbpbmaaXx16
import Derived.Test.YtpilmhjbgbpbmaaXx18
import Derived.Test.YtpilmhjbgbpbmaaXx19
import Derived.Test.YtpilmhjbgbpbmaaXx2
import Derived.Test.YtpilmhjbgbpbmaaXx20
import Derived.Test.YtpilmhjbgbpbmaaXx21
import Derived.Test.YtpilmhjbgbpbmaaXx23
import Derived.Test.YtpilmhjbgbpbmaaXx3
import Derived.Test.YtpilmhjbgbpbmaaXx38
import Derived.Test.YtpilmhjbgbpbmaaXx4
import Derived.Test.YtpilmhjbgbpbmaaXx5
import Derived.Test.YtpilmhjbgbpbmaaXx6
import Derived.Test.YtpilmhjbgbpbmaaXx7
import Derived.Test.YtpilmhjbgbpbmaaXx8
import Derived.Test.YtpilmhjbgbpbmaaXx9
namespace Go.Proofs.Ytpilmhjbgbpbmaa.X
set_option linter.unusedVariables false
set_option linter.unusedSimpArgs false
open Go.RowKit Go.Proofs.Ytpilmhjbgbpbmaa.X Go.Proofs.YtpilmhjbgbpbmaaW.PrintWords Go.Proofs.YtpilmhjbgbpbmaaW.PrintLast Go.Proofs.YtpilmhjbgbpbmaaW.PrintMore
def laws_FnExactOneSidedShapes.Pure : Prop := ∀ (a0 : Int), (Lit.int .i64 a0).wf = true → ∃ k, laws_FnExactOneSidedShapes.f k a0 = some true
end Go.Proofs.Ytpilmhjbgbpbmaa.X
namespace Go.Proofs.Ytpilmhjbgbpbmaa.M
set_option linter.unusedVariables false
set_option linter.unusedSimpArgs false
open Go.RowKit Go.Proofs.Ytpilmhjbgbpbmaa.X Go.Proofs.YtpilmhjbgbpbmaaW.PrintWords Go.Proofs.YtpilmhjbgbpbmaaW.PrintLast Go.Proofs.YtpilmhjbgbpbmaaW.PrintMore
theorem w64 {x : Int} (h1 : -9223372036854775808 ≤ x) (h2 : x ≤ 9223372036854775807) : wrap64 x = x := by unfold wrap64; omega
theorem tmod_pos {a n : Int} (h : 0 ≤ a) (hn : 0 < n) : 0 ≤ Int.tmod a n ∧ Int.tmod a n < n := by
 rw [Int.tmod_eq_emod_of_nonneg h]; exact ⟨Int.emod_nonneg _ (by omega), Int.emod_lt_of_pos _ hn⟩
theorem l01In_eq (a b c : Int) : spec_l01In.f a b c = some (decide (b ≤ a ∧ a ≤ c)) := by
 unfold spec_l01In.f; by_cases h : a ≥ b
 ·rw [if_pos h]; simp [h]
 ·rw [if_neg h]; simp; omega
theorem within_eq (a b c : Int) : impl_within.f a b c = some (decide (b ≤ a ∧ a ≤ c)) := l01In_eq a b c
abbrev C := S42
def at_ (l : List C) (j : Nat) : C := l.getD j ⟨0, 0⟩
theorem rd_at (l : List C) (j : Nat) : rd_T42 l (j : Int) = at_ l j := by unfold rd_T42 at_; rw [Int.toNat_natCast]; rfl
theorem at_get (l : List C) (j : Nat) (h : j < l.length) : at_ l j = l[j] := by unfold at_; rw [List.getD_eq_getElem?_getD, List.getElem?_eq_getElem h]; rfl
theorem at_mem (l : List C) (j : Nat) (h : j < l.length) : at_ l j ∈ l := by rw [at_get l j h]; exact List.getElem_mem h
theorem drop_at (l : List C) (j : Nat) (h : j < l.length) : l.drop j = at_ l j :: l.drop (j + 1) := by rw [at_get l j h, List.drop_eq_getElem_cons h]
def AE (P : Nat → Prop) : Prop := ∃ K, ∀ k, K ≤ k → P k
theorem AE.and {P Q : Nat → Prop} (h : AE P) (g : AE Q) : AE (fun k => P k ∧ Q k) := by
 obtain ⟨K, h⟩ := h; obtain ⟨L, g⟩ := g
 exact ⟨K + L, fun k hk => ⟨h k (by omega), g k (by omega)⟩⟩
theorem AE.up {P : Nat → Prop} (h : AE P) : ∃ K, ∀ n, P (K + n) := by
 obtain ⟨K, h⟩ := h; exact ⟨K, fun n => h _ (by omega)⟩
theorem evae {α : Type} {g : Nat → Option α} {a : α} (h : Ev g a) : AE (fun k => g k = some a) := h
theorem ev2 {α0 α1 : Type} {g0 : Nat → Option α0} {g1 : Nat → Option α1} {a0 : α0} {a1 : α1} (h0 : Ev g0 a0) (h1 : Ev g1 a1) : ∃ K, (∀ n, g0 (K + n) = some a0) ∧ (∀ n, g1 (K + n) = some a1) := by
 obtain ⟨K, h⟩ := AE.up (AE.and (evae h0) (evae h1)); exact ⟨K, fun n => (h n).1, fun n => (h n).2⟩
theorem ev5 {α0 α1 α2 α3 α4 : Type} {g0 : Nat → Option α0} {g1 : Nat → Option α1} {g2 : Nat → Option α2} {g3 : Nat → Option α3} {g4 : Nat → Option α4} {a0 : α0} {a1 : α1} {a2 : α2} {a3 : α3} {a4 : α4} (h0 : Ev g0 a0) (h1 : Ev g1 a1) (h2 : Ev g2 a2) (h3 : Ev g3 a3) (h4 : Ev g4 a4) : ∃ K, (∀ n, g0 (K + n) = some a0) ∧ (∀ n, g1 (K + n) = some a1) ∧ (∀ n, g2 (K + n) = some a2) ∧ (∀ n, g3 (K + n) = some a3) ∧ (∀ n, g4 (K + n) = some a4) := by
 obtain ⟨K, h⟩ := AE.up (AE.and (evae h0) (AE.and (evae h1) (AE.and (evae h2) (AE.and (evae h3) (evae h4))))); exact ⟨K, fun n => (h n).1, fun n => (h n).2.1, fun n => (h n).2.2.1, fun n => (h n).2.2.2.1, fun n => (h n).2.2.2.2⟩
theorem ev_fold {σ β : Type} (F : Nat → σ → Int → Option β) (l : List C) (g : σ → C → σ) (fin : σ → Option β) (r : β) (inv : Nat → σ → Prop)
  (step : ∀ k s (j : Nat), j < l.length → at_ l j ∈ l → inv j s → F (k + 1) s (j : Nat) = F k (g s (at_ l j)) ((j + 1 : Nat) : Int) ∧ inv (j + 1) (g s (at_ l j)))
  (done : ∀ k s, inv l.length s → F (k + 1) s (l.length : Nat) = fin s) (j0 : Nat) (hj0 : j0 ≤ l.length) (s0 : σ) (h0 : inv j0 s0) (hr : fin ((l.drop j0).foldl g s0) = some r) : Ev (fun k => F k s0 (j0 : Nat)) r := by
 have key : ∀ d j : Nat, j + d = l.length → ∀ s, inv j s → fin ((l.drop j).foldl g s) = some r → Ev (fun k => F k s (j : Nat)) r := by
  intro d
  induction d with
  | zero =>
   intro j hj s hs hr
   obtain rfl : j = l.length := by omega
   refine Ev.step (fun k => done k s hs) ?_
   rw [List.drop_length] at hr
   have hr' : fin s = some r := hr
   rw [hr']; exact Ev.now r
  | succ d ih =>
   intro j hj s hs hr
   have h : j < l.length := by omega
   refine Ev.step (fun k => (step k s j h (at_mem l j h) hs).1) (ih (j + 1) (by omega) _ ((step 0 s j h (at_mem l j h) hs).2) ?_)
   rw [drop_at l j h] at hr; exact hr
 exact key (l.length - j0) j0 (by omega) s0 h0 hr
def ltC (a b : C) : Prop := a.f1 < b.f1 ∨ (a.f1 = b.f1 ∧ a.f0 < b.f0)
instance (a b : C) : Decidable (ltC a b) := by unfold ltC; exact inferInstance
def okC (a : C) : Prop := -100 ≤ a.f0 ∧ a.f0 ≤ 100 ∧ -100 ≤ a.f1 ∧ a.f1 ≤ 100
instance (a : C) : Decidable (okC a) := by unfold okC; exact inferInstance
def Sh (l : List C) : Prop := 1 ≤ l.length ∧ l.length ≤ 40 ∧ (∀ i, i < l.length → okC (at_ l i)) ∧ (∀ i, i + 1 < l.length → ltC (at_ l i) (at_ l (i + 1)))
theorem less_eq (a b c d : Int) : spec_l02Less.f a b c d = some (decide (ltC ⟨a, b⟩ ⟨c, d⟩)) := by
 unfold spec_l02Less.f ltC
 by_cases h : b < d
 ·rw [if_pos h]; simp [h]
 ·rw [if_neg h]
  by_cases e : b = d
  ·rw [if_pos e]; simp [e]
  ·rw [if_neg e]; simp [h, e]
theorem mem_at {l : List C} {c : C} (h : c ∈ l) : ∃ i, i < l.length ∧ at_ l i = c := by
 obtain ⟨i, hi, e⟩ := List.mem_iff_getElem.1 h
 exact ⟨i, hi, (at_get l i hi).trans e⟩
theorem Sh.ok {l : List C} (h : Sh l) {c : C} (hc : c ∈ l) : okC c := by
 obtain ⟨i, hi, rfl⟩ := mem_at hc
 exact h.2.2.1 i hi
theorem ltC_trans {a b c : C} (h : ltC a b) (g : ltC b c) : ltC a c := by unfold ltC at *; omega
theorem ltC_irrefl {a : C} (h : ltC a a) : False := by unfold ltC at h; omega
theorem Sh.lt {l : List C} (h : Sh l) : ∀ i j, i < j → j < l.length → ltC (at_ l i) (at_ l j) := by
 intro i j
 induction j with
 | zero => intro h; omega
 | succ j ih =>
  intro hij hj
  by_cases e : i = j
  ·subst e; exact h.2.2.2 i hj
  ·exact ltC_trans (ih (by omega) (by omega)) (h.2.2.2 j hj)
theorem foldl_pair (g1 g2 : Int → C → Int) (l : List C) : ∀ a b, l.foldl (fun (s : Int × Int) c => (g1 s.1 c, g2 s.2 c)) (a, b) = (l.foldl g1 a, l.foldl g2 b) := by
 induction l with
 | nil => intro a b; rfl
 | cons c r ih => intro a b; exact ih _ _
def mxF (f : C → Int) (l : List C) (s : Int) : Int := l.foldl (fun s c => mx s (f c)) s
def mnF (f : C → Int) (l : List C) (s : Int) : Int := l.foldl (fun s c => mn s (f c)) s
theorem mnF_spec (f : C → Int) (l : List C) : ∀ s, mnF f l s ≤ s ∧ (∀ c ∈ l, mnF f l s ≤ f c) ∧ (mnF f l s = s ∨ ∃ c ∈ l, mnF f l s = f c) := by
 induction l with
 | nil => intro s; exact ⟨Int.le_refl _, (fun c h => by cases h), Or.inl rfl⟩
 | cons d r ih =>
  intro s
  obtain ⟨h1, h2, h3⟩ := ih (mn s (f d))
  have e : mnF f (d :: r) s = mnF f r (mn s (f d)) := rfl
  rw [e]
  have m1 : mn s (f d) ≤ s ∧ mn s (f d) ≤ f d ∧ (mn s (f d) = s ∨ mn s (f d) = f d) := by unfold mn; split <;> omega
  refine ⟨by omega, fun c hc => ?_, ?_⟩
  ·rcases List.mem_cons.1 hc with rfl | hc
   ·omega
   ·exact h2 c hc
  ·rcases h3 with h3 | ⟨c, hc, h3⟩
   ·rcases m1.2.2 with m | m
    ·exact Or.inl (h3.trans m)
    ·exact Or.inr ⟨d, List.mem_cons_self, h3.trans m⟩
   ·exact Or.inr ⟨c, List.mem_cons_of_mem _ hc, h3⟩
def lo (l : List C) : Int × Int := (mnF (fun c => c.f0) l (at_ l 0).f0, mnF (fun c => c.f1) l (at_ l 0).f1)
def hi (l : List C) : Int × Int := (mxF (fun c => c.f0) l (at_ l 0).f0, mxF (fun c => c.f1) l (at_ l 0).f1)
theorem mn_self (a : Int) : mn a a = a := by unfold mn; split <;> omega
theorem lo_drop (l : List C) (h : 0 < l.length) : lo l = (mnF (fun c => c.f0) (l.drop 1) (at_ l 0).f0, mnF (fun c => c.f1) (l.drop 1) (at_ l 0).f1) := by
 have e := drop_at l 0 h
 rw [List.drop_zero] at e
 unfold lo
 have e0 : mnF (fun c => c.f0) l (at_ l 0).f0 = mnF (fun c => c.f0) (l.drop 1) (at_ l 0).f0 := by
  conv => lhs; rw [e]
  show mnF _ (l.drop (0 + 1)) (mn (at_ (at_ l 0 :: l.drop (0 + 1)) 0).f0 (at_ l 0).f0) = _
  rw [show at_ (at_ l 0 :: l.drop (0 + 1)) 0 = at_ l 0 from rfl, mn_self]
 have e1 : mnF (fun c => c.f1) l (at_ l 0).f1 = mnF (fun c => c.f1) (l.drop 1) (at_ l 0).f1 := by
  conv => lhs; rw [e]
  show mnF _ (l.drop (0 + 1)) (mn (at_ (at_ l 0 :: l.drop (0 + 1)) 0).f1 (at_ l 0).f1) = _
  rw [show at_ (at_ l 0 :: l.drop (0 + 1)) 0 = at_ l 0 from rfl, mn_self]
 rw [e0, e1]
theorem lo_le {l : List C} {c : C} (h : c ∈ l) : (lo l).1 ≤ c.f0 ∧ (lo l).2 ≤ c.f1 := ⟨(mnF_spec _ l _).2.1 c h, (mnF_spec _ l _).2.1 c h⟩
theorem lo_mem0 {l : List C} (h : 0 < l.length) : ∃ c ∈ l, (lo l).1 = c.f0 := by
 rcases (mnF_spec (fun c : C => c.f0) l (at_ l 0).f0).2.2 with e | ⟨c, hc, e⟩
 ·exact ⟨at_ l 0, at_mem l 0 h, e⟩
 ·exact ⟨c, hc, e⟩
theorem lo_mem1 {l : List C} (h : 0 < l.length) : ∃ c ∈ l, (lo l).2 = c.f1 := by
 rcases (mnF_spec (fun c : C => c.f1) l (at_ l 0).f1).2.2 with e | ⟨c, hc, e⟩
 ·exact ⟨at_ l 0, at_mem l 0 h, e⟩
 ·exact ⟨c, hc, e⟩
def movC (a b : Int) (c : C) : C := ⟨wrap64 (c.f0 + a), wrap64 (c.f1 + b)⟩
def movL (a b : Int) (l : List C) : List C := l.map (movC a b)
theorem movL_length (a b : Int) (l : List C) : (movL a b l).length = l.length := by simp [movL]
theorem foldl_append_map {α β : Type} (f : α → β) (l : List α) : ∀ s : List β, l.foldl (fun s c => s ++ [f c]) s = s ++ l.map f := by
 induction l with
 | nil => intro s; simp
 | cons c r ih => intro s; rw [List.foldl_cons, ih]; simp
def normL (l : List C) : List C := movL (wrap64 (-(lo l).1)) (wrap64 (-(lo l).2)) l
theorem normL_length (l : List C) : (normL l).length = l.length := movL_length _ _ _
theorem least_ev (l : List C) (h : 0 < l.length) (hl : l.length ≤ 1048576) : Ev (fun k => spec_l02Least.f k l) (lo l) := by
 unfold spec_l02Least.f
 simp only [if_pos (show 0 < (l.length : Int) by omega)]
 have e0 : rd_T42 l 0 = at_ l 0 := rd_at l 0
 rw [e0]
 refine ev_fold (fun k (s : Int × Int) j => spec_l02Least.l0 k l s.1 s.2 j) l (fun s c => (mn s.1 c.f0, mn s.2 c.f1)) some _ (fun _ _ => True) ?_ ?_ 1 (by omega) ((at_ l 0).f0, (at_ l 0).f1) trivial ?_
 ·intro k s j hj hm _
  refine ⟨?_, trivial⟩
  simp only [spec_l02Least.l0, rd_at]; rw [if_pos (by omega), if_pos (by omega), w64 (x := (j : Int) + 1) (by omega) (by omega)]; rfl
 ·intro k s _
  simp only [spec_l02Least.l0]; rw [if_neg (by omega)]
 ·rw [foldl_pair (fun s c => mn s c.f0) (fun s c => mn s c.f1), lo_drop l h]; rfl
theorem specMove_ev (l : List C) (a b : Int) (hl : l.length ≤ 1048576) : Ev (fun k => spec_l02Move.f k l a b) (movL a b l) := by
 unfold spec_l02Move.f
 refine ev_fold (fun k (s : List C) j => spec_l02Move.l0 k l a b s j) l (fun s c => s ++ [movC a b c]) some _ (fun j s => s.length = j) ?_ ?_ 0 (by omega) [] rfl ?_
 ·intro k s j hj hm hs
  refine ⟨?_, by simp [hs]⟩
  simp only [spec_l02Move.l0, rd_at]; rw [if_pos (by omega), if_pos (by omega), if_pos (by omega), w64 (x := (j : Int) + 1) (by omega) (by omega)]; rfl
 ·intro k s _
  simp only [spec_l02Move.l0]; rw [if_neg (by omega)]
 ·rw [List.drop_zero, foldl_append_map]; rfl
theorem specNorm_ev (l : List C) (h : 0 < l.length) (hl : l.length ≤ 1048576) : Ev (fun k => spec_l02Normal.f k l) (normL l) := by
 obtain ⟨K, h1, h2⟩ := ev2 (least_ev l h hl) (specMove_ev l (wrap64 (-(lo l).1)) (wrap64 (-(lo l).2)) hl)
 refine ⟨K, fun k hk => ?_⟩
 obtain ⟨n, rfl⟩ : ∃ n, k = K + n := ⟨k - K, by omega⟩
 simp only [spec_l02Normal.f, h1, h2, Option.bind_some]; rfl
theorem corner_ev (l : List C) (h : 0 < l.length) (hl : l.length ≤ 1048576) : Ev (fun k => impl_corner.f k l) (lo l) := by
 unfold impl_corner.f
 simp only [if_pos (show 0 < (l.length : Int) by omega)]
 have e0 : rd_T42 l 0 = at_ l 0 := rd_at l 0
 rw [e0]
 refine ev_fold (fun k (s : Int × Int) j => impl_corner.l0 k l (l.length : Int) j s.1 s.2) l (fun s c => (mn s.1 c.f0, mn s.2 c.f1)) some _ (fun _ _ => True) ?_ ?_ 0 (by omega) ((at_ l 0).f0, (at_ l 0).f1) trivial ?_
 ·intro k s j hj hm _
  refine ⟨?_, trivial⟩
  simp only [impl_corner.l0, rd_at]; rw [if_pos (by omega), if_pos (by omega), if_pos (by omega), w64 (x := (j : Int) + 1) (by omega) (by omega)]; rfl
 ·intro k s _
  simp only [impl_corner.l0]; rw [if_neg (by omega)]
 ·rw [List.drop_zero, foldl_pair (fun s c => mn s c.f0) (fun s c => mn s c.f1)]; rfl
theorem implMove_ev (l : List C) (a b : Int) (hl : l.length ≤ 1048576) : Ev (fun k => impl_moved.f k l a b) (movL a b l) := by
 unfold impl_moved.f
 simp only [if_pos (show 0 ≤ (l.length : Int) by omega), if_pos (show ((l.length : Int)).toNat ≤ 17592186044416 by omega)]
 refine ev_fold (fun k (s : List C) j => impl_moved.l0 k a b s l (l.length : Int) j) l (fun s c => s ++ [movC a b c]) some _ (fun j s => s.length = j) ?_ ?_ 0 (by omega) [] rfl ?_
 ·intro k s j hj hm hs
  refine ⟨?_, by simp [hs]⟩
  simp only [impl_moved.l0, rd_at]; rw [if_pos (by omega), if_pos (by omega), if_pos (by omega), if_pos (by omega), w64 (x := (j : Int) + 1) (by omega) (by omega)]; rfl
 ·intro k s _
  simp only [impl_moved.l0]; rw [if_neg (by omega)]
 ·rw [List.drop_zero, foldl_append_map]; rfl
theorem implNorm_ev (l : List C) (h : 0 < l.length) (hl : l.length ≤ 1048576) : Ev (fun k => impl_normal.f k l) (normL l) := by
 obtain ⟨K, h1, h2⟩ := ev2 (corner_ev l h hl) (implMove_ev l (wrap64 (-(lo l).1)) (wrap64 (-(lo l).2)) hl)
 refine ⟨K, fun k hk => ?_⟩
 obtain ⟨n, rfl⟩ : ∃ n, k = K + n := ⟨k - K, by omega⟩
 simp only [impl_normal.f, h1, h2, Option.bind_some]; rfl
def insP (c : C) : List C → List C
 | [] => [c]
 | x :: r => if ltC c x then c :: x :: r else x :: insP c r
def sortP (l : List C) : List C := l.foldl (fun s c => insP c s) []
theorem insP_length (c : C) (l : List C) : (insP c l).length = l.length + 1 := by
 induction l with
 | nil => rfl
 | cons x r ih => unfold insP; split <;> simp [ih]
theorem insP_perm (c : C) (l : List C) : (insP c l).Perm (c :: l) := by
 induction l with
 | nil => exact List.Perm.refl _
 | cons x r ih =>
  unfold insP
  split
  ·exact List.Perm.refl _
  ·exact (ih.cons x).trans (List.Perm.swap c x r)
theorem foldl_insP_perm : ∀ (l s : List C), (l.foldl (fun s c => insP c s) s).Perm (s ++ l) := by
 intro l
 induction l with
 | nil => intro s; simp
 | cons c r ih =>
  intro s
  rw [List.foldl_cons]
  refine (ih _).trans ?_
  refine ((insP_perm c s).append_right r).trans ?_
  exact (List.perm_middle).symm
theorem sortP_perm (l : List C) : (sortP l).Perm l := by
 have := foldl_insP_perm l []
 rwa [List.nil_append] at this
theorem sortP_length (l : List C) : (sortP l).length = l.length := (sortP_perm l).length_eq
theorem mem_sortP {l : List C} {c : C} : c ∈ sortP l ↔ c ∈ l := (sortP_perm l).mem_iff
def leC (a b : C) : Prop := ¬ ltC b a
theorem leC_trans {a b c : C} (h : leC a b) (g : leC b c) : leC a c := by unfold leC ltC at *; omega
theorem leC_total (a b : C) : leC a b ∨ leC b a := by unfold leC ltC; omega
theorem leC_anti {a b : C} (h : leC a b) (g : leC b a) : a = b := by
 unfold leC ltC at *
 have e0 : a.f0 = b.f0 := by omega
 have e1 : a.f1 = b.f1 := by omega
 cases a; cases b; cases e0; cases e1; rfl
theorem ltC_le {a b : C} (h : ltC a b) : leC a b := by unfold leC ltC at *; omega
theorem insP_sorted (c : C) (l : List C) (h : l.Pairwise leC) : (insP c l).Pairwise leC := by
 induction l with
 | nil => simp [insP]
 | cons x r ih =>
  rw [List.pairwise_cons] at h
  unfold insP
  by_cases hc : ltC c x
  ·rw [if_pos hc, List.pairwise_cons]
   refine ⟨fun y hy => ?_, List.pairwise_cons.2 h⟩
   rcases List.mem_cons.1 hy with rfl | hy
   ·exact ltC_le hc
   ·exact leC_trans (ltC_le hc) (h.1 y hy)
  ·rw [if_neg hc, List.pairwise_cons]
   refine ⟨fun y hy => ?_, ih h.2⟩
   rcases List.mem_cons.1 ((insP_perm c r).mem_iff.1 hy) with rfl | hy
   ·exact hc
   ·exact h.1 y hy
theorem sortP_sorted (l : List C) : (sortP l).Pairwise leC := by
 have : ∀ (l s : List C), s.Pairwise leC → (l.foldl (fun s c => insP c s) s).Pairwise leC := by
  intro l
  induction l with
  | nil => intro s h; exact h
  | cons c r ih => intro s h; exact ih _ (insP_sorted c s h)
 exact this l [] List.Pairwise.nil
theorem sorted_unique {l m : List C} (hl : l.Pairwise leC) (hm : m.Pairwise leC) (hp : l.Perm m) : l = m :=
 List.Perm.eq_of_pairwise (le := leC) (fun _ _ _ _ h1 h2 => leC_anti h1 h2) hl hm hp
theorem sortP_of_sorted {l : List C} (h : l.Pairwise leC) : sortP l = l := sorted_unique (sortP_sorted l) h (sortP_perm l)
theorem Sh.sorted {l : List C} (h : Sh l) : l.Pairwise leC := by
 rw [List.pairwise_iff_getElem]
 intro i j hi hj hij
 have := h.lt i j hij hj
 rw [at_get l i hi, at_get l j hj] at this
 exact ltC_le this
theorem ev_foldE {σ β : Type} (F : Nat → σ → Int → Option β) (l : List C) (g : σ → C → σ) (inv : Nat → σ → Prop)
  (step : ∀ s (j : Nat), j < l.length → at_ l j ∈ l → inv j s → inv (j + 1) (g s (at_ l j)) ∧ ∀ r, Ev (fun k => F k (g s (at_ l j)) ((j + 1 : Nat) : Int)) r → Ev (fun k => F k s (j : Nat)) r)
  (r : β) (j0 : Nat) (hj0 : j0 ≤ l.length) (s0 : σ) (h0 : inv j0 s0) (hr : inv l.length ((l.drop j0).foldl g s0) → Ev (fun k => F k ((l.drop j0).foldl g s0) (l.length : Nat)) r) : Ev (fun k => F k s0 (j0 : Nat)) r := by
 have key : ∀ d j : Nat, j + d = l.length → ∀ s, inv j s → (inv l.length ((l.drop j).foldl g s) → Ev (fun k => F k ((l.drop j).foldl g s) (l.length : Nat)) r) → Ev (fun k => F k s (j : Nat)) r := by
  intro d
  induction d with
  | zero =>
   intro j hj s hs hr
   obtain rfl : j = l.length := by omega
   rw [List.drop_length] at hr
   exact hr hs
  | succ d ih =>
   intro j hj s hs hr
   have h : j < l.length := by omega
   obtain ⟨h1, h2⟩ := step s j h (at_mem l j h) hs
   refine h2 r (ih (j + 1) (by omega) _ h1 ?_)
   rw [drop_at l j h] at hr; exact hr
 exact key (l.length - j0) j0 (by omega) s0 h0 hr
theorem ins_loop (l : List C) (x y : Int) (hl : l.length ≤ 1048576) : ∀ d j : Nat, j + d = l.length → ∀ acc : List C, acc.length ≤ j + 1 →
  Ev (fun k => spec_l02Insert.l0 k l acc true (j : Nat) x y) (acc ++ l.drop j) ∧ (acc.length ≤ j → Ev (fun k => spec_l02Insert.l0 k l acc false (j : Nat) x y) (acc ++ insP ⟨x, y⟩ (l.drop j))) := by
 intro d
 induction d with
 | zero =>
  intro j hj acc ha
  obtain rfl : j = l.length := by omega
  rw [List.drop_length]
  refine ⟨?_, fun _ => ?_⟩
  ·refine Ev.step (fun k => ?_) (Ev.now _)
   simp only [spec_l02Insert.l0, if_true, List.append_nil]; rw [if_neg (by omega)]
  ·refine Ev.step (fun k => ?_) (Ev.now _)
   simp only [spec_l02Insert.l0, insP, Bool.false_eq_true, if_false]; rw [if_neg (by omega), if_pos (by omega)]
 | succ d ih =>
  intro j hj acc ha
  have hjl : j < l.length := by omega
  rw [drop_at l j hjl]
  have ej : wrap64 ((j : Int) + 1) = ((j + 1 : Nat) : Int) := by rw [w64 (by omega) (by omega)]; rfl
  refine ⟨?_, fun hb => ?_⟩
  ·have g := (ih (j + 1) (by omega) (acc ++ [at_ l j]) (by simp; omega)).1
   rw [List.append_assoc] at g
   refine Ev.step (fun k => ?_) g
   simp only [spec_l02Insert.l0, rd_at, if_true]
   rw [if_pos (by omega), if_pos (by omega), if_pos (by omega), ej]
  ·by_cases c : ltC ⟨x, y⟩ (at_ l j)
   ·have c' : ltC ⟨x, y⟩ ⟨(at_ l j).f0, (at_ l j).f1⟩ := c
    have g := (ih (j + 1) (by omega) ((acc ++ [⟨x, y⟩]) ++ [at_ l j]) (by simp; omega)).1
    unfold insP
    rw [if_pos c]
    rw [List.append_assoc, List.append_assoc] at g
    refine Ev.step (fun k => ?_) g
    simp only [spec_l02Insert.l0, rd_at, less_eq, Option.bind_some, Bool.false_eq_true, if_false, decide_eq_true c', if_true]
    rw [if_pos (by omega), if_pos (by omega), if_pos (by omega), if_pos (by simp; omega), ej, List.append_assoc]
   ·have c' : ¬ ltC ⟨x, y⟩ ⟨(at_ l j).f0, (at_ l j).f1⟩ := c
    have g := (ih (j + 1) (by omega) (acc ++ [at_ l j]) (by simp; omega)).2 (by simp; omega)
    unfold insP
    rw [if_neg c]
    rw [List.append_assoc] at g
    refine Ev.step (fun k => ?_) g
    simp only [spec_l02Insert.l0, rd_at, less_eq, Option.bind_some, Bool.false_eq_true, if_false, decide_eq_false c']
    rw [if_pos (by omega), if_pos (by omega), if_pos (by omega), ej]
theorem specIns_ev (l : List C) (x y : Int) (hl : l.length ≤ 1048576) : Ev (fun k => spec_l02Insert.f k l x y) (insP ⟨x, y⟩ l) :=
 (ins_loop l x y hl l.length 0 (by omega) [] (by simp)).2 (by simp)
theorem specSort_ev (l : List C) (hl : l.length ≤ 1048570) : Ev (fun k => spec_l02Sort.f k l) (sortP l) := by
 unfold spec_l02Sort.f
 refine ev_foldE (fun k s j => spec_l02Sort.l0 k l s j) l (fun s c => insP c s) (fun j s => s.length = j) ?_ _ 0 (by omega) [] rfl ?_
 ·intro s j hj hm hs
  refine ⟨by rw [insP_length]; omega, fun r hr => ?_⟩
  refine Ev.step (f := fun k => (spec_l02Insert.f k s (at_ l j).f0 (at_ l j).f1).bind fun t => spec_l02Sort.l0 k l t ((j + 1 : Nat) : Int)) (fun k => ?_) ?_
  ·simp only [spec_l02Sort.l0, rd_at]; rw [if_pos (by omega), if_pos (by omega), w64 (by omega) (by omega)]; rfl
  ·exact Ev.bind (f := fun k t => spec_l02Sort.l0 k l t ((j + 1 : Nat) : Int)) (specIns_ev s _ _ (by omega)) hr
 ·intro hs
  refine Ev.step (fun k => ?_) (Ev.now _)
  simp only [spec_l02Sort.l0]; rw [if_neg (by omega)]; rfl
theorem merge_sortP (l : List C) : l.mergeSort (fun x y => !ltbC_ y x) = sortP l := by
 have e : (fun x y : C => !ltbC_ y x) = fun x y => @decide (leC x y) (Classical.propDecidable _) := by
  funext x y
  by_cases h : ltC y x
  ·have h1 : ltbC_ y x = true := by unfold ltbC_; exact decide_eq_true h
   rw [h1]; exact (@decide_eq_false (leC x y) (Classical.propDecidable _) (fun g => g h)).symm
  ·have h1 : ltbC_ y x = false := by unfold ltbC_; exact decide_eq_false h
   rw [h1]; exact (@decide_eq_true (leC x y) (Classical.propDecidable _) h).symm
 refine sorted_unique ?_ (sortP_sorted l) ((List.mergeSort_perm _ _).trans (sortP_perm l).symm)
 rw [e]
 have h := List.pairwise_mergeSort (le := fun x y : C => @decide (leC x y) (Classical.propDecidable _)) (fun a b c h1 h2 => @decide_eq_true _ (Classical.propDecidable _) (leC_trans (@of_decide_eq_true _ (Classical.propDecidable _) h1) (@of_decide_eq_true _ (Classical.propDecidable _) h2)))
  (fun a b => by
   rcases leC_total a b with g | g
   ·rw [@decide_eq_true _ (Classical.propDecidable _) g]; rfl
   ·rw [@decide_eq_true _ (Classical.propDecidable (leC b a)) g, Bool.or_true]) l
 exact h.imp fun g => @of_decide_eq_true _ (Classical.propDecidable _) g
theorem implSort_eq (l : List C) (hl : l.length ≤ 1048576) : impl_sorted.f l = some (sortP l) := by
 unfold impl_sorted.f slices_Clone_Cell.f
 rw [if_pos (by omega)]
 simp only [Option.bind_some, slices_SortFunc_Cell.f]
 rw [if_pos (by omega), Option.bind_some, merge_sortP]
def ixF : Nat → List C → Int → Int → Int
 | _, [], _, _ => -1
 | j, c :: r, x, y => if c.f0 = x ∧ c.f1 = y then (j : Int) else ixF (j + 1) r x y
theorem ixF_mem (x y : Int) : ∀ (r : List C) (j : Nat), 0 ≤ ixF j r x y ↔ (⟨x, y⟩ : C) ∈ r := by
 intro r
 induction r with
 | nil => intro j; simp [ixF]
 | cons c r ih =>
  intro j
  unfold ixF
  by_cases h : c.f0 = x ∧ c.f1 = y
  ·rw [if_pos h]
   constructor
   ·intro _; obtain ⟨rfl, rfl⟩ := h; exact List.mem_cons_self
   ·intro _; omega
  ·rw [if_neg h, ih (j + 1), List.mem_cons]
   constructor
   ·exact fun g => Or.inr g
   ·rintro (g | g)
    ·exact absurd (by rw [← g]; exact ⟨rfl, rfl⟩) h
    ·exact g
def hasC (l : List C) (x y : Int) : Bool := decide (0 ≤ ixF 0 l x y)
theorem hasC_iff (l : List C) (x y : Int) : hasC l x y = true ↔ (⟨x, y⟩ : C) ∈ l := by unfold hasC; rw [decide_eq_true_eq]; exact ixF_mem x y l 0
theorem hasC_true {l : List C} {x y : Int} (h : (⟨x, y⟩ : C) ∈ l) : hasC l x y = true := (hasC_iff l x y).2 h
theorem hasC_false {l : List C} {x y : Int} (h : ¬ (⟨x, y⟩ : C) ∈ l) : hasC l x y = false := by
 cases e : hasC l x y with
 | false => rfl
 | true => exact absurd ((hasC_iff l x y).1 e) h
def nbrs (c : C) : List C := [⟨c.f0, c.f1 - 1⟩, ⟨c.f0 - 1, c.f1⟩, ⟨c.f0 + 1, c.f1⟩, ⟨c.f0, c.f1 + 1⟩]
def nbStep (l s : List C) (d : C) : List C := if hasC l d.f0 d.f1 = true then s else if hasC s d.f0 d.f1 = true then s else insP d s
def nbP (l : List C) : List C := l.foldl (fun s c => (nbrs c).foldl (nbStep l) s) []
theorem insP_strict {d : C} {s : List C} (h : s.Pairwise ltC) (hd : ¬ d ∈ s) : (insP d s).Pairwise ltC := by
 induction s with
 | nil => simp [insP]
 | cons x r ih =>
  rw [List.pairwise_cons] at h
  unfold insP
  by_cases hc : ltC d x
  ·rw [if_pos hc, List.pairwise_cons]
   refine ⟨fun y hy => ?_, List.pairwise_cons.2 h⟩
   rcases List.mem_cons.1 hy with rfl | hy
   ·exact hc
   ·exact ltC_trans hc (h.1 y hy)
  ·rw [if_neg hc, List.pairwise_cons]
   refine ⟨fun y hy => ?_, ih h.2 fun g => hd (List.mem_cons_of_mem _ g)⟩
   rcases List.mem_cons.1 ((insP_perm d r).mem_iff.1 hy) with rfl | hy
   ·have hne : x ≠ y := fun e => hd (by rw [e]; exact List.mem_cons_self)
    have : leC x y := hc
    by_cases g : ltC x y
    ·exact g
    ·exact absurd (leC_anti this g) hne
   ·exact h.1 y hy
theorem nbStep_ok (l s : List C) (d : C) (h : s.Pairwise ltC) : (nbStep l s d).Pairwise ltC ∧ (∀ c, c ∈ nbStep l s d ↔ c ∈ s ∨ (c = d ∧ ¬ c ∈ l)) ∧ (nbStep l s d).length ≤ s.length + 1 := by
 unfold nbStep
 by_cases h1 : hasC l d.f0 d.f1 = true
 ·rw [if_pos h1]
  have hm : d ∈ l := (hasC_iff l d.f0 d.f1).1 h1
  exact ⟨h, fun c => ⟨Or.inl, fun g => g.elim id fun g => absurd (by rw [g.1]; exact hm) g.2⟩, by omega⟩
 ·rw [if_neg h1]
  have hm : ¬ d ∈ l := fun g => h1 ((hasC_iff l d.f0 d.f1).2 g)
  by_cases h2 : hasC s d.f0 d.f1 = true
  ·rw [if_pos h2]
   have hs : d ∈ s := (hasC_iff s d.f0 d.f1).1 h2
   exact ⟨h, fun c => ⟨Or.inl, fun g => g.elim id fun g => by rw [g.1]; exact hs⟩, by omega⟩
  ·rw [if_neg h2]
   have hs : ¬ d ∈ s := fun g => h2 ((hasC_iff s d.f0 d.f1).2 g)
   refine ⟨insP_strict h hs, fun c => ?_, by rw [insP_length]; omega⟩
   rw [(insP_perm d s).mem_iff, List.mem_cons]
   constructor
   ·rintro (rfl | g)
    ·exact Or.inr ⟨rfl, hm⟩
    ·exact Or.inl g
   ·rintro (g | g)
    ·exact Or.inr g
    ·exact Or.inl g.1
theorem nbFold_ok (l : List C) : ∀ (D s : List C), s.Pairwise ltC → (D.foldl (nbStep l) s).Pairwise ltC ∧ (∀ c, c ∈ D.foldl (nbStep l) s ↔ c ∈ s ∨ (c ∈ D ∧ ¬ c ∈ l)) ∧ (D.foldl (nbStep l) s).length ≤ s.length + D.length := by
 intro D
 induction D with
 | nil => intro s h; exact ⟨h, fun c => by simp, by simp⟩
 | cons d r ih =>
  intro s h
  obtain ⟨a1, a2, a3⟩ := nbStep_ok l s d h
  obtain ⟨b1, b2, b3⟩ := ih _ a1
  rw [List.foldl_cons]
  refine ⟨b1, fun c => ?_, by rw [List.length_cons]; omega⟩
  rw [b2, a2, List.mem_cons]
  constructor
  ·rintro ((g | g) | g)
   ·exact Or.inl g
   ·exact Or.inr ⟨Or.inl g.1, g.2⟩
   ·exact Or.inr ⟨Or.inr g.1, g.2⟩
  ·rintro (g | ⟨g | g, k⟩)
   ·exact Or.inl (Or.inl g)
   ·exact Or.inl (Or.inr ⟨g, k⟩)
   ·exact Or.inr ⟨g, k⟩
theorem nbOuter_ok (l : List C) : ∀ (m s : List C), s.Pairwise ltC → (m.foldl (fun s c => (nbrs c).foldl (nbStep l) s) s).Pairwise ltC ∧ (∀ c, c ∈ m.foldl (fun s c => (nbrs c).foldl (nbStep l) s) s ↔ c ∈ s ∨ ((∃ d ∈ m, c ∈ nbrs d) ∧ ¬ c ∈ l)) ∧ (m.foldl (fun s c => (nbrs c).foldl (nbStep l) s) s).length ≤ s.length + 4 * m.length := by
 intro m
 induction m with
 | nil => intro s h; exact ⟨h, fun c => by simp, by simp⟩
 | cons d r ih =>
  intro s h
  obtain ⟨a1, a2, a3⟩ := nbFold_ok l (nbrs d) s h
  obtain ⟨b1, b2, b3⟩ := ih _ a1
  rw [List.foldl_cons]
  refine ⟨b1, fun c => ?_, ?_⟩
  ·rw [b2, a2]
   constructor
   ·rintro ((g | g) | ⟨⟨e, he, g⟩, k⟩)
    ·exact Or.inl g
    ·exact Or.inr ⟨⟨d, List.mem_cons_self, g.1⟩, g.2⟩
    ·exact Or.inr ⟨⟨e, List.mem_cons_of_mem _ he, g⟩, k⟩
   ·rintro (g | ⟨⟨e, he, g⟩, k⟩)
    ·exact Or.inl (Or.inl g)
    ·rcases List.mem_cons.1 he with rfl | he
     ·exact Or.inl (Or.inr ⟨g, k⟩)
     ·exact Or.inr ⟨⟨e, he, g⟩, k⟩
  ·have : (nbrs d).length = 4 := rfl
   rw [List.length_cons]; omega
theorem nbP_strict (l : List C) : (nbP l).Pairwise ltC := (nbOuter_ok l l [] List.Pairwise.nil).1
theorem nbP_mem (l : List C) (c : C) : c ∈ nbP l ↔ (∃ d ∈ l, c ∈ nbrs d) ∧ ¬ c ∈ l := by
 rw [show nbP l = l.foldl (fun s c => (nbrs c).foldl (nbStep l) s) [] from rfl, (nbOuter_ok l l [] List.Pairwise.nil).2.1]; simp
theorem nbP_length (l : List C) : (nbP l).length ≤ 4 * l.length := by
 have := (nbOuter_ok l l [] List.Pairwise.nil).2.2
 simp only [List.length_nil, Nat.zero_add] at this
 exact this
theorem strict_unique {l m : List C} (hl : l.Pairwise ltC) (hm : m.Pairwise ltC) (h : ∀ c, c ∈ l ↔ c ∈ m) : l = m := by
 have n1 : l.Nodup := hl.imp fun h e => by rw [e] at h; exact ltC_irrefl h
 have n2 : m.Nodup := hm.imp fun h e => by rw [e] at h; exact ltC_irrefl h
 exact sorted_unique (hl.imp ltC_le) (hm.imp ltC_le) ((List.perm_ext_iff_of_nodup n1 n2).2 h)
def Wi (b : Int) (l : List C) : Prop := ∀ c ∈ l, -b ≤ c.f0 ∧ c.f0 ≤ b ∧ -b ≤ c.f1 ∧ c.f1 ≤ b
theorem nbrs_mem {c d : C} : c ∈ nbrs d ↔ (c.f0 = d.f0 ∧ (c.f1 = d.f1 - 1 ∨ c.f1 = d.f1 + 1)) ∨ (c.f1 = d.f1 ∧ (c.f0 = d.f0 - 1 ∨ c.f0 = d.f0 + 1)) := by
 have ext : ∀ x y : Int, c = (⟨x, y⟩ : C) ↔ c.f0 = x ∧ c.f1 = y := fun x y => ⟨fun e => by rw [e]; exact ⟨rfl, rfl⟩, fun e => by cases c; cases e.1; cases e.2; rfl⟩
 unfold nbrs
 simp only [List.mem_cons, List.not_mem_nil, or_false, ext]
 omega
theorem nbP_wi {b : Int} {l : List C} (h : Wi b l) : Wi (b + 1) (nbP l) := by
 intro c hc
 obtain ⟨⟨d, hd, hn⟩, _⟩ := (nbP_mem l c).1 hc
 have := h d hd
 rw [nbrs_mem] at hn
 omega
theorem specIx_loop (l : List C) (x y : Int) (hl : l.length ≤ 1048576) : ∀ d j : Nat, j + d = l.length → Ev (fun k => spec_l02Index.l0 k l (j : Nat) x y) (ixF j (l.drop j) x y) := by
 intro d
 induction d with
 | zero =>
  intro j hj
  obtain rfl : j = l.length := by omega
  rw [List.drop_length]
  refine Ev.step (fun k => ?_) (Ev.now _)
  simp only [spec_l02Index.l0, ixF]; rw [if_neg (by omega)]
 | succ d ih =>
  intro j hj
  rw [drop_at l j (by omega)]
  have e : ∀ k, spec_l02Index.l0 (k + 1) l (j : Nat) x y = if (at_ l j).f0 = x ∧ (at_ l j).f1 = y then some (j : Int) else spec_l02Index.l0 k l ((j + 1 : Nat) : Int) x y := by
   intro k
   simp only [spec_l02Index.l0, rd_at, Bool.and_eq_true, beq_iff_eq]
   rw [if_pos (by omega), if_pos (by omega), w64 (by omega) (by omega)]; rfl
  unfold ixF
  by_cases c : (at_ l j).f0 = x ∧ (at_ l j).f1 = y
  ·rw [if_pos c]; exact Ev.step (f := fun _ => some (j : Int)) (fun k => (e k).trans (if_pos c)) (Ev.now _)
  ·rw [if_neg c]; exact Ev.step (fun k => (e k).trans (if_neg c)) (ih (j + 1) (by omega))
theorem specIx_ev (l : List C) (x y : Int) (hl : l.length ≤ 1048576) : Ev (fun k => spec_l02Index.f k l x y) (ixF 0 l x y) :=
 specIx_loop l x y hl l.length 0 (by omega)
theorem nb_l1 (l : List C) (hl : l.length ≤ 100000) (i : Int) (ds : List C) (h4 : ds.length = 4) (r : List C) : ∀ d j : Nat, j + d = 4 → ∀ s : List C, s.length + d ≤ 1000000 →
  Ev (fun k => spec_l02Neighbours.l0 k l ((ds.drop j).foldl (nbStep l) s) (wrap64 (i + 1))) r → Ev (fun k => spec_l02Neighbours.l1 k l s i ds (j : Nat)) r := by
 intro d
 induction d with
 | zero =>
  intro j hj s _ g
  obtain rfl : j = 4 := by omega
  rw [show ds.drop 4 = [] from List.drop_eq_nil_of_le (by omega)] at g
  refine Ev.step (fun k => ?_) g
  simp only [spec_l02Neighbours.l1]; rw [if_neg (by omega)]; rfl
 | succ d ih =>
  intro j hj s hs g
  have hjl : j < ds.length := by omega
  rw [drop_at ds j hjl, List.foldl_cons] at g
  have e : ∀ k, spec_l02Neighbours.l1 (k + 1) l s i ds (j : Nat) = (spec_l02Index.f k l (at_ ds j).f0 (at_ ds j).f1).bind fun t => if t < 0 then ((spec_l02Index.f k s (at_ ds j).f0 (at_ ds j).f1).bind fun t => if t < 0 then ((spec_l02Insert.f k s (at_ ds j).f0 (at_ ds j).f1).bind fun t => spec_l02Neighbours.l1 k l t i ds ((j + 1 : Nat) : Int)) else spec_l02Neighbours.l1 k l s i ds ((j + 1 : Nat) : Int)) else spec_l02Neighbours.l1 k l s i ds ((j + 1 : Nat) : Int) := by
   intro k
   simp only [spec_l02Neighbours.l1, rd_at]; rw [if_pos (by omega), if_pos (by omega), if_pos (by omega), w64 (x := (j : Int) + 1) (by omega) (by omega)]; rfl
  refine Ev.step e ?_
  refine Ev.bind (f := fun k t => if t < 0 then ((spec_l02Index.f k s (at_ ds j).f0 (at_ ds j).f1).bind fun t => if t < 0 then ((spec_l02Insert.f k s (at_ ds j).f0 (at_ ds j).f1).bind fun t => spec_l02Neighbours.l1 k l t i ds ((j + 1 : Nat) : Int)) else spec_l02Neighbours.l1 k l s i ds ((j + 1 : Nat) : Int)) else spec_l02Neighbours.l1 k l s i ds ((j + 1 : Nat) : Int)) (specIx_ev l _ _ (by omega)) ?_
  by_cases c1 : 0 ≤ ixF 0 l (at_ ds j).f0 (at_ ds j).f1
  ·have hh : hasC l (at_ ds j).f0 (at_ ds j).f1 = true := decide_eq_true c1
   simp only [if_neg (show ¬ ixF 0 l (at_ ds j).f0 (at_ ds j).f1 < 0 by omega)]
   have e2 : nbStep l s (at_ ds j) = s := by unfold nbStep; rw [if_pos hh]
   rw [e2] at g
   exact ih (j + 1) (by omega) s (by omega) g
  ·have hh : ¬ hasC l (at_ ds j).f0 (at_ ds j).f1 = true := by unfold hasC; rw [decide_eq_true_eq]; exact c1
   simp only [if_pos (show ixF 0 l (at_ ds j).f0 (at_ ds j).f1 < 0 by omega)]
   refine Ev.bind (f := fun k t => if t < 0 then ((spec_l02Insert.f k s (at_ ds j).f0 (at_ ds j).f1).bind fun t => spec_l02Neighbours.l1 k l t i ds ((j + 1 : Nat) : Int)) else spec_l02Neighbours.l1 k l s i ds ((j + 1 : Nat) : Int)) (specIx_ev s _ _ (by omega)) ?_
   by_cases c2 : 0 ≤ ixF 0 s (at_ ds j).f0 (at_ ds j).f1
   ·have h2 : hasC s (at_ ds j).f0 (at_ ds j).f1 = true := decide_eq_true c2
    simp only [if_neg (show ¬ ixF 0 s (at_ ds j).f0 (at_ ds j).f1 < 0 by omega)]
    have e2 : nbStep l s (at_ ds j) = s := by unfold nbStep; rw [if_neg hh, if_pos h2]
    rw [e2] at g
    exact ih (j + 1) (by omega) s (by omega) g
   ·have h2 : ¬ hasC s (at_ ds j).f0 (at_ ds j).f1 = true := by unfold hasC; rw [decide_eq_true_eq]; exact c2
    simp only [if_pos (show ixF 0 s (at_ ds j).f0 (at_ ds j).f1 < 0 by omega)]
    have e2 : nbStep l s (at_ ds j) = insP (at_ ds j) s := by unfold nbStep; rw [if_neg hh, if_neg h2]
    rw [e2] at g
    refine Ev.bind (f := fun k t => spec_l02Neighbours.l1 k l t i ds ((j + 1 : Nat) : Int)) (specIns_ev s _ _ (by omega)) ?_
    exact ih (j + 1) (by omega) _ (by rw [insP_length]; omega) g
theorem specNb_ev (l : List C) (hl : l.length ≤ 10000) (hw : Wi 1000000 l) : Ev (fun k => spec_l02Neighbours.f k l) (nbP l) := by
 unfold spec_l02Neighbours.f
 refine ev_foldE (fun k s j => spec_l02Neighbours.l0 k l s j) l (fun s c => (nbrs c).foldl (nbStep l) s) (fun j s => s.Pairwise ltC ∧ s.length ≤ 4 * j) ?_ _ 0 (by omega) [] ⟨List.Pairwise.nil, by simp⟩ ?_
 ·intro s j hj hm ⟨hs1, hs2⟩
  obtain ⟨a1, _, a3⟩ := nbFold_ok l (nbrs (at_ l j)) s hs1
  have a4 : (nbrs (at_ l j)).length = 4 := rfl
  refine ⟨⟨a1, by omega⟩, fun r hr => ?_⟩
  have w := hw _ hm
  refine Ev.step (f := fun k => spec_l02Neighbours.l1 k l s (j : Nat) (nbrs (at_ l j)) ((0 : Nat) : Int)) (fun k => ?_) ?_
  ·simp only [spec_l02Neighbours.l0, rd_at, spec_l02Around.f, Option.bind_some]
   rw [if_pos (by omega), if_pos (by omega), w64 (x := (at_ l j).f1 - 1) (by omega) (by omega), w64 (x := (at_ l j).f0 - 1) (by omega) (by omega), w64 (x := (at_ l j).f0 + 1) (by omega) (by omega), w64 (x := (at_ l j).f1 + 1) (by omega) (by omega)]; rfl
  ·refine nb_l1 l (by omega) _ _ rfl r 4 0 (by omega) s (by omega) ?_
   rw [w64 (by omega) (by omega)]
   exact hr
 ·intro hs
  refine Ev.step (fun k => ?_) (Ev.now _)
  simp only [spec_l02Neighbours.l0]; rw [if_neg (by omega)]; rfl
theorem implIx_loop (l : List C) (x y : Int) (hl : l.length ≤ 1048576) : ∀ d j : Nat, j + d = l.length → Ev (fun k => slices_Index_Cell.l0 k l (l.length : Int) (j : Nat) x y) (ixF j (l.drop j) x y) := by
 intro d
 induction d with
 | zero =>
  intro j hj
  obtain rfl : j = l.length := by omega
  rw [List.drop_length]
  refine Ev.step (fun k => ?_) (Ev.now _)
  simp only [slices_Index_Cell.l0, ixF]; rw [if_neg (by omega)]
 | succ d ih =>
  intro j hj
  rw [drop_at l j (by omega)]
  have e : ∀ k, slices_Index_Cell.l0 (k + 1) l (l.length : Int) (j : Nat) x y = if (at_ l j).f0 = x ∧ (at_ l j).f1 = y then some (j : Int) else slices_Index_Cell.l0 k l (l.length : Int) ((j + 1 : Nat) : Int) x y := by
   intro k
   simp only [slices_Index_Cell.l0, rd_at, Bool.and_eq_true, beq_iff_eq]
   rw [if_pos (by omega), if_pos (by omega), if_pos (by omega), w64 (by omega) (by omega)]
   by_cases c : (at_ l j).f0 = x ∧ (at_ l j).f1 = y
   ·rw [if_pos c, if_pos ⟨c.1.symm, c.2.symm⟩]
   ·rw [if_neg c, if_neg (fun g => c ⟨g.1.symm, g.2.symm⟩)]; rfl
  unfold ixF
  by_cases c : (at_ l j).f0 = x ∧ (at_ l j).f1 = y
  ·rw [if_pos c]; exact Ev.step (f := fun _ => some (j : Int)) (fun k => (e k).trans (if_pos c)) (Ev.now _)
  ·rw [if_neg c]; exact Ev.step (fun k => (e k).trans (if_neg c)) (ih (j + 1) (by omega))
theorem contains_ev (l : List C) (x y : Int) (hl : l.length ≤ 1048576) : Ev (fun k => slices_Contains_Cell.f k l x y) (hasC l x y) := by
 unfold slices_Contains_Cell.f
 exact Ev.bind (f := fun _ t => some (decide (t ≥ 0))) (implIx_loop l x y hl l.length 0 (by omega)) (Ev.now _)
def outs (l : List C) (m : List C) : List C := (m.flatMap nbrs).filter fun d => !hasC l d.f0 d.f1
theorem bes_l1 (l : List C) (hl : l.length ≤ 10000) (i : Int) (ds : List C) (h4 : ds.length = 4) (r : List C) : ∀ d j : Nat, j + d = 4 → ∀ s : List C, s.length + d ≤ 1000000 →
  Ev (fun k => impl_beside.l0 k l (s ++ (ds.drop j).filter fun d => !hasC l d.f0 d.f1) l (l.length : Int) (wrap64 (i + 1))) r → Ev (fun k => impl_beside.l1 k l s l (l.length : Int) i ds (ds.length : Int) (j : Nat)) r := by
 intro d
 induction d with
 | zero =>
  intro j hj s _ g
  obtain rfl : j = 4 := by omega
  rw [show ds.drop 4 = [] from List.drop_eq_nil_of_le (by omega), List.filter_nil, List.append_nil] at g
  refine Ev.step (fun k => ?_) g
  simp only [impl_beside.l1]; rw [if_neg (by omega)]
 | succ d ih =>
  intro j hj s hs g
  have hjl : j < ds.length := by omega
  rw [drop_at ds j hjl] at g
  refine Ev.step (f := fun k => (slices_Contains_Cell.f k l (at_ ds j).f0 (at_ ds j).f1).bind fun t => if t = true then impl_beside.l1 k l s l (l.length : Int) i ds (ds.length : Int) ((j + 1 : Nat) : Int) else impl_beside.l1 k l (s ++ [at_ ds j]) l (l.length : Int) i ds (ds.length : Int) ((j + 1 : Nat) : Int)) (fun k => ?_) ?_
  ·simp only [impl_beside.l1, rd_at]; rw [if_pos (by omega), if_pos (by omega), if_pos (by omega), w64 (x := (j : Int) + 1) (by omega) (by omega)]
   congr 1; funext t
   by_cases ht : t = true
   ·rw [if_pos ht, if_pos ht]; rfl
   ·rw [if_neg ht, if_neg ht, if_pos (by omega)]; rfl
  ·refine Ev.bind (f := fun k t => if t = true then impl_beside.l1 k l s l (l.length : Int) i ds (ds.length : Int) ((j + 1 : Nat) : Int) else impl_beside.l1 k l (s ++ [at_ ds j]) l (l.length : Int) i ds (ds.length : Int) ((j + 1 : Nat) : Int)) (contains_ev l _ _ (by omega)) ?_
   cases hh : hasC l (at_ ds j).f0 (at_ ds j).f1
   ·simp only [Bool.false_eq_true, if_false]
    refine ih (j + 1) (by omega) (s ++ [at_ ds j]) (by simp; omega) ?_
    rw [List.filter_cons, hh] at g
    simp only [Bool.not_false, if_true] at g
    rw [List.append_assoc]; exact g
   ·simp only [if_true]
    refine ih (j + 1) (by omega) s (by omega) ?_
    rw [List.filter_cons, hh] at g
    simp only [Bool.not_true, Bool.false_eq_true, if_false] at g
    exact g
theorem ddN_ok (l : List C) (hs : l.Pairwise leC) : ∀ i, i ≤ l.length → (ddN_ l i).Pairwise ltC ∧ (∀ c, c ∈ ddN_ l i ↔ c ∈ l.take i) := by
 intro i
 induction i with
 | zero => intro _; exact ⟨List.Pairwise.nil, fun c => by simp [ddN_]⟩
 | succ i ih =>
  intro hi
  obtain ⟨h1, h2⟩ := ih (by omega)
  have htk : l.take (i + 1) = l.take i ++ [at_ l i] := by
   rw [List.take_add_one, List.getElem?_eq_getElem (by omega), at_get l i (by omega)]; rfl
  have hle : ∀ c ∈ l.take i, leC c (at_ l i) := by
   have hq : (l.take (i + 1)).Pairwise leC := hs.sublist (List.take_sublist _ _)
   rw [htk, List.pairwise_append] at hq
   exact fun c hc => hq.2.2 c hc _ (by simp)
  have same : ∀ a b : C, sameC_ a b = true ↔ a = b := by
   intro a b
   unfold sameC_
   rw [Bool.and_eq_true, beq_iff_eq, beq_iff_eq]
   exact ⟨fun h => by cases a; cases b; cases h.1; cases h.2; rfl, fun h => by rw [h]; exact ⟨rfl, rfl⟩⟩
  show (if i ≠ 0 ∧ sameC_ (rd_T42 l (i : Nat)) (rd_T42 l ((i - 1 : Nat) : Int)) = true then ddN_ l i else ddN_ l i ++ [rd_T42 l (i : Nat)]).Pairwise ltC ∧ ∀ c, c ∈ (if i ≠ 0 ∧ sameC_ (rd_T42 l (i : Nat)) (rd_T42 l ((i - 1 : Nat) : Int)) = true then ddN_ l i else ddN_ l i ++ [rd_T42 l (i : Nat)]) ↔ c ∈ l.take (i + 1)
  rw [rd_at, rd_at, htk]
  by_cases hc : i ≠ 0 ∧ sameC_ (at_ l i) (at_ l (i - 1)) = true
  ·rw [if_pos hc]
   have e := (same _ _).1 hc.2
   have hm : at_ l i ∈ l.take i := by
    rw [e, List.mem_take_iff_getElem]
    exact ⟨i - 1, by omega, (at_get l (i - 1) (by omega)).symm⟩
   refine ⟨h1, fun c => ?_⟩
   rw [h2, List.mem_append, List.mem_singleton]
   exact ⟨Or.inl, fun g => g.elim id fun g => by rw [g]; exact hm⟩
  ·rw [if_neg hc]
   have hni : ¬ at_ l i ∈ l.take i := by
    intro hm
    -- the last one of the first i is between
    have h0 : i ≠ 0 := fun h => by rw [h] at hm; simp at hm
    have hl1 : leC (at_ l i) (at_ l (i - 1)) := by
     obtain ⟨n, hn, e⟩ := List.mem_take_iff_getElem.1 hm
     rw [← e]
     by_cases g : n = i - 1
     ·subst g; rw [at_get l _ (by omega)]; unfold leC; exact fun h => ltC_irrefl h
     ·have := (List.pairwise_iff_getElem.1 hs) n (i - 1) (by omega) (by omega) (by omega)
      rw [at_get l (i - 1) (by omega)]; exact this
    have hl2 : leC (at_ l (i - 1)) (at_ l i) := hle _ (by rw [List.mem_take_iff_getElem]; exact ⟨i - 1, by omega, (at_get l (i - 1) (by omega)).symm⟩)
    exact hc ⟨h0, (same _ _).2 (leC_anti hl1 hl2)⟩
   refine ⟨?_, fun c => ?_⟩
   ·rw [List.pairwise_append]
    refine ⟨h1, List.pairwise_singleton _ _, fun a ha b hb => ?_⟩
    rw [List.mem_singleton] at hb
    subst hb
    have ha2 := (h2 a).1 ha
    by_cases g : ltC a (at_ l i)
    ·exact g
    ·exact absurd (by rw [← leC_anti (hle a ha2) g]; exact ha2) hni
   ·rw [List.mem_append, h2, List.mem_append]
theorem implBeside_ev (l : List C) (hs : Sh l) : Ev (fun k => impl_beside.f k l) (nbP l) := by
 have h40 := hs.2.1
 have hl : l.length ≤ 10000 := by omega
 have key : ∀ (m s : List C), s ++ outs l m = s ++ outs l m := fun _ _ => rfl
 unfold impl_beside.f
 refine ev_foldE (fun k s j => impl_beside.l0 k l s l (l.length : Int) j) l (fun s c => s ++ (nbrs c).filter fun d => !hasC l d.f0 d.f1) (fun j s => s.length ≤ 4 * j) ?_ _ 0 (by omega) [] (by simp) ?_
 ·intro s j hj hm hsl
  have a4 : (nbrs (at_ l j)).length = 4 := rfl
  have a5 := List.length_filter_le (fun d : C => !hasC l d.f0 d.f1) (nbrs (at_ l j))
  refine ⟨by rw [List.length_append]; omega, fun r hr => ?_⟩
  have w := hs.ok hm
  unfold okC at w
  refine Ev.step (f := fun k => impl_beside.l1 k l s l (l.length : Int) (j : Nat) (nbrs (at_ l j)) ((nbrs (at_ l j)).length : Int) ((0 : Nat) : Int)) (fun k => ?_) ?_
  ·simp only [impl_beside.l0, rd_at, impl_around.f, Option.bind_some]
   rw [if_pos (by omega), if_pos (by omega), if_pos (by omega), w64 (x := (at_ l j).f1 - 1) (by omega) (by omega), w64 (x := (at_ l j).f0 - 1) (by omega) (by omega), w64 (x := (at_ l j).f0 + 1) (by omega) (by omega), w64 (x := (at_ l j).f1 + 1) (by omega) (by omega)]; rfl
  ·refine bes_l1 l hl _ _ rfl r 4 0 (by omega) s (by omega) ?_
   rw [w64 (by omega) (by omega)]
   exact hr
 ·intro hlen
  rw [List.drop_zero] at hlen ⊢
  have hf : ∀ (m s : List C), m.foldl (fun s c => s ++ (nbrs c).filter fun d => !hasC l d.f0 d.f1) s = s ++ outs l m := by
   intro m
   induction m with
   | nil => intro s; simp [outs]
   | cons c r ih => intro s; rw [List.foldl_cons, ih, List.append_assoc]; unfold outs; rw [List.flatMap_cons, List.filter_append]
  rw [hf, List.nil_append] at hlen ⊢
  have hsl := sortP_length (outs l l)
  refine Ev.step (f := fun _ => some (nbP l)) (fun k => ?_) (Ev.now _)
  simp only [impl_beside.l0, slices_SortFunc_Cell.f, slices_Compact_Cell.f]
  rw [if_neg (by omega), if_pos (by omega), Option.bind_some, Option.bind_some, merge_sortP]
  congr 1
  obtain ⟨d1, d2⟩ := ddN_ok (sortP (outs l l)) (sortP_sorted _) (sortP (outs l l)).length (Nat.le_refl _)
  refine strict_unique d1 (nbP_strict l) fun c => ?_
  rw [d2, List.take_length, mem_sortP, nbP_mem]
  unfold outs
  rw [List.mem_filter, List.mem_flatMap]
  constructor
  ·rintro ⟨h, g⟩
   refine ⟨h, fun k => ?_⟩
   rw [hasC_true (l := l) (x := c.f0) (y := c.f1) k] at g
   simp at g
  ·rintro ⟨h, g⟩
   exact ⟨h, by rw [hasC_false (l := l) (x := c.f0) (y := c.f1) g]; rfl⟩
def cmpL : List C → List C → Int
 | a :: r, b :: s => if ltC a b then -1 else if ltC b a then 1 else cmpL r s
 | _, _ => 0
def cmpS (l m : List C) : Int := if l.length = m.length then cmpL l m else if l.length < m.length then -1 else 1
theorem specCmp_loop (l m : List C) (hl : l.length ≤ 1048576) (hm : l.length = m.length) : ∀ d j : Nat, j + d = l.length → Ev (fun k => spec_CompareShapes.l0 k l m (j : Nat)) (cmpL (l.drop j) (m.drop j)) := by
 intro d
 induction d with
 | zero =>
  intro j hj
  obtain rfl : j = l.length := by omega
  rw [List.drop_length]
  refine Ev.step (fun k => ?_) (Ev.now _)
  simp only [spec_CompareShapes.l0, cmpL]; rw [if_neg (by omega)]
 | succ d ih =>
  intro j hj
  rw [drop_at l j (by omega), drop_at m j (by omega)]
  have e : ∀ k, spec_CompareShapes.l0 (k + 1) l m (j : Nat) = if ltC (at_ l j) (at_ m j) then some (-1) else if ltC (at_ m j) (at_ l j) then some 1 else spec_CompareShapes.l0 k l m ((j + 1 : Nat) : Int) := by
   intro k
   simp only [spec_CompareShapes.l0, rd_at, less_eq, Option.bind_some, decide_eq_true_eq]
   rw [if_pos (by omega), if_pos (by omega), if_pos (by omega), w64 (by omega) (by omega)]; rfl
  by_cases c1 : ltC (at_ l j) (at_ m j)
  ·refine Ev.step (fun k => (e k).trans (if_pos c1)) ?_
   simp only [cmpL, if_pos c1]; exact Ev.now _
  ·by_cases c2 : ltC (at_ m j) (at_ l j)
   ·refine Ev.step (fun k => (e k).trans ((if_neg c1).trans (if_pos c2))) ?_
    simp only [cmpL, if_neg c1, if_pos c2]; exact Ev.now _
   ·refine Ev.step (fun k => (e k).trans ((if_neg c1).trans (if_neg c2))) ?_
    simp only [cmpL, if_neg c1, if_neg c2]; exact ih (j + 1) (by omega)
theorem specCmp_ev (l m : List C) (hl : l.length ≤ 1048576) : Ev (fun k => spec_CompareShapes.f k l m) (cmpS l m) := by
 unfold spec_CompareShapes.f cmpS
 by_cases h : l.length = m.length
 ·simp only [if_pos h, if_pos (show (l.length : Int) = (m.length : Int) by omega)]
  exact specCmp_loop l m hl h l.length 0 (by omega)
 ·simp only [if_neg h, if_neg (show ¬ (l.length : Int) = (m.length : Int) by omega)]
  by_cases g : l.length < m.length
  ·simp only [if_pos g, if_pos (show (l.length : Int) < (m.length : Int) by omega)]; exact Ev.now _
  ·simp only [if_neg g, if_neg (show ¬ (l.length : Int) < (m.length : Int) by omega)]; exact Ev.now _
theorem cmpL_range (a : List C) : ∀ b, cmpL a b = -1 ∨ cmpL a b = 0 ∨ cmpL a b = 1 := by
 induction a with
 | nil => intro b; exact Or.inr (Or.inl rfl)
 | cons x r ih =>
  intro b
  cases b with
  | nil => exact Or.inr (Or.inl rfl)
  | cons y s =>
   simp only [cmpL]
   split
   ·exact Or.inl rfl
   ·split
    ·exact Or.inr (Or.inr rfl)
    ·exact ih s
theorem cmpL_zero (a : List C) : ∀ b, a.length = b.length → (cmpL a b = 0 ↔ a = b) := by
 induction a with
 | nil =>
  intro b h
  have : b = [] := List.length_eq_zero_iff.1 (by simpa using h.symm)
  rw [this]; exact ⟨fun _ => rfl, fun _ => rfl⟩
 | cons x r ih =>
  intro b h
  cases b with
  | nil => simp at h
  | cons y s =>
   simp only [cmpL]
   have hl : r.length = s.length := by simpa using h
   by_cases c1 : ltC x y
   ·rw [if_pos c1]
    exact ⟨fun g => by omega, fun g => by rw [(List.cons.inj g).1] at c1; exact absurd c1 (fun h => ltC_irrefl h)⟩
   ·rw [if_neg c1]
    by_cases c2 : ltC y x
    ·rw [if_pos c2]
     exact ⟨fun g => by omega, fun g => by rw [(List.cons.inj g).1] at c2; exact absurd c2 (fun h => ltC_irrefl h)⟩
    ·rw [if_neg c2, ih s hl]
     have e : x = y := leC_anti (show leC x y from c2) (show leC y x from c1)
     rw [e]
     exact ⟨fun g => by rw [g], fun g => (List.cons.inj g).2⟩
theorem cmpL_neg (a : List C) : ∀ b, cmpL b a = -cmpL a b := by
 induction a with
 | nil => intro b; cases b <;> rfl
 | cons x r ih =>
  intro b
  cases b with
  | nil => rfl
  | cons y s =>
   simp only [cmpL]
   by_cases c1 : ltC x y
   ·have c2 : ¬ ltC y x := fun g => ltC_irrefl (ltC_trans c1 g)
    rw [if_pos c1, if_neg c2, if_pos c1]; rfl
   ·rw [if_neg c1]
    by_cases c2 : ltC y x
    ·rw [if_pos c2, if_neg c1, if_pos c2]
    ·rw [if_neg c2, if_neg c2, if_neg c1]; exact ih s
theorem cmpL_trans (a : List C) : ∀ b c, a.length = b.length → b.length = c.length → cmpL a b = -1 → cmpL b c = -1 → cmpL a c = -1 := by
 induction a with
 | nil => intro b c _ _ h; simp [cmpL] at h
 | cons x r ih =>
  intro b c h1 h2 g1 g2
  cases b with
  | nil => simp at h1
  | cons y s =>
   cases c with
   | nil => simp at h2
   | cons z t =>
    simp only [cmpL] at g1 g2 ⊢
    by_cases c1 : ltC x y
    ·by_cases c2 : ltC y z
     ·rw [if_pos (ltC_trans c1 c2)]
     ·rw [if_neg c2] at g2
      by_cases c3 : ltC z y
      ·rw [if_pos c3] at g2; omega
      ·have e : y = z := leC_anti (show leC y z from c3) (show leC z y from c2)
       rw [← e, if_pos c1]
    ·rw [if_neg c1] at g1
     by_cases c3 : ltC y x
     ·rw [if_pos c3] at g1; omega
     ·have e : x = y := leC_anti (show leC x y from c3) (show leC y x from c1)
      rw [if_neg c3] at g1
      rw [e]
      by_cases c2 : ltC y z
      ·rw [if_pos c2]
      ·rw [if_neg c2] at g2 ⊢
       by_cases c4 : ltC z y
       ·rw [if_pos c4] at g2; omega
       ·rw [if_neg c4] at g2 ⊢
        exact ih s t (by simpa using h1) (by simpa using h2) g1 g2
theorem cmpS_range (a b : List C) : cmpS a b = -1 ∨ cmpS a b = 0 ∨ cmpS a b = 1 := by
 unfold cmpS
 split
 ·exact cmpL_range a b
 ·split
  ·exact Or.inl rfl
  ·exact Or.inr (Or.inr rfl)
theorem cmpS_zero (a b : List C) : cmpS a b = 0 ↔ a = b := by
 unfold cmpS
 by_cases h : a.length = b.length
 ·rw [if_pos h]; exact cmpL_zero a b h
 ·rw [if_neg h]
  refine ⟨fun g => ?_, fun g => absurd (by rw [g]) h⟩
  split at g <;> omega
theorem cmpS_neg (a b : List C) : cmpS b a = -cmpS a b := by
 unfold cmpS
 by_cases h : a.length = b.length
 ·rw [if_pos h, if_pos h.symm]; exact cmpL_neg a b
 ·rw [if_neg h, if_neg (fun g => h g.symm)]
  by_cases g : a.length < b.length
  ·rw [if_pos g, if_neg (by omega)]; rfl
  ·rw [if_neg g, if_pos (by omega)]
def ltS (a b : List C) : Prop := cmpS a b = -1
theorem ltS_trans {a b c : List C} (h : ltS a b) (g : ltS b c) : ltS a c := by
 unfold ltS cmpS at *
 by_cases h1 : a.length = b.length
 ·by_cases h2 : b.length = c.length
  ·rw [if_pos h1] at h; rw [if_pos h2] at g; rw [if_pos (h1.trans h2)]
   exact cmpL_trans a b c h1 h2 h g
  ·rw [if_neg h2] at g
   rw [if_neg (by omega)]
   by_cases g2 : b.length < c.length
   ·rw [if_pos (by omega)]
   ·rw [if_neg g2] at g; omega
 ·rw [if_neg h1] at h
  by_cases g1 : a.length < b.length
  ·by_cases h2 : b.length = c.length
   ·rw [if_neg (by omega), if_pos (by omega)]
   ·rw [if_neg h2] at g
    by_cases g2 : b.length < c.length
    ·rw [if_neg (by omega), if_pos (by omega)]
    ·rw [if_neg g2] at g; omega
  ·rw [if_neg g1] at h; omega
theorem ltS_irrefl {a : List C} (h : ltS a a) : False := by
 unfold ltS at h
 rw [(cmpS_zero a a).2 rfl] at h; omega
theorem ltS_tri (a b : List C) : ltS a b ∨ a = b ∨ ltS b a := by
 rcases cmpS_range a b with h | h | h
 ·exact Or.inl h
 ·exact Or.inr (Or.inl ((cmpS_zero a b).1 h))
 ·refine Or.inr (Or.inr ?_)
  unfold ltS; rw [cmpS_neg, h]
theorem cmpS_pos (a b : List C) : cmpS a b = 1 ↔ ltS b a := by
 unfold ltS; rw [cmpS_neg a b]; omega
theorem ltS_unique {l m : List (List C)} (hl : l.Pairwise ltS) (hm : m.Pairwise ltS) (h : ∀ s, s ∈ l ↔ s ∈ m) : l = m := by
 have n1 : l.Nodup := hl.imp fun h e => by rw [e] at h; exact ltS_irrefl h
 have n2 : m.Nodup := hm.imp fun h e => by rw [e] at h; exact ltS_irrefl h
 exact List.Perm.eq_of_pairwise (le := ltS) (fun a b _ _ h1 h2 => (ltS_irrefl (ltS_trans h1 h2)).elim) hl hm ((List.perm_ext_iff_of_nodup n1 n2).2 h)
def ro_ (l : List (List C)) (j : Nat) : List C := l.getD j []
theorem rd_ro (l : List (List C)) (j : Nat) : rd_L3 l (j : Int) = ro_ l j := by unfold rd_L3 ro_; rw [Int.toNat_natCast]
theorem ro_get (l : List (List C)) (j : Nat) (h : j < l.length) : ro_ l j = l[j] := by unfold ro_; rw [List.getD_eq_getElem?_getD, List.getElem?_eq_getElem h]; rfl
theorem ro_mem (l : List (List C)) (j : Nat) (h : j < l.length) : ro_ l j ∈ l := by rw [ro_get l j h]; exact List.getElem_mem h
theorem drop_ro (l : List (List C)) (j : Nat) (h : j < l.length) : l.drop j = ro_ l j :: l.drop (j + 1) := by rw [ro_get l j h, List.drop_eq_getElem_cons h]
theorem take_ro (l : List (List C)) (j : Nat) (h : j < l.length) : l.take (j + 1) = l.take j ++ [ro_ l j] := by rw [ro_get l j h, List.take_succ_eq_append_getElem h]
def insS (s : List C) : List (List C) → List (List C)
 | [] => [s]
 | x :: r => if cmpS s x = 0 then x :: r else if cmpS s x < 0 then s :: x :: r else x :: insS s r
theorem insS_mem (s t : List C) (l : List (List C)) : t ∈ insS s l ↔ t = s ∨ t ∈ l := by
 induction l with
 | nil => simp [insS]
 | cons x r ih =>
  unfold insS
  by_cases h : cmpS s x = 0
  ·rw [if_pos h]
   have e := (cmpS_zero s x).1 h
   constructor
   ·exact fun g => Or.inr g
   ·rintro (g | g)
    ·rw [g, e]; exact List.mem_cons_self
    ·exact g
  ·rw [if_neg h]
   by_cases g : cmpS s x < 0
   ·rw [if_pos g, List.mem_cons]
   ·rw [if_neg g, List.mem_cons, ih, List.mem_cons]
    constructor
    ·rintro (a | a | a)
     ·exact Or.inr (Or.inl a)
     ·exact Or.inl a
     ·exact Or.inr (Or.inr a)
    ·rintro (a | a | a)
     ·exact Or.inr (Or.inl a)
     ·exact Or.inl a
     ·exact Or.inr (Or.inr a)
theorem cmpS_neg_lt {a b : List C} (h : cmpS a b < 0) : ltS a b := by
 unfold ltS; rcases cmpS_range a b with g | g | g <;> omega
theorem insS_sorted (s : List C) (l : List (List C)) (h : l.Pairwise ltS) : (insS s l).Pairwise ltS := by
 induction l with
 | nil => exact List.pairwise_singleton _ _
 | cons x r ih =>
  obtain ⟨h1, h2⟩ := List.pairwise_cons.1 h
  unfold insS
  by_cases c : cmpS s x = 0
  ·rw [if_pos c]; exact h
  ·rw [if_neg c]
   by_cases g : cmpS s x < 0
   ·rw [if_pos g]
    refine List.pairwise_cons.2 ⟨fun t ht => ?_, h⟩
    have e := cmpS_neg_lt g
    rcases List.mem_cons.1 ht with rfl | ht
    ·exact e
    ·exact ltS_trans e (h1 t ht)
   ·rw [if_neg g]
    refine List.pairwise_cons.2 ⟨fun t ht => ?_, ih h2⟩
    rcases (insS_mem s t r).1 ht with rfl | ht
    ·exact (cmpS_pos t x).1 (by rcases cmpS_range t x with g1 | g1 | g1 <;> omega)
    ·exact h1 t ht
theorem insS_length (s : List C) (l : List (List C)) : (insS s l).length ≤ l.length + 1 := by
 induction l with
 | nil => simp [insS]
 | cons x r ih =>
  unfold insS
  repeat' split
  all_goals simp only [List.length_cons]; omega
theorem add_done (l : List (List C)) (s : List C) (hl : l.length ≤ 1000000) (hs : s.length ≤ 1048576) : ∀ d j : Nat, j + d = l.length → (∀ x ∈ l.drop j, ltS s x) → ∀ out : List (List C), out.length ≤ j + 1 → Ev (fun k => spec_l03Add.l0 k l s out true (j : Nat)) (out ++ l.drop j) := by
 intro d
 induction d with
 | zero =>
  intro j hj _ out ho
  obtain rfl : j = l.length := by omega
  rw [List.drop_length, List.append_nil]
  refine Ev.step (fun k => ?_) (Ev.now _)
  simp only [spec_l03Add.l0]; rw [if_neg (by omega), if_pos trivial]
 | succ d ih =>
  intro j hj hx out ho
  rw [drop_ro l j (by omega)] at hx ⊢
  have e1 := hx _ List.mem_cons_self
  unfold ltS at e1
  have g := ih (j + 1) (by omega) (fun x h => hx x (List.mem_cons_of_mem _ h)) (out ++ [ro_ l j]) (by rw [List.length_append, List.length_singleton]; omega)
  rw [List.append_assoc] at g
  refine Ev.step (f := fun k => (spec_CompareShapes.f k s (ro_ l j)).bind fun t => if t = 0 then some l else if t < 0 then spec_l03Add.l0 k l s (out ++ [ro_ l j]) true ((j + 1 : Nat) : Int) else spec_l03Add.l0 k l s (out ++ [ro_ l j]) true ((j + 1 : Nat) : Int)) (fun k => ?_) ?_
  ·simp only [spec_l03Add.l0, rd_ro, if_true]
   rw [if_pos (by omega), if_pos (by omega), if_pos (by omega), w64 (by omega) (by omega)]; rfl
  ·refine Ev.bind (f := fun k t => if t = 0 then some l else if t < 0 then spec_l03Add.l0 k l s (out ++ [ro_ l j]) true ((j + 1 : Nat) : Int) else spec_l03Add.l0 k l s (out ++ [ro_ l j]) true ((j + 1 : Nat) : Int)) (specCmp_ev s (ro_ l j) hs) ?_
   rw [e1]; simp only [if_neg (show ¬ (-1 : Int) = 0 by decide), if_pos (show (-1 : Int) < 0 by decide)]
   exact g
theorem add_open (l : List (List C)) (s : List C) (hp : l.Pairwise ltS) (hl : l.length ≤ 1000000) (hs : s.length ≤ 1048576) : ∀ d j : Nat, j + d = l.length → Ev (fun k => spec_l03Add.l0 k l s (l.take j) false (j : Nat)) (l.take j ++ insS s (l.drop j)) := by
 intro d
 induction d with
 | zero =>
  intro j hj
  obtain rfl : j = l.length := by omega
  rw [List.drop_length, List.take_length]
  refine Ev.step (fun k => ?_) (Ev.now _)
  simp only [spec_l03Add.l0, Bool.false_eq_true, if_false]; rw [if_neg (by omega), if_pos (by omega)]; rfl
 | succ d ih =>
  intro j hj
  have hd := drop_ro l j (by omega)
  have ht := take_ro l j (by omega)
  have hlt : (l.take j).length = j := by rw [List.length_take]; omega
  have hsrt := hp.sublist (List.drop_sublist j l)
  rw [hd] at hsrt ⊢
  obtain ⟨s1, s2⟩ := List.pairwise_cons.1 hsrt
  refine Ev.step (f := fun k => (spec_CompareShapes.f k s (ro_ l j)).bind fun t => if t = 0 then some l else if t < 0 then spec_l03Add.l0 k l s ((l.take j ++ [s]) ++ [ro_ l j]) true ((j + 1 : Nat) : Int) else spec_l03Add.l0 k l s (l.take (j + 1)) false ((j + 1 : Nat) : Int)) (fun k => ?_) ?_
  ·simp only [spec_l03Add.l0, rd_ro, Bool.false_eq_true, if_false, Option.bind_some]
   rw [if_pos (by omega), if_pos (by omega), if_pos (by omega), if_pos (by rw [List.length_append, List.length_singleton]; omega), if_pos (show (l.take j).length < 5864062014805 by omega), w64 (by omega) (by omega), ht]; rfl
  ·refine Ev.bind (f := fun k t => if t = 0 then some l else if t < 0 then spec_l03Add.l0 k l s ((l.take j ++ [s]) ++ [ro_ l j]) true ((j + 1 : Nat) : Int) else spec_l03Add.l0 k l s (l.take (j + 1)) false ((j + 1 : Nat) : Int)) (specCmp_ev s (ro_ l j) hs) ?_
   unfold insS
   by_cases c : cmpS s (ro_ l j) = 0
   ·simp only [if_pos c]
    rw [← hd, List.take_append_drop]; exact Ev.now _
   ·simp only [if_neg c]
    by_cases g : cmpS s (ro_ l j) < 0
    ·simp only [if_pos g]
     have h := add_done l s hl hs d (j + 1) (by omega) (fun x hx => ltS_trans (cmpS_neg_lt g) (s1 x hx)) ((l.take j ++ [s]) ++ [ro_ l j]) (by simp only [List.length_append, List.length_singleton, hlt]; omega)
     have e : l.take j ++ [s] ++ [ro_ l j] ++ l.drop (j + 1) = l.take j ++ s :: ro_ l j :: l.drop (j + 1) := by simp
     rw [e] at h; exact h
    ·simp only [if_neg g]
     have h := ih (j + 1) (by omega)
     rw [ht] at h ⊢
     have e : l.take j ++ [ro_ l j] ++ insS s (l.drop (j + 1)) = l.take j ++ ro_ l j :: insS s (l.drop (j + 1)) := by simp
     rw [e] at h; exact h
theorem add_ev (l : List (List C)) (s : List C) (hp : l.Pairwise ltS) (hl : l.length ≤ 1000000) (hs : s.length ≤ 1048576) : Ev (fun k => spec_l03Add.f k l s) (insS s l) := by
 have h := add_open l s hp hl hs l.length 0 (by omega)
 rw [List.take_zero, List.drop_zero, List.nil_append] at h
 exact h
def tidyP (l : List (List C)) : List (List C) := l.foldl (fun a s => insS s a) []
theorem foldl_ins (l : List (List C)) : ∀ a : List (List C), a.Pairwise ltS → (l.foldl (fun a s => insS s a) a).Pairwise ltS ∧ (∀ t, t ∈ l.foldl (fun a s => insS s a) a ↔ t ∈ a ∨ t ∈ l) ∧ (l.foldl (fun a s => insS s a) a).length ≤ a.length + l.length := by
 induction l with
 | nil => intro a h; exact ⟨h, fun t => by simp, by simp⟩
 | cons s r ih =>
  intro a h
  obtain ⟨h1, h2, h3⟩ := ih (insS s a) (insS_sorted s a h)
  refine ⟨h1, fun t => ?_, ?_⟩
  ·rw [List.foldl_cons, h2, insS_mem, List.mem_cons]
   constructor
   ·rintro ((h | h) | h)
    ·exact Or.inr (Or.inl h)
    ·exact Or.inl h
    ·exact Or.inr (Or.inr h)
   ·rintro (h | h | h)
    ·exact Or.inl (Or.inr h)
    ·exact Or.inl (Or.inl h)
    ·exact Or.inr h
  ·have := insS_length s a
   rw [List.foldl_cons, List.length_cons]; omega
theorem tidyP_sorted (l : List (List C)) : (tidyP l).Pairwise ltS := (foldl_ins l [] List.Pairwise.nil).1
theorem tidyP_mem (l : List (List C)) (t : List C) : t ∈ tidyP l ↔ t ∈ l := by
 refine ((foldl_ins l [] List.Pairwise.nil).2.1 t).trans ?_
 simp
theorem tidyP_length (l : List (List C)) : (tidyP l).length ≤ l.length := by
 have h := (foldl_ins l [] List.Pairwise.nil).2.2
 rw [List.length_nil, Nat.zero_add] at h; exact h
theorem tidyP_unique {l m : List (List C)} (hm : m.Pairwise ltS) (h : ∀ t, t ∈ m ↔ t ∈ l) : m = tidyP l :=
 ltS_unique hm (tidyP_sorted l) fun t => (h t).trans (tidyP_mem l t).symm
theorem tidyP_congr {l m : List (List C)} (h : ∀ t, t ∈ l ↔ t ∈ m) : tidyP l = tidyP m :=
 tidyP_unique (tidyP_sorted l) fun t => (tidyP_mem l t).trans (h t)
theorem cfL_cmpL (a : List C) : ∀ b : List C, cfL_ a b = cmpL a b := by
 induction a with
 | nil => intro b; cases b <;> rfl
 | cons x r ih =>
  intro b
  cases b with
  | nil => rfl
  | cons y s =>
   have e1 : ltbC_ x y = decide (ltC x y) := rfl
   have e2 : ltbC_ y x = decide (ltC y x) := rfl
   simp only [cfL_, cmpL, cfC_, e1, e2, decide_eq_true_eq]
   by_cases c1 : ltC x y
   ·simp only [if_pos c1]; rw [if_neg (by decide)]
   ·simp only [if_neg c1]
    by_cases c2 : ltC y x
    ·simp only [if_pos c2]; rw [if_neg (by decide)]
    ·simp only [if_neg c2]; rw [if_pos trivial]; exact ih s
theorem cfS_cmpS (a b : List C) : cfS_ a b = cmpS a b := by unfold cfS_ cmpS; rw [cfL_cmpL]
def leS (a b : List C) : Prop := ¬ ltS b a
theorem cfS_lt (a b : List C) : cfS_ a b < 0 ↔ ltS a b := by
 rw [cfS_cmpS]; exact ⟨cmpS_neg_lt, fun h => by unfold ltS at h; omega⟩
theorem leS_lt {a b : List C} (h : leS a b) (hne : b ≠ a) : ltS a b := by
 rcases ltS_tri a b with g | g | g
 ·exact g
 ·exact absurd g.symm hne
 ·exact absurd g h
theorem leS_trans {a b c : List C} (h : leS a b) (g : leS b c) : leS a c := by
 intro k
 rcases ltS_tri a b with e | e | e
 ·exact g (ltS_trans k e)
 ·rw [e] at k; exact g k
 ·exact h e
theorem ltS_leS {a b : List C} (h : ltS a b) : leS a b := fun g => ltS_irrefl (ltS_trans h g)
theorem leS_ltS_trans {a b c : List C} (h : leS a b) (g : ltS b c) : ltS a c := by
 rcases ltS_tri a b with e | e | e
 ·exact ltS_trans e g
 ·rw [e]; exact g
 ·exact absurd e h
theorem sortS_perm (l : List (List C)) : (sortS_ l).Perm l := List.mergeSort_perm _ _
theorem sortS_sorted (l : List (List C)) : (sortS_ l).Pairwise leS := by
 have h := List.pairwise_mergeSort (le := fun x y : List C => !decide (cfS_ y x < 0)) (fun a b c h1 h2 => by
  simp only [Bool.not_eq_true', decide_eq_false_iff_not, cfS_lt] at *
  exact leS_trans h1 h2) (fun a b => by
  by_cases h : cfS_ b a < 0
  ·have : ¬ cfS_ a b < 0 := fun g => ltS_irrefl (ltS_trans ((cfS_lt _ _).1 h) ((cfS_lt _ _).1 g))
   simp [this]
  ·simp [h]) l
 exact h.imp fun g => by
  simp only [Bool.not_eq_true', decide_eq_false_iff_not, cfS_lt] at g
  exact g
theorem dd_spec (s : List (List C)) (hs : s.Pairwise leS) : ∀ i, i ≤ s.length → (ddS_ s i).Pairwise ltS ∧ ∀ t, t ∈ ddS_ s i ↔ t ∈ s.take i := by
 intro i
 induction i with
 | zero => intro _; exact ⟨List.Pairwise.nil, fun t => by simp [ddS_]⟩
 | succ i ih =>
  intro hi
  obtain ⟨h1, h2⟩ := ih (by omega)
  have ht := take_ro s i (by omega)
  have e0 : s.getD i [] = ro_ s i := rfl
  have e1 : s.getD (i - 1) [] = ro_ s (i - 1) := rfl
  unfold ddS_
  rw [e0, e1, cfS_cmpS, ht]
  have hle : ∀ t ∈ s.take i, leS t (ro_ s (i - 1)) ∧ leS (ro_ s (i - 1)) (ro_ s i) := by
   intro t htm
   obtain ⟨j, hj, rfl⟩ := List.mem_iff_getElem.1 htm
   rw [List.length_take] at hj
   have hpw := List.pairwise_iff_getElem.1 hs
   rw [ro_get s (i - 1) (by omega), ro_get s i (by omega), List.getElem_take]
   refine ⟨?_, hpw (i - 1) i (by omega) (by omega) (by omega)⟩
   by_cases e : j = i - 1
   ·subst e; exact fun g => ltS_irrefl g
   ·exact hpw j (i - 1) (by omega) (by omega) (by omega)
  by_cases c : i ≠ 0 ∧ cmpS (ro_ s i) (ro_ s (i - 1)) = 0
  ·rw [if_pos c]
   refine ⟨h1, fun t => ?_⟩
   rw [h2, List.mem_append, List.mem_singleton]
   constructor
   ·exact Or.inl
   ·rintro (g | g)
    ·exact g
    ·rw [g, (cmpS_zero _ _).1 c.2, ro_get s (i - 1) (by omega)]
     exact List.mem_iff_getElem.2 ⟨i - 1, by rw [List.length_take]; omega, by rw [List.getElem_take]⟩
  ·rw [if_neg c]
   refine ⟨List.pairwise_append.2 ⟨h1, List.pairwise_singleton _ _, fun a ha b hb => ?_⟩, fun t => ?_⟩
   ·rw [List.mem_singleton] at hb
    subst hb
    obtain ⟨l1, l2⟩ := hle a ((h2 a).1 ha)
    have hi0 : i ≠ 0 := by
     intro g; subst g
     have := (h2 a).1 ha
     simp at this
    exact leS_ltS_trans l1 (leS_lt l2 fun g => c ⟨hi0, (cmpS_zero _ _).2 g⟩)
   ·rw [List.mem_append, h2, List.mem_append]
theorem tidy_eq (k : Nat) (l : List (List C)) (h : l.length ≤ 1000000) : impl_tidyShapes.f k l = some (tidyP l) := by
 unfold impl_tidyShapes.f
 rw [if_pos h]
 have hl : (sortS_ l).length = l.length := (sortS_perm l).length_eq
 obtain ⟨h1, h2⟩ := dd_spec (sortS_ l) (sortS_sorted l) l.length (by omega)
 rw [← hl, List.take_length, hl] at h2
 rw [tidyP_unique h1 fun t => (h2 t).trans (sortS_perm l).mem_iff]
def rotN : Nat → Int → Int → Int × Int
 | 0, x, y => (x, y)
 | n + 1, x, y => rotN n (wrap64 (-y)) x
def trn (t x y : Int) : Int × Int := rotN (Int.tmod t 4).toNat (if t ≥ 4 then wrap64 (-x) else x) y
def trC (t : Int) (c : C) : C := ⟨(trn t c.f0 c.f1).1, (trn t c.f0 c.f1).2⟩
def formP (l : List C) (t : Int) : List C := normL (sortP (l.map (trC t)))
theorem formP_length (l : List C) (t : Int) : (formP l t).length = l.length := by unfold formP; rw [normL_length, sortP_length, List.length_map]
theorem tmod4 (t : Int) (h : 0 ≤ t) : 0 ≤ Int.tmod t 4 ∧ Int.tmod t 4 < 4 := tmod_pos h (by omega)
def addC (v c : C) : C := ⟨c.f0 + v.f0, c.f1 + v.f1⟩
theorem lo_eq {l : List C} {a b : Int} (h : 0 < l.length) (h1 : ∀ c ∈ l, a ≤ c.f0 ∧ b ≤ c.f1) (h2 : ∃ c ∈ l, c.f0 = a) (h4 : ∃ c ∈ l, c.f1 = b) : lo l = (a, b) := by
 obtain ⟨c, hc, ec⟩ := h2
 obtain ⟨d, hd, ed⟩ := h4
 obtain ⟨e, he, ee⟩ := lo_mem0 h
 obtain ⟨f, hf, ef⟩ := lo_mem1 h
 have a1 := lo_le hc
 have a2 := lo_le hd
 have a3 := h1 e he
 have a4 := h1 f hf
 have x1 : (lo l).1 = a := by omega
 have x2 : (lo l).2 = b := by omega
 rw [← x1, ← x2]
theorem lo_add (v : C) {l : List C} (h : 0 < l.length) : lo (l.map (addC v)) = ((lo l).1 + v.f0, (lo l).2 + v.f1) := by
 obtain ⟨c, hc, ec⟩ := lo_mem0 h
 obtain ⟨d, hd, ed⟩ := lo_mem1 h
 refine lo_eq (by rw [List.length_map]; exact h) (fun x hx => ?_) ⟨addC v c, List.mem_map_of_mem hc, ?_⟩ ⟨addC v d, List.mem_map_of_mem hd, ?_⟩
 ·obtain ⟨y, hy, rfl⟩ := List.mem_map.1 hx
  have := lo_le hy
  unfold addC; simp only []; omega
 ·unfold addC; simp only []; omega
 ·unfold addC; simp only []; omega
def normU (l : List C) : List C := l.map (addC ⟨-(lo l).1, -(lo l).2⟩)
theorem normU_length (l : List C) : (normU l).length = l.length := by unfold normU; rw [List.length_map]
theorem normU_lo {l : List C} (h : 0 < l.length) : lo (normU l) = (0, 0) := by
 unfold normU
 rw [lo_add _ h]
 congr 1 <;> (simp only []; omega)
theorem addC_zero (c : C) : addC ⟨0, 0⟩ c = c := by unfold addC; simp
def trI (t : Nat) (c : C) : C :=
 match t with
 | 0 => c
 | 1 => ⟨-c.f1, c.f0⟩
 | 2 => ⟨-c.f0, -c.f1⟩
 | 3 => ⟨c.f1, -c.f0⟩
 | 4 => ⟨-c.f0, c.f1⟩
 | 5 => ⟨-c.f1, -c.f0⟩
 | 6 => ⟨c.f0, -c.f1⟩
 | 7 => ⟨c.f1, c.f0⟩
 | _ => c
theorem eight {t : Nat} (h : t < 8) : t = 0 ∨ t = 1 ∨ t = 2 ∨ t = 3 ∨ t = 4 ∨ t = 5 ∨ t = 6 ∨ t = 7 := by omega
def formU (l : List C) (t : Nat) : List C := normU (sortP (l.map (trI t)))
def BD (l : List C) : Prop := ∀ c ∈ l, -1000000 ≤ c.f0 ∧ c.f0 ≤ 1000000 ∧ -1000000 ≤ c.f1 ∧ c.f1 ≤ 1000000
theorem trC_I {t : Nat} (ht : t < 8) {c : C} (h : -1000000 ≤ c.f0 ∧ c.f0 ≤ 1000000 ∧ -1000000 ≤ c.f1 ∧ c.f1 ≤ 1000000) : trC (t : Nat) c = trI t c := by
 have e : ∀ x : Int, -1000000 ≤ x → x ≤ 1000000 → wrap64 (-x) = -x := fun x h1 h2 => w64 (by omega) (by omega)
 have a0 := e c.f0 (by omega) (by omega)
 have a1 := e c.f1 (by omega) (by omega)
 have b0 : wrap64 c.f0 = c.f0 := w64 (by omega) (by omega)
 have b1 : wrap64 c.f1 = c.f1 := w64 (by omega) (by omega)
 rcases eight ht with rfl | rfl | rfl | rfl | rfl | rfl | rfl | rfl
 ·rfl
 ·show (⟨(rotN 1 c.f0 c.f1).1, (rotN 1 c.f0 c.f1).2⟩ : C) = _
  simp only [rotN, a0, a1, trI]
 ·show (⟨(rotN 2 c.f0 c.f1).1, (rotN 2 c.f0 c.f1).2⟩ : C) = _
  simp only [rotN, a0, a1, trI]
 ·show (⟨(rotN 3 c.f0 c.f1).1, (rotN 3 c.f0 c.f1).2⟩ : C) = _
  simp only [rotN, a0, a1, trI, Int.neg_neg, b1]
 ·show (⟨(rotN 0 (wrap64 (-c.f0)) c.f1).1, (rotN 0 (wrap64 (-c.f0)) c.f1).2⟩ : C) = _
  simp only [rotN, a0, trI]
 ·show (⟨(rotN 1 (wrap64 (-c.f0)) c.f1).1, (rotN 1 (wrap64 (-c.f0)) c.f1).2⟩ : C) = _
  simp only [rotN, a0, a1, trI]
 ·show (⟨(rotN 2 (wrap64 (-c.f0)) c.f1).1, (rotN 2 (wrap64 (-c.f0)) c.f1).2⟩ : C) = _
  simp only [rotN, a0, a1, trI, Int.neg_neg, b0]
 ·show (⟨(rotN 3 (wrap64 (-c.f0)) c.f1).1, (rotN 3 (wrap64 (-c.f0)) c.f1).2⟩ : C) = _
  simp only [rotN, a0, a1, trI, Int.neg_neg, b0, b1]
theorem BD_tr {l : List C} (h : BD l) {t : Nat} (ht : t < 8) : BD (l.map (trI t)) := by
 intro c hc
 obtain ⟨d, hd, rfl⟩ := List.mem_map.1 hc
 have := h d hd
 rcases eight ht with rfl | rfl | rfl | rfl | rfl | rfl | rfl | rfl <;> simp only [trI] <;> omega
theorem BD_sort {l : List C} (h : BD l) : BD (sortP l) := fun c hc => h c (mem_sortP.1 hc)
theorem normL_U {l : List C} (h : BD l) (h0 : 0 < l.length) : normL l = normU l := by
 unfold normL movL normU
 obtain ⟨d, hd, ed⟩ := lo_mem0 h0
 obtain ⟨e, he, ee⟩ := lo_mem1 h0
 have b1 := h d hd
 have b2 := h e he
 refine List.map_congr_left fun c hc => ?_
 have b3 := h c hc
 unfold movC addC
 rw [w64 (x := -(lo l).1) (by omega) (by omega), w64 (x := -(lo l).2) (by omega) (by omega), w64 (by omega) (by omega), w64 (by omega) (by omega)]
theorem formP_U {l : List C} (h : BD l) (h0 : 0 < l.length) {t : Nat} (ht : t < 8) : formP l (t : Nat) = formU l t := by
 unfold formP formU
 have e : l.map (trC (t : Nat)) = l.map (trI t) := List.map_congr_left fun c hc => trC_I ht (h c hc)
 rw [e]
 exact normL_U (BD_sort (BD_tr h ht)) (by rw [sortP_length, List.length_map]; exact h0)
theorem sh_mk {l : List C} (h1 : 1 ≤ l.length) (h2 : l.length ≤ 40) (h3 : ∀ c ∈ l, okC c) (h4 : l.Pairwise ltC) : Sh l := by
 refine ⟨h1, h2, fun i hi => h3 _ (at_mem l i hi), fun i hi => ?_⟩
 rw [at_get l i (by omega), at_get l (i + 1) hi]
 exact List.pairwise_iff_getElem.1 h4 i (i + 1) (by omega) hi (by omega)
theorem sh_lt {l : List C} (h : Sh l) : l.Pairwise ltC := by
 rw [List.pairwise_iff_getElem]
 intro i j hi hj hij
 have := h.lt i j hij hj
 rw [at_get l i hi, at_get l j hj] at this; exact this
structure GdS (n : Nat) (s : List C) : Prop where
 len : s.length = n
 sh : Sh s
 lo : lo s = (0, 0)
 hi : ∀ c ∈ s, c.f0 ≤ 2 * (n : Int) ∧ c.f1 ≤ 2 * (n : Int)
def growL (s : List C) : List (List C) := (nbP s).map fun d => normL (insP d s)
theorem growL_length (s : List C) : (growL s).length = (nbP s).length := by unfold growL; rw [List.length_map]
theorem growL_take (s : List C) (j : Nat) (h : j < (nbP s).length) : (growL s).take (j + 1) = (growL s).take j ++ [normL (insP (at_ (nbP s) j) s)] := by
 unfold growL
 rw [← List.map_take, ← List.map_take, List.take_succ_eq_append_getElem h, List.map_append, at_get _ j h]; rfl
theorem good_BD {n : Nat} {s : List C} (h : GdS n s) : BD s := fun c hc => by
 have := h.sh.ok hc
 unfold okC at this; omega
theorem good_grow {n : Nat} (hn : n ≤ 20) {s : List C} (h : GdS n s) {d : C} (hd : d ∈ nbP s) : GdS (n + 1) (normL (insP d s)) := by
 have hl := h.len
 have h0 : 0 < s.length := h.sh.1
 have hlo : ∀ c ∈ s, 0 ≤ c.f0 ∧ 0 ≤ c.f1 := fun c hc => by have := lo_le hc; rw [h.lo] at this; exact this
 have hw : Wi (2 * (n : Int)) s := fun c hc => by
  have a := h.hi c hc; have b := hlo c hc; omega
 have hwd := nbP_wi hw d hd
 have hdn : ∀ x : C, x ∈ s → True := fun _ _ => trivial
 obtain ⟨e, he, hde⟩ := ((nbP_mem s d).1 hd).1
 have hde' := nbrs_mem.1 hde
 have hae := h.hi e he
 have hbe := hlo e he
 have hd0 : -1 ≤ d.f0 ∧ d.f0 ≤ 2 * (n : Int) + 1 ∧ -1 ≤ d.f1 ∧ d.f1 ≤ 2 * (n : Int) + 1 := by omega
 have hmem : ∀ c, c ∈ insP d s ↔ c = d ∨ c ∈ s := fun c => by
  rw [(insP_perm d s).mem_iff, List.mem_cons]
 have hstrict : (insP d s).Pairwise ltC := insP_strict (sh_lt h.sh) (((nbP_mem s d).1 hd).2)
 have hsh : Sh (insP d s) := by
  refine sh_mk (by rw [insP_length]; omega) (by rw [insP_length]; omega) (fun c hc => ?_) hstrict
  rcases (hmem c).1 hc with rfl | hc
  ·unfold okC; omega
  ·exact h.sh.ok hc
 have hBD : BD (insP d s) := fun c hc => by have := hsh.ok hc; unfold okC at this; omega
 have hlen0 : 0 < (insP d s).length := hsh.1
 have hU := normL_U hBD hlen0
 have hlb : -1 ≤ (lo (insP d s)).1 ∧ (lo (insP d s)).1 ≤ 2 * (n : Int) + 1 ∧ -1 ≤ (lo (insP d s)).2 ∧ (lo (insP d s)).2 ≤ 2 * (n : Int) + 1 := by
  obtain ⟨c0, hc0, e0⟩ := lo_mem0 hlen0
  obtain ⟨c1, hc1, e1⟩ := lo_mem1 hlen0
  have b0 : -1 ≤ c0.f0 ∧ c0.f0 ≤ 2 * (n : Int) + 1 := by
   rcases (hmem c0).1 hc0 with rfl | hc
   ·omega
   ·have := hlo c0 hc; have := h.hi c0 hc; omega
  have b1 : -1 ≤ c1.f1 ∧ c1.f1 ≤ 2 * (n : Int) + 1 := by
   rcases (hmem c1).1 hc1 with rfl | hc
   ·omega
   ·have := hlo c1 hc; have := h.hi c1 hc; omega
  omega
 have hc2 : ∀ c ∈ normU (insP d s), 0 ≤ c.f0 ∧ c.f0 ≤ 2 * (n : Int) + 2 ∧ 0 ≤ c.f1 ∧ c.f1 ≤ 2 * (n : Int) + 2 := by
  intro c hc
  unfold normU at hc
  obtain ⟨x, hx, rfl⟩ := List.mem_map.1 hc
  have hxl := lo_le hx
  have hmx : (lo (insP d s)).1 ≤ 0 ∧ (lo (insP d s)).2 ≤ 0 := by
   have hz : ∃ z ∈ s, z.f0 = 0 := by
    obtain ⟨z, hz, ez⟩ := lo_mem0 h0
    rw [h.lo] at ez; exact ⟨z, hz, ez.symm⟩
   have hz2 : ∃ z ∈ s, z.f1 = 0 := by
    obtain ⟨z, hz, ez⟩ := lo_mem1 h0
    rw [h.lo] at ez; exact ⟨z, hz, ez.symm⟩
   obtain ⟨z, hz, ez⟩ := hz
   obtain ⟨y, hy, ey⟩ := hz2
   have a := lo_le ((hmem z).2 (Or.inr hz))
   have b := lo_le ((hmem y).2 (Or.inr hy))
   omega
  have bx : x.f0 ≤ 2 * (n : Int) + 1 ∧ x.f1 ≤ 2 * (n : Int) + 1 := by
   rcases (hmem x).1 hx with rfl | hxs
   ·omega
   ·have := h.hi x hxs; omega
  unfold addC
  simp only []
  omega
 rw [hU]
 refine ⟨by rw [normU_length, insP_length, hl], sh_mk (by rw [normU_length]; exact hsh.1) (by rw [normU_length]; exact hsh.2.1) (fun c hc => ?_) ?_, normU_lo hlen0, fun c hc => ?_⟩
 ·have := hc2 c hc
  unfold okC; omega
 ·unfold normU
  rw [List.pairwise_map]
  refine hstrict.imp fun {a b} hab => ?_
  unfold ltC addC at *; simp only [] at *; omega
 ·have := hc2 c hc; omega
theorem implGrown_loop (s : List C) (hs : Sh s) : ∀ d j : Nat, j + d = (nbP s).length → Ev (fun k => impl_grown.l0 k s ((growL s).take j) (nbP s) ((nbP s).length : Int) (j : Nat)) (tidyP (growL s)) := by
 have hl := nbP_length s
 have h40 := hs.2.1
 have hgl := growL_length s
 intro d
 induction d with
 | zero =>
  intro j hj
  obtain rfl : j = (nbP s).length := by omega
  have et : (growL s).take (nbP s).length = growL s := List.take_of_length_le (by omega)
  rw [et]
  refine Ev.step (fun k => ?_) (Ev.now _)
  simp only [impl_grown.l0]; rw [if_neg (by omega), tidy_eq _ _ (by omega)]; rfl
 | succ d ih =>
  intro j hj
  have g := ih (j + 1) (by omega)
  have hjl : j < (growL s).length := by omega
  have ht := growL_take s j (by omega)
  rw [ht] at g
  have hsort : impl_sorted.f (s ++ [⟨(at_ (nbP s) j).f0, (at_ (nbP s) j).f1⟩]) = some (insP (at_ (nbP s) j) s) := by
   rw [implSort_eq _ (by rw [List.length_append, List.length_singleton]; omega)]
   congr 1
   refine sorted_unique (sortP_sorted _) (insP_sorted _ _ hs.sorted) ((sortP_perm _).trans (List.Perm.trans ?_ (insP_perm _ _).symm))
   exact List.perm_append_singleton _ _
  have hclone : slices_Clone_Cell.f s = some s := by unfold slices_Clone_Cell.f; rw [if_pos (by omega)]
  have htl : ((growL s).take j).length = j := by rw [List.length_take]; omega
  refine Ev.step (f := fun k => (impl_normal.f k (insP (at_ (nbP s) j) s)).bind fun t => impl_grown.l0 k s ((growL s).take j ++ [t]) (nbP s) ((nbP s).length : Int) ((j + 1 : Nat) : Int)) (fun k => ?_) ?_
  ·simp only [impl_grown.l0, rd_at, hclone, Option.bind_some, hsort, List.length_append, List.length_singleton, List.length_nil, List.length_cons, htl]
   rw [if_pos (by omega), if_pos (by omega), if_pos (by omega), if_pos (by omega), w64 (by omega) (by omega)]
   simp only [if_pos (show j + (0 + 1) < 5864062014805 by omega)]; rfl
  ·exact Ev.bind (f := fun k t => impl_grown.l0 k s ((growL s).take j ++ [t]) (nbP s) ((nbP s).length : Int) ((j + 1 : Nat) : Int)) (implNorm_ev _ (by rw [insP_length]; omega) (by rw [insP_length]; omega)) g
theorem implGrown_ev (s : List C) (hs : Sh s) : Ev (fun k => impl_grown.f k s) (tidyP (growL s)) := by
 unfold impl_grown.f
 refine Ev.bind (f := fun k t => impl_grown.l0 k s (([] : List (List C))) t (t.length : Int) 0) (implBeside_ev s hs) ?_
 exact implGrown_loop s hs (nbP s).length 0 (by omega)
theorem specGrow_loop (s : List C) (hs : Sh s) (acc : List (List C)) (hp : acc.Pairwise ltS) (hacc : acc.length ≤ 900000) : ∀ d j : Nat, j + d = (nbP s).length → Ev (fun k => spec_l05Grow.l0 k (((growL s).take j).foldl (fun a t => insS t a) acc) s (nbP s) (j : Nat)) ((growL s).foldl (fun a t => insS t a) acc) := by
 have hl := nbP_length s
 have h40 := hs.2.1
 have hgl := growL_length s
 intro d
 induction d with
 | zero =>
  intro j hj
  obtain rfl : j = (nbP s).length := by omega
  have et : (growL s).take (nbP s).length = growL s := List.take_of_length_le (by omega)
  rw [et]
  refine Ev.step (fun k => ?_) (Ev.now _)
  simp only [spec_l05Grow.l0]; rw [if_neg (by omega)]
 | succ d ih =>
  intro j hj
  have g := ih (j + 1) (by omega)
  have hjl : j < (growL s).length := by omega
  have ht := growL_take s j (by omega)
  rw [ht, List.foldl_append, List.foldl_cons, List.foldl_nil] at g
  obtain ⟨f1, _, f3⟩ := foldl_ins ((growL s).take j) acc hp
  have htl : ((growL s).take j).length = j := by rw [List.length_take]; omega
  generalize hA : ((growL s).take j).foldl (fun a t => insS t a) acc = A at *
  refine Ev.step (f := fun k => (spec_l02Insert.f k s (at_ (nbP s) j).f0 (at_ (nbP s) j).f1).bind fun t1 => (spec_l02Normal.f k t1).bind fun t2 => (spec_l03Add.f k A t2).bind fun t3 => spec_l05Grow.l0 k t3 s (nbP s) ((j + 1 : Nat) : Int)) (fun k => ?_) ?_
  ·simp only [spec_l05Grow.l0, rd_at]
   rw [if_pos (by omega), if_pos (by omega), w64 (by omega) (by omega)]; rfl
  ·refine Ev.bind (f := fun k t1 => (spec_l02Normal.f k t1).bind fun t2 => (spec_l03Add.f k A t2).bind fun t3 => spec_l05Grow.l0 k t3 s (nbP s) ((j + 1 : Nat) : Int)) (specIns_ev s _ _ (by omega)) ?_
   refine Ev.bind (f := fun k t2 => (spec_l03Add.f k A t2).bind fun t3 => spec_l05Grow.l0 k t3 s (nbP s) ((j + 1 : Nat) : Int)) (specNorm_ev _ (by rw [insP_length]; omega) (by rw [insP_length]; omega)) ?_
   exact Ev.bind (f := fun k t3 => spec_l05Grow.l0 k t3 s (nbP s) ((j + 1 : Nat) : Int)) (add_ev _ _ f1 (by omega) (by rw [normL_length, insP_length]; omega)) g
theorem sh_wim {s : List C} (hs : Sh s) : Wi 1000000 s := fun c hc => by
 have := hs.ok hc
 unfold okC at this; omega
theorem specGrow_ev (s : List C) (hs : Sh s) (acc : List (List C)) (hp : acc.Pairwise ltS) (hacc : acc.length ≤ 900000) : Ev (fun k => spec_l05Grow.f k acc s) ((growL s).foldl (fun a t => insS t a) acc) := by
 unfold spec_l05Grow.f
 refine Ev.bind (f := fun k t => spec_l05Grow.l0 k acc s t 0) (specNb_ev s (by have := hs.2.1; omega) (sh_wim hs)) ?_
 exact specGrow_loop s hs acc hp hacc (nbP s).length 0 (by omega)
def fixP : Nat → List (List C)
 | 0 => [[⟨0, 0⟩]]
 | m + 1 => tidyP ((fixP m).flatMap growL)
theorem fixP_good : ∀ m, m ≤ 6 → ∀ s ∈ fixP m, GdS (m + 1) s := by
 intro m
 induction m with
 | zero =>
  intro _ s hs
  rw [List.mem_singleton.1 hs]
  refine ⟨rfl, sh_mk (by decide) (by decide) (fun c hc => ?_) (List.pairwise_singleton _ _), rfl, fun c hc => ?_⟩
  ·rw [List.mem_singleton.1 hc]; decide
  ·rw [List.mem_singleton.1 hc]; decide
 | succ m ih =>
  intro hm s hs
  obtain ⟨t, ht, hst⟩ := List.mem_flatMap.1 ((tidyP_mem _ s).1 hs)
  obtain ⟨d, hd, rfl⟩ := List.mem_map.1 hst
  exact good_grow (by omega) (ih (by omega) t ht) hd
theorem flat_length (m B : Nat) (l : List (List C)) (h : ∀ s ∈ l, s.length = m) (hl : l.length ≤ B) : (l.flatMap growL).length ≤ B * (4 * m) := by
 have : (l.flatMap growL).length ≤ l.length * (4 * m) := by
  clear hl
  induction l with
  | nil => simp
  | cons s r ih =>
   rw [List.flatMap_cons, List.length_append, List.length_cons, Nat.succ_mul]
   have a := ih fun x hx => h x (List.mem_cons_of_mem _ hx)
   have b := nbP_length s
   rw [h s List.mem_cons_self] at b
   rw [growL_length]; omega
 exact Nat.le_trans this (Nat.mul_le_mul_right _ hl)
def fixB : Nat → Nat
 | 0 => 1
 | m + 1 => fixB m * (4 * (m + 1))
theorem fixP_length : ∀ m, m ≤ 6 → (fixP m).length ≤ fixB m ∧ ((fixP m).flatMap growL).length ≤ fixB (m + 1) := by
 have flat : ∀ m, m ≤ 6 → (fixP m).length ≤ fixB m → ((fixP m).flatMap growL).length ≤ fixB (m + 1) := fun m hm hl =>
  flat_length (m + 1) (fixB m) (fixP m) (fun s hs => (fixP_good m hm s hs).len) hl
 intro m
 induction m with
 | zero => intro hm; exact ⟨Nat.le_refl _, flat 0 hm (Nat.le_refl _)⟩
 | succ m ih =>
  intro hm
  have h := (ih (by omega)).2
  have h2 : (fixP (m + 1)).length ≤ fixB (m + 1) := Nat.le_trans (tidyP_length _) h
  exact ⟨h2, flat (m + 1) hm h2⟩
theorem fixB_le (m : Nat) (hm : m ≤ 5) : fixB m ≤ 122880 := by
 have : m = 0 ∨ m = 1 ∨ m = 2 ∨ m = 3 ∨ m = 4 ∨ m = 5 := by omega
 rcases this with rfl | rfl | rfl | rfl | rfl | rfl <;> decide
theorem join_ev : ∀ (l : List (List C)), (∀ s ∈ l, Sh s) → Ev (fun k => impl_fixedShapes.join k l) (l.flatMap fun s => tidyP (growL s)) := by
 intro l
 induction l with
 | nil => intro _; exact Ev.now _
 | cons s r ih =>
  intro h
  refine Ev.bind (f := fun k a => (impl_fixedShapes.join k r).bind fun b => some (a ++ b)) (implGrown_ev s (h s List.mem_cons_self)) ?_
  exact Ev.bind (f := fun _ b => some (tidyP (growL s) ++ b)) (ih fun x hx => h x (List.mem_cons_of_mem _ hx)) (Ev.now _)
theorem flat_tidy_length (l : List (List C)) : (l.flatMap fun s => tidyP (growL s)).length ≤ (l.flatMap growL).length := by
 induction l with
 | nil => simp
 | cons s r ih =>
  rw [List.flatMap_cons, List.flatMap_cons, List.length_append, List.length_append]
  have := tidyP_length (growL s)
  omega
theorem rounds_ev : ∀ d m : Nat, m + d ≤ 5 → Ev (fun k => impl_fixedShapes.rounds k d (fixP m)) (fixP (m + d)) := by
 intro d
 induction d with
 | zero => intro m _; exact Ev.now _
 | succ d ih =>
  intro m hm
  have g := ih (m + 1) (by omega)
  rw [show m + 1 + d = m + (d + 1) by omega] at g
  have hb := (fixP_length m (by omega)).2
  have hb2 := fixB_le (m + 1) (by omega)
  have hfl := flat_tidy_length (fixP m)
  refine Ev.bind (f := fun k x => if x.length ≤ 1000000 then ((impl_tidyShapes.f k x).bind fun y => impl_fixedShapes.rounds k d y) else none) (join_ev (fixP m) fun s hs => (fixP_good m (by omega) s hs).sh) ?_
  simp only [if_pos (show ((fixP m).flatMap fun s => tidyP (growL s)).length ≤ 1000000 by omega)]
  have e : tidyP ((fixP m).flatMap fun s => tidyP (growL s)) = fixP (m + 1) := by
   refine tidyP_congr fun t => ?_
   rw [List.mem_flatMap, List.mem_flatMap]
   exact ⟨fun ⟨s, hs, ht⟩ => ⟨s, hs, (tidyP_mem _ t).1 ht⟩, fun ⟨s, hs, ht⟩ => ⟨s, hs, (tidyP_mem _ t).2 ht⟩⟩
  refine Ev.step (f := fun k => impl_fixedShapes.rounds (k + 1) d (fixP (m + 1))) (fun k => ?_) ?_
  ·rw [tidy_eq _ _ (by omega), e]; rfl
  ·obtain ⟨K, hK⟩ := g
   exact ⟨K, fun k hk => hK (k + 1) (by omega)⟩
theorem implFixed_ev (m : Nat) (hm : m ≤ 5) : Ev (fun k => impl_fixedShapes.f k ((m : Int) + 1)) (fixP m) := by
 have h := rounds_ev m 0 (by omega)
 rw [Nat.zero_add] at h
 unfold impl_fixedShapes.f
 simp only [if_pos (show 1 ≤ (m : Int) + 1 ∧ (m : Int) + 1 ≤ 1000 by omega), show ((m : Int) + 1 - 1).toNat = m by omega]
 exact h
theorem fixed_l1 (n m : Nat) (hm : m + 1 ≤ 5) (hf : Ev (fun k => spec_l05Fixed.l0 k (n : Nat) (fixP (m + 1)) (m + 2 : Nat)) (fixP (n - 1))) : ∀ d j : Nat, j + d = (fixP m).length → Ev (fun k => spec_l05Fixed.l1 k (n : Nat) (fixP m) (m + 1 : Nat) (tidyP (((fixP m).take j).flatMap growL)) (j : Nat)) (fixP (n - 1)) := by
 have hlen := fixP_length m (by omega)
 have hb := fixB_le m (by omega)
 have hb2 := fixB_le (m + 1) hm
 intro d
 induction d with
 | zero =>
  intro j hj
  obtain rfl : j = (fixP m).length := by omega
  rw [List.take_length]
  refine Ev.step (fun k => ?_) hf
  simp only [spec_l05Fixed.l1]; rw [if_neg (by omega), w64 (by omega) (by omega)]; rfl
 | succ d ih =>
  intro j hj
  have g := ih (j + 1) (by omega)
  have hg := fixP_good m (by omega) _ (ro_mem (fixP m) j (by omega))
  have hfl : (((fixP m).take j).flatMap growL).length ≤ 122880 := by
   have := flat_length (m + 1) (fixB m) ((fixP m).take j) (fun s hs => (fixP_good m (by omega) s (List.mem_of_mem_take hs)).len) (by rw [List.length_take]; omega)
   have e : fixB m * (4 * (m + 1)) = fixB (m + 1) := rfl
   omega
  have htl := tidyP_length (((fixP m).take j).flatMap growL)
  rw [take_ro _ j (by omega), List.flatMap_append, List.flatMap_cons, List.flatMap_nil, List.append_nil] at g
  have e : tidyP (((fixP m).take j).flatMap growL ++ growL (ro_ (fixP m) j)) = (growL (ro_ (fixP m) j)).foldl (fun a t => insS t a) (tidyP (((fixP m).take j).flatMap growL)) := by
   unfold tidyP; rw [List.foldl_append]
  rw [e] at g
  refine Ev.step (f := fun k => (spec_l05Grow.f k (tidyP (((fixP m).take j).flatMap growL)) (ro_ (fixP m) j)).bind fun t => spec_l05Fixed.l1 k (n : Nat) (fixP m) (m + 1 : Nat) t ((j + 1 : Nat) : Int)) (fun k => ?_) ?_
  ·simp only [spec_l05Fixed.l1, rd_ro]
   rw [if_pos (by omega), if_pos (by omega), w64 (by omega) (by omega)]; rfl
  ·exact Ev.bind (f := fun k t => spec_l05Fixed.l1 k (n : Nat) (fixP m) (m + 1 : Nat) t ((j + 1 : Nat) : Int)) (specGrow_ev _ hg.sh _ (tidyP_sorted _) (by omega)) g
theorem fixed_l0 (n : Nat) (hn : n ≤ 6) : ∀ d m : Nat, m + 1 + d = n → Ev (fun k => spec_l05Fixed.l0 k (n : Nat) (fixP m) (m + 1 : Nat)) (fixP (n - 1)) := by
 intro d
 induction d with
 | zero =>
  intro m hm
  obtain rfl : m = n - 1 := by omega
  refine Ev.step (fun k => ?_) (Ev.now _)
  simp only [spec_l05Fixed.l0]; rw [if_neg (by omega)]
 | succ d ih =>
  intro m hm
  have h := fixed_l1 n m (by omega) (ih (m + 1) (by omega)) (fixP m).length 0 (by omega)
  refine Ev.step (fun k => ?_) h
  simp only [spec_l05Fixed.l0]; rw [if_pos (by omega)]; rfl
theorem specFixed_ev (m : Nat) (hm : m ≤ 5) : Ev (fun k => spec_l05Fixed.f k ((m : Int) + 1)) (fixP m) :=
 fixed_l0 (m + 1) (by omega) m 0 (by omega)
theorem sturn_loop : ∀ n : Nat, n < 4 → ∀ x y : Int, Ev (fun k => spec_l03Turn.l0 k (n : Nat) x y) (rotN n x y) := by
 intro n
 induction n with
 | zero =>
  intro _ x y
  refine Ev.step (fun k => ?_) (Ev.now _)
  simp only [spec_l03Turn.l0, rotN]; rw [if_neg (by omega)]
 | succ n ih =>
  intro h x y
  refine Ev.step (fun k => ?_) (ih (by omega) (wrap64 (-y)) x)
  simp only [spec_l03Turn.l0]
  rw [if_pos (by omega), w64 (x := ((n + 1 : Nat) : Int) - 1) (by omega) (by omega), show ((n + 1 : Nat) : Int) - 1 = (n : Nat) from by omega]
theorem sturn_ev (t x y : Int) (ht : 0 ≤ t) : Ev (fun k => spec_l03Turn.f k x y t) (trn t x y) := by
 have h4 := tmod4 t ht
 have e : Int.tmod t 4 = ((Int.tmod t 4).toNat : Nat) := by omega
 unfold spec_l03Turn.f trn
 by_cases h : t ≥ 4
 ·simp only [if_pos h]
  refine Ev.step (f := fun k => spec_l03Turn.l0 k (Int.tmod t 4) (wrap64 (-x)) y) (fun k => by simp only [spec_l03Turn.j0]) ?_
  have g := sturn_loop (Int.tmod t 4).toNat (by omega) (wrap64 (-x)) y
  rw [← e] at g; exact g
 ·simp only [if_neg h]
  refine Ev.step (f := fun k => spec_l03Turn.l0 k (Int.tmod t 4) x y) (fun k => by simp only [spec_l03Turn.j0]) ?_
  have g := sturn_loop (Int.tmod t 4).toNat (by omega) x y
  rw [← e] at g; exact g
theorem sform_ev (l : List C) (t : Int) (ht : 0 ≤ t) (h0 : 0 < l.length) (hl : l.length ≤ 1048570) : Ev (fun k => spec_l03Form.f k l t) (formP l t) := by
 unfold spec_l03Form.f
 refine ev_foldE (fun k s j => spec_l03Form.l0 k l t s j) l (fun s c => s ++ [trC t c]) (fun j s => s.length = j) ?_ _ 0 (by omega) [] rfl ?_
 ·intro s j hj hm hs
  refine ⟨by simp [hs], fun r hr => ?_⟩
  refine Ev.step (f := fun k => (spec_l03Turn.f k (at_ l j).f0 (at_ l j).f1 t).bind fun bt => spec_l03Form.l0 k l t (s ++ [⟨bt.1, bt.2⟩]) ((j + 1 : Nat) : Int)) (fun k => ?_) ?_
  ·simp only [spec_l03Form.l0, rd_at]; rw [if_pos (by omega), if_pos (by omega), w64 (x := (j : Int) + 1) (by omega) (by omega)]
   congr 1; funext bt; rw [if_pos (by omega)]; rfl
  ·exact Ev.bind (f := fun k (bt : Int × Int) => spec_l03Form.l0 k l t (s ++ [⟨bt.1, bt.2⟩]) ((j + 1 : Nat) : Int)) (sturn_ev t _ _ ht) hr
 ·intro hs
  rw [List.drop_zero, foldl_append_map, List.nil_append]
  refine Ev.step (f := fun k => (spec_l02Sort.f k (l.map (trC t))).bind fun t848 => ((spec_l02Normal.f k t848).bind fun t851 => (some t851))) (fun k => ?_) ?_
  ·simp only [spec_l03Form.l0]; rw [if_neg (by omega)]
  ·refine Ev.bind (f := fun k t848 => ((spec_l02Normal.f k t848).bind fun t851 => (some t851))) (specSort_ev _ (by rw [List.length_map]; omega)) ?_
   exact Ev.bind (f := fun k t851 => some t851) (specNorm_ev _ (by rw [sortP_length, List.length_map]; omega) (by rw [sortP_length, List.length_map]; omega)) (Ev.now _)
theorem iturn_loop (n : Nat) (hn : n < 4) : ∀ d j : Nat, j + d = n → ∀ x y : Int, Ev (fun k => impl_turnCell.l0 k (n : Nat) (j : Nat) x y) (rotN d x y) := by
 intro d
 induction d with
 | zero =>
  intro j hj x y
  refine Ev.step (fun k => ?_) (Ev.now _)
  simp only [impl_turnCell.l0, rotN]; rw [if_neg (by omega)]
 | succ d ih =>
  intro j hj x y
  refine Ev.step (fun k => ?_) (ih (j + 1) (by omega) (wrap64 (-y)) x)
  simp only [impl_turnCell.l0]
  rw [if_pos (by omega), w64 (x := (j : Int) + 1) (by omega) (by omega)]; rfl
theorem iturn_ev (t x y : Int) (ht : 0 ≤ t) : Ev (fun k => impl_turnCell.f k x y t) (trn t x y) := by
 have h4 := tmod4 t ht
 have e : Int.tmod t 4 = ((Int.tmod t 4).toNat : Nat) := by omega
 unfold impl_turnCell.f trn
 by_cases h : t ≥ 4
 ·simp only [if_pos h]
  refine Ev.step (f := fun k => impl_turnCell.l0 k (Int.tmod t 4) 0 (wrap64 (-x)) y) (fun k => by simp only [impl_turnCell.j0]) ?_
  have g := iturn_loop (Int.tmod t 4).toNat (by omega) (Int.tmod t 4).toNat 0 (by omega) (wrap64 (-x)) y
  rw [← e] at g; exact g
 ·simp only [if_neg h]
  refine Ev.step (f := fun k => impl_turnCell.l0 k (Int.tmod t 4) 0 x y) (fun k => by simp only [impl_turnCell.j0]) ?_
  have g := iturn_loop (Int.tmod t 4).toNat (by omega) (Int.tmod t 4).toNat 0 (by omega) x y
  rw [← e] at g; exact g
theorem iform_ev (l : List C) (t : Int) (ht : 0 ≤ t) (h0 : 0 < l.length) (hl : l.length ≤ 1048570) : Ev (fun k => impl_form.f k l t) (formP l t) := by
 unfold impl_form.f
 simp only [if_pos (show 0 ≤ (l.length : Int) by omega), if_pos (show ((l.length : Int)).toNat ≤ 17592186044416 by omega)]
 refine ev_foldE (fun k s j => impl_form.l0 k t s l (l.length : Int) j) l (fun s c => s ++ [trC t c]) (fun j s => s.length = j) ?_ _ 0 (by omega) [] rfl ?_
 ·intro s j hj hm hs
  refine ⟨by simp [hs], fun r hr => ?_⟩
  refine Ev.step (f := fun k => (impl_turnCell.f k (at_ l j).f0 (at_ l j).f1 t).bind fun bt => impl_form.l0 k t (s ++ [⟨bt.1, bt.2⟩]) l (l.length : Int) ((j + 1 : Nat) : Int)) (fun k => ?_) ?_
  ·simp only [impl_form.l0, rd_at]; rw [if_pos (by omega), if_pos (by omega), if_pos (by omega), w64 (x := (j : Int) + 1) (by omega) (by omega)]
   congr 1; funext bt; rw [if_pos (by omega)]; rfl
  ·exact Ev.bind (f := fun k (bt : Int × Int) => impl_form.l0 k t (s ++ [⟨bt.1, bt.2⟩]) l (l.length : Int) ((j + 1 : Nat) : Int)) (iturn_ev t _ _ ht) hr
 ·intro hs
  rw [List.drop_zero, foldl_append_map, List.nil_append]
  refine Ev.step (f := fun k => (impl_normal.f k (sortP (l.map (trC t)))).bind fun t851 => (some t851)) (fun k => ?_) ?_
  ·simp only [impl_form.l0]; rw [if_neg (by omega), implSort_eq _ (by rw [List.length_map]; omega), Option.bind_some]
  ·exact Ev.bind (f := fun k t851 => some t851) (implNorm_ev _ (by rw [sortP_length, List.length_map]; omega) (by rw [sortP_length, List.length_map]; omega)) (Ev.now _)
theorem equal_loop (l m : List C) (hl : l.length ≤ 1048576) (hm : l.length = m.length) : ∀ d j : Nat, j + d = l.length → ∃ b, Ev (fun k => slices_Equal_Cell.l0 k l m (l.length : Int) (j : Nat)) b ∧ (b = true ↔ l.drop j = m.drop j) := by
 intro d
 induction d with
 | zero =>
  intro j hj
  refine ⟨true, Ev.step (f := fun _ => some true) (fun k => ?_) (Ev.now _), fun _ => ?_, fun _ => rfl⟩
  ·simp only [slices_Equal_Cell.l0]; rw [if_neg (by omega)]
  ·rw [List.drop_eq_nil_of_le (by omega), List.drop_eq_nil_of_le (by omega)]
 | succ d ih =>
  intro j hj
  obtain ⟨b, h1, h2⟩ := ih (j + 1) (by omega)
  rw [drop_at l j (by omega), drop_at m j (by omega)]
  by_cases c : at_ l j = at_ m j
  ·refine ⟨b, Ev.step (fun k => ?_) h1, ?_⟩
   ·simp only [slices_Equal_Cell.l0, rd_at, c, beq_self_eq_true, Bool.not_true, Bool.or_false, Bool.false_eq_true, if_false]
    rw [if_pos (by omega), if_pos (by omega), if_pos (by omega), if_pos (by omega), w64 (by omega) (by omega)]; rfl
   ·rw [h2, c]; exact ⟨fun g => by rw [g], fun g => (List.cons.inj g).2⟩
  ·refine ⟨false, Ev.step (f := fun _ => some false) (fun k => ?_) (Ev.now _), fun g => absurd g (by simp), fun g => absurd (List.cons.inj g).1 c⟩
   simp only [slices_Equal_Cell.l0, rd_at]
   rw [if_pos (by omega), if_pos (by omega), if_pos (by omega), if_pos (by omega), if_pos]
   by_cases h0 : (at_ l j).f0 = (at_ m j).f0
   ·have h1 : ¬ (at_ l j).f1 = (at_ m j).f1 := fun h1 => c (by
     generalize at_ l j = x at *; generalize at_ m j = y at *
     cases x; cases y; cases h0; cases h1; rfl)
    simp [h0, h1]
   ·simp [h0]
theorem equal_ev (l m : List C) (hl : l.length ≤ 1048576) : ∃ b, Ev (fun k => slices_Equal_Cell.f k l m) b ∧ (b = true ↔ l = m) := by
 unfold slices_Equal_Cell.f
 by_cases h : l.length = m.length
 ·obtain ⟨b, h1, h2⟩ := equal_loop l m hl h l.length 0 (by omega)
  rw [List.drop_zero, List.drop_zero] at h2
  refine ⟨b, ?_, h2⟩
  simp only [if_pos (show (l.length : Int) = (m.length : Int) by omega)]
  exact h1
 ·refine ⟨false, ?_, fun g => absurd g (by simp), fun g => absurd (by rw [g]) h⟩
  simp only [if_neg (show ¬ (l.length : Int) = (m.length : Int) by omega)]
  exact Ev.now _
-- USES Base Cell In Shape ShUse Fold Moved Norm Sort Turn TurnS
def formsL (l : List C) (n : Nat) : List (List C) := (List.range n).map fun t => formP l (t : Nat)
theorem formsL_length (l : List C) (n : Nat) : (formsL l n).length = n := by unfold formsL; rw [List.length_map, List.length_range]
theorem formsL_succ (l : List C) (n : Nat) : formsL l (n + 1) = formsL l n ++ [formP l (n : Nat)] := by unfold formsL; rw [List.range_succ, List.map_append]; rfl
theorem formsL_mem (l s : List C) (n : Nat) : s ∈ formsL l n ↔ ∃ t : Nat, t < n ∧ formP l (t : Nat) = s := by
 unfold formsL
 simp only [List.mem_map, List.mem_range]
theorem implForms_loop (l : List C) (n : Nat) (hn : n ≤ 8) (h0 : 0 < l.length) (hl : l.length ≤ 1048570) : ∀ d j : Nat, j + d = n → Ev (fun k => impl_forms.l0 k l (formsL l j) (n : Nat) (j : Nat)) (formsL l n) := by
 intro d
 induction d with
 | zero =>
  intro j hj
  obtain rfl : j = n := by omega
  refine Ev.step (fun k => ?_) (Ev.now _)
  simp only [impl_forms.l0]; rw [if_neg (by omega)]
 | succ d ih =>
  intro j hj
  have g := ih (j + 1) (by omega)
  rw [formsL_succ] at g
  have hlen := formsL_length l j
  refine Ev.step (f := fun k => (impl_form.f k l (j : Nat)).bind fun t => impl_forms.l0 k l (formsL l j ++ [t]) (n : Nat) ((j + 1 : Nat) : Int)) (fun k => ?_) ?_
  ·simp only [impl_forms.l0, if_pos (show (formsL l j).length < 5864062014805 by omega)]
   rw [if_pos (by omega), w64 (by omega) (by omega)]; rfl
  ·exact Ev.bind (f := fun k t => impl_forms.l0 k l (formsL l j ++ [t]) (n : Nat) ((j + 1 : Nat) : Int)) (iform_ev l (j : Nat) (by omega) h0 hl) g
theorem implForms_ev (l : List C) (n : Nat) (hn : n ≤ 8) (h0 : 0 < l.length) (hl : l.length ≤ 1048570) : Ev (fun k => impl_forms.f k l (n : Nat)) (formsL l n) :=
 implForms_loop l n hn h0 hl n 0 (by omega)
theorem foldl_min (r : List (List C)) : ∀ m : List C, r.foldl minF_ m ∈ m :: r ∧ ∀ y ∈ m :: r, leS (r.foldl minF_ m) y := by
 induction r with
 | nil =>
  intro m
  exact ⟨List.mem_cons_self, fun y hy => by rw [List.mem_singleton.1 hy]; exact fun g => ltS_irrefl g⟩
 | cons a r ih =>
  intro m
  rw [List.foldl_cons]
  obtain ⟨h1, h2⟩ := ih (minF_ m a)
  have hm : (minF_ m a = a ∧ ltS a m) ∨ (minF_ m a = m ∧ leS m a) := by
   unfold minF_
   by_cases c : cfS_ a m < 0
   ·exact Or.inl ⟨if_pos c, (cfS_lt a m).1 c⟩
   ·exact Or.inr ⟨if_neg c, fun g => c ((cfS_lt a m).2 g)⟩
  refine ⟨?_, fun y hy => ?_⟩
  ·rcases List.mem_cons.1 h1 with e | e
   ·rcases hm with ⟨g, _⟩ | ⟨g, _⟩
    ·rw [e, g]; exact List.mem_cons_of_mem _ List.mem_cons_self
    ·rw [e, g]; exact List.mem_cons_self
   ·exact List.mem_cons_of_mem _ (List.mem_cons_of_mem _ e)
  ·have hx := h2 (minF_ m a) List.mem_cons_self
   rcases List.mem_cons.1 hy with rfl | hy
   ·rcases hm with ⟨g, g2⟩ | ⟨g, _⟩
    ·rw [g] at hx ⊢; exact leS_trans hx (ltS_leS g2)
    ·rw [g] at hx ⊢; exact hx
   ·rcases List.mem_cons.1 hy with rfl | hy
    ·rcases hm with ⟨g, _⟩ | ⟨g, g2⟩
     ·rw [g] at hx ⊢; exact hx
     ·rw [g] at hx ⊢; exact leS_trans hx g2
    ·exact h2 y (List.mem_cons_of_mem _ hy)
theorem head_min {l : List (List C)} (h : 0 < l.length) : ro_ (tidyP l) 0 ∈ l ∧ ∀ x ∈ l, leS (ro_ (tidyP l) 0) x := by
 have hne : 0 < (tidyP l).length := by
  rcases Nat.eq_zero_or_pos (tidyP l).length with e | e
  ·have e2 := List.length_eq_zero_iff.1 e
   have := (tidyP_mem l (ro_ l 0)).2 (ro_mem l 0 h)
   rw [e2] at this; cases this
  ·exact e
 refine ⟨(tidyP_mem l _).1 (ro_mem _ 0 hne), fun x hx => ?_⟩
 obtain ⟨i, hi, rfl⟩ := List.mem_iff_getElem.1 ((tidyP_mem l x).2 hx)
 rw [ro_get _ 0 hne]
 by_cases e : i = 0
 ·subst e; exact fun g => ltS_irrefl g
 ·exact ltS_leS (List.pairwise_iff_getElem.1 (tidyP_sorted l) 0 i hne hi (by omega))
theorem minS_eq {l : List (List C)} (h : 0 < l.length) : minS_ l = ro_ (tidyP l) 0 := by
 obtain ⟨h1, h2⟩ := head_min h
 have h3 : minS_ l ∈ l ∧ ∀ y ∈ l, leS (minS_ l) y := by
  cases l with
  | nil => simp at h
  | cons a r => exact foldl_min r a
 rcases ltS_tri (minS_ l) (ro_ (tidyP l) 0) with g | g | g
 ·exact absurd g (h2 _ h3.1)
 ·exact g
 ·exact absurd g (h3.2 _ h1)
def OwnS (n : Nat) (s : List C) : Prop := ∀ t : Nat, t < n → leS s (formP s (t : Nat))
noncomputable def ownL (n : Nat) (l : List (List C)) : List (List C) := l.filter fun s => @decide (OwnS n s) (Classical.propDecidable _)
theorem ownL_snoc (n : Nat) (l : List (List C)) (s : List C) : ownL n (l ++ [s]) = if @decide (OwnS n s) (Classical.propDecidable _) = true then ownL n l ++ [s] else ownL n l := by
 unfold ownL
 rw [List.filter_append]
 split
 ·rename_i h; rw [List.filter_cons_of_pos (by exact h), List.filter_nil]
 ·rename_i h; rw [List.filter_cons_of_neg (by exact h), List.filter_nil, List.append_nil]
theorem ownL_length (n : Nat) (l : List (List C)) : (ownL n l).length ≤ l.length := List.length_filter_le _ _
theorem good_zero {n : Nat} {s : List C} (h : GdS n s) : formP s ((0 : Nat) : Int) = s := by
 have hb := good_BD h
 have h0 : 0 < s.length := h.sh.1
 rw [formP_U hb h0 (by omega)]
 unfold formU
 have e : s.map (trI 0) = s := by
  conv => rhs; rw [← List.map_id s]
  exact List.map_congr_left fun c _ => rfl
 rw [e, sortP_of_sorted h.sh.sorted]
 unfold normU
 rw [h.lo]
 conv => rhs; rw [← List.map_id s]
 exact List.map_congr_left fun c _ => addC_zero c
theorem cmp_le (a b : List C) : cmpS a b ≤ 0 ↔ leS a b := by
 unfold leS ltS
 rw [cmpS_neg a b]
 rcases cmpS_range a b with h | h | h <;> omega
theorem own_l1 (l : List (List C)) (n : Nat) (hn : 1 ≤ n ∧ n ≤ 8) (j : Nat) (hj : j < l.length) (hl : l.length ≤ 1000000) (hs : Sh (ro_ l j)) (acc : List (List C)) (ha : acc.length ≤ j) (R : List (List C))
  (h1 : (∀ t : Nat, 1 ≤ t → t < n → leS (ro_ l j) (formP (ro_ l j) (t : Nat))) → Ev (fun k => spec_l05Own.l0 k l (n : Nat) (acc ++ [ro_ l j]) ((j + 1 : Nat) : Int)) R)
  (h2 : ¬ (∀ t : Nat, 1 ≤ t → t < n → leS (ro_ l j) (formP (ro_ l j) (t : Nat))) → Ev (fun k => spec_l05Own.l0 k l (n : Nat) acc ((j + 1 : Nat) : Int)) R) :
  ∀ d t : Nat, t + d = n → 1 ≤ t → ∀ b : Bool, (b = true ↔ ∀ u : Nat, 1 ≤ u → u < t → leS (ro_ l j) (formP (ro_ l j) (u : Nat))) → Ev (fun k => spec_l05Own.l1 k l (n : Nat) acc (j : Nat) b (t : Nat)) R := by
 have hl1 := hs.1
 have hl2 := hs.2.1
 intro d
 induction d with
 | zero =>
  intro t ht _ b hb
  obtain rfl : t = n := by omega
  cases b with
  | true =>
   refine Ev.step (fun k => ?_) (h1 (hb.1 rfl))
   simp only [spec_l05Own.l1, rd_ro, if_true]
   rw [if_neg (by omega), if_pos (by omega), if_pos (by omega), if_pos (by omega), w64 (by omega) (by omega)]; rfl
  | false =>
   refine Ev.step (fun k => ?_) (h2 fun g => by have := hb.2 g; cases this)
   simp only [spec_l05Own.l1, Bool.false_eq_true, if_false]
   rw [if_neg (by omega), w64 (by omega) (by omega)]; rfl
 | succ d ih =>
  intro t ht h0 b hb
  cases b with
  | true =>
   have hb' := hb.1 rfl
   refine Ev.step (f := fun k => (spec_l03Form.f k (ro_ l j) (t : Nat)).bind fun a => (spec_CompareShapes.f k (ro_ l j) a).bind fun c => spec_l05Own.l1 k l (n : Nat) acc (j : Nat) (decide (c ≤ 0)) ((t + 1 : Nat) : Int)) (fun k => ?_) ?_
   ·simp only [spec_l05Own.l1, rd_ro, if_true]
    rw [if_pos (by omega), if_pos (by omega), if_pos (by omega), w64 (by omega) (by omega)]; rfl
   ·refine Ev.bind (f := fun k a => (spec_CompareShapes.f k (ro_ l j) a).bind fun c => spec_l05Own.l1 k l (n : Nat) acc (j : Nat) (decide (c ≤ 0)) ((t + 1 : Nat) : Int)) (sform_ev _ (t : Nat) (by omega) (by omega) (by omega)) ?_
    refine Ev.bind (f := fun k c => spec_l05Own.l1 k l (n : Nat) acc (j : Nat) (decide (c ≤ 0)) ((t + 1 : Nat) : Int)) (specCmp_ev _ _ (by omega)) ?_
    refine ih (t + 1) (by omega) (by omega) _ ?_
    rw [decide_eq_true_eq, cmp_le]
    constructor
    ·intro g u hu1 hu2
     by_cases e : u = t
     ·rw [e]; exact g
     ·exact hb' u hu1 (by omega)
    ·intro g; exact g t h0 (by omega)
  | false =>
   refine Ev.step (fun k => ?_) (ih (t + 1) (by omega) (by omega) false ?_)
   ·simp only [spec_l05Own.l1, Bool.false_eq_true, if_false]
    rw [if_pos (by omega), w64 (by omega) (by omega)]; rfl
   ·constructor
    ·intro g; cases g
    ·intro g; exact absurd (hb.2 fun u h1 h2 => g u h1 (by omega)) (by simp)
theorem specOwn_loop (l : List (List C)) (n m : Nat) (hn : 1 ≤ n ∧ n ≤ 8) (hl : l.length ≤ 1000000) (hg : ∀ s ∈ l, GdS m s) : ∀ d j : Nat, j + d = l.length → Ev (fun k => spec_l05Own.l0 k l (n : Nat) (ownL n (l.take j)) (j : Nat)) (ownL n l) := by
 intro d
 induction d with
 | zero =>
  intro j hj
  obtain rfl : j = l.length := by omega
  rw [List.take_length]
  refine Ev.step (fun k => ?_) (Ev.now _)
  simp only [spec_l05Own.l0]; rw [if_neg (by omega)]
 | succ d ih =>
  intro j hj
  have g := ih (j + 1) (by omega)
  have hG := hg _ (ro_mem l j (by omega))
  have hown : OwnS n (ro_ l j) ↔ ∀ t : Nat, 1 ≤ t → t < n → leS (ro_ l j) (formP (ro_ l j) (t : Nat)) := by
   constructor
   ·intro h t _ h2; exact h t h2
   ·intro h t h2
    by_cases e : t = 0
    ·subst e; rw [good_zero hG]; exact fun g => ltS_irrefl g
    ·exact h t (by omega) h2
  rw [take_ro l j (by omega), ownL_snoc] at g
  have hal := ownL_length n (l.take j)
  rw [List.length_take] at hal
  have h := own_l1 l n hn j (by omega) hl hG.sh (ownL n (l.take j)) (by omega) (ownL n l) (fun h => by
   rw [if_pos (@decide_eq_true _ (Classical.propDecidable _) (hown.2 h))] at g; exact g) (fun h => by
   rw [if_neg (by rw [@decide_eq_false _ (Classical.propDecidable _) (fun z => h (hown.1 z))]; simp)] at g; exact g) (n - 1) 1 (by omega) (by omega) true ⟨fun _ u h1 h2 => by omega, fun _ => rfl⟩
  refine Ev.step (fun k => ?_) h
  simp only [spec_l05Own.l0]; rw [if_pos (by omega)]; rfl
theorem specOwn_ev (l : List (List C)) (n m : Nat) (hn : 1 ≤ n ∧ n ≤ 8) (hl : l.length ≤ 1000000) (hg : ∀ s ∈ l, GdS m s) : Ev (fun k => spec_l05Own.f k l (n : Nat)) (ownL n l) :=
 specOwn_loop l n m hn hl hg l.length 0 (by omega)
theorem least_uniq {l : List (List C)} {a b : List C} (ha : a ∈ l) (ha2 : ∀ x ∈ l, leS a x) (hb : b ∈ l) (hb2 : ∀ x ∈ l, leS b x) : a = b := by
 rcases ltS_tri a b with h | h | h
 ·exact absurd h (hb2 a ha)
 ·exact h
 ·exact absurd h (ha2 b hb)
theorem least_own {n m : Nat} (hn : 1 ≤ n) {s : List C} (h : GdS m s) : ro_ (tidyP (formsL s n)) 0 = s ↔ OwnS n s := by
 obtain ⟨h1, h2⟩ := head_min (l := formsL s n) (by rw [formsL_length]; omega)
 have hs : s ∈ formsL s n := (formsL_mem s s n).2 ⟨0, by omega, good_zero h⟩
 constructor
 ·intro e t ht
  rw [e] at h2
  exact h2 _ ((formsL_mem s _ n).2 ⟨t, ht, rfl⟩)
 ·intro ho
  refine least_uniq h1 h2 hs fun x hx => ?_
  obtain ⟨t, ht, rfl⟩ := (formsL_mem s x n).1 hx
  exact ho t ht
theorem implOwn1_ev (n m : Nat) (hn : 1 ≤ n ∧ n ≤ 8) (s : List C) (hG : GdS m s) : Ev (fun k => impl_ownForms.own k (n : Nat) s) (@decide (OwnS n s) (Classical.propDecidable _)) := by
 have h1 := hG.sh.1
 have h2 := hG.sh.2.1
 have hfl := formsL_length s n
 have hpos : 0 < (formsL s n).length := by omega
 have hform : (ro_ (tidyP (formsL s n)) 0).length ≤ 1048576 := by
  obtain ⟨t, _, e⟩ := (formsL_mem _ _ n).1 (head_min hpos).1
  rw [← e, formP_length]; omega
 obtain ⟨b, hb, hbe⟩ := equal_ev (ro_ (tidyP (formsL s n)) 0) s hform
 have hbo : b = @decide (OwnS n s) (Classical.propDecidable _) := by
  by_cases c : OwnS n s
  ·rw [@decide_eq_true _ (Classical.propDecidable _) c]; exact hbe.2 ((least_own hn.1 hG).2 c)
  ·rw [@decide_eq_false _ (Classical.propDecidable _) c]
   cases b with
   | false => rfl
   | true => exact absurd ((least_own hn.1 hG).1 (hbe.1 rfl)) c
 rw [← hbo]
 refine Ev.bind (f := fun k o => if o.length = 0 then none else slices_Equal_Cell.f k (minS_ o) s) (implForms_ev s n hn.2 (by omega) (by omega)) ?_
 simp only [if_neg (show ¬ (formsL s n).length = 0 by omega), minS_eq hpos]
 exact hb
theorem implSel_ev (n m : Nat) (hn : 1 ≤ n ∧ n ≤ 8) : ∀ l : List (List C), (∀ s ∈ l, GdS m s) → Ev (fun k => impl_ownForms.sel k (n : Nat) l) (ownL n l) := by
 intro l
 induction l with
 | nil => intro _; exact Ev.now _
 | cons s r ih =>
  intro h
  refine Ev.bind (f := fun k b => (impl_ownForms.sel k (n : Nat) r).bind fun t => some (if b = true then s :: t else t)) (implOwn1_ev n m hn s (h s List.mem_cons_self)) ?_
  have e : ownL n (s :: r) = if @decide (OwnS n s) (Classical.propDecidable _) = true then s :: ownL n r else ownL n r := by
   unfold ownL; rw [List.filter_cons]
  rw [e]
  exact Ev.bind (f := fun _ t => some (if @decide (OwnS n s) (Classical.propDecidable _) = true then s :: t else t)) (ih fun x hx => h x (List.mem_cons_of_mem _ hx)) (Ev.now _)
theorem implOwn_ev (m n : Nat) (hm : m ≤ 5) (hn : 1 ≤ n ∧ n ≤ 8) : Ev (fun k => impl_ownForms.f k ((m : Int) + 1) (n : Nat)) (ownL n (fixP m)) := by
 unfold impl_ownForms.f
 have hl := (fixP_length m (by omega)).1
 have hb := fixB_le m hm
 refine Ev.bind (f := fun k l => if l.length ≤ 1000000 then impl_ownForms.sel k (n : Nat) l else none) (implFixed_ev m hm) ?_
 simp only [if_pos (show (fixP m).length ≤ 1000000 by omega)]
 exact implSel_ev n (m + 1) hn (fixP m) (fixP_good m (by omega))
theorem eqCell_loop (l : List C) (hl : l.length ≤ 140737488355328) : ∀ d j : Nat, j + d = l.length → Ev (fun k => laws_eqCellS.l0 k l l (j : Nat)) true := by
 intro d
 induction d with
 | zero =>
  intro j hj
  refine Ev.step (fun k => ?_) (Ev.now _)
  simp only [laws_eqCellS.l0]; rw [if_neg (by omega)]
 | succ d ih =>
  intro j hj
  refine Ev.step (fun k => ?_) (ih (j + 1) (by omega))
  simp only [laws_eqCellS.l0, laws_eqCell.f, if_true, Option.bind_some]; rw [if_pos (by omega), if_pos (by omega), if_pos (by omega), w64 (by omega) (by omega)]; rfl
theorem eqCell_ev (l : List C) (hl : l.length ≤ 140737488355328) : Ev (fun k => laws_eqCellS.f k l l) true := by
 unfold laws_eqCellS.f
 simp only [if_true]
 exact eqCell_loop l hl l.length 0 (by omega)
def mrk (m : Int) (n : Nat) : List C := (List.range n).map fun i => ⟨m + 2 * (i : Nat), m + 2 * (i : Nat) + 1⟩
theorem mrk_length (m : Int) (n : Nat) : (mrk m n).length = n := by simp [mrk]
theorem mrk_get (m : Int) (n i : Nat) (h : i < n) : (mrk m n)[i]? = some ⟨m + 2 * (i : Nat), m + 2 * (i : Nat) + 1⟩ := by
 unfold mrk; rw [List.getElem?_map, List.getElem?_range h]; rfl
theorem mrk_at (m : Int) (n i : Nat) (h : i < n) : at_ (mrk m n) i = ⟨m + 2 * (i : Nat), m + 2 * (i : Nat) + 1⟩ := by
 unfold at_; rw [List.getD_eq_getElem?_getD, mrk_get m n i h]; rfl
theorem markCell_loop (m : Int) (n : Nat) (hn : n ≤ 1048576) (hm : 0 ≤ m) (hm2 : m ≤ 9223372036850000000) : ∀ d j : Nat, j + d = n → ∀ x : List C, x.length = n → (∀ i, i < j → x[i]? = (mrk m n)[i]?) →
  Ev (fun k => laws_markCellS.l0 k x (m + 2 * (j : Nat)) (j : Nat)) (m + 2 * (n : Nat), mrk m n) := by
 intro d
 induction d with
 | zero =>
  intro j hj x hx hi
  obtain rfl : x = mrk m n := by
   apply List.ext_getElem?
   intro i
   by_cases h : i < j
   ·exact hi i h
   ·rw [List.getElem?_eq_none (by omega), List.getElem?_eq_none (by rw [mrk_length]; omega)]
  obtain rfl : j = n := by omega
  refine Ev.step (fun k => ?_) (Ev.now _)
  simp only [laws_markCellS.l0, mrk_length]; rw [if_neg (by omega)]
 | succ d ih =>
  intro j hj x hx hi
  refine Ev.step (fun k => ?_) (ih (j + 1) (by omega) (x.set j ⟨m + 2 * (j : Nat), m + 2 * (j : Nat) + 1⟩) (by rw [List.length_set]; exact hx) ?_)
  ·simp only [laws_markCellS.l0, Option.bind_some]
   rw [if_pos (by omega), if_pos (by omega), w64 (x := (j : Int) + 1) (by omega) (by omega), w64 (x := m + 2 * (j : Nat) + 1) (by omega) (by omega), w64 (by omega) (by omega), rd_at, rd_at, List.set_set]
   have e : at_ (x.set ((j : Int).toNat) ⟨m + 2 * (j : Nat), (at_ x j).f1⟩) j = ⟨m + 2 * (j : Nat), (at_ x j).f1⟩ := by
    rw [at_get _ _ (by rw [List.length_set]; omega), Int.toNat_natCast, List.getElem_set_self]
   rw [e]
   show laws_markCellS.l0 k (x.set j ⟨m + 2 * (j : Nat), m + 2 * (j : Nat) + 1⟩) (m + 2 * (j : Nat) + 1 + 1) ((j : Int) + 1) = laws_markCellS.l0 k _ (m + 2 * ((j + 1 : Nat) : Int)) ((j + 1 : Nat) : Int)
   congr 1
   omega
  ·intro i h
   rw [List.getElem?_set]
   by_cases e : j = i
   ·subst e; rw [if_pos rfl, if_pos (by omega), mrk_get m n j (by omega)]
   ·rw [if_neg e]; exact hi i (by omega)
theorem markCell_ev (l : List C) (m : Int) (hl : l.length ≤ 1048576) (hm : 0 ≤ m) (hm2 : m ≤ 9223372036850000000) : Ev (fun k => laws_markCellS.f k l m) (m + 2 * (l.length : Int), mrk m l.length) := by
 have h := markCell_loop m l.length hl hm hm2 l.length 0 (by omega) l rfl (by intro i h; omega)
 rw [show m + 2 * ((0 : Nat) : Int) = m from by omega] at h
 exact h
theorem heldCell_loop (m : Int) (n : Nat) (hn : n ≤ 1048576) (hm : 0 ≤ m) (hm2 : m ≤ 9223372036850000000) : ∀ d j : Nat, j + d = n → Ev (fun k => laws_heldCellS.l0 k (mrk m n) (m + 2 * (j : Nat)) (j : Nat)) (m + 2 * (n : Nat)) := by
 intro d
 induction d with
 | zero =>
  intro j hj
  obtain rfl : j = n := by omega
  refine Ev.step (fun k => ?_) (Ev.now _)
  simp only [laws_heldCellS.l0, mrk_length]; rw [if_neg (by omega)]
 | succ d ih =>
  intro j hj
  refine Ev.step (fun k => ?_) (ih (j + 1) (by omega))
  simp only [laws_heldCellS.l0, mrk_length, rd_at]
  rw [mrk_at m n j (by omega), if_pos (by omega), if_pos (by omega), if_pos rfl, w64 (x := m + 2 * (j : Nat) + 1) (by omega) (by omega), if_pos rfl, w64 (x := (j : Int) + 1) (by omega) (by omega), w64 (by omega) (by omega)]
  congr 1
  omega
theorem heldCell_ev (m : Int) (n : Nat) (hn : n ≤ 1048576) (hm : 0 ≤ m) (hm2 : m ≤ 9223372036850000000) : Ev (fun k => laws_heldCellS.f k (mrk m n) m) (m + 2 * (n : Nat)) := by
 have h := heldCell_loop m n hn hm hm2 n 0 (by omega)
 rw [show m + 2 * ((0 : Nat) : Int) = m from by omega] at h
 exact h
def totR : List (List C) → Nat
 | [] => 0
 | s :: r => s.length + totR r
theorem totR_le (b : Nat) : ∀ l : List (List C), (∀ s ∈ l, s.length ≤ b) → totR l ≤ l.length * b
 | [], _ => Nat.zero_le _
 | s :: r, h => by
  have h1 := h s List.mem_cons_self
  have h2 := totR_le b r fun x hx => h x (List.mem_cons_of_mem _ hx)
  rw [totR, List.length_cons, Nat.succ_mul]; omega
def mrkR : Int → List (List C) → List (List C)
 | _, [] => []
 | m, s :: r => mrk m s.length :: mrkR (m + 2 * (s.length : Int)) r
theorem mrkR_length : ∀ (l : List (List C)) (m : Int), (mrkR m l).length = l.length
 | [], _ => rfl
 | _ :: r, m => by rw [mrkR, List.length_cons, mrkR_length r, List.length_cons]
theorem markR_ev : ∀ (l : List (List C)) (m : Int), (∀ s ∈ l, s.length ≤ 1048576) → 0 ≤ m → m + 2 * (totR l : Int) ≤ 9000000000000000000 → Ev (fun k => laws_markCellSS.f k l m) (m + 2 * (totR l : Int), mrkR m l)
 | [], m, _, _, _ => by
  rw [show m + 2 * ((totR ([] : List (List C)) : Nat) : Int) = m by simp [totR]]
  exact Ev.now _
 | s :: r, m, h, h0, h1 => by
  have hs := h s List.mem_cons_self
  have e : ((totR (s :: r) : Nat) : Int) = (s.length : Int) + (totR r : Int) := by rw [totR]; omega
  rw [e] at h1 ⊢
  refine Ev.bind (f := fun k (p : Int × List C) => (laws_markCellSS.f k r p.1).bind fun q => some (q.1, p.2 :: q.2)) (markCell_ev s m hs h0 (by omega)) ?_
  refine Ev.bind (f := fun _ (q : Int × List (List C)) => some (q.1, mrk m s.length :: q.2)) (markR_ev r (m + 2 * (s.length : Int)) (fun x hx => h x (List.mem_cons_of_mem _ hx)) (by omega) (by omega)) ?_
  rw [show m + 2 * ((s.length : Int) + (totR r : Int)) = m + 2 * (s.length : Int) + 2 * (totR r : Int) by omega]
  exact Ev.now _
theorem heldR_loop : ∀ (l pre : List (List C)) (m : Int), (∀ s ∈ l, s.length ≤ 1048576) → 0 ≤ m → m + 2 * (totR l : Int) ≤ 9000000000000000000 → pre.length + l.length ≤ 1000000000 → Ev (fun k => laws_heldCellSS.l0 k (pre ++ mrkR m l) m (pre.length : Nat)) (m + 2 * (totR l : Int))
 | [], pre, m, _, _, _, _ => by
  rw [show m + 2 * ((totR ([] : List (List C)) : Nat) : Int) = m by simp [totR]]
  refine Ev.step (f := fun _ => some m) (fun k => ?_) (Ev.now _)
  simp only [laws_heldCellSS.l0, mrkR, List.append_nil]; rw [if_neg (by omega)]
 | s :: r, pre, m, h, h0, h1, h2 => by
  have hs := h s List.mem_cons_self
  have e : ((totR (s :: r) : Nat) : Int) = (s.length : Int) + (totR r : Int) := by rw [totR]; omega
  rw [List.length_cons] at h2
  rw [e] at h1 ⊢
  have hl : (pre ++ mrkR m (s :: r)).length = pre.length + (r.length + 1) := by rw [List.length_append, mrkR_length, List.length_cons]
  have hr : ro_ (pre ++ mrkR m (s :: r)) pre.length = mrk m s.length := by
   unfold ro_; rw [List.getD_eq_getElem?_getD, List.getElem?_append_right (Nat.le_refl _), Nat.sub_self]; rfl
  have ha : pre ++ mrkR m (s :: r) = (pre ++ [mrk m s.length]) ++ mrkR (m + 2 * (s.length : Int)) r := by rw [List.append_assoc]; rfl
  have hn : ¬ m + 2 * (s.length : Int) < 0 := by omega
  refine Ev.step (f := fun k => (laws_heldCellS.f k (mrk m s.length) m).bind fun t => if t < 0 then some (-1) else laws_heldCellSS.l0 k ((pre ++ [mrk m s.length]) ++ mrkR (m + 2 * (s.length : Int)) r) t ((pre ++ [mrk m s.length]).length : Nat)) (fun k => ?_) ?_
  ·simp only [laws_heldCellSS.l0, rd_ro]
   rw [if_pos (by omega), if_pos (by omega), hr, w64 (by omega) (by omega), ha]
   rw [List.length_append, List.length_singleton]; rfl
  ·refine Ev.bind (f := fun k t => if t < 0 then some (-1) else laws_heldCellSS.l0 k ((pre ++ [mrk m s.length]) ++ mrkR (m + 2 * (s.length : Int)) r) t ((pre ++ [mrk m s.length]).length : Nat)) (heldCell_ev m s.length hs h0 (by omega)) ?_
   simp only [if_neg hn]
   rw [show m + 2 * ((s.length : Int) + (totR r : Int)) = m + 2 * (s.length : Int) + 2 * (totR r : Int) by omega]
   exact heldR_loop r (pre ++ [mrk m s.length]) (m + 2 * (s.length : Int)) (fun x hx => h x (List.mem_cons_of_mem _ hx)) (by omega) (by omega) (by rw [List.length_append, List.length_singleton]; omega)
theorem heldR_ev (l : List (List C)) (m : Int) (h : ∀ s ∈ l, s.length ≤ 1048576) (h0 : 0 ≤ m) (h1 : m + 2 * (totR l : Int) ≤ 9000000000000000000) (h2 : l.length ≤ 1000000000) : Ev (fun k => laws_heldCellSS.f k (mrkR m l) m) (m + 2 * (totR l : Int)) :=
 heldR_loop l [] m h h0 h1 (by simpa using h2)
theorem eqR_loop (l : List (List C)) (hl : l.length ≤ 1000000000) (h : ∀ s ∈ l, s.length ≤ 1048576) : ∀ d j : Nat, j + d = l.length → Ev (fun k => laws_eqCellSS.l0 k l l (j : Nat)) true := by
 intro d
 induction d with
 | zero =>
  intro j hj
  refine Ev.step (f := fun _ => some true) (fun k => ?_) (Ev.now _)
  simp only [laws_eqCellSS.l0]; rw [if_neg (by omega)]
 | succ d ih =>
  intro j hj
  refine Ev.step (f := fun k => (laws_eqCellS.f k (ro_ l j) (ro_ l j)).bind fun t => if t = true then laws_eqCellSS.l0 k l l ((j + 1 : Nat) : Int) else some false) (fun k => ?_) ?_
  ·simp only [laws_eqCellSS.l0, rd_ro]; rw [if_pos (by omega), if_pos (by omega), if_pos (by omega), w64 (by omega) (by omega)]; rfl
  ·refine Ev.bind (f := fun k t => if t = true then laws_eqCellSS.l0 k l l ((j + 1 : Nat) : Int) else some false) (eqCell_ev (ro_ l j) (by have := h _ (ro_mem l j (by omega)); omega)) ?_
   simp only [if_true]; exact ih (j + 1) (by omega)
theorem eqR_ev (l : List (List C)) (hl : l.length ≤ 1000000000) (h : ∀ s ∈ l, s.length ≤ 1048576) : Ev (fun k => laws_eqCellSS.f k l l) true := by
 unfold laws_eqCellSS.f
 simp only [if_true]
 exact eqR_loop l hl h l.length 0 (by omega)
end Go.Proofs.Ytpilmhjbgbpbmaa.M
namespace Go.Proofs.Ytpilmhjbgbpbmaa.Pure
set_option linter.unusedVariables false
set_option linter.unusedSimpArgs false
open Go.RowKit Go.Proofs.Ytpilmhjbgbpbmaa.X Go.Proofs.YtpilmhjbgbpbmaaW.PrintWords Go.Proofs.YtpilmhjbgbpbmaaW.PrintLast Go.Proofs.YtpilmhjbgbpbmaaW.PrintMore Go.Proofs.Ytpilmhjbgbpbmaa.M
theorem FnExactOneSidedShapes : laws_FnExactOneSidedShapes.Pure := by
 intro a _
 have e1 : spec_l05Order.f a = some (decide (1 ≤ a ∧ a ≤ 6)) := by unfold spec_l05Order.f; simp only [l01In_eq, Option.bind_some]
 have e2 : impl_isOrder.f a = some (decide (1 ≤ a ∧ a ≤ 6)) := by unfold impl_isOrder.f; simp only [within_eq, Option.bind_some]
 obtain ⟨r, hs, hi, hl, hb, ht⟩ : ∃ r : List (List C) × Int, Ev (fun k => spec_OneSidedShapes.f k a) r ∧ Ev (fun k => impl_OneSidedShapes.f k a) r ∧ r.1.length ≤ 1000000 ∧ (∀ s ∈ r.1, s.length ≤ 40) ∧ totR r.1 ≤ 40000000 := by
  by_cases h : 1 ≤ a ∧ a ≤ 6
  ·obtain ⟨m, rfl⟩ : ∃ m : Nat, a = (m : Int) + 1 := ⟨(a - 1).toNat, by omega⟩
   have hm : m ≤ 5 := by omega
   have hl := (fixP_length m (by omega)).1
   have hb := fixB_le m hm
   have hg := fixP_good m (by omega)
   have hol := ownL_length 4 (fixP m)
   have h40 : ∀ s ∈ ownL 4 (fixP m), s.length ≤ 40 := fun s hs => (hg s (List.mem_filter.1 hs).1).sh.2.1
   refine ⟨(ownL 4 (fixP m), 0), ?_, ?_, by simp only; omega, h40, Nat.le_trans (totR_le 40 (ownL 4 (fixP m)) h40) (by omega)⟩
   ·unfold spec_OneSidedShapes.f
    simp only [e1, Option.bind_some, decide_eq_true h, if_true]
    refine Ev.bind (f := fun k q => (spec_l05Own.f k q 4).bind fun o => some (o, (0 : Int))) (specFixed_ev m hm) ?_
    exact Ev.bind (f := fun _ q => some (q, (0 : Int))) (specOwn_ev (fixP m) 4 (m + 1) (by omega) (by omega) hg) (Ev.now _)
   ·unfold impl_OneSidedShapes.f
    simp only [e2, Option.bind_some, decide_eq_true h, if_true]
    exact Ev.bind (f := fun _ q => some (q, (0 : Int))) (implOwn_ev m 4 hm (by omega)) (Ev.now _)
  ·refine ⟨([], 2), ?_, ?_, by simp, by simp, by simp [totR]⟩
   ·unfold spec_OneSidedShapes.f
    simp only [e1, Option.bind_some, decide_eq_false h, Bool.false_eq_true, if_false]; exact Ev.now _
   ·unfold impl_OneSidedShapes.f
    simp only [e2, Option.bind_some, decide_eq_false h, Bool.false_eq_true, if_false]; exact Ev.now _
 have hb2 : ∀ s ∈ r.1, s.length ≤ 1048576 := fun s hs => by have := hb s hs; omega
 obtain ⟨K, f1, f2, f3, f4, f5⟩ := ev5 hs hi (eqR_ev r.1 (by omega) hb2) (markR_ev r.1 1 hb2 (by omega) (by omega)) (heldR_ev r.1 1 hb2 (by omega) (by omega) (by omega))
 have f1 := f1 0; have f2 := f2 0; have f3 := f3 0; have f4 := f4 0; have f5 := f5 0
 rw [Nat.add_zero] at f1 f2 f3 f4 f5
 refine ⟨K, ?_⟩
 have n1 : ¬ (1 + 2 * (totR r.1 : Int) < 0) := by omega
 simp only [laws_FnExactOneSidedShapes.f, f1, f2, f3, f4, f5, Option.bind_some]
 rw [if_pos (by first | exact ⟨rfl, rfl⟩ | exact ⟨trivial, trivial⟩), if_pos (by first | exact ⟨rfl, n1⟩ | exact ⟨trivial, n1⟩)]
end Go.Proofs.Ytpilmhjbgbpbmaa.Pure
