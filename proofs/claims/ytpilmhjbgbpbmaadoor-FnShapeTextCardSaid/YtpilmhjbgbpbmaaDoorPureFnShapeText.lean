/- A shape in normal form is recovered from its text: the law answers true for every code, without any condition. -/
import Derived.Test.YtpilmhjbgbpbmaaDoorXx0
import Derived.Test.YtpilmhjbgbpbmaaDoorXx2
import Derived.Test.YtpilmhjbgbpbmaaDoorXx3
import Derived.Test.YtpilmhjbgbpbmaaDoorXx4
import Derived.Test.YtpilmhjbgbpbmaaDoorXx5
import Derived.Test.YtpilmhjbgbpbmaaDoorXx6
import Derived.Test.YtpilmhjbgbpbmaaDoorXx7
namespace Go.Proofs.YtpilmhjbgbpbmaaDoor.M
set_option linter.unusedVariables false
set_option linter.unusedSimpArgs false
open Go.RowKit Go.Proofs.YtpilmhjbgbpbmaaDoor.X Go.Proofs.YtpilmhjbgbpbmaaDoorW.PrintWords Go.Proofs.YtpilmhjbgbpbmaaDoorW.PrintLast Go.Proofs.YtpilmhjbgbpbmaaDoorW.PrintMore
theorem w64 {x : Int} (h1 : -9223372036854775808 ≤ x) (h2 : x ≤ 9223372036854775807) : wrap64 x = x := by unfold wrap64; omega
theorem w64_hi (x : Int) : wrap64 x ≤ 9223372036854775807 := by unfold wrap64; omega
theorem rd_byte {c : List Int} (h : ∀ x ∈ c, 0 ≤ x ∧ x ≤ 255) (i : Int) : 0 ≤ rd c i ∧ rd c i ≤ 255 := by
 unfold rd
 rw [List.getD_eq_getElem?_getD]
 by_cases hi : i.toNat < c.length
 ·rw [List.getElem?_eq_getElem hi]; exact h _ (List.getElem_mem hi)
 ·rw [List.getElem?_eq_none (by omega)]; decide
theorem tmod_pos {a n : Int} (h : 0 ≤ a) (hn : 0 < n) : 0 ≤ Int.tmod a n ∧ Int.tmod a n < n := by
 rw [Int.tmod_eq_emod_of_nonneg h]; exact ⟨Int.emod_nonneg _ (by omega), Int.emod_lt_of_pos _ hn⟩
theorem bytes_of {l : List Int} (h : ∀ x ∈ l, (Lit.int .u8 x).wf = true) : ∀ x ∈ l, 0 ≤ x ∧ x ≤ 255 := by
 intro x hx
 have := h x hx
 simp only [Lit.wf, Bool.and_eq_true, decide_eq_true_eq] at this
 exact this
abbrev C := S43
def at_ (l : List C) (j : Nat) : C := l.getD j ⟨0, 0⟩
theorem rd_at (l : List C) (j : Nat) : rd_T43 l (j : Int) = at_ l j := by unfold rd_T43 at_; rw [Int.toNat_natCast]; rfl
theorem at_get (l : List C) (j : Nat) (h : j < l.length) : at_ l j = l[j] := by unfold at_; rw [List.getD_eq_getElem?_getD, List.getElem?_eq_getElem h]; rfl
theorem at_mem (l : List C) (j : Nat) (h : j < l.length) : at_ l j ∈ l := by rw [at_get l j h]; exact List.getElem_mem h
theorem drop_at (l : List C) (j : Nat) (h : j < l.length) : l.drop j = at_ l j :: l.drop (j + 1) := by rw [at_get l j h, List.drop_eq_getElem_cons h]
def AE (P : Nat → Prop) : Prop := ∃ K, ∀ k, K ≤ k → P k
theorem AE.and {P Q : Nat → Prop} (h : AE P) (g : AE Q) : AE (fun k => P k ∧ Q k) := by
 obtain ⟨K, h⟩ := h; obtain ⟨L, g⟩ := g
 exact ⟨K + L, fun k hk => ⟨h k (by omega), g k (by omega)⟩⟩
theorem AE.up {P : Nat → Prop} (h : AE P) : ∃ K, ∀ n, P (K + n) := by
 obtain ⟨K, h⟩ := h; exact ⟨K, fun n => h _ (by omega)⟩
theorem evae {α : Type} {g : Nat → Option α} {a : α} (h : Ev g a) : AE (fun k => g k = some a) := h
theorem evup {α : Type} {g : Nat → Option α} {a : α} (h : Ev g a) : ∃ K, ∀ n, g (K + n) = some a := AE.up h
theorem ev2 {α0 α1 : Type} {g0 : Nat → Option α0} {g1 : Nat → Option α1} {a0 : α0} {a1 : α1} (h0 : Ev g0 a0) (h1 : Ev g1 a1) : ∃ K, (∀ n, g0 (K + n) = some a0) ∧ (∀ n, g1 (K + n) = some a1) := by
 obtain ⟨K, h⟩ := AE.up (AE.and (evae h0) (evae h1)); exact ⟨K, fun n => (h n).1, fun n => (h n).2⟩
theorem ev3 {α0 α1 α2 : Type} {g0 : Nat → Option α0} {g1 : Nat → Option α1} {g2 : Nat → Option α2} {a0 : α0} {a1 : α1} {a2 : α2} (h0 : Ev g0 a0) (h1 : Ev g1 a1) (h2 : Ev g2 a2) : ∃ K, (∀ n, g0 (K + n) = some a0) ∧ (∀ n, g1 (K + n) = some a1) ∧ (∀ n, g2 (K + n) = some a2) := by
 obtain ⟨K, h⟩ := AE.up (AE.and (evae h0) (AE.and (evae h1) (evae h2))); exact ⟨K, fun n => (h n).1, fun n => (h n).2.1, fun n => (h n).2.2⟩
theorem ev4 {α0 α1 α2 α3 : Type} {g0 : Nat → Option α0} {g1 : Nat → Option α1} {g2 : Nat → Option α2} {g3 : Nat → Option α3} {a0 : α0} {a1 : α1} {a2 : α2} {a3 : α3} (h0 : Ev g0 a0) (h1 : Ev g1 a1) (h2 : Ev g2 a2) (h3 : Ev g3 a3) : ∃ K, (∀ n, g0 (K + n) = some a0) ∧ (∀ n, g1 (K + n) = some a1) ∧ (∀ n, g2 (K + n) = some a2) ∧ (∀ n, g3 (K + n) = some a3) := by
 obtain ⟨K, h⟩ := AE.up (AE.and (evae h0) (AE.and (evae h1) (AE.and (evae h2) (evae h3)))); exact ⟨K, fun n => (h n).1, fun n => (h n).2.1, fun n => (h n).2.2.1, fun n => (h n).2.2.2⟩
theorem ev7 {α0 α1 α2 α3 α4 α5 α6 : Type} {g0 : Nat → Option α0} {g1 : Nat → Option α1} {g2 : Nat → Option α2} {g3 : Nat → Option α3} {g4 : Nat → Option α4} {g5 : Nat → Option α5} {g6 : Nat → Option α6} {a0 : α0} {a1 : α1} {a2 : α2} {a3 : α3} {a4 : α4} {a5 : α5} {a6 : α6} (h0 : Ev g0 a0) (h1 : Ev g1 a1) (h2 : Ev g2 a2) (h3 : Ev g3 a3) (h4 : Ev g4 a4) (h5 : Ev g5 a5) (h6 : Ev g6 a6) : ∃ K, (∀ n, g0 (K + n) = some a0) ∧ (∀ n, g1 (K + n) = some a1) ∧ (∀ n, g2 (K + n) = some a2) ∧ (∀ n, g3 (K + n) = some a3) ∧ (∀ n, g4 (K + n) = some a4) ∧ (∀ n, g5 (K + n) = some a5) ∧ (∀ n, g6 (K + n) = some a6) := by
 obtain ⟨K, h⟩ := AE.up (AE.and (evae h0) (AE.and (evae h1) (AE.and (evae h2) (AE.and (evae h3) (AE.and (evae h4) (AE.and (evae h5) (evae h6))))))); exact ⟨K, fun n => (h n).1, fun n => (h n).2.1, fun n => (h n).2.2.1, fun n => (h n).2.2.2.1, fun n => (h n).2.2.2.2.1, fun n => (h n).2.2.2.2.2.1, fun n => (h n).2.2.2.2.2.2⟩
theorem ev_fold {σ β : Type} (F : Nat → σ → Int → Option β) (l : List C) (g : σ → C → σ) (fin : σ → Option β) (r : β) (inv : Nat → σ → Prop)
  (step : ∀ k s (j : Nat), j < l.length → at_ l j ∈ l → inv j s → F (k + 1) s (j : Nat) = F k (g s (at_ l j)) ((j + 1 : Nat) : Int) ∧ inv (j + 1) (g s (at_ l j)))
  (done : ∀ k s, inv l.length s → F (k + 1) s (l.length : Nat) = fin s) (j0 : Nat) (hj0 : j0 ≤ l.length) (s0 : σ) (h0 : inv j0 s0) (hr : fin ((l.drop j0).foldl g s0) = some r) : Ev (fun k => F k s0 (j0 : Nat)) r := by
 have key : ∀ d j : Nat, j + d = l.length → ∀ s, inv j s → fin ((l.drop j).foldl g s) = some r → Ev (fun k => F k s (j : Nat)) r := by
  intro d
  induction d with
  | zero =>
   intro j hj s hs hr
   obtain rfl : j = l.length := by omega
   refine Ev.step (fun k => done k s hs) ?_
   rw [List.drop_length] at hr
   have hr' : fin s = some r := hr
   rw [hr']; exact Ev.now r
  | succ d ih =>
   intro j hj s hs hr
   have h : j < l.length := by omega
   refine Ev.step (fun k => (step k s j h (at_mem l j h) hs).1) (ih (j + 1) (by omega) _ ((step 0 s j h (at_mem l j h) hs).2) ?_)
   rw [drop_at l j h] at hr; exact hr
 exact key (l.length - j0) j0 (by omega) s0 h0 hr
theorem l01In_eq (a b c : Int) : spec_l01In.f a b c = some (decide (b ≤ a ∧ a ≤ c)) := by
 unfold spec_l01In.f; by_cases h : a ≥ b
 ·rw [if_pos h]; simp [h]
 ·rw [if_neg h]; simp; omega
theorem within_eq (a b c : Int) : impl_within.f a b c = some (decide (b ≤ a ∧ a ≤ c)) := l01In_eq a b c
def ltC (a b : C) : Prop := a.f1 < b.f1 ∨ (a.f1 = b.f1 ∧ a.f0 < b.f0)
instance (a b : C) : Decidable (ltC a b) := by unfold ltC; exact inferInstance
def okC (a : C) : Prop := -100 ≤ a.f0 ∧ a.f0 ≤ 100 ∧ -100 ≤ a.f1 ∧ a.f1 ≤ 100
instance (a : C) : Decidable (okC a) := by unfold okC; exact inferInstance
def Sh (l : List C) : Prop := 1 ≤ l.length ∧ l.length ≤ 40 ∧ (∀ i, i < l.length → okC (at_ l i)) ∧ (∀ i, i + 1 < l.length → ltC (at_ l i) (at_ l (i + 1)))
noncomputable def shB (l : List C) : Bool := @decide (Sh l) (Classical.propDecidable _)
theorem shB_true {l : List C} (h : Sh l) : shB l = true := @decide_eq_true _ (Classical.propDecidable _) h
theorem shB_false {l : List C} (h : ¬ Sh l) : shB l = false := @decide_eq_false _ (Classical.propDecidable _) h
theorem less_eq (a b c d : Int) : spec_l02Less.f a b c d = some (decide (ltC ⟨a, b⟩ ⟨c, d⟩)) := by
 unfold spec_l02Less.f ltC
 by_cases h : b < d
 ·rw [if_pos h]; simp [h]
 ·rw [if_neg h]
  by_cases e : b = d
  ·rw [if_pos e]; simp [e]
  ·rw [if_neg e]; simp [h, e]
theorem cellOk_eq (a b : Int) : spec_l02Cell.f a b = some (decide (okC ⟨a, b⟩)) := by
 unfold spec_l02Cell.f okC
 simp only [l01In_eq, Option.bind_some]
 by_cases h : -100 ≤ a ∧ a ≤ 100
 ·simp [h]
 ·simp only [decide_eq_false h, Bool.false_eq_true, if_false]; congr 1; exact (decide_eq_false (fun g => h ⟨g.1, g.2.1⟩)).symm
theorem isCo_eq (a : Int) : impl_isCoordinate.f a = some (decide (-100 ≤ a ∧ a ≤ 100)) := by
 unfold impl_isCoordinate.f; simp only [within_eq, Option.bind_some]
theorem cmp_eq (a b : Int) : cmp_Compare_int64.f a b = some (if a < b then -1 else if b < a then 1 else 0) := by
 unfold cmp_Compare_int64.f cmp_isNaN_int64.f
 simp only [bne_self_eq_false, Option.bind_some, Bool.false_eq_true, if_false]
 by_cases h : a < b
 ·simp [h]
 ·by_cases g : b < a <;> simp [h, g]
def cmpC (a b : C) : Int := if ltC a b then -1 else if ltC b a then 1 else 0
theorem cmpCells_eq (a b c d : Int) : impl_compareCells.f a b c d = some (cmpC ⟨a, b⟩ ⟨c, d⟩) := by
 unfold impl_compareCells.f cmpC ltC
 simp only [cmp_eq, Option.bind_some]
 by_cases h : b < d
 ·simp [h]
 ·by_cases g : d < b
  ·have : ¬ b = d := by omega
   have : ¬ d = b := by omega
   simp [*]
  ·obtain rfl : b = d := by omega
   simp [h]
theorem cmpC_neg (a b : C) : (0 ≤ cmpC a b) ↔ ¬ ltC a b := by
 unfold cmpC; by_cases h : ltC a b
 ·simp [h]
 ·simp only [h, if_false, not_false_eq_true, iff_true]; split <;> omega
theorem specShape_loop (l : List C) (hl : l.length ≤ 1048576) : ∀ d j : Nat, j + d = l.length → (∀ i, i < j → okC (at_ l i)) → (∀ i, i + 1 < j → ltC (at_ l i) (at_ l (i + 1))) → Ev (fun k => spec_IsShape.l0 k l (j : Nat)) (shB l) := by
 intro d
 induction d with
 | zero =>
  intro j hj h1 h2
  obtain rfl : j = l.length := by omega
  refine Ev.step (fun k => ?_) (Ev.now _)
  simp only [spec_IsShape.l0, l01In_eq, Option.bind_some]; rw [if_neg (by omega)]
  congr 1
  by_cases h : 1 ≤ l.length ∧ l.length ≤ 40
  ·rw [shB_true ⟨h.1, h.2, h1, h2⟩]; exact decide_eq_true (by omega)
  ·rw [shB_false (fun g => h ⟨g.1, g.2.1⟩)]; exact decide_eq_false (by omega)
 | succ d ih =>
  intro j hj h1 h2
  by_cases c1 : okC (at_ l j)
  ·have c1' : okC ⟨(at_ l j).f0, (at_ l j).f1⟩ := c1
   by_cases c2 : j = 0
   ·subst c2
    refine Ev.step (fun k => ?_) (ih 1 (by omega) (fun i hi => by obtain rfl : i = 0 := (by omega); exact c1) (fun i hi => by omega))
    simp only [spec_IsShape.l0, rd_at, cellOk_eq, decide_eq_true c1', Option.bind_some, if_true]
    rw [if_pos (by omega), if_pos (by omega), if_neg (by omega), w64 (by omega) (by omega)]; rfl
   ·obtain ⟨i, rfl⟩ : ∃ i, j = i + 1 := ⟨j - 1, by omega⟩
    have e : wrap64 (((i + 1 : Nat) : Int) - 1) = (i : Nat) := by rw [w64 (by omega) (by omega)]; omega
    by_cases c3 : ltC (at_ l i) (at_ l (i + 1))
    ·have c3' : ltC ⟨(at_ l i).f0, (at_ l i).f1⟩ ⟨(at_ l (i + 1)).f0, (at_ l (i + 1)).f1⟩ := c3
     refine Ev.step (fun k => ?_) (ih (i + 1 + 1) (by omega) (fun x hx => if g : x = i + 1 then by rw [g]; exact c1 else h1 x (by omega)) (fun x hx => if g : x = i then by rw [g]; exact c3 else h2 x (by omega)))
     simp only [spec_IsShape.l0, rd_at, cellOk_eq, decide_eq_true c1', Option.bind_some, if_true, e, less_eq, decide_eq_true c3']
     rw [if_pos (by omega), if_pos (by omega), if_pos (by omega), if_pos (by omega), if_pos (by omega), w64 (by omega) (by omega)]; rfl
    ·have c3' : ¬ ltC ⟨(at_ l i).f0, (at_ l i).f1⟩ ⟨(at_ l (i + 1)).f0, (at_ l (i + 1)).f1⟩ := c3
     rw [shB_false (fun g => c3 (g.2.2.2 i (by omega)))]
     refine Ev.step (fun k => ?_) (Ev.now _)
     simp only [spec_IsShape.l0, rd_at, cellOk_eq, decide_eq_true c1', Option.bind_some, if_true, e, less_eq, decide_eq_false c3', Bool.false_eq_true, if_false]
     rw [if_pos (by omega), if_pos (by omega), if_pos (by omega), if_pos (by omega), if_pos (by omega)]
  ·have c1' : ¬ okC ⟨(at_ l j).f0, (at_ l j).f1⟩ := c1
   rw [shB_false (fun g => c1 (g.2.2.1 j (by omega)))]
   refine Ev.step (fun k => ?_) (Ev.now _)
   simp only [spec_IsShape.l0, rd_at, cellOk_eq, decide_eq_false c1', Option.bind_some, Bool.false_eq_true, if_false]
   rw [if_pos (by omega), if_pos (by omega)]
theorem specShape_ev (l : List C) (hl : l.length ≤ 1048576) : Ev (fun k => spec_IsShape.f k l) (shB l) :=
 specShape_loop l hl l.length 0 (by omega) (fun i hi => by omega) (fun i hi => by omega)
theorem implShape_loop (l : List C) (hl : l.length ≤ 1048576) : ∀ d j : Nat, j + d = l.length → (∀ i, i < j → okC (at_ l i)) → (∀ i, i + 1 < j → ltC (at_ l i) (at_ l (i + 1))) → Ev (fun k => impl_IsShape.l0 k l l (l.length : Int) (j : Nat)) (shB l) := by
 intro d
 induction d with
 | zero =>
  intro j hj h1 h2
  obtain rfl : j = l.length := by omega
  refine Ev.step (fun k => ?_) (Ev.now _)
  simp only [impl_IsShape.l0]; rw [if_neg (by omega)]
  by_cases h : 1 ≤ l.length ∧ l.length ≤ 40
  ·rw [shB_true ⟨h.1, h.2, h1, h2⟩, if_pos (by omega)]; congr 1; exact decide_eq_true (by omega)
  ·rw [shB_false (fun g => h ⟨g.1, g.2.1⟩)]
   by_cases g : (l.length : Int) ≥ 1
   ·rw [if_pos g]; congr 1; exact decide_eq_false (by omega)
   ·rw [if_neg g]
 | succ d ih =>
  intro j hj h1 h2
  by_cases c1 : okC (at_ l j)
  ·have ca : -100 ≤ (at_ l j).f0 ∧ (at_ l j).f0 ≤ 100 := ⟨c1.1, c1.2.1⟩
   have cb : -100 ≤ (at_ l j).f1 ∧ (at_ l j).f1 ≤ 100 := c1.2.2
   by_cases c2 : j = 0
   ·subst c2
    refine Ev.step (fun k => ?_) (ih 1 (by omega) (fun i hi => by obtain rfl : i = 0 := (by omega); exact c1) (fun i hi => by omega))
    simp only [impl_IsShape.l0, rd_at, isCo_eq, decide_eq_true ca, decide_eq_true cb, Option.bind_some, if_true]
    rw [if_pos (by omega), if_pos (by omega), if_pos (by omega), if_neg (by omega), w64 (by omega) (by omega)]; rfl
   ·obtain ⟨i, rfl⟩ : ∃ i, j = i + 1 := ⟨j - 1, by omega⟩
    have e : wrap64 (((i + 1 : Nat) : Int) - 1) = (i : Nat) := by rw [w64 (by omega) (by omega)]; omega
    by_cases c3 : ltC (at_ l i) (at_ l (i + 1))
    ·have c3' : ¬ (cmpC ⟨(at_ l i).f0, (at_ l i).f1⟩ ⟨(at_ l (i + 1)).f0, (at_ l (i + 1)).f1⟩ ≥ 0) := fun g => (cmpC_neg _ _).1 g c3
     refine Ev.step (fun k => ?_) (ih (i + 1 + 1) (by omega) (fun x hx => if g : x = i + 1 then by rw [g]; exact c1 else h1 x (by omega)) (fun x hx => if g : x = i then by rw [g]; exact c3 else h2 x (by omega)))
     simp only [impl_IsShape.l0, rd_at, isCo_eq, decide_eq_true ca, decide_eq_true cb, Option.bind_some, if_true, e, cmpCells_eq, if_neg c3']
     rw [if_pos (by omega), if_pos (by omega), if_pos (by omega), if_pos (by omega), if_pos (by omega), if_pos (by omega), w64 (by omega) (by omega)]; rfl
    ·have c3' : cmpC ⟨(at_ l i).f0, (at_ l i).f1⟩ ⟨(at_ l (i + 1)).f0, (at_ l (i + 1)).f1⟩ ≥ 0 := (cmpC_neg _ _).2 c3
     rw [shB_false (fun g => c3 (g.2.2.2 i (by omega)))]
     refine Ev.step (fun k => ?_) (Ev.now _)
     simp only [impl_IsShape.l0, rd_at, isCo_eq, decide_eq_true ca, decide_eq_true cb, Option.bind_some, if_true, e, cmpCells_eq, if_pos c3']
     rw [if_pos (by omega), if_pos (by omega), if_pos (by omega), if_pos (by omega), if_pos (by omega), if_pos (by omega)]
  ·rw [shB_false (fun g => c1 (g.2.2.1 j (by omega)))]
   refine Ev.step (fun k => ?_) (Ev.now _)
   simp only [impl_IsShape.l0, rd_at, isCo_eq, Option.bind_some]
   rw [if_pos (by omega), if_pos (by omega), if_pos (by omega)]
   by_cases ca : -100 ≤ (at_ l j).f0 ∧ (at_ l j).f0 ≤ 100
   ·have cb : ¬ (-100 ≤ (at_ l j).f1 ∧ (at_ l j).f1 ≤ 100) := fun cb => c1 ⟨ca.1, ca.2, cb.1, cb.2⟩
    simp only [decide_eq_true ca, decide_eq_false cb, if_true, Bool.false_eq_true, if_false]
   ·simp only [decide_eq_false ca, Bool.false_eq_true, if_false]
theorem implShape_ev (l : List C) (hl : l.length ≤ 1048576) : Ev (fun k => impl_IsShape.f k l) (shB l) :=
 implShape_loop l hl l.length 0 (by omega) (fun i hi => by omega) (fun i hi => by omega)
theorem mem_at {l : List C} {c : C} (h : c ∈ l) : ∃ i, i < l.length ∧ at_ l i = c := by
 obtain ⟨i, hi, e⟩ := List.mem_iff_getElem.1 h
 exact ⟨i, hi, (at_get l i hi).trans e⟩
theorem Sh.ok {l : List C} (h : Sh l) {c : C} (hc : c ∈ l) : okC c := by
 obtain ⟨i, hi, rfl⟩ := mem_at hc
 exact h.2.2.1 i hi
theorem ltC_trans {a b c : C} (h : ltC a b) (g : ltC b c) : ltC a c := by unfold ltC at *; omega
theorem ltC_irrefl {a : C} (h : ltC a a) : False := by unfold ltC at h; omega
theorem Sh.lt {l : List C} (h : Sh l) : ∀ i j, i < j → j < l.length → ltC (at_ l i) (at_ l j) := by
 intro i j
 induction j with
 | zero => intro h; omega
 | succ j ih =>
  intro hij hj
  by_cases e : i = j
  ·subst e; exact h.2.2.2 i hj
  ·exact ltC_trans (ih (by omega) (by omega)) (h.2.2.2 j hj)
theorem sh_cases (l : List C) : (Sh l ∧ shB l = true) ∨ (¬ Sh l ∧ shB l = false) := by
 by_cases h : Sh l
 ·exact Or.inl ⟨h, shB_true h⟩
 ·exact Or.inr ⟨h, shB_false h⟩
structure Src (c : List Int) (i s : Int) : Prop where
 bytes : ∀ x ∈ c, 0 ≤ x ∧ x ≤ 255
 lo : 0 ≤ i
 hi : i ≤ c.length
 len : c.length ≤ 140737488355328
 s0 : 0 ≤ s
 s1 : s < 2147483647
theorem next_some {c : List Int} {i s : Int} (h : Src c i s) (n : Int) (_ : n ≤ 9223372036854775807) : ∃ r i' s', spec_l01Next.f c i s n = some (r, i', s') ∧ Src c i' s' ∧ 0 ≤ r ∧ (1 ≤ n → r < n) ∧ (n ≤ 1 → r = 0) := by
 obtain ⟨hb, hlo, hhi, hlen, h0, h1⟩ := h
 have hr := rd_byte hb i
 unfold spec_l01Next.f
 by_cases c1 : n ≤ 1
 ·rw [if_pos c1]; exact ⟨0, i, s, rfl, ⟨hb, hlo, hhi, hlen, h0, h1⟩, by omega, by omega, fun _ => rfl⟩
 ·rw [if_neg c1, if_pos (by omega)]
  have s0 := Int.emod_nonneg (s * 48271 + 29) (show (2147483647 : Int) ≠ 0 by omega)
  have s1 := Int.emod_lt_of_pos (s * 48271 + 29) (show (0 : Int) < 2147483647 by omega)
  generalize (s * 48271 + 29) % 2147483647 = s' at s0 s1 ⊢
  have fin : ∀ x : Int, 0 ≤ x % n ∧ (1 ≤ n → x % n < n) ∧ (n ≤ 1 → x % n = 0) := fun x => ⟨Int.emod_nonneg _ (by omega), fun _ => Int.emod_lt_of_pos _ (by omega), fun z => by omega⟩
  by_cases c2 : i < (c.length : Int)
  ·rw [if_pos c2]
   have hS : Src c (i + 1) s' := ⟨hb, by omega, by omega, hlen, s0, s1⟩
   split
   ·exact ⟨_, _, _, rfl, hS, fin _⟩
   ·exact ⟨_, _, _, rfl, hS, fin _⟩
  ·rw [if_neg c2]
   exact ⟨_, _, _, rfl, ⟨hb, hlo, hhi, hlen, s0, s1⟩, fin _⟩
theorem from_loop {c : List Int} (hb : ∀ x ∈ c, 0 ≤ x ∧ x ≤ 255) (hl : c.length ≤ 140737488355328) : ∀ d : Nat, ∀ i s : Int, 0 ≤ i → (c.length : Int) - i ≤ d → i ≤ c.length → 0 ≤ s → s < 2147483647 →
  ∃ s', Ev (fun k => spec_l01From.l0 k c i c 0 s) (c, 0, s') ∧ Src c 0 s' := by
 intro d
 induction d with
 | zero =>
  intro i s h0 h1 h2 h3 h4
  refine ⟨s, Ev.step (fun k => ?_) (Ev.now _), ⟨hb, by omega, by omega, hl, h3, h4⟩⟩
  simp only [spec_l01From.l0]; rw [if_neg (by omega)]
 | succ d ih =>
  intro i s h0 h1 h2 h3 h4
  by_cases hc : i < (c.length : Int) ∧ i < 64
  ·have hr := rd_byte hb i
   have ht := tmod_pos (a := s * 47 + rd c i) (n := 2147483647) (by omega) (by omega)
   obtain ⟨s', he, hs⟩ := ih (i + 1) (Int.tmod (s * 47 + rd c i) 2147483647) (by omega) (by omega) (by omega) ht.1 ht.2
   refine ⟨s', Ev.step (fun k => ?_) he, hs⟩
   simp only [spec_l01From.l0]; rw [if_pos hc.1, if_pos hc.2, if_pos h0, w64 (x := i + 1) (by omega) (by omega), w64 (x := s * 47) (by omega) (by omega), w64 (x := rd c i) (by omega) (by omega), w64 (by omega) (by omega)]
  ·refine ⟨s, Ev.step (fun k => ?_) (Ev.now _), ⟨hb, by omega, by omega, hl, h3, h4⟩⟩
   simp only [spec_l01From.l0]
   by_cases hc1 : i < (c.length : Int)
   ·rw [if_pos hc1, if_neg (by omega)]
   ·rw [if_neg hc1]
theorem from_some {c : List Int} (hb : ∀ x ∈ c, 0 ≤ x ∧ x ≤ 255) (hl : c.length ≤ 140737488355328) : ∃ s', Ev (fun k => spec_l01From.f k c) (c, 0, s') ∧ Src c 0 s' := by
 exact from_loop hb hl c.length 0 61003 (by omega) (by omega) (by omega) (by omega) (by omega)
def ixF : Nat → List C → Int → Int → Int
 | _, [], _, _ => -1
 | j, c :: r, x, y => if c.f0 = x ∧ c.f1 = y then (j : Int) else ixF (j + 1) r x y
theorem ixF_mem (x y : Int) : ∀ (r : List C) (j : Nat), 0 ≤ ixF j r x y ↔ (⟨x, y⟩ : C) ∈ r := by
 intro r
 induction r with
 | nil => intro j; simp [ixF]
 | cons c r ih =>
  intro j
  unfold ixF
  by_cases h : c.f0 = x ∧ c.f1 = y
  ·rw [if_pos h]
   constructor
   ·intro _; obtain ⟨rfl, rfl⟩ := h; exact List.mem_cons_self
   ·intro _; omega
  ·rw [if_neg h, ih (j + 1), List.mem_cons]
   constructor
   ·exact fun g => Or.inr g
   ·rintro (g | g)
    ·exact absurd (by rw [← g]; exact ⟨rfl, rfl⟩) h
    ·exact g
def hasC (l : List C) (x y : Int) : Bool := decide (0 ≤ ixF 0 l x y)
theorem hasC_iff (l : List C) (x y : Int) : hasC l x y = true ↔ (⟨x, y⟩ : C) ∈ l := by unfold hasC; rw [decide_eq_true_eq]; exact ixF_mem x y l 0
theorem specIx_loop (l : List C) (x y : Int) (hl : l.length ≤ 1048576) : ∀ d j : Nat, j + d = l.length → Ev (fun k => spec_l02Index.l0 k l (j : Nat) x y) (ixF j (l.drop j) x y) := by
 intro d
 induction d with
 | zero =>
  intro j hj
  obtain rfl : j = l.length := by omega
  rw [List.drop_length]
  refine Ev.step (fun k => ?_) (Ev.now _)
  simp only [spec_l02Index.l0, ixF]; rw [if_neg (by omega)]
 | succ d ih =>
  intro j hj
  rw [drop_at l j (by omega)]
  have e : ∀ k, spec_l02Index.l0 (k + 1) l (j : Nat) x y = if (at_ l j).f0 = x ∧ (at_ l j).f1 = y then some (j : Int) else spec_l02Index.l0 k l ((j + 1 : Nat) : Int) x y := by
   intro k
   simp only [spec_l02Index.l0, rd_at, Bool.and_eq_true, beq_iff_eq]
   rw [if_pos (by omega), if_pos (by omega), w64 (by omega) (by omega)]; rfl
  unfold ixF
  by_cases c : (at_ l j).f0 = x ∧ (at_ l j).f1 = y
  ·rw [if_pos c]; exact Ev.step (f := fun _ => some (j : Int)) (fun k => (e k).trans (if_pos c)) (Ev.now _)
  ·rw [if_neg c]; exact Ev.step (fun k => (e k).trans (if_neg c)) (ih (j + 1) (by omega))
theorem specIx_ev (l : List C) (x y : Int) (hl : l.length ≤ 1048576) : Ev (fun k => spec_l02Index.f k l x y) (ixF 0 l x y) :=
 specIx_loop l x y hl l.length 0 (by omega)
theorem foldl_pair (g1 g2 : Int → C → Int) (l : List C) : ∀ a b, l.foldl (fun (s : Int × Int) c => (g1 s.1 c, g2 s.2 c)) (a, b) = (l.foldl g1 a, l.foldl g2 b) := by
 induction l with
 | nil => intro a b; rfl
 | cons c r ih => intro a b; exact ih _ _
def mxF (f : C → Int) (l : List C) (s : Int) : Int := l.foldl (fun s c => mx s (f c)) s
def mnF (f : C → Int) (l : List C) (s : Int) : Int := l.foldl (fun s c => mn s (f c)) s
theorem mxF_spec (f : C → Int) (l : List C) : ∀ s, s ≤ mxF f l s ∧ (∀ c ∈ l, f c ≤ mxF f l s) ∧ (mxF f l s = s ∨ ∃ c ∈ l, mxF f l s = f c) := by
 induction l with
 | nil => intro s; exact ⟨Int.le_refl _, (fun c h => by cases h), Or.inl rfl⟩
 | cons d r ih =>
  intro s
  obtain ⟨h1, h2, h3⟩ := ih (mx s (f d))
  have e : mxF f (d :: r) s = mxF f r (mx s (f d)) := rfl
  rw [e]
  have m1 : s ≤ mx s (f d) ∧ f d ≤ mx s (f d) ∧ (mx s (f d) = s ∨ mx s (f d) = f d) := by unfold mx; split <;> omega
  refine ⟨by omega, fun c hc => ?_, ?_⟩
  ·rcases List.mem_cons.1 hc with rfl | hc
   ·omega
   ·exact h2 c hc
  ·rcases h3 with h3 | ⟨c, hc, h3⟩
   ·rcases m1.2.2 with m | m
    ·exact Or.inl (h3.trans m)
    ·exact Or.inr ⟨d, List.mem_cons_self, h3.trans m⟩
   ·exact Or.inr ⟨c, List.mem_cons_of_mem _ hc, h3⟩
theorem mnF_spec (f : C → Int) (l : List C) : ∀ s, mnF f l s ≤ s ∧ (∀ c ∈ l, mnF f l s ≤ f c) ∧ (mnF f l s = s ∨ ∃ c ∈ l, mnF f l s = f c) := by
 induction l with
 | nil => intro s; exact ⟨Int.le_refl _, (fun c h => by cases h), Or.inl rfl⟩
 | cons d r ih =>
  intro s
  obtain ⟨h1, h2, h3⟩ := ih (mn s (f d))
  have e : mnF f (d :: r) s = mnF f r (mn s (f d)) := rfl
  rw [e]
  have m1 : mn s (f d) ≤ s ∧ mn s (f d) ≤ f d ∧ (mn s (f d) = s ∨ mn s (f d) = f d) := by unfold mn; split <;> omega
  refine ⟨by omega, fun c hc => ?_, ?_⟩
  ·rcases List.mem_cons.1 hc with rfl | hc
   ·omega
   ·exact h2 c hc
  ·rcases h3 with h3 | ⟨c, hc, h3⟩
   ·rcases m1.2.2 with m | m
    ·exact Or.inl (h3.trans m)
    ·exact Or.inr ⟨d, List.mem_cons_self, h3.trans m⟩
   ·exact Or.inr ⟨c, List.mem_cons_of_mem _ hc, h3⟩
def lo (l : List C) : Int × Int := (mnF (fun c => c.f0) l (at_ l 0).f0, mnF (fun c => c.f1) l (at_ l 0).f1)
def hi (l : List C) : Int × Int := (mxF (fun c => c.f0) l (at_ l 0).f0, mxF (fun c => c.f1) l (at_ l 0).f1)
theorem mn_self (a : Int) : mn a a = a := by unfold mn; split <;> omega
theorem lo_drop (l : List C) (h : 0 < l.length) : lo l = (mnF (fun c => c.f0) (l.drop 1) (at_ l 0).f0, mnF (fun c => c.f1) (l.drop 1) (at_ l 0).f1) := by
 have e := drop_at l 0 h
 rw [List.drop_zero] at e
 unfold lo
 have e0 : mnF (fun c => c.f0) l (at_ l 0).f0 = mnF (fun c => c.f0) (l.drop 1) (at_ l 0).f0 := by
  conv => lhs; rw [e]
  show mnF _ (l.drop (0 + 1)) (mn (at_ (at_ l 0 :: l.drop (0 + 1)) 0).f0 (at_ l 0).f0) = _
  rw [show at_ (at_ l 0 :: l.drop (0 + 1)) 0 = at_ l 0 from rfl, mn_self]
 have e1 : mnF (fun c => c.f1) l (at_ l 0).f1 = mnF (fun c => c.f1) (l.drop 1) (at_ l 0).f1 := by
  conv => lhs; rw [e]
  show mnF _ (l.drop (0 + 1)) (mn (at_ (at_ l 0 :: l.drop (0 + 1)) 0).f1 (at_ l 0).f1) = _
  rw [show at_ (at_ l 0 :: l.drop (0 + 1)) 0 = at_ l 0 from rfl, mn_self]
 rw [e0, e1]
theorem lo_le {l : List C} {c : C} (h : c ∈ l) : (lo l).1 ≤ c.f0 ∧ (lo l).2 ≤ c.f1 := ⟨(mnF_spec _ l _).2.1 c h, (mnF_spec _ l _).2.1 c h⟩
theorem le_hi {l : List C} {c : C} (h : c ∈ l) : c.f0 ≤ (hi l).1 ∧ c.f1 ≤ (hi l).2 := ⟨(mxF_spec _ l _).2.1 c h, (mxF_spec _ l _).2.1 c h⟩
theorem lo_mem0 {l : List C} (h : 0 < l.length) : ∃ c ∈ l, (lo l).1 = c.f0 := by
 rcases (mnF_spec (fun c : C => c.f0) l (at_ l 0).f0).2.2 with e | ⟨c, hc, e⟩
 ·exact ⟨at_ l 0, at_mem l 0 h, e⟩
 ·exact ⟨c, hc, e⟩
theorem lo_mem1 {l : List C} (h : 0 < l.length) : ∃ c ∈ l, (lo l).2 = c.f1 := by
 rcases (mnF_spec (fun c : C => c.f1) l (at_ l 0).f1).2.2 with e | ⟨c, hc, e⟩
 ·exact ⟨at_ l 0, at_mem l 0 h, e⟩
 ·exact ⟨c, hc, e⟩
theorem hi_mem0 {l : List C} (h : 0 < l.length) : ∃ c ∈ l, (hi l).1 = c.f0 := by
 rcases (mxF_spec (fun c : C => c.f0) l (at_ l 0).f0).2.2 with e | ⟨c, hc, e⟩
 ·exact ⟨at_ l 0, at_mem l 0 h, e⟩
 ·exact ⟨c, hc, e⟩
theorem hi_mem1 {l : List C} (h : 0 < l.length) : ∃ c ∈ l, (hi l).2 = c.f1 := by
 rcases (mxF_spec (fun c : C => c.f1) l (at_ l 0).f1).2.2 with e | ⟨c, hc, e⟩
 ·exact ⟨at_ l 0, at_mem l 0 h, e⟩
 ·exact ⟨c, hc, e⟩
def sz (l : List C) : Int × Int := ((hi l).1 - (lo l).1 + 1, (hi l).2 - (lo l).2 + 1)
def movC (a b : Int) (c : C) : C := ⟨wrap64 (c.f0 + a), wrap64 (c.f1 + b)⟩
def movL (a b : Int) (l : List C) : List C := l.map (movC a b)
theorem movL_length (a b : Int) (l : List C) : (movL a b l).length = l.length := by simp [movL]
theorem foldl_append_map {α β : Type} (f : α → β) (l : List α) : ∀ s : List β, l.foldl (fun s c => s ++ [f c]) s = s ++ l.map f := by
 induction l with
 | nil => intro s; simp
 | cons c r ih => intro s; rw [List.foldl_cons, ih]; simp
def normL (l : List C) : List C := movL (wrap64 (-(lo l).1)) (wrap64 (-(lo l).2)) l
theorem normL_length (l : List C) : (normL l).length = l.length := movL_length _ _ _
theorem lo_ok {l : List C} (h : Sh l) : -100 ≤ (lo l).1 ∧ (lo l).1 ≤ 100 ∧ -100 ≤ (lo l).2 ∧ (lo l).2 ≤ 100 := by
 obtain ⟨c0, hc0, b0⟩ := lo_mem0 (l := l) (by have := h.1; omega)
 obtain ⟨c1, hc1, b1⟩ := lo_mem1 (l := l) (by have := h.1; omega)
 have o0 := h.ok hc0
 have o1 := h.ok hc1
 unfold okC at o0 o1
 omega
theorem hi_ok {l : List C} (h : Sh l) : -100 ≤ (hi l).1 ∧ (hi l).1 ≤ 100 ∧ -100 ≤ (hi l).2 ∧ (hi l).2 ≤ 100 := by
 obtain ⟨c0, hc0, b0⟩ := hi_mem0 (l := l) (by have := h.1; omega)
 obtain ⟨c1, hc1, b1⟩ := hi_mem1 (l := l) (by have := h.1; omega)
 have o0 := h.ok hc0
 have o1 := h.ok hc1
 unfold okC at o0 o1
 omega
theorem normC_eq {l : List C} (h : Sh l) {c : C} (hc : c ∈ l) : movC (wrap64 (-(lo l).1)) (wrap64 (-(lo l).2)) c = ⟨c.f0 - (lo l).1, c.f1 - (lo l).2⟩ := by
 have a := lo_ok h
 have b := h.ok hc
 unfold okC at b
 unfold movC
 rw [w64 (x := -(lo l).1) (by omega) (by omega), w64 (x := -(lo l).2) (by omega) (by omega), w64 (by omega) (by omega), w64 (by omega) (by omega)]
 rfl
theorem normL_eq {l : List C} (h : Sh l) : normL l = l.map fun c => ⟨c.f0 - (lo l).1, c.f1 - (lo l).2⟩ := by
 unfold normL movL
 exact List.map_congr_left fun c hc => normC_eq h hc
theorem sz_ok {l : List C} (h : Sh l) : 1 ≤ (sz l).1 ∧ (sz l).1 ≤ 201 ∧ 1 ≤ (sz l).2 ∧ (sz l).2 ≤ 201 := by
 have a := lo_ok h
 have b := hi_ok h
 have h1 := h.1
 have c := lo_le (at_mem l 0 (by omega))
 have d := le_hi (at_mem l 0 (by omega))
 unfold sz
 simp only []
 omega
theorem norm_lt {l : List C} (h : Sh l) {c : C} (hc : c ∈ l) : 0 ≤ c.f0 - (lo l).1 ∧ c.f0 - (lo l).1 < (sz l).1 ∧ 0 ≤ c.f1 - (lo l).2 ∧ c.f1 - (lo l).2 < (sz l).2 := by
 have a := lo_le hc
 have b := le_hi hc
 unfold sz
 simp only []
 omega
def insP (c : C) : List C → List C
 | [] => [c]
 | x :: r => if ltC c x then c :: x :: r else x :: insP c r
def sortP (l : List C) : List C := l.foldl (fun s c => insP c s) []
theorem insP_length (c : C) (l : List C) : (insP c l).length = l.length + 1 := by
 induction l with
 | nil => rfl
 | cons x r ih => unfold insP; split <;> simp [ih]
theorem insP_perm (c : C) (l : List C) : (insP c l).Perm (c :: l) := by
 induction l with
 | nil => exact List.Perm.refl _
 | cons x r ih =>
  unfold insP
  split
  ·exact List.Perm.refl _
  ·exact (ih.cons x).trans (List.Perm.swap c x r)
theorem foldl_insP_perm : ∀ (l s : List C), (l.foldl (fun s c => insP c s) s).Perm (s ++ l) := by
 intro l
 induction l with
 | nil => intro s; simp
 | cons c r ih =>
  intro s
  rw [List.foldl_cons]
  refine (ih _).trans ?_
  refine ((insP_perm c s).append_right r).trans ?_
  exact (List.perm_middle).symm
theorem sortP_perm (l : List C) : (sortP l).Perm l := by
 have := foldl_insP_perm l []
 rwa [List.nil_append] at this
theorem sortP_length (l : List C) : (sortP l).length = l.length := (sortP_perm l).length_eq
theorem mem_sortP {l : List C} {c : C} : c ∈ sortP l ↔ c ∈ l := (sortP_perm l).mem_iff
def leC (a b : C) : Prop := ¬ ltC b a
theorem leC_anti {a b : C} (h : leC a b) (g : leC b a) : a = b := by
 unfold leC ltC at *
 have e0 : a.f0 = b.f0 := by omega
 have e1 : a.f1 = b.f1 := by omega
 cases a; cases b; cases e0; cases e1; rfl
theorem ltC_le {a b : C} (h : ltC a b) : leC a b := by unfold leC ltC at *; omega
theorem sorted_unique {l m : List C} (hl : l.Pairwise leC) (hm : m.Pairwise leC) (hp : l.Perm m) : l = m :=
 List.Perm.eq_of_pairwise (le := leC) (fun _ _ _ _ h1 h2 => leC_anti h1 h2) hl hm hp
theorem ev_foldE {σ β : Type} (F : Nat → σ → Int → Option β) (l : List C) (g : σ → C → σ) (inv : Nat → σ → Prop)
  (step : ∀ s (j : Nat), j < l.length → at_ l j ∈ l → inv j s → inv (j + 1) (g s (at_ l j)) ∧ ∀ r, Ev (fun k => F k (g s (at_ l j)) ((j + 1 : Nat) : Int)) r → Ev (fun k => F k s (j : Nat)) r)
  (r : β) (j0 : Nat) (hj0 : j0 ≤ l.length) (s0 : σ) (h0 : inv j0 s0) (hr : inv l.length ((l.drop j0).foldl g s0) → Ev (fun k => F k ((l.drop j0).foldl g s0) (l.length : Nat)) r) : Ev (fun k => F k s0 (j0 : Nat)) r := by
 have key : ∀ d j : Nat, j + d = l.length → ∀ s, inv j s → (inv l.length ((l.drop j).foldl g s) → Ev (fun k => F k ((l.drop j).foldl g s) (l.length : Nat)) r) → Ev (fun k => F k s (j : Nat)) r := by
  intro d
  induction d with
  | zero =>
   intro j hj s hs hr
   obtain rfl : j = l.length := by omega
   rw [List.drop_length] at hr
   exact hr hs
  | succ d ih =>
   intro j hj s hs hr
   have h : j < l.length := by omega
   obtain ⟨h1, h2⟩ := step s j h (at_mem l j h) hs
   refine h2 r (ih (j + 1) (by omega) _ h1 ?_)
   rw [drop_at l j h] at hr; exact hr
 exact key (l.length - j0) j0 (by omega) s0 h0 hr
theorem ins_loop (l : List C) (x y : Int) (hl : l.length ≤ 1048576) : ∀ d j : Nat, j + d = l.length → ∀ acc : List C, acc.length ≤ j + 1 →
  Ev (fun k => spec_l02Insert.l0 k l acc true (j : Nat) x y) (acc ++ l.drop j) ∧ (acc.length ≤ j → Ev (fun k => spec_l02Insert.l0 k l acc false (j : Nat) x y) (acc ++ insP ⟨x, y⟩ (l.drop j))) := by
 intro d
 induction d with
 | zero =>
  intro j hj acc ha
  obtain rfl : j = l.length := by omega
  rw [List.drop_length]
  refine ⟨?_, fun _ => ?_⟩
  ·refine Ev.step (fun k => ?_) (Ev.now _)
   simp only [spec_l02Insert.l0, if_true, List.append_nil]; rw [if_neg (by omega)]
  ·refine Ev.step (fun k => ?_) (Ev.now _)
   simp only [spec_l02Insert.l0, insP, Bool.false_eq_true, if_false]; rw [if_neg (by omega), if_pos (by omega)]
 | succ d ih =>
  intro j hj acc ha
  have hjl : j < l.length := by omega
  rw [drop_at l j hjl]
  have ej : wrap64 ((j : Int) + 1) = ((j + 1 : Nat) : Int) := by rw [w64 (by omega) (by omega)]; rfl
  refine ⟨?_, fun hb => ?_⟩
  ·have g := (ih (j + 1) (by omega) (acc ++ [at_ l j]) (by simp; omega)).1
   rw [List.append_assoc] at g
   refine Ev.step (fun k => ?_) g
   simp only [spec_l02Insert.l0, rd_at, if_true]
   rw [if_pos (by omega), if_pos (by omega), if_pos (by omega), ej]
  ·by_cases c : ltC ⟨x, y⟩ (at_ l j)
   ·have c' : ltC ⟨x, y⟩ ⟨(at_ l j).f0, (at_ l j).f1⟩ := c
    have g := (ih (j + 1) (by omega) ((acc ++ [⟨x, y⟩]) ++ [at_ l j]) (by simp; omega)).1
    unfold insP
    rw [if_pos c]
    rw [List.append_assoc, List.append_assoc] at g
    refine Ev.step (fun k => ?_) g
    simp only [spec_l02Insert.l0, rd_at, less_eq, Option.bind_some, Bool.false_eq_true, if_false, decide_eq_true c', if_true]
    rw [if_pos (by omega), if_pos (by omega), if_pos (by omega), if_pos (by simp; omega), ej, List.append_assoc]
   ·have c' : ¬ ltC ⟨x, y⟩ ⟨(at_ l j).f0, (at_ l j).f1⟩ := c
    have g := (ih (j + 1) (by omega) (acc ++ [at_ l j]) (by simp; omega)).2 (by simp; omega)
    unfold insP
    rw [if_neg c]
    rw [List.append_assoc] at g
    refine Ev.step (fun k => ?_) g
    simp only [spec_l02Insert.l0, rd_at, less_eq, Option.bind_some, Bool.false_eq_true, if_false, decide_eq_false c']
    rw [if_pos (by omega), if_pos (by omega), if_pos (by omega), ej]
theorem specIns_ev (l : List C) (x y : Int) (hl : l.length ≤ 1048576) : Ev (fun k => spec_l02Insert.f k l x y) (insP ⟨x, y⟩ l) :=
 (ins_loop l x y hl l.length 0 (by omega) [] (by simp)).2 (by simp)
theorem specSort_ev (l : List C) (hl : l.length ≤ 1048570) : Ev (fun k => spec_l02Sort.f k l) (sortP l) := by
 unfold spec_l02Sort.f
 refine ev_foldE (fun k s j => spec_l02Sort.l0 k l s j) l (fun s c => insP c s) (fun j s => s.length = j) ?_ _ 0 (by omega) [] rfl ?_
 ·intro s j hj hm hs
  refine ⟨by rw [insP_length]; omega, fun r hr => ?_⟩
  refine Ev.step (f := fun k => (spec_l02Insert.f k s (at_ l j).f0 (at_ l j).f1).bind fun t => spec_l02Sort.l0 k l t ((j + 1 : Nat) : Int)) (fun k => ?_) ?_
  ·simp only [spec_l02Sort.l0, rd_at]; rw [if_pos (by omega), if_pos (by omega), w64 (by omega) (by omega)]; rfl
  ·exact Ev.bind (f := fun k t => spec_l02Sort.l0 k l t ((j + 1 : Nat) : Int)) (specIns_ev s _ _ (by omega)) hr
 ·intro hs
  refine Ev.step (fun k => ?_) (Ev.now _)
  simp only [spec_l02Sort.l0]; rw [if_neg (by omega)]; rfl
def nbrs (c : C) : List C := [⟨c.f0, c.f1 - 1⟩, ⟨c.f0 - 1, c.f1⟩, ⟨c.f0 + 1, c.f1⟩, ⟨c.f0, c.f1 + 1⟩]
def nbStep (l s : List C) (d : C) : List C := if hasC l d.f0 d.f1 = true then s else if hasC s d.f0 d.f1 = true then s else insP d s
def nbP (l : List C) : List C := l.foldl (fun s c => (nbrs c).foldl (nbStep l) s) []
theorem insP_strict {d : C} {s : List C} (h : s.Pairwise ltC) (hd : ¬ d ∈ s) : (insP d s).Pairwise ltC := by
 induction s with
 | nil => simp [insP]
 | cons x r ih =>
  rw [List.pairwise_cons] at h
  unfold insP
  by_cases hc : ltC d x
  ·rw [if_pos hc, List.pairwise_cons]
   refine ⟨fun y hy => ?_, List.pairwise_cons.2 h⟩
   rcases List.mem_cons.1 hy with rfl | hy
   ·exact hc
   ·exact ltC_trans hc (h.1 y hy)
  ·rw [if_neg hc, List.pairwise_cons]
   refine ⟨fun y hy => ?_, ih h.2 fun g => hd (List.mem_cons_of_mem _ g)⟩
   rcases List.mem_cons.1 ((insP_perm d r).mem_iff.1 hy) with rfl | hy
   ·have hne : x ≠ y := fun e => hd (by rw [e]; exact List.mem_cons_self)
    have : leC x y := hc
    by_cases g : ltC x y
    ·exact g
    ·exact absurd (leC_anti this g) hne
   ·exact h.1 y hy
theorem nbStep_ok (l s : List C) (d : C) (h : s.Pairwise ltC) : (nbStep l s d).Pairwise ltC ∧ (∀ c, c ∈ nbStep l s d ↔ c ∈ s ∨ (c = d ∧ ¬ c ∈ l)) ∧ (nbStep l s d).length ≤ s.length + 1 := by
 unfold nbStep
 by_cases h1 : hasC l d.f0 d.f1 = true
 ·rw [if_pos h1]
  have hm : d ∈ l := (hasC_iff l d.f0 d.f1).1 h1
  exact ⟨h, fun c => ⟨Or.inl, fun g => g.elim id fun g => absurd (by rw [g.1]; exact hm) g.2⟩, by omega⟩
 ·rw [if_neg h1]
  have hm : ¬ d ∈ l := fun g => h1 ((hasC_iff l d.f0 d.f1).2 g)
  by_cases h2 : hasC s d.f0 d.f1 = true
  ·rw [if_pos h2]
   have hs : d ∈ s := (hasC_iff s d.f0 d.f1).1 h2
   exact ⟨h, fun c => ⟨Or.inl, fun g => g.elim id fun g => by rw [g.1]; exact hs⟩, by omega⟩
  ·rw [if_neg h2]
   have hs : ¬ d ∈ s := fun g => h2 ((hasC_iff s d.f0 d.f1).2 g)
   refine ⟨insP_strict h hs, fun c => ?_, by rw [insP_length]; omega⟩
   rw [(insP_perm d s).mem_iff, List.mem_cons]
   constructor
   ·rintro (rfl | g)
    ·exact Or.inr ⟨rfl, hm⟩
    ·exact Or.inl g
   ·rintro (g | g)
    ·exact Or.inr g
    ·exact Or.inl g.1
theorem nbFold_ok (l : List C) : ∀ (D s : List C), s.Pairwise ltC → (D.foldl (nbStep l) s).Pairwise ltC ∧ (∀ c, c ∈ D.foldl (nbStep l) s ↔ c ∈ s ∨ (c ∈ D ∧ ¬ c ∈ l)) ∧ (D.foldl (nbStep l) s).length ≤ s.length + D.length := by
 intro D
 induction D with
 | nil => intro s h; exact ⟨h, fun c => by simp, by simp⟩
 | cons d r ih =>
  intro s h
  obtain ⟨a1, a2, a3⟩ := nbStep_ok l s d h
  obtain ⟨b1, b2, b3⟩ := ih _ a1
  rw [List.foldl_cons]
  refine ⟨b1, fun c => ?_, by rw [List.length_cons]; omega⟩
  rw [b2, a2, List.mem_cons]
  constructor
  ·rintro ((g | g) | g)
   ·exact Or.inl g
   ·exact Or.inr ⟨Or.inl g.1, g.2⟩
   ·exact Or.inr ⟨Or.inr g.1, g.2⟩
  ·rintro (g | ⟨g | g, k⟩)
   ·exact Or.inl (Or.inl g)
   ·exact Or.inl (Or.inr ⟨g, k⟩)
   ·exact Or.inr ⟨g, k⟩
theorem nbOuter_ok (l : List C) : ∀ (m s : List C), s.Pairwise ltC → (m.foldl (fun s c => (nbrs c).foldl (nbStep l) s) s).Pairwise ltC ∧ (∀ c, c ∈ m.foldl (fun s c => (nbrs c).foldl (nbStep l) s) s ↔ c ∈ s ∨ ((∃ d ∈ m, c ∈ nbrs d) ∧ ¬ c ∈ l)) ∧ (m.foldl (fun s c => (nbrs c).foldl (nbStep l) s) s).length ≤ s.length + 4 * m.length := by
 intro m
 induction m with
 | nil => intro s h; exact ⟨h, fun c => by simp, by simp⟩
 | cons d r ih =>
  intro s h
  obtain ⟨a1, a2, a3⟩ := nbFold_ok l (nbrs d) s h
  obtain ⟨b1, b2, b3⟩ := ih _ a1
  rw [List.foldl_cons]
  refine ⟨b1, fun c => ?_, ?_⟩
  ·rw [b2, a2]
   constructor
   ·rintro ((g | g) | ⟨⟨e, he, g⟩, k⟩)
    ·exact Or.inl g
    ·exact Or.inr ⟨⟨d, List.mem_cons_self, g.1⟩, g.2⟩
    ·exact Or.inr ⟨⟨e, List.mem_cons_of_mem _ he, g⟩, k⟩
   ·rintro (g | ⟨⟨e, he, g⟩, k⟩)
    ·exact Or.inl (Or.inl g)
    ·rcases List.mem_cons.1 he with rfl | he
     ·exact Or.inl (Or.inr ⟨g, k⟩)
     ·exact Or.inr ⟨⟨e, he, g⟩, k⟩
  ·have : (nbrs d).length = 4 := rfl
   rw [List.length_cons]; omega
theorem nbP_mem (l : List C) (c : C) : c ∈ nbP l ↔ (∃ d ∈ l, c ∈ nbrs d) ∧ ¬ c ∈ l := by
 rw [show nbP l = l.foldl (fun s c => (nbrs c).foldl (nbStep l) s) [] from rfl, (nbOuter_ok l l [] List.Pairwise.nil).2.1]; simp
theorem nbP_length (l : List C) : (nbP l).length ≤ 4 * l.length := by
 have := (nbOuter_ok l l [] List.Pairwise.nil).2.2
 simp only [List.length_nil, Nat.zero_add] at this
 exact this
theorem strict_unique {l m : List C} (hl : l.Pairwise ltC) (hm : m.Pairwise ltC) (h : ∀ c, c ∈ l ↔ c ∈ m) : l = m := by
 have n1 : l.Nodup := hl.imp fun h e => by rw [e] at h; exact ltC_irrefl h
 have n2 : m.Nodup := hm.imp fun h e => by rw [e] at h; exact ltC_irrefl h
 exact sorted_unique (hl.imp ltC_le) (hm.imp ltC_le) ((List.perm_ext_iff_of_nodup n1 n2).2 h)
def Wi (b : Int) (l : List C) : Prop := ∀ c ∈ l, -b ≤ c.f0 ∧ c.f0 ≤ b ∧ -b ≤ c.f1 ∧ c.f1 ≤ b
theorem nbrs_mem {c d : C} : c ∈ nbrs d ↔ (c.f0 = d.f0 ∧ (c.f1 = d.f1 - 1 ∨ c.f1 = d.f1 + 1)) ∨ (c.f1 = d.f1 ∧ (c.f0 = d.f0 - 1 ∨ c.f0 = d.f0 + 1)) := by
 have ext : ∀ x y : Int, c = (⟨x, y⟩ : C) ↔ c.f0 = x ∧ c.f1 = y := fun x y => ⟨fun e => by rw [e]; exact ⟨rfl, rfl⟩, fun e => by cases c; cases e.1; cases e.2; rfl⟩
 unfold nbrs
 simp only [List.mem_cons, List.not_mem_nil, or_false, ext]
 omega
theorem nbP_wi {b : Int} {l : List C} (h : Wi b l) : Wi (b + 1) (nbP l) := by
 intro c hc
 obtain ⟨⟨d, hd, hn⟩, _⟩ := (nbP_mem l c).1 hc
 have := h d hd
 rw [nbrs_mem] at hn
 omega
theorem nbP_ne {l : List C} (h0 : 0 < l.length) : 0 < (nbP l).length := by
 -- the cell above the least one
 obtain ⟨c, hc, hmin⟩ : ∃ c ∈ l, ∀ d ∈ l, c.f1 ≤ d.f1 := by
  have : ∀ m : List C, 0 < m.length → ∃ c ∈ m, ∀ d ∈ m, c.f1 ≤ d.f1 := by
   intro m
   induction m with
   | nil => intro h; exact absurd h (by simp)
   | cons x r ih =>
    intro _
    by_cases hr : 0 < r.length
    ·obtain ⟨c, hc, hm⟩ := ih hr
     by_cases g : x.f1 ≤ c.f1
     ·exact ⟨x, List.mem_cons_self, fun d hd => by
       rcases List.mem_cons.1 hd with rfl | hd
       ·exact Int.le_refl _
       ·have := hm d hd; omega⟩
     ·exact ⟨c, List.mem_cons_of_mem _ hc, fun d hd => by
       rcases List.mem_cons.1 hd with rfl | hd
       ·omega
       ·exact hm d hd⟩
    ·have e : r = [] := List.length_eq_zero_iff.1 (by omega)
     subst e
     exact ⟨x, List.mem_cons_self, fun d hd => by simp at hd; rw [hd]; exact Int.le_refl _⟩
  exact this l h0
 have hm : (⟨c.f0, c.f1 - 1⟩ : C) ∈ nbP l := by
  rw [nbP_mem]
  refine ⟨⟨c, hc, by simp [nbrs]⟩, fun g => ?_⟩
  have := hmin _ g
  simp only [] at this
  omega
 exact List.length_pos_of_mem hm
theorem nb_l1 (l : List C) (hl : l.length ≤ 100000) (i : Int) (ds : List C) (h4 : ds.length = 4) (r : List C) : ∀ d j : Nat, j + d = 4 → ∀ s : List C, s.length + d ≤ 1000000 →
  Ev (fun k => spec_l02Neighbours.l0 k l ((ds.drop j).foldl (nbStep l) s) (wrap64 (i + 1))) r → Ev (fun k => spec_l02Neighbours.l1 k l s i ds (j : Nat)) r := by
 intro d
 induction d with
 | zero =>
  intro j hj s _ g
  obtain rfl : j = 4 := by omega
  rw [show ds.drop 4 = [] from List.drop_eq_nil_of_le (by omega)] at g
  refine Ev.step (fun k => ?_) g
  simp only [spec_l02Neighbours.l1]; rw [if_neg (by omega)]; rfl
 | succ d ih =>
  intro j hj s hs g
  have hjl : j < ds.length := by omega
  rw [drop_at ds j hjl, List.foldl_cons] at g
  have e : ∀ k, spec_l02Neighbours.l1 (k + 1) l s i ds (j : Nat) = (spec_l02Index.f k l (at_ ds j).f0 (at_ ds j).f1).bind fun t => if t < 0 then ((spec_l02Index.f k s (at_ ds j).f0 (at_ ds j).f1).bind fun t => if t < 0 then ((spec_l02Insert.f k s (at_ ds j).f0 (at_ ds j).f1).bind fun t => spec_l02Neighbours.l1 k l t i ds ((j + 1 : Nat) : Int)) else spec_l02Neighbours.l1 k l s i ds ((j + 1 : Nat) : Int)) else spec_l02Neighbours.l1 k l s i ds ((j + 1 : Nat) : Int) := by
   intro k
   simp only [spec_l02Neighbours.l1, rd_at]; rw [if_pos (by omega), if_pos (by omega), if_pos (by omega), w64 (x := (j : Int) + 1) (by omega) (by omega)]; rfl
  refine Ev.step e ?_
  refine Ev.bind (f := fun k t => if t < 0 then ((spec_l02Index.f k s (at_ ds j).f0 (at_ ds j).f1).bind fun t => if t < 0 then ((spec_l02Insert.f k s (at_ ds j).f0 (at_ ds j).f1).bind fun t => spec_l02Neighbours.l1 k l t i ds ((j + 1 : Nat) : Int)) else spec_l02Neighbours.l1 k l s i ds ((j + 1 : Nat) : Int)) else spec_l02Neighbours.l1 k l s i ds ((j + 1 : Nat) : Int)) (specIx_ev l _ _ (by omega)) ?_
  by_cases c1 : 0 ≤ ixF 0 l (at_ ds j).f0 (at_ ds j).f1
  ·have hh : hasC l (at_ ds j).f0 (at_ ds j).f1 = true := decide_eq_true c1
   simp only [if_neg (show ¬ ixF 0 l (at_ ds j).f0 (at_ ds j).f1 < 0 by omega)]
   have e2 : nbStep l s (at_ ds j) = s := by unfold nbStep; rw [if_pos hh]
   rw [e2] at g
   exact ih (j + 1) (by omega) s (by omega) g
  ·have hh : ¬ hasC l (at_ ds j).f0 (at_ ds j).f1 = true := by unfold hasC; rw [decide_eq_true_eq]; exact c1
   simp only [if_pos (show ixF 0 l (at_ ds j).f0 (at_ ds j).f1 < 0 by omega)]
   refine Ev.bind (f := fun k t => if t < 0 then ((spec_l02Insert.f k s (at_ ds j).f0 (at_ ds j).f1).bind fun t => spec_l02Neighbours.l1 k l t i ds ((j + 1 : Nat) : Int)) else spec_l02Neighbours.l1 k l s i ds ((j + 1 : Nat) : Int)) (specIx_ev s _ _ (by omega)) ?_
   by_cases c2 : 0 ≤ ixF 0 s (at_ ds j).f0 (at_ ds j).f1
   ·have h2 : hasC s (at_ ds j).f0 (at_ ds j).f1 = true := decide_eq_true c2
    simp only [if_neg (show ¬ ixF 0 s (at_ ds j).f0 (at_ ds j).f1 < 0 by omega)]
    have e2 : nbStep l s (at_ ds j) = s := by unfold nbStep; rw [if_neg hh, if_pos h2]
    rw [e2] at g
    exact ih (j + 1) (by omega) s (by omega) g
   ·have h2 : ¬ hasC s (at_ ds j).f0 (at_ ds j).f1 = true := by unfold hasC; rw [decide_eq_true_eq]; exact c2
    simp only [if_pos (show ixF 0 s (at_ ds j).f0 (at_ ds j).f1 < 0 by omega)]
    have e2 : nbStep l s (at_ ds j) = insP (at_ ds j) s := by unfold nbStep; rw [if_neg hh, if_neg h2]
    rw [e2] at g
    refine Ev.bind (f := fun k t => spec_l02Neighbours.l1 k l t i ds ((j + 1 : Nat) : Int)) (specIns_ev s _ _ (by omega)) ?_
    exact ih (j + 1) (by omega) _ (by rw [insP_length]; omega) g
theorem specNb_ev (l : List C) (hl : l.length ≤ 10000) (hw : Wi 1000000 l) : Ev (fun k => spec_l02Neighbours.f k l) (nbP l) := by
 unfold spec_l02Neighbours.f
 refine ev_foldE (fun k s j => spec_l02Neighbours.l0 k l s j) l (fun s c => (nbrs c).foldl (nbStep l) s) (fun j s => s.Pairwise ltC ∧ s.length ≤ 4 * j) ?_ _ 0 (by omega) [] ⟨List.Pairwise.nil, by simp⟩ ?_
 ·intro s j hj hm ⟨hs1, hs2⟩
  obtain ⟨a1, _, a3⟩ := nbFold_ok l (nbrs (at_ l j)) s hs1
  have a4 : (nbrs (at_ l j)).length = 4 := rfl
  refine ⟨⟨a1, by omega⟩, fun r hr => ?_⟩
  have w := hw _ hm
  refine Ev.step (f := fun k => spec_l02Neighbours.l1 k l s (j : Nat) (nbrs (at_ l j)) ((0 : Nat) : Int)) (fun k => ?_) ?_
  ·simp only [spec_l02Neighbours.l0, rd_at, spec_l02Around.f, Option.bind_some]
   rw [if_pos (by omega), if_pos (by omega), w64 (x := (at_ l j).f1 - 1) (by omega) (by omega), w64 (x := (at_ l j).f0 - 1) (by omega) (by omega), w64 (x := (at_ l j).f0 + 1) (by omega) (by omega), w64 (x := (at_ l j).f1 + 1) (by omega) (by omega)]; rfl
  ·refine nb_l1 l (by omega) _ _ rfl r 4 0 (by omega) s (by omega) ?_
   rw [w64 (by omega) (by omega)]
   exact hr
 ·intro hs
  refine Ev.step (fun k => ?_) (Ev.now _)
  simp only [spec_l02Neighbours.l0]; rw [if_neg (by omega)]; rfl
theorem least_ev (l : List C) (h : 0 < l.length) (hl : l.length ≤ 1048576) : Ev (fun k => spec_l02Least.f k l) (lo l) := by
 unfold spec_l02Least.f
 simp only [if_pos (show 0 < (l.length : Int) by omega)]
 have e0 : rd_T43 l 0 = at_ l 0 := rd_at l 0
 rw [e0]
 refine ev_fold (fun k (s : Int × Int) j => spec_l02Least.l0 k l s.1 s.2 j) l (fun s c => (mn s.1 c.f0, mn s.2 c.f1)) some _ (fun _ _ => True) ?_ ?_ 1 (by omega) ((at_ l 0).f0, (at_ l 0).f1) trivial ?_
 ·intro k s j hj hm _
  refine ⟨?_, trivial⟩
  simp only [spec_l02Least.l0, rd_at]; rw [if_pos (by omega), if_pos (by omega), w64 (x := (j : Int) + 1) (by omega) (by omega)]; rfl
 ·intro k s _
  simp only [spec_l02Least.l0]; rw [if_neg (by omega)]
 ·rw [foldl_pair (fun s c => mn s c.f0) (fun s c => mn s c.f1), lo_drop l h]; rfl
theorem specMove_ev (l : List C) (a b : Int) (hl : l.length ≤ 1048576) : Ev (fun k => spec_l02Move.f k l a b) (movL a b l) := by
 unfold spec_l02Move.f
 refine ev_fold (fun k (s : List C) j => spec_l02Move.l0 k l a b s j) l (fun s c => s ++ [movC a b c]) some _ (fun j s => s.length = j) ?_ ?_ 0 (by omega) [] rfl ?_
 ·intro k s j hj hm hs
  refine ⟨?_, by simp [hs]⟩
  simp only [spec_l02Move.l0, rd_at]; rw [if_pos (by omega), if_pos (by omega), if_pos (by omega), w64 (x := (j : Int) + 1) (by omega) (by omega)]; rfl
 ·intro k s _
  simp only [spec_l02Move.l0]; rw [if_neg (by omega)]
 ·rw [List.drop_zero, foldl_append_map]; rfl
theorem specNorm_ev (l : List C) (h : 0 < l.length) (hl : l.length ≤ 1048576) : Ev (fun k => spec_l02Normal.f k l) (normL l) := by
 obtain ⟨K, h1, h2⟩ := ev2 (least_ev l h hl) (specMove_ev l (wrap64 (-(lo l).1)) (wrap64 (-(lo l).2)) hl)
 refine ⟨K, fun k hk => ?_⟩
 obtain ⟨n, rfl⟩ : ∃ n, k = K + n := ⟨k - K, by omega⟩
 simp only [spec_l02Normal.f, h1, h2, Option.bind_some]; rfl
theorem insP_wi {b : Int} {d : C} {l : List C} (h : Wi b l) (hd : -b ≤ d.f0 ∧ d.f0 ≤ b ∧ -b ≤ d.f1 ∧ d.f1 ≤ b) : Wi b (insP d l) := by
 intro c hc
 rcases List.mem_cons.1 ((insP_perm d l).mem_iff.1 hc) with rfl | hc
 ·exact hd
 ·exact h c hc
theorem wi_mono {a b : Int} {l : List C} (h : Wi a l) (hab : a ≤ b) : Wi b l := fun c hc => by have := h c hc; omega
theorem movL_wi {a b : Int} {l : List C} (h : Wi a l) (x y : Int) (hx : -b ≤ x ∧ x ≤ b) (hy : -b ≤ y ∧ y ≤ b) (ha : a ≤ 100000000) (hb : b ≤ 100000000) : Wi (a + b) (movL x y l) := by
 intro c hc
 obtain ⟨d, hd, rfl⟩ := List.mem_map.1 hc
 have := h d hd
 unfold movC
 rw [w64 (by omega) (by omega), w64 (by omega) (by omega)]
 simp only []
 omega
theorem drawPoly_loop {c : List Int} : ∀ (d : Nat) (l : List C) (b : Int) (i s : Int), d ≤ 20 → 0 < l.length → l.length + d ≤ 100 → 0 ≤ b → b + d ≤ 1000 → Wi b l → Src c i s →
  ∃ r i' s', Ev (fun k => spec_l02DrawPoly.l0 k l (d : Nat) c i s) (r, i', s') ∧ Src c i' s' ∧ r.length = l.length + d ∧ Wi (2 * (b + d)) r := by
 intro d
 induction d with
 | zero =>
  intro l b i s _ h0 h1 hb0 hb h h'
  obtain ⟨c0, hc0, e0⟩ := lo_mem0 h0
  obtain ⟨c1, hc1, e1⟩ := lo_mem1 h0
  have w0 := h c0 hc0
  have w1 := h c1 hc1
  refine ⟨normL l, i, s, ?_, h', by rw [normL_length]; rfl, ?_⟩
  ·refine Ev.step (f := fun k => (spec_l02Normal.f k l).bind fun t350 => (some (t350, i, s))) (fun k => ?_) ?_
   ·simp only [spec_l02DrawPoly.l0]; rw [if_neg (by omega)]
   ·exact Ev.bind (f := fun k t350 => some (t350, i, s)) (specNorm_ev l h0 (by omega)) (Ev.now _)
  ·have e : wrap64 (-(lo l).1) = -(lo l).1 := w64 (by omega) (by omega)
   have e' : wrap64 (-(lo l).2) = -(lo l).2 := w64 (by omega) (by omega)
   unfold normL
   rw [e, e']
   exact wi_mono (movL_wi h _ _ (b := b) (by omega) (by omega) (by omega) (by omega)) (by omega)
 | succ d ih =>
  intro l b i s hd h0 h1 hb0 hb h h'
  have hnl := nbP_length l
  have hne := nbP_ne h0
  have hnw := nbP_wi h
  obtain ⟨q, i1, s1, e1, hs1, p1, q1, _⟩ := next_some h' ((nbP l).length : Int) (by omega)
  have q1 := q1 (by omega)
  obtain ⟨n, rfl⟩ := Int.eq_ofNat_of_zero_le p1
  have hn : n < (nbP l).length := by omega
  have hm := at_mem (nbP l) n hn
  have hw := insP_wi (wi_mono h (show b ≤ b + 1 by omega)) (hnw _ hm)
  obtain ⟨r, i', s', e, hs', hr, hrw⟩ := ih (insP (at_ (nbP l) n) l) (b + 1) i1 s1 (by omega) (by rw [insP_length]; omega) (by rw [insP_length]; omega) (by omega) (by omega) hw hs1
  refine ⟨r, i', s', ?_, hs', by rw [hr, insP_length]; omega, by rw [show b + ((d + 1 : Nat) : Int) = b + 1 + (d : Nat) from by omega]; exact hrw⟩
  refine Ev.step (f := fun k => (spec_l02Neighbours.f k l).bind fun t340 => ((spec_l01Next.f c i s (t340.length : Int)).bind fun bt343 => (if 0 ≤ bt343.1 then (if bt343.1 < (t340.length : Int) then ((spec_l02Insert.f k l ((rd_T43 t340 bt343.1).f0) ((rd_T43 t340 bt343.1).f1)).bind fun t347 => (spec_l02DrawPoly.l0 k t347 (d : Nat) c bt343.2.1 bt343.2.2)) else (none)) else (none)))) (fun k => ?_) ?_
  ·simp only [spec_l02DrawPoly.l0]
   rw [if_pos (by omega), w64 (x := ((d + 1 : Nat) : Int) - 1) (by omega) (by omega), show ((d + 1 : Nat) : Int) - 1 = (d : Nat) from by omega]
  ·refine Ev.bind (f := fun k t340 => ((spec_l01Next.f c i s (t340.length : Int)).bind fun bt343 => (if 0 ≤ bt343.1 then (if bt343.1 < (t340.length : Int) then ((spec_l02Insert.f k l ((rd_T43 t340 bt343.1).f0) ((rd_T43 t340 bt343.1).f1)).bind fun t347 => (spec_l02DrawPoly.l0 k t347 (d : Nat) c bt343.2.1 bt343.2.2)) else (none)) else (none)))) (specNb_ev l (by omega) (wi_mono h (by omega))) ?_
   simp only [e1, Option.bind_some, if_pos p1, if_pos q1, rd_at]
   exact Ev.bind (f := fun k t347 => spec_l02DrawPoly.l0 k t347 (d : Nat) c i1 s1) (specIns_ev l _ _ (by omega)) e
theorem drawPoly_some {c : List Int} {i s : Int} (h : Src c i s) (n : Int) (hn : 1 ≤ n) (hn2 : n ≤ 20) : ∃ r i' s', Ev (fun k => spec_l02DrawPoly.f k c i s n) (r, i', s') ∧ Src c i' s' ∧ 0 < r.length ∧ (r.length : Int) ≤ n ∧ Wi 1000 r := by
 obtain ⟨q, i1, s1, e1, hs1, p1, q1, _⟩ := next_some h n (by omega)
 have q1 := q1 hn
 obtain ⟨m, rfl⟩ := Int.eq_ofNat_of_zero_le p1
 obtain ⟨r, i', s', e, hs', hr, hw⟩ := drawPoly_loop m [⟨0, 0⟩] 0 i1 s1 (by omega) (by simp) (by simp; omega) (by omega) (by omega) (fun c hc => by simp at hc; rw [hc]; simp) hs1
 refine ⟨r, i', s', ?_, hs', by rw [hr]; simp; omega, by rw [hr]; simp; omega, wi_mono hw (by omega)⟩
 unfold spec_l02DrawPoly.f
 simp only [e1, Option.bind_some]
 exact e
theorem draw_row {c : List Int} : ∀ (d : Nat) (l : List C) (i s : Int), l.length + d = 42 → Wi 50 l → Src c i s →
  ∃ r i' s', Ev (fun k => spec_l02Draw.l0 k l (l.length : Int) c i s) (r, i', s') ∧ Src c i' s' ∧ r.length ≤ 42 ∧ Wi 50 r := by
 intro d
 induction d with
 | zero =>
  intro l i s hl hw h
  obtain ⟨q, i1, s1, e1, hs1, p1, q1, _⟩ := next_some h 2 (by omega)
  have q1 := q1 (by omega)
  refine ⟨l, i1, s1, Ev.step (fun k => ?_) (Ev.now _), hs1, by omega, hw⟩
  simp only [spec_l02Draw.l0, e1, Option.bind_some]
  rw [w64 (by omega) (by omega), if_neg (by omega)]
 | succ d ih =>
  intro l i s hl hw h
  obtain ⟨q, i1, s1, e1, hs1, p1, q1, _⟩ := next_some h 2 (by omega)
  have q1 := q1 (by omega)
  by_cases c1 : (l.length : Int) < 40 + q
  ·obtain ⟨r, i', s', e, hs', hr, hrw⟩ := ih (l ++ [⟨(l.length : Int), 0⟩]) i1 s1 (by simp; omega) (fun c hc => by
    rcases List.mem_append.1 hc with hc | hc
    ·exact hw c hc
    ·simp only [List.mem_singleton] at hc; rw [hc]; simp only []; omega) hs1
   refine ⟨r, i', s', Ev.step (fun k => ?_) e, hs', hr, hrw⟩
   simp only [spec_l02Draw.l0, e1, Option.bind_some]
   rw [w64 (x := 40 + q) (by omega) (by omega), if_pos c1, if_pos (by omega), w64 (x := (l.length : Int) + 1) (by omega) (by omega), List.length_append]; rfl
  ·refine ⟨l, i1, s1, Ev.step (fun k => ?_) (Ev.now _), hs1, by omega, hw⟩
   simp only [spec_l02Draw.l0, e1, Option.bind_some]
   rw [w64 (by omega) (by omega), if_neg c1]
theorem at_wi {b : Int} {l : List C} (h : Wi b l) {j : Nat} (hj : j < l.length) : -b ≤ (at_ l j).f0 ∧ (at_ l j).f0 ≤ b ∧ -b ≤ (at_ l j).f1 ∧ (at_ l j).f1 ≤ b := h _ (at_mem l j hj)
theorem sortP_wi {b : Int} {l : List C} (h : Wi b l) : Wi b (sortP l) := fun c hc => h c (mem_sortP.1 hc)
theorem snoc_wi {b : Int} {l : List C} (h : Wi b l) {d : C} (hd : -b ≤ d.f0 ∧ d.f0 ≤ b ∧ -b ≤ d.f1 ∧ d.f1 ≤ b) : Wi b (l ++ [d]) := by
 intro c hc
 rcases List.mem_append.1 hc with hc | hc
 ·exact h c hc
 ·simp only [List.mem_singleton] at hc; rw [hc]; exact hd
theorem draw_some {c : List Int} {i s : Int} (h : Src c i s) : ∃ r i' s', Ev (fun k => spec_l02Draw.f k c i s) (r, i', s') ∧ Src c i' s' ∧ r.length ≤ 50 ∧ Wi 2000 r := by
 obtain ⟨l0, i0, s0, e0, h0, hl0, hl1, hw0⟩ := drawPoly_some h 8 (by omega) (by omega)
 obtain ⟨a, i1, s1, e1, h1, pa, qa, _⟩ := next_some h0 9 (by omega)
 have qa := qa (by omega)
 obtain ⟨b, i2, s2, e2, h2, pb, qb, _⟩ := next_some h1 9 (by omega)
 have qb := qb (by omega)
 have ea : wrap64 (a - 4) = a - 4 := w64 (by omega) (by omega)
 have eb : wrap64 (b - 4) = b - 4 := w64 (by omega) (by omega)
 obtain ⟨l, hldef⟩ : ∃ l, l = movL (a - 4) (b - 4) l0 := ⟨_, rfl⟩
 have hlen : l.length = l0.length := by rw [hldef, movL_length]
 have hw : Wi 1010 l := by rw [hldef]; exact wi_mono (movL_wi hw0 _ _ (b := 10) (by omega) (by omega) (by omega) (by omega)) (by omega)
 have em : Ev (fun k => spec_l02Move.f k l0 (a - 4) (b - 4)) l := by rw [hldef]; exact specMove_ev l0 _ _ (by omega)
 obtain ⟨n, i3, s3, e3, h3, pn, qn, _⟩ := next_some h2 (l.length : Int) (by omega)
 have qn := qn (by omega)
 obtain ⟨m, rfl⟩ := Int.eq_ofNat_of_zero_le pn
 obtain ⟨z, i4, s4, e4, h4, pz, qz, _⟩ := next_some h3 24 (by omega)
 have aw := at_wi hw (show m < l.length by omega)
 have aw0 := at_wi hw (show 0 < l.length by omega)
 have awl := at_wi hw (show l.length - 1 < l.length by omega)
 have fin : ∀ (R : List C × Int × Int), (Ev (fun k => if z = 0 then ((some (([(-100), 100, 101] : List Int) : List Int)).bind fun y373 => ((spec_l01Next.f c i4 s4 3).bind fun bt376 => (if 0 ≤ bt376.1 then (if bt376.1 < (y373.length : Int) then (if 0 ≤ ((m : Nat) : Int) then (if ((m : Nat) : Int) < (l.length : Int) then ((spec_l02Sort.f k (l.set (((m : Nat) : Int)).toNat (⟨rd y373 bt376.1, (rd_T43 l (m : Nat)).f1⟩ : C))).bind fun t381 => (some (t381, bt376.2.1, bt376.2.2))) else (none)) else (none)) else (none)) else (none)))) else (if z = 1 then (if 0 ≤ ((m : Nat) : Int) then (if ((m : Nat) : Int) < (l.length : Int) then (if l.length < 8796093022208 then (some ((l ++ [(⟨(rd_T43 l (m : Nat)).f0, (rd_T43 l (m : Nat)).f1⟩ : C)]), i4, s4)) else (none)) else (none)) else (none)) else (if z = 2 then (some (([] : List C), i4, s4)) else (if z = 3 then (spec_l02Draw.l0 k (([] : List C)) 0 c i4 s4) else (if z = 4 then (if 0 < (l.length : Int) then (if 0 ≤ (wrap64 ((l.length : Int) - 1)) then (if (wrap64 ((l.length : Int) - 1)) < (l.length : Int) then (if l.length < 8796093022208 then (some ((l ++ [(⟨wrap64 (((rd_T43 l 0).f0) + 3), wrap64 (((rd_T43 l (wrap64 ((l.length : Int) - 1))).f1) + 2)⟩ : C)]), i4, s4)) else (none)) else (none)) else (none)) else (none)) else (if z = 5 then (if 0 < (l.length : Int) then (if 0 ≤ (wrap64 ((l.length : Int) - 1)) then (if (wrap64 ((l.length : Int) - 1)) < (l.length : Int) then (if l.length < 8796093022208 then (some ((l ++ [(⟨wrap64 (((rd_T43 l 0).f0) + 3), wrap64 (((rd_T43 l (wrap64 ((l.length : Int) - 1))).f1) + 2)⟩ : C)]), i4, s4)) else (none)) else (none)) else (none)) else (none)) else (some (l, i4, s4)))))))) R) → Ev (fun k => spec_l02Draw.f k c i s) R := by
  intro R hR
  unfold spec_l02Draw.f
  refine Ev.bind (f := fun k (bt353 : List C × Int × Int) => _) e0 ?_
  simp only [e1, e2, Option.bind_some, ea, eb]
  refine Ev.bind (f := fun k (t364 : List C) => _) em ?_
  simp only [e3, e4, Option.bind_some]
  exact hR
 have ext3 : (rd_T43 l 0) = at_ l 0 := rd_at l 0
 have el : wrap64 ((l.length : Int) - 1) = ((l.length - 1 : Nat) : Int) := by rw [w64 (by omega) (by omega)]; omega
 have tail : ∃ r, (if 0 < (l.length : Int) then (if 0 ≤ (wrap64 ((l.length : Int) - 1)) then (if (wrap64 ((l.length : Int) - 1)) < (l.length : Int) then (if l.length < 8796093022208 then (some ((l ++ [(⟨wrap64 (((rd_T43 l 0).f0) + 3), wrap64 (((rd_T43 l (wrap64 ((l.length : Int) - 1))).f1) + 2)⟩ : C)]), i4, s4)) else (none)) else (none)) else (none)) else (none)) = some (r, i4, s4) ∧ r.length ≤ 50 ∧ Wi 2000 r := by
  rw [el, ext3, rd_at, if_pos (by omega), if_pos (by omega), if_pos (by omega), if_pos (by omega)]
  refine ⟨_, rfl, by simp; omega, snoc_wi (wi_mono hw (by omega)) ?_⟩
  rw [w64 (by omega) (by omega), w64 (by omega) (by omega)]
  simp only []
  omega
 by_cases z0 : z = 0
 ·obtain ⟨q, i5, s5, e5, h5, pq, qq, _⟩ := next_some h4 3 (by omega)
  have qq := qq (by omega)
  have hv : -100 ≤ rd [(-100), 100, 101] q ∧ rd [(-100), 100, 101] q ≤ 101 := by
   have : q = 0 ∨ q = 1 ∨ q = 2 := by omega
   rcases this with rfl | rfl | rfl <;> decide
  have hset : Wi 1010 (l.set m ⟨rd [(-100), 100, 101] q, (at_ l m).f1⟩) := by
   intro c hc
   rcases List.mem_or_eq_of_mem_set hc with hc | rfl
   ·exact hw c hc
   ·simp only []; omega
  refine ⟨sortP (l.set m ⟨rd [(-100), 100, 101] q, (at_ l m).f1⟩), i5, s5, fin _ ?_, h5, by rw [sortP_length, List.length_set]; omega, wi_mono (sortP_wi hset) (by omega)⟩
  simp only [if_pos z0, Option.bind_some, e5, if_pos pq, rd_at, Int.toNat_natCast, if_pos (show (0 : Int) ≤ ((m : Nat) : Int) by omega), if_pos (show ((m : Nat) : Int) < (l.length : Int) by omega), if_pos (show q < (([(-100), 100, 101] : List Int).length : Int) from qq)]
  exact Ev.bind (f := fun k t381 => some (t381, i5, s5)) (specSort_ev _ (by rw [List.length_set]; omega)) (Ev.now _)
 ·by_cases z1 : z = 1
  ·refine ⟨l ++ [at_ l m], i4, s4, fin _ ?_, h4, by simp; omega, wi_mono (snoc_wi hw aw) (by omega)⟩
   simp only [if_neg z0, if_pos z1, rd_at, if_pos (show (0 : Int) ≤ ((m : Nat) : Int) by omega), if_pos (show ((m : Nat) : Int) < (l.length : Int) by omega), if_pos (show l.length < 8796093022208 by omega)]
   exact Ev.now _
  ·by_cases z2 : z = 2
   ·refine ⟨[], i4, s4, fin _ ?_, h4, by simp, fun c hc => by cases hc⟩
    simp only [if_neg z0, if_neg z1, if_pos z2]; exact Ev.now _
   ·by_cases z3 : z = 3
    ·obtain ⟨r, i', s', e, hs', hr, hrw⟩ := draw_row (c := c) 42 [] i4 s4 rfl (fun c hc => by cases hc) h4
     refine ⟨r, i', s', fin _ ?_, hs', by omega, wi_mono hrw (by omega)⟩
     simp only [if_neg z0, if_neg z1, if_neg z2, if_pos z3]; exact e
    ·obtain ⟨r, er, hr, hrw⟩ := tail
     by_cases z4 : z = 4
     ·refine ⟨r, i4, s4, fin _ ?_, h4, hr, hrw⟩
      simp only [if_neg z0, if_neg z1, if_neg z2, if_neg z3, if_pos z4, er]; exact Ev.now _
     ·by_cases z5 : z = 5
      ·refine ⟨r, i4, s4, fin _ ?_, h4, hr, hrw⟩
       simp only [if_neg z0, if_neg z1, if_neg z2, if_neg z3, if_neg z4, if_pos z5, er]; exact Ev.now _
      ·refine ⟨l, i4, s4, fin _ ?_, h4, by omega, wi_mono hw (by omega)⟩
       simp only [if_neg z0, if_neg z1, if_neg z2, if_neg z3, if_neg z4, if_neg z5]; exact Ev.now _
theorem likeCells_loop (l : List C) (hl : l.length ≤ 140737488355328) : ∀ d j : Nat, j + d = l.length → Ev (fun k => laws_likeCells.l0 k l l (j : Nat)) true := by
 intro d
 induction d with
 | zero =>
  intro j hj
  refine Ev.step (fun k => ?_) (Ev.now _)
  simp only [laws_likeCells.l0]; rw [if_neg (by omega)]
 | succ d ih =>
  intro j hj
  refine Ev.step (fun k => ?_) (ih (j + 1) (by omega))
  simp only [laws_likeCells.l0, beq_self_eq_true, Bool.not_true, Bool.or_false, Bool.false_eq_true, if_false]; rw [if_pos (by omega), if_pos (by omega), if_pos (by omega), w64 (by omega) (by omega)]; rfl
theorem likeCells_ev (l : List C) (hl : l.length ≤ 140737488355328) : Ev (fun k => laws_likeCells.f k l l) true := by
 unfold laws_likeCells.f
 simp only [if_true]
 exact likeCells_loop l hl l.length 0 (by omega)
theorem corner_ev (l : List C) (h : 0 < l.length) (hl : l.length ≤ 1048576) : Ev (fun k => impl_corner.f k l) (lo l) := by
 unfold impl_corner.f
 simp only [if_pos (show 0 < (l.length : Int) by omega)]
 have e0 : rd_T43 l 0 = at_ l 0 := rd_at l 0
 rw [e0]
 refine ev_fold (fun k (s : Int × Int) j => impl_corner.l0 k l (l.length : Int) j s.1 s.2) l (fun s c => (mn s.1 c.f0, mn s.2 c.f1)) some _ (fun _ _ => True) ?_ ?_ 0 (by omega) ((at_ l 0).f0, (at_ l 0).f1) trivial ?_
 ·intro k s j hj hm _
  refine ⟨?_, trivial⟩
  simp only [impl_corner.l0, rd_at]; rw [if_pos (by omega), if_pos (by omega), if_pos (by omega), w64 (x := (j : Int) + 1) (by omega) (by omega)]; rfl
 ·intro k s _
  simp only [impl_corner.l0]; rw [if_neg (by omega)]
 ·rw [List.drop_zero, foldl_pair (fun s c => mn s c.f0) (fun s c => mn s c.f1)]; rfl
theorem implMove_ev (l : List C) (a b : Int) (hl : l.length ≤ 1048576) : Ev (fun k => impl_moved.f k l a b) (movL a b l) := by
 unfold impl_moved.f
 simp only [if_pos (show 0 ≤ (l.length : Int) by omega), if_pos (show ((l.length : Int)).toNat ≤ 17592186044416 by omega)]
 refine ev_fold (fun k (s : List C) j => impl_moved.l0 k a b s l (l.length : Int) j) l (fun s c => s ++ [movC a b c]) some _ (fun j s => s.length = j) ?_ ?_ 0 (by omega) [] rfl ?_
 ·intro k s j hj hm hs
  refine ⟨?_, by simp [hs]⟩
  simp only [impl_moved.l0, rd_at]; rw [if_pos (by omega), if_pos (by omega), if_pos (by omega), if_pos (by omega), w64 (x := (j : Int) + 1) (by omega) (by omega)]; rfl
 ·intro k s _
  simp only [impl_moved.l0]; rw [if_neg (by omega)]
 ·rw [List.drop_zero, foldl_append_map]; rfl
theorem implNorm_ev (l : List C) (h : 0 < l.length) (hl : l.length ≤ 1048576) : Ev (fun k => impl_normal.f k l) (normL l) := by
 obtain ⟨K, h1, h2⟩ := ev2 (corner_ev l h hl) (implMove_ev l (wrap64 (-(lo l).1)) (wrap64 (-(lo l).2)) hl)
 refine ⟨K, fun k hk => ?_⟩
 obtain ⟨n, rfl⟩ : ∃ n, k = K + n := ⟨k - K, by omega⟩
 simp only [impl_normal.f, h1, h2, Option.bind_some]; rfl
noncomputable def nfP (l : List C) : List C × Int := if shB l = true then (if shB (normL l) = true then (normL l, 0) else ([], 3)) else ([], 1)
theorem nfP_length (l : List C) (h : l.length ≤ 1048576) : (nfP l).1.length ≤ 1048576 := by
 unfold nfP; split
 ·split
  ·show (normL l).length ≤ _; rw [normL_length]; exact h
  ·exact Nat.zero_le _
 ·exact Nat.zero_le _
theorem implNf_ev (l : List C) (hl : l.length ≤ 1048576) : Ev (fun k => impl_NormalForm.f k l) (nfP l) := by
 rcases sh_cases l with ⟨hs, hb⟩ | ⟨hs, hb⟩
 ·obtain ⟨K, h1, h2, h3⟩ := ev3 (implShape_ev l hl) (implNorm_ev l hs.1 hl) (implShape_ev (normL l) (by rw [normL_length]; exact hl))
  refine ⟨K, fun k hk => ?_⟩
  obtain ⟨n, rfl⟩ : ∃ n, k = K + n := ⟨k - K, by omega⟩
  unfold nfP
  simp only [impl_NormalForm.f, h1, h2, h3, hb, Option.bind_some, if_true]
  cases shB (normL l) <;> simp
 ·obtain ⟨K, h1⟩ := evup (implShape_ev l hl)
  refine ⟨K, fun k hk => ?_⟩
  obtain ⟨n, rfl⟩ : ∃ n, k = K + n := ⟨k - K, by omega⟩
  unfold nfP
  simp only [impl_NormalForm.f, h1, hb, Option.bind_some, Bool.false_eq_true, if_false]
-- USES Base Cell In Shape ShUse Fold Moved Norm Sort
def addC (v c : C) : C := ⟨c.f0 + v.f0, c.f1 + v.f1⟩
theorem lo_eq {l : List C} {a b : Int} (h : 0 < l.length) (h1 : ∀ c ∈ l, a ≤ c.f0 ∧ b ≤ c.f1) (h2 : ∃ c ∈ l, c.f0 = a) (h4 : ∃ c ∈ l, c.f1 = b) : lo l = (a, b) := by
 obtain ⟨c, hc, ec⟩ := h2
 obtain ⟨d, hd, ed⟩ := h4
 obtain ⟨e, he, ee⟩ := lo_mem0 h
 obtain ⟨f, hf, ef⟩ := lo_mem1 h
 have a1 := lo_le hc
 have a2 := lo_le hd
 have a3 := h1 e he
 have a4 := h1 f hf
 have x1 : (lo l).1 = a := by omega
 have x2 : (lo l).2 = b := by omega
 rw [← x1, ← x2]
theorem lo_add (v : C) {l : List C} (h : 0 < l.length) : lo (l.map (addC v)) = ((lo l).1 + v.f0, (lo l).2 + v.f1) := by
 obtain ⟨c, hc, ec⟩ := lo_mem0 h
 obtain ⟨d, hd, ed⟩ := lo_mem1 h
 refine lo_eq (by rw [List.length_map]; exact h) (fun x hx => ?_) ⟨addC v c, List.mem_map_of_mem hc, ?_⟩ ⟨addC v d, List.mem_map_of_mem hd, ?_⟩
 ·obtain ⟨y, hy, rfl⟩ := List.mem_map.1 hx
  have := lo_le hy
  unfold addC; simp only []; omega
 ·unfold addC; simp only []; omega
 ·unfold addC; simp only []; omega
def normU (l : List C) : List C := l.map (addC ⟨-(lo l).1, -(lo l).2⟩)
theorem normU_length (l : List C) : (normU l).length = l.length := by unfold normU; rw [List.length_map]
theorem normU_lo {l : List C} (h : 0 < l.length) : lo (normU l) = (0, 0) := by
 unfold normU
 rw [lo_add _ h]
 congr 1 <;> (simp only []; omega)
theorem addC_zero (c : C) : addC ⟨0, 0⟩ c = c := by unfold addC; simp
theorem normU_idem {l : List C} (h : 0 < l.length) : normU (normU l) = normU l := by
 show (normU l).map (addC ⟨-(lo (normU l)).1, -(lo (normU l)).2⟩) = normU l
 rw [normU_lo h]
 conv => rhs; rw [← List.map_id (normU l)]
 exact List.map_congr_left fun c _ => addC_zero c
def BD (l : List C) : Prop := ∀ c ∈ l, -1000000 ≤ c.f0 ∧ c.f0 ≤ 1000000 ∧ -1000000 ≤ c.f1 ∧ c.f1 ≤ 1000000
theorem normL_U {l : List C} (h : BD l) (h0 : 0 < l.length) : normL l = normU l := by
 unfold normL movL normU
 obtain ⟨d, hd, ed⟩ := lo_mem0 h0
 obtain ⟨e, he, ee⟩ := lo_mem1 h0
 have b1 := h d hd
 have b2 := h e he
 refine List.map_congr_left fun c hc => ?_
 have b3 := h c hc
 unfold movC addC
 rw [w64 (x := -(lo l).1) (by omega) (by omega), w64 (x := -(lo l).2) (by omega) (by omega), w64 (by omega) (by omega), w64 (by omega) (by omega)]
noncomputable def codeP (l : List C) : Int := if shB l = true then (if shB (normL l) = true then 0 else 3) else 1
theorem scode_ev (l : List C) (hl : l.length ≤ 1048576) : Ev (fun k => spec_l03Code.f k l) (codeP l) := by
 unfold spec_l03Code.f codeP
 rcases sh_cases l with ⟨hs, hb⟩ | ⟨hs, hb⟩
 ·refine Ev.bind (f := fun k t => if t = true then ((spec_l02Normal.f k l).bind fun t540 => ((spec_IsShape.f k t540).bind fun t543 => (if t543 = true then (some 0) else (some 3)))) else (some 1)) (specShape_ev l hl) ?_
  simp only [hb, if_true]
  refine Ev.bind (f := fun k t540 => ((spec_IsShape.f k t540).bind fun t543 => (if t543 = true then (some 0) else (some 3)))) (specNorm_ev l hs.1 hl) ?_
  refine Ev.bind (f := fun k t543 => (if t543 = true then (some (0 : Int)) else (some 3))) (specShape_ev (normL l) (by rw [normL_length]; exact hl)) ?_
  cases shB (normL l) <;> exact Ev.now _
 ·refine Ev.bind (f := fun k t => if t = true then ((spec_l02Normal.f k l).bind fun t540 => ((spec_IsShape.f k t540).bind fun t543 => (if t543 = true then (some 0) else (some 3)))) else (some 1)) (specShape_ev l hl) ?_
  simp only [hb, Bool.false_eq_true, if_false]; exact Ev.now _
-- USES Base Cell In Shape ShUse Sort
-- USES Base Cell In Shape ShUse Sort SortI
theorem icode_ev (l : List C) (hl : l.length ≤ 1048576) : Ev (fun k => impl_shapeCode.f k l) (codeP l) := by
 unfold impl_shapeCode.f codeP
 rcases sh_cases l with ⟨hs, hb⟩ | ⟨hs, hb⟩
 ·refine Ev.bind (f := fun k t => if t = true then ((impl_normal.f k l).bind fun t540 => ((impl_IsShape.f k t540).bind fun t543 => (if t543 = true then (some 0) else (some 3)))) else (some 1)) (implShape_ev l hl) ?_
  simp only [hb, if_true]
  refine Ev.bind (f := fun k t540 => ((impl_IsShape.f k t540).bind fun t543 => (if t543 = true then (some 0) else (some 3)))) (implNorm_ev l hs.1 hl) ?_
  refine Ev.bind (f := fun k t543 => (if t543 = true then (some (0 : Int)) else (some 3))) (implShape_ev (normL l) (by rw [normL_length]; exact hl)) ?_
  cases shB (normL l) <;> exact Ev.now _
 ·refine Ev.bind (f := fun k t => if t = true then ((impl_normal.f k l).bind fun t540 => ((impl_IsShape.f k t540).bind fun t543 => (if t543 = true then (some 0) else (some 3)))) else (some 1)) (implShape_ev l hl) ?_
  simp only [hb, Bool.false_eq_true, if_false]; exact Ev.now _
theorem codeP_cases (l : List C) : (¬ Sh l ∧ shB l = false ∧ codeP l = 1) ∨ (Sh l ∧ shB l = true ∧ codeP l = 0) ∨ (Sh l ∧ shB l = true ∧ codeP l = 3) := by
 unfold codeP
 rcases sh_cases l with ⟨hs, hb⟩ | ⟨hs, hb⟩
 ·rw [hb]
  cases shB (normL l)
  ·exact Or.inr (Or.inr ⟨hs, rfl, rfl⟩)
  ·exact Or.inr (Or.inl ⟨hs, rfl, rfl⟩)
 ·rw [hb]; exact Or.inl ⟨hs, rfl, rfl⟩
-- USES Base Cell Shape
-- USES Base Cell In Shape ShUse Sort Cmp
-- USES Base Cell In Shape ShUse
theorem codeP_sh {l : List C} (h : codeP l = 0) : Sh l := by
 rcases codeP_cases l with ⟨_, _, hc⟩ | ⟨hs, _, _⟩ | ⟨hs, _, _⟩
 ·omega
 ·exact hs
 ·exact hs
-- USES Base Cell Shape ShUse Sort Cmp CmpO
-- USES Base Cell Shape ShUse Sort Cmp CmpO AddP
-- USES Base Cell In Shape ShUse Fold Moved Norm Sort Turn TurnS TurnI CodeP Cmp CmpO AddP LeS
-- USES Base Cell In Shape ShUse Fold Moved Norm Sort Turn TurnS TurnI CodeP Cmp CmpO AddP LeS FormsP
-- USES Base Cell In Shape ShUse Fold Moved Norm Sort Turn TurnS TurnI CodeP SymP Cmp CmpO AddP LeS FormsP FreeP TransP
theorem sh_BD {l : List C} (h : Sh l) : BD l := fun c hc => by
 have := h.ok hc
 unfold okC at this; omega
theorem sh_of {l : List C} (h1 : 1 ≤ l.length) (h2 : l.length ≤ 40) (h3 : ∀ c ∈ l, okC c) (h4 : l.Pairwise ltC) : Sh l := by
 refine ⟨h1, h2, fun i hi => h3 _ (at_mem l i hi), fun i hi => ?_⟩
 rw [at_get l i (by omega), at_get l (i + 1) hi]
 exact List.pairwise_iff_getElem.1 h4 i (i + 1) (by omega) hi (by omega)
theorem code_wide {l : List C} (hc : codeP l = 0) : ∀ c ∈ l, ∀ d ∈ l, c.f0 - d.f0 ≤ 100 ∧ c.f1 - d.f1 ≤ 100 := by
 have hs := codeP_sh hc
 have hn : Sh (normL l) := by
  unfold codeP at hc
  rw [shB_true hs] at hc
  rcases sh_cases (normL l) with ⟨h, _⟩ | ⟨_, h⟩
  ·exact h
  ·rw [h] at hc; exact absurd hc (by decide)
 intro c hc d hd
 have hm : addC ⟨-(lo l).1, -(lo l).2⟩ c ∈ normL l := by
  rw [normL_U (sh_BD hs) hs.1]; exact List.mem_map_of_mem hc
 have ho := hn.ok hm
 have hd2 := lo_le hd
 unfold okC addC at ho
 simp only [] at ho
 omega
theorem normL_strict {l : List C} (hb : BD l) (h0 : 0 < l.length) (h : l.Pairwise ltC) : (normL l).Pairwise ltC := by
 rw [normL_U hb h0]
 unfold normU
 rw [List.pairwise_map]
 refine h.imp fun {a b} hab => ?_
 unfold ltC addC at *; simp only [] at *; omega
theorem polyS_loop {c : List Int} : ∀ (d : Nat) (l : List C) (b : Int) (i s : Int), d ≤ 20 → 0 < l.length → l.length + d ≤ 100 → 0 ≤ b → b + d ≤ 1000 → Wi b l → l.Pairwise ltC → Src c i s →
  ∃ r i' s', Ev (fun k => spec_l02DrawPoly.l0 k l (d : Nat) c i s) (r, i', s') ∧ Src c i' s' ∧ r.length = l.length + d ∧ Wi (2 * (b + d)) r ∧ r.Pairwise ltC := by
 intro d
 induction d with
 | zero =>
  intro l b i s _ h0 h1 hb0 hb h hst h'
  obtain ⟨c0, hc0, e0⟩ := lo_mem0 h0
  obtain ⟨c1, hc1, e1⟩ := lo_mem1 h0
  have w0 := h c0 hc0
  have w1 := h c1 hc1
  refine ⟨normL l, i, s, ?_, h', by rw [normL_length]; rfl, ?_, normL_strict (fun c hc => by have := h c hc; omega) h0 hst⟩
  ·refine Ev.step (f := fun k => (spec_l02Normal.f k l).bind fun t350 => (some (t350, i, s))) (fun k => ?_) ?_
   ·simp only [spec_l02DrawPoly.l0]; rw [if_neg (by omega)]
   ·exact Ev.bind (f := fun k t350 => some (t350, i, s)) (specNorm_ev l h0 (by omega)) (Ev.now _)
  ·have e : wrap64 (-(lo l).1) = -(lo l).1 := w64 (by omega) (by omega)
   have e' : wrap64 (-(lo l).2) = -(lo l).2 := w64 (by omega) (by omega)
   unfold normL
   rw [e, e']
   exact wi_mono (movL_wi h _ _ (b := b) (by omega) (by omega) (by omega) (by omega)) (by omega)
 | succ d ih =>
  intro l b i s hd h0 h1 hb0 hb h hst h'
  have hnl := nbP_length l
  have hne := nbP_ne h0
  have hnw := nbP_wi h
  obtain ⟨q, i1, s1, e1, hs1, p1, q1, _⟩ := next_some h' ((nbP l).length : Int) (by omega)
  have q1 := q1 (by omega)
  obtain ⟨n, rfl⟩ := Int.eq_ofNat_of_zero_le p1
  have hn : n < (nbP l).length := by omega
  have hm := at_mem (nbP l) n hn
  have hw := insP_wi (wi_mono h (show b ≤ b + 1 by omega)) (hnw _ hm)
  have hst2 := insP_strict hst ((nbP_mem l _).1 hm).2
  obtain ⟨r, i', s', e, hs', hr, hrw, hrs⟩ := ih (insP (at_ (nbP l) n) l) (b + 1) i1 s1 (by omega) (by rw [insP_length]; omega) (by rw [insP_length]; omega) (by omega) (by omega) hw hst2 hs1
  refine ⟨r, i', s', ?_, hs', by rw [hr, insP_length]; omega, by rw [show b + ((d + 1 : Nat) : Int) = b + 1 + (d : Nat) from by omega]; exact hrw, hrs⟩
  refine Ev.step (f := fun k => (spec_l02Neighbours.f k l).bind fun t340 => ((spec_l01Next.f c i s (t340.length : Int)).bind fun bt343 => (if 0 ≤ bt343.1 then (if bt343.1 < (t340.length : Int) then ((spec_l02Insert.f k l ((rd_T43 t340 bt343.1).f0) ((rd_T43 t340 bt343.1).f1)).bind fun t347 => (spec_l02DrawPoly.l0 k t347 (d : Nat) c bt343.2.1 bt343.2.2)) else (none)) else (none)))) (fun k => ?_) ?_
  ·simp only [spec_l02DrawPoly.l0]
   rw [if_pos (by omega), w64 (x := ((d + 1 : Nat) : Int) - 1) (by omega) (by omega), show ((d + 1 : Nat) : Int) - 1 = (d : Nat) from by omega]
  ·refine Ev.bind (f := fun k t340 => ((spec_l01Next.f c i s (t340.length : Int)).bind fun bt343 => (if 0 ≤ bt343.1 then (if bt343.1 < (t340.length : Int) then ((spec_l02Insert.f k l ((rd_T43 t340 bt343.1).f0) ((rd_T43 t340 bt343.1).f1)).bind fun t347 => (spec_l02DrawPoly.l0 k t347 (d : Nat) c bt343.2.1 bt343.2.2)) else (none)) else (none)))) (specNb_ev l (by omega) (wi_mono h (by omega))) ?_
   simp only [e1, Option.bind_some, if_pos p1, if_pos q1, rd_at]
   exact Ev.bind (f := fun k t347 => spec_l02DrawPoly.l0 k t347 (d : Nat) c i1 s1) (specIns_ev l _ _ (by omega)) e
theorem polyS_some {c : List Int} {i s : Int} (h : Src c i s) : ∃ r i' s', Ev (fun k => spec_l02DrawPoly.f k c i s 8) (r, i', s') ∧ Src c i' s' ∧ Sh r := by
 obtain ⟨q, i1, s1, e1, hs1, p1, q1, _⟩ := next_some h 8 (by omega)
 have q1 := q1 (by omega)
 obtain ⟨m, rfl⟩ := Int.eq_ofNat_of_zero_le p1
 obtain ⟨r, i', s', e, hs', hr, hw, hst⟩ := polyS_loop m [⟨0, 0⟩] 0 i1 s1 (by omega) (by simp) (by simp; omega) (by omega) (by omega) (fun c hc => by simp at hc; rw [hc]; simp) (List.pairwise_singleton ..) hs1
 have hl1 : r.length = 1 + m := by rw [hr]; rfl
 refine ⟨r, i', s', ?_, hs', sh_of (by omega) (by omega) (fun c hc => by have := hw c hc; unfold okC; omega) hst⟩
 unfold spec_l02DrawPoly.f
 simp only [e1, Option.bind_some]
 exact e
theorem specSize_ev (l : List C) (h : Sh l) : Ev (fun k => spec_l04Size.f k l) (sz l) := by
 have hn := h.1
 have hm40 := h.2.1
 unfold spec_l04Size.f
 refine Ev.bind (f := fun k (bt : Int × Int) => spec_l04Size.l0 k l bt.1 bt.2 0 0 0) (least_ev l (by omega) (by omega)) ?_
 obtain ⟨c0, hc0, b0⟩ := lo_mem0 (l := l) (by omega)
 obtain ⟨c1, hc1, b1⟩ := lo_mem1 (l := l) (by omega)
 have o0 := h.ok hc0
 have o1 := h.ok hc1
 unfold okC at o0 o1
 refine ev_fold (fun k (s : Int × Int) j => spec_l04Size.l0 k l (lo l).1 (lo l).2 s.1 s.2 j) l (fun s c => (mx s.1 (wrap64 (wrap64 (c.f0 - (lo l).1) + 1)), mx s.2 (wrap64 (wrap64 (c.f1 - (lo l).2) + 1)))) some _ (fun _ _ => True) ?_ ?_ 0 (by omega) (0, 0) trivial ?_
 ·intro k s j hj hm _
  refine ⟨?_, trivial⟩
  simp only [spec_l04Size.l0, rd_at]; rw [if_pos (by omega), if_pos (by omega), w64 (x := (j : Int) + 1) (by omega) (by omega)]; rfl
 ·intro k s _
  simp only [spec_l04Size.l0]; rw [if_neg (by omega)]
 ·rw [List.drop_zero, foldl_pair (fun s c => mx s (wrap64 (wrap64 (c.f0 - (lo l).1) + 1))) (fun s c => mx s (wrap64 (wrap64 (c.f1 - (lo l).2) + 1)))]
  have wr : ∀ a b : Int, -100 ≤ a → a ≤ 100 → -100 ≤ b → b ≤ 100 → wrap64 (wrap64 (a - b) + 1) = a - b + 1 := by
   intro a b _ _ _ _; rw [w64 (x := a - b) (by omega) (by omega), w64 (by omega) (by omega)]
  have m0 := mxF_spec (fun c => wrap64 (wrap64 (c.f0 - (lo l).1) + 1)) l 0
  have m1 := mxF_spec (fun c => wrap64 (wrap64 (c.f1 - (lo l).2) + 1)) l 0
  have f0 : ∀ c ∈ l, wrap64 (wrap64 (c.f0 - (lo l).1) + 1) = c.f0 - (lo l).1 + 1 := fun c hc => by have := h.ok hc; unfold okC at this; exact wr _ _ (by omega) (by omega) (by omega) (by omega)
  have f1 : ∀ c ∈ l, wrap64 (wrap64 (c.f1 - (lo l).2) + 1) = c.f1 - (lo l).2 + 1 := fun c hc => by have := h.ok hc; unfold okC at this; exact wr _ _ (by omega) (by omega) (by omega) (by omega)
  have a0 : mxF (fun c => wrap64 (wrap64 (c.f0 - (lo l).1) + 1)) l 0 = (hi l).1 - (lo l).1 + 1 := by
   obtain ⟨d, hd, e⟩ := hi_mem0 (l := l) (by omega)
   have g1 := m0.2.1 d hd
   have g2 := (lo_le hd).1
   have g3 := f0 d hd
   simp only [g3] at g1
   rcases m0.2.2 with g | ⟨c, hc, g⟩
   ·omega
   ·have := (le_hi hc).1; have := f0 c hc; replace g := g.trans this; omega
  have a1 : mxF (fun c => wrap64 (wrap64 (c.f1 - (lo l).2) + 1)) l 0 = (hi l).2 - (lo l).2 + 1 := by
   obtain ⟨d, hd, e⟩ := hi_mem1 (l := l) (by omega)
   have g1 := m1.2.1 d hd
   have g2 := (lo_le hd).2
   have g3 := f1 d hd
   simp only [g3] at g1
   rcases m1.2.2 with g | ⟨c, hc, g⟩
   ·omega
   ·have := (le_hi hc).2; have := f1 c hc; replace g := g.trans this; omega
  show some (mxF (fun c => wrap64 (wrap64 (c.f0 - (lo l).1) + 1)) l 0, mxF (fun c => wrap64 (wrap64 (c.f1 - (lo l).2) + 1)) l 0) = _
  rw [a0, a1]; rfl
theorem reach_ev (l : List C) (h : 0 < l.length) (hl : l.length ≤ 1048576) : Ev (fun k => impl_reach.f k l) (hi l) := by
 unfold impl_reach.f
 simp only [if_pos (show 0 < (l.length : Int) by omega)]
 have e0 : rd_T43 l 0 = at_ l 0 := rd_at l 0
 rw [e0]
 refine ev_fold (fun k (s : Int × Int) j => impl_reach.l0 k l (l.length : Int) j s.1 s.2) l (fun s c => (mx s.1 c.f0, mx s.2 c.f1)) some _ (fun _ _ => True) ?_ ?_ 0 (by omega) ((at_ l 0).f0, (at_ l 0).f1) trivial ?_
 ·intro k s j hj hm _
  refine ⟨?_, trivial⟩
  simp only [impl_reach.l0, rd_at]; rw [if_pos (by omega), if_pos (by omega), if_pos (by omega), w64 (x := (j : Int) + 1) (by omega) (by omega)]; rfl
 ·intro k s _
  simp only [impl_reach.l0]; rw [if_neg (by omega)]
 ·rw [List.drop_zero, foldl_pair (fun s c => mx s c.f0) (fun s c => mx s c.f1)]; rfl
def cellN (q : List C) (x y : Int) : Int := if 0 ≤ ixF 0 q x y then 35 else 46
def rowT (q : List C) (y : Int) : Nat → Nat → List Int
 | 0, _ => []
 | d + 1, x => cellN q (x : Nat) y :: rowT q y d (x + 1)
def allT (q : List C) (m : Nat) : Nat → Nat → List Int
 | 0, _ => []
 | d + 1, y => ((if 0 < y then [47] else []) ++ rowT q (y : Nat) m 0) ++ allT q m d (y + 1)
def rowsT (q : List C) (m : Nat) : Nat → Nat → List (List Int)
 | 0, _ => []
 | d + 1, y => rowT q (y : Nat) m 0 :: rowsT q m d (y + 1)
theorem rowT_length (q : List C) (y : Int) : ∀ d x, (rowT q y d x).length = d
 | 0, _ => rfl
 | d + 1, x => by rw [rowT, List.length_cons, rowT_length q y d (x + 1)]
theorem rowT_at (q : List C) (y : Int) : ∀ d x i, i < d → (rowT q y d x)[i]? = some (cellN q ((x + i : Nat) : Int) y)
 | 0, _, _, h => absurd h (Nat.not_lt_zero _)
 | d + 1, x, 0, _ => rfl
 | d + 1, x, i + 1, h => by
  rw [rowT, List.getElem?_cons_succ, rowT_at q y d (x + 1) i (by omega), show x + 1 + i = x + (i + 1) by omega]
theorem rowsT_length (q : List C) (m : Nat) : ∀ d y, (rowsT q m d y).length = d
 | 0, _ => rfl
 | d + 1, y => by rw [rowsT, List.length_cons, rowsT_length q m d (y + 1)]
theorem rowsT_at (q : List C) (m : Nat) : ∀ d y i, i < d → (rowsT q m d y)[i]? = some (rowT q ((y + i : Nat) : Int) m 0)
 | 0, _, _, h => absurd h (Nat.not_lt_zero _)
 | d + 1, y, 0, _ => rfl
 | d + 1, y, i + 1, h => by
  rw [rowsT, List.getElem?_cons_succ, rowsT_at q m d (y + 1) i (by omega), show y + 1 + i = y + (i + 1) by omega]
theorem textRow_loop (q : List C) (hq : q.length ≤ 1048576) (n m y : Nat) (r : ByteArray) (hm : m ≤ 1000) (hy : y ≤ 1000) : ∀ (d x : Nat) (out : List Int), x + d = m → out.length + d ≤ 1000000 →
  Ev (fun k => spec_l04Text.l0 k (m : Nat) (n : Nat) q (out ++ rowT q (y : Nat) d x) ((y + 1 : Nat) : Int)) r → Ev (fun k => spec_l04Text.l1 k (m : Nat) (n : Nat) q out (y : Nat) (x : Nat)) r := by
 intro d
 induction d with
 | zero =>
  intro x out hx ho h
  refine Ev.step (fun k => ?_) h
  simp only [spec_l04Text.l1, rowT, List.append_nil]
  rw [if_neg (by omega), w64 (x := (y : Int) + 1) (by omega) (by omega)]; rfl
 | succ d ih =>
  intro x out hx ho h
  have e : ∀ k, spec_l04Text.l1 (k + 1) (m : Nat) (n : Nat) q out (y : Nat) (x : Nat) = (spec_l02Index.f k q (x : Nat) (y : Nat)).bind fun t => spec_l04Text.l1 k (m : Nat) (n : Nat) q (out ++ [if 0 ≤ t then 35 else 46]) (y : Nat) ((x + 1 : Nat) : Int) := by
   intro k
   simp only [spec_l04Text.l1]
   rw [if_pos (by omega)]
   congr 1
   funext t
   rw [w64 (x := (x : Int) + 1) (by omega) (by omega)]
   by_cases c : t ≥ 0
   ·have c2 : 0 ≤ t := c
    rw [if_pos c, if_pos (by omega), if_pos c2]; rfl
   ·have c2 : ¬ 0 ≤ t := c
    rw [if_neg c, if_pos (by omega), if_neg c2]; rfl
  refine Ev.step e (Ev.bind (f := fun k t => spec_l04Text.l1 k (m : Nat) (n : Nat) q (out ++ [if 0 ≤ t then 35 else 46]) (y : Nat) ((x + 1 : Nat) : Int)) (specIx_ev q (x : Nat) (y : Nat) hq) ?_)
  refine ih (x + 1) _ (by omega) (by rw [List.length_append]; simp; omega) ?_
  rw [rowT] at h
  rw [List.append_assoc]
  exact h
theorem text_loop (q : List C) (hq : q.length ≤ 1048576) (n m : Nat) (hm : m ≤ 1000) (hn : n ≤ 1000) : ∀ (d y : Nat) (out : List Int), y + d = n → out.length + d * (m + 1) ≤ 1000000 →
  Ev (fun k => spec_l04Text.l0 k (m : Nat) (n : Nat) q out (y : Nat)) (strOfNums (out ++ allT q m d y)) := by
 intro d
 induction d with
 | zero =>
  intro y out hy ho
  refine Ev.step (f := fun _ => some (strOfNums (out ++ allT q m 0 y))) (fun k => ?_) (Ev.now _)
  simp only [spec_l04Text.l0, allT, List.append_nil]
  rw [if_neg (by omega)]
 | succ d ih =>
  intro y out hy ho
  have hs : (d + 1) * (m + 1) = d * (m + 1) + (m + 1) := Nat.succ_mul ..
  have e : ∀ k, spec_l04Text.l0 (k + 1) (m : Nat) (n : Nat) q out (y : Nat) = spec_l04Text.j1 k (m : Nat) (n : Nat) q (out ++ if 0 < y then [47] else []) (y : Nat) := by
   intro k
   simp only [spec_l04Text.l0]
   rw [if_pos (by omega)]
   by_cases c : 0 < y
   ·rw [if_pos (show (y : Int) > 0 by omega), if_pos (by omega), if_pos c]
   ·rw [if_neg (show ¬ (y : Int) > 0 by omega), if_neg c, List.append_nil]
  have hl : (out ++ if 0 < y then [47] else []).length ≤ out.length + 1 := by
   rw [List.length_append]; split <;> simp
  refine Ev.step e (Ev.step (f := fun k => spec_l04Text.l1 k (m : Nat) (n : Nat) q (out ++ if 0 < y then [47] else []) (y : Nat) ((0 : Nat) : Int)) (fun k => by simp only [spec_l04Text.j1]; rfl) ?_)
  refine textRow_loop q hq n m y _ hm (by omega) m 0 _ (by omega) (by omega) ?_
  have h := ih (y + 1) ((out ++ if 0 < y then [47] else []) ++ rowT q (y : Nat) m 0) (by omega) (by rw [List.length_append, rowT_length]; omega)
  rw [allT, ← List.append_assoc, ← List.append_assoc]
  exact h
def textP (l : List C) : ByteArray := strOfNums (allT (normL l) (sz l).1.toNat (sz l).2.toNat 0)
theorem specText_ev (l : List C) (h : Sh l) (hl : l.length ≤ 1048576) : Ev (fun k => spec_l04Text.f k l) (textP l) := by
 have hz := sz_ok h
 unfold spec_l04Text.f
 refine Ev.bind (f := fun k (bt : Int × Int) => (spec_l02Normal.f k l).bind fun t => spec_l04Text.l0 k bt.1 bt.2 t [] 0) (specSize_ev l h) ?_
 refine Ev.bind (f := fun k t => spec_l04Text.l0 k (sz l).1 (sz l).2 t [] 0) (specNorm_ev l h.1 hl) ?_
 have h2 : (sz l).2.toNat * ((sz l).1.toNat + 1) ≤ 201 * 202 := Nat.mul_le_mul (by omega) (by omega)
 have h1 := text_loop (normL l) (by rw [normL_length]; exact hl) (sz l).2.toNat (sz l).1.toNat (by omega) (by omega) (sz l).2.toNat 0 [] (by omega) (by simp only [List.length_nil]; omega)
 rw [show (((sz l).1.toNat : Nat) : Int) = (sz l).1 by omega, show (((sz l).2.toNat : Nat) : Int) = (sz l).2 by omega] at h1
 exact h1
theorem marks_at (n m : Nat) : ∀ (cs : List C) (g : List (List Int)), g.length = n → (∀ r ∈ g, r.length = m) → (∀ c ∈ cs, (0 ≤ c.f0 ∧ c.f0 < (m : Int)) ∧ 0 ≤ c.f1 ∧ c.f1 < (n : Int)) →
  (cs.foldl markRow_ g).length = n ∧ ∀ y, y < n → ∃ row, (cs.foldl markRow_ g)[y]? = some row ∧ row.length = m ∧ ∀ x : Nat, x < m → (((⟨(x : Nat), (y : Nat)⟩ : C) ∈ cs → row[x]? = some 35) ∧ (¬ (⟨(x : Nat), (y : Nat)⟩ : C) ∈ cs → row[x]? = (g.getD y [])[x]?)) := by
 intro cs
 induction cs with
 | nil =>
  intro g hg hm _
  refine ⟨hg, fun y hy => ⟨g[y]'(by omega), List.getElem?_eq_getElem _, hm _ (List.getElem_mem _), fun x hx => ⟨fun h => by simp at h, fun _ => ?_⟩⟩⟩
  rw [List.getD_eq_getElem?_getD, List.getElem?_eq_getElem (show y < g.length by omega)]; rfl
 | cons c r ih =>
  intro g hg hm hc
  obtain ⟨⟨c1, c2⟩, c3, c4⟩ := hc c (List.mem_cons_self ..)
  have hyl : c.f1.toNat < g.length := by omega
  have hgy : g.getD c.f1.toNat [] = g[c.f1.toNat] := by rw [List.getD_eq_getElem?_getD, List.getElem?_eq_getElem hyl]; rfl
  have hrl := hm _ (List.getElem_mem hyl)
  have hm' : ∀ q ∈ markRow_ g c, q.length = m := by
   intro q hq
   unfold markRow_ at hq
   rcases List.mem_or_eq_of_mem_set hq with h | h
   ·exact hm q h
   ·rw [h, List.length_set, hgy]; exact hrl
  obtain ⟨i1, i2⟩ := ih (markRow_ g c) (by unfold markRow_; rw [List.length_set]; exact hg) hm' (fun d hd => hc d (List.mem_cons_of_mem _ hd))
  refine ⟨i1, fun y hy => ?_⟩
  obtain ⟨row, j1, j2, j3⟩ := i2 y hy
  refine ⟨row, j1, j2, fun x hx => ?_⟩
  obtain ⟨k1, k2⟩ := j3 x hx
  have hval : (c = ⟨(x : Nat), (y : Nat)⟩ → ((markRow_ g c).getD y [])[x]? = some 35) ∧ (¬ c = ⟨(x : Nat), (y : Nat)⟩ → ((markRow_ g c).getD y [])[x]? = (g.getD y [])[x]?) := by
   unfold markRow_
   rw [hgy, List.getD_eq_getElem?_getD, List.getD_eq_getElem?_getD]
   refine ⟨fun e => ?_, fun e => ?_⟩
   ·subst e
    simp only [Int.toNat_natCast]
    rw [List.getElem?_set_self (by omega)]
    simp only [Option.getD_some]
    rw [List.getElem?_set_self (by simp only [Int.toNat_natCast] at hrl; omega)]
   ·by_cases e1 : c.f1.toNat = y
    ·subst e1
     rw [List.getElem?_set_self hyl, List.getElem?_eq_getElem hyl]
     simp only [Option.getD_some]
     rw [List.getElem?_set_ne (fun e2 => e ?_)]
     rcases c with ⟨a, b⟩
     simp only at c1 c3 e2 ⊢
     rw [← e2, show ((a.toNat : Nat) : Int) = a by omega, show ((b.toNat : Nat) : Int) = b by omega]
    ·rw [List.getElem?_set_ne e1]
  refine ⟨fun h => ?_, fun h => ?_⟩
  ·by_cases hr : (⟨(x : Nat), (y : Nat)⟩ : C) ∈ r
   ·exact k1 hr
   ·rw [k2 hr]
    rcases List.mem_cons.1 h with h | h
    ·exact hval.1 h.symm
    ·exact absurd h hr
  ·rw [k2 (fun hr => h (List.mem_cons_of_mem _ hr))]
   exact hval.2 (fun e => h (by rw [e]; exact List.mem_cons_self ..))
theorem textRows_eq (q : List C) (n m : Nat) (hc : ∀ c ∈ q, (0 ≤ c.f0 ∧ c.f0 < (m : Int)) ∧ 0 ≤ c.f1 ∧ c.f1 < (n : Int)) : textRows_ n m q = rowsT q m n 0 := by
 obtain ⟨h1, h2⟩ := marks_at n m q (List.replicate n (List.replicate m 46)) (List.length_replicate ..) (fun r hr => by rw [(List.mem_replicate.1 hr).2, List.length_replicate]) hc
 apply List.ext_getElem?
 intro y
 rcases Nat.lt_or_ge y n with hy | hy
 ·obtain ⟨row, j1, j2, j3⟩ := h2 y hy
  unfold textRows_
  rw [j1, rowsT_at q m n 0 y hy]
  congr 1
  apply List.ext_getElem?
  intro x
  rcases Nat.lt_or_ge x m with hx | hx
  ·obtain ⟨k1, k2⟩ := j3 x hx
   rw [rowT_at q _ m 0 x hx, Nat.zero_add, Nat.zero_add]
   unfold cellN
   by_cases c : (⟨(x : Nat), (y : Nat)⟩ : C) ∈ q
   ·rw [k1 c, if_pos ((ixF_mem _ _ q 0).2 c)]
   ·rw [k2 c, if_neg (fun e => c ((ixF_mem _ _ q 0).1 e)), List.getD_eq_getElem?_getD, List.getElem?_replicate, if_pos hy]
    simp only [Option.getD_some]
    rw [List.getElem?_replicate, if_pos hx]
  ·rw [List.getElem?_eq_none (by omega), List.getElem?_eq_none (by rw [rowT_length]; exact hx)]
 ·unfold textRows_
  rw [List.getElem?_eq_none (by omega), List.getElem?_eq_none (by rw [rowsT_length]; exact hy)]
theorem joinTail_T (q : List C) (m : Nat) : ∀ d y, Lib.joinTail [47] ((rowsT q m d (y + 1)).map fun r => (strOfNums r).data.toList) = (allT q m d (y + 1)).map fun n => UInt8.ofNat n.toNat
 | 0, _ => rfl
 | d + 1, y => by
  have ih := joinTail_T q m d (y + 1)
  rw [rowsT, allT, if_pos (Nat.succ_pos y), List.map_cons, List.map_append, List.map_append, ← ih]
  unfold Lib.joinTail
  rw [List.map_cons, List.flatten_cons, strOfNums_data]
  rfl
theorem joined_T (q : List C) (m d : Nat) : joined_ (rowsT q m (d + 1) 0) = strOfNums (allT q m (d + 1) 0) := by
 unfold joined_ strOfNums
 rw [rowsT, allT, if_neg (Nat.lt_irrefl 0), List.map_cons, Lib.join_cons, List.nil_append, List.map_append, ← joinTail_T q m d 0]
 rfl
theorem hi_norm {l : List C} (h : Sh l) : (hi (normL l)).1 + 1 = (sz l).1 ∧ (hi (normL l)).2 + 1 = (sz l).2 := by
 have hn := h.1
 have e := normL_eq h
 have hq : 0 < (normL l).length := by rw [normL_length]; exact hn
 have hm : ∀ c ∈ l, (⟨c.f0 - (lo l).1, c.f1 - (lo l).2⟩ : C) ∈ normL l := fun c hc => by rw [e]; exact List.mem_map.2 ⟨c, hc, rfl⟩
 have hm2 : ∀ d ∈ normL l, ∃ c ∈ l, d = ⟨c.f0 - (lo l).1, c.f1 - (lo l).2⟩ := fun d hd => by
  rw [e] at hd
  obtain ⟨c, hc, rfl⟩ := List.mem_map.1 hd
  exact ⟨c, hc, rfl⟩
 unfold sz
 obtain ⟨a, ha, a1⟩ := hi_mem0 (l := l) (by omega)
 obtain ⟨b, hb, b1⟩ := hi_mem1 (l := l) (by omega)
 obtain ⟨a', ha', a1'⟩ := hi_mem0 hq
 obtain ⟨b', hb', b1'⟩ := hi_mem1 hq
 obtain ⟨c, hc, rfl⟩ := hm2 a' ha'
 obtain ⟨d, hd, rfl⟩ := hm2 b' hb'
 have u1 := (le_hi (hm a ha)).1
 have u2 := (le_hi (hm b hb)).2
 have u3 := (le_hi hc).1
 have u4 := (le_hi hd).2
 simp only at u1 u2 a1' b1'
 constructor <;> simp only <;> omega
theorem implText_ev (l : List C) (h : Sh l) (hl : l.length ≤ 1048576) : Ev (fun k => impl_shapeText.f k l) (textP l) := by
 have hz := sz_ok h
 obtain ⟨z1, z2⟩ := hi_norm h
 unfold impl_shapeText.f
 refine Ev.bind (f := fun k o => (impl_reach.f k o).bind fun p => if (0 ≤ p.1 ∧ p.1 < 1000000) ∧ (0 ≤ p.2 ∧ p.2 < 1000000) ∧ ∀ c ∈ o, (0 ≤ c.f0 ∧ c.f0 ≤ p.1) ∧ 0 ≤ c.f1 ∧ c.f1 ≤ p.2 then some (joined_ (textRows_ (p.2.toNat + 1) (p.1.toNat + 1) o)) else none) (implNorm_ev l h.1 hl) ?_
 refine Ev.bind (f := fun _ p => if (0 ≤ p.1 ∧ p.1 < 1000000) ∧ (0 ≤ p.2 ∧ p.2 < 1000000) ∧ ∀ c ∈ normL l, (0 ≤ c.f0 ∧ c.f0 ≤ p.1) ∧ 0 ≤ c.f1 ∧ c.f1 ≤ p.2 then some (joined_ (textRows_ (p.2.toNat + 1) (p.1.toNat + 1) (normL l))) else none) (reach_ev (normL l) (by rw [normL_length]; exact h.1) (by rw [normL_length]; exact hl)) ?_
 have hin : ∀ c ∈ normL l, (0 ≤ c.f0 ∧ c.f0 ≤ (hi (normL l)).1) ∧ 0 ≤ c.f1 ∧ c.f1 ≤ (hi (normL l)).2 := by
  intro c hc
  have hc2 := le_hi hc
  rw [normL_eq h] at hc
  obtain ⟨d, hd, rfl⟩ := List.mem_map.1 hc
  have := norm_lt h hd
  exact ⟨⟨this.1, hc2.1⟩, this.2.2.1, hc2.2⟩
 have hv : (if (0 ≤ (hi (normL l)).1 ∧ (hi (normL l)).1 < 1000000) ∧ (0 ≤ (hi (normL l)).2 ∧ (hi (normL l)).2 < 1000000) ∧ ∀ c ∈ normL l, (0 ≤ c.f0 ∧ c.f0 ≤ (hi (normL l)).1) ∧ 0 ≤ c.f1 ∧ c.f1 ≤ (hi (normL l)).2 then some (joined_ (textRows_ ((hi (normL l)).2.toNat + 1) ((hi (normL l)).1.toNat + 1) (normL l))) else none) = some (textP l) := by
  rw [if_pos ⟨⟨by omega, by omega⟩, ⟨by omega, by omega⟩, hin⟩, textRows_eq _ _ _ (fun c hc => by have := hin c hc; omega), joined_T]
  unfold textP
  rw [show (hi (normL l)).1.toNat + 1 = (sz l).1.toNat by omega, show (hi (normL l)).2.toNat + 1 = (sz l).2.toNat by omega]
 exact ⟨0, fun k _ => hv⟩
noncomputable def stP (l : List C) : ByteArray × Int := if codeP l = 0 then (textP l, 0) else (⟨#[]⟩, codeP l)
theorem code_sh {l : List C} (h : codeP l = 0) : Sh l := by
 rcases codeP_cases l with ⟨_, _, g⟩ | ⟨g, _⟩ | ⟨g, _⟩
 ·rw [g] at h; exact absurd h (by decide)
 ·exact g
 ·exact g
theorem specSt_ev (l : List C) (hl : l.length ≤ 1048576) : Ev (fun k => spec_ShapeText.f k l) (stP l) := by
 unfold spec_ShapeText.f
 refine Ev.bind (f := fun k t => if t = 0 then ((spec_l04Text.f k l).bind fun t602 => (some (t602, 0))) else (some ((⟨#[]⟩ : ByteArray), t))) (scode_ev l hl) ?_
 unfold stP
 by_cases c : codeP l = 0
 ·simp only [if_pos c]
  exact Ev.bind (f := fun _ t => some (t, (0 : Int))) (specText_ev l (code_sh c) hl) (Ev.now _)
 ·simp only [if_neg c]
  exact Ev.now _
theorem implSt_ev (l : List C) (hl : l.length ≤ 1048576) : Ev (fun k => impl_ShapeText.f k l) (stP l) := by
 unfold impl_ShapeText.f
 refine Ev.bind (f := fun k t => if t = 0 then ((impl_shapeText.f k l).bind fun t602 => (some (t602, 0))) else (some ((⟨#[]⟩ : ByteArray), t))) (icode_ev l hl) ?_
 unfold stP
 by_cases c : codeP l = 0
 ·simp only [if_pos c]
  exact Ev.bind (f := fun _ t => some (t, (0 : Int))) (implText_ev l (code_sh c) hl) (Ev.now _)
 ·simp only [if_neg c]
  exact Ev.now _
def rp : List UInt8 → List C → Int → Int → List C
 | [], acc, _, _ => acc
 | b :: r, acc, x, y => rp r (if b = 35 then acc ++ [⟨x, y⟩] else acc) (x + 1) y
def sp : List UInt8 → List C → Int → Int → List C
 | [], acc, _, _ => acc
 | b :: r, acc, x, y => if b = 47 then sp r acc 0 (y + 1) else sp r (if b = 35 then acc ++ [⟨x, y⟩] else acc) (x + 1) y
def gp : List (List UInt8) → List C → Int → List C
 | [], acc, _ => acc
 | p :: r, acc, y => gp r (rp p acc 0 y) (y + 1)
theorem rp_length : ∀ (l : List UInt8) (acc : List C) (x y : Int), acc.length ≤ (rp l acc x y).length ∧ (rp l acc x y).length ≤ acc.length + l.length
 | [], acc, _, _ => ⟨Nat.le_refl _, Nat.le_refl _⟩
 | b :: r, acc, x, y => by
  obtain ⟨h1, h2⟩ := rp_length r (if b = 35 then acc ++ [⟨x, y⟩] else acc) (x + 1) y
  have h3 : acc.length ≤ (if b = 35 then acc ++ [⟨x, y⟩] else acc).length ∧ (if b = 35 then acc ++ [⟨x, y⟩] else acc).length ≤ acc.length + 1 := by
   split
   ·rw [List.length_append]; simp
   ·omega
  rw [rp, List.length_cons]
  omega
theorem gp_length : ∀ (l : List (List UInt8)) (acc : List C) (y : Int), acc.length ≤ (gp l acc y).length
 | [], _, _ => Nat.le_refl _
 | p :: r, acc, y => by rw [gp]; exact Nat.le_trans (rp_length p acc 0 y).1 (gp_length r _ _)
theorem sp_cut : ∀ (l : List UInt8) (acc : List C) (x y : Int), (Lib.indexByte l 47 = -1 → sp l acc x y = rp l acc x y) ∧
  (∀ i : Nat, Lib.indexByte l 47 = (i : Nat) → sp l acc x y = sp (l.drop (i + 1)) (rp (l.take i) acc x y) 0 (y + 1) ∧ (l.drop (i + 1)).count 47 + 1 ≤ l.count 47)
 | [], acc, x, y => ⟨fun _ => rfl, fun i h => by
   rw [show Lib.indexByte [] 47 = -1 from rfl] at h; omega⟩
 | b :: r, acc, x, y => by
  have hge := Lib.indexByte_ge r 47
  by_cases hb : b = 47
  ·subst hb
   have e : Lib.indexByte ((47 : UInt8) :: r) 47 = 0 := by rw [Lib.indexByte, if_pos (by decide)]
   refine ⟨fun h => by rw [e] at h; omega, fun i h => ?_⟩
   rw [e] at h
   obtain rfl : i = 0 := by omega
   refine ⟨?_, ?_⟩
   ·rw [sp, if_pos rfl, List.take_zero, rp, List.drop_succ_cons, List.drop_zero]
   ·rw [List.drop_succ_cons, List.drop_zero, List.count_cons_self]; exact Nat.le_refl _
  ·obtain ⟨ih1, ih2⟩ := sp_cut r (if b = 35 then acc ++ [⟨x, y⟩] else acc) (x + 1) y
   have e : Lib.indexByte (b :: r) 47 = if Lib.indexByte r 47 == -1 then -1 else Lib.indexByte r 47 + 1 := by
    rw [Lib.indexByte, if_neg (by simpa using hb)]
   refine ⟨fun h => ?_, fun i h => ?_⟩
   ·have h1 : Lib.indexByte r 47 = -1 := by
     by_cases c : Lib.indexByte r 47 = -1
     ·exact c
     ·rw [e, if_neg (by simpa using c)] at h; omega
    rw [sp, if_neg hb, rp]
    exact ih1 h1
   ·have h1 : ¬ Lib.indexByte r 47 = -1 := by
     intro c
     rw [e, if_pos (by simpa using c)] at h; omega
    rw [e, if_neg (by simpa using h1)] at h
    obtain ⟨j, rfl⟩ : ∃ j, i = j + 1 := ⟨i - 1, by omega⟩
    obtain ⟨k1, k2⟩ := ih2 j (by omega)
    refine ⟨?_, ?_⟩
    ·rw [sp, if_neg hb, List.take_succ_cons, rp, List.drop_succ_cons]
     exact k1
    ·rw [List.drop_succ_cons, List.count_cons_of_ne hb]
     exact k2
theorem sp_gp : ∀ (k : Nat) (l : List UInt8) (acc : List C) (y : Int), l.count 47 ≤ k → sp l acc 0 y = gp (Lib.splitK [47] 0 k l) acc y := by
 intro k
 induction k with
 | zero =>
  intro l acc y hk
  obtain ⟨h1, h2⟩ := sp_cut l acc 0 y
  have hge := Lib.indexByte_ge l 47
  by_cases c : Lib.indexByte l 47 = -1
  ·rw [h1 c]; rfl
  ·have := (h2 (Lib.indexByte l 47).toNat (by omega)).2; omega
 | succ k ih =>
  intro l acc y hk
  obtain ⟨h1, h2⟩ := sp_cut l acc 0 y
  have hge := Lib.indexByte_ge l 47
  rw [Lib.splitK, Lib.index_one]
  by_cases c : Lib.indexByte l 47 = -1
  ·rw [if_pos (by simpa using c), h1 c]; rfl
  ·rw [if_neg (by simpa using c)]
   obtain ⟨k1, k2⟩ := h2 (Lib.indexByte l 47).toNat (by omega)
   rw [k1, ih _ _ _ (by omega), gp]
   rfl
theorem splitK_le : ∀ (k : Nat) (l : List UInt8), ∀ p ∈ Lib.splitK [47] 0 k l, p.length ≤ l.length := by
 intro k
 induction k with
 | zero => intro l p hp; rw [Lib.splitK, List.mem_singleton] at hp; rw [hp]; exact Nat.le_refl _
 | succ k ih =>
  intro l p hp
  rw [Lib.splitK] at hp
  split at hp
  ·rw [List.mem_singleton.1 hp]; exact Nat.le_refl _
  ·rcases List.mem_cons.1 hp with h | h
   ·rw [h, List.length_take]; omega
   ·have := ih _ p h; rw [List.length_drop] at this; omega
theorem bt_byte (s : ByteArray) (i : Nat) (h : i < s.data.toList.length) : bt s (i : Nat) = ((s.data.toList[i]).toNat : Int) := by
 have hs : i < s.size := h
 have := bt_at s (i : Nat) (by rw [Int.toNat_natCast]; exact hs)
 rw [← this]
 simp only [Int.toNat_natCast]
 rfl
theorem byte_is (b : UInt8) (n : Nat) (hn : n < 256) : ((b.toNat : Int) = (n : Nat)) ↔ b = UInt8.ofNat n := by
 constructor
 ·intro h
  apply UInt8.toNat_inj.1
  rw [UInt8.toNat_ofNat']
  omega
 ·intro h
  rw [h, UInt8.toNat_ofNat']
  omega
noncomputable def finP (s : ByteArray) (acc : List C) : List C × Int := if shB acc = true then (if (textP acc).toList = s.toList then (acc, 0) else ([], 6)) else ([], 6)
theorem finP_long (s : ByteArray) (acc : List C) (h : 40 < acc.length) : finP s acc = ([], 6) := by
 unfold finP
 rw [shB_false (fun g => by have := g.2.1; omega)]
 rfl
theorem specFin_ev (s : ByteArray) (acc : List C) (hl : acc.length ≤ 1048576) : Ev (fun k => (spec_IsShape.f k acc).bind fun t160 => (if t160 = true then ((spec_l04Text.f k acc).bind fun t161 => (if t161.toList = s.toList then (some (acc, (0 : Int))) else (some (([] : List C), 6)))) else (some (([] : List C), 6)))) (finP s acc) := by
 refine Ev.bind (f := fun k t160 => (if t160 = true then ((spec_l04Text.f k acc).bind fun t161 => (if t161.toList = s.toList then (some (acc, (0 : Int))) else (some (([] : List C), 6)))) else (some (([] : List C), 6)))) (specShape_ev acc hl) ?_
 unfold finP
 rcases sh_cases acc with ⟨hs, hb⟩ | ⟨_, hb⟩
 ·rw [hb]; simp only [if_true]
  refine Ev.bind (f := fun _ t161 => (if t161.toList = s.toList then (some (acc, (0 : Int))) else (some (([] : List C), 6)))) (specText_ev acc hs hl) ?_
  split <;> exact Ev.now _
 ·rw [hb]; exact Ev.now _
theorem implFin_ev (s : ByteArray) (acc : List C) (hl : acc.length ≤ 1048576) : Ev (fun k => (impl_IsShape.f k acc).bind fun t160 => (if t160 = true then ((impl_shapeText.f k acc).bind fun t161 => (if t161.toList = s.toList then (some (acc, (0 : Int))) else (some (([] : List C), 6)))) else (some (([] : List C), 6)))) (finP s acc) := by
 refine Ev.bind (f := fun k t160 => (if t160 = true then ((impl_shapeText.f k acc).bind fun t161 => (if t161.toList = s.toList then (some (acc, (0 : Int))) else (some (([] : List C), 6)))) else (some (([] : List C), 6)))) (implShape_ev acc hl) ?_
 unfold finP
 rcases sh_cases acc with ⟨hs, hb⟩ | ⟨_, hb⟩
 ·rw [hb]; simp only [if_true]
  refine Ev.bind (f := fun _ t161 => (if t161.toList = s.toList then (some (acc, (0 : Int))) else (some (([] : List C), 6)))) (implText_ev acc hs hl) ?_
  split <;> exact Ev.now _
 ·rw [hb]; exact Ev.now _
theorem specRead_loop (s : ByteArray) (hs : s.size ≤ 12000) : ∀ (d i : Nat) (acc : List C) (x y : Nat), i + d = s.size → acc.length ≤ i → x ≤ i → y ≤ i →
  Ev (fun k => spec_ReadShape.l0 k s acc (i : Nat) (x : Nat) (y : Nat)) (finP s (sp (s.data.toList.drop i) acc (x : Nat) (y : Nat))) := by
 have hsl : s.data.toList.length = s.size := by simp
 intro d
 induction d with
 | zero =>
  intro i acc x y hi ha hx hy
  rw [List.drop_of_length_le (by omega), sp]
  refine Ev.step (f := fun k => (spec_IsShape.f k acc).bind fun t160 => (if t160 = true then ((spec_l04Text.f k acc).bind fun t161 => (if t161.toList = s.toList then (some (acc, (0 : Int))) else (some (([] : List C), 6)))) else (some (([] : List C), 6)))) (fun k => ?_) (specFin_ev s acc (by omega))
  simp only [spec_ReadShape.l0]
  rw [if_neg (by omega)]
 | succ d ih =>
  intro i acc x y hi ha hx hy
  have hil : i < s.data.toList.length := by omega
  have hb := bt_byte s i hil
  rw [List.drop_eq_getElem_cons hil, sp]
  generalize s.data.toList[i] = b at hb ⊢
  have c47 : (b.toNat : Int) = 47 ↔ b = 47 := byte_is b 47 (by decide)
  have c35 : (b.toNat : Int) = 35 ↔ b = 35 := byte_is b 35 (by decide)
  by_cases h47 : b = 47
  ·rw [if_pos h47]
   refine Ev.step (f := fun k => spec_ReadShape.l0 k s acc ((i + 1 : Nat) : Int) ((0 : Nat) : Int) ((y + 1 : Nat) : Int)) (fun k => ?_) (ih (i + 1) acc 0 (y + 1) (by omega) (by omega) (by omega) (by omega))
   simp only [spec_ReadShape.l0]
   rw [if_pos (by omega), if_pos (by omega), hb, if_pos (c47.2 h47), w64 (x := (i : Int) + 1) (by omega) (by omega), w64 (x := (y : Int) + 1) (by omega) (by omega)]; rfl
  ·rw [if_neg h47]
   by_cases h35 : b = 35
   ·rw [if_pos h35]
    refine Ev.step (f := fun k => spec_ReadShape.l0 k s (acc ++ [⟨(x : Nat), (y : Nat)⟩]) ((i + 1 : Nat) : Int) ((x + 1 : Nat) : Int) (y : Nat)) (fun k => ?_) (ih (i + 1) _ (x + 1) y (by omega) (by rw [List.length_append]; simp; omega) (by omega) (by omega))
    simp only [spec_ReadShape.l0]
    rw [if_pos (by omega), if_pos (by omega), hb, if_neg (fun e => h47 (c47.1 e)), if_pos (c35.2 h35), if_pos (by omega), w64 (x := (i : Int) + 1) (by omega) (by omega), w64 (x := (x : Int) + 1) (by omega) (by omega)]; rfl
   ·rw [if_neg h35]
    refine Ev.step (f := fun k => spec_ReadShape.l0 k s acc ((i + 1 : Nat) : Int) ((x + 1 : Nat) : Int) (y : Nat)) (fun k => ?_) (ih (i + 1) acc (x + 1) y (by omega) (by omega) (by omega) (by omega))
    simp only [spec_ReadShape.l0]
    rw [if_pos (by omega), if_pos (by omega), hb, if_neg (fun e => h47 (c47.1 e)), if_neg (fun e => h35 (c35.1 e)), w64 (x := (i : Int) + 1) (by omega) (by omega), w64 (x := (x : Int) + 1) (by omega) (by omega)]; rfl
theorem implRow_loop (s row : ByteArray) (hr : row.size ≤ 12000) (ps : List ByteArray) (n : Int) (i : Nat) (hi : i ≤ 12000) (r : List C × Int) : ∀ (d j : Nat) (acc : List C), j + d = row.size → acc.length ≤ 40 + j →
  Ev (fun k => if ((rp (row.data.toList.drop j) acc (j : Nat) (i : Nat)).length : Int) > 40 then some (([] : List C), (6 : Int)) else impl_ReadShape.l0 k s (rp (row.data.toList.drop j) acc (j : Nat) (i : Nat)) ps n ((i + 1 : Nat) : Int)) r →
  Ev (fun k => impl_ReadShape.l1 k s acc (i : Nat) row (j : Nat) ps n (i : Nat)) r := by
 have hsl : row.data.toList.length = row.size := by simp
 intro d
 induction d with
 | zero =>
  intro j acc hj ha h
  rw [List.drop_of_length_le (by omega), rp] at h
  refine Ev.step (fun k => ?_) h
  simp only [impl_ReadShape.l1]
  rw [if_neg (by omega), w64 (x := (i : Int) + 1) (by omega) (by omega)]; rfl
 | succ d ih =>
  intro j acc hj ha h
  have hjl : j < row.data.toList.length := by omega
  have hb := bt_byte row j hjl
  rw [List.drop_eq_getElem_cons hjl, rp] at h
  generalize row.data.toList[j] = b at hb h
  have c35 : (b.toNat : Int) = 35 ↔ b = 35 := byte_is b 35 (by decide)
  by_cases h35 : b = 35
  ·rw [if_pos h35] at h
   refine Ev.step (f := fun k => impl_ReadShape.l1 k s (acc ++ [⟨(j : Nat), (i : Nat)⟩]) (i : Nat) row ((j + 1 : Nat) : Int) ps n (i : Nat)) (fun k => ?_) (ih (j + 1) _ (by omega) (by rw [List.length_append]; simp; omega) h)
   simp only [impl_ReadShape.l1]
   rw [if_pos (by omega), if_pos (by omega), hb, if_pos (c35.2 h35), if_pos (by omega), w64 (x := (j : Int) + 1) (by omega) (by omega)]; rfl
  ·rw [if_neg h35] at h
   refine Ev.step (f := fun k => impl_ReadShape.l1 k s acc (i : Nat) row ((j + 1 : Nat) : Int) ps n (i : Nat)) (fun k => ?_) (ih (j + 1) acc (by omega) (by omega) h)
   simp only [impl_ReadShape.l1]
   rw [if_pos (by omega), if_pos (by omega), hb, if_neg (fun e => h35 (c35.1 e)), w64 (x := (j : Int) + 1) (by omega) (by omega)]; rfl
theorem implRead_loop (s : ByteArray) (ps : List ByteArray) (hps : ps.length ≤ 12001) (hp : ∀ p ∈ ps, p.size ≤ 12000) : ∀ (d i : Nat) (acc : List C), i + d = ps.length → acc.length ≤ 40 →
  Ev (fun k => impl_ReadShape.l0 k s acc ps (ps.length : Int) (i : Nat)) (finP s (gp ((ps.drop i).map (·.data.toList)) acc (i : Nat))) := by
 intro d
 induction d with
 | zero =>
  intro i acc hi ha
  rw [List.drop_of_length_le (by omega), List.map_nil, gp]
  refine Ev.step (f := fun k => (impl_IsShape.f k acc).bind fun t160 => (if t160 = true then ((impl_shapeText.f k acc).bind fun t161 => (if t161.toList = s.toList then (some (acc, (0 : Int))) else (some (([] : List C), 6)))) else (some (([] : List C), 6)))) (fun k => ?_) (implFin_ev s acc (by omega))
  simp only [impl_ReadShape.l0]
  rw [if_neg (by omega)]
 | succ d ih =>
  intro i acc hi ha
  have hil : i < ps.length := by omega
  have hrd : rdOf ByteArray.empty ps (i : Nat) = ps[i] := by unfold rdOf; rw [Int.toNat_natCast, List.getD_eq_getElem?_getD, List.getElem?_eq_getElem hil]; rfl
  have hsz := hp _ (List.getElem_mem hil)
  rw [List.drop_eq_getElem_cons hil, List.map_cons, gp]
  refine Ev.step (f := fun k => impl_ReadShape.l1 k s acc (i : Nat) ps[i] ((0 : Nat) : Int) ps (ps.length : Int) (i : Nat)) (fun k => ?_) ?_
  ·simp only [impl_ReadShape.l0]
   rw [if_pos (by omega), if_pos (by omega), if_pos (by omega), hrd]; rfl
  ·refine implRow_loop s ps[i] hsz ps (ps.length : Int) i (by omega) _ ps[i].size 0 acc (by omega) (by omega) ?_
   rw [List.drop_zero]
   show Ev (fun k => if ((rp ps[i].data.toList acc 0 (i : Nat)).length : Int) > 40 then some (([] : List C), (6 : Int)) else impl_ReadShape.l0 k s (rp ps[i].data.toList acc 0 (i : Nat)) ps (ps.length : Int) ((i + 1 : Nat) : Int)) _
   by_cases c : ((rp ps[i].data.toList acc 0 (i : Nat)).length : Int) > 40
   ·have := gp_length ((ps.drop (i + 1)).map (·.data.toList)) (rp ps[i].data.toList acc 0 (i : Nat)) ((i : Nat) + 1)
    rw [finP_long s _ (by omega)]
    simp only [if_pos c]
    exact Ev.now _
   ·simp only [if_neg c]
    exact ih (i + 1) _ (by omega) (by omega)
noncomputable def rdP (s : ByteArray) : List C × Int := if s.size ≤ 12000 then finP s (sp s.data.toList [] 0 0) else ([], 3)
theorem finP_length (s : ByteArray) (acc : List C) : (finP s acc).1.length ≤ 40 := by
 unfold finP
 rcases sh_cases acc with ⟨hs, hb⟩ | ⟨_, hb⟩
 ·rw [hb]
  simp only [if_true]
  split
  ·exact hs.2.1
  ·exact Nat.zero_le _
 ·rw [hb]; exact Nat.zero_le _
theorem rdP_length (s : ByteArray) : (rdP s).1.length ≤ 40 := by
 unfold rdP
 split
 ·exact finP_length _ _
 ·exact Nat.zero_le _
theorem specRd_ev (s : ByteArray) : Ev (fun k => spec_ReadShape.f k s) (rdP s) := by
 unfold rdP spec_ReadShape.f
 by_cases c : s.size ≤ 12000
 ·simp only [if_pos c, if_neg (show ¬ (s.size : Int) > 12000 by omega)]
  have h := specRead_loop s c s.size 0 [] 0 0 (by omega) (Nat.le_refl _) (Nat.le_refl _) (Nat.le_refl _)
  rw [List.drop_zero] at h
  exact h
 ·simp only [if_neg c, if_pos (show (s.size : Int) > 12000 by omega)]
  exact Ev.now _
theorem implRd_ev (s : ByteArray) : Ev (fun k => impl_ReadShape.f k s) (rdP s) := by
 unfold rdP impl_ReadShape.f
 by_cases c : s.size ≤ 12000
 ·simp only [if_pos c, if_neg (show ¬ (s.size : Int) > 12000 by omega)]
  have hsl : s.data.toList.length = s.size := by simp
  have e : strings_Split.f s ⟨#[47]⟩ = some (splitSl_ s) := if_pos ⟨rfl, by omega⟩
  simp only [e, Option.bind_some]
  have hd : (splitSl_ s).map (·.data.toList) = Lib.splitK [47] 0 (Lib.countB s ⟨#[47]⟩) s.data.toList := Lib.splitB_data ⟨#[47]⟩ 0 _ s
  have hcle := Lib.countB_le ⟨#[47]⟩ (Nat.le_refl 1) s.size s (Nat.le_refl _)
  have hcnt : Lib.countB s ⟨#[47]⟩ = s.data.toList.count 47 := Lib.count_one 47 _
  have hlen : (splitSl_ s).length = Lib.countB s ⟨#[47]⟩ + 1 := Lib.splitB_all ⟨#[47]⟩ (Nat.le_refl 1) 0 _ s rfl
  have h := implRead_loop s (splitSl_ s) (by omega) (fun p hp => by
   have h1 := splitK_le (Lib.countB s ⟨#[47]⟩) s.data.toList p.data.toList (by rw [← hd]; exact List.mem_map_of_mem hp)
   have h2 : p.data.toList.length = p.size := by simp
   omega) (splitSl_ s).length 0 [] (by omega) (Nat.zero_le _)
  rw [List.drop_zero, hd, ← sp_gp _ _ _ _ (by rw [hcnt]; exact Nat.le_refl _)] at h
  exact h
 ·simp only [if_neg c, if_pos (show (s.size : Int) > 12000 by omega)]
  exact Ev.now _
-- USES Base
-- USES Base Cell In Shape ShUse Ix IxS RdN Sort Nb
def Grow (l : List C) (i : Nat) (out out' : List Int) : Prop := out'.length = out.length ∧ ∀ j, j < l.length → (rd out' (j : Nat) = rd out (j : Nat)) ∨ (rd out (j : Nat) < 0 ∧ rd out' (j : Nat) = (i : Int))
theorem Grow.refl (l : List C) (i : Nat) (out : List Int) : Grow l i out out := ⟨rfl, fun _ _ => Or.inl rfl⟩
theorem Grow.trans {l : List C} {i : Nat} {a b c : List Int} (h : Grow l i a b) (g : Grow l i b c) : Grow l i a c := by
 refine ⟨g.1.trans h.1, fun j hj => ?_⟩
 rcases h.2 j hj with h1 | h1 <;> rcases g.2 j hj with g1 | g1
 ·exact Or.inl (g1.trans h1)
 ·exact Or.inr ⟨by rw [← h1]; exact g1.1, g1.2⟩
 ·exact Or.inr ⟨h1.1, g1.trans h1.2⟩
 ·exact Or.inr ⟨h1.1, g1.2⟩
-- USES Base Cell In Shape ShUse Ix IxS RdN Sort Nb PartsP PartsG
-- USES Base Cell In Shape ShUse Ix IxS RdN Sort Nb PartsP PartsG ReachP
-- USES Base Cell In Shape ShUse Ix IxS RdN Sort Nb PartsP
-- USES Base Cell In Shape ShUse Ix RdN Sort Nb PartsP
-- USES Base Cell In Shape ShUse Ix IxS RdN Sort Nb PartsP PartsS PartsI PartsG
-- USES Base Cell In Shape ShUse Sort TurnS TurnI CodeP ConnP
-- USES Base Cell Ix
-- USES Base Cell In Shape ShUse Ix IxI Sort SortI Nb
-- USES Base Cell In Shape ShUse Ix IxI Sort SortI FoldE Nb Beside NbS
-- USES Base Cell Shape ShUse Sort Cmp CmpO AddP LeS
theorem sh_mk {l : List C} (h1 : 1 ≤ l.length) (h2 : l.length ≤ 40) (h3 : ∀ c ∈ l, okC c) (h4 : l.Pairwise ltC) : Sh l := by
 refine ⟨h1, h2, fun i hi => h3 _ (at_mem l i hi), fun i hi => ?_⟩
 rw [at_get l i (by omega), at_get l (i + 1) hi]
 exact List.pairwise_iff_getElem.1 h4 i (i + 1) (by omega) hi (by omega)
theorem sh_lt {l : List C} (h : Sh l) : l.Pairwise ltC := by
 rw [List.pairwise_iff_getElem]
 intro i j hi hj hij
 have := h.lt i j hij hj
 rw [at_get l i hi, at_get l j hj] at this; exact this
-- USES Base Cell In Shape ShUse Fold Moved Norm NormS NormI Sort SortS SortI ImplSort Nb NbS BesideI Cmp CmpO AddP LeS TidyP TransP GrowP
-- USES Base Cell In Shape ShUse Fold Moved Norm Sort Ix IxS RdN Nb PartsP PartsG ReachP Cmp CmpO AddP LeS TransP GrowP FixP
-- USES Base Cell In Shape ShUse Fold Norm NormS NormI Sort TurnS TurnI CodeP ConnP CcP PartsP PartsG PartsS PartsI Cmp CmpO AddP LeS TidyP
theorem sh_bd {l : List C} (hs : Sh l) : BD l := fun c hc => by have := hs.ok hc; unfold okC at this; omega
theorem norm_sub {l m : List C} (hc : codeP l = 0) (hm : Sh m) (hsub : ∀ c ∈ m, c ∈ l) : Sh (normL m) ∧ normL (normL m) = normL m ∧ codeP (normL m) = 0 := by
 have h0 := hm.1
 have hw := code_wide hc
 have e := normL_U (sh_bd hm) h0
 obtain ⟨z0, hz0, e0⟩ := lo_mem0 (l := m) h0
 obtain ⟨z1, hz1, e1⟩ := lo_mem1 (l := m) h0
 have hsh : Sh (normL m) := by
  rw [e]
  refine sh_mk (by rw [normU_length]; exact h0) (by rw [normU_length]; exact hm.2.1) (fun c hcm => ?_) ?_
  ·unfold normU at hcm
   obtain ⟨x, hx, rfl⟩ := List.mem_map.1 hcm
   have a1 := hw x (hsub x hx) z0 (hsub z0 hz0)
   have a2 := hw x (hsub x hx) z1 (hsub z1 hz1)
   have hl := lo_le hx
   unfold okC addC
   rw [e0, e1] at hl ⊢
   simp only []; omega
  ·unfold normU
   rw [List.pairwise_map]
   exact (sh_lt hm).imp fun {a b} hab => by unfold ltC addC at *; simp only [] at *; omega
 have hnn : normL (normL m) = normL m := by
  rw [normL_U (sh_bd hsh) hsh.1, e]; exact normU_idem h0
 refine ⟨hsh, hnn, ?_⟩
 unfold codeP
 rw [hnn, shB_true hsh]; rfl
def rowC (q : List C) (y : Nat) : Nat → Nat → List C
 | 0, _ => []
 | d + 1, x => (if 0 ≤ ixF 0 q (x : Nat) (y : Nat) then [⟨(x : Nat), (y : Nat)⟩] else []) ++ rowC q y d (x + 1)
def allC (q : List C) (m : Nat) : Nat → Nat → List C
 | 0, _ => []
 | d + 1, y => rowC q y m 0 ++ allC q m d (y + 1)
theorem rowC_mem (q : List C) (y : Nat) : ∀ d x (c : C), c ∈ rowC q y d x ↔ c.f1 = (y : Nat) ∧ (x : Int) ≤ c.f0 ∧ c.f0 < ((x + d : Nat) : Int) ∧ c ∈ q
 | 0, x, c => by
  rw [rowC]
  constructor
  ·intro h; cases h
  ·rintro ⟨_, h1, h2, _⟩; omega
 | d + 1, x, c => by
  rw [rowC, List.mem_append, rowC_mem q y d (x + 1) c]
  constructor
  ·rintro (h | ⟨h1, h2, h3, h4⟩)
   ·split at h
    ·rename_i hix
     rw [List.mem_singleton] at h
     subst h
     exact ⟨rfl, by simp only; omega, by simp only; omega, (ixF_mem _ _ q 0).1 hix⟩
    ·cases h
   ·exact ⟨h1, by omega, by omega, h4⟩
  ·rintro ⟨h1, h2, h3, h4⟩
   by_cases e : c.f0 = (x : Nat)
   ·left
    have hc : c = ⟨(x : Nat), (y : Nat)⟩ := by
     rcases c with ⟨a, b⟩
     simp only at e h1
     rw [e, h1]
    rw [hc] at h4 ⊢
    rw [if_pos ((ixF_mem _ _ q 0).2 h4)]
    exact List.mem_singleton.2 rfl
   ·exact Or.inr ⟨h1, by omega, by omega, h4⟩
theorem rowC_strict (q : List C) (y : Nat) : ∀ d x, (rowC q y d x).Pairwise ltC
 | 0, x => List.Pairwise.nil
 | d + 1, x => by
  rw [rowC, List.pairwise_append]
  refine ⟨by split <;> simp, rowC_strict q y d (x + 1), fun a ha b hb => ?_⟩
  have h2 := (rowC_mem q y d (x + 1) b).1 hb
  split at ha
  ·rw [List.mem_singleton] at ha
   subst ha
   unfold ltC
   simp only
   omega
  ·cases ha
theorem allC_mem (q : List C) (m : Nat) : ∀ d y (c : C), c ∈ allC q m d y ↔ ((y : Int) ≤ c.f1 ∧ c.f1 < ((y + d : Nat) : Int)) ∧ (0 ≤ c.f0 ∧ c.f0 < (m : Int)) ∧ c ∈ q
 | 0, y, c => by
  rw [allC]
  constructor
  ·intro h; cases h
  ·rintro ⟨⟨h1, h2⟩, _⟩; omega
 | d + 1, y, c => by
  rw [allC, List.mem_append, rowC_mem, allC_mem q m d (y + 1) c]
  constructor
  ·rintro (⟨h1, h2, h3, h4⟩ | ⟨⟨h1, h2⟩, h3, h4⟩)
   ·exact ⟨⟨by omega, by omega⟩, ⟨by omega, by omega⟩, h4⟩
   ·exact ⟨⟨by omega, by omega⟩, h3, h4⟩
  ·rintro ⟨⟨h1, h2⟩, ⟨h3, h4⟩, h5⟩
   by_cases e : c.f1 = (y : Nat)
   ·exact Or.inl ⟨e, by omega, by omega, h5⟩
   ·exact Or.inr ⟨⟨by omega, by omega⟩, ⟨h3, h4⟩, h5⟩
theorem allC_strict (q : List C) (m : Nat) : ∀ d y, (allC q m d y).Pairwise ltC
 | 0, y => List.Pairwise.nil
 | d + 1, y => by
  rw [allC, List.pairwise_append]
  refine ⟨rowC_strict q y m 0, allC_strict q m d (y + 1), fun a ha b hb => ?_⟩
  have h1 := (rowC_mem q y m 0 a).1 ha
  have h2 := (allC_mem q m d (y + 1) b).1 hb
  unfold ltC
  omega
def toB (n : Int) : UInt8 := UInt8.ofNat n.toNat
theorem sp_row (q : List C) (y : Nat) (rest : List UInt8) : ∀ (d x : Nat) (acc : List C), sp ((rowT q (y : Nat) d x).map toB ++ rest) acc (x : Nat) (y : Nat) = sp rest (acc ++ rowC q y d x) ((x + d : Nat) : Int) (y : Nat)
 | 0, x, acc => by rw [rowT, rowC, List.map_nil, List.nil_append, List.append_nil]; rfl
 | d + 1, x, acc => by
  have ih := fun acc' => sp_row q y rest d (x + 1) acc'
  rw [rowT, List.map_cons, List.cons_append, sp, rowC]
  unfold cellN
  by_cases c : 0 ≤ ixF 0 q (x : Nat) (y : Nat)
  ·rw [if_pos c, if_pos c, if_neg (by decide), if_pos (by decide)]
   have := ih (acc ++ [⟨(x : Nat), (y : Nat)⟩])
   rw [show x + (d + 1) = x + 1 + d by omega, ← List.append_assoc]
   exact this
  ·rw [if_neg c, if_neg c, if_neg (by decide), if_neg (by decide), List.nil_append]
   rw [show x + (d + 1) = x + 1 + d by omega]
   exact ih acc
theorem sp_all (q : List C) (m : Nat) : ∀ (d y : Nat) (acc : List C) (x : Int), sp ((allT q m d (y + 1)).map toB) acc x (y : Nat) = acc ++ allC q m d (y + 1)
 | 0, y, acc, x => by rw [allT, allC, List.map_nil, List.append_nil]; rfl
 | d + 1, y, acc, x => by
  rw [allT, if_pos (Nat.succ_pos y), List.map_append, List.map_append, List.map_cons, List.map_nil, List.append_assoc, List.cons_append, List.nil_append, sp, if_pos (by decide)]
  have h := sp_row q (y + 1) ((allT q m d (y + 1 + 1)).map toB) m 0 acc
  rw [allC, ← List.append_assoc]
  exact h.trans (sp_all q m d (y + 1) _ _)
theorem sp_text (q : List C) (m d : Nat) : sp ((allT q m (d + 1) 0).map toB) [] 0 0 = allC q m (d + 1) 0 := by
 rw [allT, if_neg (Nat.lt_irrefl 0), List.nil_append, List.map_append, allC]
 have h := sp_row q 0 ((allT q m d 1).map toB) m 0 []
 rw [List.nil_append] at h
 exact h.trans (sp_all q m d 0 _ _)
theorem allT_length (q : List C) (m : Nat) : ∀ d y, (allT q m d y).length ≤ d * (m + 1)
 | 0, y => Nat.zero_le _
 | d + 1, y => by
  have ih := allT_length q m d (y + 1)
  rw [allT, List.length_append, List.length_append, rowT_length, Nat.succ_mul]
  have : (if 0 < y then [(47 : Int)] else []).length ≤ 1 := by split <;> simp
  omega
theorem textP_size (l : List C) : (textP l).size ≤ (sz l).2.toNat * ((sz l).1.toNat + 1) := by
 unfold textP
 rw [strOfNums_size]
 exact allT_length _ _ _ _
theorem text_small {l : List C} (h : Sh l) : (textP l).size ≤ 50000 := by
 have hz := sz_ok h
 have h2 : (sz l).2.toNat * ((sz l).1.toNat + 1) ≤ 201 * 202 := Nat.mul_le_mul (by omega) (by omega)
 exact Nat.le_trans (textP_size l) (Nat.le_trans h2 (by decide))
theorem norm_text {l : List C} (hc : codeP l = 0) : textP (normL l) = textP l := by
 have hs := code_sh hc
 obtain ⟨n1, n2, _⟩ := norm_sub hc hs (fun _ h => h)
 have hlo : lo (normL l) = (0, 0) := by rw [normL_U (sh_bd hs) hs.1]; exact normU_lo hs.1
 obtain ⟨z1, z2⟩ := hi_norm hs
 have hz : sz (normL l) = sz l := by
  have a : (sz (normL l)).1 = (sz l).1 := by rw [← z1]; unfold sz; rw [hlo]; simp
  have b : (sz (normL l)).2 = (sz l).2 := by rw [← z2]; unfold sz; rw [hlo]; simp
  exact Prod.ext a b
 unfold textP
 rw [n2, hz]
theorem read_text {l : List C} (hc : codeP l = 0) : rdP (textP l) = (normL l, 0) := by
 have hs := code_sh hc
 obtain ⟨n1, n2, _⟩ := norm_sub hc hs (fun _ h => h)
 have hz := sz_ok hs
 have hw : (sz l).1 ≤ 101 ∧ (sz l).2 ≤ 101 := by
  obtain ⟨a, ha, ea⟩ := hi_mem0 (l := l) hs.1
  obtain ⟨b, hb, eb⟩ := lo_mem0 (l := l) hs.1
  obtain ⟨a', ha', ea'⟩ := hi_mem1 (l := l) hs.1
  obtain ⟨b', hb', eb'⟩ := lo_mem1 (l := l) hs.1
  have w1 := (code_wide hc a ha b hb).1
  have w2 := (code_wide hc a' ha' b' hb').2
  unfold sz
  simp only
  omega
 have hsize : (textP l).size ≤ 12000 := by
  have h2 : (sz l).2.toNat * ((sz l).1.toNat + 1) ≤ 101 * 102 := Nat.mul_le_mul (by omega) (by omega)
  exact Nat.le_trans (textP_size l) (Nat.le_trans h2 (by decide))
 obtain ⟨d, hd⟩ : ∃ d, (sz l).2.toNat = d + 1 := ⟨(sz l).2.toNat - 1, by omega⟩
 have hsp : sp (textP l).data.toList [] 0 0 = normL l := by
  have e : (textP l).data.toList = (allT (normL l) (sz l).1.toNat (d + 1) 0).map toB := by unfold textP; rw [hd, strOfNums_data]; rfl
  rw [e, sp_text]
  refine strict_unique (allC_strict _ _ _ _) (sh_lt n1) fun c => ?_
  rw [allC_mem]
  refine ⟨fun h => h.2.2, fun h => ?_⟩
  have h' := h
  rw [normL_eq hs] at h'
  obtain ⟨a, ha, rfl⟩ := List.mem_map.1 h'
  have := norm_lt hs ha
  exact ⟨⟨by simp only; omega, by simp only; omega⟩, ⟨by simp only; omega, by simp only; omega⟩, h⟩
 unfold rdP
 rw [if_pos hsize, hsp]
 unfold finP
 rw [shB_true n1, if_pos rfl, norm_text hc, if_pos rfl]
theorem sp_nonneg : ∀ (l : List UInt8) (acc : List C) (x y : Int), 0 ≤ x → 0 ≤ y → (∀ c ∈ acc, 0 ≤ c.f0 ∧ 0 ≤ c.f1) → ∀ c ∈ sp l acc x y, 0 ≤ c.f0 ∧ 0 ≤ c.f1
 | [], acc, x, y, _, _, h => h
 | b :: r, acc, x, y, hx, hy, h => by
  rw [sp]
  split
  ·exact sp_nonneg r acc 0 (y + 1) (by omega) (by omega) h
  ·refine sp_nonneg r _ (x + 1) y (by omega) hy ?_
   split
   ·intro c hc
    rcases List.mem_append.1 hc with g | g
    ·exact h c g
    ·rw [List.mem_singleton.1 g]; exact ⟨hx, hy⟩
   ·exact h
theorem read_back {u : ByteArray} (h : (rdP u).2 = 0) : codeP (rdP u).1 = 0 ∧ (textP (rdP u).1).toList = u.toList := by
 unfold rdP at h ⊢
 by_cases c : u.size ≤ 12000
 ·rw [if_pos c] at h ⊢
  have hnn := sp_nonneg u.data.toList [] 0 0 (by omega) (by omega) (fun c hc => by cases hc)
  generalize sp u.data.toList [] 0 0 = acc at *
  unfold finP at h ⊢
  rcases sh_cases acc with ⟨hs, hb⟩ | ⟨_, hb⟩
  ·rw [hb] at h ⊢
   simp only [if_true] at h ⊢
   by_cases t : (textP acc).toList = u.toList
   ·simp only [if_pos t]
    refine ⟨?_, t⟩
    have hbd := sh_bd hs
    have hN : Sh (normL acc) := by
     refine sh_of (by rw [normL_length]; exact hs.1) (by rw [normL_length]; exact hs.2.1) (fun c hc => ?_) ?_
     ·rw [normL_eq hs] at hc
      obtain ⟨a, ha, rfl⟩ := List.mem_map.1 hc
      obtain ⟨a0, ha0, e0⟩ := lo_mem0 (l := acc) hs.1
      obtain ⟨a1, ha1, e1⟩ := lo_mem1 (l := acc) hs.1
      have w := norm_lt hs ha
      have ok := hs.ok ha
      have n0 := hnn a0 ha0
      have n1 := hnn a1 ha1
      unfold okC at ok ⊢
      simp only
      omega
     ·rw [normL_U hbd hs.1]
      unfold normU
      rw [List.pairwise_map]
      refine (sh_lt hs).imp fun {a b} hab => ?_
      unfold ltC addC at *; simp only [] at *; omega
    unfold codeP
    rw [hb, shB_true hN]
    rfl
   ·simp only [if_neg t] at h
    exact absurd h (by decide)
  ·rw [hb] at h
   exact absurd h (by simp)
 ·rw [if_neg c] at h
  exact absurd h (by decide)
end Go.Proofs.YtpilmhjbgbpbmaaDoor.M
namespace Go.Proofs.YtpilmhjbgbpbmaaDoor.Pure
set_option linter.unusedVariables false
set_option linter.unusedSimpArgs false
open Go.RowKit Go.Proofs.YtpilmhjbgbpbmaaDoor.X Go.Proofs.YtpilmhjbgbpbmaaDoorW.PrintWords Go.Proofs.YtpilmhjbgbpbmaaDoorW.PrintLast Go.Proofs.YtpilmhjbgbpbmaaDoorW.PrintMore Go.Proofs.YtpilmhjbgbpbmaaDoor.M
theorem damage_some {c : List Int} {i s : Int} (h : Src c i s) (t : ByteArray) (ht : t.size ≤ 50000) : ∃ r, spec_l01Damage.f c i s t = some r := by
 obtain ⟨a, i1, s1, e1, h1, p1, q1, _⟩ := next_some h (wrap64 ((t.size : Int) + 1)) (w64_hi _)
 have hw : wrap64 ((t.size : Int) + 1) = (t.size : Int) + 1 := w64 (by omega) (by omega)
 rw [hw] at e1 q1
 have q1 := q1 (by omega)
 obtain ⟨b, i2, s2, e2, h2, p2, q2, _⟩ := next_some h1 8 (by omega)
 unfold spec_l01Damage.f
 simp only [hw, e1, e2, Option.bind_some]
 have x1 : (t.extract 0 a.toNat).size ≤ 50000 := by rw [ByteArray.size_extract]; omega
 have x2 : (t.extract a.toNat t.size).size ≤ 50000 := by rw [ByteArray.size_extract]; omega
 by_cases c0 : b = 0
 ·simp only [if_pos c0, if_pos p1, if_pos (show a ≤ (t.size : Int) by omega)]
  exact ⟨_, rfl⟩
 ·simp only [if_neg c0]
  by_cases c1 : b = 1
  ·obtain ⟨d, i3, s3, e3, h3, p3, q3, _⟩ := next_some h2 8 (by omega)
   have q3 := q3 (by omega)
   simp only [if_pos c1, if_pos p1, if_pos (show a ≤ (t.size : Int) by omega), e3, Option.bind_some, if_pos p3]
   rw [if_pos (by simpa using q3)]
   have x3 : ∀ y ∈ ([(⟨#[48]⟩ : ByteArray), (⟨#[35]⟩ : ByteArray), (⟨#[46]⟩ : ByteArray), (⟨#[47]⟩ : ByteArray), (⟨#[32]⟩ : ByteArray), (⟨#[97]⟩ : ByteArray), (⟨#[45]⟩ : ByteArray), (⟨#[10]⟩ : ByteArray)] : List ByteArray), y.size ≤ 1 := by decide
   have x4 : (rdOf ByteArray.empty ([(⟨#[48]⟩ : ByteArray), (⟨#[35]⟩ : ByteArray), (⟨#[46]⟩ : ByteArray), (⟨#[47]⟩ : ByteArray), (⟨#[32]⟩ : ByteArray), (⟨#[97]⟩ : ByteArray), (⟨#[45]⟩ : ByteArray), (⟨#[10]⟩ : ByteArray)] : List ByteArray) d).size ≤ 1 := by
    unfold rdOf
    rw [List.getD_eq_getElem?_getD, List.getElem?_eq_getElem (show d.toNat < 8 by omega)]
    exact x3 _ (List.getElem_mem _)
   rw [if_pos (by omega), if_pos (by rw [ByteArray.size_append]; omega)]
   exact ⟨_, rfl⟩
  ·simp only [if_neg c1]
   by_cases c2 : b = 2
   ·simp only [if_pos c2]
    by_cases c3 : a < (t.size : Int)
    ·have hw2 : wrap64 (a + 1) = a + 1 := w64 (by omega) (by omega)
     have x5 : (t.extract (a + 1).toNat t.size).size ≤ 50000 := by rw [ByteArray.size_extract]; omega
     simp only [if_pos c3, if_pos p1, if_pos (show a ≤ (t.size : Int) by omega), hw2]
     rw [if_pos (by omega), if_pos (by omega), if_pos (by omega)]
     exact ⟨_, rfl⟩
    ·simp only [if_neg c3]
     exact ⟨_, rfl⟩
   ·simp only [if_neg c2]
    exact ⟨_, rfl⟩
theorem drawRead_some {l : List Int} (hb : ∀ x ∈ l, 0 ≤ x ∧ x ≤ 255) (hl : l.length ≤ 4096) : ∃ u, Ev (fun k => spec_DrawReadShape.f k l) u := by
 obtain ⟨s0, e0, h0⟩ := from_some hb (by omega)
 obtain ⟨a, i1, s1, e1, h1, _, _, _⟩ := next_some h0 60 (by omega)
 unfold spec_DrawReadShape.f
 by_cases c : a = 0
 ·obtain ⟨b, i2, s2, e2, _, pb, qb, _⟩ := next_some h1 2 (by omega)
  have qb := qb (by omega)
  have hw : wrap64 (12000 + b) = 12000 + b := w64 (by omega) (by omega)
  refine ⟨strOfNums (List.replicate (12000 + b).toNat 0), ?_⟩
  refine Ev.bind (f := fun k (b1 : List Int × Int × Int) => _) e0 ?_
  simp only [e1, Option.bind_some, if_pos c, e2, hw]
  rw [if_pos (by omega), if_pos (by omega)]
  exact Ev.now _
 ·obtain ⟨r, i2, s2, e2, h2, hs⟩ := polyS_some h1
  obtain ⟨b, i3, s3, e3, h3, _, _, _⟩ := next_some h2 3 (by omega)
  have h40 := hs.2.1
  by_cases d : b = 0
  ·obtain ⟨v, hv⟩ := damage_some h3 (textP r) (text_small hs)
   refine ⟨v.1, ?_⟩
   refine Ev.bind (f := fun k (b1 : List Int × Int × Int) => _) e0 ?_
   simp only [e1, Option.bind_some, if_neg c]
   refine Ev.bind (f := fun k (b2 : List C × Int × Int) => _) e2 ?_
   refine Ev.bind (f := fun k (t : ByteArray) => _) (specText_ev r hs (by omega)) ?_
   simp only [e3, Option.bind_some, if_pos d, hv]
   exact Ev.now _
  ·refine ⟨textP r, ?_⟩
   refine Ev.bind (f := fun k (b1 : List Int × Int × Int) => _) e0 ?_
   simp only [e1, Option.bind_some, if_neg c]
   refine Ev.bind (f := fun k (b2 : List C × Int × Int) => _) e2 ?_
   refine Ev.bind (f := fun k (t : ByteArray) => _) (specText_ev r hs (by omega)) ?_
   simp only [e3, Option.bind_some, if_neg d]
   exact Ev.now _
theorem drawShape_some {l : List Int} (hb : ∀ x ∈ l, 0 ≤ x ∧ x ≤ 255) (hl : l.length ≤ 4096) : ∃ r : List C, Ev (fun k => spec_DrawShapeText.f k l) r ∧ r.length ≤ 50 := by
 obtain ⟨s0, e0, h0⟩ := from_some hb (by omega)
 obtain ⟨r, i1, s1, e1, h1, hr, _⟩ := draw_some h0
 obtain ⟨a, i2, s2, e2, h2, _, _, _⟩ := next_some h1 24 (by omega)
 unfold spec_DrawShapeText.f spec_DrawNormalForm.f
 by_cases c : a = 0
 ·obtain ⟨b, i3, s3, e3, _, _, _, _⟩ := next_some h2 2 (by omega)
  refine ⟨[⟨-60, 0⟩, ⟨wrap64 (40 + b), 0⟩], ?_, by simp⟩
  refine Ev.bind (f := fun k (t : List C) => some t) ?_ (Ev.now _)
  refine Ev.bind (f := fun k (b1 : List Int × Int × Int) => _) e0 ?_
  refine Ev.bind (f := fun k (b2 : List C × Int × Int) => _) e1 ?_
  simp only [e2, Option.bind_some, if_pos c, e3]
  exact Ev.now _
 ·refine ⟨r, ?_, hr⟩
  refine Ev.bind (f := fun k (t : List C) => some t) ?_ (Ev.now _)
  refine Ev.bind (f := fun k (b1 : List Int × Int × Int) => _) e0 ?_
  refine Ev.bind (f := fun k (b2 : List C × Int × Int) => _) e1 ?_
  simp only [e2, Option.bind_some, if_neg c]
  exact Ev.now _
theorem FnShapeText : laws_FnShapeText.Pure := by
 intro l _ hlen hw
 have hb := bytes_of hw
 by_cases hbig : (l.length : Int) > 4096
 ·exact ⟨0, by unfold laws_FnShapeText.f laws_big.f; simp [hbig]⟩
 obtain ⟨r, hd, hr⟩ := drawShape_some hb (by omega)
 obtain ⟨u, hu⟩ := drawRead_some hb (by omega)
 have hrl := rdP_length u
 have hnl := nfP_length r (by omega)
 obtain ⟨K, b1, b2, b3, b4, b5, b6, b7⟩ := ev7 hd (implSt_ev r (by omega)) (specSt_ev r (by omega)) hu (implRd_ev u) (specRd_ev u) (likeCells_ev (rdP u).1 (by omega))
 obtain ⟨L, d1, d2, d3, d4⟩ := ev4 (implSt_ev (rdP u).1 (by omega)) (implRd_ev (stP r).1) (implNf_ev r (by omega)) (likeCells_ev (nfP r).1 (by omega))
 have outer : ∀ M, laws_FnShapeText.f (K + M) l = laws_FnShapeText.j0 (K + M) r (stP r).1 (stP r).2 u (rdP u).1 (rdP u).2 false := by
  intro M
  simp only [laws_FnShapeText.f, laws_big.f, Option.bind_some, decide_eq_false hbig, Bool.false_eq_true, if_false, b1, b2, b3, b4, b5, b6, b7, if_true, Bool.not_true]
 have tail : ∀ n, laws_FnShapeText.j1 (L + n + 1) r (stP r).1 (stP r).2 = some true := by
  intro n
  simp only [laws_FnShapeText.j1, d2, d3, Option.bind_some]
  by_cases hc : codeP r = 0
  ·have hs := code_sh hc
   obtain ⟨n1, _, _⟩ := norm_sub hc hs (fun _ h => h)
   have e1 : stP r = (textP r, 0) := by unfold stP; rw [if_pos hc]
   have e2 : nfP r = (normL r, 0) := by unfold nfP; rw [shB_true hs, shB_true n1]; rfl
   have d4' := d4 n
   rw [e2] at d4'
   simp only [e1, e2, read_text hc, if_true, d4', Option.bind_some]
  ·have e1 : (stP r).2 = codeP r := by unfold stP; rw [if_neg hc]
   rw [e1, if_neg hc]
 refine ⟨K + (L + 2), ?_⟩
 rw [outer]
 rw [show K + (L + 2) = (L + K + 1) + 1 by omega]
 simp only [laws_FnShapeText.j0, Bool.false_eq_true, if_false]
 by_cases hz : (rdP u).2 = 0
 ·obtain ⟨z1, z2⟩ := read_back hz
  have e3 : stP (rdP u).1 = (textP (rdP u).1, 0) := by unfold stP; rw [if_pos z1]
  have d1' := d1 (K + 1)
  rw [e3, show L + (K + 1) = L + K + 1 by omega] at d1'
  simp only [if_pos hz, d1', Option.bind_some, if_true, z2]
  exact tail K
 ·simp only [if_neg hz]
  exact tail K
end Go.Proofs.YtpilmhjbgbpbmaaDoor.Pure
