/- Every shape is grown from each one that it shrinks to: the law answers true for every code, without any condition. -/
import Derived.Test.YtbkafaoehheioaaGreatXx0
import Derived.Test.YtbkafaoehheioaaGreatXx10
import Derived.Test.YtbkafaoehheioaaGreatXx2
import Derived.Test.YtbkafaoehheioaaGreatXx3
import Derived.Test.YtbkafaoehheioaaGreatXx4
import Derived.Test.YtbkafaoehheioaaGreatXx5
import Derived.Test.YtbkafaoehheioaaGreatXx6
import Derived.Test.YtbkafaoehheioaaGreatXx7
import Derived.Test.YtbkafaoehheioaaGreatXx8
import Derived.Test.YtbkafaoehheioaaGreatXx9
namespace Go.Proofs.YtbkafaoehheioaaGreat.M
set_option linter.unusedVariables false
set_option linter.unusedSimpArgs false
open Go.RowKit Go.Proofs.YtbkafaoehheioaaGreat.X Go.Proofs.YtbkafaoehheioaaGreatW.PrintWords Go.Proofs.YtbkafaoehheioaaGreatW.PrintLast Go.Proofs.YtbkafaoehheioaaGreatW.PrintMore
theorem w64 {x : Int} (h1 : -9223372036854775808 ≤ x) (h2 : x ≤ 9223372036854775807) : wrap64 x = x := by unfold wrap64; omega
theorem rd_byte {c : List Int} (h : ∀ x ∈ c, 0 ≤ x ∧ x ≤ 255) (i : Int) : 0 ≤ rd c i ∧ rd c i ≤ 255 := by
 unfold rd
 rw [List.getD_eq_getElem?_getD]
 by_cases hi : i.toNat < c.length
 ·rw [List.getElem?_eq_getElem hi]; exact h _ (List.getElem_mem hi)
 ·rw [List.getElem?_eq_none (by omega)]; decide
theorem tmod_pos {a n : Int} (h : 0 ≤ a) (hn : 0 < n) : 0 ≤ Int.tmod a n ∧ Int.tmod a n < n := by
 rw [Int.tmod_eq_emod_of_nonneg h]; exact ⟨Int.emod_nonneg _ (by omega), Int.emod_lt_of_pos _ hn⟩
theorem bytes_of {l : List Int} (h : ∀ x ∈ l, (Lit.int .u8 x).wf = true) : ∀ x ∈ l, 0 ≤ x ∧ x ≤ 255 := by
 intro x hx
 have := h x hx
 simp only [Lit.wf, Bool.and_eq_true, decide_eq_true_eq] at this
 exact this
abbrev C := S39
def at_ (l : List C) (j : Nat) : C := l.getD j ⟨0, 0⟩
theorem rd_at (l : List C) (j : Nat) : rd_T39 l (j : Int) = at_ l j := by unfold rd_T39 at_; rw [Int.toNat_natCast]; rfl
theorem at_get (l : List C) (j : Nat) (h : j < l.length) : at_ l j = l[j] := by unfold at_; rw [List.getD_eq_getElem?_getD, List.getElem?_eq_getElem h]; rfl
theorem at_mem (l : List C) (j : Nat) (h : j < l.length) : at_ l j ∈ l := by rw [at_get l j h]; exact List.getElem_mem h
theorem drop_at (l : List C) (j : Nat) (h : j < l.length) : l.drop j = at_ l j :: l.drop (j + 1) := by rw [at_get l j h, List.drop_eq_getElem_cons h]
def AE (P : Nat → Prop) : Prop := ∃ K, ∀ k, K ≤ k → P k
theorem AE.and {P Q : Nat → Prop} (h : AE P) (g : AE Q) : AE (fun k => P k ∧ Q k) := by
 obtain ⟨K, h⟩ := h; obtain ⟨L, g⟩ := g
 exact ⟨K + L, fun k hk => ⟨h k (by omega), g k (by omega)⟩⟩
theorem AE.up {P : Nat → Prop} (h : AE P) : ∃ K, ∀ n, P (K + n) := by
 obtain ⟨K, h⟩ := h; exact ⟨K, fun n => h _ (by omega)⟩
theorem evae {α : Type} {g : Nat → Option α} {a : α} (h : Ev g a) : AE (fun k => g k = some a) := h
theorem evup {α : Type} {g : Nat → Option α} {a : α} (h : Ev g a) : ∃ K, ∀ n, g (K + n) = some a := AE.up h
theorem ev2 {α0 α1 : Type} {g0 : Nat → Option α0} {g1 : Nat → Option α1} {a0 : α0} {a1 : α1} (h0 : Ev g0 a0) (h1 : Ev g1 a1) : ∃ K, (∀ n, g0 (K + n) = some a0) ∧ (∀ n, g1 (K + n) = some a1) := by
 obtain ⟨K, h⟩ := AE.up (AE.and (evae h0) (evae h1)); exact ⟨K, fun n => (h n).1, fun n => (h n).2⟩
theorem ev3 {α0 α1 α2 : Type} {g0 : Nat → Option α0} {g1 : Nat → Option α1} {g2 : Nat → Option α2} {a0 : α0} {a1 : α1} {a2 : α2} (h0 : Ev g0 a0) (h1 : Ev g1 a1) (h2 : Ev g2 a2) : ∃ K, (∀ n, g0 (K + n) = some a0) ∧ (∀ n, g1 (K + n) = some a1) ∧ (∀ n, g2 (K + n) = some a2) := by
 obtain ⟨K, h⟩ := AE.up (AE.and (evae h0) (AE.and (evae h1) (evae h2))); exact ⟨K, fun n => (h n).1, fun n => (h n).2.1, fun n => (h n).2.2⟩
theorem ev8 {α0 α1 α2 α3 α4 α5 α6 α7 : Type} {g0 : Nat → Option α0} {g1 : Nat → Option α1} {g2 : Nat → Option α2} {g3 : Nat → Option α3} {g4 : Nat → Option α4} {g5 : Nat → Option α5} {g6 : Nat → Option α6} {g7 : Nat → Option α7} {a0 : α0} {a1 : α1} {a2 : α2} {a3 : α3} {a4 : α4} {a5 : α5} {a6 : α6} {a7 : α7} (h0 : Ev g0 a0) (h1 : Ev g1 a1) (h2 : Ev g2 a2) (h3 : Ev g3 a3) (h4 : Ev g4 a4) (h5 : Ev g5 a5) (h6 : Ev g6 a6) (h7 : Ev g7 a7) : ∃ K, (∀ n, g0 (K + n) = some a0) ∧ (∀ n, g1 (K + n) = some a1) ∧ (∀ n, g2 (K + n) = some a2) ∧ (∀ n, g3 (K + n) = some a3) ∧ (∀ n, g4 (K + n) = some a4) ∧ (∀ n, g5 (K + n) = some a5) ∧ (∀ n, g6 (K + n) = some a6) ∧ (∀ n, g7 (K + n) = some a7) := by
 obtain ⟨K, h⟩ := AE.up (AE.and (evae h0) (AE.and (evae h1) (AE.and (evae h2) (AE.and (evae h3) (AE.and (evae h4) (AE.and (evae h5) (AE.and (evae h6) (evae h7)))))))); exact ⟨K, fun n => (h n).1, fun n => (h n).2.1, fun n => (h n).2.2.1, fun n => (h n).2.2.2.1, fun n => (h n).2.2.2.2.1, fun n => (h n).2.2.2.2.2.1, fun n => (h n).2.2.2.2.2.2.1, fun n => (h n).2.2.2.2.2.2.2⟩
theorem ev_fold {σ β : Type} (F : Nat → σ → Int → Option β) (l : List C) (g : σ → C → σ) (fin : σ → Option β) (r : β) (inv : Nat → σ → Prop)
  (step : ∀ k s (j : Nat), j < l.length → at_ l j ∈ l → inv j s → F (k + 1) s (j : Nat) = F k (g s (at_ l j)) ((j + 1 : Nat) : Int) ∧ inv (j + 1) (g s (at_ l j)))
  (done : ∀ k s, inv l.length s → F (k + 1) s (l.length : Nat) = fin s) (j0 : Nat) (hj0 : j0 ≤ l.length) (s0 : σ) (h0 : inv j0 s0) (hr : fin ((l.drop j0).foldl g s0) = some r) : Ev (fun k => F k s0 (j0 : Nat)) r := by
 have key : ∀ d j : Nat, j + d = l.length → ∀ s, inv j s → fin ((l.drop j).foldl g s) = some r → Ev (fun k => F k s (j : Nat)) r := by
  intro d
  induction d with
  | zero =>
   intro j hj s hs hr
   obtain rfl : j = l.length := by omega
   refine Ev.step (fun k => done k s hs) ?_
   rw [List.drop_length] at hr
   have hr' : fin s = some r := hr
   rw [hr']; exact Ev.now r
  | succ d ih =>
   intro j hj s hs hr
   have h : j < l.length := by omega
   refine Ev.step (fun k => (step k s j h (at_mem l j h) hs).1) (ih (j + 1) (by omega) _ ((step 0 s j h (at_mem l j h) hs).2) ?_)
   rw [drop_at l j h] at hr; exact hr
 exact key (l.length - j0) j0 (by omega) s0 h0 hr
theorem l01In_eq (a b c : Int) : spec_l01In.f a b c = some (decide (b ≤ a ∧ a ≤ c)) := by
 unfold spec_l01In.f; by_cases h : a ≥ b
 ·rw [if_pos h]; simp [h]
 ·rw [if_neg h]; simp; omega
theorem within_eq (a b c : Int) : impl_within.f a b c = some (decide (b ≤ a ∧ a ≤ c)) := l01In_eq a b c
def ltC (a b : C) : Prop := a.f1 < b.f1 ∨ (a.f1 = b.f1 ∧ a.f0 < b.f0)
instance (a b : C) : Decidable (ltC a b) := by unfold ltC; exact inferInstance
def okC (a : C) : Prop := -100 ≤ a.f0 ∧ a.f0 ≤ 100 ∧ -100 ≤ a.f1 ∧ a.f1 ≤ 100
instance (a : C) : Decidable (okC a) := by unfold okC; exact inferInstance
def Sh (l : List C) : Prop := 1 ≤ l.length ∧ l.length ≤ 40 ∧ (∀ i, i < l.length → okC (at_ l i)) ∧ (∀ i, i + 1 < l.length → ltC (at_ l i) (at_ l (i + 1)))
noncomputable def shB (l : List C) : Bool := @decide (Sh l) (Classical.propDecidable _)
theorem shB_true {l : List C} (h : Sh l) : shB l = true := @decide_eq_true _ (Classical.propDecidable _) h
theorem shB_false {l : List C} (h : ¬ Sh l) : shB l = false := @decide_eq_false _ (Classical.propDecidable _) h
theorem less_eq (a b c d : Int) : spec_l02Less.f a b c d = some (decide (ltC ⟨a, b⟩ ⟨c, d⟩)) := by
 unfold spec_l02Less.f ltC
 by_cases h : b < d
 ·rw [if_pos h]; simp [h]
 ·rw [if_neg h]
  by_cases e : b = d
  ·rw [if_pos e]; simp [e]
  ·rw [if_neg e]; simp [h, e]
theorem cellOk_eq (a b : Int) : spec_l02Cell.f a b = some (decide (okC ⟨a, b⟩)) := by
 unfold spec_l02Cell.f okC
 simp only [l01In_eq, Option.bind_some]
 by_cases h : -100 ≤ a ∧ a ≤ 100
 ·simp [h]
 ·simp only [decide_eq_false h, Bool.false_eq_true, if_false]; congr 1; exact (decide_eq_false (fun g => h ⟨g.1, g.2.1⟩)).symm
theorem isCo_eq (a : Int) : impl_isCoordinate.f a = some (decide (-100 ≤ a ∧ a ≤ 100)) := by
 unfold impl_isCoordinate.f; simp only [within_eq, Option.bind_some]
theorem cmp_eq (a b : Int) : cmp_Compare_int64.f a b = some (if a < b then -1 else if b < a then 1 else 0) := by
 unfold cmp_Compare_int64.f cmp_isNaN_int64.f
 simp only [bne_self_eq_false, Option.bind_some, Bool.false_eq_true, if_false]
 by_cases h : a < b
 ·simp [h]
 ·by_cases g : b < a <;> simp [h, g]
def cmpC (a b : C) : Int := if ltC a b then -1 else if ltC b a then 1 else 0
theorem cmpCells_eq (a b c d : Int) : impl_compareCells.f a b c d = some (cmpC ⟨a, b⟩ ⟨c, d⟩) := by
 unfold impl_compareCells.f cmpC ltC
 simp only [cmp_eq, Option.bind_some]
 by_cases h : b < d
 ·simp [h]
 ·by_cases g : d < b
  ·have : ¬ b = d := by omega
   have : ¬ d = b := by omega
   simp [*]
  ·obtain rfl : b = d := by omega
   simp [h]
theorem cmpC_neg (a b : C) : (0 ≤ cmpC a b) ↔ ¬ ltC a b := by
 unfold cmpC; by_cases h : ltC a b
 ·simp [h]
 ·simp only [h, if_false, not_false_eq_true, iff_true]; split <;> omega
theorem specShape_loop (l : List C) (hl : l.length ≤ 1048576) : ∀ d j : Nat, j + d = l.length → (∀ i, i < j → okC (at_ l i)) → (∀ i, i + 1 < j → ltC (at_ l i) (at_ l (i + 1))) → Ev (fun k => spec_IsShape.l0 k l (j : Nat)) (shB l) := by
 intro d
 induction d with
 | zero =>
  intro j hj h1 h2
  obtain rfl : j = l.length := by omega
  refine Ev.step (fun k => ?_) (Ev.now _)
  simp only [spec_IsShape.l0, l01In_eq, Option.bind_some]; rw [if_neg (by omega)]
  congr 1
  by_cases h : 1 ≤ l.length ∧ l.length ≤ 40
  ·rw [shB_true ⟨h.1, h.2, h1, h2⟩]; exact decide_eq_true (by omega)
  ·rw [shB_false (fun g => h ⟨g.1, g.2.1⟩)]; exact decide_eq_false (by omega)
 | succ d ih =>
  intro j hj h1 h2
  by_cases c1 : okC (at_ l j)
  ·have c1' : okC ⟨(at_ l j).f0, (at_ l j).f1⟩ := c1
   by_cases c2 : j = 0
   ·subst c2
    refine Ev.step (fun k => ?_) (ih 1 (by omega) (fun i hi => by obtain rfl : i = 0 := (by omega); exact c1) (fun i hi => by omega))
    simp only [spec_IsShape.l0, rd_at, cellOk_eq, decide_eq_true c1', Option.bind_some, if_true]
    rw [if_pos (by omega), if_pos (by omega), if_neg (by omega), w64 (by omega) (by omega)]; rfl
   ·obtain ⟨i, rfl⟩ : ∃ i, j = i + 1 := ⟨j - 1, by omega⟩
    have e : wrap64 (((i + 1 : Nat) : Int) - 1) = (i : Nat) := by rw [w64 (by omega) (by omega)]; omega
    by_cases c3 : ltC (at_ l i) (at_ l (i + 1))
    ·have c3' : ltC ⟨(at_ l i).f0, (at_ l i).f1⟩ ⟨(at_ l (i + 1)).f0, (at_ l (i + 1)).f1⟩ := c3
     refine Ev.step (fun k => ?_) (ih (i + 1 + 1) (by omega) (fun x hx => if g : x = i + 1 then by rw [g]; exact c1 else h1 x (by omega)) (fun x hx => if g : x = i then by rw [g]; exact c3 else h2 x (by omega)))
     simp only [spec_IsShape.l0, rd_at, cellOk_eq, decide_eq_true c1', Option.bind_some, if_true, e, less_eq, decide_eq_true c3']
     rw [if_pos (by omega), if_pos (by omega), if_pos (by omega), if_pos (by omega), if_pos (by omega), w64 (by omega) (by omega)]; rfl
    ·have c3' : ¬ ltC ⟨(at_ l i).f0, (at_ l i).f1⟩ ⟨(at_ l (i + 1)).f0, (at_ l (i + 1)).f1⟩ := c3
     rw [shB_false (fun g => c3 (g.2.2.2 i (by omega)))]
     refine Ev.step (fun k => ?_) (Ev.now _)
     simp only [spec_IsShape.l0, rd_at, cellOk_eq, decide_eq_true c1', Option.bind_some, if_true, e, less_eq, decide_eq_false c3', Bool.false_eq_true, if_false]
     rw [if_pos (by omega), if_pos (by omega), if_pos (by omega), if_pos (by omega), if_pos (by omega)]
  ·have c1' : ¬ okC ⟨(at_ l j).f0, (at_ l j).f1⟩ := c1
   rw [shB_false (fun g => c1 (g.2.2.1 j (by omega)))]
   refine Ev.step (fun k => ?_) (Ev.now _)
   simp only [spec_IsShape.l0, rd_at, cellOk_eq, decide_eq_false c1', Option.bind_some, Bool.false_eq_true, if_false]
   rw [if_pos (by omega), if_pos (by omega)]
theorem specShape_ev (l : List C) (hl : l.length ≤ 1048576) : Ev (fun k => spec_IsShape.f k l) (shB l) :=
 specShape_loop l hl l.length 0 (by omega) (fun i hi => by omega) (fun i hi => by omega)
theorem implShape_loop (l : List C) (hl : l.length ≤ 1048576) : ∀ d j : Nat, j + d = l.length → (∀ i, i < j → okC (at_ l i)) → (∀ i, i + 1 < j → ltC (at_ l i) (at_ l (i + 1))) → Ev (fun k => impl_IsShape.l0 k l l (l.length : Int) (j : Nat)) (shB l) := by
 intro d
 induction d with
 | zero =>
  intro j hj h1 h2
  obtain rfl : j = l.length := by omega
  refine Ev.step (fun k => ?_) (Ev.now _)
  simp only [impl_IsShape.l0]; rw [if_neg (by omega)]
  by_cases h : 1 ≤ l.length ∧ l.length ≤ 40
  ·rw [shB_true ⟨h.1, h.2, h1, h2⟩, if_pos (by omega)]; congr 1; exact decide_eq_true (by omega)
  ·rw [shB_false (fun g => h ⟨g.1, g.2.1⟩)]
   by_cases g : (l.length : Int) ≥ 1
   ·rw [if_pos g]; congr 1; exact decide_eq_false (by omega)
   ·rw [if_neg g]
 | succ d ih =>
  intro j hj h1 h2
  by_cases c1 : okC (at_ l j)
  ·have ca : -100 ≤ (at_ l j).f0 ∧ (at_ l j).f0 ≤ 100 := ⟨c1.1, c1.2.1⟩
   have cb : -100 ≤ (at_ l j).f1 ∧ (at_ l j).f1 ≤ 100 := c1.2.2
   by_cases c2 : j = 0
   ·subst c2
    refine Ev.step (fun k => ?_) (ih 1 (by omega) (fun i hi => by obtain rfl : i = 0 := (by omega); exact c1) (fun i hi => by omega))
    simp only [impl_IsShape.l0, rd_at, isCo_eq, decide_eq_true ca, decide_eq_true cb, Option.bind_some, if_true]
    rw [if_pos (by omega), if_pos (by omega), if_pos (by omega), if_neg (by omega), w64 (by omega) (by omega)]; rfl
   ·obtain ⟨i, rfl⟩ : ∃ i, j = i + 1 := ⟨j - 1, by omega⟩
    have e : wrap64 (((i + 1 : Nat) : Int) - 1) = (i : Nat) := by rw [w64 (by omega) (by omega)]; omega
    by_cases c3 : ltC (at_ l i) (at_ l (i + 1))
    ·have c3' : ¬ (cmpC ⟨(at_ l i).f0, (at_ l i).f1⟩ ⟨(at_ l (i + 1)).f0, (at_ l (i + 1)).f1⟩ ≥ 0) := fun g => (cmpC_neg _ _).1 g c3
     refine Ev.step (fun k => ?_) (ih (i + 1 + 1) (by omega) (fun x hx => if g : x = i + 1 then by rw [g]; exact c1 else h1 x (by omega)) (fun x hx => if g : x = i then by rw [g]; exact c3 else h2 x (by omega)))
     simp only [impl_IsShape.l0, rd_at, isCo_eq, decide_eq_true ca, decide_eq_true cb, Option.bind_some, if_true, e, cmpCells_eq, if_neg c3']
     rw [if_pos (by omega), if_pos (by omega), if_pos (by omega), if_pos (by omega), if_pos (by omega), if_pos (by omega), w64 (by omega) (by omega)]; rfl
    ·have c3' : cmpC ⟨(at_ l i).f0, (at_ l i).f1⟩ ⟨(at_ l (i + 1)).f0, (at_ l (i + 1)).f1⟩ ≥ 0 := (cmpC_neg _ _).2 c3
     rw [shB_false (fun g => c3 (g.2.2.2 i (by omega)))]
     refine Ev.step (fun k => ?_) (Ev.now _)
     simp only [impl_IsShape.l0, rd_at, isCo_eq, decide_eq_true ca, decide_eq_true cb, Option.bind_some, if_true, e, cmpCells_eq, if_pos c3']
     rw [if_pos (by omega), if_pos (by omega), if_pos (by omega), if_pos (by omega), if_pos (by omega), if_pos (by omega)]
  ·rw [shB_false (fun g => c1 (g.2.2.1 j (by omega)))]
   refine Ev.step (fun k => ?_) (Ev.now _)
   simp only [impl_IsShape.l0, rd_at, isCo_eq, Option.bind_some]
   rw [if_pos (by omega), if_pos (by omega), if_pos (by omega)]
   by_cases ca : -100 ≤ (at_ l j).f0 ∧ (at_ l j).f0 ≤ 100
   ·have cb : ¬ (-100 ≤ (at_ l j).f1 ∧ (at_ l j).f1 ≤ 100) := fun cb => c1 ⟨ca.1, ca.2, cb.1, cb.2⟩
    simp only [decide_eq_true ca, decide_eq_false cb, if_true, Bool.false_eq_true, if_false]
   ·simp only [decide_eq_false ca, Bool.false_eq_true, if_false]
theorem implShape_ev (l : List C) (hl : l.length ≤ 1048576) : Ev (fun k => impl_IsShape.f k l) (shB l) :=
 implShape_loop l hl l.length 0 (by omega) (fun i hi => by omega) (fun i hi => by omega)
theorem mem_at {l : List C} {c : C} (h : c ∈ l) : ∃ i, i < l.length ∧ at_ l i = c := by
 obtain ⟨i, hi, e⟩ := List.mem_iff_getElem.1 h
 exact ⟨i, hi, (at_get l i hi).trans e⟩
theorem Sh.ok {l : List C} (h : Sh l) {c : C} (hc : c ∈ l) : okC c := by
 obtain ⟨i, hi, rfl⟩ := mem_at hc
 exact h.2.2.1 i hi
theorem ltC_trans {a b c : C} (h : ltC a b) (g : ltC b c) : ltC a c := by unfold ltC at *; omega
theorem ltC_irrefl {a : C} (h : ltC a a) : False := by unfold ltC at h; omega
theorem Sh.lt {l : List C} (h : Sh l) : ∀ i j, i < j → j < l.length → ltC (at_ l i) (at_ l j) := by
 intro i j
 induction j with
 | zero => intro h; omega
 | succ j ih =>
  intro hij hj
  by_cases e : i = j
  ·subst e; exact h.2.2.2 i hj
  ·exact ltC_trans (ih (by omega) (by omega)) (h.2.2.2 j hj)
theorem sh_cases (l : List C) : (Sh l ∧ shB l = true) ∨ (¬ Sh l ∧ shB l = false) := by
 by_cases h : Sh l
 ·exact Or.inl ⟨h, shB_true h⟩
 ·exact Or.inr ⟨h, shB_false h⟩
structure Src (c : List Int) (i s : Int) : Prop where
 bytes : ∀ x ∈ c, 0 ≤ x ∧ x ≤ 255
 lo : 0 ≤ i
 hi : i ≤ c.length
 len : c.length ≤ 140737488355328
 s0 : 0 ≤ s
 s1 : s < 2147483647
theorem next_some {c : List Int} {i s : Int} (h : Src c i s) (n : Int) (_ : n ≤ 9223372036854775807) : ∃ r i' s', spec_l01Next.f c i s n = some (r, i', s') ∧ Src c i' s' ∧ 0 ≤ r ∧ (1 ≤ n → r < n) ∧ (n ≤ 1 → r = 0) := by
 obtain ⟨hb, hlo, hhi, hlen, h0, h1⟩ := h
 have hr := rd_byte hb i
 unfold spec_l01Next.f
 by_cases c1 : n ≤ 1
 ·rw [if_pos c1]; exact ⟨0, i, s, rfl, ⟨hb, hlo, hhi, hlen, h0, h1⟩, by omega, by omega, fun _ => rfl⟩
 ·rw [if_neg c1, if_pos (by omega)]
  have s0 := Int.emod_nonneg (s * 48271 + 29) (show (2147483647 : Int) ≠ 0 by omega)
  have s1 := Int.emod_lt_of_pos (s * 48271 + 29) (show (0 : Int) < 2147483647 by omega)
  generalize (s * 48271 + 29) % 2147483647 = s' at s0 s1 ⊢
  have fin : ∀ x : Int, 0 ≤ x % n ∧ (1 ≤ n → x % n < n) ∧ (n ≤ 1 → x % n = 0) := fun x => ⟨Int.emod_nonneg _ (by omega), fun _ => Int.emod_lt_of_pos _ (by omega), fun z => by omega⟩
  by_cases c2 : i < (c.length : Int)
  ·rw [if_pos c2]
   have hS : Src c (i + 1) s' := ⟨hb, by omega, by omega, hlen, s0, s1⟩
   split
   ·exact ⟨_, _, _, rfl, hS, fin _⟩
   ·exact ⟨_, _, _, rfl, hS, fin _⟩
  ·rw [if_neg c2]
   exact ⟨_, _, _, rfl, ⟨hb, hlo, hhi, hlen, s0, s1⟩, fin _⟩
theorem from_loop {c : List Int} (hb : ∀ x ∈ c, 0 ≤ x ∧ x ≤ 255) (hl : c.length ≤ 140737488355328) : ∀ d : Nat, ∀ i s : Int, 0 ≤ i → (c.length : Int) - i ≤ d → i ≤ c.length → 0 ≤ s → s < 2147483647 →
  ∃ s', Ev (fun k => spec_l01From.l0 k c i c 0 s) (c, 0, s') ∧ Src c 0 s' := by
 intro d
 induction d with
 | zero =>
  intro i s h0 h1 h2 h3 h4
  refine ⟨s, Ev.step (fun k => ?_) (Ev.now _), ⟨hb, by omega, by omega, hl, h3, h4⟩⟩
  simp only [spec_l01From.l0]; rw [if_neg (by omega)]
 | succ d ih =>
  intro i s h0 h1 h2 h3 h4
  by_cases hc : i < (c.length : Int) ∧ i < 64
  ·have hr := rd_byte hb i
   have ht := tmod_pos (a := s * 47 + rd c i) (n := 2147483647) (by omega) (by omega)
   obtain ⟨s', he, hs⟩ := ih (i + 1) (Int.tmod (s * 47 + rd c i) 2147483647) (by omega) (by omega) (by omega) ht.1 ht.2
   refine ⟨s', Ev.step (fun k => ?_) he, hs⟩
   simp only [spec_l01From.l0]; rw [if_pos hc.1, if_pos hc.2, if_pos h0, w64 (x := i + 1) (by omega) (by omega), w64 (x := s * 47) (by omega) (by omega), w64 (x := rd c i) (by omega) (by omega), w64 (by omega) (by omega)]
  ·refine ⟨s, Ev.step (fun k => ?_) (Ev.now _), ⟨hb, by omega, by omega, hl, h3, h4⟩⟩
   simp only [spec_l01From.l0]
   by_cases hc1 : i < (c.length : Int)
   ·rw [if_pos hc1, if_neg (by omega)]
   ·rw [if_neg hc1]
theorem from_some {c : List Int} (hb : ∀ x ∈ c, 0 ≤ x ∧ x ≤ 255) (hl : c.length ≤ 140737488355328) : ∃ s', Ev (fun k => spec_l01From.f k c) (c, 0, s') ∧ Src c 0 s' := by
 exact from_loop hb hl c.length 0 61003 (by omega) (by omega) (by omega) (by omega) (by omega)
def ixF : Nat → List C → Int → Int → Int
 | _, [], _, _ => -1
 | j, c :: r, x, y => if c.f0 = x ∧ c.f1 = y then (j : Int) else ixF (j + 1) r x y
theorem ixF_mem (x y : Int) : ∀ (r : List C) (j : Nat), 0 ≤ ixF j r x y ↔ (⟨x, y⟩ : C) ∈ r := by
 intro r
 induction r with
 | nil => intro j; simp [ixF]
 | cons c r ih =>
  intro j
  unfold ixF
  by_cases h : c.f0 = x ∧ c.f1 = y
  ·rw [if_pos h]
   constructor
   ·intro _; obtain ⟨rfl, rfl⟩ := h; exact List.mem_cons_self
   ·intro _; omega
  ·rw [if_neg h, ih (j + 1), List.mem_cons]
   constructor
   ·exact fun g => Or.inr g
   ·rintro (g | g)
    ·exact absurd (by rw [← g]; exact ⟨rfl, rfl⟩) h
    ·exact g
def hasC (l : List C) (x y : Int) : Bool := decide (0 ≤ ixF 0 l x y)
theorem hasC_iff (l : List C) (x y : Int) : hasC l x y = true ↔ (⟨x, y⟩ : C) ∈ l := by unfold hasC; rw [decide_eq_true_eq]; exact ixF_mem x y l 0
theorem hasC_true {l : List C} {x y : Int} (h : (⟨x, y⟩ : C) ∈ l) : hasC l x y = true := (hasC_iff l x y).2 h
theorem hasC_false {l : List C} {x y : Int} (h : ¬ (⟨x, y⟩ : C) ∈ l) : hasC l x y = false := by
 cases e : hasC l x y with
 | false => rfl
 | true => exact absurd ((hasC_iff l x y).1 e) h
theorem specIx_loop (l : List C) (x y : Int) (hl : l.length ≤ 1048576) : ∀ d j : Nat, j + d = l.length → Ev (fun k => spec_l02Index.l0 k l (j : Nat) x y) (ixF j (l.drop j) x y) := by
 intro d
 induction d with
 | zero =>
  intro j hj
  obtain rfl : j = l.length := by omega
  rw [List.drop_length]
  refine Ev.step (fun k => ?_) (Ev.now _)
  simp only [spec_l02Index.l0, ixF]; rw [if_neg (by omega)]
 | succ d ih =>
  intro j hj
  rw [drop_at l j (by omega)]
  have e : ∀ k, spec_l02Index.l0 (k + 1) l (j : Nat) x y = if (at_ l j).f0 = x ∧ (at_ l j).f1 = y then some (j : Int) else spec_l02Index.l0 k l ((j + 1 : Nat) : Int) x y := by
   intro k
   simp only [spec_l02Index.l0, rd_at, Bool.and_eq_true, beq_iff_eq]
   rw [if_pos (by omega), if_pos (by omega), w64 (by omega) (by omega)]; rfl
  unfold ixF
  by_cases c : (at_ l j).f0 = x ∧ (at_ l j).f1 = y
  ·rw [if_pos c]; exact Ev.step (f := fun _ => some (j : Int)) (fun k => (e k).trans (if_pos c)) (Ev.now _)
  ·rw [if_neg c]; exact Ev.step (fun k => (e k).trans (if_neg c)) (ih (j + 1) (by omega))
theorem specIx_ev (l : List C) (x y : Int) (hl : l.length ≤ 1048576) : Ev (fun k => spec_l02Index.f k l x y) (ixF 0 l x y) :=
 specIx_loop l x y hl l.length 0 (by omega)
theorem foldl_pair (g1 g2 : Int → C → Int) (l : List C) : ∀ a b, l.foldl (fun (s : Int × Int) c => (g1 s.1 c, g2 s.2 c)) (a, b) = (l.foldl g1 a, l.foldl g2 b) := by
 induction l with
 | nil => intro a b; rfl
 | cons c r ih => intro a b; exact ih _ _
def mxF (f : C → Int) (l : List C) (s : Int) : Int := l.foldl (fun s c => mx s (f c)) s
def mnF (f : C → Int) (l : List C) (s : Int) : Int := l.foldl (fun s c => mn s (f c)) s
theorem mxF_spec (f : C → Int) (l : List C) : ∀ s, s ≤ mxF f l s ∧ (∀ c ∈ l, f c ≤ mxF f l s) ∧ (mxF f l s = s ∨ ∃ c ∈ l, mxF f l s = f c) := by
 induction l with
 | nil => intro s; exact ⟨Int.le_refl _, (fun c h => by cases h), Or.inl rfl⟩
 | cons d r ih =>
  intro s
  obtain ⟨h1, h2, h3⟩ := ih (mx s (f d))
  have e : mxF f (d :: r) s = mxF f r (mx s (f d)) := rfl
  rw [e]
  have m1 : s ≤ mx s (f d) ∧ f d ≤ mx s (f d) ∧ (mx s (f d) = s ∨ mx s (f d) = f d) := by unfold mx; split <;> omega
  refine ⟨by omega, fun c hc => ?_, ?_⟩
  ·rcases List.mem_cons.1 hc with rfl | hc
   ·omega
   ·exact h2 c hc
  ·rcases h3 with h3 | ⟨c, hc, h3⟩
   ·rcases m1.2.2 with m | m
    ·exact Or.inl (h3.trans m)
    ·exact Or.inr ⟨d, List.mem_cons_self, h3.trans m⟩
   ·exact Or.inr ⟨c, List.mem_cons_of_mem _ hc, h3⟩
theorem mnF_spec (f : C → Int) (l : List C) : ∀ s, mnF f l s ≤ s ∧ (∀ c ∈ l, mnF f l s ≤ f c) ∧ (mnF f l s = s ∨ ∃ c ∈ l, mnF f l s = f c) := by
 induction l with
 | nil => intro s; exact ⟨Int.le_refl _, (fun c h => by cases h), Or.inl rfl⟩
 | cons d r ih =>
  intro s
  obtain ⟨h1, h2, h3⟩ := ih (mn s (f d))
  have e : mnF f (d :: r) s = mnF f r (mn s (f d)) := rfl
  rw [e]
  have m1 : mn s (f d) ≤ s ∧ mn s (f d) ≤ f d ∧ (mn s (f d) = s ∨ mn s (f d) = f d) := by unfold mn; split <;> omega
  refine ⟨by omega, fun c hc => ?_, ?_⟩
  ·rcases List.mem_cons.1 hc with rfl | hc
   ·omega
   ·exact h2 c hc
  ·rcases h3 with h3 | ⟨c, hc, h3⟩
   ·rcases m1.2.2 with m | m
    ·exact Or.inl (h3.trans m)
    ·exact Or.inr ⟨d, List.mem_cons_self, h3.trans m⟩
   ·exact Or.inr ⟨c, List.mem_cons_of_mem _ hc, h3⟩
def lo (l : List C) : Int × Int := (mnF (fun c => c.f0) l (at_ l 0).f0, mnF (fun c => c.f1) l (at_ l 0).f1)
def hi (l : List C) : Int × Int := (mxF (fun c => c.f0) l (at_ l 0).f0, mxF (fun c => c.f1) l (at_ l 0).f1)
theorem mn_self (a : Int) : mn a a = a := by unfold mn; split <;> omega
theorem lo_drop (l : List C) (h : 0 < l.length) : lo l = (mnF (fun c => c.f0) (l.drop 1) (at_ l 0).f0, mnF (fun c => c.f1) (l.drop 1) (at_ l 0).f1) := by
 have e := drop_at l 0 h
 rw [List.drop_zero] at e
 unfold lo
 have e0 : mnF (fun c => c.f0) l (at_ l 0).f0 = mnF (fun c => c.f0) (l.drop 1) (at_ l 0).f0 := by
  conv => lhs; rw [e]
  show mnF _ (l.drop (0 + 1)) (mn (at_ (at_ l 0 :: l.drop (0 + 1)) 0).f0 (at_ l 0).f0) = _
  rw [show at_ (at_ l 0 :: l.drop (0 + 1)) 0 = at_ l 0 from rfl, mn_self]
 have e1 : mnF (fun c => c.f1) l (at_ l 0).f1 = mnF (fun c => c.f1) (l.drop 1) (at_ l 0).f1 := by
  conv => lhs; rw [e]
  show mnF _ (l.drop (0 + 1)) (mn (at_ (at_ l 0 :: l.drop (0 + 1)) 0).f1 (at_ l 0).f1) = _
  rw [show at_ (at_ l 0 :: l.drop (0 + 1)) 0 = at_ l 0 from rfl, mn_self]
 rw [e0, e1]
theorem lo_le {l : List C} {c : C} (h : c ∈ l) : (lo l).1 ≤ c.f0 ∧ (lo l).2 ≤ c.f1 := ⟨(mnF_spec _ l _).2.1 c h, (mnF_spec _ l _).2.1 c h⟩
theorem le_hi {l : List C} {c : C} (h : c ∈ l) : c.f0 ≤ (hi l).1 ∧ c.f1 ≤ (hi l).2 := ⟨(mxF_spec _ l _).2.1 c h, (mxF_spec _ l _).2.1 c h⟩
theorem lo_mem0 {l : List C} (h : 0 < l.length) : ∃ c ∈ l, (lo l).1 = c.f0 := by
 rcases (mnF_spec (fun c : C => c.f0) l (at_ l 0).f0).2.2 with e | ⟨c, hc, e⟩
 ·exact ⟨at_ l 0, at_mem l 0 h, e⟩
 ·exact ⟨c, hc, e⟩
theorem lo_mem1 {l : List C} (h : 0 < l.length) : ∃ c ∈ l, (lo l).2 = c.f1 := by
 rcases (mnF_spec (fun c : C => c.f1) l (at_ l 0).f1).2.2 with e | ⟨c, hc, e⟩
 ·exact ⟨at_ l 0, at_mem l 0 h, e⟩
 ·exact ⟨c, hc, e⟩
theorem hi_mem0 {l : List C} (h : 0 < l.length) : ∃ c ∈ l, (hi l).1 = c.f0 := by
 rcases (mxF_spec (fun c : C => c.f0) l (at_ l 0).f0).2.2 with e | ⟨c, hc, e⟩
 ·exact ⟨at_ l 0, at_mem l 0 h, e⟩
 ·exact ⟨c, hc, e⟩
theorem hi_mem1 {l : List C} (h : 0 < l.length) : ∃ c ∈ l, (hi l).2 = c.f1 := by
 rcases (mxF_spec (fun c : C => c.f1) l (at_ l 0).f1).2.2 with e | ⟨c, hc, e⟩
 ·exact ⟨at_ l 0, at_mem l 0 h, e⟩
 ·exact ⟨c, hc, e⟩
def sz (l : List C) : Int × Int := ((hi l).1 - (lo l).1 + 1, (hi l).2 - (lo l).2 + 1)
def movC (a b : Int) (c : C) : C := ⟨wrap64 (c.f0 + a), wrap64 (c.f1 + b)⟩
def movL (a b : Int) (l : List C) : List C := l.map (movC a b)
theorem movL_length (a b : Int) (l : List C) : (movL a b l).length = l.length := by simp [movL]
theorem foldl_append_map {α β : Type} (f : α → β) (l : List α) : ∀ s : List β, l.foldl (fun s c => s ++ [f c]) s = s ++ l.map f := by
 induction l with
 | nil => intro s; simp
 | cons c r ih => intro s; rw [List.foldl_cons, ih]; simp
def normL (l : List C) : List C := movL (wrap64 (-(lo l).1)) (wrap64 (-(lo l).2)) l
theorem normL_length (l : List C) : (normL l).length = l.length := movL_length _ _ _
def insP (c : C) : List C → List C
 | [] => [c]
 | x :: r => if ltC c x then c :: x :: r else x :: insP c r
def sortP (l : List C) : List C := l.foldl (fun s c => insP c s) []
theorem insP_length (c : C) (l : List C) : (insP c l).length = l.length + 1 := by
 induction l with
 | nil => rfl
 | cons x r ih => unfold insP; split <;> simp [ih]
theorem insP_perm (c : C) (l : List C) : (insP c l).Perm (c :: l) := by
 induction l with
 | nil => exact List.Perm.refl _
 | cons x r ih =>
  unfold insP
  split
  ·exact List.Perm.refl _
  ·exact (ih.cons x).trans (List.Perm.swap c x r)
theorem foldl_insP_perm : ∀ (l s : List C), (l.foldl (fun s c => insP c s) s).Perm (s ++ l) := by
 intro l
 induction l with
 | nil => intro s; simp
 | cons c r ih =>
  intro s
  rw [List.foldl_cons]
  refine (ih _).trans ?_
  refine ((insP_perm c s).append_right r).trans ?_
  exact (List.perm_middle).symm
theorem sortP_perm (l : List C) : (sortP l).Perm l := by
 have := foldl_insP_perm l []
 rwa [List.nil_append] at this
theorem sortP_length (l : List C) : (sortP l).length = l.length := (sortP_perm l).length_eq
theorem mem_sortP {l : List C} {c : C} : c ∈ sortP l ↔ c ∈ l := (sortP_perm l).mem_iff
def leC (a b : C) : Prop := ¬ ltC b a
theorem leC_trans {a b c : C} (h : leC a b) (g : leC b c) : leC a c := by unfold leC ltC at *; omega
theorem leC_total (a b : C) : leC a b ∨ leC b a := by unfold leC ltC; omega
theorem leC_anti {a b : C} (h : leC a b) (g : leC b a) : a = b := by
 unfold leC ltC at *
 have e0 : a.f0 = b.f0 := by omega
 have e1 : a.f1 = b.f1 := by omega
 cases a; cases b; cases e0; cases e1; rfl
theorem ltC_le {a b : C} (h : ltC a b) : leC a b := by unfold leC ltC at *; omega
theorem insP_sorted (c : C) (l : List C) (h : l.Pairwise leC) : (insP c l).Pairwise leC := by
 induction l with
 | nil => simp [insP]
 | cons x r ih =>
  rw [List.pairwise_cons] at h
  unfold insP
  by_cases hc : ltC c x
  ·rw [if_pos hc, List.pairwise_cons]
   refine ⟨fun y hy => ?_, List.pairwise_cons.2 h⟩
   rcases List.mem_cons.1 hy with rfl | hy
   ·exact ltC_le hc
   ·exact leC_trans (ltC_le hc) (h.1 y hy)
  ·rw [if_neg hc, List.pairwise_cons]
   refine ⟨fun y hy => ?_, ih h.2⟩
   rcases List.mem_cons.1 ((insP_perm c r).mem_iff.1 hy) with rfl | hy
   ·exact hc
   ·exact h.1 y hy
theorem sortP_sorted (l : List C) : (sortP l).Pairwise leC := by
 have : ∀ (l s : List C), s.Pairwise leC → (l.foldl (fun s c => insP c s) s).Pairwise leC := by
  intro l
  induction l with
  | nil => intro s h; exact h
  | cons c r ih => intro s h; exact ih _ (insP_sorted c s h)
 exact this l [] List.Pairwise.nil
theorem sorted_unique {l m : List C} (hl : l.Pairwise leC) (hm : m.Pairwise leC) (hp : l.Perm m) : l = m :=
 List.Perm.eq_of_pairwise (le := leC) (fun _ _ _ _ h1 h2 => leC_anti h1 h2) hl hm hp
theorem Sh.sorted {l : List C} (h : Sh l) : l.Pairwise leC := by
 rw [List.pairwise_iff_getElem]
 intro i j hi hj hij
 have := h.lt i j hij hj
 rw [at_get l i hi, at_get l j hj] at this
 exact ltC_le this
theorem ev_foldE {σ β : Type} (F : Nat → σ → Int → Option β) (l : List C) (g : σ → C → σ) (inv : Nat → σ → Prop)
  (step : ∀ s (j : Nat), j < l.length → at_ l j ∈ l → inv j s → inv (j + 1) (g s (at_ l j)) ∧ ∀ r, Ev (fun k => F k (g s (at_ l j)) ((j + 1 : Nat) : Int)) r → Ev (fun k => F k s (j : Nat)) r)
  (r : β) (j0 : Nat) (hj0 : j0 ≤ l.length) (s0 : σ) (h0 : inv j0 s0) (hr : inv l.length ((l.drop j0).foldl g s0) → Ev (fun k => F k ((l.drop j0).foldl g s0) (l.length : Nat)) r) : Ev (fun k => F k s0 (j0 : Nat)) r := by
 have key : ∀ d j : Nat, j + d = l.length → ∀ s, inv j s → (inv l.length ((l.drop j).foldl g s) → Ev (fun k => F k ((l.drop j).foldl g s) (l.length : Nat)) r) → Ev (fun k => F k s (j : Nat)) r := by
  intro d
  induction d with
  | zero =>
   intro j hj s hs hr
   obtain rfl : j = l.length := by omega
   rw [List.drop_length] at hr
   exact hr hs
  | succ d ih =>
   intro j hj s hs hr
   have h : j < l.length := by omega
   obtain ⟨h1, h2⟩ := step s j h (at_mem l j h) hs
   refine h2 r (ih (j + 1) (by omega) _ h1 ?_)
   rw [drop_at l j h] at hr; exact hr
 exact key (l.length - j0) j0 (by omega) s0 h0 hr
theorem ins_loop (l : List C) (x y : Int) (hl : l.length ≤ 1048576) : ∀ d j : Nat, j + d = l.length → ∀ acc : List C, acc.length ≤ j + 1 →
  Ev (fun k => spec_l02Insert.l0 k l acc true (j : Nat) x y) (acc ++ l.drop j) ∧ (acc.length ≤ j → Ev (fun k => spec_l02Insert.l0 k l acc false (j : Nat) x y) (acc ++ insP ⟨x, y⟩ (l.drop j))) := by
 intro d
 induction d with
 | zero =>
  intro j hj acc ha
  obtain rfl : j = l.length := by omega
  rw [List.drop_length]
  refine ⟨?_, fun _ => ?_⟩
  ·refine Ev.step (fun k => ?_) (Ev.now _)
   simp only [spec_l02Insert.l0, if_true, List.append_nil]; rw [if_neg (by omega)]
  ·refine Ev.step (fun k => ?_) (Ev.now _)
   simp only [spec_l02Insert.l0, insP, Bool.false_eq_true, if_false]; rw [if_neg (by omega), if_pos (by omega)]
 | succ d ih =>
  intro j hj acc ha
  have hjl : j < l.length := by omega
  rw [drop_at l j hjl]
  have ej : wrap64 ((j : Int) + 1) = ((j + 1 : Nat) : Int) := by rw [w64 (by omega) (by omega)]; rfl
  refine ⟨?_, fun hb => ?_⟩
  ·have g := (ih (j + 1) (by omega) (acc ++ [at_ l j]) (by simp; omega)).1
   rw [List.append_assoc] at g
   refine Ev.step (fun k => ?_) g
   simp only [spec_l02Insert.l0, rd_at, if_true]
   rw [if_pos (by omega), if_pos (by omega), if_pos (by omega), ej]
  ·by_cases c : ltC ⟨x, y⟩ (at_ l j)
   ·have c' : ltC ⟨x, y⟩ ⟨(at_ l j).f0, (at_ l j).f1⟩ := c
    have g := (ih (j + 1) (by omega) ((acc ++ [⟨x, y⟩]) ++ [at_ l j]) (by simp; omega)).1
    unfold insP
    rw [if_pos c]
    rw [List.append_assoc, List.append_assoc] at g
    refine Ev.step (fun k => ?_) g
    simp only [spec_l02Insert.l0, rd_at, less_eq, Option.bind_some, Bool.false_eq_true, if_false, decide_eq_true c', if_true]
    rw [if_pos (by omega), if_pos (by omega), if_pos (by omega), if_pos (by simp; omega), ej, List.append_assoc]
   ·have c' : ¬ ltC ⟨x, y⟩ ⟨(at_ l j).f0, (at_ l j).f1⟩ := c
    have g := (ih (j + 1) (by omega) (acc ++ [at_ l j]) (by simp; omega)).2 (by simp; omega)
    unfold insP
    rw [if_neg c]
    rw [List.append_assoc] at g
    refine Ev.step (fun k => ?_) g
    simp only [spec_l02Insert.l0, rd_at, less_eq, Option.bind_some, Bool.false_eq_true, if_false, decide_eq_false c']
    rw [if_pos (by omega), if_pos (by omega), if_pos (by omega), ej]
theorem specIns_ev (l : List C) (x y : Int) (hl : l.length ≤ 1048576) : Ev (fun k => spec_l02Insert.f k l x y) (insP ⟨x, y⟩ l) :=
 (ins_loop l x y hl l.length 0 (by omega) [] (by simp)).2 (by simp)
theorem specSort_ev (l : List C) (hl : l.length ≤ 1048570) : Ev (fun k => spec_l02Sort.f k l) (sortP l) := by
 unfold spec_l02Sort.f
 refine ev_foldE (fun k s j => spec_l02Sort.l0 k l s j) l (fun s c => insP c s) (fun j s => s.length = j) ?_ _ 0 (by omega) [] rfl ?_
 ·intro s j hj hm hs
  refine ⟨by rw [insP_length]; omega, fun r hr => ?_⟩
  refine Ev.step (f := fun k => (spec_l02Insert.f k s (at_ l j).f0 (at_ l j).f1).bind fun t => spec_l02Sort.l0 k l t ((j + 1 : Nat) : Int)) (fun k => ?_) ?_
  ·simp only [spec_l02Sort.l0, rd_at]; rw [if_pos (by omega), if_pos (by omega), w64 (by omega) (by omega)]; rfl
  ·exact Ev.bind (f := fun k t => spec_l02Sort.l0 k l t ((j + 1 : Nat) : Int)) (specIns_ev s _ _ (by omega)) hr
 ·intro hs
  refine Ev.step (fun k => ?_) (Ev.now _)
  simp only [spec_l02Sort.l0]; rw [if_neg (by omega)]; rfl
def nbrs (c : C) : List C := [⟨c.f0, c.f1 - 1⟩, ⟨c.f0 - 1, c.f1⟩, ⟨c.f0 + 1, c.f1⟩, ⟨c.f0, c.f1 + 1⟩]
def nbStep (l s : List C) (d : C) : List C := if hasC l d.f0 d.f1 = true then s else if hasC s d.f0 d.f1 = true then s else insP d s
def nbP (l : List C) : List C := l.foldl (fun s c => (nbrs c).foldl (nbStep l) s) []
theorem insP_strict {d : C} {s : List C} (h : s.Pairwise ltC) (hd : ¬ d ∈ s) : (insP d s).Pairwise ltC := by
 induction s with
 | nil => simp [insP]
 | cons x r ih =>
  rw [List.pairwise_cons] at h
  unfold insP
  by_cases hc : ltC d x
  ·rw [if_pos hc, List.pairwise_cons]
   refine ⟨fun y hy => ?_, List.pairwise_cons.2 h⟩
   rcases List.mem_cons.1 hy with rfl | hy
   ·exact hc
   ·exact ltC_trans hc (h.1 y hy)
  ·rw [if_neg hc, List.pairwise_cons]
   refine ⟨fun y hy => ?_, ih h.2 fun g => hd (List.mem_cons_of_mem _ g)⟩
   rcases List.mem_cons.1 ((insP_perm d r).mem_iff.1 hy) with rfl | hy
   ·have hne : x ≠ y := fun e => hd (by rw [e]; exact List.mem_cons_self)
    have : leC x y := hc
    by_cases g : ltC x y
    ·exact g
    ·exact absurd (leC_anti this g) hne
   ·exact h.1 y hy
theorem nbStep_ok (l s : List C) (d : C) (h : s.Pairwise ltC) : (nbStep l s d).Pairwise ltC ∧ (∀ c, c ∈ nbStep l s d ↔ c ∈ s ∨ (c = d ∧ ¬ c ∈ l)) ∧ (nbStep l s d).length ≤ s.length + 1 := by
 unfold nbStep
 by_cases h1 : hasC l d.f0 d.f1 = true
 ·rw [if_pos h1]
  have hm : d ∈ l := (hasC_iff l d.f0 d.f1).1 h1
  exact ⟨h, fun c => ⟨Or.inl, fun g => g.elim id fun g => absurd (by rw [g.1]; exact hm) g.2⟩, by omega⟩
 ·rw [if_neg h1]
  have hm : ¬ d ∈ l := fun g => h1 ((hasC_iff l d.f0 d.f1).2 g)
  by_cases h2 : hasC s d.f0 d.f1 = true
  ·rw [if_pos h2]
   have hs : d ∈ s := (hasC_iff s d.f0 d.f1).1 h2
   exact ⟨h, fun c => ⟨Or.inl, fun g => g.elim id fun g => by rw [g.1]; exact hs⟩, by omega⟩
  ·rw [if_neg h2]
   have hs : ¬ d ∈ s := fun g => h2 ((hasC_iff s d.f0 d.f1).2 g)
   refine ⟨insP_strict h hs, fun c => ?_, by rw [insP_length]; omega⟩
   rw [(insP_perm d s).mem_iff, List.mem_cons]
   constructor
   ·rintro (rfl | g)
    ·exact Or.inr ⟨rfl, hm⟩
    ·exact Or.inl g
   ·rintro (g | g)
    ·exact Or.inr g
    ·exact Or.inl g.1
theorem nbFold_ok (l : List C) : ∀ (D s : List C), s.Pairwise ltC → (D.foldl (nbStep l) s).Pairwise ltC ∧ (∀ c, c ∈ D.foldl (nbStep l) s ↔ c ∈ s ∨ (c ∈ D ∧ ¬ c ∈ l)) ∧ (D.foldl (nbStep l) s).length ≤ s.length + D.length := by
 intro D
 induction D with
 | nil => intro s h; exact ⟨h, fun c => by simp, by simp⟩
 | cons d r ih =>
  intro s h
  obtain ⟨a1, a2, a3⟩ := nbStep_ok l s d h
  obtain ⟨b1, b2, b3⟩ := ih _ a1
  rw [List.foldl_cons]
  refine ⟨b1, fun c => ?_, by rw [List.length_cons]; omega⟩
  rw [b2, a2, List.mem_cons]
  constructor
  ·rintro ((g | g) | g)
   ·exact Or.inl g
   ·exact Or.inr ⟨Or.inl g.1, g.2⟩
   ·exact Or.inr ⟨Or.inr g.1, g.2⟩
  ·rintro (g | ⟨g | g, k⟩)
   ·exact Or.inl (Or.inl g)
   ·exact Or.inl (Or.inr ⟨g, k⟩)
   ·exact Or.inr ⟨g, k⟩
theorem nbOuter_ok (l : List C) : ∀ (m s : List C), s.Pairwise ltC → (m.foldl (fun s c => (nbrs c).foldl (nbStep l) s) s).Pairwise ltC ∧ (∀ c, c ∈ m.foldl (fun s c => (nbrs c).foldl (nbStep l) s) s ↔ c ∈ s ∨ ((∃ d ∈ m, c ∈ nbrs d) ∧ ¬ c ∈ l)) ∧ (m.foldl (fun s c => (nbrs c).foldl (nbStep l) s) s).length ≤ s.length + 4 * m.length := by
 intro m
 induction m with
 | nil => intro s h; exact ⟨h, fun c => by simp, by simp⟩
 | cons d r ih =>
  intro s h
  obtain ⟨a1, a2, a3⟩ := nbFold_ok l (nbrs d) s h
  obtain ⟨b1, b2, b3⟩ := ih _ a1
  rw [List.foldl_cons]
  refine ⟨b1, fun c => ?_, ?_⟩
  ·rw [b2, a2]
   constructor
   ·rintro ((g | g) | ⟨⟨e, he, g⟩, k⟩)
    ·exact Or.inl g
    ·exact Or.inr ⟨⟨d, List.mem_cons_self, g.1⟩, g.2⟩
    ·exact Or.inr ⟨⟨e, List.mem_cons_of_mem _ he, g⟩, k⟩
   ·rintro (g | ⟨⟨e, he, g⟩, k⟩)
    ·exact Or.inl (Or.inl g)
    ·rcases List.mem_cons.1 he with rfl | he
     ·exact Or.inl (Or.inr ⟨g, k⟩)
     ·exact Or.inr ⟨⟨e, he, g⟩, k⟩
  ·have : (nbrs d).length = 4 := rfl
   rw [List.length_cons]; omega
theorem nbP_strict (l : List C) : (nbP l).Pairwise ltC := (nbOuter_ok l l [] List.Pairwise.nil).1
theorem nbP_mem (l : List C) (c : C) : c ∈ nbP l ↔ (∃ d ∈ l, c ∈ nbrs d) ∧ ¬ c ∈ l := by
 rw [show nbP l = l.foldl (fun s c => (nbrs c).foldl (nbStep l) s) [] from rfl, (nbOuter_ok l l [] List.Pairwise.nil).2.1]; simp
theorem nbP_length (l : List C) : (nbP l).length ≤ 4 * l.length := by
 have := (nbOuter_ok l l [] List.Pairwise.nil).2.2
 simp only [List.length_nil, Nat.zero_add] at this
 exact this
theorem strict_unique {l m : List C} (hl : l.Pairwise ltC) (hm : m.Pairwise ltC) (h : ∀ c, c ∈ l ↔ c ∈ m) : l = m := by
 have n1 : l.Nodup := hl.imp fun h e => by rw [e] at h; exact ltC_irrefl h
 have n2 : m.Nodup := hm.imp fun h e => by rw [e] at h; exact ltC_irrefl h
 exact sorted_unique (hl.imp ltC_le) (hm.imp ltC_le) ((List.perm_ext_iff_of_nodup n1 n2).2 h)
def Wi (b : Int) (l : List C) : Prop := ∀ c ∈ l, -b ≤ c.f0 ∧ c.f0 ≤ b ∧ -b ≤ c.f1 ∧ c.f1 ≤ b
theorem nbrs_mem {c d : C} : c ∈ nbrs d ↔ (c.f0 = d.f0 ∧ (c.f1 = d.f1 - 1 ∨ c.f1 = d.f1 + 1)) ∨ (c.f1 = d.f1 ∧ (c.f0 = d.f0 - 1 ∨ c.f0 = d.f0 + 1)) := by
 have ext : ∀ x y : Int, c = (⟨x, y⟩ : C) ↔ c.f0 = x ∧ c.f1 = y := fun x y => ⟨fun e => by rw [e]; exact ⟨rfl, rfl⟩, fun e => by cases c; cases e.1; cases e.2; rfl⟩
 unfold nbrs
 simp only [List.mem_cons, List.not_mem_nil, or_false, ext]
 omega
theorem nbP_wi {b : Int} {l : List C} (h : Wi b l) : Wi (b + 1) (nbP l) := by
 intro c hc
 obtain ⟨⟨d, hd, hn⟩, _⟩ := (nbP_mem l c).1 hc
 have := h d hd
 rw [nbrs_mem] at hn
 omega
theorem nbP_ne {l : List C} (h0 : 0 < l.length) : 0 < (nbP l).length := by
 -- the cell above the least one
 obtain ⟨c, hc, hmin⟩ : ∃ c ∈ l, ∀ d ∈ l, c.f1 ≤ d.f1 := by
  have : ∀ m : List C, 0 < m.length → ∃ c ∈ m, ∀ d ∈ m, c.f1 ≤ d.f1 := by
   intro m
   induction m with
   | nil => intro h; exact absurd h (by simp)
   | cons x r ih =>
    intro _
    by_cases hr : 0 < r.length
    ·obtain ⟨c, hc, hm⟩ := ih hr
     by_cases g : x.f1 ≤ c.f1
     ·exact ⟨x, List.mem_cons_self, fun d hd => by
       rcases List.mem_cons.1 hd with rfl | hd
       ·exact Int.le_refl _
       ·have := hm d hd; omega⟩
     ·exact ⟨c, List.mem_cons_of_mem _ hc, fun d hd => by
       rcases List.mem_cons.1 hd with rfl | hd
       ·omega
       ·exact hm d hd⟩
    ·have e : r = [] := List.length_eq_zero_iff.1 (by omega)
     subst e
     exact ⟨x, List.mem_cons_self, fun d hd => by simp at hd; rw [hd]; exact Int.le_refl _⟩
  exact this l h0
 have hm : (⟨c.f0, c.f1 - 1⟩ : C) ∈ nbP l := by
  rw [nbP_mem]
  refine ⟨⟨c, hc, by simp [nbrs]⟩, fun g => ?_⟩
  have := hmin _ g
  simp only [] at this
  omega
 exact List.length_pos_of_mem hm
theorem nb_l1 (l : List C) (hl : l.length ≤ 100000) (i : Int) (ds : List C) (h4 : ds.length = 4) (r : List C) : ∀ d j : Nat, j + d = 4 → ∀ s : List C, s.length + d ≤ 1000000 →
  Ev (fun k => spec_l02Neighbours.l0 k l ((ds.drop j).foldl (nbStep l) s) (wrap64 (i + 1))) r → Ev (fun k => spec_l02Neighbours.l1 k l s i ds (j : Nat)) r := by
 intro d
 induction d with
 | zero =>
  intro j hj s _ g
  obtain rfl : j = 4 := by omega
  rw [show ds.drop 4 = [] from List.drop_eq_nil_of_le (by omega)] at g
  refine Ev.step (fun k => ?_) g
  simp only [spec_l02Neighbours.l1]; rw [if_neg (by omega)]; rfl
 | succ d ih =>
  intro j hj s hs g
  have hjl : j < ds.length := by omega
  rw [drop_at ds j hjl, List.foldl_cons] at g
  have e : ∀ k, spec_l02Neighbours.l1 (k + 1) l s i ds (j : Nat) = (spec_l02Index.f k l (at_ ds j).f0 (at_ ds j).f1).bind fun t => if t < 0 then ((spec_l02Index.f k s (at_ ds j).f0 (at_ ds j).f1).bind fun t => if t < 0 then ((spec_l02Insert.f k s (at_ ds j).f0 (at_ ds j).f1).bind fun t => spec_l02Neighbours.l1 k l t i ds ((j + 1 : Nat) : Int)) else spec_l02Neighbours.l1 k l s i ds ((j + 1 : Nat) : Int)) else spec_l02Neighbours.l1 k l s i ds ((j + 1 : Nat) : Int) := by
   intro k
   simp only [spec_l02Neighbours.l1, rd_at]; rw [if_pos (by omega), if_pos (by omega), if_pos (by omega), w64 (x := (j : Int) + 1) (by omega) (by omega)]; rfl
  refine Ev.step e ?_
  refine Ev.bind (f := fun k t => if t < 0 then ((spec_l02Index.f k s (at_ ds j).f0 (at_ ds j).f1).bind fun t => if t < 0 then ((spec_l02Insert.f k s (at_ ds j).f0 (at_ ds j).f1).bind fun t => spec_l02Neighbours.l1 k l t i ds ((j + 1 : Nat) : Int)) else spec_l02Neighbours.l1 k l s i ds ((j + 1 : Nat) : Int)) else spec_l02Neighbours.l1 k l s i ds ((j + 1 : Nat) : Int)) (specIx_ev l _ _ (by omega)) ?_
  by_cases c1 : 0 ≤ ixF 0 l (at_ ds j).f0 (at_ ds j).f1
  ·have hh : hasC l (at_ ds j).f0 (at_ ds j).f1 = true := decide_eq_true c1
   simp only [if_neg (show ¬ ixF 0 l (at_ ds j).f0 (at_ ds j).f1 < 0 by omega)]
   have e2 : nbStep l s (at_ ds j) = s := by unfold nbStep; rw [if_pos hh]
   rw [e2] at g
   exact ih (j + 1) (by omega) s (by omega) g
  ·have hh : ¬ hasC l (at_ ds j).f0 (at_ ds j).f1 = true := by unfold hasC; rw [decide_eq_true_eq]; exact c1
   simp only [if_pos (show ixF 0 l (at_ ds j).f0 (at_ ds j).f1 < 0 by omega)]
   refine Ev.bind (f := fun k t => if t < 0 then ((spec_l02Insert.f k s (at_ ds j).f0 (at_ ds j).f1).bind fun t => spec_l02Neighbours.l1 k l t i ds ((j + 1 : Nat) : Int)) else spec_l02Neighbours.l1 k l s i ds ((j + 1 : Nat) : Int)) (specIx_ev s _ _ (by omega)) ?_
   by_cases c2 : 0 ≤ ixF 0 s (at_ ds j).f0 (at_ ds j).f1
   ·have h2 : hasC s (at_ ds j).f0 (at_ ds j).f1 = true := decide_eq_true c2
    simp only [if_neg (show ¬ ixF 0 s (at_ ds j).f0 (at_ ds j).f1 < 0 by omega)]
    have e2 : nbStep l s (at_ ds j) = s := by unfold nbStep; rw [if_neg hh, if_pos h2]
    rw [e2] at g
    exact ih (j + 1) (by omega) s (by omega) g
   ·have h2 : ¬ hasC s (at_ ds j).f0 (at_ ds j).f1 = true := by unfold hasC; rw [decide_eq_true_eq]; exact c2
    simp only [if_pos (show ixF 0 s (at_ ds j).f0 (at_ ds j).f1 < 0 by omega)]
    have e2 : nbStep l s (at_ ds j) = insP (at_ ds j) s := by unfold nbStep; rw [if_neg hh, if_neg h2]
    rw [e2] at g
    refine Ev.bind (f := fun k t => spec_l02Neighbours.l1 k l t i ds ((j + 1 : Nat) : Int)) (specIns_ev s _ _ (by omega)) ?_
    exact ih (j + 1) (by omega) _ (by rw [insP_length]; omega) g
theorem specNb_ev (l : List C) (hl : l.length ≤ 10000) (hw : Wi 1000000 l) : Ev (fun k => spec_l02Neighbours.f k l) (nbP l) := by
 unfold spec_l02Neighbours.f
 refine ev_foldE (fun k s j => spec_l02Neighbours.l0 k l s j) l (fun s c => (nbrs c).foldl (nbStep l) s) (fun j s => s.Pairwise ltC ∧ s.length ≤ 4 * j) ?_ _ 0 (by omega) [] ⟨List.Pairwise.nil, by simp⟩ ?_
 ·intro s j hj hm ⟨hs1, hs2⟩
  obtain ⟨a1, _, a3⟩ := nbFold_ok l (nbrs (at_ l j)) s hs1
  have a4 : (nbrs (at_ l j)).length = 4 := rfl
  refine ⟨⟨a1, by omega⟩, fun r hr => ?_⟩
  have w := hw _ hm
  refine Ev.step (f := fun k => spec_l02Neighbours.l1 k l s (j : Nat) (nbrs (at_ l j)) ((0 : Nat) : Int)) (fun k => ?_) ?_
  ·simp only [spec_l02Neighbours.l0, rd_at, spec_l02Around.f, Option.bind_some]
   rw [if_pos (by omega), if_pos (by omega), w64 (x := (at_ l j).f1 - 1) (by omega) (by omega), w64 (x := (at_ l j).f0 - 1) (by omega) (by omega), w64 (x := (at_ l j).f0 + 1) (by omega) (by omega), w64 (x := (at_ l j).f1 + 1) (by omega) (by omega)]; rfl
  ·refine nb_l1 l (by omega) _ _ rfl r 4 0 (by omega) s (by omega) ?_
   rw [w64 (by omega) (by omega)]
   exact hr
 ·intro hs
  refine Ev.step (fun k => ?_) (Ev.now _)
  simp only [spec_l02Neighbours.l0]; rw [if_neg (by omega)]; rfl
theorem least_ev (l : List C) (h : 0 < l.length) (hl : l.length ≤ 1048576) : Ev (fun k => spec_l02Least.f k l) (lo l) := by
 unfold spec_l02Least.f
 simp only [if_pos (show 0 < (l.length : Int) by omega)]
 have e0 : rd_T39 l 0 = at_ l 0 := rd_at l 0
 rw [e0]
 refine ev_fold (fun k (s : Int × Int) j => spec_l02Least.l0 k l s.1 s.2 j) l (fun s c => (mn s.1 c.f0, mn s.2 c.f1)) some _ (fun _ _ => True) ?_ ?_ 1 (by omega) ((at_ l 0).f0, (at_ l 0).f1) trivial ?_
 ·intro k s j hj hm _
  refine ⟨?_, trivial⟩
  simp only [spec_l02Least.l0, rd_at]; rw [if_pos (by omega), if_pos (by omega), w64 (x := (j : Int) + 1) (by omega) (by omega)]; rfl
 ·intro k s _
  simp only [spec_l02Least.l0]; rw [if_neg (by omega)]
 ·rw [foldl_pair (fun s c => mn s c.f0) (fun s c => mn s c.f1), lo_drop l h]; rfl
theorem specMove_ev (l : List C) (a b : Int) (hl : l.length ≤ 1048576) : Ev (fun k => spec_l02Move.f k l a b) (movL a b l) := by
 unfold spec_l02Move.f
 refine ev_fold (fun k (s : List C) j => spec_l02Move.l0 k l a b s j) l (fun s c => s ++ [movC a b c]) some _ (fun j s => s.length = j) ?_ ?_ 0 (by omega) [] rfl ?_
 ·intro k s j hj hm hs
  refine ⟨?_, by simp [hs]⟩
  simp only [spec_l02Move.l0, rd_at]; rw [if_pos (by omega), if_pos (by omega), if_pos (by omega), w64 (x := (j : Int) + 1) (by omega) (by omega)]; rfl
 ·intro k s _
  simp only [spec_l02Move.l0]; rw [if_neg (by omega)]
 ·rw [List.drop_zero, foldl_append_map]; rfl
theorem specNorm_ev (l : List C) (h : 0 < l.length) (hl : l.length ≤ 1048576) : Ev (fun k => spec_l02Normal.f k l) (normL l) := by
 obtain ⟨K, h1, h2⟩ := ev2 (least_ev l h hl) (specMove_ev l (wrap64 (-(lo l).1)) (wrap64 (-(lo l).2)) hl)
 refine ⟨K, fun k hk => ?_⟩
 obtain ⟨n, rfl⟩ : ∃ n, k = K + n := ⟨k - K, by omega⟩
 simp only [spec_l02Normal.f, h1, h2, Option.bind_some]; rfl
theorem insP_wi {b : Int} {d : C} {l : List C} (h : Wi b l) (hd : -b ≤ d.f0 ∧ d.f0 ≤ b ∧ -b ≤ d.f1 ∧ d.f1 ≤ b) : Wi b (insP d l) := by
 intro c hc
 rcases List.mem_cons.1 ((insP_perm d l).mem_iff.1 hc) with rfl | hc
 ·exact hd
 ·exact h c hc
theorem wi_mono {a b : Int} {l : List C} (h : Wi a l) (hab : a ≤ b) : Wi b l := fun c hc => by have := h c hc; omega
theorem movL_wi {a b : Int} {l : List C} (h : Wi a l) (x y : Int) (hx : -b ≤ x ∧ x ≤ b) (hy : -b ≤ y ∧ y ≤ b) (ha : a ≤ 100000000) (hb : b ≤ 100000000) : Wi (a + b) (movL x y l) := by
 intro c hc
 obtain ⟨d, hd, rfl⟩ := List.mem_map.1 hc
 have := h d hd
 unfold movC
 rw [w64 (by omega) (by omega), w64 (by omega) (by omega)]
 simp only []
 omega
theorem drawPoly_loop {c : List Int} : ∀ (d : Nat) (l : List C) (b : Int) (i s : Int), d ≤ 20 → 0 < l.length → l.length + d ≤ 100 → 0 ≤ b → b + d ≤ 1000 → Wi b l → Src c i s →
  ∃ r i' s', Ev (fun k => spec_l02DrawPoly.l0 k l (d : Nat) c i s) (r, i', s') ∧ Src c i' s' ∧ r.length = l.length + d ∧ Wi (2 * (b + d)) r := by
 intro d
 induction d with
 | zero =>
  intro l b i s _ h0 h1 hb0 hb h h'
  obtain ⟨c0, hc0, e0⟩ := lo_mem0 h0
  obtain ⟨c1, hc1, e1⟩ := lo_mem1 h0
  have w0 := h c0 hc0
  have w1 := h c1 hc1
  refine ⟨normL l, i, s, ?_, h', by rw [normL_length]; rfl, ?_⟩
  ·refine Ev.step (f := fun k => (spec_l02Normal.f k l).bind fun t350 => (some (t350, i, s))) (fun k => ?_) ?_
   ·simp only [spec_l02DrawPoly.l0]; rw [if_neg (by omega)]
   ·exact Ev.bind (f := fun k t350 => some (t350, i, s)) (specNorm_ev l h0 (by omega)) (Ev.now _)
  ·have e : wrap64 (-(lo l).1) = -(lo l).1 := w64 (by omega) (by omega)
   have e' : wrap64 (-(lo l).2) = -(lo l).2 := w64 (by omega) (by omega)
   unfold normL
   rw [e, e']
   exact wi_mono (movL_wi h _ _ (b := b) (by omega) (by omega) (by omega) (by omega)) (by omega)
 | succ d ih =>
  intro l b i s hd h0 h1 hb0 hb h h'
  have hnl := nbP_length l
  have hne := nbP_ne h0
  have hnw := nbP_wi h
  obtain ⟨q, i1, s1, e1, hs1, p1, q1, _⟩ := next_some h' ((nbP l).length : Int) (by omega)
  have q1 := q1 (by omega)
  obtain ⟨n, rfl⟩ := Int.eq_ofNat_of_zero_le p1
  have hn : n < (nbP l).length := by omega
  have hm := at_mem (nbP l) n hn
  have hw := insP_wi (wi_mono h (show b ≤ b + 1 by omega)) (hnw _ hm)
  obtain ⟨r, i', s', e, hs', hr, hrw⟩ := ih (insP (at_ (nbP l) n) l) (b + 1) i1 s1 (by omega) (by rw [insP_length]; omega) (by rw [insP_length]; omega) (by omega) (by omega) hw hs1
  refine ⟨r, i', s', ?_, hs', by rw [hr, insP_length]; omega, by rw [show b + ((d + 1 : Nat) : Int) = b + 1 + (d : Nat) from by omega]; exact hrw⟩
  refine Ev.step (f := fun k => (spec_l02Neighbours.f k l).bind fun t340 => ((spec_l01Next.f c i s (t340.length : Int)).bind fun bt343 => (if 0 ≤ bt343.1 then (if bt343.1 < (t340.length : Int) then ((spec_l02Insert.f k l ((rd_T39 t340 bt343.1).f0) ((rd_T39 t340 bt343.1).f1)).bind fun t347 => (spec_l02DrawPoly.l0 k t347 (d : Nat) c bt343.2.1 bt343.2.2)) else (none)) else (none)))) (fun k => ?_) ?_
  ·simp only [spec_l02DrawPoly.l0]
   rw [if_pos (by omega), w64 (x := ((d + 1 : Nat) : Int) - 1) (by omega) (by omega), show ((d + 1 : Nat) : Int) - 1 = (d : Nat) from by omega]
  ·refine Ev.bind (f := fun k t340 => ((spec_l01Next.f c i s (t340.length : Int)).bind fun bt343 => (if 0 ≤ bt343.1 then (if bt343.1 < (t340.length : Int) then ((spec_l02Insert.f k l ((rd_T39 t340 bt343.1).f0) ((rd_T39 t340 bt343.1).f1)).bind fun t347 => (spec_l02DrawPoly.l0 k t347 (d : Nat) c bt343.2.1 bt343.2.2)) else (none)) else (none)))) (specNb_ev l (by omega) (wi_mono h (by omega))) ?_
   simp only [e1, Option.bind_some, if_pos p1, if_pos q1, rd_at]
   exact Ev.bind (f := fun k t347 => spec_l02DrawPoly.l0 k t347 (d : Nat) c i1 s1) (specIns_ev l _ _ (by omega)) e
theorem drawPoly_some {c : List Int} {i s : Int} (h : Src c i s) (n : Int) (hn : 1 ≤ n) (hn2 : n ≤ 20) : ∃ r i' s', Ev (fun k => spec_l02DrawPoly.f k c i s n) (r, i', s') ∧ Src c i' s' ∧ 0 < r.length ∧ (r.length : Int) ≤ n ∧ Wi 1000 r := by
 obtain ⟨q, i1, s1, e1, hs1, p1, q1, _⟩ := next_some h n (by omega)
 have q1 := q1 hn
 obtain ⟨m, rfl⟩ := Int.eq_ofNat_of_zero_le p1
 obtain ⟨r, i', s', e, hs', hr, hw⟩ := drawPoly_loop m [⟨0, 0⟩] 0 i1 s1 (by omega) (by simp) (by simp; omega) (by omega) (by omega) (fun c hc => by simp at hc; rw [hc]; simp) hs1
 refine ⟨r, i', s', ?_, hs', by rw [hr]; simp; omega, by rw [hr]; simp; omega, wi_mono hw (by omega)⟩
 unfold spec_l02DrawPoly.f
 simp only [e1, Option.bind_some]
 exact e
theorem draw_row {c : List Int} : ∀ (d : Nat) (l : List C) (i s : Int), l.length + d = 42 → Wi 50 l → Src c i s →
  ∃ r i' s', Ev (fun k => spec_l02Draw.l0 k l (l.length : Int) c i s) (r, i', s') ∧ Src c i' s' ∧ r.length ≤ 42 ∧ Wi 50 r := by
 intro d
 induction d with
 | zero =>
  intro l i s hl hw h
  obtain ⟨q, i1, s1, e1, hs1, p1, q1, _⟩ := next_some h 2 (by omega)
  have q1 := q1 (by omega)
  refine ⟨l, i1, s1, Ev.step (fun k => ?_) (Ev.now _), hs1, by omega, hw⟩
  simp only [spec_l02Draw.l0, e1, Option.bind_some]
  rw [w64 (by omega) (by omega), if_neg (by omega)]
 | succ d ih =>
  intro l i s hl hw h
  obtain ⟨q, i1, s1, e1, hs1, p1, q1, _⟩ := next_some h 2 (by omega)
  have q1 := q1 (by omega)
  by_cases c1 : (l.length : Int) < 40 + q
  ·obtain ⟨r, i', s', e, hs', hr, hrw⟩ := ih (l ++ [⟨(l.length : Int), 0⟩]) i1 s1 (by simp; omega) (fun c hc => by
    rcases List.mem_append.1 hc with hc | hc
    ·exact hw c hc
    ·simp only [List.mem_singleton] at hc; rw [hc]; simp only []; omega) hs1
   refine ⟨r, i', s', Ev.step (fun k => ?_) e, hs', hr, hrw⟩
   simp only [spec_l02Draw.l0, e1, Option.bind_some]
   rw [w64 (x := 40 + q) (by omega) (by omega), if_pos c1, if_pos (by omega), w64 (x := (l.length : Int) + 1) (by omega) (by omega), List.length_append]; rfl
  ·refine ⟨l, i1, s1, Ev.step (fun k => ?_) (Ev.now _), hs1, by omega, hw⟩
   simp only [spec_l02Draw.l0, e1, Option.bind_some]
   rw [w64 (by omega) (by omega), if_neg c1]
theorem at_wi {b : Int} {l : List C} (h : Wi b l) {j : Nat} (hj : j < l.length) : -b ≤ (at_ l j).f0 ∧ (at_ l j).f0 ≤ b ∧ -b ≤ (at_ l j).f1 ∧ (at_ l j).f1 ≤ b := h _ (at_mem l j hj)
theorem sortP_wi {b : Int} {l : List C} (h : Wi b l) : Wi b (sortP l) := fun c hc => h c (mem_sortP.1 hc)
theorem snoc_wi {b : Int} {l : List C} (h : Wi b l) {d : C} (hd : -b ≤ d.f0 ∧ d.f0 ≤ b ∧ -b ≤ d.f1 ∧ d.f1 ≤ b) : Wi b (l ++ [d]) := by
 intro c hc
 rcases List.mem_append.1 hc with hc | hc
 ·exact h c hc
 ·simp only [List.mem_singleton] at hc; rw [hc]; exact hd
theorem draw_some {c : List Int} {i s : Int} (h : Src c i s) : ∃ r i' s', Ev (fun k => spec_l02Draw.f k c i s) (r, i', s') ∧ Src c i' s' ∧ r.length ≤ 50 ∧ Wi 2000 r := by
 obtain ⟨l0, i0, s0, e0, h0, hl0, hl1, hw0⟩ := drawPoly_some h 8 (by omega) (by omega)
 obtain ⟨a, i1, s1, e1, h1, pa, qa, _⟩ := next_some h0 9 (by omega)
 have qa := qa (by omega)
 obtain ⟨b, i2, s2, e2, h2, pb, qb, _⟩ := next_some h1 9 (by omega)
 have qb := qb (by omega)
 have ea : wrap64 (a - 4) = a - 4 := w64 (by omega) (by omega)
 have eb : wrap64 (b - 4) = b - 4 := w64 (by omega) (by omega)
 obtain ⟨l, hldef⟩ : ∃ l, l = movL (a - 4) (b - 4) l0 := ⟨_, rfl⟩
 have hlen : l.length = l0.length := by rw [hldef, movL_length]
 have hw : Wi 1010 l := by rw [hldef]; exact wi_mono (movL_wi hw0 _ _ (b := 10) (by omega) (by omega) (by omega) (by omega)) (by omega)
 have em : Ev (fun k => spec_l02Move.f k l0 (a - 4) (b - 4)) l := by rw [hldef]; exact specMove_ev l0 _ _ (by omega)
 obtain ⟨n, i3, s3, e3, h3, pn, qn, _⟩ := next_some h2 (l.length : Int) (by omega)
 have qn := qn (by omega)
 obtain ⟨m, rfl⟩ := Int.eq_ofNat_of_zero_le pn
 obtain ⟨z, i4, s4, e4, h4, pz, qz, _⟩ := next_some h3 24 (by omega)
 have aw := at_wi hw (show m < l.length by omega)
 have aw0 := at_wi hw (show 0 < l.length by omega)
 have awl := at_wi hw (show l.length - 1 < l.length by omega)
 have fin : ∀ (R : List C × Int × Int), (Ev (fun k => if z = 0 then ((some (([(-100), 100, 101] : List Int) : List Int)).bind fun y373 => ((spec_l01Next.f c i4 s4 3).bind fun bt376 => (if 0 ≤ bt376.1 then (if bt376.1 < (y373.length : Int) then (if 0 ≤ ((m : Nat) : Int) then (if ((m : Nat) : Int) < (l.length : Int) then ((spec_l02Sort.f k (l.set (((m : Nat) : Int)).toNat (⟨rd y373 bt376.1, (rd_T39 l (m : Nat)).f1⟩ : C))).bind fun t381 => (some (t381, bt376.2.1, bt376.2.2))) else (none)) else (none)) else (none)) else (none)))) else (if z = 1 then (if 0 ≤ ((m : Nat) : Int) then (if ((m : Nat) : Int) < (l.length : Int) then (if l.length < 8796093022208 then (some ((l ++ [(⟨(rd_T39 l (m : Nat)).f0, (rd_T39 l (m : Nat)).f1⟩ : C)]), i4, s4)) else (none)) else (none)) else (none)) else (if z = 2 then (some (([] : List C), i4, s4)) else (if z = 3 then (spec_l02Draw.l0 k (([] : List C)) 0 c i4 s4) else (if z = 4 then (if 0 < (l.length : Int) then (if 0 ≤ (wrap64 ((l.length : Int) - 1)) then (if (wrap64 ((l.length : Int) - 1)) < (l.length : Int) then (if l.length < 8796093022208 then (some ((l ++ [(⟨wrap64 (((rd_T39 l 0).f0) + 3), wrap64 (((rd_T39 l (wrap64 ((l.length : Int) - 1))).f1) + 2)⟩ : C)]), i4, s4)) else (none)) else (none)) else (none)) else (none)) else (if z = 5 then (if 0 < (l.length : Int) then (if 0 ≤ (wrap64 ((l.length : Int) - 1)) then (if (wrap64 ((l.length : Int) - 1)) < (l.length : Int) then (if l.length < 8796093022208 then (some ((l ++ [(⟨wrap64 (((rd_T39 l 0).f0) + 3), wrap64 (((rd_T39 l (wrap64 ((l.length : Int) - 1))).f1) + 2)⟩ : C)]), i4, s4)) else (none)) else (none)) else (none)) else (none)) else (some (l, i4, s4)))))))) R) → Ev (fun k => spec_l02Draw.f k c i s) R := by
  intro R hR
  unfold spec_l02Draw.f
  refine Ev.bind (f := fun k (bt353 : List C × Int × Int) => _) e0 ?_
  simp only [e1, e2, Option.bind_some, ea, eb]
  refine Ev.bind (f := fun k (t364 : List C) => _) em ?_
  simp only [e3, e4, Option.bind_some]
  exact hR
 have ext3 : (rd_T39 l 0) = at_ l 0 := rd_at l 0
 have el : wrap64 ((l.length : Int) - 1) = ((l.length - 1 : Nat) : Int) := by rw [w64 (by omega) (by omega)]; omega
 have tail : ∃ r, (if 0 < (l.length : Int) then (if 0 ≤ (wrap64 ((l.length : Int) - 1)) then (if (wrap64 ((l.length : Int) - 1)) < (l.length : Int) then (if l.length < 8796093022208 then (some ((l ++ [(⟨wrap64 (((rd_T39 l 0).f0) + 3), wrap64 (((rd_T39 l (wrap64 ((l.length : Int) - 1))).f1) + 2)⟩ : C)]), i4, s4)) else (none)) else (none)) else (none)) else (none)) = some (r, i4, s4) ∧ r.length ≤ 50 ∧ Wi 2000 r := by
  rw [el, ext3, rd_at, if_pos (by omega), if_pos (by omega), if_pos (by omega), if_pos (by omega)]
  refine ⟨_, rfl, by simp; omega, snoc_wi (wi_mono hw (by omega)) ?_⟩
  rw [w64 (by omega) (by omega), w64 (by omega) (by omega)]
  simp only []
  omega
 by_cases z0 : z = 0
 ·obtain ⟨q, i5, s5, e5, h5, pq, qq, _⟩ := next_some h4 3 (by omega)
  have qq := qq (by omega)
  have hv : -100 ≤ rd [(-100), 100, 101] q ∧ rd [(-100), 100, 101] q ≤ 101 := by
   have : q = 0 ∨ q = 1 ∨ q = 2 := by omega
   rcases this with rfl | rfl | rfl <;> decide
  have hset : Wi 1010 (l.set m ⟨rd [(-100), 100, 101] q, (at_ l m).f1⟩) := by
   intro c hc
   rcases List.mem_or_eq_of_mem_set hc with hc | rfl
   ·exact hw c hc
   ·simp only []; omega
  refine ⟨sortP (l.set m ⟨rd [(-100), 100, 101] q, (at_ l m).f1⟩), i5, s5, fin _ ?_, h5, by rw [sortP_length, List.length_set]; omega, wi_mono (sortP_wi hset) (by omega)⟩
  simp only [if_pos z0, Option.bind_some, e5, if_pos pq, rd_at, Int.toNat_natCast, if_pos (show (0 : Int) ≤ ((m : Nat) : Int) by omega), if_pos (show ((m : Nat) : Int) < (l.length : Int) by omega), if_pos (show q < (([(-100), 100, 101] : List Int).length : Int) from qq)]
  exact Ev.bind (f := fun k t381 => some (t381, i5, s5)) (specSort_ev _ (by rw [List.length_set]; omega)) (Ev.now _)
 ·by_cases z1 : z = 1
  ·refine ⟨l ++ [at_ l m], i4, s4, fin _ ?_, h4, by simp; omega, wi_mono (snoc_wi hw aw) (by omega)⟩
   simp only [if_neg z0, if_pos z1, rd_at, if_pos (show (0 : Int) ≤ ((m : Nat) : Int) by omega), if_pos (show ((m : Nat) : Int) < (l.length : Int) by omega), if_pos (show l.length < 8796093022208 by omega)]
   exact Ev.now _
  ·by_cases z2 : z = 2
   ·refine ⟨[], i4, s4, fin _ ?_, h4, by simp, fun c hc => by cases hc⟩
    simp only [if_neg z0, if_neg z1, if_pos z2]; exact Ev.now _
   ·by_cases z3 : z = 3
    ·obtain ⟨r, i', s', e, hs', hr, hrw⟩ := draw_row (c := c) 42 [] i4 s4 rfl (fun c hc => by cases hc) h4
     refine ⟨r, i', s', fin _ ?_, hs', by omega, wi_mono hrw (by omega)⟩
     simp only [if_neg z0, if_neg z1, if_neg z2, if_pos z3]; exact e
    ·obtain ⟨r, er, hr, hrw⟩ := tail
     by_cases z4 : z = 4
     ·refine ⟨r, i4, s4, fin _ ?_, h4, hr, hrw⟩
      simp only [if_neg z0, if_neg z1, if_neg z2, if_neg z3, if_pos z4, er]; exact Ev.now _
     ·by_cases z5 : z = 5
      ·refine ⟨r, i4, s4, fin _ ?_, h4, hr, hrw⟩
       simp only [if_neg z0, if_neg z1, if_neg z2, if_neg z3, if_neg z4, if_pos z5, er]; exact Ev.now _
      ·refine ⟨l, i4, s4, fin _ ?_, h4, by omega, wi_mono hw (by omega)⟩
       simp only [if_neg z0, if_neg z1, if_neg z2, if_neg z3, if_neg z4, if_neg z5]; exact Ev.now _
-- USES Base
theorem likeCells_loop (l : List C) (hl : l.length ≤ 140737488355328) : ∀ d j : Nat, j + d = l.length → Ev (fun k => laws_likeCells.l0 k l l (j : Nat)) true := by
 intro d
 induction d with
 | zero =>
  intro j hj
  refine Ev.step (fun k => ?_) (Ev.now _)
  simp only [laws_likeCells.l0]; rw [if_neg (by omega)]
 | succ d ih =>
  intro j hj
  refine Ev.step (fun k => ?_) (ih (j + 1) (by omega))
  simp only [laws_likeCells.l0, beq_self_eq_true, Bool.not_true, Bool.or_false, Bool.false_eq_true, if_false]; rw [if_pos (by omega), if_pos (by omega), if_pos (by omega), w64 (by omega) (by omega)]; rfl
theorem likeCells_ev (l : List C) (hl : l.length ≤ 140737488355328) : Ev (fun k => laws_likeCells.f k l l) true := by
 unfold laws_likeCells.f
 simp only [if_true]
 exact likeCells_loop l hl l.length 0 (by omega)
theorem corner_ev (l : List C) (h : 0 < l.length) (hl : l.length ≤ 1048576) : Ev (fun k => impl_corner.f k l) (lo l) := by
 unfold impl_corner.f
 simp only [if_pos (show 0 < (l.length : Int) by omega)]
 have e0 : rd_T39 l 0 = at_ l 0 := rd_at l 0
 rw [e0]
 refine ev_fold (fun k (s : Int × Int) j => impl_corner.l0 k l (l.length : Int) j s.1 s.2) l (fun s c => (mn s.1 c.f0, mn s.2 c.f1)) some _ (fun _ _ => True) ?_ ?_ 0 (by omega) ((at_ l 0).f0, (at_ l 0).f1) trivial ?_
 ·intro k s j hj hm _
  refine ⟨?_, trivial⟩
  simp only [impl_corner.l0, rd_at]; rw [if_pos (by omega), if_pos (by omega), if_pos (by omega), w64 (x := (j : Int) + 1) (by omega) (by omega)]; rfl
 ·intro k s _
  simp only [impl_corner.l0]; rw [if_neg (by omega)]
 ·rw [List.drop_zero, foldl_pair (fun s c => mn s c.f0) (fun s c => mn s c.f1)]; rfl
theorem implMove_ev (l : List C) (a b : Int) (hl : l.length ≤ 1048576) : Ev (fun k => impl_moved.f k l a b) (movL a b l) := by
 unfold impl_moved.f
 simp only [if_pos (show 0 ≤ (l.length : Int) by omega), if_pos (show ((l.length : Int)).toNat ≤ 17592186044416 by omega)]
 refine ev_fold (fun k (s : List C) j => impl_moved.l0 k a b s l (l.length : Int) j) l (fun s c => s ++ [movC a b c]) some _ (fun j s => s.length = j) ?_ ?_ 0 (by omega) [] rfl ?_
 ·intro k s j hj hm hs
  refine ⟨?_, by simp [hs]⟩
  simp only [impl_moved.l0, rd_at]; rw [if_pos (by omega), if_pos (by omega), if_pos (by omega), if_pos (by omega), w64 (x := (j : Int) + 1) (by omega) (by omega)]; rfl
 ·intro k s _
  simp only [impl_moved.l0]; rw [if_neg (by omega)]
 ·rw [List.drop_zero, foldl_append_map]; rfl
theorem implNorm_ev (l : List C) (h : 0 < l.length) (hl : l.length ≤ 1048576) : Ev (fun k => impl_normal.f k l) (normL l) := by
 obtain ⟨K, h1, h2⟩ := ev2 (corner_ev l h hl) (implMove_ev l (wrap64 (-(lo l).1)) (wrap64 (-(lo l).2)) hl)
 refine ⟨K, fun k hk => ?_⟩
 obtain ⟨n, rfl⟩ : ∃ n, k = K + n := ⟨k - K, by omega⟩
 simp only [impl_normal.f, h1, h2, Option.bind_some]; rfl
noncomputable def nfP (l : List C) : List C × Int := if shB l = true then (if shB (normL l) = true then (normL l, 0) else ([], 3)) else ([], 1)
theorem implNf_ev (l : List C) (hl : l.length ≤ 1048576) : Ev (fun k => impl_NormalForm.f k l) (nfP l) := by
 rcases sh_cases l with ⟨hs, hb⟩ | ⟨hs, hb⟩
 ·obtain ⟨K, h1, h2, h3⟩ := ev3 (implShape_ev l hl) (implNorm_ev l hs.1 hl) (implShape_ev (normL l) (by rw [normL_length]; exact hl))
  refine ⟨K, fun k hk => ?_⟩
  obtain ⟨n, rfl⟩ : ∃ n, k = K + n := ⟨k - K, by omega⟩
  unfold nfP
  simp only [impl_NormalForm.f, h1, h2, h3, hb, Option.bind_some, if_true]
  cases shB (normL l) <;> simp
 ·obtain ⟨K, h1⟩ := evup (implShape_ev l hl)
  refine ⟨K, fun k hk => ?_⟩
  obtain ⟨n, rfl⟩ : ∃ n, k = K + n := ⟨k - K, by omega⟩
  unfold nfP
  simp only [impl_NormalForm.f, h1, hb, Option.bind_some, Bool.false_eq_true, if_false]
def cmpL : List C → List C → Int
 | a :: r, b :: s => if ltC a b then -1 else if ltC b a then 1 else cmpL r s
 | _, _ => 0
def cmpS (l m : List C) : Int := if l.length = m.length then cmpL l m else if l.length < m.length then -1 else 1
theorem specCmp_loop (l m : List C) (hl : l.length ≤ 1048576) (hm : l.length = m.length) : ∀ d j : Nat, j + d = l.length → Ev (fun k => spec_CompareShapes.l0 k l m (j : Nat)) (cmpL (l.drop j) (m.drop j)) := by
 intro d
 induction d with
 | zero =>
  intro j hj
  obtain rfl : j = l.length := by omega
  rw [List.drop_length]
  refine Ev.step (fun k => ?_) (Ev.now _)
  simp only [spec_CompareShapes.l0, cmpL]; rw [if_neg (by omega)]
 | succ d ih =>
  intro j hj
  rw [drop_at l j (by omega), drop_at m j (by omega)]
  have e : ∀ k, spec_CompareShapes.l0 (k + 1) l m (j : Nat) = if ltC (at_ l j) (at_ m j) then some (-1) else if ltC (at_ m j) (at_ l j) then some 1 else spec_CompareShapes.l0 k l m ((j + 1 : Nat) : Int) := by
   intro k
   simp only [spec_CompareShapes.l0, rd_at, less_eq, Option.bind_some, decide_eq_true_eq]
   rw [if_pos (by omega), if_pos (by omega), if_pos (by omega), w64 (by omega) (by omega)]; rfl
  by_cases c1 : ltC (at_ l j) (at_ m j)
  ·refine Ev.step (fun k => (e k).trans (if_pos c1)) ?_
   simp only [cmpL, if_pos c1]; exact Ev.now _
  ·by_cases c2 : ltC (at_ m j) (at_ l j)
   ·refine Ev.step (fun k => (e k).trans ((if_neg c1).trans (if_pos c2))) ?_
    simp only [cmpL, if_neg c1, if_pos c2]; exact Ev.now _
   ·refine Ev.step (fun k => (e k).trans ((if_neg c1).trans (if_neg c2))) ?_
    simp only [cmpL, if_neg c1, if_neg c2]; exact ih (j + 1) (by omega)
theorem specCmp_ev (l m : List C) (hl : l.length ≤ 1048576) : Ev (fun k => spec_CompareShapes.f k l m) (cmpS l m) := by
 unfold spec_CompareShapes.f cmpS
 by_cases h : l.length = m.length
 ·simp only [if_pos h, if_pos (show (l.length : Int) = (m.length : Int) by omega)]
  exact specCmp_loop l m hl h l.length 0 (by omega)
 ·simp only [if_neg h, if_neg (show ¬ (l.length : Int) = (m.length : Int) by omega)]
  by_cases g : l.length < m.length
  ·simp only [if_pos g, if_pos (show (l.length : Int) < (m.length : Int) by omega)]; exact Ev.now _
  ·simp only [if_neg g, if_neg (show ¬ (l.length : Int) < (m.length : Int) by omega)]; exact Ev.now _
theorem cmpL_range (a : List C) : ∀ b, cmpL a b = -1 ∨ cmpL a b = 0 ∨ cmpL a b = 1 := by
 induction a with
 | nil => intro b; exact Or.inr (Or.inl rfl)
 | cons x r ih =>
  intro b
  cases b with
  | nil => exact Or.inr (Or.inl rfl)
  | cons y s =>
   simp only [cmpL]
   split
   ·exact Or.inl rfl
   ·split
    ·exact Or.inr (Or.inr rfl)
    ·exact ih s
theorem cmpL_zero (a : List C) : ∀ b, a.length = b.length → (cmpL a b = 0 ↔ a = b) := by
 induction a with
 | nil =>
  intro b h
  have : b = [] := List.length_eq_zero_iff.1 (by simpa using h.symm)
  rw [this]; exact ⟨fun _ => rfl, fun _ => rfl⟩
 | cons x r ih =>
  intro b h
  cases b with
  | nil => simp at h
  | cons y s =>
   simp only [cmpL]
   have hl : r.length = s.length := by simpa using h
   by_cases c1 : ltC x y
   ·rw [if_pos c1]
    exact ⟨fun g => by omega, fun g => by rw [(List.cons.inj g).1] at c1; exact absurd c1 (fun h => ltC_irrefl h)⟩
   ·rw [if_neg c1]
    by_cases c2 : ltC y x
    ·rw [if_pos c2]
     exact ⟨fun g => by omega, fun g => by rw [(List.cons.inj g).1] at c2; exact absurd c2 (fun h => ltC_irrefl h)⟩
    ·rw [if_neg c2, ih s hl]
     have e : x = y := leC_anti (show leC x y from c2) (show leC y x from c1)
     rw [e]
     exact ⟨fun g => by rw [g], fun g => (List.cons.inj g).2⟩
theorem cmpL_neg (a : List C) : ∀ b, cmpL b a = -cmpL a b := by
 induction a with
 | nil => intro b; cases b <;> rfl
 | cons x r ih =>
  intro b
  cases b with
  | nil => rfl
  | cons y s =>
   simp only [cmpL]
   by_cases c1 : ltC x y
   ·have c2 : ¬ ltC y x := fun g => ltC_irrefl (ltC_trans c1 g)
    rw [if_pos c1, if_neg c2, if_pos c1]; rfl
   ·rw [if_neg c1]
    by_cases c2 : ltC y x
    ·rw [if_pos c2, if_neg c1, if_pos c2]
    ·rw [if_neg c2, if_neg c2, if_neg c1]; exact ih s
theorem cmpL_trans (a : List C) : ∀ b c, a.length = b.length → b.length = c.length → cmpL a b = -1 → cmpL b c = -1 → cmpL a c = -1 := by
 induction a with
 | nil => intro b c _ _ h; simp [cmpL] at h
 | cons x r ih =>
  intro b c h1 h2 g1 g2
  cases b with
  | nil => simp at h1
  | cons y s =>
   cases c with
   | nil => simp at h2
   | cons z t =>
    simp only [cmpL] at g1 g2 ⊢
    by_cases c1 : ltC x y
    ·by_cases c2 : ltC y z
     ·rw [if_pos (ltC_trans c1 c2)]
     ·rw [if_neg c2] at g2
      by_cases c3 : ltC z y
      ·rw [if_pos c3] at g2; omega
      ·have e : y = z := leC_anti (show leC y z from c3) (show leC z y from c2)
       rw [← e, if_pos c1]
    ·rw [if_neg c1] at g1
     by_cases c3 : ltC y x
     ·rw [if_pos c3] at g1; omega
     ·have e : x = y := leC_anti (show leC x y from c3) (show leC y x from c1)
      rw [if_neg c3] at g1
      rw [e]
      by_cases c2 : ltC y z
      ·rw [if_pos c2]
      ·rw [if_neg c2] at g2 ⊢
       by_cases c4 : ltC z y
       ·rw [if_pos c4] at g2; omega
       ·rw [if_neg c4] at g2 ⊢
        exact ih s t (by simpa using h1) (by simpa using h2) g1 g2
theorem cmpS_range (a b : List C) : cmpS a b = -1 ∨ cmpS a b = 0 ∨ cmpS a b = 1 := by
 unfold cmpS
 split
 ·exact cmpL_range a b
 ·split
  ·exact Or.inl rfl
  ·exact Or.inr (Or.inr rfl)
theorem cmpS_zero (a b : List C) : cmpS a b = 0 ↔ a = b := by
 unfold cmpS
 by_cases h : a.length = b.length
 ·rw [if_pos h]; exact cmpL_zero a b h
 ·rw [if_neg h]
  refine ⟨fun g => ?_, fun g => absurd (by rw [g]) h⟩
  split at g <;> omega
theorem cmpS_neg (a b : List C) : cmpS b a = -cmpS a b := by
 unfold cmpS
 by_cases h : a.length = b.length
 ·rw [if_pos h, if_pos h.symm]; exact cmpL_neg a b
 ·rw [if_neg h, if_neg (fun g => h g.symm)]
  by_cases g : a.length < b.length
  ·rw [if_pos g, if_neg (by omega)]; rfl
  ·rw [if_neg g, if_pos (by omega)]
def ltS (a b : List C) : Prop := cmpS a b = -1
theorem ltS_trans {a b c : List C} (h : ltS a b) (g : ltS b c) : ltS a c := by
 unfold ltS cmpS at *
 by_cases h1 : a.length = b.length
 ·by_cases h2 : b.length = c.length
  ·rw [if_pos h1] at h; rw [if_pos h2] at g; rw [if_pos (h1.trans h2)]
   exact cmpL_trans a b c h1 h2 h g
  ·rw [if_neg h2] at g
   rw [if_neg (by omega)]
   by_cases g2 : b.length < c.length
   ·rw [if_pos (by omega)]
   ·rw [if_neg g2] at g; omega
 ·rw [if_neg h1] at h
  by_cases g1 : a.length < b.length
  ·by_cases h2 : b.length = c.length
   ·rw [if_neg (by omega), if_pos (by omega)]
   ·rw [if_neg h2] at g
    by_cases g2 : b.length < c.length
    ·rw [if_neg (by omega), if_pos (by omega)]
    ·rw [if_neg g2] at g; omega
  ·rw [if_neg g1] at h; omega
theorem ltS_irrefl {a : List C} (h : ltS a a) : False := by
 unfold ltS at h
 rw [(cmpS_zero a a).2 rfl] at h; omega
theorem ltS_tri (a b : List C) : ltS a b ∨ a = b ∨ ltS b a := by
 rcases cmpS_range a b with h | h | h
 ·exact Or.inl h
 ·exact Or.inr (Or.inl ((cmpS_zero a b).1 h))
 ·refine Or.inr (Or.inr ?_)
  unfold ltS; rw [cmpS_neg, h]
theorem cmpS_pos (a b : List C) : cmpS a b = 1 ↔ ltS b a := by
 unfold ltS; rw [cmpS_neg a b]; omega
theorem ltS_unique {l m : List (List C)} (hl : l.Pairwise ltS) (hm : m.Pairwise ltS) (h : ∀ s, s ∈ l ↔ s ∈ m) : l = m := by
 have n1 : l.Nodup := hl.imp fun h e => by rw [e] at h; exact ltS_irrefl h
 have n2 : m.Nodup := hm.imp fun h e => by rw [e] at h; exact ltS_irrefl h
 exact List.Perm.eq_of_pairwise (le := ltS) (fun a b _ _ h1 h2 => (ltS_irrefl (ltS_trans h1 h2)).elim) hl hm ((List.perm_ext_iff_of_nodup n1 n2).2 h)
def ro_ (l : List (List C)) (j : Nat) : List C := l.getD j []
theorem rd_ro (l : List (List C)) (j : Nat) : rd_L3 l (j : Int) = ro_ l j := by unfold rd_L3 ro_; rw [Int.toNat_natCast]
theorem ro_get (l : List (List C)) (j : Nat) (h : j < l.length) : ro_ l j = l[j] := by unfold ro_; rw [List.getD_eq_getElem?_getD, List.getElem?_eq_getElem h]; rfl
theorem ro_mem (l : List (List C)) (j : Nat) (h : j < l.length) : ro_ l j ∈ l := by rw [ro_get l j h]; exact List.getElem_mem h
theorem drop_ro (l : List (List C)) (j : Nat) (h : j < l.length) : l.drop j = ro_ l j :: l.drop (j + 1) := by rw [ro_get l j h, List.drop_eq_getElem_cons h]
theorem take_ro (l : List (List C)) (j : Nat) (h : j < l.length) : l.take (j + 1) = l.take j ++ [ro_ l j] := by rw [ro_get l j h, List.take_succ_eq_append_getElem h]
def insS (s : List C) : List (List C) → List (List C)
 | [] => [s]
 | x :: r => if cmpS s x = 0 then x :: r else if cmpS s x < 0 then s :: x :: r else x :: insS s r
theorem insS_mem (s t : List C) (l : List (List C)) : t ∈ insS s l ↔ t = s ∨ t ∈ l := by
 induction l with
 | nil => simp [insS]
 | cons x r ih =>
  unfold insS
  by_cases h : cmpS s x = 0
  ·rw [if_pos h]
   have e := (cmpS_zero s x).1 h
   constructor
   ·exact fun g => Or.inr g
   ·rintro (g | g)
    ·rw [g, e]; exact List.mem_cons_self
    ·exact g
  ·rw [if_neg h]
   by_cases g : cmpS s x < 0
   ·rw [if_pos g, List.mem_cons]
   ·rw [if_neg g, List.mem_cons, ih, List.mem_cons]
    constructor
    ·rintro (a | a | a)
     ·exact Or.inr (Or.inl a)
     ·exact Or.inl a
     ·exact Or.inr (Or.inr a)
    ·rintro (a | a | a)
     ·exact Or.inr (Or.inl a)
     ·exact Or.inl a
     ·exact Or.inr (Or.inr a)
theorem cmpS_neg_lt {a b : List C} (h : cmpS a b < 0) : ltS a b := by
 unfold ltS; rcases cmpS_range a b with g | g | g <;> omega
theorem insS_sorted (s : List C) (l : List (List C)) (h : l.Pairwise ltS) : (insS s l).Pairwise ltS := by
 induction l with
 | nil => exact List.pairwise_singleton _ _
 | cons x r ih =>
  obtain ⟨h1, h2⟩ := List.pairwise_cons.1 h
  unfold insS
  by_cases c : cmpS s x = 0
  ·rw [if_pos c]; exact h
  ·rw [if_neg c]
   by_cases g : cmpS s x < 0
   ·rw [if_pos g]
    refine List.pairwise_cons.2 ⟨fun t ht => ?_, h⟩
    have e := cmpS_neg_lt g
    rcases List.mem_cons.1 ht with rfl | ht
    ·exact e
    ·exact ltS_trans e (h1 t ht)
   ·rw [if_neg g]
    refine List.pairwise_cons.2 ⟨fun t ht => ?_, ih h2⟩
    rcases (insS_mem s t r).1 ht with rfl | ht
    ·exact (cmpS_pos t x).1 (by rcases cmpS_range t x with g1 | g1 | g1 <;> omega)
    ·exact h1 t ht
theorem insS_length (s : List C) (l : List (List C)) : (insS s l).length ≤ l.length + 1 := by
 induction l with
 | nil => simp [insS]
 | cons x r ih =>
  unfold insS
  repeat' split
  all_goals simp only [List.length_cons]; omega
theorem add_done (l : List (List C)) (s : List C) (hl : l.length ≤ 1000000) (hs : s.length ≤ 1048576) : ∀ d j : Nat, j + d = l.length → (∀ x ∈ l.drop j, ltS s x) → ∀ out : List (List C), out.length ≤ j + 1 → Ev (fun k => spec_l03Add.l0 k l s out true (j : Nat)) (out ++ l.drop j) := by
 intro d
 induction d with
 | zero =>
  intro j hj _ out ho
  obtain rfl : j = l.length := by omega
  rw [List.drop_length, List.append_nil]
  refine Ev.step (fun k => ?_) (Ev.now _)
  simp only [spec_l03Add.l0]; rw [if_neg (by omega), if_pos trivial]
 | succ d ih =>
  intro j hj hx out ho
  rw [drop_ro l j (by omega)] at hx ⊢
  have e1 := hx _ List.mem_cons_self
  unfold ltS at e1
  have g := ih (j + 1) (by omega) (fun x h => hx x (List.mem_cons_of_mem _ h)) (out ++ [ro_ l j]) (by rw [List.length_append, List.length_singleton]; omega)
  rw [List.append_assoc] at g
  refine Ev.step (f := fun k => (spec_CompareShapes.f k s (ro_ l j)).bind fun t => if t = 0 then some l else if t < 0 then spec_l03Add.l0 k l s (out ++ [ro_ l j]) true ((j + 1 : Nat) : Int) else spec_l03Add.l0 k l s (out ++ [ro_ l j]) true ((j + 1 : Nat) : Int)) (fun k => ?_) ?_
  ·simp only [spec_l03Add.l0, rd_ro, if_true]
   rw [if_pos (by omega), if_pos (by omega), if_pos (by omega), w64 (by omega) (by omega)]; rfl
  ·refine Ev.bind (f := fun k t => if t = 0 then some l else if t < 0 then spec_l03Add.l0 k l s (out ++ [ro_ l j]) true ((j + 1 : Nat) : Int) else spec_l03Add.l0 k l s (out ++ [ro_ l j]) true ((j + 1 : Nat) : Int)) (specCmp_ev s (ro_ l j) hs) ?_
   rw [e1]; simp only [if_neg (show ¬ (-1 : Int) = 0 by decide), if_pos (show (-1 : Int) < 0 by decide)]
   exact g
theorem add_open (l : List (List C)) (s : List C) (hp : l.Pairwise ltS) (hl : l.length ≤ 1000000) (hs : s.length ≤ 1048576) : ∀ d j : Nat, j + d = l.length → Ev (fun k => spec_l03Add.l0 k l s (l.take j) false (j : Nat)) (l.take j ++ insS s (l.drop j)) := by
 intro d
 induction d with
 | zero =>
  intro j hj
  obtain rfl : j = l.length := by omega
  rw [List.drop_length, List.take_length]
  refine Ev.step (fun k => ?_) (Ev.now _)
  simp only [spec_l03Add.l0, Bool.false_eq_true, if_false]; rw [if_neg (by omega), if_pos (by omega)]; rfl
 | succ d ih =>
  intro j hj
  have hd := drop_ro l j (by omega)
  have ht := take_ro l j (by omega)
  have hlt : (l.take j).length = j := by rw [List.length_take]; omega
  have hsrt := hp.sublist (List.drop_sublist j l)
  rw [hd] at hsrt ⊢
  obtain ⟨s1, s2⟩ := List.pairwise_cons.1 hsrt
  refine Ev.step (f := fun k => (spec_CompareShapes.f k s (ro_ l j)).bind fun t => if t = 0 then some l else if t < 0 then spec_l03Add.l0 k l s ((l.take j ++ [s]) ++ [ro_ l j]) true ((j + 1 : Nat) : Int) else spec_l03Add.l0 k l s (l.take (j + 1)) false ((j + 1 : Nat) : Int)) (fun k => ?_) ?_
  ·simp only [spec_l03Add.l0, rd_ro, Bool.false_eq_true, if_false, Option.bind_some]
   rw [if_pos (by omega), if_pos (by omega), if_pos (by omega), if_pos (by rw [List.length_append, List.length_singleton]; omega), if_pos (show (l.take j).length < 5864062014805 by omega), w64 (by omega) (by omega), ht]; rfl
  ·refine Ev.bind (f := fun k t => if t = 0 then some l else if t < 0 then spec_l03Add.l0 k l s ((l.take j ++ [s]) ++ [ro_ l j]) true ((j + 1 : Nat) : Int) else spec_l03Add.l0 k l s (l.take (j + 1)) false ((j + 1 : Nat) : Int)) (specCmp_ev s (ro_ l j) hs) ?_
   unfold insS
   by_cases c : cmpS s (ro_ l j) = 0
   ·simp only [if_pos c]
    rw [← hd, List.take_append_drop]; exact Ev.now _
   ·simp only [if_neg c]
    by_cases g : cmpS s (ro_ l j) < 0
    ·simp only [if_pos g]
     have h := add_done l s hl hs d (j + 1) (by omega) (fun x hx => ltS_trans (cmpS_neg_lt g) (s1 x hx)) ((l.take j ++ [s]) ++ [ro_ l j]) (by simp only [List.length_append, List.length_singleton, hlt]; omega)
     have e : l.take j ++ [s] ++ [ro_ l j] ++ l.drop (j + 1) = l.take j ++ s :: ro_ l j :: l.drop (j + 1) := by simp
     rw [e] at h; exact h
    ·simp only [if_neg g]
     have h := ih (j + 1) (by omega)
     rw [ht] at h ⊢
     have e : l.take j ++ [ro_ l j] ++ insS s (l.drop (j + 1)) = l.take j ++ ro_ l j :: insS s (l.drop (j + 1)) := by simp
     rw [e] at h; exact h
theorem add_ev (l : List (List C)) (s : List C) (hp : l.Pairwise ltS) (hl : l.length ≤ 1000000) (hs : s.length ≤ 1048576) : Ev (fun k => spec_l03Add.f k l s) (insS s l) := by
 have h := add_open l s hp hl hs l.length 0 (by omega)
 rw [List.take_zero, List.drop_zero, List.nil_append] at h
 exact h
def tidyP (l : List (List C)) : List (List C) := l.foldl (fun a s => insS s a) []
theorem tidyP_snoc (l : List (List C)) (s : List C) : tidyP (l ++ [s]) = insS s (tidyP l) := by unfold tidyP; rw [List.foldl_append]; rfl
theorem foldl_ins (l : List (List C)) : ∀ a : List (List C), a.Pairwise ltS → (l.foldl (fun a s => insS s a) a).Pairwise ltS ∧ (∀ t, t ∈ l.foldl (fun a s => insS s a) a ↔ t ∈ a ∨ t ∈ l) ∧ (l.foldl (fun a s => insS s a) a).length ≤ a.length + l.length := by
 induction l with
 | nil => intro a h; exact ⟨h, fun t => by simp, by simp⟩
 | cons s r ih =>
  intro a h
  obtain ⟨h1, h2, h3⟩ := ih (insS s a) (insS_sorted s a h)
  refine ⟨h1, fun t => ?_, ?_⟩
  ·rw [List.foldl_cons, h2, insS_mem, List.mem_cons]
   constructor
   ·rintro ((h | h) | h)
    ·exact Or.inr (Or.inl h)
    ·exact Or.inl h
    ·exact Or.inr (Or.inr h)
   ·rintro (h | h | h)
    ·exact Or.inl (Or.inr h)
    ·exact Or.inl (Or.inl h)
    ·exact Or.inr h
  ·have := insS_length s a
   rw [List.foldl_cons, List.length_cons]; omega
theorem tidyP_sorted (l : List (List C)) : (tidyP l).Pairwise ltS := (foldl_ins l [] List.Pairwise.nil).1
theorem tidyP_mem (l : List (List C)) (t : List C) : t ∈ tidyP l ↔ t ∈ l := by
 refine ((foldl_ins l [] List.Pairwise.nil).2.1 t).trans ?_
 simp
theorem tidyP_length (l : List (List C)) : (tidyP l).length ≤ l.length := by
 have h := (foldl_ins l [] List.Pairwise.nil).2.2
 rw [List.length_nil, Nat.zero_add] at h; exact h
theorem tidyP_unique {l m : List (List C)} (hm : m.Pairwise ltS) (h : ∀ t, t ∈ m ↔ t ∈ l) : m = tidyP l :=
 ltS_unique hm (tidyP_sorted l) fun t => (h t).trans (tidyP_mem l t).symm
theorem merge_sortP (l : List C) : l.mergeSort (fun x y => !ltbC_ y x) = sortP l := by
 have e : (fun x y : C => !ltbC_ y x) = fun x y => @decide (leC x y) (Classical.propDecidable _) := by
  funext x y
  by_cases h : ltC y x
  ·have h1 : ltbC_ y x = true := by unfold ltbC_; exact decide_eq_true h
   rw [h1]; exact (@decide_eq_false (leC x y) (Classical.propDecidable _) (fun g => g h)).symm
  ·have h1 : ltbC_ y x = false := by unfold ltbC_; exact decide_eq_false h
   rw [h1]; exact (@decide_eq_true (leC x y) (Classical.propDecidable _) h).symm
 refine sorted_unique ?_ (sortP_sorted l) ((List.mergeSort_perm _ _).trans (sortP_perm l).symm)
 rw [e]
 have h := List.pairwise_mergeSort (le := fun x y : C => @decide (leC x y) (Classical.propDecidable _)) (fun a b c h1 h2 => @decide_eq_true _ (Classical.propDecidable _) (leC_trans (@of_decide_eq_true _ (Classical.propDecidable _) h1) (@of_decide_eq_true _ (Classical.propDecidable _) h2)))
  (fun a b => by
   rcases leC_total a b with g | g
   ·rw [@decide_eq_true _ (Classical.propDecidable _) g]; rfl
   ·rw [@decide_eq_true _ (Classical.propDecidable (leC b a)) g, Bool.or_true]) l
 exact h.imp fun g => @of_decide_eq_true _ (Classical.propDecidable _) g
theorem implSort_eq (l : List C) (hl : l.length ≤ 1048576) : impl_sorted.f l = some (sortP l) := by
 unfold impl_sorted.f slices_Clone_Cell.f
 rw [if_pos (by omega)]
 simp only [Option.bind_some, slices_SortFunc_Cell.f]
 rw [if_pos (by omega), Option.bind_some, merge_sortP]
theorem implIx_loop (l : List C) (x y : Int) (hl : l.length ≤ 1048576) : ∀ d j : Nat, j + d = l.length → Ev (fun k => slices_Index_Cell.l0 k l (l.length : Int) (j : Nat) x y) (ixF j (l.drop j) x y) := by
 intro d
 induction d with
 | zero =>
  intro j hj
  obtain rfl : j = l.length := by omega
  rw [List.drop_length]
  refine Ev.step (fun k => ?_) (Ev.now _)
  simp only [slices_Index_Cell.l0, ixF]; rw [if_neg (by omega)]
 | succ d ih =>
  intro j hj
  rw [drop_at l j (by omega)]
  have e : ∀ k, slices_Index_Cell.l0 (k + 1) l (l.length : Int) (j : Nat) x y = if (at_ l j).f0 = x ∧ (at_ l j).f1 = y then some (j : Int) else slices_Index_Cell.l0 k l (l.length : Int) ((j + 1 : Nat) : Int) x y := by
   intro k
   simp only [slices_Index_Cell.l0, rd_at, Bool.and_eq_true, beq_iff_eq]
   rw [if_pos (by omega), if_pos (by omega), if_pos (by omega), w64 (by omega) (by omega)]
   by_cases c : (at_ l j).f0 = x ∧ (at_ l j).f1 = y
   ·rw [if_pos c, if_pos ⟨c.1.symm, c.2.symm⟩]
   ·rw [if_neg c, if_neg (fun g => c ⟨g.1.symm, g.2.symm⟩)]; rfl
  unfold ixF
  by_cases c : (at_ l j).f0 = x ∧ (at_ l j).f1 = y
  ·rw [if_pos c]; exact Ev.step (f := fun _ => some (j : Int)) (fun k => (e k).trans (if_pos c)) (Ev.now _)
  ·rw [if_neg c]; exact Ev.step (fun k => (e k).trans (if_neg c)) (ih (j + 1) (by omega))
theorem contains_ev (l : List C) (x y : Int) (hl : l.length ≤ 1048576) : Ev (fun k => slices_Contains_Cell.f k l x y) (hasC l x y) := by
 unfold slices_Contains_Cell.f
 exact Ev.bind (f := fun _ t => some (decide (t ≥ 0))) (implIx_loop l x y hl l.length 0 (by omega)) (Ev.now _)
def outs (l : List C) (m : List C) : List C := (m.flatMap nbrs).filter fun d => !hasC l d.f0 d.f1
theorem bes_l1 (l : List C) (hl : l.length ≤ 10000) (i : Int) (ds : List C) (h4 : ds.length = 4) (r : List C) : ∀ d j : Nat, j + d = 4 → ∀ s : List C, s.length + d ≤ 1000000 →
  Ev (fun k => impl_beside.l0 k l (s ++ (ds.drop j).filter fun d => !hasC l d.f0 d.f1) l (l.length : Int) (wrap64 (i + 1))) r → Ev (fun k => impl_beside.l1 k l s l (l.length : Int) i ds (ds.length : Int) (j : Nat)) r := by
 intro d
 induction d with
 | zero =>
  intro j hj s _ g
  obtain rfl : j = 4 := by omega
  rw [show ds.drop 4 = [] from List.drop_eq_nil_of_le (by omega), List.filter_nil, List.append_nil] at g
  refine Ev.step (fun k => ?_) g
  simp only [impl_beside.l1]; rw [if_neg (by omega)]
 | succ d ih =>
  intro j hj s hs g
  have hjl : j < ds.length := by omega
  rw [drop_at ds j hjl] at g
  refine Ev.step (f := fun k => (slices_Contains_Cell.f k l (at_ ds j).f0 (at_ ds j).f1).bind fun t => if t = true then impl_beside.l1 k l s l (l.length : Int) i ds (ds.length : Int) ((j + 1 : Nat) : Int) else impl_beside.l1 k l (s ++ [at_ ds j]) l (l.length : Int) i ds (ds.length : Int) ((j + 1 : Nat) : Int)) (fun k => ?_) ?_
  ·simp only [impl_beside.l1, rd_at]; rw [if_pos (by omega), if_pos (by omega), if_pos (by omega), w64 (x := (j : Int) + 1) (by omega) (by omega)]
   congr 1; funext t
   by_cases ht : t = true
   ·rw [if_pos ht, if_pos ht]; rfl
   ·rw [if_neg ht, if_neg ht, if_pos (by omega)]; rfl
  ·refine Ev.bind (f := fun k t => if t = true then impl_beside.l1 k l s l (l.length : Int) i ds (ds.length : Int) ((j + 1 : Nat) : Int) else impl_beside.l1 k l (s ++ [at_ ds j]) l (l.length : Int) i ds (ds.length : Int) ((j + 1 : Nat) : Int)) (contains_ev l _ _ (by omega)) ?_
   cases hh : hasC l (at_ ds j).f0 (at_ ds j).f1
   ·simp only [Bool.false_eq_true, if_false]
    refine ih (j + 1) (by omega) (s ++ [at_ ds j]) (by simp; omega) ?_
    rw [List.filter_cons, hh] at g
    simp only [Bool.not_false, if_true] at g
    rw [List.append_assoc]; exact g
   ·simp only [if_true]
    refine ih (j + 1) (by omega) s (by omega) ?_
    rw [List.filter_cons, hh] at g
    simp only [Bool.not_true, Bool.false_eq_true, if_false] at g
    exact g
theorem ddN_ok (l : List C) (hs : l.Pairwise leC) : ∀ i, i ≤ l.length → (ddN_ l i).Pairwise ltC ∧ (∀ c, c ∈ ddN_ l i ↔ c ∈ l.take i) := by
 intro i
 induction i with
 | zero => intro _; exact ⟨List.Pairwise.nil, fun c => by simp [ddN_]⟩
 | succ i ih =>
  intro hi
  obtain ⟨h1, h2⟩ := ih (by omega)
  have htk : l.take (i + 1) = l.take i ++ [at_ l i] := by
   rw [List.take_add_one, List.getElem?_eq_getElem (by omega), at_get l i (by omega)]; rfl
  have hle : ∀ c ∈ l.take i, leC c (at_ l i) := by
   have hq : (l.take (i + 1)).Pairwise leC := hs.sublist (List.take_sublist _ _)
   rw [htk, List.pairwise_append] at hq
   exact fun c hc => hq.2.2 c hc _ (by simp)
  have same : ∀ a b : C, sameC_ a b = true ↔ a = b := by
   intro a b
   unfold sameC_
   rw [Bool.and_eq_true, beq_iff_eq, beq_iff_eq]
   exact ⟨fun h => by cases a; cases b; cases h.1; cases h.2; rfl, fun h => by rw [h]; exact ⟨rfl, rfl⟩⟩
  show (if i ≠ 0 ∧ sameC_ (rd_T39 l (i : Nat)) (rd_T39 l ((i - 1 : Nat) : Int)) = true then ddN_ l i else ddN_ l i ++ [rd_T39 l (i : Nat)]).Pairwise ltC ∧ ∀ c, c ∈ (if i ≠ 0 ∧ sameC_ (rd_T39 l (i : Nat)) (rd_T39 l ((i - 1 : Nat) : Int)) = true then ddN_ l i else ddN_ l i ++ [rd_T39 l (i : Nat)]) ↔ c ∈ l.take (i + 1)
  rw [rd_at, rd_at, htk]
  by_cases hc : i ≠ 0 ∧ sameC_ (at_ l i) (at_ l (i - 1)) = true
  ·rw [if_pos hc]
   have e := (same _ _).1 hc.2
   have hm : at_ l i ∈ l.take i := by
    rw [e, List.mem_take_iff_getElem]
    exact ⟨i - 1, by omega, (at_get l (i - 1) (by omega)).symm⟩
   refine ⟨h1, fun c => ?_⟩
   rw [h2, List.mem_append, List.mem_singleton]
   exact ⟨Or.inl, fun g => g.elim id fun g => by rw [g]; exact hm⟩
  ·rw [if_neg hc]
   have hni : ¬ at_ l i ∈ l.take i := by
    intro hm
    -- the last one of the first i is between
    have h0 : i ≠ 0 := fun h => by rw [h] at hm; simp at hm
    have hl1 : leC (at_ l i) (at_ l (i - 1)) := by
     obtain ⟨n, hn, e⟩ := List.mem_take_iff_getElem.1 hm
     rw [← e]
     by_cases g : n = i - 1
     ·subst g; rw [at_get l _ (by omega)]; unfold leC; exact fun h => ltC_irrefl h
     ·have := (List.pairwise_iff_getElem.1 hs) n (i - 1) (by omega) (by omega) (by omega)
      rw [at_get l (i - 1) (by omega)]; exact this
    have hl2 : leC (at_ l (i - 1)) (at_ l i) := hle _ (by rw [List.mem_take_iff_getElem]; exact ⟨i - 1, by omega, (at_get l (i - 1) (by omega)).symm⟩)
    exact hc ⟨h0, (same _ _).2 (leC_anti hl1 hl2)⟩
   refine ⟨?_, fun c => ?_⟩
   ·rw [List.pairwise_append]
    refine ⟨h1, List.pairwise_singleton _ _, fun a ha b hb => ?_⟩
    rw [List.mem_singleton] at hb
    subst hb
    have ha2 := (h2 a).1 ha
    by_cases g : ltC a (at_ l i)
    ·exact g
    ·exact absurd (by rw [← leC_anti (hle a ha2) g]; exact ha2) hni
   ·rw [List.mem_append, h2, List.mem_append]
theorem implBeside_ev (l : List C) (hs : Sh l) : Ev (fun k => impl_beside.f k l) (nbP l) := by
 have h40 := hs.2.1
 have hl : l.length ≤ 10000 := by omega
 have key : ∀ (m s : List C), s ++ outs l m = s ++ outs l m := fun _ _ => rfl
 unfold impl_beside.f
 refine ev_foldE (fun k s j => impl_beside.l0 k l s l (l.length : Int) j) l (fun s c => s ++ (nbrs c).filter fun d => !hasC l d.f0 d.f1) (fun j s => s.length ≤ 4 * j) ?_ _ 0 (by omega) [] (by simp) ?_
 ·intro s j hj hm hsl
  have a4 : (nbrs (at_ l j)).length = 4 := rfl
  have a5 := List.length_filter_le (fun d : C => !hasC l d.f0 d.f1) (nbrs (at_ l j))
  refine ⟨by rw [List.length_append]; omega, fun r hr => ?_⟩
  have w := hs.ok hm
  unfold okC at w
  refine Ev.step (f := fun k => impl_beside.l1 k l s l (l.length : Int) (j : Nat) (nbrs (at_ l j)) ((nbrs (at_ l j)).length : Int) ((0 : Nat) : Int)) (fun k => ?_) ?_
  ·simp only [impl_beside.l0, rd_at, impl_around.f, Option.bind_some]
   rw [if_pos (by omega), if_pos (by omega), if_pos (by omega), w64 (x := (at_ l j).f1 - 1) (by omega) (by omega), w64 (x := (at_ l j).f0 - 1) (by omega) (by omega), w64 (x := (at_ l j).f0 + 1) (by omega) (by omega), w64 (x := (at_ l j).f1 + 1) (by omega) (by omega)]; rfl
  ·refine bes_l1 l hl _ _ rfl r 4 0 (by omega) s (by omega) ?_
   rw [w64 (by omega) (by omega)]
   exact hr
 ·intro hlen
  rw [List.drop_zero] at hlen ⊢
  have hf : ∀ (m s : List C), m.foldl (fun s c => s ++ (nbrs c).filter fun d => !hasC l d.f0 d.f1) s = s ++ outs l m := by
   intro m
   induction m with
   | nil => intro s; simp [outs]
   | cons c r ih => intro s; rw [List.foldl_cons, ih, List.append_assoc]; unfold outs; rw [List.flatMap_cons, List.filter_append]
  rw [hf, List.nil_append] at hlen ⊢
  have hsl := sortP_length (outs l l)
  refine Ev.step (f := fun _ => some (nbP l)) (fun k => ?_) (Ev.now _)
  simp only [impl_beside.l0, slices_SortFunc_Cell.f, slices_Compact_Cell.f]
  rw [if_neg (by omega), if_pos (by omega), Option.bind_some, Option.bind_some, merge_sortP]
  congr 1
  obtain ⟨d1, d2⟩ := ddN_ok (sortP (outs l l)) (sortP_sorted _) (sortP (outs l l)).length (Nat.le_refl _)
  refine strict_unique d1 (nbP_strict l) fun c => ?_
  rw [d2, List.take_length, mem_sortP, nbP_mem]
  unfold outs
  rw [List.mem_filter, List.mem_flatMap]
  constructor
  ·rintro ⟨h, g⟩
   refine ⟨h, fun k => ?_⟩
   rw [hasC_true (l := l) (x := c.f0) (y := c.f1) k] at g
   simp at g
  ·rintro ⟨h, g⟩
   exact ⟨h, by rw [hasC_false (l := l) (x := c.f0) (y := c.f1) g]; rfl⟩
theorem cfL_cmpL (a : List C) : ∀ b : List C, cfL_ a b = cmpL a b := by
 induction a with
 | nil => intro b; cases b <;> rfl
 | cons x r ih =>
  intro b
  cases b with
  | nil => rfl
  | cons y s =>
   have e1 : ltbC_ x y = decide (ltC x y) := rfl
   have e2 : ltbC_ y x = decide (ltC y x) := rfl
   simp only [cfL_, cmpL, cfC_, e1, e2, decide_eq_true_eq]
   by_cases c1 : ltC x y
   ·simp only [if_pos c1]; rw [if_neg (by decide)]
   ·simp only [if_neg c1]
    by_cases c2 : ltC y x
    ·simp only [if_pos c2]; rw [if_neg (by decide)]
    ·simp only [if_neg c2]; rw [if_pos trivial]; exact ih s
theorem cfS_cmpS (a b : List C) : cfS_ a b = cmpS a b := by unfold cfS_ cmpS; rw [cfL_cmpL]
def leS (a b : List C) : Prop := ¬ ltS b a
theorem cfS_lt (a b : List C) : cfS_ a b < 0 ↔ ltS a b := by
 rw [cfS_cmpS]; exact ⟨cmpS_neg_lt, fun h => by unfold ltS at h; omega⟩
theorem leS_lt {a b : List C} (h : leS a b) (hne : b ≠ a) : ltS a b := by
 rcases ltS_tri a b with g | g | g
 ·exact g
 ·exact absurd g.symm hne
 ·exact absurd g h
theorem leS_trans {a b c : List C} (h : leS a b) (g : leS b c) : leS a c := by
 intro k
 rcases ltS_tri a b with e | e | e
 ·exact g (ltS_trans k e)
 ·rw [e] at k; exact g k
 ·exact h e
theorem leS_ltS_trans {a b c : List C} (h : leS a b) (g : ltS b c) : ltS a c := by
 rcases ltS_tri a b with e | e | e
 ·exact ltS_trans e g
 ·rw [e]; exact g
 ·exact absurd e h
theorem sortS_perm (l : List (List C)) : (sortS_ l).Perm l := List.mergeSort_perm _ _
theorem sortS_sorted (l : List (List C)) : (sortS_ l).Pairwise leS := by
 have h := List.pairwise_mergeSort (le := fun x y : List C => !decide (cfS_ y x < 0)) (fun a b c h1 h2 => by
  simp only [Bool.not_eq_true', decide_eq_false_iff_not, cfS_lt] at *
  exact leS_trans h1 h2) (fun a b => by
  by_cases h : cfS_ b a < 0
  ·have : ¬ cfS_ a b < 0 := fun g => ltS_irrefl (ltS_trans ((cfS_lt _ _).1 h) ((cfS_lt _ _).1 g))
   simp [this]
  ·simp [h]) l
 exact h.imp fun g => by
  simp only [Bool.not_eq_true', decide_eq_false_iff_not, cfS_lt] at g
  exact g
theorem dd_spec (s : List (List C)) (hs : s.Pairwise leS) : ∀ i, i ≤ s.length → (ddS_ s i).Pairwise ltS ∧ ∀ t, t ∈ ddS_ s i ↔ t ∈ s.take i := by
 intro i
 induction i with
 | zero => intro _; exact ⟨List.Pairwise.nil, fun t => by simp [ddS_]⟩
 | succ i ih =>
  intro hi
  obtain ⟨h1, h2⟩ := ih (by omega)
  have ht := take_ro s i (by omega)
  have e0 : s.getD i [] = ro_ s i := rfl
  have e1 : s.getD (i - 1) [] = ro_ s (i - 1) := rfl
  unfold ddS_
  rw [e0, e1, cfS_cmpS, ht]
  have hle : ∀ t ∈ s.take i, leS t (ro_ s (i - 1)) ∧ leS (ro_ s (i - 1)) (ro_ s i) := by
   intro t htm
   obtain ⟨j, hj, rfl⟩ := List.mem_iff_getElem.1 htm
   rw [List.length_take] at hj
   have hpw := List.pairwise_iff_getElem.1 hs
   rw [ro_get s (i - 1) (by omega), ro_get s i (by omega), List.getElem_take]
   refine ⟨?_, hpw (i - 1) i (by omega) (by omega) (by omega)⟩
   by_cases e : j = i - 1
   ·subst e; exact fun g => ltS_irrefl g
   ·exact hpw j (i - 1) (by omega) (by omega) (by omega)
  by_cases c : i ≠ 0 ∧ cmpS (ro_ s i) (ro_ s (i - 1)) = 0
  ·rw [if_pos c]
   refine ⟨h1, fun t => ?_⟩
   rw [h2, List.mem_append, List.mem_singleton]
   constructor
   ·exact Or.inl
   ·rintro (g | g)
    ·exact g
    ·rw [g, (cmpS_zero _ _).1 c.2, ro_get s (i - 1) (by omega)]
     exact List.mem_iff_getElem.2 ⟨i - 1, by rw [List.length_take]; omega, by rw [List.getElem_take]⟩
  ·rw [if_neg c]
   refine ⟨List.pairwise_append.2 ⟨h1, List.pairwise_singleton _ _, fun a ha b hb => ?_⟩, fun t => ?_⟩
   ·rw [List.mem_singleton] at hb
    subst hb
    obtain ⟨l1, l2⟩ := hle a ((h2 a).1 ha)
    have hi0 : i ≠ 0 := by
     intro g; subst g
     have := (h2 a).1 ha
     simp at this
    exact leS_ltS_trans l1 (leS_lt l2 fun g => c ⟨hi0, (cmpS_zero _ _).2 g⟩)
   ·rw [List.mem_append, h2, List.mem_append]
theorem tidy_eq (k : Nat) (l : List (List C)) (h : l.length ≤ 1000000) : impl_tidyShapes.f k l = some (tidyP l) := by
 unfold impl_tidyShapes.f
 rw [if_pos h]
 have hl : (sortS_ l).length = l.length := (sortS_perm l).length_eq
 obtain ⟨h1, h2⟩ := dd_spec (sortS_ l) (sortS_sorted l) l.length (by omega)
 rw [← hl, List.take_length, hl] at h2
 rw [tidyP_unique h1 fun t => (h2 t).trans (sortS_perm l).mem_iff]
-- USES Base Cell In Shape ShUse Fold Moved Norm Sort
def addC (v c : C) : C := ⟨c.f0 + v.f0, c.f1 + v.f1⟩
theorem lo_eq {l : List C} {a b : Int} (h : 0 < l.length) (h1 : ∀ c ∈ l, a ≤ c.f0 ∧ b ≤ c.f1) (h2 : ∃ c ∈ l, c.f0 = a) (h4 : ∃ c ∈ l, c.f1 = b) : lo l = (a, b) := by
 obtain ⟨c, hc, ec⟩ := h2
 obtain ⟨d, hd, ed⟩ := h4
 obtain ⟨e, he, ee⟩ := lo_mem0 h
 obtain ⟨f, hf, ef⟩ := lo_mem1 h
 have a1 := lo_le hc
 have a2 := lo_le hd
 have a3 := h1 e he
 have a4 := h1 f hf
 have x1 : (lo l).1 = a := by omega
 have x2 : (lo l).2 = b := by omega
 rw [← x1, ← x2]
theorem lo_add (v : C) {l : List C} (h : 0 < l.length) : lo (l.map (addC v)) = ((lo l).1 + v.f0, (lo l).2 + v.f1) := by
 obtain ⟨c, hc, ec⟩ := lo_mem0 h
 obtain ⟨d, hd, ed⟩ := lo_mem1 h
 refine lo_eq (by rw [List.length_map]; exact h) (fun x hx => ?_) ⟨addC v c, List.mem_map_of_mem hc, ?_⟩ ⟨addC v d, List.mem_map_of_mem hd, ?_⟩
 ·obtain ⟨y, hy, rfl⟩ := List.mem_map.1 hx
  have := lo_le hy
  unfold addC; simp only []; omega
 ·unfold addC; simp only []; omega
 ·unfold addC; simp only []; omega
theorem addC_le (v : C) {a b : C} (h : leC a b) : leC (addC v a) (addC v b) := by
 unfold leC ltC addC at *; simp only [] at *; omega
def normU (l : List C) : List C := l.map (addC ⟨-(lo l).1, -(lo l).2⟩)
theorem normU_length (l : List C) : (normU l).length = l.length := by unfold normU; rw [List.length_map]
theorem normU_add (v : C) {l : List C} (h : 0 < l.length) : normU (l.map (addC v)) = normU l := by
 unfold normU
 rw [lo_add v h, List.map_map]
 refine List.map_congr_left fun c _ => ?_
 show addC _ (addC v c) = _
 unfold addC
 simp only []
 congr 1 <;> omega
theorem normU_lo {l : List C} (h : 0 < l.length) : lo (normU l) = (0, 0) := by
 unfold normU
 rw [lo_add _ h]
 congr 1 <;> (simp only []; omega)
theorem addC_zero (c : C) : addC ⟨0, 0⟩ c = c := by unfold addC; simp
theorem normU_idem {l : List C} (h : 0 < l.length) : normU (normU l) = normU l := by
 show (normU l).map (addC ⟨-(lo (normU l)).1, -(lo (normU l)).2⟩) = normU l
 rw [normU_lo h]
 conv => rhs; rw [← List.map_id (normU l)]
 exact List.map_congr_left fun c _ => addC_zero c
def BD (l : List C) : Prop := ∀ c ∈ l, -1000000 ≤ c.f0 ∧ c.f0 ≤ 1000000 ∧ -1000000 ≤ c.f1 ∧ c.f1 ≤ 1000000
theorem normL_U {l : List C} (h : BD l) (h0 : 0 < l.length) : normL l = normU l := by
 unfold normL movL normU
 obtain ⟨d, hd, ed⟩ := lo_mem0 h0
 obtain ⟨e, he, ee⟩ := lo_mem1 h0
 have b1 := h d hd
 have b2 := h e he
 refine List.map_congr_left fun c hc => ?_
 have b3 := h c hc
 unfold movC addC
 rw [w64 (x := -(lo l).1) (by omega) (by omega), w64 (x := -(lo l).2) (by omega) (by omega), w64 (by omega) (by omega), w64 (by omega) (by omega)]
theorem sh_mk {l : List C} (h1 : 1 ≤ l.length) (h2 : l.length ≤ 40) (h3 : ∀ c ∈ l, okC c) (h4 : l.Pairwise ltC) : Sh l := by
 refine ⟨h1, h2, fun i hi => h3 _ (at_mem l i hi), fun i hi => ?_⟩
 rw [at_get l i (by omega), at_get l (i + 1) hi]
 exact List.pairwise_iff_getElem.1 h4 i (i + 1) (by omega) hi (by omega)
theorem sh_lt {l : List C} (h : Sh l) : l.Pairwise ltC := by
 rw [List.pairwise_iff_getElem]
 intro i j hi hj hij
 have := h.lt i j hij hj
 rw [at_get l i hi, at_get l j hj] at this; exact this
def growL (s : List C) : List (List C) := (nbP s).map fun d => normL (insP d s)
theorem growL_length (s : List C) : (growL s).length = (nbP s).length := by unfold growL; rw [List.length_map]
theorem growL_take (s : List C) (j : Nat) (h : j < (nbP s).length) : (growL s).take (j + 1) = (growL s).take j ++ [normL (insP (at_ (nbP s) j) s)] := by
 unfold growL
 rw [← List.map_take, ← List.map_take, List.take_succ_eq_append_getElem h, List.map_append, at_get _ j h]; rfl
theorem implGrown_loop (s : List C) (hs : Sh s) : ∀ d j : Nat, j + d = (nbP s).length → Ev (fun k => impl_grown.l0 k s ((growL s).take j) (nbP s) ((nbP s).length : Int) (j : Nat)) (tidyP (growL s)) := by
 have hl := nbP_length s
 have h40 := hs.2.1
 have hgl := growL_length s
 intro d
 induction d with
 | zero =>
  intro j hj
  obtain rfl : j = (nbP s).length := by omega
  have et : (growL s).take (nbP s).length = growL s := List.take_of_length_le (by omega)
  rw [et]
  refine Ev.step (fun k => ?_) (Ev.now _)
  simp only [impl_grown.l0]; rw [if_neg (by omega), tidy_eq _ _ (by omega)]; rfl
 | succ d ih =>
  intro j hj
  have g := ih (j + 1) (by omega)
  have hjl : j < (growL s).length := by omega
  have ht := growL_take s j (by omega)
  rw [ht] at g
  have hsort : impl_sorted.f (s ++ [⟨(at_ (nbP s) j).f0, (at_ (nbP s) j).f1⟩]) = some (insP (at_ (nbP s) j) s) := by
   rw [implSort_eq _ (by rw [List.length_append, List.length_singleton]; omega)]
   congr 1
   refine sorted_unique (sortP_sorted _) (insP_sorted _ _ hs.sorted) ((sortP_perm _).trans (List.Perm.trans ?_ (insP_perm _ _).symm))
   exact List.perm_append_singleton _ _
  have hclone : slices_Clone_Cell.f s = some s := by unfold slices_Clone_Cell.f; rw [if_pos (by omega)]
  have htl : ((growL s).take j).length = j := by rw [List.length_take]; omega
  refine Ev.step (f := fun k => (impl_normal.f k (insP (at_ (nbP s) j) s)).bind fun t => impl_grown.l0 k s ((growL s).take j ++ [t]) (nbP s) ((nbP s).length : Int) ((j + 1 : Nat) : Int)) (fun k => ?_) ?_
  ·simp only [impl_grown.l0, rd_at, hclone, Option.bind_some, hsort, List.length_append, List.length_singleton, List.length_nil, List.length_cons, htl]
   rw [if_pos (by omega), if_pos (by omega), if_pos (by omega), if_pos (by omega), w64 (by omega) (by omega)]
   simp only [if_pos (show j + (0 + 1) < 5864062014805 by omega)]; rfl
  ·exact Ev.bind (f := fun k t => impl_grown.l0 k s ((growL s).take j ++ [t]) (nbP s) ((nbP s).length : Int) ((j + 1 : Nat) : Int)) (implNorm_ev _ (by rw [insP_length]; omega) (by rw [insP_length]; omega)) g
theorem implGrown_ev (s : List C) (hs : Sh s) : Ev (fun k => impl_grown.f k s) (tidyP (growL s)) := by
 unfold impl_grown.f
 refine Ev.bind (f := fun k t => impl_grown.l0 k s (([] : List (List C))) t (t.length : Int) 0) (implBeside_ev s hs) ?_
 exact implGrown_loop s hs (nbP s).length 0 (by omega)
theorem specGrow_loop (s : List C) (hs : Sh s) (acc : List (List C)) (hp : acc.Pairwise ltS) (hacc : acc.length ≤ 900000) : ∀ d j : Nat, j + d = (nbP s).length → Ev (fun k => spec_l05Grow.l0 k (((growL s).take j).foldl (fun a t => insS t a) acc) s (nbP s) (j : Nat)) ((growL s).foldl (fun a t => insS t a) acc) := by
 have hl := nbP_length s
 have h40 := hs.2.1
 have hgl := growL_length s
 intro d
 induction d with
 | zero =>
  intro j hj
  obtain rfl : j = (nbP s).length := by omega
  have et : (growL s).take (nbP s).length = growL s := List.take_of_length_le (by omega)
  rw [et]
  refine Ev.step (fun k => ?_) (Ev.now _)
  simp only [spec_l05Grow.l0]; rw [if_neg (by omega)]
 | succ d ih =>
  intro j hj
  have g := ih (j + 1) (by omega)
  have hjl : j < (growL s).length := by omega
  have ht := growL_take s j (by omega)
  rw [ht, List.foldl_append, List.foldl_cons, List.foldl_nil] at g
  obtain ⟨f1, _, f3⟩ := foldl_ins ((growL s).take j) acc hp
  have htl : ((growL s).take j).length = j := by rw [List.length_take]; omega
  generalize hA : ((growL s).take j).foldl (fun a t => insS t a) acc = A at *
  refine Ev.step (f := fun k => (spec_l02Insert.f k s (at_ (nbP s) j).f0 (at_ (nbP s) j).f1).bind fun t1 => (spec_l02Normal.f k t1).bind fun t2 => (spec_l03Add.f k A t2).bind fun t3 => spec_l05Grow.l0 k t3 s (nbP s) ((j + 1 : Nat) : Int)) (fun k => ?_) ?_
  ·simp only [spec_l05Grow.l0, rd_at]
   rw [if_pos (by omega), if_pos (by omega), w64 (by omega) (by omega)]; rfl
  ·refine Ev.bind (f := fun k t1 => (spec_l02Normal.f k t1).bind fun t2 => (spec_l03Add.f k A t2).bind fun t3 => spec_l05Grow.l0 k t3 s (nbP s) ((j + 1 : Nat) : Int)) (specIns_ev s _ _ (by omega)) ?_
   refine Ev.bind (f := fun k t2 => (spec_l03Add.f k A t2).bind fun t3 => spec_l05Grow.l0 k t3 s (nbP s) ((j + 1 : Nat) : Int)) (specNorm_ev _ (by rw [insP_length]; omega) (by rw [insP_length]; omega)) ?_
   exact Ev.bind (f := fun k t3 => spec_l05Grow.l0 k t3 s (nbP s) ((j + 1 : Nat) : Int)) (add_ev _ _ f1 (by omega) (by rw [normL_length, insP_length]; omega)) g
theorem sh_wim {s : List C} (hs : Sh s) : Wi 1000000 s := fun c hc => by
 have := hs.ok hc
 unfold okC at this; omega
theorem specGrow_ev (s : List C) (hs : Sh s) (acc : List (List C)) (hp : acc.Pairwise ltS) (hacc : acc.length ≤ 900000) : Ev (fun k => spec_l05Grow.f k acc s) ((growL s).foldl (fun a t => insS t a) acc) := by
 unfold spec_l05Grow.f
 refine Ev.bind (f := fun k t => spec_l05Grow.l0 k acc s t 0) (specNb_ev s (by have := hs.2.1; omega) (sh_wim hs)) ?_
 exact specGrow_loop s hs acc hp hacc (nbP s).length 0 (by omega)
noncomputable def codeP (l : List C) : Int := if shB l = true then (if shB (normL l) = true then 0 else 3) else 1
theorem scode_ev (l : List C) (hl : l.length ≤ 1048576) : Ev (fun k => spec_l03Code.f k l) (codeP l) := by
 unfold spec_l03Code.f codeP
 rcases sh_cases l with ⟨hs, hb⟩ | ⟨hs, hb⟩
 ·refine Ev.bind (f := fun k t => if t = true then ((spec_l02Normal.f k l).bind fun t540 => ((spec_IsShape.f k t540).bind fun t543 => (if t543 = true then (some 0) else (some 3)))) else (some 1)) (specShape_ev l hl) ?_
  simp only [hb, if_true]
  refine Ev.bind (f := fun k t540 => ((spec_IsShape.f k t540).bind fun t543 => (if t543 = true then (some 0) else (some 3)))) (specNorm_ev l hs.1 hl) ?_
  refine Ev.bind (f := fun k t543 => (if t543 = true then (some (0 : Int)) else (some 3))) (specShape_ev (normL l) (by rw [normL_length]; exact hl)) ?_
  cases shB (normL l) <;> exact Ev.now _
 ·refine Ev.bind (f := fun k t => if t = true then ((spec_l02Normal.f k l).bind fun t540 => ((spec_IsShape.f k t540).bind fun t543 => (if t543 = true then (some 0) else (some 3)))) else (some 1)) (specShape_ev l hl) ?_
  simp only [hb, Bool.false_eq_true, if_false]; exact Ev.now _
theorem codeP_cases (l : List C) : (¬ Sh l ∧ shB l = false ∧ codeP l = 1) ∨ (Sh l ∧ shB l = true ∧ codeP l = 0) ∨ (Sh l ∧ shB l = true ∧ codeP l = 3) := by
 unfold codeP
 rcases sh_cases l with ⟨hs, hb⟩ | ⟨hs, hb⟩
 ·rw [hb]
  cases shB (normL l)
  ·exact Or.inr (Or.inr ⟨hs, rfl, rfl⟩)
  ·exact Or.inr (Or.inl ⟨hs, rfl, rfl⟩)
 ·rw [hb]; exact Or.inl ⟨hs, rfl, rfl⟩
theorem rd_nat (l : List Int) (j : Nat) (h : j < l.length) : rd l (j : Int) = l[j] := by
 unfold rd; rw [List.getD_eq_getElem?_getD, Int.toNat_natCast, List.getElem?_eq_getElem h]; rfl
theorem rdn (l : List Int) (j : Nat) : rd l (j : Int) = l.getD j 0 := by unfold rd; rw [Int.toNat_natCast]
theorem rdn_set (l : List Int) (i j : Nat) (v : Int) (hj : j < l.length) : rd (l.set i v) (j : Nat) = if i = j then v else rd l (j : Nat) := by
 rw [rdn, rdn, List.getD_eq_getElem?_getD, List.getElem?_set, List.getD_eq_getElem?_getD]
 by_cases h : i = j
 ·subst h; rw [if_pos rfl, if_pos hj, if_pos rfl]; rfl
 ·rw [if_neg h, if_neg h]
theorem ixF_lt (x y : Int) : ∀ (r : List C) (j : Nat), ixF j r x y < (j : Int) + r.length := by
 intro r
 induction r with
 | nil => intro j; simp only [ixF]; omega
 | cons c r ih =>
  intro j
  unfold ixF
  have := ih (j + 1)
  rw [List.length_cons]
  split <;> omega
theorem ixF_val (x y : Int) : ∀ (r : List C) (j : Nat), 0 ≤ ixF j r x y → ∃ m, m < r.length ∧ ixF j r x y = (j : Int) + m ∧ at_ r m = ⟨x, y⟩ := by
 intro r
 induction r with
 | nil => intro j h; simp only [ixF] at h; omega
 | cons c r ih =>
  intro j h
  unfold ixF at h ⊢
  by_cases e : c.f0 = x ∧ c.f1 = y
  ·rw [if_pos e]
   refine ⟨0, by simp, by omega, ?_⟩
   show c = _
   cases c; cases e.1; cases e.2; rfl
  ·rw [if_neg e] at h ⊢
   obtain ⟨m, h1, h2, h3⟩ := ih (j + 1) h
   exact ⟨m + 1, by simp; omega, by omega, h3⟩
def nearP (l : List C) (i : Int) : List C → List Int → List Int → List Int × List Int
 | [], out, q => (out, q)
 | d :: r, out, q => if 0 ≤ ixF 0 l d.f0 d.f1 ∧ rd out (ixF 0 l d.f0 d.f1) < 0 then nearP l i r (out.set (ixF 0 l d.f0 d.f1).toNat i) (q ++ [ixF 0 l d.f0 d.f1]) else nearP l i r out q
def bfsP (l : List C) (i : Int) : Nat → List Int → List Int → List Int
 | 0, out, _ => out
 | _ + 1, out, [] => out
 | n + 1, out, a :: q => bfsP l i n (nearP l i (nbrs (at_ l a.toNat)) out q).1 (nearP l i (nbrs (at_ l a.toNat)) out q).2
def outerP (l : List C) : Nat → Nat → List Int → List Int
 | 0, _, out => out
 | d + 1, i, out => outerP l d (i + 1) (if rd out (i : Nat) ≥ 0 then out else bfsP l (i : Nat) (l.length + 1) (out.set i (i : Nat)) [(i : Int)])
def partsP (l : List C) : List Int := outerP l l.length 0 (List.replicate l.length (-1))
def negs (out : List Int) : Nat := out.countP fun x => decide (x < 0)
theorem negs_set (out : List Int) (j : Nat) (hj : j < out.length) (v : Int) (hv : 0 ≤ v) (h : rd out (j : Nat) < 0) : negs (out.set j v) + 1 = negs out := by
 unfold negs
 have hx : out[j] < 0 := by rw [rd_nat out j hj] at h; exact h
 rw [List.countP_set hj]
 have h1 : decide (out[j] < 0) = true := decide_eq_true hx
 have h2 : decide (v < 0) = false := decide_eq_false (by omega)
 have h3 : 0 < out.countP fun x => decide (x < 0) := List.countP_pos_iff.2 ⟨out[j], List.getElem_mem hj, h1⟩
 simp only [h1, h2, if_true, Bool.false_eq_true, if_false]
 omega
theorem negs_le (out : List Int) : negs out ≤ out.length := List.countP_le_length
def QOk (l : List C) (out q : List Int) : Prop := out.length = l.length ∧ ∀ x ∈ q, 0 ≤ x ∧ x < (l.length : Int)
theorem nearP_ok (l : List C) (i : Int) (hi : 0 ≤ i) : ∀ (ds : List C) (out q : List Int), QOk l out q → QOk l (nearP l i ds out q).1 (nearP l i ds out q).2 ∧ negs (nearP l i ds out q).1 + (nearP l i ds out q).2.length = negs out + q.length := by
 intro ds
 induction ds with
 | nil => intro out q h; exact ⟨h, rfl⟩
 | cons d r ih =>
  intro out q h
  unfold nearP
  by_cases c : 0 ≤ ixF 0 l d.f0 d.f1 ∧ rd out (ixF 0 l d.f0 d.f1) < 0
  ·rw [if_pos c]
   have hlt := ixF_lt d.f0 d.f1 l 0
   obtain ⟨m, hm⟩ := Int.eq_ofNat_of_zero_le c.1
   rw [hm] at c hlt ⊢
   rw [Int.toNat_natCast]
   have hml : m < out.length := by rw [h.1]; omega
   obtain ⟨a, b⟩ := ih (out.set m i) (q ++ [(m : Int)]) ⟨by rw [List.length_set]; exact h.1, fun x hx => by
    rcases List.mem_append.1 hx with hx | hx
    ·exact h.2 x hx
    ·rw [List.mem_singleton] at hx; rw [hx]; omega⟩
   refine ⟨a, ?_⟩
   have := negs_set out m hml i hi c.2
   rw [b, List.length_append, List.length_singleton]
   omega
  ·rw [if_neg c]; exact ih out q h
theorem nearP_line (l : List C) (i : Int) : ∀ (ds : List C) (out q p : List Int), nearP l i ds out (p ++ q) = ((nearP l i ds out q).1, p ++ (nearP l i ds out q).2) := by
 intro ds
 induction ds with
 | nil => intro out q p; rfl
 | cons d r ih =>
  intro out q p
  unfold nearP
  by_cases c : 0 ≤ ixF 0 l d.f0 d.f1 ∧ rd out (ixF 0 l d.f0 d.f1) < 0
  ·rw [if_pos c, if_pos c, List.append_assoc, ih]
  ·rw [if_neg c, if_neg c, ih]
theorem bfsP_length (l : List C) (i : Int) (hi : 0 ≤ i) : ∀ (n : Nat) (out q : List Int), QOk l out q → (bfsP l i n out q).length = l.length := by
 intro n
 induction n with
 | zero => intro out q h; exact h.1
 | succ n ih =>
  intro out q h
  cases q with
  | nil => exact h.1
  | cons a q => exact ih _ _ (nearP_ok l i hi _ out q ⟨h.1, fun x hx => h.2 x (List.mem_cons_of_mem _ hx)⟩).1
theorem outer_start (l : List C) (out : List Int) (i : Nat) (hi : i < l.length) (ho : out.length = l.length) : QOk l (out.set i (i : Nat)) [(i : Int)] :=
 ⟨by rw [List.length_set]; exact ho, fun x hx => by rw [List.mem_singleton] at hx; rw [hx]; omega⟩
theorem outerP_length (l : List C) : ∀ (d i : Nat) (out : List Int), i + d = l.length → out.length = l.length → (outerP l d i out).length = l.length := by
 intro d
 induction d with
 | zero => intro i out _ h; exact h
 | succ d ih =>
  intro i out hi h
  unfold outerP
  refine ih _ _ (by omega) ?_
  split
  ·exact h
  ·exact bfsP_length l _ (by omega) _ _ _ (outer_start l out i (by omega) h)
theorem partsP_length (l : List C) : (partsP l).length = l.length := outerP_length l _ 0 _ (by omega) (by simp)
theorem sparts_l3 (l : List C) (hl : l.length ≤ 10000) (i : Nat) (ds : List C) (h4 : ds.length = 4) (r : List Int) : ∀ d j : Nat, j + d = 4 → ∀ out q : List Int, QOk l out q → q.length + d ≤ 1000000 →
  Ev (fun k => spec_l02Parts.l2 k l (nearP l (i : Nat) (ds.drop j) out q).1 (i : Nat) (nearP l (i : Nat) (ds.drop j) out q).2) r → Ev (fun k => spec_l02Parts.l3 k l out (i : Nat) q ds (j : Nat)) r := by
 intro d
 induction d with
 | zero =>
  intro j hj out q _ _ g
  obtain rfl : j = 4 := by omega
  rw [show ds.drop 4 = [] from List.drop_eq_nil_of_le (by omega)] at g
  refine Ev.step (fun k => ?_) g
  simp only [spec_l02Parts.l3]; rw [if_neg (by omega)]; rfl
 | succ d ih =>
  intro j hj out q ho hq g
  have hjl : j < ds.length := by omega
  rw [drop_at ds j hjl] at g
  have hlt := ixF_lt (at_ ds j).f0 (at_ ds j).f1 l 0
  refine Ev.step (f := fun k => (spec_l02Index.f k l (at_ ds j).f0 (at_ ds j).f1).bind fun t => if 0 ≤ t ∧ rd out t < 0 then spec_l02Parts.l3 k l (out.set t.toNat (i : Nat)) (i : Nat) (q ++ [t]) ds ((j + 1 : Nat) : Int) else if 0 ≤ t ∧ ¬ t < (out.length : Int) then none else spec_l02Parts.l3 k l out (i : Nat) q ds ((j + 1 : Nat) : Int)) (fun k => ?_) ?_
  ·simp only [spec_l02Parts.l3, rd_at]; rw [if_pos (by omega), if_pos (by omega), if_pos (by omega), w64 (x := (j : Int) + 1) (by omega) (by omega)]
   have hq9 : q.length < 17592186044416 := by omega
   congr 1; funext t
   by_cases t0 : 0 ≤ t
   ·by_cases t1 : t < (out.length : Int)
    ·rw [if_pos (show t ≥ 0 from t0), if_pos t0, if_pos t1]
     by_cases t2 : rd out t < 0
     ·rw [if_pos t2, if_pos hq9, if_pos (show 0 ≤ t ∧ rd out t < 0 from ⟨t0, t2⟩)]; rfl
     ·rw [if_neg t2, if_neg (fun g => t2 g.2), if_neg (fun g => g.2 t1)]; rfl
    ·rw [if_pos (show t ≥ 0 from t0), if_pos t0, if_neg t1]
     have t2 : ¬ rd out t < 0 := by
      unfold rd; rw [List.getD_eq_getElem?_getD, List.getElem?_eq_none (by omega)]; simp
     rw [if_neg (fun g => t2 g.2), if_pos (show 0 ≤ t ∧ ¬ t < (out.length : Int) from ⟨t0, t1⟩)]
   ·rw [if_neg (show ¬ t ≥ 0 from t0), if_neg (fun g => t0 g.1), if_neg (fun g => t0 g.1)]; rfl
  ·refine Ev.bind (f := fun k t => if 0 ≤ t ∧ rd out t < 0 then spec_l02Parts.l3 k l (out.set t.toNat (i : Nat)) (i : Nat) (q ++ [t]) ds ((j + 1 : Nat) : Int) else if 0 ≤ t ∧ ¬ t < (out.length : Int) then none else spec_l02Parts.l3 k l out (i : Nat) q ds ((j + 1 : Nat) : Int)) (specIx_ev l _ _ (by omega)) ?_
   by_cases c : 0 ≤ ixF 0 l (at_ ds j).f0 (at_ ds j).f1 ∧ rd out (ixF 0 l (at_ ds j).f0 (at_ ds j).f1) < 0
   ·simp only [if_pos c]
    have e : nearP l (i : Nat) (at_ ds j :: ds.drop (j + 1)) out q = nearP l (i : Nat) (ds.drop (j + 1)) (out.set (ixF 0 l (at_ ds j).f0 (at_ ds j).f1).toNat (i : Nat)) (q ++ [ixF 0 l (at_ ds j).f0 (at_ ds j).f1]) := by
     show (if _ then _ else _) = _
     rw [if_pos c]
    rw [e] at g
    refine ih (j + 1) (by omega) _ _ ⟨by rw [List.length_set]; exact ho.1, fun x hx => ?_⟩ (by rw [List.length_append, List.length_singleton]; omega) g
    rcases List.mem_append.1 hx with hx | hx
    ·exact ho.2 x hx
    ·rw [List.mem_singleton] at hx; rw [hx]; omega
   ·have e : nearP l (i : Nat) (at_ ds j :: ds.drop (j + 1)) out q = nearP l (i : Nat) (ds.drop (j + 1)) out q := by
     show (if _ then _ else _) = _
     rw [if_neg c]
    rw [e] at g
    simp only [if_neg c]
    simp only [if_neg (show ¬ (0 ≤ ixF 0 l (at_ ds j).f0 (at_ ds j).f1 ∧ ¬ ixF 0 l (at_ ds j).f0 (at_ ds j).f1 < (out.length : Int)) from fun g => g.2 (by rw [ho.1]; omega))]
    exact ih (j + 1) (by omega) _ _ ho (by omega) g
theorem sparts_l2 (l : List C) (hl : l.length ≤ 10000) (hw : Wi 1000000 l) (i : Nat) (r : List Int) : ∀ (n : Nat) (out q : List Int), QOk l out q → negs out + q.length ≤ n → n ≤ 20000 →
  Ev (fun k => spec_l02Parts.l1 k l (bfsP l (i : Nat) n out q) (wrap64 ((i : Int) + 1))) r → Ev (fun k => spec_l02Parts.l2 k l out (i : Nat) q) r := by
 have stop : ∀ (out : List Int), Ev (fun k => spec_l02Parts.l1 k l out (wrap64 ((i : Int) + 1))) r → Ev (fun k => spec_l02Parts.l2 k l out (i : Nat) []) r := by
  intro out g
  refine Ev.step (fun k => ?_) g
  simp only [spec_l02Parts.l2, List.length_nil]; rw [if_neg (by omega)]
 intro n
 induction n with
 | zero =>
  intro out q ho hn _ g
  obtain rfl : q = [] := List.length_eq_zero_iff.1 (by omega)
  exact stop out g
 | succ n ih =>
  intro out q ho hn hn2 g
  cases q with
  | nil => exact stop out g
  | cons a q =>
   obtain ⟨a0, a1⟩ := ho.2 a List.mem_cons_self
   obtain ⟨m, rfl⟩ := Int.eq_ofNat_of_zero_le a0
   have ho2 : QOk l out q := ⟨ho.1, fun x hx => ho.2 x (List.mem_cons_of_mem _ hx)⟩
   obtain ⟨o1, o2⟩ := nearP_ok l (i : Nat) (by omega) (nbrs (at_ l m)) out q ho2
   rw [List.length_cons] at hn
   have w := hw _ (at_mem l m (by omega))
   refine Ev.step (f := fun k => spec_l02Parts.l3 k l out (i : Nat) q (nbrs (at_ l m)) ((0 : Nat) : Int)) (fun k => ?_) ?_
   ·have e0 : rd ((m : Int) :: q) 0 = (m : Int) := rfl
    simp only [spec_l02Parts.l2, e0, rd_at, spec_l02Around.f, Option.bind_some, List.length_cons]
    rw [if_pos (by omega), if_pos (by omega), if_pos (by omega), if_pos (by omega), if_pos (by omega), w64 (x := (at_ l m).f1 - 1) (by omega) (by omega), w64 (x := (at_ l m).f0 - 1) (by omega) (by omega), w64 (x := (at_ l m).f0 + 1) (by omega) (by omega), w64 (x := (at_ l m).f1 + 1) (by omega) (by omega)]; rfl
   ·refine sparts_l3 l hl i _ rfl r 4 0 (by omega) out q ho2 (by have := negs_le out; omega) ?_
    rw [List.drop_zero]
    exact ih _ _ o1 (by omega) (by omega) g
theorem sparts_l1 (l : List C) (hl : l.length ≤ 10000) (hw : Wi 1000000 l) : ∀ (d i : Nat) (out : List Int), i + d = l.length → out.length = l.length → Ev (fun k => spec_l02Parts.l1 k l out (i : Nat)) (outerP l d i out) := by
 intro d
 induction d with
 | zero =>
  intro i out hi ho
  refine Ev.step (fun k => ?_) (Ev.now _)
  simp only [spec_l02Parts.l1]; rw [if_neg (by omega)]; rfl
 | succ d ih =>
  intro i out hi ho
  unfold outerP
  by_cases c : rd out (i : Nat) ≥ 0
  ·rw [if_pos c]
   refine Ev.step (fun k => ?_) (ih (i + 1) out (by omega) ho)
   simp only [spec_l02Parts.l1]; rw [if_pos (by omega), if_pos (by omega), if_pos (by omega), if_pos c, w64 (by omega) (by omega)]; rfl
  ·rw [if_neg c]
   have hs := outer_start l out i (by omega) ho
   have hn := negs_set out i (by omega) (i : Nat) (by omega) (by omega)
   have hle := negs_le out
   have g := ih (i + 1) _ (by omega) (bfsP_length l (i : Nat) (by omega) (l.length + 1) _ _ hs)
   refine Ev.step (f := fun k => spec_l02Parts.l2 k l (out.set i (i : Nat)) (i : Nat) [(i : Int)]) (fun k => ?_) (sparts_l2 l hl hw i _ (l.length + 1) _ _ hs (by rw [List.length_singleton]; omega) (by omega) ?_)
   ·simp only [spec_l02Parts.l1]; rw [if_pos (by omega), if_pos (by omega), if_pos (by omega), if_neg c]; rfl
   ·rw [w64 (by omega) (by omega)]; exact g
theorem specParts_ev (l : List C) (hl : l.length ≤ 10000) (hw : Wi 1000000 l) : Ev (fun k => spec_l02Parts.f k l) (partsP l) := by
 unfold spec_l02Parts.f
 have key : ∀ d j : Nat, j + d = l.length → Ev (fun k => spec_l02Parts.l0 k l (List.replicate j (-1)) (j : Nat)) (partsP l) := by
  intro d
  induction d with
  | zero =>
   intro j hj
   obtain rfl : j = l.length := by omega
   refine Ev.step (fun k => ?_) (sparts_l1 l hl hw l.length 0 (List.replicate l.length (-1)) (by omega) (by simp))
   simp only [spec_l02Parts.l0]; rw [if_neg (by omega)]; rfl
  | succ d ih =>
   intro j hj
   refine Ev.step (fun k => ?_) (ih (j + 1) (by omega))
   simp only [spec_l02Parts.l0, List.length_replicate]; rw [if_pos (by omega), if_pos (by omega), w64 (by omega) (by omega), ← List.replicate_succ']; rfl
 exact key l.length 0 (by omega)
theorem plN_ix (l : List C) (hn : l.Nodup) (x y : Int) : ∀ n, n ≤ l.length → plN_ l n x y = (if 0 ≤ ixF 0 l x y ∧ ixF 0 l x y < (n : Int) then some (ixF 0 l x y).toNat else none) := by
 intro n
 induction n with
 | zero => intro _; rw [if_neg (by omega)]; rfl
 | succ n ih =>
  intro hl
  show (if (rd_T39 l (n : Nat)).f0 = x ∧ (rd_T39 l (n : Nat)).f1 = y then some n else plN_ l n x y) = _
  rw [rd_at]
  by_cases c : (at_ l n).f0 = x ∧ (at_ l n).f1 = y
  ·rw [if_pos c]
   have hm : (⟨x, y⟩ : C) ∈ l := by
    have := at_mem l n (by omega)
    have e : at_ l n = ⟨x, y⟩ := by
     generalize at_ l n = z at *
     cases z; cases c.1; cases c.2; rfl
    rwa [e] at this
   have h0 := (ixF_mem x y l 0).2 hm
   obtain ⟨m, m1, m2, m3⟩ := ixF_val x y l 0 h0
   have e : m = n := by
    have e1 : at_ l m = at_ l n := by
     rw [m3]; generalize at_ l n = z at *; cases z; cases c.1; cases c.2; rfl
    rw [at_get l m m1, at_get l n (by omega)] at e1
    have hp := List.pairwise_iff_getElem.1 (List.nodup_iff_pairwise_ne.1 hn)
    rcases Nat.lt_trichotomy m n with g | g | g
    ·exact absurd e1 (hp m n m1 (by omega) g)
    ·exact g
    ·exact absurd e1.symm (hp n m (by omega) m1 g)
   subst e
   rw [m2, if_pos (by omega)]
   congr 1; omega
  ·rw [if_neg c, ih (by omega)]
   by_cases h : 0 ≤ ixF 0 l x y ∧ ixF 0 l x y < (n : Int)
   ·rw [if_pos h, if_pos (by omega)]
   ·rw [if_neg h, if_neg]
    rintro ⟨h0, h1⟩
    obtain ⟨m, m1, m2, m3⟩ := ixF_val x y l 0 h0
    have : m = n := by omega
    subst this
    exact c (by rw [m3]; exact ⟨rfl, rfl⟩)
theorem iparts_near (l : List C) (hn : l.Nodup) (i : Int) (hi : 0 ≤ i) : ∀ (ds : List C) (out q : List Int), QOk l out q → q.length + ds.length ≤ 100000 → impl_parts.near l i ds out q = some (nearP l i ds out q) := by
 intro ds
 induction ds with
 | nil => intro out q _ _; rfl
 | cons d r ih =>
  intro out q ho hq
  rw [List.length_cons] at hq
  have hlt := ixF_lt d.f0 d.f1 l 0
  show (match plN_ l l.length d.f0 d.f1 with
   | some j => if rd out (j : Nat) < 0 then (if q.length < 1000000 then impl_parts.near l i r (out.set j i) (q ++ [(j : Int)]) else none) else impl_parts.near l i r out q
   | none => impl_parts.near l i r out q) = _
  rw [plN_ix l hn d.f0 d.f1 l.length (Nat.le_refl _)]
  unfold nearP
  by_cases c : 0 ≤ ixF 0 l d.f0 d.f1
  ·rw [if_pos (by omega)]
   obtain ⟨m, hm⟩ := Int.eq_ofNat_of_zero_le c
   rw [hm] at hlt ⊢
   simp only [Int.toNat_natCast]
   by_cases c2 : rd out (m : Nat) < 0
   ·rw [if_pos c2, if_pos (by omega), if_pos (by omega)]
    refine ih _ _ ⟨by rw [List.length_set]; exact ho.1, fun x hx => ?_⟩ (by rw [List.length_append, List.length_singleton]; omega)
    rcases List.mem_append.1 hx with hx | hx
    ·exact ho.2 x hx
    ·rw [List.mem_singleton] at hx; rw [hx]; omega
   ·rw [if_neg c2, if_neg (by omega)]
    exact ih _ _ ho (by omega)
  ·rw [if_neg (by omega), if_neg (by omega)]
   exact ih _ _ ho (by omega)
theorem iparts_bfs (l : List C) (hl : l.length ≤ 10000) (hn : l.Nodup) (hw : Wi 1000000 l) (i : Int) (hi : 0 ≤ i) : ∀ (n : Nat) (a : Nat) (out q : List Int), a ≤ q.length → q.length ≤ 40000 → QOk l out q → negs out + (q.length - a) ≤ n → negs out + q.length ≤ 40000 →
  Ev (fun k => impl_parts.bfs k l i a out q) (bfsP l i n out (q.drop a)) := by
 have stop : ∀ (a : Nat) (out q : List Int), ¬ a < q.length → Ev (fun k => impl_parts.bfs k l i a out q) out := by
  intro a out q h
  refine Ev.step (f := fun _ => some out) (fun k => ?_) (Ev.now _)
  simp only [impl_parts.bfs]; rw [if_neg h]
 intro n
 induction n with
 | zero => intro a out q ha _ ho h _; exact stop a out q (by omega)
 | succ n ih =>
  intro a out q ha hq ho h hh
  by_cases c : a < q.length
  ·obtain ⟨a0, a1⟩ := ho.2 _ (List.getElem_mem c)
   obtain ⟨m, hm⟩ := Int.eq_ofNat_of_zero_le a0
   have hr : rd q (a : Nat) = (m : Int) := by rw [rd_nat q a c]; exact hm
   rw [hm] at a1
   have hd : q.drop a = (m : Int) :: q.drop (a + 1) := by rw [List.drop_eq_getElem_cons c, hm]
   rw [hd]
   have w := hw _ (at_mem l m (by omega))
   obtain ⟨o1, o2⟩ := nearP_ok l i hi (nbrs (at_ l m)) out q ho
   have hline := nearP_line l i (nbrs (at_ l m)) out (q.drop (a + 1)) (q.take (a + 1))
   rw [List.take_append_drop] at hline
   have e2 : (nearP l i (nbrs (at_ l m)) out q).2 = q.take (a + 1) ++ (nearP l i (nbrs (at_ l m)) out (q.drop (a + 1))).2 := by rw [hline]
   have e1 : (nearP l i (nbrs (at_ l m)) out q).1 = (nearP l i (nbrs (at_ l m)) out (q.drop (a + 1))).1 := by rw [hline]
   have htl : (q.take (a + 1)).length = a + 1 := by rw [List.length_take]; omega
   have e3 : (nearP l i (nbrs (at_ l m)) out q).2.drop (a + 1) = (nearP l i (nbrs (at_ l m)) out (q.drop (a + 1))).2 := by
    rw [e2, List.drop_append, htl, Nat.sub_self, List.drop_zero, List.drop_eq_nil_of_le (by omega), List.nil_append]
   have hge : a + 1 ≤ (nearP l i (nbrs (at_ l m)) out q).2.length := by rw [e2, List.length_append, htl]; omega
   have g := ih (a + 1) (nearP l i (nbrs (at_ l m)) out q).1 (nearP l i (nbrs (at_ l m)) out q).2 hge (by omega) o1 (by omega) (by omega)
   rw [e3, e1] at g
   refine Ev.step (f := fun k => impl_parts.bfs k l i (a + 1) (nearP l i (nbrs (at_ l m)) out q).1 (nearP l i (nbrs (at_ l m)) out q).2) (fun k => ?_) (by rw [e1]; exact g)
   simp only [impl_parts.bfs, hr, rd_at, impl_around.f, Option.bind_some]
   rw [if_pos c, if_pos (by omega), if_pos a1, w64 (x := (at_ l m).f1 - 1) (by omega) (by omega), w64 (x := (at_ l m).f0 - 1) (by omega) (by omega), w64 (x := (at_ l m).f0 + 1) (by omega) (by omega), w64 (x := (at_ l m).f1 + 1) (by omega) (by omega)]
   have en := iparts_near l hn i hi (nbrs (at_ l m)) out q ho (by show q.length + 4 ≤ _; omega)
   rw [show nbrs (at_ l m) = [⟨(at_ l m).f0, (at_ l m).f1 - 1⟩, ⟨(at_ l m).f0 - 1, (at_ l m).f1⟩, ⟨(at_ l m).f0 + 1, (at_ l m).f1⟩, ⟨(at_ l m).f0, (at_ l m).f1 + 1⟩] from rfl] at en ⊢
   rw [en, Option.bind_some]
  ·rw [List.drop_eq_nil_of_le (by omega)]
   exact stop a out q c
theorem iparts_outer (l : List C) (hl : l.length ≤ 10000) (hn : l.Nodup) (hw : Wi 1000000 l) : ∀ (d i : Nat) (out : List Int), i + d = l.length → out.length = l.length → Ev (fun k => impl_parts.outer k l d i out) (outerP l d i out) := by
 intro d
 induction d with
 | zero => intro i out _ _; exact Ev.now _
 | succ d ih =>
  intro i out hi ho
  unfold outerP impl_parts.outer
  by_cases c : rd out (i : Nat) ≥ 0
  ·simp only [if_pos c]; exact ih (i + 1) out (by omega) ho
  ·simp only [if_neg c]
   have hs := outer_start l out i (by omega) ho
   have hng := negs_set out i (by omega) (i : Nat) (by omega) (by omega)
   have hle := negs_le out
   have g := iparts_bfs l hl hn hw (i : Nat) (by omega) (l.length + 1) 0 _ _ (by simp) (by simp) hs (by simp; omega) (by simp; omega)
   rw [List.drop_zero] at g
   exact Ev.bind (f := fun k out => impl_parts.outer k l d (i + 1) out) g (ih (i + 1) _ (by omega) (bfsP_length l (i : Nat) (by omega) (l.length + 1) _ _ hs))
theorem implParts_ev (l : List C) (hl : l.length ≤ 10000) (hn : l.Nodup) (hw : Wi 1000000 l) : Ev (fun k => impl_parts.f k l) (partsP l) := by
 unfold impl_parts.f
 have hwf : wfC_ l = true := by
  unfold wfC_
  rw [List.all_eq_true]
  intro c hc
  exact decide_eq_true (hw c hc)
 simp only [if_pos (show l.length ≤ 1000000 by omega), hwf, if_true]
 exact iparts_outer l hl hn hw l.length 0 _ (by omega) (by simp)
structure GOk (l : List C) (i : Nat) (out : List Int) : Prop where
 len : out.length = l.length
 low : ∀ j, j < i → j < l.length → 0 ≤ rd out (j : Nat)
 val : ∀ j, j < l.length → 0 ≤ rd out (j : Nat) → ∃ v : Nat, rd out (j : Nat) = (v : Int) ∧ v ≤ j ∧ rd out (v : Nat) = (v : Int)
def Grow (l : List C) (i : Nat) (out out' : List Int) : Prop := out'.length = out.length ∧ ∀ j, j < l.length → (rd out' (j : Nat) = rd out (j : Nat)) ∨ (rd out (j : Nat) < 0 ∧ rd out' (j : Nat) = (i : Int))
theorem Grow.refl (l : List C) (i : Nat) (out : List Int) : Grow l i out out := ⟨rfl, fun _ _ => Or.inl rfl⟩
theorem Grow.trans {l : List C} {i : Nat} {a b c : List Int} (h : Grow l i a b) (g : Grow l i b c) : Grow l i a c := by
 refine ⟨g.1.trans h.1, fun j hj => ?_⟩
 rcases h.2 j hj with h1 | h1 <;> rcases g.2 j hj with g1 | g1
 ·exact Or.inl (g1.trans h1)
 ·exact Or.inr ⟨by rw [← h1]; exact g1.1, g1.2⟩
 ·exact Or.inr ⟨h1.1, g1.trans h1.2⟩
 ·exact Or.inr ⟨h1.1, g1.2⟩
theorem nearP_grow (l : List C) (i : Nat) : ∀ (ds : List C) (out q : List Int), QOk l out q → Grow l i out (nearP l (i : Nat) ds out q).1 := by
 intro ds
 induction ds with
 | nil => intro out q _; exact Grow.refl _ _ _
 | cons d r ih =>
  intro out q h
  unfold nearP
  by_cases c : 0 ≤ ixF 0 l d.f0 d.f1 ∧ rd out (ixF 0 l d.f0 d.f1) < 0
  ·rw [if_pos c]
   have hlt := ixF_lt d.f0 d.f1 l 0
   obtain ⟨m, hm⟩ := Int.eq_ofNat_of_zero_le c.1
   rw [hm] at c hlt ⊢
   rw [Int.toNat_natCast]
   refine Grow.trans ⟨by rw [List.length_set], fun j hj => ?_⟩ (ih (out.set m (i : Nat)) (q ++ [(m : Int)]) ⟨by rw [List.length_set]; exact h.1, fun x hx => ?_⟩)
   ·rw [rdn_set out m j _ (by rw [h.1]; exact hj)]
    by_cases g : m = j
    ·subst g; rw [if_pos rfl]; exact Or.inr ⟨c.2, rfl⟩
    ·rw [if_neg g]; exact Or.inl rfl
   ·rcases List.mem_append.1 hx with hx | hx
    ·exact h.2 x hx
    ·rw [List.mem_singleton] at hx; rw [hx]; omega
  ·rw [if_neg c]; exact ih out q h
theorem bfsP_grow (l : List C) (i : Nat) : ∀ (n : Nat) (out q : List Int), QOk l out q → Grow l i out (bfsP l (i : Nat) n out q) := by
 intro n
 induction n with
 | zero => intro out q _; exact Grow.refl _ _ _
 | succ n ih =>
  intro out q h
  cases q with
  | nil => exact Grow.refl _ _ _
  | cons a q =>
   have h2 : QOk l out q := ⟨h.1, fun x hx => h.2 x (List.mem_cons_of_mem _ hx)⟩
   exact (nearP_grow l i _ out q h2).trans (ih _ _ (nearP_ok l (i : Nat) (by omega) _ out q h2).1)
theorem outer_grow (l : List C) (i : Nat) (hi : i < l.length) (out : List Int) (ho : GOk l i out) (c : ¬ rd out (i : Nat) ≥ 0) : Grow l i out (bfsP l (i : Nat) (l.length + 1) (out.set i (i : Nat)) [(i : Int)]) := by
 refine Grow.trans ⟨by rw [List.length_set], fun j hj => ?_⟩ (bfsP_grow l i _ _ _ (outer_start l out i hi ho.len))
 rw [rdn_set out i j _ (by rw [ho.len]; exact hj)]
 by_cases g : i = j
 ·subst g; rw [if_pos rfl]; exact Or.inr ⟨by omega, rfl⟩
 ·rw [if_neg g]; exact Or.inl rfl
theorem bfs_start (l : List C) (i : Nat) (hi : i < l.length) (out : List Int) (ho : out.length = l.length) : rd (bfsP l (i : Nat) (l.length + 1) (out.set i (i : Nat)) [(i : Int)]) (i : Nat) = (i : Int) := by
 rcases (bfsP_grow l i (l.length + 1) _ _ (outer_start l out i hi ho)).2 i hi with h | h
 ·rw [h, rdn_set out i i _ (by omega), if_pos rfl]
 ·exact h.2
theorem gok_step (l : List C) (i : Nat) (hi : i < l.length) (out : List Int) (ho : GOk l i out) : GOk l (i + 1) (if rd out (i : Nat) ≥ 0 then out else bfsP l (i : Nat) (l.length + 1) (out.set i (i : Nat)) [(i : Int)]) := by
 by_cases c : rd out (i : Nat) ≥ 0
 ·rw [if_pos c]
  exact ⟨ho.len, fun j hj hj2 => if g : j = i then by rw [g]; exact c else ho.low j (by omega) hj2, ho.val⟩
 ·rw [if_neg c]
  have hg := outer_grow l i hi out ho c
  have hst := bfs_start l i hi out ho.len
  generalize bfsP l (i : Nat) (l.length + 1) (out.set i (i : Nat)) [(i : Int)] = z at *
  have keep : ∀ j, j < l.length → 0 ≤ rd out (j : Nat) → rd z (j : Nat) = rd out (j : Nat) := fun j hj h0 => by
   rcases hg.2 j hj with h | h
   ·exact h
   ·omega
  refine ⟨hg.1.trans ho.len, fun j hj hj2 => ?_, fun j hj h0 => ?_⟩
  ·by_cases g : j = i
   ·subst g; rw [hst]; omega
   ·rw [keep j hj2 (ho.low j (by omega) hj2)]; exact ho.low j (by omega) hj2
  ·rcases hg.2 j hj with h | h
   ·rw [h] at h0 ⊢
    obtain ⟨v, v1, v2, v3⟩ := ho.val j hj h0
    exact ⟨v, v1, v2, by rw [keep v (by omega) (by omega)]; exact v3⟩
   ·refine ⟨i, h.2, ?_, hst⟩
    by_cases g : j < i
    ·have := ho.low j g hj; omega
    ·omega
theorem outerP_gok (l : List C) : ∀ (d i : Nat) (out : List Int), i + d = l.length → GOk l i out → GOk l l.length (outerP l d i out) := by
 intro d
 induction d with
 | zero =>
  intro i out hi h
  obtain rfl : i = l.length := by omega
  exact h
 | succ d ih => intro i out hi h; exact ih (i + 1) _ (by omega) (gok_step l i (by omega) out h)
theorem partsP_gok (l : List C) : GOk l l.length (partsP l) := by
 refine outerP_gok l l.length 0 _ (by omega) ⟨by simp, fun j hj => by omega, fun j hj h => ?_⟩
 rw [rd_nat _ j (by simpa using hj), List.getElem_replicate] at h
 omega
theorem partsP_nonneg (l : List C) : ∀ x ∈ partsP l, 0 ≤ x := by
 intro x hx
 obtain ⟨i, hi, rfl⟩ := List.mem_iff_getElem.1 hx
 rw [← rd_nat _ i hi]
 rw [partsP_length] at hi
 exact (partsP_gok l).low i hi hi
theorem sh_nodup {l : List C} (h : Sh l) : l.Nodup := by
 rw [List.nodup_iff_pairwise_ne, List.pairwise_iff_getElem]
 intro i j hi hj hij e
 have := h.lt i j hij hj
 rw [at_get l i hi, at_get l j hj, e] at this
 exact ltC_irrefl this
theorem sh_wi {l : List C} (h : Sh l) : Wi 100 l := fun c hc => h.ok hc
theorem wi_big {l : List C} {b : Int} (h : Wi b l) (hb : b ≤ 1000000) : Wi 1000000 l := fun c hc => by have := h c hc; omega
def oneP (l : List Int) : Bool := decide (∀ x ∈ l, x = 0)
theorem specOne_ev (l : List Int) (hl : l.length ≤ 1048576) : Ev (fun k => spec_l02One.f k l) (oneP l) := by
 unfold spec_l02One.f
 have key : ∀ d j : Nat, j + d = l.length → (∀ i, i < j → rd l (i : Nat) = 0) → Ev (fun k => spec_l02One.l0 k l (j : Nat)) (oneP l) := by
  intro d
  induction d with
  | zero =>
   intro j hj h
   have e : oneP l = true := decide_eq_true fun x hx => by
    obtain ⟨i, hi, rfl⟩ := List.mem_iff_getElem.1 hx
    rw [← rd_nat l i hi]; exact h i (by omega)
   rw [e]
   refine Ev.step (f := fun _ => some true) (fun k => ?_) (Ev.now _)
   simp only [spec_l02One.l0]; rw [if_neg (by omega)]
  | succ d ih =>
   intro j hj h
   by_cases c : rd l (j : Nat) = 0
   ·refine Ev.step (fun k => ?_) (ih (j + 1) (by omega) (fun i hi => if g : i = j then by rw [g]; exact c else h i (by omega)))
    simp only [spec_l02One.l0]; rw [if_pos (by omega), if_pos (by omega), if_pos c, w64 (by omega) (by omega)]; rfl
   ·have e : oneP l = false := decide_eq_false fun g => c (by rw [rd_nat l j (by omega)]; exact g _ (List.getElem_mem _))
    rw [e]
    refine Ev.step (f := fun _ => some false) (fun k => ?_) (Ev.now _)
    simp only [spec_l02One.l0]; rw [if_pos (by omega), if_pos (by omega), if_neg c]
 exact key l.length 0 (by omega) (fun i hi => by omega)
theorem implMax_ev (l : List Int) (hl : l.length ≤ 1048576) (h0 : 0 < l.length) (hp : ∀ x ∈ l, 0 ≤ x) : ∃ m, Ev (fun k => slices_Max_int64.f k l) m ∧ (m == 0) = oneP l := by
 have key : ∀ d j : Nat, j + d = l.length → ∀ s : Int, 0 ≤ s → ∃ m, Ev (fun k => slices_Max_int64.l0 k l s (j : Nat)) m ∧ 0 ≤ m ∧ (m = 0 ↔ s = 0 ∧ ∀ i, j ≤ i → i < l.length → rd l (i : Nat) = 0) := by
  intro d
  induction d with
  | zero =>
   intro j hj s hs
   refine ⟨s, Ev.step (f := fun _ => some s) (fun k => ?_) (Ev.now _), hs, fun h => ⟨h, fun i hi hi2 => by omega⟩, fun h => h.1⟩
   simp only [slices_Max_int64.l0]; rw [if_neg (by omega)]
  | succ d ih =>
   intro j hj s hs
   have hx : 0 ≤ rd l (j : Nat) := by rw [rd_nat l j (by omega)]; exact hp _ (List.getElem_mem _)
   have hmx : 0 ≤ mx s (rd l (j : Nat)) ∧ (mx s (rd l (j : Nat)) = 0 ↔ s = 0 ∧ rd l (j : Nat) = 0) := by unfold mx; split <;> omega
   obtain ⟨m, h1, h2, h3⟩ := ih (j + 1) (by omega) _ hmx.1
   refine ⟨m, Ev.step (fun k => ?_) h1, h2, ?_⟩
   ·simp only [slices_Max_int64.l0]; rw [if_pos (by omega), if_pos (by omega), w64 (by omega) (by omega)]; rfl
   ·rw [h3, hmx.2]
    constructor
    ·rintro ⟨⟨a, b⟩, c⟩
     exact ⟨a, fun i hi hi2 => if g : i = j then by rw [g]; exact b else c i (by omega) hi2⟩
    ·rintro ⟨a, c⟩
     exact ⟨⟨a, c j (Nat.le_refl _) (by omega)⟩, fun i hi hi2 => c i (by omega) hi2⟩
 have hx : 0 ≤ rd l ((0 : Nat) : Int) := by rw [rd_nat l 0 h0]; exact hp _ (List.getElem_mem _)
 obtain ⟨m, h1, h2, h3⟩ := key (l.length - 1) 1 (by omega) (rd l ((0 : Nat) : Int)) hx
 refine ⟨m, ?_, ?_⟩
 ·unfold slices_Max_int64.f
  simp only [if_neg (show ¬ (l.length : Int) < 1 by omega), if_pos (show (0 : Int) < (l.length : Int) by omega)]
  exact h1
 ·have e : (m = 0) ↔ ∀ x ∈ l, x = 0 := by
   rw [h3]
   constructor
   ·rintro ⟨a, b⟩ x hx
    obtain ⟨i, hi, rfl⟩ := List.mem_iff_getElem.1 hx
    rw [← rd_nat l i hi]
    by_cases g : i = 0
    ·subst g; exact a
    ·exact b i (by omega) hi
   ·intro h
    exact ⟨by rw [rd_nat l 0 h0]; exact h _ (List.getElem_mem _), fun i _ hi => by rw [rd_nat l i hi]; exact h _ (List.getElem_mem _)⟩
  unfold oneP
  by_cases c : m = 0
  ·rw [decide_eq_true (e.1 c), c]; rfl
  ·rw [decide_eq_false (fun g => c (e.2 g))]; exact beq_eq_false_iff_ne.mpr c
theorem implConnected_ev (l : List C) (hl : l.length ≤ 10000) (h0 : 0 < l.length) (hn : l.Nodup) (hw : Wi 1000000 l) : Ev (fun k => impl_connected.f k l) (oneP (partsP l)) := by
 obtain ⟨m, h1, h2⟩ := implMax_ev (partsP l) (by rw [partsP_length]; omega) (by rw [partsP_length]; omega) (partsP_nonneg l)
 unfold impl_connected.f
 refine Ev.bind (f := fun k t233 => ((slices_Max_int64.f k t233).bind fun t236 => (some (t236 == 0)))) (implParts_ev l hl hn hw) ?_
 rw [← h2]
 exact Ev.bind (f := fun _ t236 => some (t236 == 0)) h1 (Ev.now _)
noncomputable def connP (l : List C) : Bool := shB l && oneP (partsP l)
theorem specConn_ev (l : List C) (hl : l.length ≤ 1048576) : Ev (fun k => spec_IsConnected.f k l) (connP l) := by
 unfold spec_IsConnected.f connP
 refine Ev.bind (f := fun k t203 => (if t203 = true then ((spec_l02Parts.f k l).bind fun t204 => ((spec_l02One.f k t204).bind fun t207 => (some t207))) else (some false))) (specShape_ev l hl) ?_
 rcases sh_cases l with ⟨hs, hb⟩ | ⟨hs, hb⟩
 ·rw [hb]; simp only [if_true, Bool.true_and]
  have h40 := hs.2.1
  refine Ev.bind (f := fun k t204 => ((spec_l02One.f k t204).bind fun t207 => (some t207))) (specParts_ev l (by omega) (wi_big (sh_wi hs) (by omega))) ?_
  exact Ev.bind (f := fun _ t207 => some t207) (specOne_ev _ (by rw [partsP_length]; omega)) (Ev.now _)
 ·rw [hb]; simp only [Bool.false_eq_true, if_false, Bool.false_and]; exact Ev.now _
theorem implConn_ev (l : List C) (hl : l.length ≤ 1048576) : Ev (fun k => impl_IsConnected.f k l) (connP l) := by
 unfold impl_IsConnected.f connP
 refine Ev.bind (f := fun k t241 => (if t241 = true then ((impl_connected.f k l).bind fun t242 => (some t242)) else (some false))) (implShape_ev l hl) ?_
 rcases sh_cases l with ⟨hs, hb⟩ | ⟨hs, hb⟩
 ·rw [hb]; simp only [if_true, Bool.true_and]
  have h40 := hs.2.1
  exact Ev.bind (f := fun _ t242 => some t242) (implConnected_ev l (by omega) hs.1 (sh_nodup hs) (wi_big (sh_wi hs) (by omega))) (Ev.now _)
 ·rw [hb]; simp only [Bool.false_eq_true, if_false, Bool.false_and]; exact Ev.now _
theorem icode_ev (l : List C) (hl : l.length ≤ 1048576) : Ev (fun k => impl_shapeCode.f k l) (codeP l) := by
 unfold impl_shapeCode.f codeP
 rcases sh_cases l with ⟨hs, hb⟩ | ⟨hs, hb⟩
 ·refine Ev.bind (f := fun k t => if t = true then ((impl_normal.f k l).bind fun t540 => ((impl_IsShape.f k t540).bind fun t543 => (if t543 = true then (some 0) else (some 3)))) else (some 1)) (implShape_ev l hl) ?_
  simp only [hb, if_true]
  refine Ev.bind (f := fun k t540 => ((impl_IsShape.f k t540).bind fun t543 => (if t543 = true then (some 0) else (some 3)))) (implNorm_ev l hs.1 hl) ?_
  refine Ev.bind (f := fun k t543 => (if t543 = true then (some (0 : Int)) else (some 3))) (implShape_ev (normL l) (by rw [normL_length]; exact hl)) ?_
  cases shB (normL l) <;> exact Ev.now _
 ·refine Ev.bind (f := fun k t => if t = true then ((impl_normal.f k l).bind fun t540 => ((impl_IsShape.f k t540).bind fun t543 => (if t543 = true then (some 0) else (some 3)))) else (some 1)) (implShape_ev l hl) ?_
  simp only [hb, Bool.false_eq_true, if_false]; exact Ev.now _
noncomputable def ccP (l : List C) : Int := if connP l = true then codeP l else 1
theorem implCc_ev (l : List C) (hl : l.length ≤ 1048576) : Ev (fun k => impl_connectedCode.f k l) (ccP l) := by
 unfold impl_connectedCode.f ccP
 refine Ev.bind (f := fun k t => if t = true then ((impl_shapeCode.f k l).bind fun c => some c) else some 1) (implConn_ev l hl) ?_
 by_cases c : connP l = true
 ·simp only [if_pos c]; exact Ev.bind (f := fun _ c => some c) (icode_ev l hl) (Ev.now _)
 ·simp only [if_neg c]; exact Ev.now _
theorem specCc_ev (l : List C) (hl : l.length ≤ 1048576) : Ev (fun k => spec_l05Code.f k l) (ccP l) := by
 unfold spec_l05Code.f ccP
 refine Ev.bind (f := fun k t => if t = true then ((spec_l03Code.f k l).bind fun c => some c) else some 1) (specConn_ev l hl) ?_
 by_cases c : connP l = true
 ·simp only [if_pos c]; exact Ev.bind (f := fun _ c => some c) (scode_ev l hl) (Ev.now _)
 ·simp only [if_neg c]; exact Ev.now _
theorem cc_zero {l : List C} (c : ccP l = 0) : Sh l ∧ (∀ x ∈ partsP l, x = 0) ∧ codeP l = 0 := by
 have hconn : connP l = true ∧ codeP l = 0 := by
  unfold ccP at c
  by_cases g : connP l = true
  ·rw [if_pos g] at c; exact ⟨g, c⟩
  ·rw [if_neg g] at c; omega
 have hboth : shB l = true ∧ oneP (partsP l) = true := by
  have := hconn.1
  unfold connP at this
  rw [Bool.and_eq_true] at this; exact this
 have hs : Sh l := by
  rcases sh_cases l with ⟨h, _⟩ | ⟨_, h⟩
  ·exact h
  ·rw [h] at hboth; exact absurd hboth.1 (by simp)
 refine ⟨hs, ?_, hconn.2⟩
 have := hboth.2
 unfold oneP at this
 exact of_decide_eq_true this
theorem reach_ev (l : List C) (h : 0 < l.length) (hl : l.length ≤ 1048576) : Ev (fun k => impl_reach.f k l) (hi l) := by
 unfold impl_reach.f
 simp only [if_pos (show 0 < (l.length : Int) by omega)]
 have e0 : rd_T39 l 0 = at_ l 0 := rd_at l 0
 rw [e0]
 refine ev_fold (fun k (s : Int × Int) j => impl_reach.l0 k l (l.length : Int) j s.1 s.2) l (fun s c => (mx s.1 c.f0, mx s.2 c.f1)) some _ (fun _ _ => True) ?_ ?_ 0 (by omega) ((at_ l 0).f0, (at_ l 0).f1) trivial ?_
 ·intro k s j hj hm _
  refine ⟨?_, trivial⟩
  simp only [impl_reach.l0, rd_at]; rw [if_pos (by omega), if_pos (by omega), if_pos (by omega), w64 (x := (j : Int) + 1) (by omega) (by omega)]; rfl
 ·intro k s _
  simp only [impl_reach.l0]; rw [if_neg (by omega)]
 ·rw [List.drop_zero, foldl_pair (fun s c => mx s c.f0) (fun s c => mx s c.f1)]; rfl
theorem implSize_ev (l : List C) (h : Sh l) : Ev (fun k => impl_sizeOf.f k l) (sz l) := by
 have hn := h.1
 have hm40 := h.2.1
 obtain ⟨c0, hc0, b0⟩ := lo_mem0 (l := l) (by omega)
 obtain ⟨c1, hc1, b1⟩ := lo_mem1 (l := l) (by omega)
 obtain ⟨d0, hd0, e0⟩ := hi_mem0 (l := l) (by omega)
 obtain ⟨d1, hd1, e1⟩ := hi_mem1 (l := l) (by omega)
 have o0 := h.ok hc0
 have o1 := h.ok hc1
 have p0 := h.ok hd0
 have p1 := h.ok hd1
 unfold okC at o0 o1 p0 p1
 obtain ⟨K, h1, h2⟩ := ev2 (corner_ev l (by omega) (by omega)) (reach_ev l (by omega) (by omega))
 refine ⟨K, fun k hk => ?_⟩
 obtain ⟨n, rfl⟩ : ∃ n, k = K + n := ⟨k - K, by omega⟩
 simp only [impl_sizeOf.f, h1, h2, Option.bind_some]
 unfold sz
 rw [w64 (x := (hi l).1 - (lo l).1) (by omega) (by omega), w64 (x := (hi l).2 - (lo l).2) (by omega) (by omega), w64 (by omega) (by omega), w64 (by omega) (by omega)]
theorem specSize_ev (l : List C) (h : Sh l) : Ev (fun k => spec_l04Size.f k l) (sz l) := by
 have hn := h.1
 have hm40 := h.2.1
 unfold spec_l04Size.f
 refine Ev.bind (f := fun k (bt : Int × Int) => spec_l04Size.l0 k l bt.1 bt.2 0 0 0) (least_ev l (by omega) (by omega)) ?_
 obtain ⟨c0, hc0, b0⟩ := lo_mem0 (l := l) (by omega)
 obtain ⟨c1, hc1, b1⟩ := lo_mem1 (l := l) (by omega)
 have o0 := h.ok hc0
 have o1 := h.ok hc1
 unfold okC at o0 o1
 refine ev_fold (fun k (s : Int × Int) j => spec_l04Size.l0 k l (lo l).1 (lo l).2 s.1 s.2 j) l (fun s c => (mx s.1 (wrap64 (wrap64 (c.f0 - (lo l).1) + 1)), mx s.2 (wrap64 (wrap64 (c.f1 - (lo l).2) + 1)))) some _ (fun _ _ => True) ?_ ?_ 0 (by omega) (0, 0) trivial ?_
 ·intro k s j hj hm _
  refine ⟨?_, trivial⟩
  simp only [spec_l04Size.l0, rd_at]; rw [if_pos (by omega), if_pos (by omega), w64 (x := (j : Int) + 1) (by omega) (by omega)]; rfl
 ·intro k s _
  simp only [spec_l04Size.l0]; rw [if_neg (by omega)]
 ·rw [List.drop_zero, foldl_pair (fun s c => mx s (wrap64 (wrap64 (c.f0 - (lo l).1) + 1))) (fun s c => mx s (wrap64 (wrap64 (c.f1 - (lo l).2) + 1)))]
  have wr : ∀ a b : Int, -100 ≤ a → a ≤ 100 → -100 ≤ b → b ≤ 100 → wrap64 (wrap64 (a - b) + 1) = a - b + 1 := by
   intro a b _ _ _ _; rw [w64 (x := a - b) (by omega) (by omega), w64 (by omega) (by omega)]
  have m0 := mxF_spec (fun c => wrap64 (wrap64 (c.f0 - (lo l).1) + 1)) l 0
  have m1 := mxF_spec (fun c => wrap64 (wrap64 (c.f1 - (lo l).2) + 1)) l 0
  have f0 : ∀ c ∈ l, wrap64 (wrap64 (c.f0 - (lo l).1) + 1) = c.f0 - (lo l).1 + 1 := fun c hc => by have := h.ok hc; unfold okC at this; exact wr _ _ (by omega) (by omega) (by omega) (by omega)
  have f1 : ∀ c ∈ l, wrap64 (wrap64 (c.f1 - (lo l).2) + 1) = c.f1 - (lo l).2 + 1 := fun c hc => by have := h.ok hc; unfold okC at this; exact wr _ _ (by omega) (by omega) (by omega) (by omega)
  have a0 : mxF (fun c => wrap64 (wrap64 (c.f0 - (lo l).1) + 1)) l 0 = (hi l).1 - (lo l).1 + 1 := by
   obtain ⟨d, hd, e⟩ := hi_mem0 (l := l) (by omega)
   have g1 := m0.2.1 d hd
   have g2 := (lo_le hd).1
   have g3 := f0 d hd
   simp only [g3] at g1
   rcases m0.2.2 with g | ⟨c, hc, g⟩
   ·omega
   ·have := (le_hi hc).1; have := f0 c hc; replace g := g.trans this; omega
  have a1 : mxF (fun c => wrap64 (wrap64 (c.f1 - (lo l).2) + 1)) l 0 = (hi l).2 - (lo l).2 + 1 := by
   obtain ⟨d, hd, e⟩ := hi_mem1 (l := l) (by omega)
   have g1 := m1.2.1 d hd
   have g2 := (lo_le hd).2
   have g3 := f1 d hd
   simp only [g3] at g1
   rcases m1.2.2 with g | ⟨c, hc, g⟩
   ·omega
   ·have := (le_hi hc).2; have := f1 c hc; replace g := g.trans this; omega
  show some (mxF (fun c => wrap64 (wrap64 (c.f0 - (lo l).1) + 1)) l 0, mxF (fun c => wrap64 (wrap64 (c.f1 - (lo l).2) + 1)) l 0) = _
  rw [a0, a1]; rfl
noncomputable def gsP (l : List C) : List (List C) × Int := if ccP l = 0 then (if (l.length : Int) = 40 then ([], 5) else if (sz l).1 > 100 then ([], 5) else if (sz l).2 > 100 then ([], 5) else (tidyP (growL l), 0)) else ([], ccP l)
theorem implGs_ev (l : List C) (hl : l.length ≤ 1048576) : Ev (fun k => impl_GrowShape.f k l) (gsP l) := by
 unfold impl_GrowShape.f gsP
 refine Ev.bind (f := fun k t => if t = 0 then ((impl_sizeOf.f k l).bind fun z => if (l.length : Int) = 40 then some (([] : List (List C)), 5) else if z.1 > 100 then some (([] : List (List C)), 5) else if z.2 > 100 then some (([] : List (List C)), 5) else (impl_grown.f k l).bind fun q => some (q, (0 : Int))) else some (([] : List (List C)), t)) (implCc_ev l hl) ?_
 by_cases c : ccP l = 0
 ·obtain ⟨hs, _, _⟩ := cc_zero c
  simp only [if_pos c]
  refine Ev.bind (f := fun k (z : Int × Int) => if (l.length : Int) = 40 then some (([] : List (List C)), 5) else if z.1 > 100 then some (([] : List (List C)), 5) else if z.2 > 100 then some (([] : List (List C)), 5) else (impl_grown.f k l).bind fun q => some (q, (0 : Int))) (implSize_ev l hs) ?_
  by_cases c1 : (l.length : Int) = 40
  ·simp only [if_pos c1]; exact Ev.now _
  simp only [if_neg c1]
  by_cases c2 : (sz l).1 > 100
  ·simp only [if_pos c2]; exact Ev.now _
  simp only [if_neg c2]
  by_cases c3 : (sz l).2 > 100
  ·simp only [if_pos c3]; exact Ev.now _
  simp only [if_neg c3]
  exact Ev.bind (f := fun _ q => some (q, (0 : Int))) (implGrown_ev l hs) (Ev.now _)
 ·simp only [if_neg c]; exact Ev.now _
theorem specGs_ev (l : List C) (hl : l.length ≤ 1048576) : Ev (fun k => spec_GrowShape.f k l) (gsP l) := by
 unfold spec_GrowShape.f gsP
 refine Ev.bind (f := fun k t => if t = 0 then ((spec_l04Size.f k l).bind fun z => if (l.length : Int) = 40 then some (([] : List (List C)), 5) else if z.1 > 100 then some (([] : List (List C)), 5) else if z.2 > 100 then some (([] : List (List C)), 5) else (spec_l05Grow.f k ([] : List (List C)) l).bind fun q => some (q, (0 : Int))) else some (([] : List (List C)), t)) (specCc_ev l hl) ?_
 by_cases c : ccP l = 0
 ·obtain ⟨hs, _, _⟩ := cc_zero c
  simp only [if_pos c]
  refine Ev.bind (f := fun k (z : Int × Int) => if (l.length : Int) = 40 then some (([] : List (List C)), 5) else if z.1 > 100 then some (([] : List (List C)), 5) else if z.2 > 100 then some (([] : List (List C)), 5) else (spec_l05Grow.f k ([] : List (List C)) l).bind fun q => some (q, (0 : Int))) (specSize_ev l hs) ?_
  by_cases c1 : (l.length : Int) = 40
  ·simp only [if_pos c1]; exact Ev.now _
  simp only [if_neg c1]
  by_cases c2 : (sz l).1 > 100
  ·simp only [if_pos c2]; exact Ev.now _
  simp only [if_neg c2]
  by_cases c3 : (sz l).2 > 100
  ·simp only [if_pos c3]; exact Ev.now _
  simp only [if_neg c3]
  exact Ev.bind (f := fun _ q => some (q, (0 : Int))) (specGrow_ev l hs [] List.Pairwise.nil (by simp)) (Ev.now _)
 ·simp only [if_neg c]; exact Ev.now _
theorem gsP_length (l : List C) : (gsP l).1.length ≤ 1000000 ∧ ∀ s ∈ (gsP l).1, s.length ≤ 41 := by
 unfold gsP
 by_cases c : ccP l = 0
 ·obtain ⟨hs, _, _⟩ := cc_zero c
  have h40 := hs.2.1
  rw [if_pos c]
  split
  ·simp
  split
  ·simp
  split
  ·simp
  ·refine ⟨?_, fun s hs' => ?_⟩
   ·have h1 := tidyP_length (growL l)
    rw [growL_length] at h1
    have h2 := nbP_length l
    simp only; omega
   ·obtain ⟨d, _, rfl⟩ := List.mem_map.1 ((tidyP_mem _ s).1 hs')
    rw [normL_length, insP_length]; omega
 ·rw [if_neg c]; simp
def shrF (l : List C) : Nat → Nat → List (List C)
 | 0, _ => []
 | d + 1, i => if oneP (partsP (l.eraseIdx i)) = true then normL (l.eraseIdx i) :: shrF l d (i + 1) else shrF l d (i + 1)
theorem shrF_length (l : List C) : ∀ d i, (shrF l d i).length ≤ d := by
 intro d
 induction d with
 | zero => intro i; exact Nat.le_refl _
 | succ d ih =>
  intro i
  have := ih (i + 1)
  unfold shrF
  split
  ·rw [List.length_cons]; omega
  ·omega
theorem shrF_mem (l : List C) : ∀ d i s, s ∈ shrF l d i ↔ ∃ j, i ≤ j ∧ j < i + d ∧ oneP (partsP (l.eraseIdx j)) = true ∧ s = normL (l.eraseIdx j) := by
 intro d
 induction d with
 | zero =>
  intro i s
  constructor
  ·intro h; cases h
  ·rintro ⟨j, h1, h2, _⟩; omega
 | succ d ih =>
  intro i s
  unfold shrF
  by_cases c : oneP (partsP (l.eraseIdx i)) = true
  ·rw [if_pos c, List.mem_cons, ih]
   constructor
   ·rintro (rfl | ⟨j, h1, h2, h3⟩)
    ·exact ⟨i, Nat.le_refl _, by omega, c, rfl⟩
    ·exact ⟨j, by omega, by omega, h3⟩
   ·rintro ⟨j, h1, h2, h3, h4⟩
    by_cases e : j = i
    ·subst e; exact Or.inl h4
    ·exact Or.inr ⟨j, by omega, by omega, h3, h4⟩
  ·rw [if_neg c, ih]
   constructor
   ·rintro ⟨j, h1, h2, h3⟩; exact ⟨j, by omega, by omega, h3⟩
   ·rintro ⟨j, h1, h2, h3, h4⟩
    by_cases e : j = i
    ·subst e; exact absurd h3 c
    ·exact ⟨j, by omega, by omega, h3, h4⟩
theorem less_length (l : List C) (i : Nat) (h : i < l.length) : (l.eraseIdx i).length = l.length - 1 := by rw [List.length_eraseIdx, if_pos h]
theorem less_sub (l : List C) (i : Nat) : (l.eraseIdx i).Sublist l := List.eraseIdx_sublist ..
theorem sh_nodup' {l : List C} (h : Sh l) (i : Nat) : (l.eraseIdx i).Nodup := (sh_nodup h).sublist (less_sub l i)
theorem sh_wim' {l : List C} (h : Sh l) (i : Nat) : Wi 1000000 (l.eraseIdx i) := fun c hc => wi_big (sh_wi h) (by omega) c ((less_sub l i).subset hc)
theorem implShr_go (l : List C) (hs : Sh l) (h2 : 2 ≤ l.length) : ∀ d i, i + d = l.length → Ev (fun k => impl_ShrinkShape.go k l d i) (shrF l d i) := by
 have h40 := hs.2.1
 intro d
 induction d with
 | zero => intro i _; exact Ev.now _
 | succ d ih =>
  intro i hi
  have hlen := less_length l i (by omega)
  have hf : ∀ k, impl_ShrinkShape.go k l (d + 1) i = (impl_connected.f k (l.eraseIdx i)).bind fun b => if b = true then ((impl_normal.f k (l.eraseIdx i)).bind fun s => (impl_ShrinkShape.go k l d (i + 1)).bind fun r => some (s :: r)) else impl_ShrinkShape.go k l d (i + 1) := fun _ => rfl
  simp only [hf]
  refine Ev.bind (f := fun k b => if b = true then ((impl_normal.f k (l.eraseIdx i)).bind fun s => (impl_ShrinkShape.go k l d (i + 1)).bind fun r => some (s :: r)) else impl_ShrinkShape.go k l d (i + 1)) (implConnected_ev (l.eraseIdx i) (by omega) (by omega) (sh_nodup' hs i) (sh_wim' hs i)) ?_
  unfold shrF
  by_cases c : oneP (partsP (l.eraseIdx i)) = true
  ·simp only [if_pos c]
   refine Ev.bind (f := fun k s => (impl_ShrinkShape.go k l d (i + 1)).bind fun r => some (s :: r)) (implNorm_ev (l.eraseIdx i) (by omega) (by omega)) ?_
   exact Ev.bind (f := fun _ r => some (normL (l.eraseIdx i) :: r)) (ih (i + 1) (by omega)) (Ev.now _)
  ·simp only [if_neg c]; exact ih (i + 1) (by omega)
theorem without_eq (l : List C) (i : Nat) (hi : i < l.length) (hl : l.length ≤ 40) : spec_l05Without.f l (i : Nat) = some (l.eraseIdx i) := by
 unfold spec_l05Without.f
 have e : wrap64 ((i : Int) + 1) = ((i + 1 : Nat) : Int) := by rw [w64 (by omega) (by omega)]; rfl
 simp only [Option.bind_some, e, Int.toNat_natCast, List.nil_append]
 rw [if_pos (by omega), if_pos (by omega), if_pos (by rw [List.length_take]; simp; omega), if_pos (by omega), if_pos (by omega), if_pos (by rw [List.length_take, List.length_drop]; omega), List.eraseIdx_eq_take_drop_succ]
theorem specShr_loop (l : List C) (hs : Sh l) (h2 : 2 ≤ l.length) : ∀ d i, i + d = l.length → ∀ done : List (List C), done.length ≤ i → Ev (fun k => spec_ShrinkShape.l0 k l (tidyP done) (i : Nat)) (tidyP (done ++ shrF l d i), 0) := by
 have h40 := hs.2.1
 intro d
 induction d with
 | zero =>
  intro i hi done _
  refine Ev.step (f := fun _ => some (tidyP done, (0 : Int))) (fun k => ?_) ?_
  ·simp only [spec_ShrinkShape.l0]; rw [if_neg (by omega)]
  ·rw [show shrF l 0 i = [] from rfl, List.append_nil]; exact Ev.now _
 | succ d ih =>
  intro i hi done hd
  have hlen := less_length l i (by omega)
  have htl := tidyP_length done
  refine Ev.step (f := fun k => (spec_l02Parts.f k (l.eraseIdx i)).bind fun p => (spec_l02One.f k p).bind fun b => if b = true then ((spec_l02Normal.f k (l.eraseIdx i)).bind fun n => (spec_l03Add.f k (tidyP done) n).bind fun o => spec_ShrinkShape.l0 k l o ((i + 1 : Nat) : Int)) else spec_ShrinkShape.l0 k l (tidyP done) ((i + 1 : Nat) : Int)) (fun k => ?_) ?_
  ·simp only [spec_ShrinkShape.l0]
   rw [if_pos (by omega), without_eq l i (by omega) h40, Option.bind_some, w64 (by omega) (by omega)]; rfl
  ·refine Ev.bind (f := fun k p => (spec_l02One.f k p).bind fun b => if b = true then ((spec_l02Normal.f k (l.eraseIdx i)).bind fun n => (spec_l03Add.f k (tidyP done) n).bind fun o => spec_ShrinkShape.l0 k l o ((i + 1 : Nat) : Int)) else spec_ShrinkShape.l0 k l (tidyP done) ((i + 1 : Nat) : Int)) (specParts_ev (l.eraseIdx i) (by omega) (sh_wim' hs i)) ?_
   refine Ev.bind (f := fun k b => if b = true then ((spec_l02Normal.f k (l.eraseIdx i)).bind fun n => (spec_l03Add.f k (tidyP done) n).bind fun o => spec_ShrinkShape.l0 k l o ((i + 1 : Nat) : Int)) else spec_ShrinkShape.l0 k l (tidyP done) ((i + 1 : Nat) : Int)) (specOne_ev _ (by rw [partsP_length]; omega)) ?_
   unfold shrF
   by_cases c : oneP (partsP (l.eraseIdx i)) = true
   ·simp only [if_pos c]
    refine Ev.bind (f := fun k n => (spec_l03Add.f k (tidyP done) n).bind fun o => spec_ShrinkShape.l0 k l o ((i + 1 : Nat) : Int)) (specNorm_ev (l.eraseIdx i) (by omega) (by omega)) ?_
    refine Ev.bind (f := fun k o => spec_ShrinkShape.l0 k l o ((i + 1 : Nat) : Int)) (add_ev (tidyP done) (normL (l.eraseIdx i)) (tidyP_sorted done) (by omega) (by rw [normL_length]; omega)) ?_
    have h := ih (i + 1) (by omega) (done ++ [normL (l.eraseIdx i)]) (by rw [List.length_append, List.length_singleton]; omega)
    rw [tidyP_snoc, List.append_assoc] at h
    exact h
   ·simp only [if_neg c]
    exact ih (i + 1) (by omega) done (by omega)
noncomputable def skP (l : List C) : List (List C) × Int := if ccP l = 0 then (if (l.length : Int) = 1 then ([], 5) else (tidyP (shrF l l.length 0), 0)) else ([], ccP l)
theorem implSk_ev (l : List C) (hl : l.length ≤ 1048576) : Ev (fun k => impl_ShrinkShape.f k l) (skP l) := by
 unfold impl_ShrinkShape.f skP
 refine Ev.bind (f := fun k t => if t = 0 then (if (l.length : Int) = 1 then some (([] : List (List C)), 5) else if l.length ≤ 1000000 then ((impl_ShrinkShape.go k l l.length 0).bind fun o => (impl_tidyShapes.f k o).bind fun q => some (q, (0 : Int))) else none) else some (([] : List (List C)), t)) (implCc_ev l hl) ?_
 by_cases c : ccP l = 0
 ·obtain ⟨hs, _, _⟩ := cc_zero c
  have h1 := hs.1
  have h40 := hs.2.1
  simp only [if_pos c]
  by_cases c1 : (l.length : Int) = 1
  ·simp only [if_pos c1]; exact Ev.now _
  simp only [if_neg c1, if_pos (show l.length ≤ 1000000 by omega)]
  refine Ev.bind (f := fun k o => (impl_tidyShapes.f k o).bind fun q => some (q, (0 : Int))) (implShr_go l hs (by omega) l.length 0 (by omega)) ?_
  have hf := shrF_length l l.length 0
  refine Ev.step (fun k => ?_) (Ev.now _)
  rw [tidy_eq _ _ (by omega)]; rfl
 ·simp only [if_neg c]; exact Ev.now _
theorem specSk_ev (l : List C) (hl : l.length ≤ 1048576) : Ev (fun k => spec_ShrinkShape.f k l) (skP l) := by
 unfold spec_ShrinkShape.f skP
 refine Ev.bind (f := fun k t => if t = 0 then (if (l.length : Int) = 1 then some (([] : List (List C)), 5) else spec_ShrinkShape.l0 k l ([] : List (List C)) 0) else some (([] : List (List C)), t)) (specCc_ev l hl) ?_
 by_cases c : ccP l = 0
 ·obtain ⟨hs, _, _⟩ := cc_zero c
  have h1 := hs.1
  simp only [if_pos c]
  by_cases c1 : (l.length : Int) = 1
  ·simp only [if_pos c1]; exact Ev.now _
  simp only [if_neg c1]
  exact specShr_loop l hs (by omega) l.length 0 (by omega) [] (Nat.le_refl _)
 ·simp only [if_neg c]; exact Ev.now _
theorem skP_length (l : List C) : (skP l).1.length ≤ 1000000 ∧ ∀ s ∈ (skP l).1, s.length ≤ 41 := by
 unfold skP
 by_cases c : ccP l = 0
 ·obtain ⟨hs, _, _⟩ := cc_zero c
  have h40 := hs.2.1
  rw [if_pos c]
  split
  ·simp
  ·refine ⟨?_, fun s hs' => ?_⟩
   ·have h1 := tidyP_length (shrF l l.length 0)
    have h2 := shrF_length l l.length 0
    simp only; omega
   ·obtain ⟨j, _, hj, _, rfl⟩ := (shrF_mem l l.length 0 s).1 ((tidyP_mem _ s).1 hs')
    rw [normL_length, less_length l j (by omega)]; omega
 ·rw [if_neg c]; simp
def Shut_ (l : List C) (X : C → Prop) : Prop := ∀ a d, X a → d ∈ l → d ∈ nbrs a → X d
def In0 (l : List C) (X : C → Prop) (out q : List Int) : Prop := out.length = l.length ∧ (∀ j, j < l.length → rd out (j : Nat) = 0 → X (at_ l j)) ∧ ∀ x ∈ q, 0 ≤ x ∧ x < (l.length : Int) ∧ X (at_ l x.toNat)
theorem nearP_in (l : List C) (X : C → Prop) : ∀ (ds : List C), (∀ d ∈ ds, d ∈ l → X d) → ∀ (out q : List Int), In0 l X out q → In0 l X (nearP l 0 ds out q).1 (nearP l 0 ds out q).2 := by
 intro ds
 induction ds with
 | nil => intro _ out q h; exact h
 | cons d r ih =>
  intro hd out q h
  have hr : ∀ d ∈ r, d ∈ l → X d := fun x hx => hd x (List.mem_cons_of_mem _ hx)
  unfold nearP
  by_cases c : 0 ≤ ixF 0 l d.f0 d.f1 ∧ rd out (ixF 0 l d.f0 d.f1) < 0
  ·rw [if_pos c]
   have hlt := ixF_lt d.f0 d.f1 l 0
   obtain ⟨m, hm1, hm2, hm3⟩ := ixF_val d.f0 d.f1 l 0 c.1
   have hm : ixF 0 l d.f0 d.f1 = (m : Int) := by omega
   have hX : X (at_ l m) := by rw [hm3]; exact hd d List.mem_cons_self ((ixF_mem d.f0 d.f1 l 0).1 c.1)
   rw [hm, Int.toNat_natCast]
   refine ih hr _ _ ⟨by rw [List.length_set]; exact h.1, fun j hj h0 => ?_, fun x hx => ?_⟩
   ·rw [rdn_set out m j _ (by rw [h.1]; exact hj)] at h0
    by_cases g : m = j
    ·rw [← g]; exact hX
    ·rw [if_neg g] at h0; exact h.2.1 j hj h0
   ·rcases List.mem_append.1 hx with hx | hx
    ·exact h.2.2 x hx
    ·rw [List.mem_singleton] at hx
     rw [hx, Int.toNat_natCast]
     exact ⟨by omega, by omega, hX⟩
  ·rw [if_neg c]; exact ih hr out q h
theorem bfsP_in (l : List C) (X : C → Prop) (hX : Shut_ l X) : ∀ (n : Nat) (out q : List Int), In0 l X out q → ∀ j, j < l.length → rd (bfsP l 0 n out q) (j : Nat) = 0 → X (at_ l j) := by
 intro n
 induction n with
 | zero => intro out q h j hj h0; exact h.2.1 j hj h0
 | succ n ih =>
  intro out q h
  cases q with
  | nil => exact fun j hj h0 => h.2.1 j hj h0
  | cons a q =>
   have ha := h.2.2 a List.mem_cons_self
   exact ih _ _ (nearP_in l X _ (fun d hd hl => hX _ d ha.2.2 hl hd) out q ⟨h.1, h.2.1, fun x hx => h.2.2 x (List.mem_cons_of_mem _ hx)⟩)
theorem outerP_zero (l : List C) : ∀ (d i : Nat) (out : List Int), 1 ≤ i → i + d = l.length → GOk l i out → ∀ j, j < l.length → rd (outerP l d i out) (j : Nat) = 0 → rd out (j : Nat) = 0 := by
 intro d
 induction d with
 | zero => intro i out _ _ _ j _ h; exact h
 | succ d ih =>
  intro i out h1 hi ho j hj h
  have h2 := ih (i + 1) _ (by omega) (by omega) (gok_step l i (by omega) out ho) j hj h
  by_cases c : rd out (i : Nat) ≥ 0
  ·rw [if_pos c] at h2; exact h2
  ·rw [if_neg c] at h2
   rcases (outer_grow l i (by omega) out ho c).2 j hj with g | g
   ·rw [g] at h2; exact h2
   ·rw [g.2] at h2; omega
theorem zero_in (l : List C) (X : C → Prop) (hX : Shut_ l X) (h0 : 0 < l.length) (hx0 : X (at_ l 0)) (j : Nat) (hj : j < l.length) (h : rd (partsP l) (j : Nat) = 0) : X (at_ l j) := by
 unfold partsP at h
 obtain ⟨n, hn⟩ : ∃ n, l.length = n + 1 := ⟨l.length - 1, by omega⟩
 rw [hn] at h
 have hrep : ∀ j, j < l.length → rd (List.replicate (n + 1) (-1)) (j : Nat) = -1 := fun j hj => by
  rw [rd_nat _ j (by simp; omega), List.getElem_replicate]
 have hg0 : GOk l 0 (List.replicate (n + 1) (-1)) := ⟨by simp [hn], fun j hj => by omega, fun j hj h => by rw [hrep j hj] at h; omega⟩
 have hg1 := gok_step l 0 h0 _ hg0
 have h2 := outerP_zero l n 1 _ (by omega) (by omega) hg1 j hj h
 have hneg : ¬ rd (List.replicate (n + 1) (-1)) ((0 : Nat) : Int) ≥ 0 := by rw [hrep 0 h0]; omega
 rw [if_neg hneg] at h2
 refine bfsP_in l X hX _ _ _ ⟨by rw [List.length_set, List.length_replicate, hn], fun i hi h0' => ?_, fun x hx => ?_⟩ j hj h2
 ·rw [rdn_set _ 0 i _ (by rw [List.length_replicate]; omega)] at h0'
  by_cases g : 0 = i
  ·rw [← g]; exact hx0
  ·rw [if_neg g, hrep i hi] at h0'; omega
 ·rw [List.mem_singleton] at hx
  rw [hx]; exact ⟨by omega, by omega, hx0⟩
theorem one_all {l : List C} (h : ∀ x ∈ partsP l, x = 0) (X : C → Prop) (hX : Shut_ l X) (h0 : 0 < l.length) (hx0 : X (at_ l 0)) : ∀ c ∈ l, X c := by
 intro c hc
 obtain ⟨j, hj, rfl⟩ := mem_at hc
 have hl := partsP_length l
 refine zero_in l X hX h0 hx0 j hj ?_
 rw [rd_nat _ j (by omega)]
 exact h _ (List.getElem_mem _)
theorem nearP_cl (l : List C) : ∀ (ds : List C) (out q : List Int), QOk l out q →
  (∀ d ∈ ds, 0 ≤ ixF 0 l d.f0 d.f1 → rd (nearP l 0 ds out q).1 (ixF 0 l d.f0 d.f1) ≥ 0) ∧ (∀ j : Nat, j < l.length → rd out (j : Nat) ≥ 0 → rd (nearP l 0 ds out q).1 (j : Nat) ≥ 0) ∧
  (∀ j : Nat, j < l.length → rd (nearP l 0 ds out q).1 (j : Nat) = 0 → rd out (j : Nat) = 0 ∨ (j : Int) ∈ (nearP l 0 ds out q).2) ∧ (∀ x ∈ q, x ∈ (nearP l 0 ds out q).2) := by
 intro ds
 induction ds with
 | nil => intro out q _; exact ⟨fun d hd => (by cases hd), fun j _ h => h, fun j _ h => Or.inl h, fun x hx => hx⟩
 | cons d r ih =>
  intro out q h
  have hlt := ixF_lt d.f0 d.f1 l 0
  unfold nearP
  by_cases c : 0 ≤ ixF 0 l d.f0 d.f1 ∧ rd out (ixF 0 l d.f0 d.f1) < 0
  ·rw [if_pos c]
   obtain ⟨m, hm⟩ := Int.eq_ofNat_of_zero_le c.1
   rw [hm] at c hlt ⊢
   rw [Int.toNat_natCast]
   have hml : m < out.length := by rw [h.1]; omega
   obtain ⟨i1, i2, i3, i4⟩ := ih (out.set m 0) (q ++ [(m : Int)]) ⟨by rw [List.length_set]; exact h.1, fun x hx => by
    rcases List.mem_append.1 hx with hx | hx
    ·exact h.2 x hx
    ·rw [List.mem_singleton] at hx; rw [hx]; omega⟩
   refine ⟨fun e he h0 => ?_, fun j hj h0 => i2 j hj ?_, fun j hj h0 => ?_, fun x hx => i4 x (List.mem_append_left _ hx)⟩
   ·rcases List.mem_cons.1 he with rfl | he
    ·rw [hm]
     refine i2 m (by omega) ?_
     rw [rdn_set out m m _ hml, if_pos rfl]; omega
    ·exact i1 e he h0
   ·rw [rdn_set out m j _ (by rw [h.1]; exact hj)]
    by_cases g : m = j
    ·rw [if_pos g]; omega
    ·rw [if_neg g]; exact h0
   ·rcases i3 j hj h0 with g | g
    ·rw [rdn_set out m j _ (by rw [h.1]; exact hj)] at g
     by_cases e : m = j
     ·subst e; exact Or.inr (i4 _ (List.mem_append_right _ (List.mem_singleton.2 rfl)))
     ·rw [if_neg e] at g; exact Or.inl g
    ·exact Or.inr g
  ·rw [if_neg c]
   obtain ⟨i1, i2, i3, i4⟩ := ih out q h
   refine ⟨fun e he h0 => ?_, i2, i3, i4⟩
   rcases List.mem_cons.1 he with rfl | he
   ·obtain ⟨m, hm⟩ := Int.eq_ofNat_of_zero_le h0
    rw [hm] at c hlt ⊢
    exact i2 m (by omega) (by omega)
   ·exact i1 e he h0
theorem bfsP_cl (l : List C) : ∀ (n : Nat) (out q : List Int), QOk l out q → negs out + q.length ≤ n →
  (∀ j : Nat, j < l.length → rd out (j : Nat) = 0 → (j : Int) ∈ q ∨ ∀ d ∈ nbrs (at_ l j), 0 ≤ ixF 0 l d.f0 d.f1 → rd out (ixF 0 l d.f0 d.f1) ≥ 0) →
  ∀ j : Nat, j < l.length → rd (bfsP l 0 n out q) (j : Nat) = 0 → ∀ d ∈ nbrs (at_ l j), 0 ≤ ixF 0 l d.f0 d.f1 → rd (bfsP l 0 n out q) (ixF 0 l d.f0 d.f1) ≥ 0 := by
 intro n
 induction n with
 | zero =>
  intro out q _ hn hB j hj h0
  have hq : q = [] := List.length_eq_zero_iff.1 (by omega)
  subst hq
  rcases hB j hj h0 with g | g
  ·cases g
  ·exact g
 | succ n ih =>
  intro out q hq hn hB j hj
  cases q with
  | nil =>
   intro h0
   rcases hB j hj h0 with g | g
   ·cases g
   ·exact g
  | cons a q =>
   have hq2 : QOk l out q := ⟨hq.1, fun x hx => hq.2 x (List.mem_cons_of_mem _ hx)⟩
   have hok := nearP_ok l 0 (Int.le_refl _) (nbrs (at_ l a.toNat)) out q hq2
   obtain ⟨i1, i2, i3, i4⟩ := nearP_cl l (nbrs (at_ l a.toNat)) out q hq2
   rw [List.length_cons] at hn
   refine ih _ _ hok.1 (by omega) (fun k hk h0 => ?_) j hj
   rcases i3 k hk h0 with g | g
   ·rcases hB k hk g with e | e
    ·rcases List.mem_cons.1 e with e | e
     ·right
      rw [← e, Int.toNat_natCast] at i1 ⊢
      exact i1
     ·exact Or.inl (i4 _ e)
    ·right
     intro d hd h1
     obtain ⟨m, hm⟩ := Int.eq_ofNat_of_zero_le h1
     have hlt := ixF_lt d.f0 d.f1 l 0
     have h2 := e d hd h1
     rw [hm] at hlt h2 ⊢
     exact i2 m (by omega) h2
   ·exact Or.inl g
theorem outerP_keep (l : List C) : ∀ (d i : Nat) (out : List Int), i + d = l.length → GOk l i out → ∀ j, j < l.length → 0 ≤ rd out (j : Nat) → rd (outerP l d i out) (j : Nat) = rd out (j : Nat) := by
 intro d
 induction d with
 | zero => intro i out _ _ j _ _; rfl
 | succ d ih =>
  intro i out hi ho j hj h
  have hg := gok_step l i (by omega) out ho
  have e : rd (if rd out (i : Nat) ≥ 0 then out else bfsP l (i : Nat) (l.length + 1) (out.set i (i : Nat)) [(i : Int)]) (j : Nat) = rd out (j : Nat) := by
   by_cases c : rd out (i : Nat) ≥ 0
   ·rw [if_pos c]
   ·rw [if_neg c]
    rcases (outer_grow l i (by omega) out ho c).2 j hj with g | g
    ·exact g
    ·omega
  unfold outerP
  rw [ih (i + 1) _ (by omega) hg j hj (by rw [e]; exact h), e]
theorem zeros_of {l : List C} (h0 : 0 < l.length) (hn : l.Nodup) (H : ∀ X : C → Prop, Shut_ l X → X (at_ l 0) → ∀ c ∈ l, X c) : ∀ x ∈ partsP l, x = 0 := by
 have hinj : ∀ i j, i < l.length → j < l.length → at_ l i = at_ l j → i = j := by
  intro i j hi hj e
  rw [at_get l i hi, at_get l j hj] at e
  exact (List.getElem_inj hn).1 e
 have hrep : ∀ j, j < l.length → rd (List.replicate l.length (-1)) (j : Nat) = -1 := fun j hj => by
  rw [rd_nat _ j (by simp; omega), List.getElem_replicate]
 have hg0 : GOk l 0 (List.replicate l.length (-1)) := ⟨by simp, fun j hj => by omega, fun j hj h => by rw [hrep j hj] at h; omega⟩
 have hg1 := gok_step l 0 h0 _ hg0
 have hneg : ¬ rd (List.replicate l.length (-1)) ((0 : Nat) : Int) ≥ 0 := by rw [hrep 0 h0]; omega
 rw [if_neg hneg] at hg1
 have hgrow := outer_grow l 0 h0 _ hg0 hneg
 have hstart := bfs_start l 0 h0 (List.replicate l.length (-1)) (by simp)
 have hqok := outer_start l (List.replicate l.length (-1)) 0 h0 (by simp)
 have hcl := bfsP_cl l (l.length + 1) _ _ hqok (by
  have := negs_le ((List.replicate l.length (-1 : Int)).set 0 ((0 : Nat) : Int))
  rw [List.length_set, List.length_replicate] at this
  rw [List.length_singleton]; omega) (fun j hj h => by
  rw [rdn_set _ 0 j _ (by rw [List.length_replicate]; exact hj)] at h
  by_cases g : 0 = j
  ·subst g; exact Or.inl (List.mem_singleton.2 rfl)
  ·rw [if_neg g, hrep j hj] at h; omega)
 have e0 : ∀ m, m = l.length → outerP l m 0 (List.replicate l.length (-1)) = outerP l (m - 1) 1 (bfsP l ((0 : Nat) : Int) (l.length + 1) ((List.replicate l.length (-1)).set 0 ((0 : Nat) : Int)) [((0 : Nat) : Int)]) := by
  intro m hm
  cases m with
  | zero => omega
  | succ n =>
   show outerP l n (0 + 1) (if rd (List.replicate l.length (-1)) ((0 : Nat) : Int) ≥ 0 then List.replicate l.length (-1) else _) = _
   rw [if_neg hneg]; rfl
 generalize bfsP l ((0 : Nat) : Int) (l.length + 1) ((List.replicate l.length (-1)).set 0 ((0 : Nat) : Int)) [((0 : Nat) : Int)] = o at *
 have hval : ∀ j, j < l.length → rd o (j : Nat) ≥ 0 → rd o (j : Nat) = 0 := by
  intro j hj h
  rcases hgrow.2 j hj with g | g
  ·rw [g, hrep j hj] at h; omega
  ·exact g.2
 have hix : ∀ j, j < l.length → ixF 0 l (at_ l j).f0 (at_ l j).f1 = (j : Int) := by
  intro j hj
  have h1 := (ixF_mem (at_ l j).f0 (at_ l j).f1 l 0).2 (at_mem l j hj)
  obtain ⟨m, hm1, hm2, hm3⟩ := ixF_val _ _ l 0 h1
  have := hinj m j hm1 hj hm3
  omega
 have hall := H (fun c => 0 ≤ ixF 0 l c.f0 c.f1 ∧ rd o (ixF 0 l c.f0 c.f1) = 0) (fun a d ha hd hda => by
  obtain ⟨m, hm1, hm2, hm3⟩ := ixF_val _ _ l 0 ha.1
  have em : ixF 0 l a.f0 a.f1 = (m : Int) := by omega
  have hz := ha.2
  rw [em] at hz
  have h1 := (ixF_mem d.f0 d.f1 l 0).2 hd
  have hea : at_ l m = a := hm3
  have h2 := hcl m hm1 hz d (by rw [hea]; exact hda) h1
  obtain ⟨n, hn2⟩ := Int.eq_ofNat_of_zero_le h1
  have hlt := ixF_lt d.f0 d.f1 l 0
  rw [hn2] at h2 hlt ⊢
  exact ⟨by omega, hval n (by omega) h2⟩) (by
  rw [hix 0 h0]
  exact ⟨by omega, hstart⟩)
 intro x hx
 have hl := partsP_length l
 obtain ⟨j, hj, rfl⟩ := List.mem_iff_getElem.1 hx
 rw [← rd_nat _ j hj]
 have hjl : j < l.length := by omega
 have h1 := (hall _ (at_mem l j hjl)).2
 rw [hix j hjl] at h1
 unfold partsP
 rw [e0 l.length rfl, outerP_keep l (l.length - 1) 1 o (by omega) hg1 j hjl (by omega)]
 exact h1
-- USES Base Cell In Shape ShUse
theorem codeP_sh {l : List C} (h : codeP l = 0) : Sh l := by
 rcases codeP_cases l with ⟨_, _, hc⟩ | ⟨hs, _, _⟩ | ⟨hs, _, _⟩
 ·omega
 ·exact hs
 ·exact hs
-- USES Base Cell In Shape ShUse Fold Moved Norm Sort Turn TurnS TurnI CodeP Cmp CmpO AddP LeS
-- USES Base Cell In Shape ShUse Fold Moved Norm Sort Turn TurnS TurnI CodeP Cmp CmpO AddP LeS FormsP
-- USES Base Cell In Shape ShUse Fold Moved Norm Sort Turn TurnS TurnI CodeP SymP Cmp CmpO AddP LeS FormsP FreeP TransP
theorem sh_BD {l : List C} (h : Sh l) : BD l := fun c hc => by
 have := h.ok hc
 unfold okC at this; omega
theorem code_wide {l : List C} (hc : codeP l = 0) : ∀ c ∈ l, ∀ d ∈ l, c.f0 - d.f0 ≤ 100 ∧ c.f1 - d.f1 ≤ 100 := by
 have hs := codeP_sh hc
 have hn : Sh (normL l) := by
  unfold codeP at hc
  rw [shB_true hs] at hc
  rcases sh_cases (normL l) with ⟨h, _⟩ | ⟨_, h⟩
  ·exact h
  ·rw [h] at hc; exact absurd hc (by decide)
 intro c hc d hd
 have hm : addC ⟨-(lo l).1, -(lo l).2⟩ c ∈ normL l := by
  rw [normL_U (sh_BD hs) hs.1]; exact List.mem_map_of_mem hc
 have ho := hn.ok hm
 have hd2 := lo_le hd
 unfold okC addC at ho
 simp only [] at ho
 omega
-- USES Base Cell In Shape ShUse Fold Moved Norm NormS NormI Sort SortS SortI ImplSort Nb NbS BesideI Cmp CmpO AddP LeS TidyP TransP GrowP
inductive Ch : List C → Prop
 | one (c : C) : Ch [c]
 | add (s : List C) (d : C) : Ch s → d ∈ nbP s → Ch (insP d s)
theorem Ch.pos {s : List C} (h : Ch s) : 0 < s.length := by
 cases h with
 | one c => exact Nat.one_pos
 | add s d _ _ => rw [insP_length]; omega
theorem Ch.strict {s : List C} (h : Ch s) : s.Pairwise ltC := by
 induction h with
 | one c => exact List.pairwise_singleton _ _
 | add s d _ hd ih => exact insP_strict ih ((nbP_mem s d).1 hd).2
theorem nbP_addC (v : C) (s : List C) (d : C) (h : d ∈ nbP s) : addC v d ∈ nbP (s.map (addC v)) := by
 obtain ⟨⟨e, he, hd⟩, hn⟩ := (nbP_mem s d).1 h
 refine (nbP_mem _ _).2 ⟨⟨addC v e, List.mem_map_of_mem he, ?_⟩, fun g => hn ?_⟩
 ·rw [nbrs_mem] at hd ⊢
  unfold addC; simp only []; omega
 ·obtain ⟨x, hx, e⟩ := List.mem_map.1 g
  have : x = d := by
   unfold addC at e
   have e0 := congrArg (fun z : C => z.f0) e
   have e1 := congrArg (fun z : C => z.f1) e
   simp only [] at e0 e1
   cases x; cases d
   simp only [] at e0 e1
   congr 1 <;> omega
  rw [← this]; exact hx
theorem insP_addC (v d : C) (s : List C) (hs : s.Pairwise leC) : insP (addC v d) (s.map (addC v)) = (insP d s).map (addC v) := by
 have hs' : (s.map (addC v)).Pairwise leC := by rw [List.pairwise_map]; exact hs.imp fun h => addC_le v h
 refine sorted_unique (insP_sorted _ _ hs') ?_ ?_
 ·rw [List.pairwise_map]; exact (insP_sorted d s hs).imp fun h => addC_le v h
 ·exact (insP_perm _ _).trans (((insP_perm d s).map (addC v)).symm)
theorem lt_le {s : List C} (h : s.Pairwise ltC) : s.Pairwise leC := h.imp fun g => ltC_le g
theorem strict_nodup {s : List C} (h : s.Pairwise ltC) : s.Nodup := h.imp fun g e => by rw [e] at g; exact ltC_irrefl g
theorem nodup_sub : ∀ a : List C, a.Nodup → ∀ b : List C, (∀ x ∈ a, x ∈ b) → ∃ r, b.Perm (a ++ r) := by
 intro a
 induction a with
 | nil => intro _ b _; exact ⟨b, List.Perm.refl _⟩
 | cons x a ih =>
  intro hn b h
  obtain ⟨hx, hn2⟩ := List.nodup_cons.1 hn
  obtain ⟨s, t, rfl⟩ := List.append_of_mem (h x List.mem_cons_self)
  obtain ⟨r, hr⟩ := ih hn2 (s ++ t) (fun y hy => by
   have h1 := h y (List.mem_cons_of_mem _ hy)
   rcases List.mem_append.1 h1 with g | g
   ·exact List.mem_append_left _ g
   ·rcases List.mem_cons.1 g with e | g
    ·rw [e] at hy; exact absurd hy hx
    ·exact List.mem_append_right _ g)
  exact ⟨r, List.perm_middle.trans (hr.cons x)⟩
theorem one_chain {l : List C} (hs : Sh l) (h : ∀ x ∈ partsP l, x = 0) : Ch l := by
 have hl1 := hs.1
 have key : ∀ n, 1 ≤ n → n ≤ l.length → ∃ s, Ch s ∧ s.length = n ∧ (∀ c ∈ s, c ∈ l) ∧ at_ l 0 ∈ s := by
  intro n
  induction n with
  | zero => intro h; omega
  | succ n ih =>
   intro _ hn
   by_cases h0 : n = 0
   ·subst h0
    exact ⟨[at_ l 0], Ch.one _, rfl, fun c hc => by rw [List.mem_singleton.1 hc]; exact at_mem l 0 (by omega), List.mem_singleton.2 rfl⟩
   ·obtain ⟨s, hc, hlen, hsub, h00⟩ := ih (by omega) (by omega)
    by_cases hex : ∃ d, d ∈ l ∧ d ∈ nbP s
    ·obtain ⟨d, hdl, hd⟩ := hex
     refine ⟨insP d s, Ch.add s d hc hd, by rw [insP_length, hlen], fun c hc => ?_, (insP_perm d s).mem_iff.2 (List.mem_cons_of_mem _ h00)⟩
     rcases List.mem_cons.1 ((insP_perm d s).mem_iff.1 hc) with rfl | hc
     ·exact hdl
     ·exact hsub c hc
    ·exfalso
     have hall := one_all h (fun c => c ∈ s) (fun a d ha hdl hda => by
      by_cases hds : d ∈ s
      ·exact hds
      ·exact absurd ⟨d, hdl, (nbP_mem s d).2 ⟨⟨a, ha, hda⟩, hds⟩⟩ hex) (by omega) h00
     have hnd := strict_nodup (sh_lt hs)
     obtain ⟨r, hr⟩ := nodup_sub l hnd s hall
     have := hr.length_eq
     rw [List.length_append] at this
     omega
 obtain ⟨s, hc, hlen, hsub, _⟩ := key l.length hl1 (Nat.le_refl _)
 have hp : s.Perm l := by
  obtain ⟨r, hr⟩ := nodup_sub s (strict_nodup hc.strict) l hsub
  have e := hr.length_eq
  rw [List.length_append] at e
  have e2 : r = [] := List.length_eq_zero_iff.1 (by omega)
  rw [e2, List.append_nil] at hr
  exact hr.symm
 have e : s = l := sorted_unique (lt_le hc.strict) hs.sorted hp
 rw [← e]; exact hc
theorem nbrs_sym {a d : C} (h : d ∈ nbrs a) : a ∈ nbrs d := by rw [nbrs_mem] at h ⊢; omega
theorem nbrs_addC {a d : C} (v : C) (h : d ∈ nbrs a) : addC v d ∈ nbrs (addC v a) := by
 rw [nbrs_mem] at h ⊢
 unfold addC; simp only []; omega
theorem chain_reach {s : List C} (h : Ch s) : ∀ X : C → Prop, Shut_ s X → ∀ a ∈ s, X a → ∀ c ∈ s, X c := by
 induction h with
 | one c =>
  intro X _ a ha hx b hb
  rw [List.mem_singleton.1 ha] at hx
  rw [List.mem_singleton.1 hb]; exact hx
 | add s d _ hd ih =>
  intro X hX a ha hx
  have mem : ∀ {c : C}, c ∈ insP d s ↔ c ∈ d :: s := fun {c} => (insP_perm d s).mem_iff
  obtain ⟨⟨e, he, hde⟩, _⟩ := (nbP_mem s d).1 hd
  have hX' : Shut_ s X := fun p q hp hq hpq => hX p q hp (mem.2 (List.mem_cons_of_mem _ hq)) hpq
  have hs : ∀ c ∈ s, X c := by
   rcases List.mem_cons.1 (mem.1 ha) with rfl | ha
   ·exact ih X hX' e he (hX a e hx (mem.2 (List.mem_cons_of_mem _ he)) (nbrs_sym hde))
   ·exact ih X hX' a ha hx
  intro c hc
  rcases List.mem_cons.1 (mem.1 hc) with rfl | hc
  ·exact hX e c (hs e he) (mem.2 List.mem_cons_self) hde
  ·exact hs c hc
theorem chain_zeros {s : List C} (h : Ch s) : ∀ x ∈ partsP s, x = 0 :=
 zeros_of h.pos (strict_nodup h.strict) fun X hX hx => chain_reach h X hX _ (at_mem s 0 h.pos) hx
theorem insP_erase (d : C) : ∀ s : List C, ∃ j, j < (insP d s).length ∧ (insP d s).eraseIdx j = s := by
 intro s
 induction s with
 | nil => exact ⟨0, by simp [insP], rfl⟩
 | cons c r ih =>
  unfold insP
  split
  ·exact ⟨0, by simp, rfl⟩
  ·obtain ⟨j, h1, h2⟩ := ih
   exact ⟨j + 1, by simp; omega, by rw [List.eraseIdx_cons_succ, h2]⟩
theorem shr_some {l : List C} (hs : Sh l) (hz : ∀ x ∈ partsP l, x = 0) (h2 : 2 ≤ l.length) : ∃ j, j < l.length ∧ ∀ x ∈ partsP (l.eraseIdx j), x = 0 := by
 have hc := one_chain hs hz
 cases hc with
 | one c => simp at h2
 | add s d h _ =>
  obtain ⟨j, h1, h3⟩ := insP_erase d s
  exact ⟨j, h1, by rw [h3]; exact chain_zeros h⟩
theorem oneP_iff {l : List Int} : oneP l = true ↔ ∀ x ∈ l, x = 0 := by unfold oneP; exact decide_eq_true_iff
theorem sh_bd {l : List C} (hs : Sh l) : BD l := fun c hc => by have := hs.ok hc; unfold okC at this; omega
theorem less_sh {l : List C} (hs : Sh l) (h2 : 2 ≤ l.length) (j : Nat) (hj : j < l.length) : Sh (l.eraseIdx j) := by
 have hl := less_length l j hj
 have h40 := hs.2.1
 exact sh_mk (by omega) (by omega) (fun c hc => hs.ok ((less_sub l j).subset hc)) ((sh_lt hs).sublist (less_sub l j))
theorem norm_sub {l m : List C} (hc : codeP l = 0) (hm : Sh m) (hsub : ∀ c ∈ m, c ∈ l) : Sh (normL m) ∧ normL (normL m) = normL m ∧ codeP (normL m) = 0 := by
 have h0 := hm.1
 have hw := code_wide hc
 have e := normL_U (sh_bd hm) h0
 obtain ⟨z0, hz0, e0⟩ := lo_mem0 (l := m) h0
 obtain ⟨z1, hz1, e1⟩ := lo_mem1 (l := m) h0
 have hsh : Sh (normL m) := by
  rw [e]
  refine sh_mk (by rw [normU_length]; exact h0) (by rw [normU_length]; exact hm.2.1) (fun c hcm => ?_) ?_
  ·unfold normU at hcm
   obtain ⟨x, hx, rfl⟩ := List.mem_map.1 hcm
   have a1 := hw x (hsub x hx) z0 (hsub z0 hz0)
   have a2 := hw x (hsub x hx) z1 (hsub z1 hz1)
   have hl := lo_le hx
   unfold okC addC
   rw [e0, e1] at hl ⊢
   simp only []; omega
  ·unfold normU
   rw [List.pairwise_map]
   exact (sh_lt hm).imp fun {a b} hab => by unfold ltC addC at *; simp only [] at *; omega
 have hnn : normL (normL m) = normL m := by
  rw [normL_U (sh_bd hsh) hsh.1, e]; exact normU_idem h0
 refine ⟨hsh, hnn, ?_⟩
 unfold codeP
 rw [hnn, shB_true hsh]; rfl
theorem zeros_norm {m : List C} (hm : Sh m) (hz : ∀ x ∈ partsP m, x = 0) : ∀ x ∈ partsP (normL m), x = 0 := by
 have h0 := hm.1
 rw [normL_U (sh_bd hm) h0]
 have hl : (normU m).length = m.length := normU_length m
 have hnd : (normU m).Nodup := by
  refine strict_nodup ?_
  unfold normU
  rw [List.pairwise_map]
  exact (sh_lt hm).imp fun {a b} hab => by unfold ltC addC at *; simp only [] at *; omega
 refine zeros_of (by omega) hnd fun X hX hx c hc => ?_
 unfold normU at hc
 obtain ⟨x, hxm, rfl⟩ := List.mem_map.1 hc
 refine one_all hz (fun a => X (addC ⟨-(lo m).1, -(lo m).2⟩ a)) (fun a d ha hd hda => ?_) h0 ?_ x hxm
 ·exact hX _ _ ha (List.mem_map_of_mem hd) (nbrs_addC _ hda)
 ·have e : at_ (normU m) 0 = addC ⟨-(lo m).1, -(lo m).2⟩ (at_ m 0) := by
   rw [at_get _ 0 (by omega), at_get m 0 (by omega)]
   unfold normU; rw [List.getElem_map]
  rw [← e]; exact hx
theorem gone_near {l : List C} (hs : Sh l) (hz : ∀ x ∈ partsP l, x = 0) (h2 : 2 ≤ l.length) (j : Nat) (hj : j < l.length) : l[j] ∈ nbP (l.eraseIdx j) := by
 have hnd := strict_nodup (sh_lt hs)
 have hmem : ∀ c, c ∈ l → c ≠ l[j] → c ∈ l.eraseIdx j := by
  intro c hc hne
  obtain ⟨i, hi, rfl⟩ := List.mem_iff_getElem.1 hc
  refine List.mem_eraseIdx_iff_getElem?.2 ⟨i, fun e => ?_, List.getElem?_eq_getElem hi⟩
  subst e; exact hne rfl
 have hnot : ¬ l[j] ∈ l.eraseIdx j := by
  intro h
  obtain ⟨i, hi, e⟩ := List.mem_eraseIdx_iff_getElem?.1 h
  obtain ⟨hil, e2⟩ := List.getElem?_eq_some_iff.1 e
  exact hi ((List.getElem_inj hnd).1 e2)
 have hfirst := at_mem l 0 hs.1
 refine (nbP_mem _ _).2 ⟨?_, hnot⟩
 have hcon : ¬ ¬ ∃ d ∈ l.eraseIdx j, l[j] ∈ nbrs d := by
  intro hno
  by_cases hf : at_ l 0 = l[j]
  ·have hall := one_all hz (fun c => c = l[j]) (fun a d ha hd hda => by
    have ha' : a = l[j] := ha
    by_cases e : d = l[j]
    ·exact e
    ·exact absurd ⟨d, hmem d hd e, by rw [← ha']; exact nbrs_sym hda⟩ hno) hs.1 hf
   have h0 := hall _ (at_mem l 0 (by omega))
   have h1 := hall _ (at_mem l 1 (by omega))
   have e : at_ l 0 = at_ l 1 := h0.trans h1.symm
   rw [at_get l 0 (by omega), at_get l 1 (by omega)] at e
   have := (List.getElem_inj hnd).1 e
   omega
  ·have hall := one_all hz (fun c => c ∈ l ∧ c ≠ l[j]) (fun a d ha hd hda => ⟨hd, fun e => hno ⟨a, hmem a ha.1 ha.2, by rw [← e]; exact hda⟩⟩) hs.1 ⟨hfirst, hf⟩
   exact (hall _ (List.getElem_mem hj)).2 rfl
 exact Classical.not_not.1 hcon
theorem grows_back {l : List C} (hs : Sh l) (hz : ∀ x ∈ partsP l, x = 0) (h2 : 2 ≤ l.length) (j : Nat) (hj : j < l.length) : normL l ∈ growL (normL (l.eraseIdx j)) := by
 have hm := less_sh hs h2 j hj
 have h0 := hm.1
 have hnear := nbP_addC ⟨-(lo (l.eraseIdx j)).1, -(lo (l.eraseIdx j)).2⟩ _ _ (gone_near hs hz h2 j hj)
 refine List.mem_map.2 ⟨addC ⟨-(lo (l.eraseIdx j)).1, -(lo (l.eraseIdx j)).2⟩ l[j], ?_, ?_⟩
 ·rw [normL_U (sh_bd hm) h0]; exact hnear
 ·have hins : insP l[j] (l.eraseIdx j) = l := by
   refine sorted_unique (insP_sorted _ _ hm.sorted) hs.sorted ((insP_perm _ _).trans ?_)
   rw [List.eraseIdx_eq_take_drop_succ]
   conv => rhs; rw [← List.take_append_drop j l, List.drop_eq_getElem_cons hj]
   exact List.perm_middle.symm
  have e1 : insP (addC ⟨-(lo (l.eraseIdx j)).1, -(lo (l.eraseIdx j)).2⟩ l[j]) (normL (l.eraseIdx j)) = l.map (addC ⟨-(lo (l.eraseIdx j)).1, -(lo (l.eraseIdx j)).2⟩) := by
   rw [normL_U (sh_bd hm) h0]
   show insP _ ((l.eraseIdx j).map (addC _)) = _
   rw [insP_addC _ _ _ hm.sorted, hins]
  obtain ⟨z0, hz0, e2⟩ := lo_mem0 (l := l.eraseIdx j) h0
  obtain ⟨z1, hz1, e3⟩ := lo_mem1 (l := l.eraseIdx j) h0
  have b0 := hm.ok hz0
  have b1 := hm.ok hz1
  have hbd : BD (l.map (addC ⟨-(lo (l.eraseIdx j)).1, -(lo (l.eraseIdx j)).2⟩)) := by
   intro c hc
   obtain ⟨x, hx, rfl⟩ := List.mem_map.1 hc
   have := hs.ok hx
   unfold okC at this b0 b1
   unfold addC
   rw [e2, e3]
   simp only []; omega
  rw [e1, normL_U hbd (by rw [List.length_map]; exact hs.1), normU_add _ hs.1, normL_U (sh_bd hs) hs.1]
theorem less_cc {l : List C} (hs : Sh l) (hc : codeP l = 0) (h2 : 2 ≤ l.length) (j : Nat) (hj : j < l.length) (hz : ∀ x ∈ partsP (l.eraseIdx j), x = 0) : ccP (normL (l.eraseIdx j)) = 0 := by
 have hm := less_sh hs h2 j hj
 obtain ⟨h1, _, h3⟩ := norm_sub hc hm (fun c hc => (less_sub l j).subset hc)
 unfold ccP connP
 rw [shB_true h1, oneP_iff.2 (zeros_norm hm hz), Bool.and_self, if_pos rfl]
 exact h3
end Go.Proofs.YtbkafaoehheioaaGreat.M
namespace Go.Proofs.YtbkafaoehheioaaGreat.Pure
set_option linter.unusedVariables false
set_option linter.unusedSimpArgs false
open Go.RowKit Go.Proofs.YtbkafaoehheioaaGreat.X Go.Proofs.YtbkafaoehheioaaGreatW.PrintWords Go.Proofs.YtbkafaoehheioaaGreatW.PrintLast Go.Proofs.YtbkafaoehheioaaGreatW.PrintMore Go.Proofs.YtbkafaoehheioaaGreat.M
theorem likeShapes_loop (l : List (List C)) (hl : l.length ≤ 1000000) (hs : ∀ s ∈ l, s.length ≤ 1048576) : ∀ d j : Nat, j + d = l.length → Ev (fun k => laws_likeShapes.l0 k l l (j : Nat)) true := by
 intro d
 induction d with
 | zero =>
  intro j hj
  refine Ev.step (fun k => ?_) (Ev.now _)
  simp only [laws_likeShapes.l0]; rw [if_neg (by omega)]
 | succ d ih =>
  intro j hj
  refine Ev.step (f := fun k => (laws_likeCells.f k (ro_ l j) (ro_ l j)).bind fun t => if t = true then laws_likeShapes.l0 k l l ((j + 1 : Nat) : Int) else some false) (fun k => ?_) ?_
  ·simp only [laws_likeShapes.l0, rd_ro]
   rw [if_pos (by omega), if_pos (by omega), if_pos (by omega), w64 (by omega) (by omega)]; rfl
  ·refine Ev.bind (f := fun k t => if t = true then laws_likeShapes.l0 k l l ((j + 1 : Nat) : Int) else some false) (likeCells_ev (ro_ l j) (by have := hs _ (ro_mem l j (by omega)); omega)) ?_
   simp only [if_true]; exact ih (j + 1) (by omega)
theorem likeShapes_ev (l : List (List C)) (hl : l.length ≤ 1000000) (hs : ∀ s ∈ l, s.length ≤ 1048576) : Ev (fun k => laws_likeShapes.f k l l) true := by
 unfold laws_likeShapes.f
 simp only [if_true]
 exact likeShapes_loop l hl hs l.length 0 (by omega)
open Classical in
theorem likeAny_loop (l m : List C) (hlm : l.length = m.length) (hl : l.length ≤ 1000000) : ∀ d j : Nat, j + d = l.length → Ev (fun k => laws_likeCells.l0 k l m (j : Nat)) (decide (l.drop j = m.drop j)) := by
 intro d
 induction d with
 | zero =>
  intro j hj
  refine Ev.step (f := fun _ => some true) (fun k => ?_) ?_
  ·simp only [laws_likeCells.l0]; rw [if_neg (by omega)]
  ·rw [List.drop_of_length_le (by omega), List.drop_of_length_le (by omega), decide_eq_true rfl]; exact Ev.now _
 | succ d ih =>
  intro j hj
  have e1 : l.drop j = at_ l j :: l.drop (j + 1) := by rw [at_get l j (by omega), List.drop_eq_getElem_cons (by omega)]
  have e2 : m.drop j = at_ m j :: m.drop (j + 1) := by rw [at_get m j (by omega), List.drop_eq_getElem_cons (by omega)]
  by_cases c : at_ l j = at_ m j
  ·have ed : decide (l.drop j = m.drop j) = decide (l.drop (j + 1) = m.drop (j + 1)) := by
    rw [e1, e2, c]; congr 1; rw [List.cons.injEq]; simp
   rw [ed]
   refine Ev.step (fun k => ?_) (ih (j + 1) (by omega))
   simp only [laws_likeCells.l0, rd_at]
   rw [if_pos (by omega), if_pos (by omega), if_pos (by omega), c, if_neg (by simp), w64 (by omega) (by omega)]; rfl
  ·have ed : decide (l.drop j = m.drop j) = false := by
    rw [e1, e2]; exact decide_eq_false (fun g => c (List.cons.inj g).1)
   rw [ed]
   refine Ev.step (f := fun _ => some false) (fun k => ?_) (Ev.now _)
   simp only [laws_likeCells.l0, rd_at]
   rw [if_pos (by omega), if_pos (by omega), if_pos (by omega), if_pos ?_]
   by_cases g : (at_ l j).f0 = (at_ m j).f0
   ·by_cases g2 : (at_ l j).f1 = (at_ m j).f1
    ·exact absurd (by cases h1 : at_ l j; cases h2 : at_ m j; rw [h1, h2] at g g2; simp only [] at g g2; rw [g, g2]) c
    ·simp [g2]
   ·simp [g]
open Classical in
theorem likeAny_ev (l m : List C) (hl : l.length ≤ 1000000) : Ev (fun k => laws_likeCells.f k l m) (decide (l = m)) := by
 unfold laws_likeCells.f
 by_cases c : l.length = m.length
 ·simp only [if_pos (show (l.length : Int) = (m.length : Int) by omega)]
  exact likeAny_loop l m c hl l.length 0 (by omega)
 ·simp only [if_neg (show ¬ (l.length : Int) = (m.length : Int) by omega)]
  rw [decide_eq_false (fun g => c (by rw [g]))]; exact Ev.now _
open Classical in
theorem found_loop (L : List (List C)) (n : List C) (x14 x15 x17 : Int) (M : List (List C)) (hM : M.length ≤ 1000000) (hs : ∀ s ∈ M, s.length ≤ 1000) (R : Bool)
  (hfin : Ev (fun k => if x17 = 0 then (if decide (n ∈ M) = true then laws_FnGrown.l0 k L n x14 (wrap64 (x15 + 1)) else some false) else some false) R) :
  ∀ d j : Nat, j + d = M.length → Ev (fun k => laws_FnGrown.l1 k L n x14 x15 M x17 (decide (n ∈ M.take j)) (j : Nat)) R := by
 intro d
 induction d with
 | zero =>
  intro j hj
  rw [List.take_of_length_le (by omega)]
  refine Ev.step (fun k => ?_) hfin
  simp only [laws_FnGrown.l1]; rw [if_neg (by omega)]
 | succ d ih =>
  intro j hj
  have htk := take_ro M j (by omega)
  have h := ih (j + 1) (by omega)
  rw [htk] at h
  by_cases c : n ∈ M.take j
  ·rw [decide_eq_true c]
   rw [decide_eq_true (List.mem_append_left _ c)] at h
   refine Ev.step (fun k => ?_) h
   simp only [laws_FnGrown.l1, if_true]; rw [if_pos (by omega), w64 (by omega) (by omega)]; rfl
  ·rw [decide_eq_false c]
   have hd : decide (n ∈ M.take j ++ [ro_ M j]) = decide (ro_ M j = n) := by
    by_cases g : ro_ M j = n
    ·rw [decide_eq_true g, decide_eq_true (List.mem_append_right _ (List.mem_singleton.2 g.symm))]
    ·rw [decide_eq_false g, decide_eq_false (fun k => by
      rcases List.mem_append.1 k with k | k
      ·exact c k
      ·exact g (List.mem_singleton.1 k).symm)]
   rw [hd] at h
   refine Ev.step (f := fun k => (laws_likeCells.f k (ro_ M j) n).bind fun t => laws_FnGrown.l1 k L n x14 x15 M x17 t ((j + 1 : Nat) : Int)) (fun k => ?_) ?_
   ·simp only [laws_FnGrown.l1, rd_ro, Bool.false_eq_true, if_false]; rw [if_pos (by omega), if_pos (by omega), w64 (by omega) (by omega)]; rfl
   ·exact Ev.bind (f := fun k t => laws_FnGrown.l1 k L n x14 x15 M x17 t ((j + 1 : Nat) : Int)) (likeAny_ev (ro_ M j) n (by have := hs _ (ro_mem M j (by omega)); omega)) h
open Classical in
theorem each_loop (r : List C) (hs : Sh r) (hz : ∀ x ∈ partsP r, x = 0) (hc : codeP r = 0) (h2 : 2 ≤ r.length) : ∀ d j : Nat, j + d = (tidyP (shrF r r.length 0)).length → Ev (fun k => laws_FnGrown.l0 k (tidyP (shrF r r.length 0)) (normL r) 0 (j : Nat)) true := by
 have h40 := hs.2.1
 have hlen : (tidyP (shrF r r.length 0)).length ≤ 40 := by
  have h1 := tidyP_length (shrF r r.length 0)
  have h3 := shrF_length r r.length 0
  omega
 have hpos : 0 < (tidyP (shrF r r.length 0)).length := by
  obtain ⟨j, hj, hzj⟩ := shr_some hs hz h2
  exact List.length_pos_of_mem ((tidyP_mem _ _).2 ((shrF_mem r r.length 0 _).2 ⟨j, Nat.zero_le _, by omega, oneP_iff.2 hzj, rfl⟩))
 intro d
 induction d with
 | zero =>
  intro j hj
  refine Ev.step (f := fun _ => some true) (fun k => ?_) (Ev.now _)
  simp only [laws_FnGrown.l0, if_true]; rw [if_neg (by omega), decide_eq_true (show ((tidyP (shrF r r.length 0)).length : Int) > 0 by omega)]
 | succ d ih =>
  intro j hj
  have hm := (tidyP_mem _ _).1 (ro_mem (tidyP (shrF r r.length 0)) j (by omega))
  obtain ⟨i, _, hi, hzi, e⟩ := (shrF_mem r r.length 0 _).1 hm
  have hil : i < r.length := by omega
  have hzi' := oneP_iff.1 hzi
  have hcc := less_cc hs hc h2 i hil hzi'
  have hback := grows_back hs hz h2 i hil
  have hsl : (normL (r.eraseIdx i)).length ≤ 40 := by rw [normL_length, less_length r i hil]; omega
  have hgl := gsP_length (normL (r.eraseIdx i))
  have next := ih (j + 1) (by omega)
  refine Ev.step (f := fun k => (impl_GrowShape.f k (normL (r.eraseIdx i))).bind fun b => if b.2 = 5 then laws_FnGrown.l0 k (tidyP (shrF r r.length 0)) (normL r) 0 ((j + 1 : Nat) : Int) else laws_FnGrown.l1 k (tidyP (shrF r r.length 0)) (normL r) 0 (j : Nat) b.1 b.2 false 0) (fun k => ?_) ?_
  ·simp only [laws_FnGrown.l0, rd_ro, e]; rw [if_pos (by omega), if_pos (by omega), w64 (by omega) (by omega)]; rfl
  ·refine Ev.bind (f := fun k (b : List (List C) × Int) => if b.2 = 5 then laws_FnGrown.l0 k (tidyP (shrF r r.length 0)) (normL r) 0 ((j + 1 : Nat) : Int) else laws_FnGrown.l1 k (tidyP (shrF r r.length 0)) (normL r) 0 (j : Nat) b.1 b.2 false 0) (implGs_ev (normL (r.eraseIdx i)) (by omega)) ?_
   have hcase : (gsP (normL (r.eraseIdx i))).2 = 5 ∨ gsP (normL (r.eraseIdx i)) = (tidyP (growL (normL (r.eraseIdx i))), 0) := by
    unfold gsP
    rw [if_pos hcc]
    split
    ·exact Or.inl rfl
    split
    ·exact Or.inl rfl
    split
    ·exact Or.inl rfl
    ·exact Or.inr rfl
   rcases hcase with g | g
   ·simp only [if_pos g]; exact next
   ·rw [g] at hgl ⊢
    simp only [if_neg (show ¬ (0 : Int) = 5 by omega)]
    have hmem : normL r ∈ tidyP (growL (normL (r.eraseIdx i))) := (tidyP_mem _ _).2 hback
    have hf := found_loop (tidyP (shrF r r.length 0)) (normL r) 0 (j : Nat) 0 (tidyP (growL (normL (r.eraseIdx i)))) hgl.1 (fun s hs => by have := hgl.2 s hs; omega) true (by
     rw [decide_eq_true hmem]
     simp only [if_true]
     rw [w64 (by omega) (by omega)]
     exact next) (tidyP (growL (normL (r.eraseIdx i)))).length 0 (by omega)
    exact hf
theorem FnGrown : laws_FnGrown.Pure := by
 intro l _ hlen hw
 have hb := bytes_of hw
 by_cases hbig : (l.length : Int) > 4096
 ·exact ⟨0, by unfold laws_FnGrown.f laws_big.f; simp [hbig]⟩
 obtain ⟨s0, e0, h0⟩ := from_some hb (by omega)
 obtain ⟨r, i', s', e1, h1, hl, hwi⟩ := draw_some h0
 have hd : Ev (fun k => spec_DrawShrinkShape.f k l) r := by
  unfold spec_DrawShrinkShape.f
  exact Ev.bind (f := fun k (b : List Int × Int × Int) => (spec_l02Draw.f k b.1 b.2.1 b.2.2).bind fun c => (some c.1)) e0 (Ev.bind (f := fun _ (c : List C × Int × Int) => some c.1) e1 (Ev.now _))
 have hd2 : Ev (fun k => spec_DrawGrowShape.f k l) r := by
  unfold spec_DrawGrowShape.f
  exact Ev.bind (f := fun k (b : List Int × Int × Int) => (spec_l02Draw.f k b.1 b.2.1 b.2.2).bind fun c => (some c.1)) e0 (Ev.bind (f := fun _ (c : List C × Int × Int) => some c.1) e1 (Ev.now _))
 have hsk := skP_length r
 have hgs := gsP_length r
 obtain ⟨K, b1, b2, b3, b4, b5, b6, b7, b8⟩ := ev8 hd hd2 (implSk_ev r (by omega)) (specSk_ev r (by omega)) (implGs_ev r (by omega)) (specGs_ev r (by omega)) (likeShapes_ev (skP r).1 hsk.1 (fun s hs => by have := hsk.2 s hs; omega)) (likeShapes_ev (gsP r).1 hgs.1 (fun s hs => by have := hgs.2 s hs; omega))
 have outer : ∀ n, laws_FnGrown.f (K + n) l = laws_FnGrown.j0 (K + n) r (skP r).1 (skP r).2 false := by
  intro n
  simp only [laws_FnGrown.f, laws_big.f, Option.bind_some, decide_eq_false hbig, Bool.false_eq_true, if_false, b1, b2, b3, b4, b5, b6, b7, b8, if_true, Bool.not_true]
 by_cases hc : (skP r).2 = 0
 ·have hcc : ccP r = 0 := by
   unfold skP at hc
   by_cases g : ccP r = 0
   ·exact g
   ·rw [if_neg g] at hc; exact absurd hc g
  obtain ⟨hs, hz, hcode⟩ := cc_zero hcc
  have h1' := hs.1
  have hne : ¬ (r.length : Int) = 1 := by
   intro g
   unfold skP at hc
   rw [if_pos hcc, if_pos g] at hc
   simp at hc
  have esk : skP r = (tidyP (shrF r r.length 0), 0) := by unfold skP; rw [if_pos hcc, if_neg hne]
  have hnf : nfP r = (normL r, 0) := by
   unfold nfP
   obtain ⟨hn, _, _⟩ := norm_sub hcode hs (fun c hc => hc)
   rw [if_pos (shB_true hs), if_pos (shB_true hn)]
  have key : Ev (fun k => laws_FnGrown.j0 k r (skP r).1 (skP r).2 false) true := by
   rw [esk]
   refine Ev.step (f := fun k => (impl_NormalForm.f k r).bind fun b => laws_FnGrown.l0 k (tidyP (shrF r r.length 0)) b.1 b.2 0) (fun k => ?_) ?_
   ·simp only [laws_FnGrown.j0, Bool.false_eq_true, if_false, if_true]
   ·have h := implNf_ev r (by omega)
    rw [hnf] at h
    exact Ev.bind (f := fun k (b : List C × Int) => laws_FnGrown.l0 k (tidyP (shrF r r.length 0)) b.1 b.2 0) h (each_loop r hs hz hcode (by omega) (tidyP (shrF r r.length 0)).length 0 (by omega))
  obtain ⟨M, hM⟩ := key
  refine ⟨K + M, ?_⟩
  rw [outer]
  exact hM (K + M) (by omega)
 ·refine ⟨K + 1, ?_⟩
  rw [outer]
  simp only [laws_FnGrown.j0, Bool.false_eq_true, if_false, if_neg hc]
end Go.Proofs.YtbkafaoehheioaaGreat.Pure
