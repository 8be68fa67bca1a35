/- The normal form does not depend on where a shape lies: the law answers true for every code, without any condition. -/
import Derived.Test.YtbfmocohknadkaaXx0
import Derived.Test.YtbfmocohknadkaaXx11
import Derived.Test.YtbfmocohknadkaaXx12
import Derived.Test.YtbfmocohknadkaaXx13
import Derived.Test.YtbfmocohknadkaaXx17
import Derived.Test.YtbfmocohknadkaaXx18
import Derived.Test.YtbfmocohknadkaaXx2
import Derived.Test.YtbfmocohknadkaaXx22
import Derived.Test.YtbfmocohknadkaaXx24
import Derived.Test.YtbfmocohknadkaaXx3
import Derived.Test.YtbfmocohknadkaaXx36
import Derived.Test.YtbfmocohknadkaaXx37
import Derived.Test.YtbfmocohknadkaaXx4
import Derived.Test.YtbfmocohknadkaaXx5
import Derived.Test.YtbfmocohknadkaaXx6
import Derived.Test.YtbfmocohknadkaaXx8
import Derived.Test.YtbfmocohknadkaaXx9
namespace Go.Proofs.Ytbfmocohknadkaa.M
set_option linter.unusedVariables false
set_option linter.unusedSimpArgs false
open Go.RowKit Go.Proofs.Ytbfmocohknadkaa.X Go.Proofs.YtbfmocohknadkaaW.PrintWords Go.Proofs.YtbfmocohknadkaaW.PrintLast Go.Proofs.YtbfmocohknadkaaW.PrintMore
theorem w64 {x : Int} (h1 : -9223372036854775808 ≤ x) (h2 : x ≤ 9223372036854775807) : wrap64 x = x := by unfold wrap64; omega
theorem rd_byte {c : List Int} (h : ∀ x ∈ c, 0 ≤ x ∧ x ≤ 255) (i : Int) : 0 ≤ rd c i ∧ rd c i ≤ 255 := by
 unfold rd
 rw [List.getD_eq_getElem?_getD]
 by_cases hi : i.toNat < c.length
 ·rw [List.getElem?_eq_getElem hi]; exact h _ (List.getElem_mem hi)
 ·rw [List.getElem?_eq_none (by omega)]; decide
theorem tmod_pos {a n : Int} (h : 0 ≤ a) (hn : 0 < n) : 0 ≤ Int.tmod a n ∧ Int.tmod a n < n := by
 rw [Int.tmod_eq_emod_of_nonneg h]; exact ⟨Int.emod_nonneg _ (by omega), Int.emod_lt_of_pos _ hn⟩
theorem bytes_of {l : List Int} (h : ∀ x ∈ l, (Lit.int .u8 x).wf = true) : ∀ x ∈ l, 0 ≤ x ∧ x ≤ 255 := by
 intro x hx
 have := h x hx
 simp only [Lit.wf, Bool.and_eq_true, decide_eq_true_eq] at this
 exact this
abbrev C := S57
def at_ (l : List C) (j : Nat) : C := l.getD j ⟨0, 0⟩
theorem rd_at (l : List C) (j : Nat) : rd_T57 l (j : Int) = at_ l j := by unfold rd_T57 at_; rw [Int.toNat_natCast]; rfl
theorem at_get (l : List C) (j : Nat) (h : j < l.length) : at_ l j = l[j] := by unfold at_; rw [List.getD_eq_getElem?_getD, List.getElem?_eq_getElem h]; rfl
theorem at_mem (l : List C) (j : Nat) (h : j < l.length) : at_ l j ∈ l := by rw [at_get l j h]; exact List.getElem_mem h
theorem drop_at (l : List C) (j : Nat) (h : j < l.length) : l.drop j = at_ l j :: l.drop (j + 1) := by rw [at_get l j h, List.drop_eq_getElem_cons h]
def AE (P : Nat → Prop) : Prop := ∃ K, ∀ k, K ≤ k → P k
theorem AE.and {P Q : Nat → Prop} (h : AE P) (g : AE Q) : AE (fun k => P k ∧ Q k) := by
 obtain ⟨K, h⟩ := h; obtain ⟨L, g⟩ := g
 exact ⟨K + L, fun k hk => ⟨h k (by omega), g k (by omega)⟩⟩
theorem AE.up {P : Nat → Prop} (h : AE P) : ∃ K, ∀ n, P (K + n) := by
 obtain ⟨K, h⟩ := h; exact ⟨K, fun n => h _ (by omega)⟩
theorem evae {α : Type} {g : Nat → Option α} {a : α} (h : Ev g a) : AE (fun k => g k = some a) := h
theorem evup {α : Type} {g : Nat → Option α} {a : α} (h : Ev g a) : ∃ K, ∀ n, g (K + n) = some a := AE.up h
theorem ev2 {α0 α1 : Type} {g0 : Nat → Option α0} {g1 : Nat → Option α1} {a0 : α0} {a1 : α1} (h0 : Ev g0 a0) (h1 : Ev g1 a1) : ∃ K, (∀ n, g0 (K + n) = some a0) ∧ (∀ n, g1 (K + n) = some a1) := by
 obtain ⟨K, h⟩ := AE.up (AE.and (evae h0) (evae h1)); exact ⟨K, fun n => (h n).1, fun n => (h n).2⟩
theorem ev3 {α0 α1 α2 : Type} {g0 : Nat → Option α0} {g1 : Nat → Option α1} {g2 : Nat → Option α2} {a0 : α0} {a1 : α1} {a2 : α2} (h0 : Ev g0 a0) (h1 : Ev g1 a1) (h2 : Ev g2 a2) : ∃ K, (∀ n, g0 (K + n) = some a0) ∧ (∀ n, g1 (K + n) = some a1) ∧ (∀ n, g2 (K + n) = some a2) := by
 obtain ⟨K, h⟩ := AE.up (AE.and (evae h0) (AE.and (evae h1) (evae h2))); exact ⟨K, fun n => (h n).1, fun n => (h n).2.1, fun n => (h n).2.2⟩
theorem ev6 {α0 α1 α2 α3 α4 α5 : Type} {g0 : Nat → Option α0} {g1 : Nat → Option α1} {g2 : Nat → Option α2} {g3 : Nat → Option α3} {g4 : Nat → Option α4} {g5 : Nat → Option α5} {a0 : α0} {a1 : α1} {a2 : α2} {a3 : α3} {a4 : α4} {a5 : α5} (h0 : Ev g0 a0) (h1 : Ev g1 a1) (h2 : Ev g2 a2) (h3 : Ev g3 a3) (h4 : Ev g4 a4) (h5 : Ev g5 a5) : ∃ K, (∀ n, g0 (K + n) = some a0) ∧ (∀ n, g1 (K + n) = some a1) ∧ (∀ n, g2 (K + n) = some a2) ∧ (∀ n, g3 (K + n) = some a3) ∧ (∀ n, g4 (K + n) = some a4) ∧ (∀ n, g5 (K + n) = some a5) := by
 obtain ⟨K, h⟩ := AE.up (AE.and (evae h0) (AE.and (evae h1) (AE.and (evae h2) (AE.and (evae h3) (AE.and (evae h4) (evae h5)))))); exact ⟨K, fun n => (h n).1, fun n => (h n).2.1, fun n => (h n).2.2.1, fun n => (h n).2.2.2.1, fun n => (h n).2.2.2.2.1, fun n => (h n).2.2.2.2.2⟩
theorem ev8 {α0 α1 α2 α3 α4 α5 α6 α7 : Type} {g0 : Nat → Option α0} {g1 : Nat → Option α1} {g2 : Nat → Option α2} {g3 : Nat → Option α3} {g4 : Nat → Option α4} {g5 : Nat → Option α5} {g6 : Nat → Option α6} {g7 : Nat → Option α7} {a0 : α0} {a1 : α1} {a2 : α2} {a3 : α3} {a4 : α4} {a5 : α5} {a6 : α6} {a7 : α7} (h0 : Ev g0 a0) (h1 : Ev g1 a1) (h2 : Ev g2 a2) (h3 : Ev g3 a3) (h4 : Ev g4 a4) (h5 : Ev g5 a5) (h6 : Ev g6 a6) (h7 : Ev g7 a7) : ∃ K, (∀ n, g0 (K + n) = some a0) ∧ (∀ n, g1 (K + n) = some a1) ∧ (∀ n, g2 (K + n) = some a2) ∧ (∀ n, g3 (K + n) = some a3) ∧ (∀ n, g4 (K + n) = some a4) ∧ (∀ n, g5 (K + n) = some a5) ∧ (∀ n, g6 (K + n) = some a6) ∧ (∀ n, g7 (K + n) = some a7) := by
 obtain ⟨K, h⟩ := AE.up (AE.and (evae h0) (AE.and (evae h1) (AE.and (evae h2) (AE.and (evae h3) (AE.and (evae h4) (AE.and (evae h5) (AE.and (evae h6) (evae h7)))))))); exact ⟨K, fun n => (h n).1, fun n => (h n).2.1, fun n => (h n).2.2.1, fun n => (h n).2.2.2.1, fun n => (h n).2.2.2.2.1, fun n => (h n).2.2.2.2.2.1, fun n => (h n).2.2.2.2.2.2.1, fun n => (h n).2.2.2.2.2.2.2⟩
theorem ev_fold {σ β : Type} (F : Nat → σ → Int → Option β) (l : List C) (g : σ → C → σ) (fin : σ → Option β) (r : β) (inv : Nat → σ → Prop)
  (step : ∀ k s (j : Nat), j < l.length → at_ l j ∈ l → inv j s → F (k + 1) s (j : Nat) = F k (g s (at_ l j)) ((j + 1 : Nat) : Int) ∧ inv (j + 1) (g s (at_ l j)))
  (done : ∀ k s, inv l.length s → F (k + 1) s (l.length : Nat) = fin s) (j0 : Nat) (hj0 : j0 ≤ l.length) (s0 : σ) (h0 : inv j0 s0) (hr : fin ((l.drop j0).foldl g s0) = some r) : Ev (fun k => F k s0 (j0 : Nat)) r := by
 have key : ∀ d j : Nat, j + d = l.length → ∀ s, inv j s → fin ((l.drop j).foldl g s) = some r → Ev (fun k => F k s (j : Nat)) r := by
  intro d
  induction d with
  | zero =>
   intro j hj s hs hr
   obtain rfl : j = l.length := by omega
   refine Ev.step (fun k => done k s hs) ?_
   rw [List.drop_length] at hr
   have hr' : fin s = some r := hr
   rw [hr']; exact Ev.now r
  | succ d ih =>
   intro j hj s hs hr
   have h : j < l.length := by omega
   refine Ev.step (fun k => (step k s j h (at_mem l j h) hs).1) (ih (j + 1) (by omega) _ ((step 0 s j h (at_mem l j h) hs).2) ?_)
   rw [drop_at l j h] at hr; exact hr
 exact key (l.length - j0) j0 (by omega) s0 h0 hr
theorem l01In_eq (a b c : Int) : spec_l01In.f a b c = some (decide (b ≤ a ∧ a ≤ c)) := by
 unfold spec_l01In.f; by_cases h : a ≥ b
 ·rw [if_pos h]; simp [h]
 ·rw [if_neg h]; simp; omega
theorem within_eq (a b c : Int) : impl_within.f a b c = some (decide (b ≤ a ∧ a ≤ c)) := l01In_eq a b c
def ltC (a b : C) : Prop := a.f1 < b.f1 ∨ (a.f1 = b.f1 ∧ a.f0 < b.f0)
instance (a b : C) : Decidable (ltC a b) := by unfold ltC; exact inferInstance
def okC (a : C) : Prop := -100 ≤ a.f0 ∧ a.f0 ≤ 100 ∧ -100 ≤ a.f1 ∧ a.f1 ≤ 100
instance (a : C) : Decidable (okC a) := by unfold okC; exact inferInstance
def Sh (l : List C) : Prop := 1 ≤ l.length ∧ l.length ≤ 40 ∧ (∀ i, i < l.length → okC (at_ l i)) ∧ (∀ i, i + 1 < l.length → ltC (at_ l i) (at_ l (i + 1)))
noncomputable def shB (l : List C) : Bool := @decide (Sh l) (Classical.propDecidable _)
theorem shB_true {l : List C} (h : Sh l) : shB l = true := @decide_eq_true _ (Classical.propDecidable _) h
theorem shB_false {l : List C} (h : ¬ Sh l) : shB l = false := @decide_eq_false _ (Classical.propDecidable _) h
theorem less_eq (a b c d : Int) : spec_l02Less.f a b c d = some (decide (ltC ⟨a, b⟩ ⟨c, d⟩)) := by
 unfold spec_l02Less.f ltC
 by_cases h : b < d
 ·rw [if_pos h]; simp [h]
 ·rw [if_neg h]
  by_cases e : b = d
  ·rw [if_pos e]; simp [e]
  ·rw [if_neg e]; simp [h, e]
theorem cellOk_eq (a b : Int) : spec_l02Cell.f a b = some (decide (okC ⟨a, b⟩)) := by
 unfold spec_l02Cell.f okC
 simp only [l01In_eq, Option.bind_some]
 by_cases h : -100 ≤ a ∧ a ≤ 100
 ·simp [h]
 ·simp only [decide_eq_false h, Bool.false_eq_true, if_false]; congr 1; exact (decide_eq_false (fun g => h ⟨g.1, g.2.1⟩)).symm
theorem isCo_eq (a : Int) : impl_isCoordinate.f a = some (decide (-100 ≤ a ∧ a ≤ 100)) := by
 unfold impl_isCoordinate.f; simp only [within_eq, Option.bind_some]
theorem cmp_eq (a b : Int) : cmp_Compare_int64.f a b = some (if a < b then -1 else if b < a then 1 else 0) := by
 unfold cmp_Compare_int64.f cmp_isNaN_int64.f
 simp only [bne_self_eq_false, Option.bind_some, Bool.false_eq_true, if_false]
 by_cases h : a < b
 ·simp [h]
 ·by_cases g : b < a <;> simp [h, g]
def cmpC (a b : C) : Int := if ltC a b then -1 else if ltC b a then 1 else 0
theorem cmpCells_eq (a b c d : Int) : impl_compareCells.f a b c d = some (cmpC ⟨a, b⟩ ⟨c, d⟩) := by
 unfold impl_compareCells.f cmpC ltC
 simp only [cmp_eq, Option.bind_some]
 by_cases h : b < d
 ·simp [h]
 ·by_cases g : d < b
  ·have : ¬ b = d := by omega
   have : ¬ d = b := by omega
   simp [*]
  ·obtain rfl : b = d := by omega
   simp [h]
theorem cmpC_neg (a b : C) : (0 ≤ cmpC a b) ↔ ¬ ltC a b := by
 unfold cmpC; by_cases h : ltC a b
 ·simp [h]
 ·simp only [h, if_false, not_false_eq_true, iff_true]; split <;> omega
theorem specShape_loop (l : List C) (hl : l.length ≤ 1048576) : ∀ d j : Nat, j + d = l.length → (∀ i, i < j → okC (at_ l i)) → (∀ i, i + 1 < j → ltC (at_ l i) (at_ l (i + 1))) → Ev (fun k => spec_IsShape.l0 k l (j : Nat)) (shB l) := by
 intro d
 induction d with
 | zero =>
  intro j hj h1 h2
  obtain rfl : j = l.length := by omega
  refine Ev.step (fun k => ?_) (Ev.now _)
  simp only [spec_IsShape.l0, l01In_eq, Option.bind_some]; rw [if_neg (by omega)]
  congr 1
  by_cases h : 1 ≤ l.length ∧ l.length ≤ 40
  ·rw [shB_true ⟨h.1, h.2, h1, h2⟩]; exact decide_eq_true (by omega)
  ·rw [shB_false (fun g => h ⟨g.1, g.2.1⟩)]; exact decide_eq_false (by omega)
 | succ d ih =>
  intro j hj h1 h2
  by_cases c1 : okC (at_ l j)
  ·have c1' : okC ⟨(at_ l j).f0, (at_ l j).f1⟩ := c1
   by_cases c2 : j = 0
   ·subst c2
    refine Ev.step (fun k => ?_) (ih 1 (by omega) (fun i hi => by obtain rfl : i = 0 := (by omega); exact c1) (fun i hi => by omega))
    simp only [spec_IsShape.l0, rd_at, cellOk_eq, decide_eq_true c1', Option.bind_some, if_true]
    rw [if_pos (by omega), if_pos (by omega), if_neg (by omega), w64 (by omega) (by omega)]; rfl
   ·obtain ⟨i, rfl⟩ : ∃ i, j = i + 1 := ⟨j - 1, by omega⟩
    have e : wrap64 (((i + 1 : Nat) : Int) - 1) = (i : Nat) := by rw [w64 (by omega) (by omega)]; omega
    by_cases c3 : ltC (at_ l i) (at_ l (i + 1))
    ·have c3' : ltC ⟨(at_ l i).f0, (at_ l i).f1⟩ ⟨(at_ l (i + 1)).f0, (at_ l (i + 1)).f1⟩ := c3
     refine Ev.step (fun k => ?_) (ih (i + 1 + 1) (by omega) (fun x hx => if g : x = i + 1 then by rw [g]; exact c1 else h1 x (by omega)) (fun x hx => if g : x = i then by rw [g]; exact c3 else h2 x (by omega)))
     simp only [spec_IsShape.l0, rd_at, cellOk_eq, decide_eq_true c1', Option.bind_some, if_true, e, less_eq, decide_eq_true c3']
     rw [if_pos (by omega), if_pos (by omega), if_pos (by omega), if_pos (by omega), if_pos (by omega), w64 (by omega) (by omega)]; rfl
    ·have c3' : ¬ ltC ⟨(at_ l i).f0, (at_ l i).f1⟩ ⟨(at_ l (i + 1)).f0, (at_ l (i + 1)).f1⟩ := c3
     rw [shB_false (fun g => c3 (g.2.2.2 i (by omega)))]
     refine Ev.step (fun k => ?_) (Ev.now _)
     simp only [spec_IsShape.l0, rd_at, cellOk_eq, decide_eq_true c1', Option.bind_some, if_true, e, less_eq, decide_eq_false c3', Bool.false_eq_true, if_false]
     rw [if_pos (by omega), if_pos (by omega), if_pos (by omega), if_pos (by omega), if_pos (by omega)]
  ·have c1' : ¬ okC ⟨(at_ l j).f0, (at_ l j).f1⟩ := c1
   rw [shB_false (fun g => c1 (g.2.2.1 j (by omega)))]
   refine Ev.step (fun k => ?_) (Ev.now _)
   simp only [spec_IsShape.l0, rd_at, cellOk_eq, decide_eq_false c1', Option.bind_some, Bool.false_eq_true, if_false]
   rw [if_pos (by omega), if_pos (by omega)]
theorem specShape_ev (l : List C) (hl : l.length ≤ 1048576) : Ev (fun k => spec_IsShape.f k l) (shB l) :=
 specShape_loop l hl l.length 0 (by omega) (fun i hi => by omega) (fun i hi => by omega)
theorem implShape_loop (l : List C) (hl : l.length ≤ 1048576) : ∀ d j : Nat, j + d = l.length → (∀ i, i < j → okC (at_ l i)) → (∀ i, i + 1 < j → ltC (at_ l i) (at_ l (i + 1))) → Ev (fun k => impl_IsShape.l0 k l l (l.length : Int) (j : Nat)) (shB l) := by
 intro d
 induction d with
 | zero =>
  intro j hj h1 h2
  obtain rfl : j = l.length := by omega
  refine Ev.step (fun k => ?_) (Ev.now _)
  simp only [impl_IsShape.l0]; rw [if_neg (by omega)]
  by_cases h : 1 ≤ l.length ∧ l.length ≤ 40
  ·rw [shB_true ⟨h.1, h.2, h1, h2⟩, if_pos (by omega)]; congr 1; exact decide_eq_true (by omega)
  ·rw [shB_false (fun g => h ⟨g.1, g.2.1⟩)]
   by_cases g : (l.length : Int) ≥ 1
   ·rw [if_pos g]; congr 1; exact decide_eq_false (by omega)
   ·rw [if_neg g]
 | succ d ih =>
  intro j hj h1 h2
  by_cases c1 : okC (at_ l j)
  ·have ca : -100 ≤ (at_ l j).f0 ∧ (at_ l j).f0 ≤ 100 := ⟨c1.1, c1.2.1⟩
   have cb : -100 ≤ (at_ l j).f1 ∧ (at_ l j).f1 ≤ 100 := c1.2.2
   by_cases c2 : j = 0
   ·subst c2
    refine Ev.step (fun k => ?_) (ih 1 (by omega) (fun i hi => by obtain rfl : i = 0 := (by omega); exact c1) (fun i hi => by omega))
    simp only [impl_IsShape.l0, rd_at, isCo_eq, decide_eq_true ca, decide_eq_true cb, Option.bind_some, if_true]
    rw [if_pos (by omega), if_pos (by omega), if_pos (by omega), if_neg (by omega), w64 (by omega) (by omega)]; rfl
   ·obtain ⟨i, rfl⟩ : ∃ i, j = i + 1 := ⟨j - 1, by omega⟩
    have e : wrap64 (((i + 1 : Nat) : Int) - 1) = (i : Nat) := by rw [w64 (by omega) (by omega)]; omega
    by_cases c3 : ltC (at_ l i) (at_ l (i + 1))
    ·have c3' : ¬ (cmpC ⟨(at_ l i).f0, (at_ l i).f1⟩ ⟨(at_ l (i + 1)).f0, (at_ l (i + 1)).f1⟩ ≥ 0) := fun g => (cmpC_neg _ _).1 g c3
     refine Ev.step (fun k => ?_) (ih (i + 1 + 1) (by omega) (fun x hx => if g : x = i + 1 then by rw [g]; exact c1 else h1 x (by omega)) (fun x hx => if g : x = i then by rw [g]; exact c3 else h2 x (by omega)))
     simp only [impl_IsShape.l0, rd_at, isCo_eq, decide_eq_true ca, decide_eq_true cb, Option.bind_some, if_true, e, cmpCells_eq, if_neg c3']
     rw [if_pos (by omega), if_pos (by omega), if_pos (by omega), if_pos (by omega), if_pos (by omega), if_pos (by omega), w64 (by omega) (by omega)]; rfl
    ·have c3' : cmpC ⟨(at_ l i).f0, (at_ l i).f1⟩ ⟨(at_ l (i + 1)).f0, (at_ l (i + 1)).f1⟩ ≥ 0 := (cmpC_neg _ _).2 c3
     rw [shB_false (fun g => c3 (g.2.2.2 i (by omega)))]
     refine Ev.step (fun k => ?_) (Ev.now _)
     simp only [impl_IsShape.l0, rd_at, isCo_eq, decide_eq_true ca, decide_eq_true cb, Option.bind_some, if_true, e, cmpCells_eq, if_pos c3']
     rw [if_pos (by omega), if_pos (by omega), if_pos (by omega), if_pos (by omega), if_pos (by omega), if_pos (by omega)]
  ·rw [shB_false (fun g => c1 (g.2.2.1 j (by omega)))]
   refine Ev.step (fun k => ?_) (Ev.now _)
   simp only [impl_IsShape.l0, rd_at, isCo_eq, Option.bind_some]
   rw [if_pos (by omega), if_pos (by omega), if_pos (by omega)]
   by_cases ca : -100 ≤ (at_ l j).f0 ∧ (at_ l j).f0 ≤ 100
   ·have cb : ¬ (-100 ≤ (at_ l j).f1 ∧ (at_ l j).f1 ≤ 100) := fun cb => c1 ⟨ca.1, ca.2, cb.1, cb.2⟩
    simp only [decide_eq_true ca, decide_eq_false cb, if_true, Bool.false_eq_true, if_false]
   ·simp only [decide_eq_false ca, Bool.false_eq_true, if_false]
theorem implShape_ev (l : List C) (hl : l.length ≤ 1048576) : Ev (fun k => impl_IsShape.f k l) (shB l) :=
 implShape_loop l hl l.length 0 (by omega) (fun i hi => by omega) (fun i hi => by omega)
theorem mem_at {l : List C} {c : C} (h : c ∈ l) : ∃ i, i < l.length ∧ at_ l i = c := by
 obtain ⟨i, hi, e⟩ := List.mem_iff_getElem.1 h
 exact ⟨i, hi, (at_get l i hi).trans e⟩
theorem Sh.ok {l : List C} (h : Sh l) {c : C} (hc : c ∈ l) : okC c := by
 obtain ⟨i, hi, rfl⟩ := mem_at hc
 exact h.2.2.1 i hi
theorem ltC_trans {a b c : C} (h : ltC a b) (g : ltC b c) : ltC a c := by unfold ltC at *; omega
theorem sh_cases (l : List C) : (Sh l ∧ shB l = true) ∨ (¬ Sh l ∧ shB l = false) := by
 by_cases h : Sh l
 ·exact Or.inl ⟨h, shB_true h⟩
 ·exact Or.inr ⟨h, shB_false h⟩
structure Src (c : List Int) (i s : Int) : Prop where
 bytes : ∀ x ∈ c, 0 ≤ x ∧ x ≤ 255
 lo : 0 ≤ i
 hi : i ≤ c.length
 len : c.length ≤ 140737488355328
 s0 : 0 ≤ s
 s1 : s < 2147483647
theorem next_some {c : List Int} {i s : Int} (h : Src c i s) (n : Int) (_ : n ≤ 9223372036854775807) : ∃ r i' s', spec_l01Next.f c i s n = some (r, i', s') ∧ Src c i' s' ∧ 0 ≤ r ∧ (1 ≤ n → r < n) ∧ (n ≤ 1 → r = 0) := by
 obtain ⟨hb, hlo, hhi, hlen, h0, h1⟩ := h
 have hr := rd_byte hb i
 unfold spec_l01Next.f
 by_cases c1 : n ≤ 1
 ·rw [if_pos c1]; exact ⟨0, i, s, rfl, ⟨hb, hlo, hhi, hlen, h0, h1⟩, by omega, by omega, fun _ => rfl⟩
 ·rw [if_neg c1, if_pos (by omega)]
  have s0 := Int.emod_nonneg (s * 48271 + 29) (show (2147483647 : Int) ≠ 0 by omega)
  have s1 := Int.emod_lt_of_pos (s * 48271 + 29) (show (0 : Int) < 2147483647 by omega)
  generalize (s * 48271 + 29) % 2147483647 = s' at s0 s1 ⊢
  have fin : ∀ x : Int, 0 ≤ x % n ∧ (1 ≤ n → x % n < n) ∧ (n ≤ 1 → x % n = 0) := fun x => ⟨Int.emod_nonneg _ (by omega), fun _ => Int.emod_lt_of_pos _ (by omega), fun z => by omega⟩
  by_cases c2 : i < (c.length : Int)
  ·rw [if_pos c2]
   have hS : Src c (i + 1) s' := ⟨hb, by omega, by omega, hlen, s0, s1⟩
   split
   ·exact ⟨_, _, _, rfl, hS, fin _⟩
   ·exact ⟨_, _, _, rfl, hS, fin _⟩
  ·rw [if_neg c2]
   exact ⟨_, _, _, rfl, ⟨hb, hlo, hhi, hlen, s0, s1⟩, fin _⟩
theorem from_loop {c : List Int} (hb : ∀ x ∈ c, 0 ≤ x ∧ x ≤ 255) (hl : c.length ≤ 140737488355328) : ∀ d : Nat, ∀ i s : Int, 0 ≤ i → (c.length : Int) - i ≤ d → i ≤ c.length → 0 ≤ s → s < 2147483647 →
  ∃ s', Ev (fun k => spec_l01From.l0 k c i c 0 s) (c, 0, s') ∧ Src c 0 s' := by
 intro d
 induction d with
 | zero =>
  intro i s h0 h1 h2 h3 h4
  refine ⟨s, Ev.step (fun k => ?_) (Ev.now _), ⟨hb, by omega, by omega, hl, h3, h4⟩⟩
  simp only [spec_l01From.l0]; rw [if_neg (by omega)]
 | succ d ih =>
  intro i s h0 h1 h2 h3 h4
  by_cases hc : i < (c.length : Int) ∧ i < 64
  ·have hr := rd_byte hb i
   have ht := tmod_pos (a := s * 47 + rd c i) (n := 2147483647) (by omega) (by omega)
   obtain ⟨s', he, hs⟩ := ih (i + 1) (Int.tmod (s * 47 + rd c i) 2147483647) (by omega) (by omega) (by omega) ht.1 ht.2
   refine ⟨s', Ev.step (fun k => ?_) he, hs⟩
   simp only [spec_l01From.l0]; rw [if_pos hc.1, if_pos hc.2, if_pos h0, w64 (x := i + 1) (by omega) (by omega), w64 (x := s * 47) (by omega) (by omega), w64 (x := rd c i) (by omega) (by omega), w64 (by omega) (by omega)]
  ·refine ⟨s, Ev.step (fun k => ?_) (Ev.now _), ⟨hb, by omega, by omega, hl, h3, h4⟩⟩
   simp only [spec_l01From.l0]
   by_cases hc1 : i < (c.length : Int)
   ·rw [if_pos hc1, if_neg (by omega)]
   ·rw [if_neg hc1]
theorem from_some {c : List Int} (hb : ∀ x ∈ c, 0 ≤ x ∧ x ≤ 255) (hl : c.length ≤ 140737488355328) : ∃ s', Ev (fun k => spec_l01From.f k c) (c, 0, s') ∧ Src c 0 s' := by
 exact from_loop hb hl c.length 0 61003 (by omega) (by omega) (by omega) (by omega) (by omega)
def ixF : Nat → List C → Int → Int → Int
 | _, [], _, _ => -1
 | j, c :: r, x, y => if c.f0 = x ∧ c.f1 = y then (j : Int) else ixF (j + 1) r x y
theorem ixF_mem (x y : Int) : ∀ (r : List C) (j : Nat), 0 ≤ ixF j r x y ↔ (⟨x, y⟩ : C) ∈ r := by
 intro r
 induction r with
 | nil => intro j; simp [ixF]
 | cons c r ih =>
  intro j
  unfold ixF
  by_cases h : c.f0 = x ∧ c.f1 = y
  ·rw [if_pos h]
   constructor
   ·intro _; obtain ⟨rfl, rfl⟩ := h; exact List.mem_cons_self
   ·intro _; omega
  ·rw [if_neg h, ih (j + 1), List.mem_cons]
   constructor
   ·exact fun g => Or.inr g
   ·rintro (g | g)
    ·exact absurd (by rw [← g]; exact ⟨rfl, rfl⟩) h
    ·exact g
def hasC (l : List C) (x y : Int) : Bool := decide (0 ≤ ixF 0 l x y)
theorem hasC_iff (l : List C) (x y : Int) : hasC l x y = true ↔ (⟨x, y⟩ : C) ∈ l := by unfold hasC; rw [decide_eq_true_eq]; exact ixF_mem x y l 0
theorem specIx_loop (l : List C) (x y : Int) (hl : l.length ≤ 1048576) : ∀ d j : Nat, j + d = l.length → Ev (fun k => spec_l02Index.l0 k l (j : Nat) x y) (ixF j (l.drop j) x y) := by
 intro d
 induction d with
 | zero =>
  intro j hj
  obtain rfl : j = l.length := by omega
  rw [List.drop_length]
  refine Ev.step (fun k => ?_) (Ev.now _)
  simp only [spec_l02Index.l0, ixF]; rw [if_neg (by omega)]
 | succ d ih =>
  intro j hj
  rw [drop_at l j (by omega)]
  have e : ∀ k, spec_l02Index.l0 (k + 1) l (j : Nat) x y = if (at_ l j).f0 = x ∧ (at_ l j).f1 = y then some (j : Int) else spec_l02Index.l0 k l ((j + 1 : Nat) : Int) x y := by
   intro k
   simp only [spec_l02Index.l0, rd_at, Bool.and_eq_true, beq_iff_eq]
   rw [if_pos (by omega), if_pos (by omega), w64 (by omega) (by omega)]; rfl
  unfold ixF
  by_cases c : (at_ l j).f0 = x ∧ (at_ l j).f1 = y
  ·rw [if_pos c]; exact Ev.step (f := fun _ => some (j : Int)) (fun k => (e k).trans (if_pos c)) (Ev.now _)
  ·rw [if_neg c]; exact Ev.step (fun k => (e k).trans (if_neg c)) (ih (j + 1) (by omega))
theorem specIx_ev (l : List C) (x y : Int) (hl : l.length ≤ 1048576) : Ev (fun k => spec_l02Index.f k l x y) (ixF 0 l x y) :=
 specIx_loop l x y hl l.length 0 (by omega)
theorem foldl_pair (g1 g2 : Int → C → Int) (l : List C) : ∀ a b, l.foldl (fun (s : Int × Int) c => (g1 s.1 c, g2 s.2 c)) (a, b) = (l.foldl g1 a, l.foldl g2 b) := by
 induction l with
 | nil => intro a b; rfl
 | cons c r ih => intro a b; exact ih _ _
def mxF (f : C → Int) (l : List C) (s : Int) : Int := l.foldl (fun s c => mx s (f c)) s
def mnF (f : C → Int) (l : List C) (s : Int) : Int := l.foldl (fun s c => mn s (f c)) s
theorem mnF_spec (f : C → Int) (l : List C) : ∀ s, mnF f l s ≤ s ∧ (∀ c ∈ l, mnF f l s ≤ f c) ∧ (mnF f l s = s ∨ ∃ c ∈ l, mnF f l s = f c) := by
 induction l with
 | nil => intro s; exact ⟨Int.le_refl _, (fun c h => by cases h), Or.inl rfl⟩
 | cons d r ih =>
  intro s
  obtain ⟨h1, h2, h3⟩ := ih (mn s (f d))
  have e : mnF f (d :: r) s = mnF f r (mn s (f d)) := rfl
  rw [e]
  have m1 : mn s (f d) ≤ s ∧ mn s (f d) ≤ f d ∧ (mn s (f d) = s ∨ mn s (f d) = f d) := by unfold mn; split <;> omega
  refine ⟨by omega, fun c hc => ?_, ?_⟩
  ·rcases List.mem_cons.1 hc with rfl | hc
   ·omega
   ·exact h2 c hc
  ·rcases h3 with h3 | ⟨c, hc, h3⟩
   ·rcases m1.2.2 with m | m
    ·exact Or.inl (h3.trans m)
    ·exact Or.inr ⟨d, List.mem_cons_self, h3.trans m⟩
   ·exact Or.inr ⟨c, List.mem_cons_of_mem _ hc, h3⟩
def lo (l : List C) : Int × Int := (mnF (fun c => c.f0) l (at_ l 0).f0, mnF (fun c => c.f1) l (at_ l 0).f1)
def hi (l : List C) : Int × Int := (mxF (fun c => c.f0) l (at_ l 0).f0, mxF (fun c => c.f1) l (at_ l 0).f1)
theorem mn_self (a : Int) : mn a a = a := by unfold mn; split <;> omega
theorem lo_drop (l : List C) (h : 0 < l.length) : lo l = (mnF (fun c => c.f0) (l.drop 1) (at_ l 0).f0, mnF (fun c => c.f1) (l.drop 1) (at_ l 0).f1) := by
 have e := drop_at l 0 h
 rw [List.drop_zero] at e
 unfold lo
 have e0 : mnF (fun c => c.f0) l (at_ l 0).f0 = mnF (fun c => c.f0) (l.drop 1) (at_ l 0).f0 := by
  conv => lhs; rw [e]
  show mnF _ (l.drop (0 + 1)) (mn (at_ (at_ l 0 :: l.drop (0 + 1)) 0).f0 (at_ l 0).f0) = _
  rw [show at_ (at_ l 0 :: l.drop (0 + 1)) 0 = at_ l 0 from rfl, mn_self]
 have e1 : mnF (fun c => c.f1) l (at_ l 0).f1 = mnF (fun c => c.f1) (l.drop 1) (at_ l 0).f1 := by
  conv => lhs; rw [e]
  show mnF _ (l.drop (0 + 1)) (mn (at_ (at_ l 0 :: l.drop (0 + 1)) 0).f1 (at_ l 0).f1) = _
  rw [show at_ (at_ l 0 :: l.drop (0 + 1)) 0 = at_ l 0 from rfl, mn_self]
 rw [e0, e1]
theorem lo_le {l : List C} {c : C} (h : c ∈ l) : (lo l).1 ≤ c.f0 ∧ (lo l).2 ≤ c.f1 := ⟨(mnF_spec _ l _).2.1 c h, (mnF_spec _ l _).2.1 c h⟩
theorem lo_mem0 {l : List C} (h : 0 < l.length) : ∃ c ∈ l, (lo l).1 = c.f0 := by
 rcases (mnF_spec (fun c : C => c.f0) l (at_ l 0).f0).2.2 with e | ⟨c, hc, e⟩
 ·exact ⟨at_ l 0, at_mem l 0 h, e⟩
 ·exact ⟨c, hc, e⟩
theorem lo_mem1 {l : List C} (h : 0 < l.length) : ∃ c ∈ l, (lo l).2 = c.f1 := by
 rcases (mnF_spec (fun c : C => c.f1) l (at_ l 0).f1).2.2 with e | ⟨c, hc, e⟩
 ·exact ⟨at_ l 0, at_mem l 0 h, e⟩
 ·exact ⟨c, hc, e⟩
def movC (a b : Int) (c : C) : C := ⟨wrap64 (c.f0 + a), wrap64 (c.f1 + b)⟩
def movL (a b : Int) (l : List C) : List C := l.map (movC a b)
theorem movL_length (a b : Int) (l : List C) : (movL a b l).length = l.length := by simp [movL]
theorem foldl_append_map {α β : Type} (f : α → β) (l : List α) : ∀ s : List β, l.foldl (fun s c => s ++ [f c]) s = s ++ l.map f := by
 induction l with
 | nil => intro s; simp
 | cons c r ih => intro s; rw [List.foldl_cons, ih]; simp
def normL (l : List C) : List C := movL (wrap64 (-(lo l).1)) (wrap64 (-(lo l).2)) l
theorem normL_length (l : List C) : (normL l).length = l.length := movL_length _ _ _
def insP (c : C) : List C → List C
 | [] => [c]
 | x :: r => if ltC c x then c :: x :: r else x :: insP c r
def sortP (l : List C) : List C := l.foldl (fun s c => insP c s) []
theorem insP_length (c : C) (l : List C) : (insP c l).length = l.length + 1 := by
 induction l with
 | nil => rfl
 | cons x r ih => unfold insP; split <;> simp [ih]
theorem insP_perm (c : C) (l : List C) : (insP c l).Perm (c :: l) := by
 induction l with
 | nil => exact List.Perm.refl _
 | cons x r ih =>
  unfold insP
  split
  ·exact List.Perm.refl _
  ·exact (ih.cons x).trans (List.Perm.swap c x r)
theorem foldl_insP_perm : ∀ (l s : List C), (l.foldl (fun s c => insP c s) s).Perm (s ++ l) := by
 intro l
 induction l with
 | nil => intro s; simp
 | cons c r ih =>
  intro s
  rw [List.foldl_cons]
  refine (ih _).trans ?_
  refine ((insP_perm c s).append_right r).trans ?_
  exact (List.perm_middle).symm
theorem sortP_perm (l : List C) : (sortP l).Perm l := by
 have := foldl_insP_perm l []
 rwa [List.nil_append] at this
theorem sortP_length (l : List C) : (sortP l).length = l.length := (sortP_perm l).length_eq
theorem mem_sortP {l : List C} {c : C} : c ∈ sortP l ↔ c ∈ l := (sortP_perm l).mem_iff
def leC (a b : C) : Prop := ¬ ltC b a
theorem leC_trans {a b c : C} (h : leC a b) (g : leC b c) : leC a c := by unfold leC ltC at *; omega
theorem leC_total (a b : C) : leC a b ∨ leC b a := by unfold leC ltC; omega
theorem leC_anti {a b : C} (h : leC a b) (g : leC b a) : a = b := by
 unfold leC ltC at *
 have e0 : a.f0 = b.f0 := by omega
 have e1 : a.f1 = b.f1 := by omega
 cases a; cases b; cases e0; cases e1; rfl
theorem ltC_le {a b : C} (h : ltC a b) : leC a b := by unfold leC ltC at *; omega
theorem insP_sorted (c : C) (l : List C) (h : l.Pairwise leC) : (insP c l).Pairwise leC := by
 induction l with
 | nil => simp [insP]
 | cons x r ih =>
  rw [List.pairwise_cons] at h
  unfold insP
  by_cases hc : ltC c x
  ·rw [if_pos hc, List.pairwise_cons]
   refine ⟨fun y hy => ?_, List.pairwise_cons.2 h⟩
   rcases List.mem_cons.1 hy with rfl | hy
   ·exact ltC_le hc
   ·exact leC_trans (ltC_le hc) (h.1 y hy)
  ·rw [if_neg hc, List.pairwise_cons]
   refine ⟨fun y hy => ?_, ih h.2⟩
   rcases List.mem_cons.1 ((insP_perm c r).mem_iff.1 hy) with rfl | hy
   ·exact hc
   ·exact h.1 y hy
theorem sortP_sorted (l : List C) : (sortP l).Pairwise leC := by
 have : ∀ (l s : List C), s.Pairwise leC → (l.foldl (fun s c => insP c s) s).Pairwise leC := by
  intro l
  induction l with
  | nil => intro s h; exact h
  | cons c r ih => intro s h; exact ih _ (insP_sorted c s h)
 exact this l [] List.Pairwise.nil
theorem sorted_unique {l m : List C} (hl : l.Pairwise leC) (hm : m.Pairwise leC) (hp : l.Perm m) : l = m :=
 List.Perm.eq_of_pairwise (le := leC) (fun _ _ _ _ h1 h2 => leC_anti h1 h2) hl hm hp
theorem ev_foldE {σ β : Type} (F : Nat → σ → Int → Option β) (l : List C) (g : σ → C → σ) (inv : Nat → σ → Prop)
  (step : ∀ s (j : Nat), j < l.length → at_ l j ∈ l → inv j s → inv (j + 1) (g s (at_ l j)) ∧ ∀ r, Ev (fun k => F k (g s (at_ l j)) ((j + 1 : Nat) : Int)) r → Ev (fun k => F k s (j : Nat)) r)
  (r : β) (j0 : Nat) (hj0 : j0 ≤ l.length) (s0 : σ) (h0 : inv j0 s0) (hr : inv l.length ((l.drop j0).foldl g s0) → Ev (fun k => F k ((l.drop j0).foldl g s0) (l.length : Nat)) r) : Ev (fun k => F k s0 (j0 : Nat)) r := by
 have key : ∀ d j : Nat, j + d = l.length → ∀ s, inv j s → (inv l.length ((l.drop j).foldl g s) → Ev (fun k => F k ((l.drop j).foldl g s) (l.length : Nat)) r) → Ev (fun k => F k s (j : Nat)) r := by
  intro d
  induction d with
  | zero =>
   intro j hj s hs hr
   obtain rfl : j = l.length := by omega
   rw [List.drop_length] at hr
   exact hr hs
  | succ d ih =>
   intro j hj s hs hr
   have h : j < l.length := by omega
   obtain ⟨h1, h2⟩ := step s j h (at_mem l j h) hs
   refine h2 r (ih (j + 1) (by omega) _ h1 ?_)
   rw [drop_at l j h] at hr; exact hr
 exact key (l.length - j0) j0 (by omega) s0 h0 hr
theorem ins_loop (l : List C) (x y : Int) (hl : l.length ≤ 1048576) : ∀ d j : Nat, j + d = l.length → ∀ acc : List C, acc.length ≤ j + 1 →
  Ev (fun k => spec_l02Insert.l0 k l acc true (j : Nat) x y) (acc ++ l.drop j) ∧ (acc.length ≤ j → Ev (fun k => spec_l02Insert.l0 k l acc false (j : Nat) x y) (acc ++ insP ⟨x, y⟩ (l.drop j))) := by
 intro d
 induction d with
 | zero =>
  intro j hj acc ha
  obtain rfl : j = l.length := by omega
  rw [List.drop_length]
  refine ⟨?_, fun _ => ?_⟩
  ·refine Ev.step (fun k => ?_) (Ev.now _)
   simp only [spec_l02Insert.l0, if_true, List.append_nil]; rw [if_neg (by omega)]
  ·refine Ev.step (fun k => ?_) (Ev.now _)
   simp only [spec_l02Insert.l0, insP, Bool.false_eq_true, if_false]; rw [if_neg (by omega), if_pos (by omega)]
 | succ d ih =>
  intro j hj acc ha
  have hjl : j < l.length := by omega
  rw [drop_at l j hjl]
  have ej : wrap64 ((j : Int) + 1) = ((j + 1 : Nat) : Int) := by rw [w64 (by omega) (by omega)]; rfl
  refine ⟨?_, fun hb => ?_⟩
  ·have g := (ih (j + 1) (by omega) (acc ++ [at_ l j]) (by simp; omega)).1
   rw [List.append_assoc] at g
   refine Ev.step (fun k => ?_) g
   simp only [spec_l02Insert.l0, rd_at, if_true]
   rw [if_pos (by omega), if_pos (by omega), if_pos (by omega), ej]
  ·by_cases c : ltC ⟨x, y⟩ (at_ l j)
   ·have c' : ltC ⟨x, y⟩ ⟨(at_ l j).f0, (at_ l j).f1⟩ := c
    have g := (ih (j + 1) (by omega) ((acc ++ [⟨x, y⟩]) ++ [at_ l j]) (by simp; omega)).1
    unfold insP
    rw [if_pos c]
    rw [List.append_assoc, List.append_assoc] at g
    refine Ev.step (fun k => ?_) g
    simp only [spec_l02Insert.l0, rd_at, less_eq, Option.bind_some, Bool.false_eq_true, if_false, decide_eq_true c', if_true]
    rw [if_pos (by omega), if_pos (by omega), if_pos (by omega), if_pos (by simp; omega), ej, List.append_assoc]
   ·have c' : ¬ ltC ⟨x, y⟩ ⟨(at_ l j).f0, (at_ l j).f1⟩ := c
    have g := (ih (j + 1) (by omega) (acc ++ [at_ l j]) (by simp; omega)).2 (by simp; omega)
    unfold insP
    rw [if_neg c]
    rw [List.append_assoc] at g
    refine Ev.step (fun k => ?_) g
    simp only [spec_l02Insert.l0, rd_at, less_eq, Option.bind_some, Bool.false_eq_true, if_false, decide_eq_false c']
    rw [if_pos (by omega), if_pos (by omega), if_pos (by omega), ej]
theorem specIns_ev (l : List C) (x y : Int) (hl : l.length ≤ 1048576) : Ev (fun k => spec_l02Insert.f k l x y) (insP ⟨x, y⟩ l) :=
 (ins_loop l x y hl l.length 0 (by omega) [] (by simp)).2 (by simp)
theorem specSort_ev (l : List C) (hl : l.length ≤ 1048570) : Ev (fun k => spec_l02Sort.f k l) (sortP l) := by
 unfold spec_l02Sort.f
 refine ev_foldE (fun k s j => spec_l02Sort.l0 k l s j) l (fun s c => insP c s) (fun j s => s.length = j) ?_ _ 0 (by omega) [] rfl ?_
 ·intro s j hj hm hs
  refine ⟨by rw [insP_length]; omega, fun r hr => ?_⟩
  refine Ev.step (f := fun k => (spec_l02Insert.f k s (at_ l j).f0 (at_ l j).f1).bind fun t => spec_l02Sort.l0 k l t ((j + 1 : Nat) : Int)) (fun k => ?_) ?_
  ·simp only [spec_l02Sort.l0, rd_at]; rw [if_pos (by omega), if_pos (by omega), w64 (by omega) (by omega)]; rfl
  ·exact Ev.bind (f := fun k t => spec_l02Sort.l0 k l t ((j + 1 : Nat) : Int)) (specIns_ev s _ _ (by omega)) hr
 ·intro hs
  refine Ev.step (fun k => ?_) (Ev.now _)
  simp only [spec_l02Sort.l0]; rw [if_neg (by omega)]; rfl
def nbrs (c : C) : List C := [⟨c.f0, c.f1 - 1⟩, ⟨c.f0 - 1, c.f1⟩, ⟨c.f0 + 1, c.f1⟩, ⟨c.f0, c.f1 + 1⟩]
def nbStep (l s : List C) (d : C) : List C := if hasC l d.f0 d.f1 = true then s else if hasC s d.f0 d.f1 = true then s else insP d s
def nbP (l : List C) : List C := l.foldl (fun s c => (nbrs c).foldl (nbStep l) s) []
theorem insP_strict {d : C} {s : List C} (h : s.Pairwise ltC) (hd : ¬ d ∈ s) : (insP d s).Pairwise ltC := by
 induction s with
 | nil => simp [insP]
 | cons x r ih =>
  rw [List.pairwise_cons] at h
  unfold insP
  by_cases hc : ltC d x
  ·rw [if_pos hc, List.pairwise_cons]
   refine ⟨fun y hy => ?_, List.pairwise_cons.2 h⟩
   rcases List.mem_cons.1 hy with rfl | hy
   ·exact hc
   ·exact ltC_trans hc (h.1 y hy)
  ·rw [if_neg hc, List.pairwise_cons]
   refine ⟨fun y hy => ?_, ih h.2 fun g => hd (List.mem_cons_of_mem _ g)⟩
   rcases List.mem_cons.1 ((insP_perm d r).mem_iff.1 hy) with rfl | hy
   ·have hne : x ≠ y := fun e => hd (by rw [e]; exact List.mem_cons_self)
    have : leC x y := hc
    by_cases g : ltC x y
    ·exact g
    ·exact absurd (leC_anti this g) hne
   ·exact h.1 y hy
theorem nbStep_ok (l s : List C) (d : C) (h : s.Pairwise ltC) : (nbStep l s d).Pairwise ltC ∧ (∀ c, c ∈ nbStep l s d ↔ c ∈ s ∨ (c = d ∧ ¬ c ∈ l)) ∧ (nbStep l s d).length ≤ s.length + 1 := by
 unfold nbStep
 by_cases h1 : hasC l d.f0 d.f1 = true
 ·rw [if_pos h1]
  have hm : d ∈ l := (hasC_iff l d.f0 d.f1).1 h1
  exact ⟨h, fun c => ⟨Or.inl, fun g => g.elim id fun g => absurd (by rw [g.1]; exact hm) g.2⟩, by omega⟩
 ·rw [if_neg h1]
  have hm : ¬ d ∈ l := fun g => h1 ((hasC_iff l d.f0 d.f1).2 g)
  by_cases h2 : hasC s d.f0 d.f1 = true
  ·rw [if_pos h2]
   have hs : d ∈ s := (hasC_iff s d.f0 d.f1).1 h2
   exact ⟨h, fun c => ⟨Or.inl, fun g => g.elim id fun g => by rw [g.1]; exact hs⟩, by omega⟩
  ·rw [if_neg h2]
   have hs : ¬ d ∈ s := fun g => h2 ((hasC_iff s d.f0 d.f1).2 g)
   refine ⟨insP_strict h hs, fun c => ?_, by rw [insP_length]; omega⟩
   rw [(insP_perm d s).mem_iff, List.mem_cons]
   constructor
   ·rintro (rfl | g)
    ·exact Or.inr ⟨rfl, hm⟩
    ·exact Or.inl g
   ·rintro (g | g)
    ·exact Or.inr g
    ·exact Or.inl g.1
theorem nbFold_ok (l : List C) : ∀ (D s : List C), s.Pairwise ltC → (D.foldl (nbStep l) s).Pairwise ltC ∧ (∀ c, c ∈ D.foldl (nbStep l) s ↔ c ∈ s ∨ (c ∈ D ∧ ¬ c ∈ l)) ∧ (D.foldl (nbStep l) s).length ≤ s.length + D.length := by
 intro D
 induction D with
 | nil => intro s h; exact ⟨h, fun c => by simp, by simp⟩
 | cons d r ih =>
  intro s h
  obtain ⟨a1, a2, a3⟩ := nbStep_ok l s d h
  obtain ⟨b1, b2, b3⟩ := ih _ a1
  rw [List.foldl_cons]
  refine ⟨b1, fun c => ?_, by rw [List.length_cons]; omega⟩
  rw [b2, a2, List.mem_cons]
  constructor
  ·rintro ((g | g) | g)
   ·exact Or.inl g
   ·exact Or.inr ⟨Or.inl g.1, g.2⟩
   ·exact Or.inr ⟨Or.inr g.1, g.2⟩
  ·rintro (g | ⟨g | g, k⟩)
   ·exact Or.inl (Or.inl g)
   ·exact Or.inl (Or.inr ⟨g, k⟩)
   ·exact Or.inr ⟨g, k⟩
theorem nbOuter_ok (l : List C) : ∀ (m s : List C), s.Pairwise ltC → (m.foldl (fun s c => (nbrs c).foldl (nbStep l) s) s).Pairwise ltC ∧ (∀ c, c ∈ m.foldl (fun s c => (nbrs c).foldl (nbStep l) s) s ↔ c ∈ s ∨ ((∃ d ∈ m, c ∈ nbrs d) ∧ ¬ c ∈ l)) ∧ (m.foldl (fun s c => (nbrs c).foldl (nbStep l) s) s).length ≤ s.length + 4 * m.length := by
 intro m
 induction m with
 | nil => intro s h; exact ⟨h, fun c => by simp, by simp⟩
 | cons d r ih =>
  intro s h
  obtain ⟨a1, a2, a3⟩ := nbFold_ok l (nbrs d) s h
  obtain ⟨b1, b2, b3⟩ := ih _ a1
  rw [List.foldl_cons]
  refine ⟨b1, fun c => ?_, ?_⟩
  ·rw [b2, a2]
   constructor
   ·rintro ((g | g) | ⟨⟨e, he, g⟩, k⟩)
    ·exact Or.inl g
    ·exact Or.inr ⟨⟨d, List.mem_cons_self, g.1⟩, g.2⟩
    ·exact Or.inr ⟨⟨e, List.mem_cons_of_mem _ he, g⟩, k⟩
   ·rintro (g | ⟨⟨e, he, g⟩, k⟩)
    ·exact Or.inl (Or.inl g)
    ·rcases List.mem_cons.1 he with rfl | he
     ·exact Or.inl (Or.inr ⟨g, k⟩)
     ·exact Or.inr ⟨⟨e, he, g⟩, k⟩
  ·have : (nbrs d).length = 4 := rfl
   rw [List.length_cons]; omega
theorem nbP_mem (l : List C) (c : C) : c ∈ nbP l ↔ (∃ d ∈ l, c ∈ nbrs d) ∧ ¬ c ∈ l := by
 rw [show nbP l = l.foldl (fun s c => (nbrs c).foldl (nbStep l) s) [] from rfl, (nbOuter_ok l l [] List.Pairwise.nil).2.1]; simp
theorem nbP_length (l : List C) : (nbP l).length ≤ 4 * l.length := by
 have := (nbOuter_ok l l [] List.Pairwise.nil).2.2
 simp only [List.length_nil, Nat.zero_add] at this
 exact this
def Wi (b : Int) (l : List C) : Prop := ∀ c ∈ l, -b ≤ c.f0 ∧ c.f0 ≤ b ∧ -b ≤ c.f1 ∧ c.f1 ≤ b
theorem nbrs_mem {c d : C} : c ∈ nbrs d ↔ (c.f0 = d.f0 ∧ (c.f1 = d.f1 - 1 ∨ c.f1 = d.f1 + 1)) ∨ (c.f1 = d.f1 ∧ (c.f0 = d.f0 - 1 ∨ c.f0 = d.f0 + 1)) := by
 have ext : ∀ x y : Int, c = (⟨x, y⟩ : C) ↔ c.f0 = x ∧ c.f1 = y := fun x y => ⟨fun e => by rw [e]; exact ⟨rfl, rfl⟩, fun e => by cases c; cases e.1; cases e.2; rfl⟩
 unfold nbrs
 simp only [List.mem_cons, List.not_mem_nil, or_false, ext]
 omega
theorem nbP_wi {b : Int} {l : List C} (h : Wi b l) : Wi (b + 1) (nbP l) := by
 intro c hc
 obtain ⟨⟨d, hd, hn⟩, _⟩ := (nbP_mem l c).1 hc
 have := h d hd
 rw [nbrs_mem] at hn
 omega
theorem nbP_ne {l : List C} (h0 : 0 < l.length) : 0 < (nbP l).length := by
 -- the cell above the least one
 obtain ⟨c, hc, hmin⟩ : ∃ c ∈ l, ∀ d ∈ l, c.f1 ≤ d.f1 := by
  have : ∀ m : List C, 0 < m.length → ∃ c ∈ m, ∀ d ∈ m, c.f1 ≤ d.f1 := by
   intro m
   induction m with
   | nil => intro h; exact absurd h (by simp)
   | cons x r ih =>
    intro _
    by_cases hr : 0 < r.length
    ·obtain ⟨c, hc, hm⟩ := ih hr
     by_cases g : x.f1 ≤ c.f1
     ·exact ⟨x, List.mem_cons_self, fun d hd => by
       rcases List.mem_cons.1 hd with rfl | hd
       ·exact Int.le_refl _
       ·have := hm d hd; omega⟩
     ·exact ⟨c, List.mem_cons_of_mem _ hc, fun d hd => by
       rcases List.mem_cons.1 hd with rfl | hd
       ·omega
       ·exact hm d hd⟩
    ·have e : r = [] := List.length_eq_zero_iff.1 (by omega)
     subst e
     exact ⟨x, List.mem_cons_self, fun d hd => by simp at hd; rw [hd]; exact Int.le_refl _⟩
  exact this l h0
 have hm : (⟨c.f0, c.f1 - 1⟩ : C) ∈ nbP l := by
  rw [nbP_mem]
  refine ⟨⟨c, hc, by simp [nbrs]⟩, fun g => ?_⟩
  have := hmin _ g
  simp only [] at this
  omega
 exact List.length_pos_of_mem hm
theorem nb_l1 (l : List C) (hl : l.length ≤ 100000) (i : Int) (ds : List C) (h4 : ds.length = 4) (r : List C) : ∀ d j : Nat, j + d = 4 → ∀ s : List C, s.length + d ≤ 1000000 →
  Ev (fun k => spec_l02Neighbours.l0 k l ((ds.drop j).foldl (nbStep l) s) (wrap64 (i + 1))) r → Ev (fun k => spec_l02Neighbours.l1 k l s i ds (j : Nat)) r := by
 intro d
 induction d with
 | zero =>
  intro j hj s _ g
  obtain rfl : j = 4 := by omega
  rw [show ds.drop 4 = [] from List.drop_eq_nil_of_le (by omega)] at g
  refine Ev.step (fun k => ?_) g
  simp only [spec_l02Neighbours.l1]; rw [if_neg (by omega)]; rfl
 | succ d ih =>
  intro j hj s hs g
  have hjl : j < ds.length := by omega
  rw [drop_at ds j hjl, List.foldl_cons] at g
  have e : ∀ k, spec_l02Neighbours.l1 (k + 1) l s i ds (j : Nat) = (spec_l02Index.f k l (at_ ds j).f0 (at_ ds j).f1).bind fun t => if t < 0 then ((spec_l02Index.f k s (at_ ds j).f0 (at_ ds j).f1).bind fun t => if t < 0 then ((spec_l02Insert.f k s (at_ ds j).f0 (at_ ds j).f1).bind fun t => spec_l02Neighbours.l1 k l t i ds ((j + 1 : Nat) : Int)) else spec_l02Neighbours.l1 k l s i ds ((j + 1 : Nat) : Int)) else spec_l02Neighbours.l1 k l s i ds ((j + 1 : Nat) : Int) := by
   intro k
   simp only [spec_l02Neighbours.l1, rd_at]; rw [if_pos (by omega), if_pos (by omega), if_pos (by omega), w64 (x := (j : Int) + 1) (by omega) (by omega)]; rfl
  refine Ev.step e ?_
  refine Ev.bind (f := fun k t => if t < 0 then ((spec_l02Index.f k s (at_ ds j).f0 (at_ ds j).f1).bind fun t => if t < 0 then ((spec_l02Insert.f k s (at_ ds j).f0 (at_ ds j).f1).bind fun t => spec_l02Neighbours.l1 k l t i ds ((j + 1 : Nat) : Int)) else spec_l02Neighbours.l1 k l s i ds ((j + 1 : Nat) : Int)) else spec_l02Neighbours.l1 k l s i ds ((j + 1 : Nat) : Int)) (specIx_ev l _ _ (by omega)) ?_
  by_cases c1 : 0 ≤ ixF 0 l (at_ ds j).f0 (at_ ds j).f1
  ·have hh : hasC l (at_ ds j).f0 (at_ ds j).f1 = true := decide_eq_true c1
   simp only [if_neg (show ¬ ixF 0 l (at_ ds j).f0 (at_ ds j).f1 < 0 by omega)]
   have e2 : nbStep l s (at_ ds j) = s := by unfold nbStep; rw [if_pos hh]
   rw [e2] at g
   exact ih (j + 1) (by omega) s (by omega) g
  ·have hh : ¬ hasC l (at_ ds j).f0 (at_ ds j).f1 = true := by unfold hasC; rw [decide_eq_true_eq]; exact c1
   simp only [if_pos (show ixF 0 l (at_ ds j).f0 (at_ ds j).f1 < 0 by omega)]
   refine Ev.bind (f := fun k t => if t < 0 then ((spec_l02Insert.f k s (at_ ds j).f0 (at_ ds j).f1).bind fun t => spec_l02Neighbours.l1 k l t i ds ((j + 1 : Nat) : Int)) else spec_l02Neighbours.l1 k l s i ds ((j + 1 : Nat) : Int)) (specIx_ev s _ _ (by omega)) ?_
   by_cases c2 : 0 ≤ ixF 0 s (at_ ds j).f0 (at_ ds j).f1
   ·have h2 : hasC s (at_ ds j).f0 (at_ ds j).f1 = true := decide_eq_true c2
    simp only [if_neg (show ¬ ixF 0 s (at_ ds j).f0 (at_ ds j).f1 < 0 by omega)]
    have e2 : nbStep l s (at_ ds j) = s := by unfold nbStep; rw [if_neg hh, if_pos h2]
    rw [e2] at g
    exact ih (j + 1) (by omega) s (by omega) g
   ·have h2 : ¬ hasC s (at_ ds j).f0 (at_ ds j).f1 = true := by unfold hasC; rw [decide_eq_true_eq]; exact c2
    simp only [if_pos (show ixF 0 s (at_ ds j).f0 (at_ ds j).f1 < 0 by omega)]
    have e2 : nbStep l s (at_ ds j) = insP (at_ ds j) s := by unfold nbStep; rw [if_neg hh, if_neg h2]
    rw [e2] at g
    refine Ev.bind (f := fun k t => spec_l02Neighbours.l1 k l t i ds ((j + 1 : Nat) : Int)) (specIns_ev s _ _ (by omega)) ?_
    exact ih (j + 1) (by omega) _ (by rw [insP_length]; omega) g
theorem specNb_ev (l : List C) (hl : l.length ≤ 10000) (hw : Wi 1000000 l) : Ev (fun k => spec_l02Neighbours.f k l) (nbP l) := by
 unfold spec_l02Neighbours.f
 refine ev_foldE (fun k s j => spec_l02Neighbours.l0 k l s j) l (fun s c => (nbrs c).foldl (nbStep l) s) (fun j s => s.Pairwise ltC ∧ s.length ≤ 4 * j) ?_ _ 0 (by omega) [] ⟨List.Pairwise.nil, by simp⟩ ?_
 ·intro s j hj hm ⟨hs1, hs2⟩
  obtain ⟨a1, _, a3⟩ := nbFold_ok l (nbrs (at_ l j)) s hs1
  have a4 : (nbrs (at_ l j)).length = 4 := rfl
  refine ⟨⟨a1, by omega⟩, fun r hr => ?_⟩
  have w := hw _ hm
  refine Ev.step (f := fun k => spec_l02Neighbours.l1 k l s (j : Nat) (nbrs (at_ l j)) ((0 : Nat) : Int)) (fun k => ?_) ?_
  ·simp only [spec_l02Neighbours.l0, rd_at, spec_l02Around.f, Option.bind_some]
   rw [if_pos (by omega), if_pos (by omega), w64 (x := (at_ l j).f1 - 1) (by omega) (by omega), w64 (x := (at_ l j).f0 - 1) (by omega) (by omega), w64 (x := (at_ l j).f0 + 1) (by omega) (by omega), w64 (x := (at_ l j).f1 + 1) (by omega) (by omega)]; rfl
  ·refine nb_l1 l (by omega) _ _ rfl r 4 0 (by omega) s (by omega) ?_
   rw [w64 (by omega) (by omega)]
   exact hr
 ·intro hs
  refine Ev.step (fun k => ?_) (Ev.now _)
  simp only [spec_l02Neighbours.l0]; rw [if_neg (by omega)]; rfl
theorem least_ev (l : List C) (h : 0 < l.length) (hl : l.length ≤ 1048576) : Ev (fun k => spec_l02Least.f k l) (lo l) := by
 unfold spec_l02Least.f
 simp only [if_pos (show 0 < (l.length : Int) by omega)]
 have e0 : rd_T57 l 0 = at_ l 0 := rd_at l 0
 rw [e0]
 refine ev_fold (fun k (s : Int × Int) j => spec_l02Least.l0 k l s.1 s.2 j) l (fun s c => (mn s.1 c.f0, mn s.2 c.f1)) some _ (fun _ _ => True) ?_ ?_ 1 (by omega) ((at_ l 0).f0, (at_ l 0).f1) trivial ?_
 ·intro k s j hj hm _
  refine ⟨?_, trivial⟩
  simp only [spec_l02Least.l0, rd_at]; rw [if_pos (by omega), if_pos (by omega), w64 (x := (j : Int) + 1) (by omega) (by omega)]; rfl
 ·intro k s _
  simp only [spec_l02Least.l0]; rw [if_neg (by omega)]
 ·rw [foldl_pair (fun s c => mn s c.f0) (fun s c => mn s c.f1), lo_drop l h]; rfl
theorem specMove_ev (l : List C) (a b : Int) (hl : l.length ≤ 1048576) : Ev (fun k => spec_l02Move.f k l a b) (movL a b l) := by
 unfold spec_l02Move.f
 refine ev_fold (fun k (s : List C) j => spec_l02Move.l0 k l a b s j) l (fun s c => s ++ [movC a b c]) some _ (fun j s => s.length = j) ?_ ?_ 0 (by omega) [] rfl ?_
 ·intro k s j hj hm hs
  refine ⟨?_, by simp [hs]⟩
  simp only [spec_l02Move.l0, rd_at]; rw [if_pos (by omega), if_pos (by omega), if_pos (by omega), w64 (x := (j : Int) + 1) (by omega) (by omega)]; rfl
 ·intro k s _
  simp only [spec_l02Move.l0]; rw [if_neg (by omega)]
 ·rw [List.drop_zero, foldl_append_map]; rfl
theorem specNorm_ev (l : List C) (h : 0 < l.length) (hl : l.length ≤ 1048576) : Ev (fun k => spec_l02Normal.f k l) (normL l) := by
 obtain ⟨K, h1, h2⟩ := ev2 (least_ev l h hl) (specMove_ev l (wrap64 (-(lo l).1)) (wrap64 (-(lo l).2)) hl)
 refine ⟨K, fun k hk => ?_⟩
 obtain ⟨n, rfl⟩ : ∃ n, k = K + n := ⟨k - K, by omega⟩
 simp only [spec_l02Normal.f, h1, h2, Option.bind_some]; rfl
theorem insP_wi {b : Int} {d : C} {l : List C} (h : Wi b l) (hd : -b ≤ d.f0 ∧ d.f0 ≤ b ∧ -b ≤ d.f1 ∧ d.f1 ≤ b) : Wi b (insP d l) := by
 intro c hc
 rcases List.mem_cons.1 ((insP_perm d l).mem_iff.1 hc) with rfl | hc
 ·exact hd
 ·exact h c hc
theorem wi_mono {a b : Int} {l : List C} (h : Wi a l) (hab : a ≤ b) : Wi b l := fun c hc => by have := h c hc; omega
theorem movL_wi {a b : Int} {l : List C} (h : Wi a l) (x y : Int) (hx : -b ≤ x ∧ x ≤ b) (hy : -b ≤ y ∧ y ≤ b) (ha : a ≤ 100000000) (hb : b ≤ 100000000) : Wi (a + b) (movL x y l) := by
 intro c hc
 obtain ⟨d, hd, rfl⟩ := List.mem_map.1 hc
 have := h d hd
 unfold movC
 rw [w64 (by omega) (by omega), w64 (by omega) (by omega)]
 simp only []
 omega
theorem drawPoly_loop {c : List Int} : ∀ (d : Nat) (l : List C) (b : Int) (i s : Int), d ≤ 20 → 0 < l.length → l.length + d ≤ 100 → 0 ≤ b → b + d ≤ 1000 → Wi b l → Src c i s →
  ∃ r i' s', Ev (fun k => spec_l02DrawPoly.l0 k l (d : Nat) c i s) (r, i', s') ∧ Src c i' s' ∧ r.length = l.length + d ∧ Wi (2 * (b + d)) r := by
 intro d
 induction d with
 | zero =>
  intro l b i s _ h0 h1 hb0 hb h h'
  obtain ⟨c0, hc0, e0⟩ := lo_mem0 h0
  obtain ⟨c1, hc1, e1⟩ := lo_mem1 h0
  have w0 := h c0 hc0
  have w1 := h c1 hc1
  refine ⟨normL l, i, s, ?_, h', by rw [normL_length]; rfl, ?_⟩
  ·refine Ev.step (f := fun k => (spec_l02Normal.f k l).bind fun t350 => (some (t350, i, s))) (fun k => ?_) ?_
   ·simp only [spec_l02DrawPoly.l0]; rw [if_neg (by omega)]
   ·exact Ev.bind (f := fun k t350 => some (t350, i, s)) (specNorm_ev l h0 (by omega)) (Ev.now _)
  ·have e : wrap64 (-(lo l).1) = -(lo l).1 := w64 (by omega) (by omega)
   have e' : wrap64 (-(lo l).2) = -(lo l).2 := w64 (by omega) (by omega)
   unfold normL
   rw [e, e']
   exact wi_mono (movL_wi h _ _ (b := b) (by omega) (by omega) (by omega) (by omega)) (by omega)
 | succ d ih =>
  intro l b i s hd h0 h1 hb0 hb h h'
  have hnl := nbP_length l
  have hne := nbP_ne h0
  have hnw := nbP_wi h
  obtain ⟨q, i1, s1, e1, hs1, p1, q1, _⟩ := next_some h' ((nbP l).length : Int) (by omega)
  have q1 := q1 (by omega)
  obtain ⟨n, rfl⟩ := Int.eq_ofNat_of_zero_le p1
  have hn : n < (nbP l).length := by omega
  have hm := at_mem (nbP l) n hn
  have hw := insP_wi (wi_mono h (show b ≤ b + 1 by omega)) (hnw _ hm)
  obtain ⟨r, i', s', e, hs', hr, hrw⟩ := ih (insP (at_ (nbP l) n) l) (b + 1) i1 s1 (by omega) (by rw [insP_length]; omega) (by rw [insP_length]; omega) (by omega) (by omega) hw hs1
  refine ⟨r, i', s', ?_, hs', by rw [hr, insP_length]; omega, by rw [show b + ((d + 1 : Nat) : Int) = b + 1 + (d : Nat) from by omega]; exact hrw⟩
  refine Ev.step (f := fun k => (spec_l02Neighbours.f k l).bind fun t340 => ((spec_l01Next.f c i s (t340.length : Int)).bind fun bt343 => (if 0 ≤ bt343.1 then (if bt343.1 < (t340.length : Int) then ((spec_l02Insert.f k l ((rd_T57 t340 bt343.1).f0) ((rd_T57 t340 bt343.1).f1)).bind fun t347 => (spec_l02DrawPoly.l0 k t347 (d : Nat) c bt343.2.1 bt343.2.2)) else (none)) else (none)))) (fun k => ?_) ?_
  ·simp only [spec_l02DrawPoly.l0]
   rw [if_pos (by omega), w64 (x := ((d + 1 : Nat) : Int) - 1) (by omega) (by omega), show ((d + 1 : Nat) : Int) - 1 = (d : Nat) from by omega]
  ·refine Ev.bind (f := fun k t340 => ((spec_l01Next.f c i s (t340.length : Int)).bind fun bt343 => (if 0 ≤ bt343.1 then (if bt343.1 < (t340.length : Int) then ((spec_l02Insert.f k l ((rd_T57 t340 bt343.1).f0) ((rd_T57 t340 bt343.1).f1)).bind fun t347 => (spec_l02DrawPoly.l0 k t347 (d : Nat) c bt343.2.1 bt343.2.2)) else (none)) else (none)))) (specNb_ev l (by omega) (wi_mono h (by omega))) ?_
   simp only [e1, Option.bind_some, if_pos p1, if_pos q1, rd_at]
   exact Ev.bind (f := fun k t347 => spec_l02DrawPoly.l0 k t347 (d : Nat) c i1 s1) (specIns_ev l _ _ (by omega)) e
theorem drawPoly_some {c : List Int} {i s : Int} (h : Src c i s) (n : Int) (hn : 1 ≤ n) (hn2 : n ≤ 20) : ∃ r i' s', Ev (fun k => spec_l02DrawPoly.f k c i s n) (r, i', s') ∧ Src c i' s' ∧ 0 < r.length ∧ (r.length : Int) ≤ n ∧ Wi 1000 r := by
 obtain ⟨q, i1, s1, e1, hs1, p1, q1, _⟩ := next_some h n (by omega)
 have q1 := q1 hn
 obtain ⟨m, rfl⟩ := Int.eq_ofNat_of_zero_le p1
 obtain ⟨r, i', s', e, hs', hr, hw⟩ := drawPoly_loop m [⟨0, 0⟩] 0 i1 s1 (by omega) (by simp) (by simp; omega) (by omega) (by omega) (fun c hc => by simp at hc; rw [hc]; simp) hs1
 refine ⟨r, i', s', ?_, hs', by rw [hr]; simp; omega, by rw [hr]; simp; omega, wi_mono hw (by omega)⟩
 unfold spec_l02DrawPoly.f
 simp only [e1, Option.bind_some]
 exact e
theorem draw_row {c : List Int} : ∀ (d : Nat) (l : List C) (i s : Int), l.length + d = 42 → Wi 50 l → Src c i s →
  ∃ r i' s', Ev (fun k => spec_l02Draw.l0 k l (l.length : Int) c i s) (r, i', s') ∧ Src c i' s' ∧ r.length ≤ 42 ∧ Wi 50 r := by
 intro d
 induction d with
 | zero =>
  intro l i s hl hw h
  obtain ⟨q, i1, s1, e1, hs1, p1, q1, _⟩ := next_some h 2 (by omega)
  have q1 := q1 (by omega)
  refine ⟨l, i1, s1, Ev.step (fun k => ?_) (Ev.now _), hs1, by omega, hw⟩
  simp only [spec_l02Draw.l0, e1, Option.bind_some]
  rw [w64 (by omega) (by omega), if_neg (by omega)]
 | succ d ih =>
  intro l i s hl hw h
  obtain ⟨q, i1, s1, e1, hs1, p1, q1, _⟩ := next_some h 2 (by omega)
  have q1 := q1 (by omega)
  by_cases c1 : (l.length : Int) < 40 + q
  ·obtain ⟨r, i', s', e, hs', hr, hrw⟩ := ih (l ++ [⟨(l.length : Int), 0⟩]) i1 s1 (by simp; omega) (fun c hc => by
    rcases List.mem_append.1 hc with hc | hc
    ·exact hw c hc
    ·simp only [List.mem_singleton] at hc; rw [hc]; simp only []; omega) hs1
   refine ⟨r, i', s', Ev.step (fun k => ?_) e, hs', hr, hrw⟩
   simp only [spec_l02Draw.l0, e1, Option.bind_some]
   rw [w64 (x := 40 + q) (by omega) (by omega), if_pos c1, if_pos (by omega), w64 (x := (l.length : Int) + 1) (by omega) (by omega), List.length_append]; rfl
  ·refine ⟨l, i1, s1, Ev.step (fun k => ?_) (Ev.now _), hs1, by omega, hw⟩
   simp only [spec_l02Draw.l0, e1, Option.bind_some]
   rw [w64 (by omega) (by omega), if_neg c1]
theorem at_wi {b : Int} {l : List C} (h : Wi b l) {j : Nat} (hj : j < l.length) : -b ≤ (at_ l j).f0 ∧ (at_ l j).f0 ≤ b ∧ -b ≤ (at_ l j).f1 ∧ (at_ l j).f1 ≤ b := h _ (at_mem l j hj)
theorem sortP_wi {b : Int} {l : List C} (h : Wi b l) : Wi b (sortP l) := fun c hc => h c (mem_sortP.1 hc)
theorem snoc_wi {b : Int} {l : List C} (h : Wi b l) {d : C} (hd : -b ≤ d.f0 ∧ d.f0 ≤ b ∧ -b ≤ d.f1 ∧ d.f1 ≤ b) : Wi b (l ++ [d]) := by
 intro c hc
 rcases List.mem_append.1 hc with hc | hc
 ·exact h c hc
 ·simp only [List.mem_singleton] at hc; rw [hc]; exact hd
theorem draw_some {c : List Int} {i s : Int} (h : Src c i s) : ∃ r i' s', Ev (fun k => spec_l02Draw.f k c i s) (r, i', s') ∧ Src c i' s' ∧ r.length ≤ 50 ∧ Wi 2000 r := by
 obtain ⟨l0, i0, s0, e0, h0, hl0, hl1, hw0⟩ := drawPoly_some h 8 (by omega) (by omega)
 obtain ⟨a, i1, s1, e1, h1, pa, qa, _⟩ := next_some h0 9 (by omega)
 have qa := qa (by omega)
 obtain ⟨b, i2, s2, e2, h2, pb, qb, _⟩ := next_some h1 9 (by omega)
 have qb := qb (by omega)
 have ea : wrap64 (a - 4) = a - 4 := w64 (by omega) (by omega)
 have eb : wrap64 (b - 4) = b - 4 := w64 (by omega) (by omega)
 obtain ⟨l, hldef⟩ : ∃ l, l = movL (a - 4) (b - 4) l0 := ⟨_, rfl⟩
 have hlen : l.length = l0.length := by rw [hldef, movL_length]
 have hw : Wi 1010 l := by rw [hldef]; exact wi_mono (movL_wi hw0 _ _ (b := 10) (by omega) (by omega) (by omega) (by omega)) (by omega)
 have em : Ev (fun k => spec_l02Move.f k l0 (a - 4) (b - 4)) l := by rw [hldef]; exact specMove_ev l0 _ _ (by omega)
 obtain ⟨n, i3, s3, e3, h3, pn, qn, _⟩ := next_some h2 (l.length : Int) (by omega)
 have qn := qn (by omega)
 obtain ⟨m, rfl⟩ := Int.eq_ofNat_of_zero_le pn
 obtain ⟨z, i4, s4, e4, h4, pz, qz, _⟩ := next_some h3 24 (by omega)
 have aw := at_wi hw (show m < l.length by omega)
 have aw0 := at_wi hw (show 0 < l.length by omega)
 have awl := at_wi hw (show l.length - 1 < l.length by omega)
 have fin : ∀ (R : List C × Int × Int), (Ev (fun k => if z = 0 then ((some (([(-100), 100, 101] : List Int) : List Int)).bind fun y373 => ((spec_l01Next.f c i4 s4 3).bind fun bt376 => (if 0 ≤ bt376.1 then (if bt376.1 < (y373.length : Int) then (if 0 ≤ ((m : Nat) : Int) then (if ((m : Nat) : Int) < (l.length : Int) then ((spec_l02Sort.f k (l.set (((m : Nat) : Int)).toNat (⟨rd y373 bt376.1, (rd_T57 l (m : Nat)).f1⟩ : C))).bind fun t381 => (some (t381, bt376.2.1, bt376.2.2))) else (none)) else (none)) else (none)) else (none)))) else (if z = 1 then (if 0 ≤ ((m : Nat) : Int) then (if ((m : Nat) : Int) < (l.length : Int) then (if l.length < 8796093022208 then (some ((l ++ [(⟨(rd_T57 l (m : Nat)).f0, (rd_T57 l (m : Nat)).f1⟩ : C)]), i4, s4)) else (none)) else (none)) else (none)) else (if z = 2 then (some (([] : List C), i4, s4)) else (if z = 3 then (spec_l02Draw.l0 k (([] : List C)) 0 c i4 s4) else (if z = 4 then (if 0 < (l.length : Int) then (if 0 ≤ (wrap64 ((l.length : Int) - 1)) then (if (wrap64 ((l.length : Int) - 1)) < (l.length : Int) then (if l.length < 8796093022208 then (some ((l ++ [(⟨wrap64 (((rd_T57 l 0).f0) + 3), wrap64 (((rd_T57 l (wrap64 ((l.length : Int) - 1))).f1) + 2)⟩ : C)]), i4, s4)) else (none)) else (none)) else (none)) else (none)) else (if z = 5 then (if 0 < (l.length : Int) then (if 0 ≤ (wrap64 ((l.length : Int) - 1)) then (if (wrap64 ((l.length : Int) - 1)) < (l.length : Int) then (if l.length < 8796093022208 then (some ((l ++ [(⟨wrap64 (((rd_T57 l 0).f0) + 3), wrap64 (((rd_T57 l (wrap64 ((l.length : Int) - 1))).f1) + 2)⟩ : C)]), i4, s4)) else (none)) else (none)) else (none)) else (none)) else (some (l, i4, s4)))))))) R) → Ev (fun k => spec_l02Draw.f k c i s) R := by
  intro R hR
  unfold spec_l02Draw.f
  refine Ev.bind (f := fun k (bt353 : List C × Int × Int) => _) e0 ?_
  simp only [e1, e2, Option.bind_some, ea, eb]
  refine Ev.bind (f := fun k (t364 : List C) => _) em ?_
  simp only [e3, e4, Option.bind_some]
  exact hR
 have ext3 : (rd_T57 l 0) = at_ l 0 := rd_at l 0
 have el : wrap64 ((l.length : Int) - 1) = ((l.length - 1 : Nat) : Int) := by rw [w64 (by omega) (by omega)]; omega
 have tail : ∃ r, (if 0 < (l.length : Int) then (if 0 ≤ (wrap64 ((l.length : Int) - 1)) then (if (wrap64 ((l.length : Int) - 1)) < (l.length : Int) then (if l.length < 8796093022208 then (some ((l ++ [(⟨wrap64 (((rd_T57 l 0).f0) + 3), wrap64 (((rd_T57 l (wrap64 ((l.length : Int) - 1))).f1) + 2)⟩ : C)]), i4, s4)) else (none)) else (none)) else (none)) else (none)) = some (r, i4, s4) ∧ r.length ≤ 50 ∧ Wi 2000 r := by
  rw [el, ext3, rd_at, if_pos (by omega), if_pos (by omega), if_pos (by omega), if_pos (by omega)]
  refine ⟨_, rfl, by simp; omega, snoc_wi (wi_mono hw (by omega)) ?_⟩
  rw [w64 (by omega) (by omega), w64 (by omega) (by omega)]
  simp only []
  omega
 by_cases z0 : z = 0
 ·obtain ⟨q, i5, s5, e5, h5, pq, qq, _⟩ := next_some h4 3 (by omega)
  have qq := qq (by omega)
  have hv : -100 ≤ rd [(-100), 100, 101] q ∧ rd [(-100), 100, 101] q ≤ 101 := by
   have : q = 0 ∨ q = 1 ∨ q = 2 := by omega
   rcases this with rfl | rfl | rfl <;> decide
  have hset : Wi 1010 (l.set m ⟨rd [(-100), 100, 101] q, (at_ l m).f1⟩) := by
   intro c hc
   rcases List.mem_or_eq_of_mem_set hc with hc | rfl
   ·exact hw c hc
   ·simp only []; omega
  refine ⟨sortP (l.set m ⟨rd [(-100), 100, 101] q, (at_ l m).f1⟩), i5, s5, fin _ ?_, h5, by rw [sortP_length, List.length_set]; omega, wi_mono (sortP_wi hset) (by omega)⟩
  simp only [if_pos z0, Option.bind_some, e5, if_pos pq, rd_at, Int.toNat_natCast, if_pos (show (0 : Int) ≤ ((m : Nat) : Int) by omega), if_pos (show ((m : Nat) : Int) < (l.length : Int) by omega), if_pos (show q < (([(-100), 100, 101] : List Int).length : Int) from qq)]
  exact Ev.bind (f := fun k t381 => some (t381, i5, s5)) (specSort_ev _ (by rw [List.length_set]; omega)) (Ev.now _)
 ·by_cases z1 : z = 1
  ·refine ⟨l ++ [at_ l m], i4, s4, fin _ ?_, h4, by simp; omega, wi_mono (snoc_wi hw aw) (by omega)⟩
   simp only [if_neg z0, if_pos z1, rd_at, if_pos (show (0 : Int) ≤ ((m : Nat) : Int) by omega), if_pos (show ((m : Nat) : Int) < (l.length : Int) by omega), if_pos (show l.length < 8796093022208 by omega)]
   exact Ev.now _
  ·by_cases z2 : z = 2
   ·refine ⟨[], i4, s4, fin _ ?_, h4, by simp, fun c hc => by cases hc⟩
    simp only [if_neg z0, if_neg z1, if_pos z2]; exact Ev.now _
   ·by_cases z3 : z = 3
    ·obtain ⟨r, i', s', e, hs', hr, hrw⟩ := draw_row (c := c) 42 [] i4 s4 rfl (fun c hc => by cases hc) h4
     refine ⟨r, i', s', fin _ ?_, hs', by omega, wi_mono hrw (by omega)⟩
     simp only [if_neg z0, if_neg z1, if_neg z2, if_pos z3]; exact e
    ·obtain ⟨r, er, hr, hrw⟩ := tail
     by_cases z4 : z = 4
     ·refine ⟨r, i4, s4, fin _ ?_, h4, hr, hrw⟩
      simp only [if_neg z0, if_neg z1, if_neg z2, if_neg z3, if_pos z4, er]; exact Ev.now _
     ·by_cases z5 : z = 5
      ·refine ⟨r, i4, s4, fin _ ?_, h4, hr, hrw⟩
       simp only [if_neg z0, if_neg z1, if_neg z2, if_neg z3, if_neg z4, if_pos z5, er]; exact Ev.now _
      ·refine ⟨l, i4, s4, fin _ ?_, h4, by omega, wi_mono hw (by omega)⟩
       simp only [if_neg z0, if_neg z1, if_neg z2, if_neg z3, if_neg z4, if_neg z5]; exact Ev.now _
-- USES Base
theorem likeCells_loop (l : List C) (hl : l.length ≤ 140737488355328) : ∀ d j : Nat, j + d = l.length → Ev (fun k => laws_likeCells.l0 k l l (j : Nat)) true := by
 intro d
 induction d with
 | zero =>
  intro j hj
  refine Ev.step (fun k => ?_) (Ev.now _)
  simp only [laws_likeCells.l0]; rw [if_neg (by omega)]
 | succ d ih =>
  intro j hj
  refine Ev.step (fun k => ?_) (ih (j + 1) (by omega))
  simp only [laws_likeCells.l0, beq_self_eq_true, Bool.not_true, Bool.or_false, Bool.false_eq_true, if_false]; rw [if_pos (by omega), if_pos (by omega), if_pos (by omega), w64 (by omega) (by omega)]; rfl
theorem likeCells_ev (l : List C) (hl : l.length ≤ 140737488355328) : Ev (fun k => laws_likeCells.f k l l) true := by
 unfold laws_likeCells.f
 simp only [if_true]
 exact likeCells_loop l hl l.length 0 (by omega)
theorem corner_ev (l : List C) (h : 0 < l.length) (hl : l.length ≤ 1048576) : Ev (fun k => impl_corner.f k l) (lo l) := by
 unfold impl_corner.f
 simp only [if_pos (show 0 < (l.length : Int) by omega)]
 have e0 : rd_T57 l 0 = at_ l 0 := rd_at l 0
 rw [e0]
 refine ev_fold (fun k (s : Int × Int) j => impl_corner.l0 k l (l.length : Int) j s.1 s.2) l (fun s c => (mn s.1 c.f0, mn s.2 c.f1)) some _ (fun _ _ => True) ?_ ?_ 0 (by omega) ((at_ l 0).f0, (at_ l 0).f1) trivial ?_
 ·intro k s j hj hm _
  refine ⟨?_, trivial⟩
  simp only [impl_corner.l0, rd_at]; rw [if_pos (by omega), if_pos (by omega), if_pos (by omega), w64 (x := (j : Int) + 1) (by omega) (by omega)]; rfl
 ·intro k s _
  simp only [impl_corner.l0]; rw [if_neg (by omega)]
 ·rw [List.drop_zero, foldl_pair (fun s c => mn s c.f0) (fun s c => mn s c.f1)]; rfl
theorem implMove_ev (l : List C) (a b : Int) (hl : l.length ≤ 1048576) : Ev (fun k => impl_moved.f k l a b) (movL a b l) := by
 unfold impl_moved.f
 simp only [if_pos (show 0 ≤ (l.length : Int) by omega), if_pos (show ((l.length : Int)).toNat ≤ 17592186044416 by omega)]
 refine ev_fold (fun k (s : List C) j => impl_moved.l0 k a b s l (l.length : Int) j) l (fun s c => s ++ [movC a b c]) some _ (fun j s => s.length = j) ?_ ?_ 0 (by omega) [] rfl ?_
 ·intro k s j hj hm hs
  refine ⟨?_, by simp [hs]⟩
  simp only [impl_moved.l0, rd_at]; rw [if_pos (by omega), if_pos (by omega), if_pos (by omega), if_pos (by omega), w64 (x := (j : Int) + 1) (by omega) (by omega)]; rfl
 ·intro k s _
  simp only [impl_moved.l0]; rw [if_neg (by omega)]
 ·rw [List.drop_zero, foldl_append_map]; rfl
theorem implNorm_ev (l : List C) (h : 0 < l.length) (hl : l.length ≤ 1048576) : Ev (fun k => impl_normal.f k l) (normL l) := by
 obtain ⟨K, h1, h2⟩ := ev2 (corner_ev l h hl) (implMove_ev l (wrap64 (-(lo l).1)) (wrap64 (-(lo l).2)) hl)
 refine ⟨K, fun k hk => ?_⟩
 obtain ⟨n, rfl⟩ : ∃ n, k = K + n := ⟨k - K, by omega⟩
 simp only [impl_normal.f, h1, h2, Option.bind_some]; rfl
noncomputable def nfP (l : List C) : List C × Int := if shB l = true then (if shB (normL l) = true then (normL l, 0) else ([], 3)) else ([], 1)
theorem nfP_length (l : List C) (h : l.length ≤ 1048576) : (nfP l).1.length ≤ 1048576 := by
 unfold nfP; split
 ·split
  ·show (normL l).length ≤ _; rw [normL_length]; exact h
  ·exact Nat.zero_le _
 ·exact Nat.zero_le _
theorem specNf_ev (l : List C) (hl : l.length ≤ 1048576) : Ev (fun k => spec_NormalForm.f k l) (nfP l) := by
 rcases sh_cases l with ⟨hs, hb⟩ | ⟨hs, hb⟩
 ·obtain ⟨K, h1, h2, h3⟩ := ev3 (specShape_ev l hl) (specNorm_ev l hs.1 hl) (specShape_ev (normL l) (by rw [normL_length]; exact hl))
  refine ⟨K, fun k hk => ?_⟩
  obtain ⟨n, rfl⟩ : ∃ n, k = K + n := ⟨k - K, by omega⟩
  unfold nfP
  simp only [spec_NormalForm.f, h1, h2, h3, hb, Option.bind_some, if_true]
  cases shB (normL l) <;> simp
 ·obtain ⟨K, h1⟩ := evup (specShape_ev l hl)
  refine ⟨K, fun k hk => ?_⟩
  obtain ⟨n, rfl⟩ : ∃ n, k = K + n := ⟨k - K, by omega⟩
  unfold nfP
  simp only [spec_NormalForm.f, h1, hb, Option.bind_some, Bool.false_eq_true, if_false]
theorem implNf_ev (l : List C) (hl : l.length ≤ 1048576) : Ev (fun k => impl_NormalForm.f k l) (nfP l) := by
 rcases sh_cases l with ⟨hs, hb⟩ | ⟨hs, hb⟩
 ·obtain ⟨K, h1, h2, h3⟩ := ev3 (implShape_ev l hl) (implNorm_ev l hs.1 hl) (implShape_ev (normL l) (by rw [normL_length]; exact hl))
  refine ⟨K, fun k hk => ?_⟩
  obtain ⟨n, rfl⟩ : ∃ n, k = K + n := ⟨k - K, by omega⟩
  unfold nfP
  simp only [impl_NormalForm.f, h1, h2, h3, hb, Option.bind_some, if_true]
  cases shB (normL l) <;> simp
 ·obtain ⟨K, h1⟩ := evup (implShape_ev l hl)
  refine ⟨K, fun k hk => ?_⟩
  obtain ⟨n, rfl⟩ : ∃ n, k = K + n := ⟨k - K, by omega⟩
  unfold nfP
  simp only [impl_NormalForm.f, h1, hb, Option.bind_some, Bool.false_eq_true, if_false]
noncomputable def mvP (l : List C) (a b : Int) : List C × Int := if shB l = true then (if -200 ≤ a ∧ a ≤ 200 then (if -200 ≤ b ∧ b ≤ 200 then (if shB (movL a b l) = true then (movL a b l, 0) else ([], 3)) else ([], 2)) else ([], 2)) else ([], 1)
theorem mvP_length (l : List C) (a b : Int) (h : l.length ≤ 1048576) : (mvP l a b).1.length ≤ 1048576 := by
 unfold mvP; split
 ·split
  ·split
   ·split
    ·show (movL a b l).length ≤ _; rw [movL_length]; exact h
    ·exact Nat.zero_le _
   ·exact Nat.zero_le _
  ·exact Nat.zero_le _
 ·exact Nat.zero_le _
theorem specMv_ev (l : List C) (a b : Int) (hl : l.length ≤ 1048576) : Ev (fun k => spec_MoveShape.f k l a b) (mvP l a b) := by
 obtain ⟨K, h1, h2, h3⟩ := ev3 (specShape_ev l hl) (specMove_ev l a b hl) (specShape_ev (movL a b l) (by rw [movL_length]; exact hl))
 refine ⟨K + 2, fun k hk => ?_⟩
 obtain ⟨n, rfl⟩ : ∃ n, k = K + (n + 1) := ⟨k - K - 1, by omega⟩
 unfold mvP
 simp only [spec_MoveShape.f, h1, Option.bind_some, l01In_eq]
 by_cases c0 : shB l = true
 ·simp only [if_pos c0]
  by_cases c1 : -200 ≤ a ∧ a ≤ 200
  ·simp only [decide_eq_true c1, if_true, if_pos c1]
   by_cases c2 : -200 ≤ b ∧ b ≤ 200
   ·simp only [decide_eq_true c2, if_pos c2, Bool.not_true]
    rw [← Nat.add_assoc]
    simp only [spec_MoveShape.j0, Bool.false_eq_true, if_false, h2, h3, Option.bind_some]
    cases shB (movL a b l) <;> simp
   ·simp only [decide_eq_false c2, if_neg c2, Bool.not_false]
    rw [← Nat.add_assoc]
    simp only [spec_MoveShape.j0, if_true]
  ·simp only [decide_eq_false c1, Bool.false_eq_true, if_false, if_neg c1]
   rw [← Nat.add_assoc]
   simp only [spec_MoveShape.j0, if_true]
 ·simp only [if_neg c0]
theorem implMv_ev (l : List C) (a b : Int) (hl : l.length ≤ 1048576) : Ev (fun k => impl_MoveShape.f k l a b) (mvP l a b) := by
 obtain ⟨K, h1, h2, h3⟩ := ev3 (implShape_ev l hl) (implMove_ev l a b hl) (implShape_ev (movL a b l) (by rw [movL_length]; exact hl))
 refine ⟨K + 2, fun k hk => ?_⟩
 obtain ⟨n, rfl⟩ : ∃ n, k = K + (n + 1) := ⟨k - K - 1, by omega⟩
 unfold mvP
 simp only [impl_MoveShape.f, h1, Option.bind_some, within_eq]
 by_cases c0 : shB l = true
 ·simp only [if_pos c0]
  by_cases c1 : -200 ≤ a ∧ a ≤ 200
  ·simp only [decide_eq_true c1, if_true, if_pos c1]
   by_cases c2 : -200 ≤ b ∧ b ≤ 200
   ·simp only [decide_eq_true c2, if_pos c2, Bool.not_true]
    rw [← Nat.add_assoc]
    simp only [impl_MoveShape.j0, Bool.false_eq_true, if_false, h2, h3, Option.bind_some]
    cases shB (movL a b l) <;> simp
   ·simp only [decide_eq_false c2, if_neg c2, Bool.not_false]
    rw [← Nat.add_assoc]
    simp only [impl_MoveShape.j0, if_true]
  ·simp only [decide_eq_false c1, Bool.false_eq_true, if_false, if_neg c1]
   rw [← Nat.add_assoc]
   simp only [impl_MoveShape.j0, if_true]
 ·simp only [if_neg c0]
theorem merge_sortP (l : List C) : l.mergeSort (fun x y => !ltbC_ y x) = sortP l := by
 have e : (fun x y : C => !ltbC_ y x) = fun x y => @decide (leC x y) (Classical.propDecidable _) := by
  funext x y
  by_cases h : ltC y x
  ·have h1 : ltbC_ y x = true := by unfold ltbC_; exact decide_eq_true h
   rw [h1]; exact (@decide_eq_false (leC x y) (Classical.propDecidable _) (fun g => g h)).symm
  ·have h1 : ltbC_ y x = false := by unfold ltbC_; exact decide_eq_false h
   rw [h1]; exact (@decide_eq_true (leC x y) (Classical.propDecidable _) h).symm
 refine sorted_unique ?_ (sortP_sorted l) ((List.mergeSort_perm _ _).trans (sortP_perm l).symm)
 rw [e]
 have h := List.pairwise_mergeSort (le := fun x y : C => @decide (leC x y) (Classical.propDecidable _)) (fun a b c h1 h2 => @decide_eq_true _ (Classical.propDecidable _) (leC_trans (@of_decide_eq_true _ (Classical.propDecidable _) h1) (@of_decide_eq_true _ (Classical.propDecidable _) h2)))
  (fun a b => by
   rcases leC_total a b with g | g
   ·rw [@decide_eq_true _ (Classical.propDecidable _) g]; rfl
   ·rw [@decide_eq_true _ (Classical.propDecidable (leC b a)) g, Bool.or_true]) l
 exact h.imp fun g => @of_decide_eq_true _ (Classical.propDecidable _) g
theorem implSort_eq (l : List C) (hl : l.length ≤ 1048576) : impl_sorted.f l = some (sortP l) := by
 unfold impl_sorted.f slices_Clone_Cell.f
 rw [if_pos (by omega)]
 simp only [Option.bind_some, slices_SortFunc_Cell.f]
 rw [if_pos (by omega), Option.bind_some, merge_sortP]
noncomputable def scP (l : List C) : List C × Int := if l.length > 40 then ([], 1) else if shB (sortP l) = true then (sortP l, 0) else ([], 1)
theorem scP_length (l : List C) : (scP l).1.length ≤ 1048576 := by
 unfold scP; split
 ·exact Nat.zero_le _
 ·split
  ·show (sortP l).length ≤ _; rw [sortP_length]; omega
  ·exact Nat.zero_le _
theorem specSc_ev (l : List C) : Ev (fun k => spec_SortCells.f k l) (scP l) := by
 unfold spec_SortCells.f scP
 by_cases h : l.length > 40
 ·simp only [if_pos h, if_pos (show (l.length : Int) > 40 by omega)]; exact Ev.now _
 ·simp only [if_neg h, if_neg (show ¬ (l.length : Int) > 40 by omega)]
  have e := sortP_length l
  refine Ev.bind (f := fun k t => (spec_IsShape.f k t).bind fun t595 => (if t595 = true then (some (t, 0)) else (some (([] : List C), 1)))) (specSort_ev l (by omega)) ?_
  refine Ev.bind (f := fun k t => if t = true then (some (sortP l, (0 : Int))) else (some (([] : List C), 1))) (specShape_ev (sortP l) (by omega)) ?_
  cases shB (sortP l) <;> exact Ev.now _
theorem implSc_ev (l : List C) : Ev (fun k => impl_SortCells.f k l) (scP l) := by
 unfold impl_SortCells.f scP
 by_cases h : l.length > 40
 ·simp only [if_pos h, if_pos (show (l.length : Int) > 40 by omega)]; exact Ev.now _
 ·simp only [if_neg h, if_neg (show ¬ (l.length : Int) > 40 by omega), implSort_eq l (by omega), Option.bind_some]
  have e := sortP_length l
  refine Ev.bind (f := fun k t => if t = true then (some (sortP l, (0 : Int))) else (some (([] : List C), 1))) (implShape_ev (sortP l) (by omega)) ?_
  cases shB (sortP l) <;> exact Ev.now _
-- USES Base Cell In Shape ShUse Fold Moved Norm Sort
def addC (v c : C) : C := ⟨c.f0 + v.f0, c.f1 + v.f1⟩
theorem lo_eq {l : List C} {a b : Int} (h : 0 < l.length) (h1 : ∀ c ∈ l, a ≤ c.f0 ∧ b ≤ c.f1) (h2 : ∃ c ∈ l, c.f0 = a) (h4 : ∃ c ∈ l, c.f1 = b) : lo l = (a, b) := by
 obtain ⟨c, hc, ec⟩ := h2
 obtain ⟨d, hd, ed⟩ := h4
 obtain ⟨e, he, ee⟩ := lo_mem0 h
 obtain ⟨f, hf, ef⟩ := lo_mem1 h
 have a1 := lo_le hc
 have a2 := lo_le hd
 have a3 := h1 e he
 have a4 := h1 f hf
 have x1 : (lo l).1 = a := by omega
 have x2 : (lo l).2 = b := by omega
 rw [← x1, ← x2]
theorem lo_add (v : C) {l : List C} (h : 0 < l.length) : lo (l.map (addC v)) = ((lo l).1 + v.f0, (lo l).2 + v.f1) := by
 obtain ⟨c, hc, ec⟩ := lo_mem0 h
 obtain ⟨d, hd, ed⟩ := lo_mem1 h
 refine lo_eq (by rw [List.length_map]; exact h) (fun x hx => ?_) ⟨addC v c, List.mem_map_of_mem hc, ?_⟩ ⟨addC v d, List.mem_map_of_mem hd, ?_⟩
 ·obtain ⟨y, hy, rfl⟩ := List.mem_map.1 hx
  have := lo_le hy
  unfold addC; simp only []; omega
 ·unfold addC; simp only []; omega
 ·unfold addC; simp only []; omega
def normU (l : List C) : List C := l.map (addC ⟨-(lo l).1, -(lo l).2⟩)
theorem normU_add (v : C) {l : List C} (h : 0 < l.length) : normU (l.map (addC v)) = normU l := by
 unfold normU
 rw [lo_add v h, List.map_map]
 refine List.map_congr_left fun c _ => ?_
 show addC _ (addC v c) = _
 unfold addC
 simp only []
 congr 1 <;> omega
def BD (l : List C) : Prop := ∀ c ∈ l, -1000000 ≤ c.f0 ∧ c.f0 ≤ 1000000 ∧ -1000000 ≤ c.f1 ∧ c.f1 ≤ 1000000
theorem normL_U {l : List C} (h : BD l) (h0 : 0 < l.length) : normL l = normU l := by
 unfold normL movL normU
 obtain ⟨d, hd, ed⟩ := lo_mem0 h0
 obtain ⟨e, he, ee⟩ := lo_mem1 h0
 have b1 := h d hd
 have b2 := h e he
 refine List.map_congr_left fun c hc => ?_
 have b3 := h c hc
 unfold movC addC
 rw [w64 (x := -(lo l).1) (by omega) (by omega), w64 (x := -(lo l).2) (by omega) (by omega), w64 (by omega) (by omega), w64 (by omega) (by omega)]
-- USES Base Cell Ix
-- USES Base Cell In Shape ShUse Ix IxI Sort SortI Nb
-- USES Base Cell In Shape ShUse Ix IxI Sort SortI FoldE Nb Beside NbS
-- USES Base Cell Shape
-- USES Base Cell In Shape ShUse Sort Cmp
-- USES Base Cell Shape ShUse Sort Cmp CmpO
-- USES Base Cell Shape ShUse Sort Cmp CmpO AddP
-- USES Base Cell Shape ShUse Sort Cmp CmpO AddP LeS
-- USES Base Cell In Shape ShUse Fold Moved Norm NormS NormI Sort SortS SortI ImplSort Nb NbS BesideI Cmp CmpO AddP LeS TidyP TransP
end Go.Proofs.Ytbfmocohknadkaa.M
namespace Go.Proofs.Ytbfmocohknadkaa.Pure
set_option linter.unusedVariables false
set_option linter.unusedSimpArgs false
open Go.RowKit Go.Proofs.Ytbfmocohknadkaa.X Go.Proofs.YtbfmocohknadkaaW.PrintWords Go.Proofs.YtbfmocohknadkaaW.PrintLast Go.Proofs.YtbfmocohknadkaaW.PrintMore Go.Proofs.Ytbfmocohknadkaa.M
theorem drawMove_some {l : List Int} (hb : ∀ x ∈ l, 0 ≤ x ∧ x ≤ 255) (hl : l.length ≤ 4096) : ∃ (r : List C) (x y : Int), Ev (fun k => spec_DrawMoveShape.f k l) (r, x, y) ∧ r.length ≤ 50 := by
 obtain ⟨s0, e0, h0⟩ := from_some hb (by omega)
 obtain ⟨r, i1, s1, e1, h1, hr, _⟩ := draw_some h0
 obtain ⟨a, i2, s2, e2, h2, pa, qa, _⟩ := next_some h1 8 (by omega)
 by_cases c : a = 0
 ·obtain ⟨b, i3, s3, e3, h3, pb, qb, _⟩ := next_some h2 4 (by omega)
  have qb := qb (by omega)
  obtain ⟨d, i4, s4, e4, h4, _, _, _⟩ := next_some h3 9 (by omega)
  refine ⟨r, rd ([(-200), 200, 201, 100] : List Int) b, d, ?_, hr⟩
  unfold spec_DrawMoveShape.f
  refine Ev.bind (f := fun k (b1 : List Int × Int × Int) => _) e0 ?_
  refine Ev.bind (f := fun k (b2 : List C × Int × Int) => _) e1 ?_
  simp only [e2, Option.bind_some, if_pos c, e3, e4]
  rw [if_pos pb, if_pos (by simpa using qb)]; exact Ev.now _
 ·obtain ⟨b, i3, s3, e3, h3, pb, qb, _⟩ := next_some h2 21 (by omega)
  obtain ⟨d, i4, s4, e4, h4, _, _, _⟩ := next_some h3 21 (by omega)
  refine ⟨r, wrap64 (b - 10), wrap64 (d - 10), ?_, hr⟩
  unfold spec_DrawMoveShape.f
  refine Ev.bind (f := fun k (b1 : List Int × Int × Int) => _) e0 ?_
  refine Ev.bind (f := fun k (b2 : List C × Int × Int) => _) e1 ?_
  simp only [e2, Option.bind_some, if_neg c, e3, e4]; exact Ev.now _
theorem sortGo_some {c : List Int} : ∀ (d : Nat) (l : List C) (i s : Int), l.length ≤ 50 → Src c i s → ∃ r, Ev (fun k => spec_DrawSortCells.go k c d l i s) r := by
 intro d
 induction d with
 | zero => intro l i s _ _; exact ⟨l, Ev.now _⟩
 | succ d ih =>
  intro l i s hl h
  by_cases c1 : 1 < l.length
  ·obtain ⟨a, i2, s2, e2, h2, pa, qa, _⟩ := next_some h (l.length : Int) (by omega)
   have qa := qa (by omega)
   obtain ⟨n, rfl⟩ := Int.eq_ofNat_of_zero_le pa
   obtain ⟨r, hr⟩ := ih (l.take n ++ l.drop (n + 1) ++ [rd_T57 l (n : Int)]) i2 s2 (by simp; omega) h2
   refine ⟨r, ?_⟩
   have hf : ∀ k, spec_DrawSortCells.go k c (d + 1) l i s = spec_DrawSortCells.go k c d (l.take n ++ l.drop (n + 1) ++ [rd_T57 l (n : Int)]) i2 s2 := by
    intro k
    show (if 1 < l.length then _ else _) = _
    rw [if_pos c1, e2, Option.bind_some]
    show (if (0 ≤ ((n : Nat) : Int) ∧ ((n : Nat) : Int) < (l.length : Int)) ∧ l.length ≤ 1000 then _ else _) = _
    rw [if_pos ⟨⟨by omega, by omega⟩, by omega⟩]
    show spec_DrawSortCells.go k c d (l.take (((n : Nat) : Int)).toNat ++ l.drop ((((n : Nat) : Int)).toNat + 1) ++ _) _ _ = _
    rw [Int.toNat_natCast]
   simp only [hf]; exact hr
  ·refine ⟨l, ?_⟩
   have hf : ∀ k, spec_DrawSortCells.go k c (d + 1) l i s = some l := by
    intro k
    show (if 1 < l.length then _ else _) = _
    rw [if_neg c1]
   simp only [hf]; exact Ev.now _
theorem drawSort_some {l : List Int} (hb : ∀ x ∈ l, 0 ≤ x ∧ x ≤ 255) (hl : l.length ≤ 4096) : ∃ r, Ev (fun k => spec_DrawSortCells.f k l) r := by
 obtain ⟨s0, e0, h0⟩ := from_some hb (by omega)
 obtain ⟨d, i1, s1, e1, h1, hr, _⟩ := draw_some h0
 obtain ⟨r, hr⟩ := sortGo_some 3 d i1 s1 hr h1
 refine ⟨r, ?_⟩
 unfold spec_DrawSortCells.f
 refine Ev.bind (f := fun k (b1 : List Int × Int × Int) => (spec_l02Draw.f k b1.1 b1.2.1 b1.2.2).bind fun d => spec_DrawSortCells.go k b1.1 3 d.1 d.2.1 d.2.2) e0 ?_
 exact Ev.bind (f := fun k (b2 : List C × Int × Int) => spec_DrawSortCells.go k l 3 b2.1 b2.2.1 b2.2.2) e1 hr
theorem movL_add {l : List C} (h : ∀ c ∈ l, -1000 ≤ c.f0 ∧ c.f0 ≤ 1000 ∧ -1000 ≤ c.f1 ∧ c.f1 ≤ 1000) {a b : Int} (ha : -1000 ≤ a ∧ a ≤ 1000) (hb : -1000 ≤ b ∧ b ≤ 1000) : movL a b l = l.map (addC ⟨a, b⟩) := by
 unfold movL
 refine List.map_congr_left fun c hc => ?_
 have := h c hc
 unfold movC addC
 rw [w64 (by omega) (by omega), w64 (by omega) (by omega)]
theorem FnNormal : laws_FnNormal.Pure := by
 intro l _ hlen hw
 have hb := bytes_of hw
 by_cases hbig : (l.length : Int) > 4096
 ·exact ⟨0, by unfold laws_FnNormal.f laws_big.f; simp [hbig]⟩
 obtain ⟨r, x, y, hd, hr⟩ := drawMove_some hb (by omega)
 obtain ⟨t, ht⟩ := drawSort_some hb (by omega)
 have hml := mvP_length r x y (by omega)
 have hsl := scP_length t
 obtain ⟨K, b1, b2, b3, b4, b5, b6, b7, b8⟩ := ev8 hd ht (implMv_ev r x y (by omega)) (specMv_ev r x y (by omega)) (implSc_ev t) (specSc_ev t) (likeCells_ev (mvP r x y).1 (by omega)) (likeCells_ev (scP t).1 (by omega))
 obtain ⟨L, d1, d2⟩ := ev2 (implShape_ev r (by omega)) (specShape_ev r (by omega))
 have outer : ∀ M, laws_FnNormal.f (K + L + M) l = laws_FnNormal.j0 (K + L + M) r x y (mvP r x y).1 (mvP r x y).2 false := by
  intro M
  have q1 : K + L + M = K + (L + M) := by omega
  have q2 : K + L + M = L + (K + M) := by omega
  have b1' := b1 (L + M); have b2' := b2 (L + M); have b3' := b3 (L + M); have b4' := b4 (L + M); have b5' := b5 (L + M); have b6' := b6 (L + M); have b7' := b7 (L + M); have b8' := b8 (L + M)
  have d1' := d1 (K + M); have d2' := d2 (K + M)
  rw [← q1] at b1' b2' b3' b4' b5' b6' b7' b8'
  rw [← q2] at d1' d2'
  simp only [laws_FnNormal.f, laws_big.f, Option.bind_some, decide_eq_false hbig, Bool.false_eq_true, if_false, b1', b2', b3', b4', b5', b6', b7', b8', d1', d2', if_true, bne_self_eq_false]
 by_cases hc : (mvP r x y).2 = 0
 ·have hall : shB r = true ∧ (-200 ≤ x ∧ x ≤ 200) ∧ (-200 ≤ y ∧ y ≤ 200) ∧ shB (movL x y r) = true := by
   unfold mvP at hc
   by_cases c1 : shB r = true
   ·rw [if_pos c1] at hc
    by_cases c2 : -200 ≤ x ∧ x ≤ 200
    ·rw [if_pos c2] at hc
     by_cases c3 : -200 ≤ y ∧ y ≤ 200
     ·rw [if_pos c3] at hc
      by_cases c4 : shB (movL x y r) = true
      ·exact ⟨c1, c2, c3, c4⟩
      ·rw [if_neg c4] at hc; exact absurd hc (by decide)
     ·rw [if_neg c3] at hc; exact absurd hc (by decide)
    ·rw [if_neg c2] at hc; exact absurd hc (by decide)
   ·rw [if_neg c1] at hc; exact absurd hc (by decide)
  obtain ⟨c1, c2, c3, c4⟩ := hall
  have hs : Sh r := by
   rcases sh_cases r with ⟨h, _⟩ | ⟨_, h⟩
   ·exact h
   ·rw [h] at c1; exact absurd c1 (by simp)
  have hm : mvP r x y = (movL x y r, 0) := by unfold mvP; rw [if_pos c1, if_pos c2, if_pos c3, if_pos c4]
  have h0 := hs.1
  have hbd : ∀ c ∈ r, -1000 ≤ c.f0 ∧ c.f0 ≤ 1000 ∧ -1000 ≤ c.f1 ∧ c.f1 ≤ 1000 := fun c hc => by have := hs.ok hc; unfold okC at this; omega
  have e1 := movL_add hbd (a := x) (b := y) (by omega) (by omega)
  have hs2 : Sh (movL x y r) := by
   rcases sh_cases (movL x y r) with ⟨h, _⟩ | ⟨_, h⟩
   ·exact h
   ·rw [h] at c4; exact absurd c4 (by simp)
  have hbd2 : ∀ c ∈ movL x y r, -1000 ≤ c.f0 ∧ c.f0 ≤ 1000 ∧ -1000 ≤ c.f1 ∧ c.f1 ≤ 1000 := fun c hc => by have := hs2.ok hc; unfold okC at this; omega
  have hn : normL (movL x y r) = normL r := by
   rw [normL_U (fun c hc => by have := hbd2 c hc; omega) (by rw [movL_length]; exact h0), normL_U (fun c hc => by have := hbd c hc; omega) h0, e1, normU_add _ h0]
  have hnf : nfP (movL x y r) = nfP r := by unfold nfP; rw [c4, c1, hn]
  have wx : wrap64 (-x) = -x := w64 (by omega) (by omega)
  have wy : wrap64 (-y) = -y := w64 (by omega) (by omega)
  have hback : movL (-x) (-y) (movL x y r) = r := by
   rw [movL_add hbd2 (by omega) (by omega), e1, List.map_map]
   conv => rhs; rw [← List.map_id r]
   refine List.map_congr_left fun c _ => ?_
   show addC _ (addC _ c) = c
   unfold addC
   simp only []
   cases c
   simp only []
   congr 1 <;> omega
  have hmv : mvP (movL x y r) (-x) (-y) = (r, 0) := by
   unfold mvP
   rw [hback, if_pos c4, if_pos (by omega), if_pos (by omega), if_pos c1]
  have hnl := nfP_length r (by omega)
  have i1 := implNf_ev r (by omega)
  have i2 := implNf_ev (movL x y r) (by rw [movL_length]; omega)
  rw [hnf] at i2
  have i3 := specNf_ev r (by omega)
  have i4 := implMv_ev (movL x y r) (-x) (-y) (by rw [movL_length]; omega)
  rw [hmv] at i4
  obtain ⟨M, g1, g2, g3, g4, g5, g6⟩ := ev6 i1 i2 i3 i4 (likeCells_ev (nfP r).1 (by omega)) (likeCells_ev r (by omega))
  refine ⟨K + L + (M + 1), ?_⟩
  rw [outer, hm]
  have q3 : K + L + (M + 1) = (M + (K + L)) + 1 := by omega
  rw [q3]
  simp only [laws_FnNormal.j0, Bool.false_eq_true, if_false, if_true, wx, wy, g1, g2, g3, g4, g5, g6, Option.bind_some]
 ·refine ⟨K + L + 1, ?_⟩
  rw [outer]
  simp only [laws_FnNormal.j0, Bool.false_eq_true, if_false, if_neg hc]
end Go.Proofs.Ytbfmocohknadkaa.Pure
