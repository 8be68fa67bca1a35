/- The program's NameOf returns what the reference's returns, for all arguments, without any condition. -/
import Derived.Test.YtbkafaoehheioaaXx0
import Derived.Test.YtbkafaoehheioaaXx11
import Derived.Test.YtbkafaoehheioaaXx12
import Derived.Test.YtbkafaoehheioaaXx13
import Derived.Test.YtbkafaoehheioaaXx15
import Derived.Test.YtbkafaoehheioaaXx19
import Derived.Test.YtbkafaoehheioaaXx2
import Derived.Test.YtbkafaoehheioaaXx3
import Derived.Test.YtbkafaoehheioaaXx4
import Derived.Test.YtbkafaoehheioaaXx5
import Derived.Test.YtbkafaoehheioaaXx6
import Derived.Test.YtbkafaoehheioaaXx8
namespace Go.Proofs.Ytbkafaoehheioaa.X
set_option linter.unusedVariables false
set_option linter.unusedSimpArgs false
open Go.RowKit Go.Proofs.Ytbkafaoehheioaa.X Go.Proofs.YtbkafaoehheioaaW.PrintWords Go.Proofs.YtbkafaoehheioaaW.PrintLast Go.Proofs.YtbkafaoehheioaaW.PrintMore
def laws_FnExactNameOf.Pure : Prop := ∀ (l0 : List S57), l0.length ≤ 9223372036854775807 → (∀ x ∈ l0, (Lit.int .i64 x.f0).wf = true ∧ (Lit.int .i64 x.f1).wf = true) → ∃ k, laws_FnExactNameOf.f k l0 = some true
end Go.Proofs.Ytbkafaoehheioaa.X
namespace Go.Proofs.Ytbkafaoehheioaa.M
set_option linter.unusedVariables false
set_option linter.unusedSimpArgs false
open Go.RowKit Go.Proofs.Ytbkafaoehheioaa.X Go.Proofs.YtbkafaoehheioaaW.PrintWords Go.Proofs.YtbkafaoehheioaaW.PrintLast Go.Proofs.YtbkafaoehheioaaW.PrintMore
theorem w64 {x : Int} (h1 : -9223372036854775808 ≤ x) (h2 : x ≤ 9223372036854775807) : wrap64 x = x := by unfold wrap64; omega
theorem tmod_pos {a n : Int} (h : 0 ≤ a) (hn : 0 < n) : 0 ≤ Int.tmod a n ∧ Int.tmod a n < n := by
 rw [Int.tmod_eq_emod_of_nonneg h]; exact ⟨Int.emod_nonneg _ (by omega), Int.emod_lt_of_pos _ hn⟩
abbrev C := S55
def at_ (l : List C) (j : Nat) : C := l.getD j ⟨0, 0⟩
theorem rd_at (l : List C) (j : Nat) : rd_T55 l (j : Int) = at_ l j := by unfold rd_T55 at_; rw [Int.toNat_natCast]; rfl
theorem at_get (l : List C) (j : Nat) (h : j < l.length) : at_ l j = l[j] := by unfold at_; rw [List.getD_eq_getElem?_getD, List.getElem?_eq_getElem h]; rfl
theorem at_mem (l : List C) (j : Nat) (h : j < l.length) : at_ l j ∈ l := by rw [at_get l j h]; exact List.getElem_mem h
theorem drop_at (l : List C) (j : Nat) (h : j < l.length) : l.drop j = at_ l j :: l.drop (j + 1) := by rw [at_get l j h, List.drop_eq_getElem_cons h]
def AE (P : Nat → Prop) : Prop := ∃ K, ∀ k, K ≤ k → P k
theorem AE.and {P Q : Nat → Prop} (h : AE P) (g : AE Q) : AE (fun k => P k ∧ Q k) := by
 obtain ⟨K, h⟩ := h; obtain ⟨L, g⟩ := g
 exact ⟨K + L, fun k hk => ⟨h k (by omega), g k (by omega)⟩⟩
theorem AE.up {P : Nat → Prop} (h : AE P) : ∃ K, ∀ n, P (K + n) := by
 obtain ⟨K, h⟩ := h; exact ⟨K, fun n => h _ (by omega)⟩
theorem evae {α : Type} {g : Nat → Option α} {a : α} (h : Ev g a) : AE (fun k => g k = some a) := h
theorem ev2 {α0 α1 : Type} {g0 : Nat → Option α0} {g1 : Nat → Option α1} {a0 : α0} {a1 : α1} (h0 : Ev g0 a0) (h1 : Ev g1 a1) : ∃ K, (∀ n, g0 (K + n) = some a0) ∧ (∀ n, g1 (K + n) = some a1) := by
 obtain ⟨K, h⟩ := AE.up (AE.and (evae h0) (evae h1)); exact ⟨K, fun n => (h n).1, fun n => (h n).2⟩
theorem ev4 {α0 α1 α2 α3 : Type} {g0 : Nat → Option α0} {g1 : Nat → Option α1} {g2 : Nat → Option α2} {g3 : Nat → Option α3} {a0 : α0} {a1 : α1} {a2 : α2} {a3 : α3} (h0 : Ev g0 a0) (h1 : Ev g1 a1) (h2 : Ev g2 a2) (h3 : Ev g3 a3) : ∃ K, (∀ n, g0 (K + n) = some a0) ∧ (∀ n, g1 (K + n) = some a1) ∧ (∀ n, g2 (K + n) = some a2) ∧ (∀ n, g3 (K + n) = some a3) := by
 obtain ⟨K, h⟩ := AE.up (AE.and (evae h0) (AE.and (evae h1) (AE.and (evae h2) (evae h3)))); exact ⟨K, fun n => (h n).1, fun n => (h n).2.1, fun n => (h n).2.2.1, fun n => (h n).2.2.2⟩
theorem ev_fold {σ β : Type} (F : Nat → σ → Int → Option β) (l : List C) (g : σ → C → σ) (fin : σ → Option β) (r : β) (inv : Nat → σ → Prop)
  (step : ∀ k s (j : Nat), j < l.length → at_ l j ∈ l → inv j s → F (k + 1) s (j : Nat) = F k (g s (at_ l j)) ((j + 1 : Nat) : Int) ∧ inv (j + 1) (g s (at_ l j)))
  (done : ∀ k s, inv l.length s → F (k + 1) s (l.length : Nat) = fin s) (j0 : Nat) (hj0 : j0 ≤ l.length) (s0 : σ) (h0 : inv j0 s0) (hr : fin ((l.drop j0).foldl g s0) = some r) : Ev (fun k => F k s0 (j0 : Nat)) r := by
 have key : ∀ d j : Nat, j + d = l.length → ∀ s, inv j s → fin ((l.drop j).foldl g s) = some r → Ev (fun k => F k s (j : Nat)) r := by
  intro d
  induction d with
  | zero =>
   intro j hj s hs hr
   obtain rfl : j = l.length := by omega
   refine Ev.step (fun k => done k s hs) ?_
   rw [List.drop_length] at hr
   have hr' : fin s = some r := hr
   rw [hr']; exact Ev.now r
  | succ d ih =>
   intro j hj s hs hr
   have h : j < l.length := by omega
   refine Ev.step (fun k => (step k s j h (at_mem l j h) hs).1) (ih (j + 1) (by omega) _ ((step 0 s j h (at_mem l j h) hs).2) ?_)
   rw [drop_at l j h] at hr; exact hr
 exact key (l.length - j0) j0 (by omega) s0 h0 hr
def cs (l : List S57) : List C := l.map fun c => ⟨c.f0, c.f1⟩
theorem cs_length (l : List S57) : (cs l).length = l.length := by simp [cs]
theorem sz_cases (l : List S57) (hl : l.length ≤ 9223372036854775807) (b : Int) (hb : 0 ≤ b) (hb2 : b ≤ 1048576) :
  (b < (l.length : Int) ∧ laws_szCellS.f l b = some (-1)) ∨ ((l.length : Int) ≤ b ∧ laws_szCellS.f l b = some (b - (l.length : Int))) := by
 unfold laws_szCellS.f
 rw [w64 (by omega) (by omega)]
 by_cases h : b - (l.length : Int) < 0
 ·exact Or.inl ⟨by omega, by rw [if_pos h]⟩
 ·exact Or.inr ⟨by omega, by rw [if_neg h]⟩
theorem toCell_loop (l : List S57) (hl : l.length ≤ 1048576) : ∀ d j : Nat, j + d = l.length → ∀ x : List C, x.length = l.length → (∀ i, i < j → x[i]? = (cs l)[i]?) → Ev (fun k => laws_toCellS.l0 k l x (j : Nat)) (cs l) := by
 intro d
 induction d with
 | zero =>
  intro j hj x hx hi
  obtain rfl : x = cs l := by
   apply List.ext_getElem?
   intro i
   by_cases h : i < j
   ·exact hi i h
   ·rw [List.getElem?_eq_none (by omega), List.getElem?_eq_none (by rw [cs_length]; omega)]
  refine Ev.step (fun k => ?_) (Ev.now _)
  simp only [laws_toCellS.l0]; rw [if_neg (by omega)]
 | succ d ih =>
  intro j hj x hx hi
  have hc : (cs l)[j]? = some ⟨(rd_T57 l (j : Nat)).f0, (rd_T57 l (j : Nat)).f1⟩ := by
   unfold cs rd_T57; rw [List.getElem?_map, List.getD_eq_getElem?_getD, Int.toNat_natCast, List.getElem?_eq_getElem (by omega)]; rfl
  refine Ev.step (fun k => ?_) (ih (j + 1) (by omega) (x.set j ⟨(rd_T57 l (j : Nat)).f0, (rd_T57 l (j : Nat)).f1⟩) (by rw [List.length_set]; exact hx) ?_)
  ·simp only [laws_toCellS.l0, laws_toCell.f, Option.bind_some]; rw [if_pos (by omega), if_pos (by omega), if_pos (by omega), w64 (by omega) (by omega)]; rfl
  ·intro i h
   rw [List.getElem?_set]
   by_cases e : j = i
   ·subst e; rw [if_pos rfl, if_pos (by omega), hc]
   ·rw [if_neg e]; exact hi i (by omega)
theorem toCell_ev (l : List S57) (hl : l.length ≤ 1048576) : Ev (fun k => laws_toCellS.f k l) (cs l) := by
 unfold laws_toCellS.f
 simp only [if_pos (show 0 ≤ (l.length : Int) by omega), if_pos (show ((l.length : Int)).toNat ≤ 17592186044416 by omega)]
 exact toCell_loop l hl l.length 0 (by omega) _ (by simp) (by intro i h; omega)
theorem eqCell_loop (l : List C) (hl : l.length ≤ 140737488355328) : ∀ d j : Nat, j + d = l.length → Ev (fun k => laws_eqCellS.l0 k l l (j : Nat)) true := by
 intro d
 induction d with
 | zero =>
  intro j hj
  refine Ev.step (fun k => ?_) (Ev.now _)
  simp only [laws_eqCellS.l0]; rw [if_neg (by omega)]
 | succ d ih =>
  intro j hj
  refine Ev.step (fun k => ?_) (ih (j + 1) (by omega))
  simp only [laws_eqCellS.l0, laws_eqCell.f, if_true, Option.bind_some]; rw [if_pos (by omega), if_pos (by omega), if_pos (by omega), w64 (by omega) (by omega)]; rfl
theorem eqCell_ev (l : List C) (hl : l.length ≤ 140737488355328) : Ev (fun k => laws_eqCellS.f k l l) true := by
 unfold laws_eqCellS.f
 simp only [if_true]
 exact eqCell_loop l hl l.length 0 (by omega)
theorem l01In_eq (a b c : Int) : spec_l01In.f a b c = some (decide (b ≤ a ∧ a ≤ c)) := by
 unfold spec_l01In.f; by_cases h : a ≥ b
 ·rw [if_pos h]; simp [h]
 ·rw [if_neg h]; simp; omega
theorem within_eq (a b c : Int) : impl_within.f a b c = some (decide (b ≤ a ∧ a ≤ c)) := l01In_eq a b c
def ltC (a b : C) : Prop := a.f1 < b.f1 ∨ (a.f1 = b.f1 ∧ a.f0 < b.f0)
instance (a b : C) : Decidable (ltC a b) := by unfold ltC; exact inferInstance
def okC (a : C) : Prop := -100 ≤ a.f0 ∧ a.f0 ≤ 100 ∧ -100 ≤ a.f1 ∧ a.f1 ≤ 100
instance (a : C) : Decidable (okC a) := by unfold okC; exact inferInstance
def Sh (l : List C) : Prop := 1 ≤ l.length ∧ l.length ≤ 40 ∧ (∀ i, i < l.length → okC (at_ l i)) ∧ (∀ i, i + 1 < l.length → ltC (at_ l i) (at_ l (i + 1)))
noncomputable def shB (l : List C) : Bool := @decide (Sh l) (Classical.propDecidable _)
theorem shB_true {l : List C} (h : Sh l) : shB l = true := @decide_eq_true _ (Classical.propDecidable _) h
theorem shB_false {l : List C} (h : ¬ Sh l) : shB l = false := @decide_eq_false _ (Classical.propDecidable _) h
theorem less_eq (a b c d : Int) : spec_l02Less.f a b c d = some (decide (ltC ⟨a, b⟩ ⟨c, d⟩)) := by
 unfold spec_l02Less.f ltC
 by_cases h : b < d
 ·rw [if_pos h]; simp [h]
 ·rw [if_neg h]
  by_cases e : b = d
  ·rw [if_pos e]; simp [e]
  ·rw [if_neg e]; simp [h, e]
theorem cellOk_eq (a b : Int) : spec_l02Cell.f a b = some (decide (okC ⟨a, b⟩)) := by
 unfold spec_l02Cell.f okC
 simp only [l01In_eq, Option.bind_some]
 by_cases h : -100 ≤ a ∧ a ≤ 100
 ·simp [h]
 ·simp only [decide_eq_false h, Bool.false_eq_true, if_false]; congr 1; exact (decide_eq_false (fun g => h ⟨g.1, g.2.1⟩)).symm
theorem isCo_eq (a : Int) : impl_isCoordinate.f a = some (decide (-100 ≤ a ∧ a ≤ 100)) := by
 unfold impl_isCoordinate.f; simp only [within_eq, Option.bind_some]
theorem cmp_eq (a b : Int) : cmp_Compare_int64.f a b = some (if a < b then -1 else if b < a then 1 else 0) := by
 unfold cmp_Compare_int64.f cmp_isNaN_int64.f
 simp only [bne_self_eq_false, Option.bind_some, Bool.false_eq_true, if_false]
 by_cases h : a < b
 ·simp [h]
 ·by_cases g : b < a <;> simp [h, g]
def cmpC (a b : C) : Int := if ltC a b then -1 else if ltC b a then 1 else 0
theorem cmpCells_eq (a b c d : Int) : impl_compareCells.f a b c d = some (cmpC ⟨a, b⟩ ⟨c, d⟩) := by
 unfold impl_compareCells.f cmpC ltC
 simp only [cmp_eq, Option.bind_some]
 by_cases h : b < d
 ·simp [h]
 ·by_cases g : d < b
  ·have : ¬ b = d := by omega
   have : ¬ d = b := by omega
   simp [*]
  ·obtain rfl : b = d := by omega
   simp [h]
theorem cmpC_neg (a b : C) : (0 ≤ cmpC a b) ↔ ¬ ltC a b := by
 unfold cmpC; by_cases h : ltC a b
 ·simp [h]
 ·simp only [h, if_false, not_false_eq_true, iff_true]; split <;> omega
theorem specShape_loop (l : List C) (hl : l.length ≤ 1048576) : ∀ d j : Nat, j + d = l.length → (∀ i, i < j → okC (at_ l i)) → (∀ i, i + 1 < j → ltC (at_ l i) (at_ l (i + 1))) → Ev (fun k => spec_IsShape.l0 k l (j : Nat)) (shB l) := by
 intro d
 induction d with
 | zero =>
  intro j hj h1 h2
  obtain rfl : j = l.length := by omega
  refine Ev.step (fun k => ?_) (Ev.now _)
  simp only [spec_IsShape.l0, l01In_eq, Option.bind_some]; rw [if_neg (by omega)]
  congr 1
  by_cases h : 1 ≤ l.length ∧ l.length ≤ 40
  ·rw [shB_true ⟨h.1, h.2, h1, h2⟩]; exact decide_eq_true (by omega)
  ·rw [shB_false (fun g => h ⟨g.1, g.2.1⟩)]; exact decide_eq_false (by omega)
 | succ d ih =>
  intro j hj h1 h2
  by_cases c1 : okC (at_ l j)
  ·have c1' : okC ⟨(at_ l j).f0, (at_ l j).f1⟩ := c1
   by_cases c2 : j = 0
   ·subst c2
    refine Ev.step (fun k => ?_) (ih 1 (by omega) (fun i hi => by obtain rfl : i = 0 := (by omega); exact c1) (fun i hi => by omega))
    simp only [spec_IsShape.l0, rd_at, cellOk_eq, decide_eq_true c1', Option.bind_some, if_true]
    rw [if_pos (by omega), if_pos (by omega), if_neg (by omega), w64 (by omega) (by omega)]; rfl
   ·obtain ⟨i, rfl⟩ : ∃ i, j = i + 1 := ⟨j - 1, by omega⟩
    have e : wrap64 (((i + 1 : Nat) : Int) - 1) = (i : Nat) := by rw [w64 (by omega) (by omega)]; omega
    by_cases c3 : ltC (at_ l i) (at_ l (i + 1))
    ·have c3' : ltC ⟨(at_ l i).f0, (at_ l i).f1⟩ ⟨(at_ l (i + 1)).f0, (at_ l (i + 1)).f1⟩ := c3
     refine Ev.step (fun k => ?_) (ih (i + 1 + 1) (by omega) (fun x hx => if g : x = i + 1 then by rw [g]; exact c1 else h1 x (by omega)) (fun x hx => if g : x = i then by rw [g]; exact c3 else h2 x (by omega)))
     simp only [spec_IsShape.l0, rd_at, cellOk_eq, decide_eq_true c1', Option.bind_some, if_true, e, less_eq, decide_eq_true c3']
     rw [if_pos (by omega), if_pos (by omega), if_pos (by omega), if_pos (by omega), if_pos (by omega), w64 (by omega) (by omega)]; rfl
    ·have c3' : ¬ ltC ⟨(at_ l i).f0, (at_ l i).f1⟩ ⟨(at_ l (i + 1)).f0, (at_ l (i + 1)).f1⟩ := c3
     rw [shB_false (fun g => c3 (g.2.2.2 i (by omega)))]
     refine Ev.step (fun k => ?_) (Ev.now _)
     simp only [spec_IsShape.l0, rd_at, cellOk_eq, decide_eq_true c1', Option.bind_some, if_true, e, less_eq, decide_eq_false c3', Bool.false_eq_true, if_false]
     rw [if_pos (by omega), if_pos (by omega), if_pos (by omega), if_pos (by omega), if_pos (by omega)]
  ·have c1' : ¬ okC ⟨(at_ l j).f0, (at_ l j).f1⟩ := c1
   rw [shB_false (fun g => c1 (g.2.2.1 j (by omega)))]
   refine Ev.step (fun k => ?_) (Ev.now _)
   simp only [spec_IsShape.l0, rd_at, cellOk_eq, decide_eq_false c1', Option.bind_some, Bool.false_eq_true, if_false]
   rw [if_pos (by omega), if_pos (by omega)]
theorem specShape_ev (l : List C) (hl : l.length ≤ 1048576) : Ev (fun k => spec_IsShape.f k l) (shB l) :=
 specShape_loop l hl l.length 0 (by omega) (fun i hi => by omega) (fun i hi => by omega)
theorem implShape_loop (l : List C) (hl : l.length ≤ 1048576) : ∀ d j : Nat, j + d = l.length → (∀ i, i < j → okC (at_ l i)) → (∀ i, i + 1 < j → ltC (at_ l i) (at_ l (i + 1))) → Ev (fun k => impl_IsShape.l0 k l l (l.length : Int) (j : Nat)) (shB l) := by
 intro d
 induction d with
 | zero =>
  intro j hj h1 h2
  obtain rfl : j = l.length := by omega
  refine Ev.step (fun k => ?_) (Ev.now _)
  simp only [impl_IsShape.l0]; rw [if_neg (by omega)]
  by_cases h : 1 ≤ l.length ∧ l.length ≤ 40
  ·rw [shB_true ⟨h.1, h.2, h1, h2⟩, if_pos (by omega)]; congr 1; exact decide_eq_true (by omega)
  ·rw [shB_false (fun g => h ⟨g.1, g.2.1⟩)]
   by_cases g : (l.length : Int) ≥ 1
   ·rw [if_pos g]; congr 1; exact decide_eq_false (by omega)
   ·rw [if_neg g]
 | succ d ih =>
  intro j hj h1 h2
  by_cases c1 : okC (at_ l j)
  ·have ca : -100 ≤ (at_ l j).f0 ∧ (at_ l j).f0 ≤ 100 := ⟨c1.1, c1.2.1⟩
   have cb : -100 ≤ (at_ l j).f1 ∧ (at_ l j).f1 ≤ 100 := c1.2.2
   by_cases c2 : j = 0
   ·subst c2
    refine Ev.step (fun k => ?_) (ih 1 (by omega) (fun i hi => by obtain rfl : i = 0 := (by omega); exact c1) (fun i hi => by omega))
    simp only [impl_IsShape.l0, rd_at, isCo_eq, decide_eq_true ca, decide_eq_true cb, Option.bind_some, if_true]
    rw [if_pos (by omega), if_pos (by omega), if_pos (by omega), if_neg (by omega), w64 (by omega) (by omega)]; rfl
   ·obtain ⟨i, rfl⟩ : ∃ i, j = i + 1 := ⟨j - 1, by omega⟩
    have e : wrap64 (((i + 1 : Nat) : Int) - 1) = (i : Nat) := by rw [w64 (by omega) (by omega)]; omega
    by_cases c3 : ltC (at_ l i) (at_ l (i + 1))
    ·have c3' : ¬ (cmpC ⟨(at_ l i).f0, (at_ l i).f1⟩ ⟨(at_ l (i + 1)).f0, (at_ l (i + 1)).f1⟩ ≥ 0) := fun g => (cmpC_neg _ _).1 g c3
     refine Ev.step (fun k => ?_) (ih (i + 1 + 1) (by omega) (fun x hx => if g : x = i + 1 then by rw [g]; exact c1 else h1 x (by omega)) (fun x hx => if g : x = i then by rw [g]; exact c3 else h2 x (by omega)))
     simp only [impl_IsShape.l0, rd_at, isCo_eq, decide_eq_true ca, decide_eq_true cb, Option.bind_some, if_true, e, cmpCells_eq, if_neg c3']
     rw [if_pos (by omega), if_pos (by omega), if_pos (by omega), if_pos (by omega), if_pos (by omega), if_pos (by omega), w64 (by omega) (by omega)]; rfl
    ·have c3' : cmpC ⟨(at_ l i).f0, (at_ l i).f1⟩ ⟨(at_ l (i + 1)).f0, (at_ l (i + 1)).f1⟩ ≥ 0 := (cmpC_neg _ _).2 c3
     rw [shB_false (fun g => c3 (g.2.2.2 i (by omega)))]
     refine Ev.step (fun k => ?_) (Ev.now _)
     simp only [impl_IsShape.l0, rd_at, isCo_eq, decide_eq_true ca, decide_eq_true cb, Option.bind_some, if_true, e, cmpCells_eq, if_pos c3']
     rw [if_pos (by omega), if_pos (by omega), if_pos (by omega), if_pos (by omega), if_pos (by omega), if_pos (by omega)]
  ·rw [shB_false (fun g => c1 (g.2.2.1 j (by omega)))]
   refine Ev.step (fun k => ?_) (Ev.now _)
   simp only [impl_IsShape.l0, rd_at, isCo_eq, Option.bind_some]
   rw [if_pos (by omega), if_pos (by omega), if_pos (by omega)]
   by_cases ca : -100 ≤ (at_ l j).f0 ∧ (at_ l j).f0 ≤ 100
   ·have cb : ¬ (-100 ≤ (at_ l j).f1 ∧ (at_ l j).f1 ≤ 100) := fun cb => c1 ⟨ca.1, ca.2, cb.1, cb.2⟩
    simp only [decide_eq_true ca, decide_eq_false cb, if_true, Bool.false_eq_true, if_false]
   ·simp only [decide_eq_false ca, Bool.false_eq_true, if_false]
theorem implShape_ev (l : List C) (hl : l.length ≤ 1048576) : Ev (fun k => impl_IsShape.f k l) (shB l) :=
 implShape_loop l hl l.length 0 (by omega) (fun i hi => by omega) (fun i hi => by omega)
theorem mem_at {l : List C} {c : C} (h : c ∈ l) : ∃ i, i < l.length ∧ at_ l i = c := by
 obtain ⟨i, hi, e⟩ := List.mem_iff_getElem.1 h
 exact ⟨i, hi, (at_get l i hi).trans e⟩
theorem Sh.ok {l : List C} (h : Sh l) {c : C} (hc : c ∈ l) : okC c := by
 obtain ⟨i, hi, rfl⟩ := mem_at hc
 exact h.2.2.1 i hi
theorem ltC_trans {a b c : C} (h : ltC a b) (g : ltC b c) : ltC a c := by unfold ltC at *; omega
theorem ltC_irrefl {a : C} (h : ltC a a) : False := by unfold ltC at h; omega
theorem Sh.lt {l : List C} (h : Sh l) : ∀ i j, i < j → j < l.length → ltC (at_ l i) (at_ l j) := by
 intro i j
 induction j with
 | zero => intro h; omega
 | succ j ih =>
  intro hij hj
  by_cases e : i = j
  ·subst e; exact h.2.2.2 i hj
  ·exact ltC_trans (ih (by omega) (by omega)) (h.2.2.2 j hj)
theorem sh_cases (l : List C) : (Sh l ∧ shB l = true) ∨ (¬ Sh l ∧ shB l = false) := by
 by_cases h : Sh l
 ·exact Or.inl ⟨h, shB_true h⟩
 ·exact Or.inr ⟨h, shB_false h⟩
-- USES Base Cell
theorem foldl_pair (g1 g2 : Int → C → Int) (l : List C) : ∀ a b, l.foldl (fun (s : Int × Int) c => (g1 s.1 c, g2 s.2 c)) (a, b) = (l.foldl g1 a, l.foldl g2 b) := by
 induction l with
 | nil => intro a b; rfl
 | cons c r ih => intro a b; exact ih _ _
def mxF (f : C → Int) (l : List C) (s : Int) : Int := l.foldl (fun s c => mx s (f c)) s
def mnF (f : C → Int) (l : List C) (s : Int) : Int := l.foldl (fun s c => mn s (f c)) s
theorem mxF_spec (f : C → Int) (l : List C) : ∀ s, s ≤ mxF f l s ∧ (∀ c ∈ l, f c ≤ mxF f l s) ∧ (mxF f l s = s ∨ ∃ c ∈ l, mxF f l s = f c) := by
 induction l with
 | nil => intro s; exact ⟨Int.le_refl _, (fun c h => by cases h), Or.inl rfl⟩
 | cons d r ih =>
  intro s
  obtain ⟨h1, h2, h3⟩ := ih (mx s (f d))
  have e : mxF f (d :: r) s = mxF f r (mx s (f d)) := rfl
  rw [e]
  have m1 : s ≤ mx s (f d) ∧ f d ≤ mx s (f d) ∧ (mx s (f d) = s ∨ mx s (f d) = f d) := by unfold mx; split <;> omega
  refine ⟨by omega, fun c hc => ?_, ?_⟩
  ·rcases List.mem_cons.1 hc with rfl | hc
   ·omega
   ·exact h2 c hc
  ·rcases h3 with h3 | ⟨c, hc, h3⟩
   ·rcases m1.2.2 with m | m
    ·exact Or.inl (h3.trans m)
    ·exact Or.inr ⟨d, List.mem_cons_self, h3.trans m⟩
   ·exact Or.inr ⟨c, List.mem_cons_of_mem _ hc, h3⟩
theorem mnF_spec (f : C → Int) (l : List C) : ∀ s, mnF f l s ≤ s ∧ (∀ c ∈ l, mnF f l s ≤ f c) ∧ (mnF f l s = s ∨ ∃ c ∈ l, mnF f l s = f c) := by
 induction l with
 | nil => intro s; exact ⟨Int.le_refl _, (fun c h => by cases h), Or.inl rfl⟩
 | cons d r ih =>
  intro s
  obtain ⟨h1, h2, h3⟩ := ih (mn s (f d))
  have e : mnF f (d :: r) s = mnF f r (mn s (f d)) := rfl
  rw [e]
  have m1 : mn s (f d) ≤ s ∧ mn s (f d) ≤ f d ∧ (mn s (f d) = s ∨ mn s (f d) = f d) := by unfold mn; split <;> omega
  refine ⟨by omega, fun c hc => ?_, ?_⟩
  ·rcases List.mem_cons.1 hc with rfl | hc
   ·omega
   ·exact h2 c hc
  ·rcases h3 with h3 | ⟨c, hc, h3⟩
   ·rcases m1.2.2 with m | m
    ·exact Or.inl (h3.trans m)
    ·exact Or.inr ⟨d, List.mem_cons_self, h3.trans m⟩
   ·exact Or.inr ⟨c, List.mem_cons_of_mem _ hc, h3⟩
def lo (l : List C) : Int × Int := (mnF (fun c => c.f0) l (at_ l 0).f0, mnF (fun c => c.f1) l (at_ l 0).f1)
def hi (l : List C) : Int × Int := (mxF (fun c => c.f0) l (at_ l 0).f0, mxF (fun c => c.f1) l (at_ l 0).f1)
theorem mn_self (a : Int) : mn a a = a := by unfold mn; split <;> omega
theorem lo_drop (l : List C) (h : 0 < l.length) : lo l = (mnF (fun c => c.f0) (l.drop 1) (at_ l 0).f0, mnF (fun c => c.f1) (l.drop 1) (at_ l 0).f1) := by
 have e := drop_at l 0 h
 rw [List.drop_zero] at e
 unfold lo
 have e0 : mnF (fun c => c.f0) l (at_ l 0).f0 = mnF (fun c => c.f0) (l.drop 1) (at_ l 0).f0 := by
  conv => lhs; rw [e]
  show mnF _ (l.drop (0 + 1)) (mn (at_ (at_ l 0 :: l.drop (0 + 1)) 0).f0 (at_ l 0).f0) = _
  rw [show at_ (at_ l 0 :: l.drop (0 + 1)) 0 = at_ l 0 from rfl, mn_self]
 have e1 : mnF (fun c => c.f1) l (at_ l 0).f1 = mnF (fun c => c.f1) (l.drop 1) (at_ l 0).f1 := by
  conv => lhs; rw [e]
  show mnF _ (l.drop (0 + 1)) (mn (at_ (at_ l 0 :: l.drop (0 + 1)) 0).f1 (at_ l 0).f1) = _
  rw [show at_ (at_ l 0 :: l.drop (0 + 1)) 0 = at_ l 0 from rfl, mn_self]
 rw [e0, e1]
theorem lo_le {l : List C} {c : C} (h : c ∈ l) : (lo l).1 ≤ c.f0 ∧ (lo l).2 ≤ c.f1 := ⟨(mnF_spec _ l _).2.1 c h, (mnF_spec _ l _).2.1 c h⟩
theorem le_hi {l : List C} {c : C} (h : c ∈ l) : c.f0 ≤ (hi l).1 ∧ c.f1 ≤ (hi l).2 := ⟨(mxF_spec _ l _).2.1 c h, (mxF_spec _ l _).2.1 c h⟩
theorem lo_mem0 {l : List C} (h : 0 < l.length) : ∃ c ∈ l, (lo l).1 = c.f0 := by
 rcases (mnF_spec (fun c : C => c.f0) l (at_ l 0).f0).2.2 with e | ⟨c, hc, e⟩
 ·exact ⟨at_ l 0, at_mem l 0 h, e⟩
 ·exact ⟨c, hc, e⟩
theorem lo_mem1 {l : List C} (h : 0 < l.length) : ∃ c ∈ l, (lo l).2 = c.f1 := by
 rcases (mnF_spec (fun c : C => c.f1) l (at_ l 0).f1).2.2 with e | ⟨c, hc, e⟩
 ·exact ⟨at_ l 0, at_mem l 0 h, e⟩
 ·exact ⟨c, hc, e⟩
theorem hi_mem0 {l : List C} (h : 0 < l.length) : ∃ c ∈ l, (hi l).1 = c.f0 := by
 rcases (mxF_spec (fun c : C => c.f0) l (at_ l 0).f0).2.2 with e | ⟨c, hc, e⟩
 ·exact ⟨at_ l 0, at_mem l 0 h, e⟩
 ·exact ⟨c, hc, e⟩
theorem hi_mem1 {l : List C} (h : 0 < l.length) : ∃ c ∈ l, (hi l).2 = c.f1 := by
 rcases (mxF_spec (fun c : C => c.f1) l (at_ l 0).f1).2.2 with e | ⟨c, hc, e⟩
 ·exact ⟨at_ l 0, at_mem l 0 h, e⟩
 ·exact ⟨c, hc, e⟩
def sz (l : List C) : Int × Int := ((hi l).1 - (lo l).1 + 1, (hi l).2 - (lo l).2 + 1)
def movC (a b : Int) (c : C) : C := ⟨wrap64 (c.f0 + a), wrap64 (c.f1 + b)⟩
def movL (a b : Int) (l : List C) : List C := l.map (movC a b)
theorem movL_length (a b : Int) (l : List C) : (movL a b l).length = l.length := by simp [movL]
theorem foldl_append_map {α β : Type} (f : α → β) (l : List α) : ∀ s : List β, l.foldl (fun s c => s ++ [f c]) s = s ++ l.map f := by
 induction l with
 | nil => intro s; simp
 | cons c r ih => intro s; rw [List.foldl_cons, ih]; simp
def normL (l : List C) : List C := movL (wrap64 (-(lo l).1)) (wrap64 (-(lo l).2)) l
theorem normL_length (l : List C) : (normL l).length = l.length := movL_length _ _ _
theorem lo_ok {l : List C} (h : Sh l) : -100 ≤ (lo l).1 ∧ (lo l).1 ≤ 100 ∧ -100 ≤ (lo l).2 ∧ (lo l).2 ≤ 100 := by
 obtain ⟨c0, hc0, b0⟩ := lo_mem0 (l := l) (by have := h.1; omega)
 obtain ⟨c1, hc1, b1⟩ := lo_mem1 (l := l) (by have := h.1; omega)
 have o0 := h.ok hc0
 have o1 := h.ok hc1
 unfold okC at o0 o1
 omega
theorem hi_ok {l : List C} (h : Sh l) : -100 ≤ (hi l).1 ∧ (hi l).1 ≤ 100 ∧ -100 ≤ (hi l).2 ∧ (hi l).2 ≤ 100 := by
 obtain ⟨c0, hc0, b0⟩ := hi_mem0 (l := l) (by have := h.1; omega)
 obtain ⟨c1, hc1, b1⟩ := hi_mem1 (l := l) (by have := h.1; omega)
 have o0 := h.ok hc0
 have o1 := h.ok hc1
 unfold okC at o0 o1
 omega
theorem normC_eq {l : List C} (h : Sh l) {c : C} (hc : c ∈ l) : movC (wrap64 (-(lo l).1)) (wrap64 (-(lo l).2)) c = ⟨c.f0 - (lo l).1, c.f1 - (lo l).2⟩ := by
 have a := lo_ok h
 have b := h.ok hc
 unfold okC at b
 unfold movC
 rw [w64 (x := -(lo l).1) (by omega) (by omega), w64 (x := -(lo l).2) (by omega) (by omega), w64 (by omega) (by omega), w64 (by omega) (by omega)]
 rfl
theorem normL_eq {l : List C} (h : Sh l) : normL l = l.map fun c => ⟨c.f0 - (lo l).1, c.f1 - (lo l).2⟩ := by
 unfold normL movL
 exact List.map_congr_left fun c hc => normC_eq h hc
theorem sz_ok {l : List C} (h : Sh l) : 1 ≤ (sz l).1 ∧ (sz l).1 ≤ 201 ∧ 1 ≤ (sz l).2 ∧ (sz l).2 ≤ 201 := by
 have a := lo_ok h
 have b := hi_ok h
 have h1 := h.1
 have c := lo_le (at_mem l 0 (by omega))
 have d := le_hi (at_mem l 0 (by omega))
 unfold sz
 simp only []
 omega
theorem norm_lt {l : List C} (h : Sh l) {c : C} (hc : c ∈ l) : 0 ≤ c.f0 - (lo l).1 ∧ c.f0 - (lo l).1 < (sz l).1 ∧ 0 ≤ c.f1 - (lo l).2 ∧ c.f1 - (lo l).2 < (sz l).2 := by
 have a := lo_le hc
 have b := le_hi hc
 unfold sz
 simp only []
 omega
def insP (c : C) : List C → List C
 | [] => [c]
 | x :: r => if ltC c x then c :: x :: r else x :: insP c r
def sortP (l : List C) : List C := l.foldl (fun s c => insP c s) []
theorem insP_length (c : C) (l : List C) : (insP c l).length = l.length + 1 := by
 induction l with
 | nil => rfl
 | cons x r ih => unfold insP; split <;> simp [ih]
theorem insP_perm (c : C) (l : List C) : (insP c l).Perm (c :: l) := by
 induction l with
 | nil => exact List.Perm.refl _
 | cons x r ih =>
  unfold insP
  split
  ·exact List.Perm.refl _
  ·exact (ih.cons x).trans (List.Perm.swap c x r)
theorem foldl_insP_perm : ∀ (l s : List C), (l.foldl (fun s c => insP c s) s).Perm (s ++ l) := by
 intro l
 induction l with
 | nil => intro s; simp
 | cons c r ih =>
  intro s
  rw [List.foldl_cons]
  refine (ih _).trans ?_
  refine ((insP_perm c s).append_right r).trans ?_
  exact (List.perm_middle).symm
theorem sortP_perm (l : List C) : (sortP l).Perm l := by
 have := foldl_insP_perm l []
 rwa [List.nil_append] at this
theorem sortP_length (l : List C) : (sortP l).length = l.length := (sortP_perm l).length_eq
theorem mem_sortP {l : List C} {c : C} : c ∈ sortP l ↔ c ∈ l := (sortP_perm l).mem_iff
def leC (a b : C) : Prop := ¬ ltC b a
theorem leC_trans {a b c : C} (h : leC a b) (g : leC b c) : leC a c := by unfold leC ltC at *; omega
theorem leC_total (a b : C) : leC a b ∨ leC b a := by unfold leC ltC; omega
theorem leC_anti {a b : C} (h : leC a b) (g : leC b a) : a = b := by
 unfold leC ltC at *
 have e0 : a.f0 = b.f0 := by omega
 have e1 : a.f1 = b.f1 := by omega
 cases a; cases b; cases e0; cases e1; rfl
theorem ltC_le {a b : C} (h : ltC a b) : leC a b := by unfold leC ltC at *; omega
theorem insP_sorted (c : C) (l : List C) (h : l.Pairwise leC) : (insP c l).Pairwise leC := by
 induction l with
 | nil => simp [insP]
 | cons x r ih =>
  rw [List.pairwise_cons] at h
  unfold insP
  by_cases hc : ltC c x
  ·rw [if_pos hc, List.pairwise_cons]
   refine ⟨fun y hy => ?_, List.pairwise_cons.2 h⟩
   rcases List.mem_cons.1 hy with rfl | hy
   ·exact ltC_le hc
   ·exact leC_trans (ltC_le hc) (h.1 y hy)
  ·rw [if_neg hc, List.pairwise_cons]
   refine ⟨fun y hy => ?_, ih h.2⟩
   rcases List.mem_cons.1 ((insP_perm c r).mem_iff.1 hy) with rfl | hy
   ·exact hc
   ·exact h.1 y hy
theorem sortP_sorted (l : List C) : (sortP l).Pairwise leC := by
 have : ∀ (l s : List C), s.Pairwise leC → (l.foldl (fun s c => insP c s) s).Pairwise leC := by
  intro l
  induction l with
  | nil => intro s h; exact h
  | cons c r ih => intro s h; exact ih _ (insP_sorted c s h)
 exact this l [] List.Pairwise.nil
theorem sorted_unique {l m : List C} (hl : l.Pairwise leC) (hm : m.Pairwise leC) (hp : l.Perm m) : l = m :=
 List.Perm.eq_of_pairwise (le := leC) (fun _ _ _ _ h1 h2 => leC_anti h1 h2) hl hm hp
def rotN : Nat → Int → Int → Int × Int
 | 0, x, y => (x, y)
 | n + 1, x, y => rotN n (wrap64 (-y)) x
def trn (t x y : Int) : Int × Int := rotN (Int.tmod t 4).toNat (if t ≥ 4 then wrap64 (-x) else x) y
def trC (t : Int) (c : C) : C := ⟨(trn t c.f0 c.f1).1, (trn t c.f0 c.f1).2⟩
def formP (l : List C) (t : Int) : List C := normL (sortP (l.map (trC t)))
theorem formP_length (l : List C) (t : Int) : (formP l t).length = l.length := by unfold formP; rw [normL_length, sortP_length, List.length_map]
theorem tmod4 (t : Int) (h : 0 ≤ t) : 0 ≤ Int.tmod t 4 ∧ Int.tmod t 4 < 4 := tmod_pos h (by omega)
theorem ev_foldE {σ β : Type} (F : Nat → σ → Int → Option β) (l : List C) (g : σ → C → σ) (inv : Nat → σ → Prop)
  (step : ∀ s (j : Nat), j < l.length → at_ l j ∈ l → inv j s → inv (j + 1) (g s (at_ l j)) ∧ ∀ r, Ev (fun k => F k (g s (at_ l j)) ((j + 1 : Nat) : Int)) r → Ev (fun k => F k s (j : Nat)) r)
  (r : β) (j0 : Nat) (hj0 : j0 ≤ l.length) (s0 : σ) (h0 : inv j0 s0) (hr : inv l.length ((l.drop j0).foldl g s0) → Ev (fun k => F k ((l.drop j0).foldl g s0) (l.length : Nat)) r) : Ev (fun k => F k s0 (j0 : Nat)) r := by
 have key : ∀ d j : Nat, j + d = l.length → ∀ s, inv j s → (inv l.length ((l.drop j).foldl g s) → Ev (fun k => F k ((l.drop j).foldl g s) (l.length : Nat)) r) → Ev (fun k => F k s (j : Nat)) r := by
  intro d
  induction d with
  | zero =>
   intro j hj s hs hr
   obtain rfl : j = l.length := by omega
   rw [List.drop_length] at hr
   exact hr hs
  | succ d ih =>
   intro j hj s hs hr
   have h : j < l.length := by omega
   obtain ⟨h1, h2⟩ := step s j h (at_mem l j h) hs
   refine h2 r (ih (j + 1) (by omega) _ h1 ?_)
   rw [drop_at l j h] at hr; exact hr
 exact key (l.length - j0) j0 (by omega) s0 h0 hr
theorem ins_loop (l : List C) (x y : Int) (hl : l.length ≤ 1048576) : ∀ d j : Nat, j + d = l.length → ∀ acc : List C, acc.length ≤ j + 1 →
  Ev (fun k => spec_l02Insert.l0 k l acc true (j : Nat) x y) (acc ++ l.drop j) ∧ (acc.length ≤ j → Ev (fun k => spec_l02Insert.l0 k l acc false (j : Nat) x y) (acc ++ insP ⟨x, y⟩ (l.drop j))) := by
 intro d
 induction d with
 | zero =>
  intro j hj acc ha
  obtain rfl : j = l.length := by omega
  rw [List.drop_length]
  refine ⟨?_, fun _ => ?_⟩
  ·refine Ev.step (fun k => ?_) (Ev.now _)
   simp only [spec_l02Insert.l0, if_true, List.append_nil]; rw [if_neg (by omega)]
  ·refine Ev.step (fun k => ?_) (Ev.now _)
   simp only [spec_l02Insert.l0, insP, Bool.false_eq_true, if_false]; rw [if_neg (by omega), if_pos (by omega)]
 | succ d ih =>
  intro j hj acc ha
  have hjl : j < l.length := by omega
  rw [drop_at l j hjl]
  have ej : wrap64 ((j : Int) + 1) = ((j + 1 : Nat) : Int) := by rw [w64 (by omega) (by omega)]; rfl
  refine ⟨?_, fun hb => ?_⟩
  ·have g := (ih (j + 1) (by omega) (acc ++ [at_ l j]) (by simp; omega)).1
   rw [List.append_assoc] at g
   refine Ev.step (fun k => ?_) g
   simp only [spec_l02Insert.l0, rd_at, if_true]
   rw [if_pos (by omega), if_pos (by omega), if_pos (by omega), ej]
  ·by_cases c : ltC ⟨x, y⟩ (at_ l j)
   ·have c' : ltC ⟨x, y⟩ ⟨(at_ l j).f0, (at_ l j).f1⟩ := c
    have g := (ih (j + 1) (by omega) ((acc ++ [⟨x, y⟩]) ++ [at_ l j]) (by simp; omega)).1
    unfold insP
    rw [if_pos c]
    rw [List.append_assoc, List.append_assoc] at g
    refine Ev.step (fun k => ?_) g
    simp only [spec_l02Insert.l0, rd_at, less_eq, Option.bind_some, Bool.false_eq_true, if_false, decide_eq_true c', if_true]
    rw [if_pos (by omega), if_pos (by omega), if_pos (by omega), if_pos (by simp; omega), ej, List.append_assoc]
   ·have c' : ¬ ltC ⟨x, y⟩ ⟨(at_ l j).f0, (at_ l j).f1⟩ := c
    have g := (ih (j + 1) (by omega) (acc ++ [at_ l j]) (by simp; omega)).2 (by simp; omega)
    unfold insP
    rw [if_neg c]
    rw [List.append_assoc] at g
    refine Ev.step (fun k => ?_) g
    simp only [spec_l02Insert.l0, rd_at, less_eq, Option.bind_some, Bool.false_eq_true, if_false, decide_eq_false c']
    rw [if_pos (by omega), if_pos (by omega), if_pos (by omega), ej]
theorem specIns_ev (l : List C) (x y : Int) (hl : l.length ≤ 1048576) : Ev (fun k => spec_l02Insert.f k l x y) (insP ⟨x, y⟩ l) :=
 (ins_loop l x y hl l.length 0 (by omega) [] (by simp)).2 (by simp)
theorem specSort_ev (l : List C) (hl : l.length ≤ 1048570) : Ev (fun k => spec_l02Sort.f k l) (sortP l) := by
 unfold spec_l02Sort.f
 refine ev_foldE (fun k s j => spec_l02Sort.l0 k l s j) l (fun s c => insP c s) (fun j s => s.length = j) ?_ _ 0 (by omega) [] rfl ?_
 ·intro s j hj hm hs
  refine ⟨by rw [insP_length]; omega, fun r hr => ?_⟩
  refine Ev.step (f := fun k => (spec_l02Insert.f k s (at_ l j).f0 (at_ l j).f1).bind fun t => spec_l02Sort.l0 k l t ((j + 1 : Nat) : Int)) (fun k => ?_) ?_
  ·simp only [spec_l02Sort.l0, rd_at]; rw [if_pos (by omega), if_pos (by omega), w64 (by omega) (by omega)]; rfl
  ·exact Ev.bind (f := fun k t => spec_l02Sort.l0 k l t ((j + 1 : Nat) : Int)) (specIns_ev s _ _ (by omega)) hr
 ·intro hs
  refine Ev.step (fun k => ?_) (Ev.now _)
  simp only [spec_l02Sort.l0]; rw [if_neg (by omega)]; rfl
theorem least_ev (l : List C) (h : 0 < l.length) (hl : l.length ≤ 1048576) : Ev (fun k => spec_l02Least.f k l) (lo l) := by
 unfold spec_l02Least.f
 simp only [if_pos (show 0 < (l.length : Int) by omega)]
 have e0 : rd_T55 l 0 = at_ l 0 := rd_at l 0
 rw [e0]
 refine ev_fold (fun k (s : Int × Int) j => spec_l02Least.l0 k l s.1 s.2 j) l (fun s c => (mn s.1 c.f0, mn s.2 c.f1)) some _ (fun _ _ => True) ?_ ?_ 1 (by omega) ((at_ l 0).f0, (at_ l 0).f1) trivial ?_
 ·intro k s j hj hm _
  refine ⟨?_, trivial⟩
  simp only [spec_l02Least.l0, rd_at]; rw [if_pos (by omega), if_pos (by omega), w64 (x := (j : Int) + 1) (by omega) (by omega)]; rfl
 ·intro k s _
  simp only [spec_l02Least.l0]; rw [if_neg (by omega)]
 ·rw [foldl_pair (fun s c => mn s c.f0) (fun s c => mn s c.f1), lo_drop l h]; rfl
theorem specMove_ev (l : List C) (a b : Int) (hl : l.length ≤ 1048576) : Ev (fun k => spec_l02Move.f k l a b) (movL a b l) := by
 unfold spec_l02Move.f
 refine ev_fold (fun k (s : List C) j => spec_l02Move.l0 k l a b s j) l (fun s c => s ++ [movC a b c]) some _ (fun j s => s.length = j) ?_ ?_ 0 (by omega) [] rfl ?_
 ·intro k s j hj hm hs
  refine ⟨?_, by simp [hs]⟩
  simp only [spec_l02Move.l0, rd_at]; rw [if_pos (by omega), if_pos (by omega), if_pos (by omega), w64 (x := (j : Int) + 1) (by omega) (by omega)]; rfl
 ·intro k s _
  simp only [spec_l02Move.l0]; rw [if_neg (by omega)]
 ·rw [List.drop_zero, foldl_append_map]; rfl
theorem specNorm_ev (l : List C) (h : 0 < l.length) (hl : l.length ≤ 1048576) : Ev (fun k => spec_l02Normal.f k l) (normL l) := by
 obtain ⟨K, h1, h2⟩ := ev2 (least_ev l h hl) (specMove_ev l (wrap64 (-(lo l).1)) (wrap64 (-(lo l).2)) hl)
 refine ⟨K, fun k hk => ?_⟩
 obtain ⟨n, rfl⟩ : ∃ n, k = K + n := ⟨k - K, by omega⟩
 simp only [spec_l02Normal.f, h1, h2, Option.bind_some]; rfl
theorem sturn_loop : ∀ n : Nat, n < 4 → ∀ x y : Int, Ev (fun k => spec_l03Turn.l0 k (n : Nat) x y) (rotN n x y) := by
 intro n
 induction n with
 | zero =>
  intro _ x y
  refine Ev.step (fun k => ?_) (Ev.now _)
  simp only [spec_l03Turn.l0, rotN]; rw [if_neg (by omega)]
 | succ n ih =>
  intro h x y
  refine Ev.step (fun k => ?_) (ih (by omega) (wrap64 (-y)) x)
  simp only [spec_l03Turn.l0]
  rw [if_pos (by omega), w64 (x := ((n + 1 : Nat) : Int) - 1) (by omega) (by omega), show ((n + 1 : Nat) : Int) - 1 = (n : Nat) from by omega]
theorem sturn_ev (t x y : Int) (ht : 0 ≤ t) : Ev (fun k => spec_l03Turn.f k x y t) (trn t x y) := by
 have h4 := tmod4 t ht
 have e : Int.tmod t 4 = ((Int.tmod t 4).toNat : Nat) := by omega
 unfold spec_l03Turn.f trn
 by_cases h : t ≥ 4
 ·simp only [if_pos h]
  refine Ev.step (f := fun k => spec_l03Turn.l0 k (Int.tmod t 4) (wrap64 (-x)) y) (fun k => by simp only [spec_l03Turn.j0]) ?_
  have g := sturn_loop (Int.tmod t 4).toNat (by omega) (wrap64 (-x)) y
  rw [← e] at g; exact g
 ·simp only [if_neg h]
  refine Ev.step (f := fun k => spec_l03Turn.l0 k (Int.tmod t 4) x y) (fun k => by simp only [spec_l03Turn.j0]) ?_
  have g := sturn_loop (Int.tmod t 4).toNat (by omega) x y
  rw [← e] at g; exact g
theorem sform_ev (l : List C) (t : Int) (ht : 0 ≤ t) (h0 : 0 < l.length) (hl : l.length ≤ 1048570) : Ev (fun k => spec_l03Form.f k l t) (formP l t) := by
 unfold spec_l03Form.f
 refine ev_foldE (fun k s j => spec_l03Form.l0 k l t s j) l (fun s c => s ++ [trC t c]) (fun j s => s.length = j) ?_ _ 0 (by omega) [] rfl ?_
 ·intro s j hj hm hs
  refine ⟨by simp [hs], fun r hr => ?_⟩
  refine Ev.step (f := fun k => (spec_l03Turn.f k (at_ l j).f0 (at_ l j).f1 t).bind fun bt => spec_l03Form.l0 k l t (s ++ [⟨bt.1, bt.2⟩]) ((j + 1 : Nat) : Int)) (fun k => ?_) ?_
  ·simp only [spec_l03Form.l0, rd_at]; rw [if_pos (by omega), if_pos (by omega), w64 (x := (j : Int) + 1) (by omega) (by omega)]
   congr 1; funext bt; rw [if_pos (by omega)]; rfl
  ·exact Ev.bind (f := fun k (bt : Int × Int) => spec_l03Form.l0 k l t (s ++ [⟨bt.1, bt.2⟩]) ((j + 1 : Nat) : Int)) (sturn_ev t _ _ ht) hr
 ·intro hs
  rw [List.drop_zero, foldl_append_map, List.nil_append]
  refine Ev.step (f := fun k => (spec_l02Sort.f k (l.map (trC t))).bind fun t848 => ((spec_l02Normal.f k t848).bind fun t851 => (some t851))) (fun k => ?_) ?_
  ·simp only [spec_l03Form.l0]; rw [if_neg (by omega)]
  ·refine Ev.bind (f := fun k t848 => ((spec_l02Normal.f k t848).bind fun t851 => (some t851))) (specSort_ev _ (by rw [List.length_map]; omega)) ?_
   exact Ev.bind (f := fun k t851 => some t851) (specNorm_ev _ (by rw [sortP_length, List.length_map]; omega) (by rw [sortP_length, List.length_map]; omega)) (Ev.now _)
noncomputable def codeP (l : List C) : Int := if shB l = true then (if shB (normL l) = true then 0 else 3) else 1
theorem scode_ev (l : List C) (hl : l.length ≤ 1048576) : Ev (fun k => spec_l03Code.f k l) (codeP l) := by
 unfold spec_l03Code.f codeP
 rcases sh_cases l with ⟨hs, hb⟩ | ⟨hs, hb⟩
 ·refine Ev.bind (f := fun k t => if t = true then ((spec_l02Normal.f k l).bind fun t540 => ((spec_IsShape.f k t540).bind fun t543 => (if t543 = true then (some 0) else (some 3)))) else (some 1)) (specShape_ev l hl) ?_
  simp only [hb, if_true]
  refine Ev.bind (f := fun k t540 => ((spec_IsShape.f k t540).bind fun t543 => (if t543 = true then (some 0) else (some 3)))) (specNorm_ev l hs.1 hl) ?_
  refine Ev.bind (f := fun k t543 => (if t543 = true then (some (0 : Int)) else (some 3))) (specShape_ev (normL l) (by rw [normL_length]; exact hl)) ?_
  cases shB (normL l) <;> exact Ev.now _
 ·refine Ev.bind (f := fun k t => if t = true then ((spec_l02Normal.f k l).bind fun t540 => ((spec_IsShape.f k t540).bind fun t543 => (if t543 = true then (some 0) else (some 3)))) else (some 1)) (specShape_ev l hl) ?_
  simp only [hb, Bool.false_eq_true, if_false]; exact Ev.now _
theorem codeP_cases (l : List C) : (¬ Sh l ∧ shB l = false ∧ codeP l = 1) ∨ (Sh l ∧ shB l = true ∧ codeP l = 0) ∨ (Sh l ∧ shB l = true ∧ codeP l = 3) := by
 unfold codeP
 rcases sh_cases l with ⟨hs, hb⟩ | ⟨hs, hb⟩
 ·rw [hb]
  cases shB (normL l)
  ·exact Or.inr (Or.inr ⟨hs, rfl, rfl⟩)
  ·exact Or.inr (Or.inl ⟨hs, rfl, rfl⟩)
 ·rw [hb]; exact Or.inl ⟨hs, rfl, rfl⟩
theorem merge_sortP (l : List C) : l.mergeSort (fun x y => !ltbC_ y x) = sortP l := by
 have e : (fun x y : C => !ltbC_ y x) = fun x y => @decide (leC x y) (Classical.propDecidable _) := by
  funext x y
  by_cases h : ltC y x
  ·have h1 : ltbC_ y x = true := by unfold ltbC_; exact decide_eq_true h
   rw [h1]; exact (@decide_eq_false (leC x y) (Classical.propDecidable _) (fun g => g h)).symm
  ·have h1 : ltbC_ y x = false := by unfold ltbC_; exact decide_eq_false h
   rw [h1]; exact (@decide_eq_true (leC x y) (Classical.propDecidable _) h).symm
 refine sorted_unique ?_ (sortP_sorted l) ((List.mergeSort_perm _ _).trans (sortP_perm l).symm)
 rw [e]
 have h := List.pairwise_mergeSort (le := fun x y : C => @decide (leC x y) (Classical.propDecidable _)) (fun a b c h1 h2 => @decide_eq_true _ (Classical.propDecidable _) (leC_trans (@of_decide_eq_true _ (Classical.propDecidable _) h1) (@of_decide_eq_true _ (Classical.propDecidable _) h2)))
  (fun a b => by
   rcases leC_total a b with g | g
   ·rw [@decide_eq_true _ (Classical.propDecidable _) g]; rfl
   ·rw [@decide_eq_true _ (Classical.propDecidable (leC b a)) g, Bool.or_true]) l
 exact h.imp fun g => @of_decide_eq_true _ (Classical.propDecidable _) g
theorem implSort_eq (l : List C) (hl : l.length ≤ 1048576) : impl_sorted.f l = some (sortP l) := by
 unfold impl_sorted.f slices_Clone_Cell.f
 rw [if_pos (by omega)]
 simp only [Option.bind_some, slices_SortFunc_Cell.f]
 rw [if_pos (by omega), Option.bind_some, merge_sortP]
theorem corner_ev (l : List C) (h : 0 < l.length) (hl : l.length ≤ 1048576) : Ev (fun k => impl_corner.f k l) (lo l) := by
 unfold impl_corner.f
 simp only [if_pos (show 0 < (l.length : Int) by omega)]
 have e0 : rd_T55 l 0 = at_ l 0 := rd_at l 0
 rw [e0]
 refine ev_fold (fun k (s : Int × Int) j => impl_corner.l0 k l (l.length : Int) j s.1 s.2) l (fun s c => (mn s.1 c.f0, mn s.2 c.f1)) some _ (fun _ _ => True) ?_ ?_ 0 (by omega) ((at_ l 0).f0, (at_ l 0).f1) trivial ?_
 ·intro k s j hj hm _
  refine ⟨?_, trivial⟩
  simp only [impl_corner.l0, rd_at]; rw [if_pos (by omega), if_pos (by omega), if_pos (by omega), w64 (x := (j : Int) + 1) (by omega) (by omega)]; rfl
 ·intro k s _
  simp only [impl_corner.l0]; rw [if_neg (by omega)]
 ·rw [List.drop_zero, foldl_pair (fun s c => mn s c.f0) (fun s c => mn s c.f1)]; rfl
theorem implMove_ev (l : List C) (a b : Int) (hl : l.length ≤ 1048576) : Ev (fun k => impl_moved.f k l a b) (movL a b l) := by
 unfold impl_moved.f
 simp only [if_pos (show 0 ≤ (l.length : Int) by omega), if_pos (show ((l.length : Int)).toNat ≤ 17592186044416 by omega)]
 refine ev_fold (fun k (s : List C) j => impl_moved.l0 k a b s l (l.length : Int) j) l (fun s c => s ++ [movC a b c]) some _ (fun j s => s.length = j) ?_ ?_ 0 (by omega) [] rfl ?_
 ·intro k s j hj hm hs
  refine ⟨?_, by simp [hs]⟩
  simp only [impl_moved.l0, rd_at]; rw [if_pos (by omega), if_pos (by omega), if_pos (by omega), if_pos (by omega), w64 (x := (j : Int) + 1) (by omega) (by omega)]; rfl
 ·intro k s _
  simp only [impl_moved.l0]; rw [if_neg (by omega)]
 ·rw [List.drop_zero, foldl_append_map]; rfl
theorem implNorm_ev (l : List C) (h : 0 < l.length) (hl : l.length ≤ 1048576) : Ev (fun k => impl_normal.f k l) (normL l) := by
 obtain ⟨K, h1, h2⟩ := ev2 (corner_ev l h hl) (implMove_ev l (wrap64 (-(lo l).1)) (wrap64 (-(lo l).2)) hl)
 refine ⟨K, fun k hk => ?_⟩
 obtain ⟨n, rfl⟩ : ∃ n, k = K + n := ⟨k - K, by omega⟩
 simp only [impl_normal.f, h1, h2, Option.bind_some]; rfl
theorem iturn_loop (n : Nat) (hn : n < 4) : ∀ d j : Nat, j + d = n → ∀ x y : Int, Ev (fun k => impl_turnCell.l0 k (n : Nat) (j : Nat) x y) (rotN d x y) := by
 intro d
 induction d with
 | zero =>
  intro j hj x y
  refine Ev.step (fun k => ?_) (Ev.now _)
  simp only [impl_turnCell.l0, rotN]; rw [if_neg (by omega)]
 | succ d ih =>
  intro j hj x y
  refine Ev.step (fun k => ?_) (ih (j + 1) (by omega) (wrap64 (-y)) x)
  simp only [impl_turnCell.l0]
  rw [if_pos (by omega), w64 (x := (j : Int) + 1) (by omega) (by omega)]; rfl
theorem iturn_ev (t x y : Int) (ht : 0 ≤ t) : Ev (fun k => impl_turnCell.f k x y t) (trn t x y) := by
 have h4 := tmod4 t ht
 have e : Int.tmod t 4 = ((Int.tmod t 4).toNat : Nat) := by omega
 unfold impl_turnCell.f trn
 by_cases h : t ≥ 4
 ·simp only [if_pos h]
  refine Ev.step (f := fun k => impl_turnCell.l0 k (Int.tmod t 4) 0 (wrap64 (-x)) y) (fun k => by simp only [impl_turnCell.j0]) ?_
  have g := iturn_loop (Int.tmod t 4).toNat (by omega) (Int.tmod t 4).toNat 0 (by omega) (wrap64 (-x)) y
  rw [← e] at g; exact g
 ·simp only [if_neg h]
  refine Ev.step (f := fun k => impl_turnCell.l0 k (Int.tmod t 4) 0 x y) (fun k => by simp only [impl_turnCell.j0]) ?_
  have g := iturn_loop (Int.tmod t 4).toNat (by omega) (Int.tmod t 4).toNat 0 (by omega) x y
  rw [← e] at g; exact g
theorem iform_ev (l : List C) (t : Int) (ht : 0 ≤ t) (h0 : 0 < l.length) (hl : l.length ≤ 1048570) : Ev (fun k => impl_form.f k l t) (formP l t) := by
 unfold impl_form.f
 simp only [if_pos (show 0 ≤ (l.length : Int) by omega), if_pos (show ((l.length : Int)).toNat ≤ 17592186044416 by omega)]
 refine ev_foldE (fun k s j => impl_form.l0 k t s l (l.length : Int) j) l (fun s c => s ++ [trC t c]) (fun j s => s.length = j) ?_ _ 0 (by omega) [] rfl ?_
 ·intro s j hj hm hs
  refine ⟨by simp [hs], fun r hr => ?_⟩
  refine Ev.step (f := fun k => (impl_turnCell.f k (at_ l j).f0 (at_ l j).f1 t).bind fun bt => impl_form.l0 k t (s ++ [⟨bt.1, bt.2⟩]) l (l.length : Int) ((j + 1 : Nat) : Int)) (fun k => ?_) ?_
  ·simp only [impl_form.l0, rd_at]; rw [if_pos (by omega), if_pos (by omega), if_pos (by omega), w64 (x := (j : Int) + 1) (by omega) (by omega)]
   congr 1; funext bt; rw [if_pos (by omega)]; rfl
  ·exact Ev.bind (f := fun k (bt : Int × Int) => impl_form.l0 k t (s ++ [⟨bt.1, bt.2⟩]) l (l.length : Int) ((j + 1 : Nat) : Int)) (iturn_ev t _ _ ht) hr
 ·intro hs
  rw [List.drop_zero, foldl_append_map, List.nil_append]
  refine Ev.step (f := fun k => (impl_normal.f k (sortP (l.map (trC t)))).bind fun t851 => (some t851)) (fun k => ?_) ?_
  ·simp only [impl_form.l0]; rw [if_neg (by omega), implSort_eq _ (by rw [List.length_map]; omega), Option.bind_some]
  ·exact Ev.bind (f := fun k t851 => some t851) (implNorm_ev _ (by rw [sortP_length, List.length_map]; omega) (by rw [sortP_length, List.length_map]; omega)) (Ev.now _)
theorem icode_ev (l : List C) (hl : l.length ≤ 1048576) : Ev (fun k => impl_shapeCode.f k l) (codeP l) := by
 unfold impl_shapeCode.f codeP
 rcases sh_cases l with ⟨hs, hb⟩ | ⟨hs, hb⟩
 ·refine Ev.bind (f := fun k t => if t = true then ((impl_normal.f k l).bind fun t540 => ((impl_IsShape.f k t540).bind fun t543 => (if t543 = true then (some 0) else (some 3)))) else (some 1)) (implShape_ev l hl) ?_
  simp only [hb, if_true]
  refine Ev.bind (f := fun k t540 => ((impl_IsShape.f k t540).bind fun t543 => (if t543 = true then (some 0) else (some 3)))) (implNorm_ev l hs.1 hl) ?_
  refine Ev.bind (f := fun k t543 => (if t543 = true then (some (0 : Int)) else (some 3))) (implShape_ev (normL l) (by rw [normL_length]; exact hl)) ?_
  cases shB (normL l) <;> exact Ev.now _
 ·refine Ev.bind (f := fun k t => if t = true then ((impl_normal.f k l).bind fun t540 => ((impl_IsShape.f k t540).bind fun t543 => (if t543 = true then (some 0) else (some 3)))) else (some 1)) (implShape_ev l hl) ?_
  simp only [hb, Bool.false_eq_true, if_false]; exact Ev.now _
def cmpL : List C → List C → Int
 | a :: r, b :: s => if ltC a b then -1 else if ltC b a then 1 else cmpL r s
 | _, _ => 0
def cmpS (l m : List C) : Int := if l.length = m.length then cmpL l m else if l.length < m.length then -1 else 1
theorem specCmp_loop (l m : List C) (hl : l.length ≤ 1048576) (hm : l.length = m.length) : ∀ d j : Nat, j + d = l.length → Ev (fun k => spec_CompareShapes.l0 k l m (j : Nat)) (cmpL (l.drop j) (m.drop j)) := by
 intro d
 induction d with
 | zero =>
  intro j hj
  obtain rfl : j = l.length := by omega
  rw [List.drop_length]
  refine Ev.step (fun k => ?_) (Ev.now _)
  simp only [spec_CompareShapes.l0, cmpL]; rw [if_neg (by omega)]
 | succ d ih =>
  intro j hj
  rw [drop_at l j (by omega), drop_at m j (by omega)]
  have e : ∀ k, spec_CompareShapes.l0 (k + 1) l m (j : Nat) = if ltC (at_ l j) (at_ m j) then some (-1) else if ltC (at_ m j) (at_ l j) then some 1 else spec_CompareShapes.l0 k l m ((j + 1 : Nat) : Int) := by
   intro k
   simp only [spec_CompareShapes.l0, rd_at, less_eq, Option.bind_some, decide_eq_true_eq]
   rw [if_pos (by omega), if_pos (by omega), if_pos (by omega), w64 (by omega) (by omega)]; rfl
  by_cases c1 : ltC (at_ l j) (at_ m j)
  ·refine Ev.step (fun k => (e k).trans (if_pos c1)) ?_
   simp only [cmpL, if_pos c1]; exact Ev.now _
  ·by_cases c2 : ltC (at_ m j) (at_ l j)
   ·refine Ev.step (fun k => (e k).trans ((if_neg c1).trans (if_pos c2))) ?_
    simp only [cmpL, if_neg c1, if_pos c2]; exact Ev.now _
   ·refine Ev.step (fun k => (e k).trans ((if_neg c1).trans (if_neg c2))) ?_
    simp only [cmpL, if_neg c1, if_neg c2]; exact ih (j + 1) (by omega)
theorem specCmp_ev (l m : List C) (hl : l.length ≤ 1048576) : Ev (fun k => spec_CompareShapes.f k l m) (cmpS l m) := by
 unfold spec_CompareShapes.f cmpS
 by_cases h : l.length = m.length
 ·simp only [if_pos h, if_pos (show (l.length : Int) = (m.length : Int) by omega)]
  exact specCmp_loop l m hl h l.length 0 (by omega)
 ·simp only [if_neg h, if_neg (show ¬ (l.length : Int) = (m.length : Int) by omega)]
  by_cases g : l.length < m.length
  ·simp only [if_pos g, if_pos (show (l.length : Int) < (m.length : Int) by omega)]; exact Ev.now _
  ·simp only [if_neg g, if_neg (show ¬ (l.length : Int) < (m.length : Int) by omega)]; exact Ev.now _
theorem cmpL_range (a : List C) : ∀ b, cmpL a b = -1 ∨ cmpL a b = 0 ∨ cmpL a b = 1 := by
 induction a with
 | nil => intro b; exact Or.inr (Or.inl rfl)
 | cons x r ih =>
  intro b
  cases b with
  | nil => exact Or.inr (Or.inl rfl)
  | cons y s =>
   simp only [cmpL]
   split
   ·exact Or.inl rfl
   ·split
    ·exact Or.inr (Or.inr rfl)
    ·exact ih s
theorem cmpL_zero (a : List C) : ∀ b, a.length = b.length → (cmpL a b = 0 ↔ a = b) := by
 induction a with
 | nil =>
  intro b h
  have : b = [] := List.length_eq_zero_iff.1 (by simpa using h.symm)
  rw [this]; exact ⟨fun _ => rfl, fun _ => rfl⟩
 | cons x r ih =>
  intro b h
  cases b with
  | nil => simp at h
  | cons y s =>
   simp only [cmpL]
   have hl : r.length = s.length := by simpa using h
   by_cases c1 : ltC x y
   ·rw [if_pos c1]
    exact ⟨fun g => by omega, fun g => by rw [(List.cons.inj g).1] at c1; exact absurd c1 (fun h => ltC_irrefl h)⟩
   ·rw [if_neg c1]
    by_cases c2 : ltC y x
    ·rw [if_pos c2]
     exact ⟨fun g => by omega, fun g => by rw [(List.cons.inj g).1] at c2; exact absurd c2 (fun h => ltC_irrefl h)⟩
    ·rw [if_neg c2, ih s hl]
     have e : x = y := leC_anti (show leC x y from c2) (show leC y x from c1)
     rw [e]
     exact ⟨fun g => by rw [g], fun g => (List.cons.inj g).2⟩
theorem cmpL_neg (a : List C) : ∀ b, cmpL b a = -cmpL a b := by
 induction a with
 | nil => intro b; cases b <;> rfl
 | cons x r ih =>
  intro b
  cases b with
  | nil => rfl
  | cons y s =>
   simp only [cmpL]
   by_cases c1 : ltC x y
   ·have c2 : ¬ ltC y x := fun g => ltC_irrefl (ltC_trans c1 g)
    rw [if_pos c1, if_neg c2, if_pos c1]; rfl
   ·rw [if_neg c1]
    by_cases c2 : ltC y x
    ·rw [if_pos c2, if_neg c1, if_pos c2]
    ·rw [if_neg c2, if_neg c2, if_neg c1]; exact ih s
theorem cmpL_trans (a : List C) : ∀ b c, a.length = b.length → b.length = c.length → cmpL a b = -1 → cmpL b c = -1 → cmpL a c = -1 := by
 induction a with
 | nil => intro b c _ _ h; simp [cmpL] at h
 | cons x r ih =>
  intro b c h1 h2 g1 g2
  cases b with
  | nil => simp at h1
  | cons y s =>
   cases c with
   | nil => simp at h2
   | cons z t =>
    simp only [cmpL] at g1 g2 ⊢
    by_cases c1 : ltC x y
    ·by_cases c2 : ltC y z
     ·rw [if_pos (ltC_trans c1 c2)]
     ·rw [if_neg c2] at g2
      by_cases c3 : ltC z y
      ·rw [if_pos c3] at g2; omega
      ·have e : y = z := leC_anti (show leC y z from c3) (show leC z y from c2)
       rw [← e, if_pos c1]
    ·rw [if_neg c1] at g1
     by_cases c3 : ltC y x
     ·rw [if_pos c3] at g1; omega
     ·have e : x = y := leC_anti (show leC x y from c3) (show leC y x from c1)
      rw [if_neg c3] at g1
      rw [e]
      by_cases c2 : ltC y z
      ·rw [if_pos c2]
      ·rw [if_neg c2] at g2 ⊢
       by_cases c4 : ltC z y
       ·rw [if_pos c4] at g2; omega
       ·rw [if_neg c4] at g2 ⊢
        exact ih s t (by simpa using h1) (by simpa using h2) g1 g2
theorem cmpS_range (a b : List C) : cmpS a b = -1 ∨ cmpS a b = 0 ∨ cmpS a b = 1 := by
 unfold cmpS
 split
 ·exact cmpL_range a b
 ·split
  ·exact Or.inl rfl
  ·exact Or.inr (Or.inr rfl)
theorem cmpS_zero (a b : List C) : cmpS a b = 0 ↔ a = b := by
 unfold cmpS
 by_cases h : a.length = b.length
 ·rw [if_pos h]; exact cmpL_zero a b h
 ·rw [if_neg h]
  refine ⟨fun g => ?_, fun g => absurd (by rw [g]) h⟩
  split at g <;> omega
theorem cmpS_neg (a b : List C) : cmpS b a = -cmpS a b := by
 unfold cmpS
 by_cases h : a.length = b.length
 ·rw [if_pos h, if_pos h.symm]; exact cmpL_neg a b
 ·rw [if_neg h, if_neg (fun g => h g.symm)]
  by_cases g : a.length < b.length
  ·rw [if_pos g, if_neg (by omega)]; rfl
  ·rw [if_neg g, if_pos (by omega)]
def ltS (a b : List C) : Prop := cmpS a b = -1
theorem ltS_trans {a b c : List C} (h : ltS a b) (g : ltS b c) : ltS a c := by
 unfold ltS cmpS at *
 by_cases h1 : a.length = b.length
 ·by_cases h2 : b.length = c.length
  ·rw [if_pos h1] at h; rw [if_pos h2] at g; rw [if_pos (h1.trans h2)]
   exact cmpL_trans a b c h1 h2 h g
  ·rw [if_neg h2] at g
   rw [if_neg (by omega)]
   by_cases g2 : b.length < c.length
   ·rw [if_pos (by omega)]
   ·rw [if_neg g2] at g; omega
 ·rw [if_neg h1] at h
  by_cases g1 : a.length < b.length
  ·by_cases h2 : b.length = c.length
   ·rw [if_neg (by omega), if_pos (by omega)]
   ·rw [if_neg h2] at g
    by_cases g2 : b.length < c.length
    ·rw [if_neg (by omega), if_pos (by omega)]
    ·rw [if_neg g2] at g; omega
  ·rw [if_neg g1] at h; omega
theorem ltS_irrefl {a : List C} (h : ltS a a) : False := by
 unfold ltS at h
 rw [(cmpS_zero a a).2 rfl] at h; omega
theorem ltS_tri (a b : List C) : ltS a b ∨ a = b ∨ ltS b a := by
 rcases cmpS_range a b with h | h | h
 ·exact Or.inl h
 ·exact Or.inr (Or.inl ((cmpS_zero a b).1 h))
 ·refine Or.inr (Or.inr ?_)
  unfold ltS; rw [cmpS_neg, h]
theorem cmpS_pos (a b : List C) : cmpS a b = 1 ↔ ltS b a := by
 unfold ltS; rw [cmpS_neg a b]; omega
-- USES Base Cell In Shape ShUse
theorem codeP_sh {l : List C} (h : codeP l = 0) : Sh l := by
 rcases codeP_cases l with ⟨_, _, hc⟩ | ⟨hs, _, _⟩ | ⟨hs, _, _⟩
 ·omega
 ·exact hs
 ·exact hs
def ro_ (l : List (List C)) (j : Nat) : List C := l.getD j []
theorem rd_ro (l : List (List C)) (j : Nat) : rd_L3 l (j : Int) = ro_ l j := by unfold rd_L3 ro_; rw [Int.toNat_natCast]
theorem ro_get (l : List (List C)) (j : Nat) (h : j < l.length) : ro_ l j = l[j] := by unfold ro_; rw [List.getD_eq_getElem?_getD, List.getElem?_eq_getElem h]; rfl
theorem ro_mem (l : List (List C)) (j : Nat) (h : j < l.length) : ro_ l j ∈ l := by rw [ro_get l j h]; exact List.getElem_mem h
theorem drop_ro (l : List (List C)) (j : Nat) (h : j < l.length) : l.drop j = ro_ l j :: l.drop (j + 1) := by rw [ro_get l j h, List.drop_eq_getElem_cons h]
theorem take_ro (l : List (List C)) (j : Nat) (h : j < l.length) : l.take (j + 1) = l.take j ++ [ro_ l j] := by rw [ro_get l j h, List.take_succ_eq_append_getElem h]
def insS (s : List C) : List (List C) → List (List C)
 | [] => [s]
 | x :: r => if cmpS s x = 0 then x :: r else if cmpS s x < 0 then s :: x :: r else x :: insS s r
theorem insS_mem (s t : List C) (l : List (List C)) : t ∈ insS s l ↔ t = s ∨ t ∈ l := by
 induction l with
 | nil => simp [insS]
 | cons x r ih =>
  unfold insS
  by_cases h : cmpS s x = 0
  ·rw [if_pos h]
   have e := (cmpS_zero s x).1 h
   constructor
   ·exact fun g => Or.inr g
   ·rintro (g | g)
    ·rw [g, e]; exact List.mem_cons_self
    ·exact g
  ·rw [if_neg h]
   by_cases g : cmpS s x < 0
   ·rw [if_pos g, List.mem_cons]
   ·rw [if_neg g, List.mem_cons, ih, List.mem_cons]
    constructor
    ·rintro (a | a | a)
     ·exact Or.inr (Or.inl a)
     ·exact Or.inl a
     ·exact Or.inr (Or.inr a)
    ·rintro (a | a | a)
     ·exact Or.inr (Or.inl a)
     ·exact Or.inl a
     ·exact Or.inr (Or.inr a)
theorem cmpS_neg_lt {a b : List C} (h : cmpS a b < 0) : ltS a b := by
 unfold ltS; rcases cmpS_range a b with g | g | g <;> omega
theorem insS_sorted (s : List C) (l : List (List C)) (h : l.Pairwise ltS) : (insS s l).Pairwise ltS := by
 induction l with
 | nil => exact List.pairwise_singleton _ _
 | cons x r ih =>
  obtain ⟨h1, h2⟩ := List.pairwise_cons.1 h
  unfold insS
  by_cases c : cmpS s x = 0
  ·rw [if_pos c]; exact h
  ·rw [if_neg c]
   by_cases g : cmpS s x < 0
   ·rw [if_pos g]
    refine List.pairwise_cons.2 ⟨fun t ht => ?_, h⟩
    have e := cmpS_neg_lt g
    rcases List.mem_cons.1 ht with rfl | ht
    ·exact e
    ·exact ltS_trans e (h1 t ht)
   ·rw [if_neg g]
    refine List.pairwise_cons.2 ⟨fun t ht => ?_, ih h2⟩
    rcases (insS_mem s t r).1 ht with rfl | ht
    ·exact (cmpS_pos t x).1 (by rcases cmpS_range t x with g1 | g1 | g1 <;> omega)
    ·exact h1 t ht
theorem insS_length (s : List C) (l : List (List C)) : (insS s l).length ≤ l.length + 1 := by
 induction l with
 | nil => simp [insS]
 | cons x r ih =>
  unfold insS
  repeat' split
  all_goals simp only [List.length_cons]; omega
theorem add_done (l : List (List C)) (s : List C) (hl : l.length ≤ 1000000) (hs : s.length ≤ 1048576) : ∀ d j : Nat, j + d = l.length → (∀ x ∈ l.drop j, ltS s x) → ∀ out : List (List C), out.length ≤ j + 1 → Ev (fun k => spec_l03Add.l0 k l s out true (j : Nat)) (out ++ l.drop j) := by
 intro d
 induction d with
 | zero =>
  intro j hj _ out ho
  obtain rfl : j = l.length := by omega
  rw [List.drop_length, List.append_nil]
  refine Ev.step (fun k => ?_) (Ev.now _)
  simp only [spec_l03Add.l0]; rw [if_neg (by omega), if_pos trivial]
 | succ d ih =>
  intro j hj hx out ho
  rw [drop_ro l j (by omega)] at hx ⊢
  have e1 := hx _ List.mem_cons_self
  unfold ltS at e1
  have g := ih (j + 1) (by omega) (fun x h => hx x (List.mem_cons_of_mem _ h)) (out ++ [ro_ l j]) (by rw [List.length_append, List.length_singleton]; omega)
  rw [List.append_assoc] at g
  refine Ev.step (f := fun k => (spec_CompareShapes.f k s (ro_ l j)).bind fun t => if t = 0 then some l else if t < 0 then spec_l03Add.l0 k l s (out ++ [ro_ l j]) true ((j + 1 : Nat) : Int) else spec_l03Add.l0 k l s (out ++ [ro_ l j]) true ((j + 1 : Nat) : Int)) (fun k => ?_) ?_
  ·simp only [spec_l03Add.l0, rd_ro, if_true]
   rw [if_pos (by omega), if_pos (by omega), if_pos (by omega), w64 (by omega) (by omega)]; rfl
  ·refine Ev.bind (f := fun k t => if t = 0 then some l else if t < 0 then spec_l03Add.l0 k l s (out ++ [ro_ l j]) true ((j + 1 : Nat) : Int) else spec_l03Add.l0 k l s (out ++ [ro_ l j]) true ((j + 1 : Nat) : Int)) (specCmp_ev s (ro_ l j) hs) ?_
   rw [e1]; simp only [if_neg (show ¬ (-1 : Int) = 0 by decide), if_pos (show (-1 : Int) < 0 by decide)]
   exact g
theorem add_open (l : List (List C)) (s : List C) (hp : l.Pairwise ltS) (hl : l.length ≤ 1000000) (hs : s.length ≤ 1048576) : ∀ d j : Nat, j + d = l.length → Ev (fun k => spec_l03Add.l0 k l s (l.take j) false (j : Nat)) (l.take j ++ insS s (l.drop j)) := by
 intro d
 induction d with
 | zero =>
  intro j hj
  obtain rfl : j = l.length := by omega
  rw [List.drop_length, List.take_length]
  refine Ev.step (fun k => ?_) (Ev.now _)
  simp only [spec_l03Add.l0, Bool.false_eq_true, if_false]; rw [if_neg (by omega), if_pos (by omega)]; rfl
 | succ d ih =>
  intro j hj
  have hd := drop_ro l j (by omega)
  have ht := take_ro l j (by omega)
  have hlt : (l.take j).length = j := by rw [List.length_take]; omega
  have hsrt := hp.sublist (List.drop_sublist j l)
  rw [hd] at hsrt ⊢
  obtain ⟨s1, s2⟩ := List.pairwise_cons.1 hsrt
  refine Ev.step (f := fun k => (spec_CompareShapes.f k s (ro_ l j)).bind fun t => if t = 0 then some l else if t < 0 then spec_l03Add.l0 k l s ((l.take j ++ [s]) ++ [ro_ l j]) true ((j + 1 : Nat) : Int) else spec_l03Add.l0 k l s (l.take (j + 1)) false ((j + 1 : Nat) : Int)) (fun k => ?_) ?_
  ·simp only [spec_l03Add.l0, rd_ro, Bool.false_eq_true, if_false, Option.bind_some]
   rw [if_pos (by omega), if_pos (by omega), if_pos (by omega), if_pos (by rw [List.length_append, List.length_singleton]; omega), if_pos (show (l.take j).length < 5864062014805 by omega), w64 (by omega) (by omega), ht]; rfl
  ·refine Ev.bind (f := fun k t => if t = 0 then some l else if t < 0 then spec_l03Add.l0 k l s ((l.take j ++ [s]) ++ [ro_ l j]) true ((j + 1 : Nat) : Int) else spec_l03Add.l0 k l s (l.take (j + 1)) false ((j + 1 : Nat) : Int)) (specCmp_ev s (ro_ l j) hs) ?_
   unfold insS
   by_cases c : cmpS s (ro_ l j) = 0
   ·simp only [if_pos c]
    rw [← hd, List.take_append_drop]; exact Ev.now _
   ·simp only [if_neg c]
    by_cases g : cmpS s (ro_ l j) < 0
    ·simp only [if_pos g]
     have h := add_done l s hl hs d (j + 1) (by omega) (fun x hx => ltS_trans (cmpS_neg_lt g) (s1 x hx)) ((l.take j ++ [s]) ++ [ro_ l j]) (by simp only [List.length_append, List.length_singleton, hlt]; omega)
     have e : l.take j ++ [s] ++ [ro_ l j] ++ l.drop (j + 1) = l.take j ++ s :: ro_ l j :: l.drop (j + 1) := by simp
     rw [e] at h; exact h
    ·simp only [if_neg g]
     have h := ih (j + 1) (by omega)
     rw [ht] at h ⊢
     have e : l.take j ++ [ro_ l j] ++ insS s (l.drop (j + 1)) = l.take j ++ ro_ l j :: insS s (l.drop (j + 1)) := by simp
     rw [e] at h; exact h
theorem add_ev (l : List (List C)) (s : List C) (hp : l.Pairwise ltS) (hl : l.length ≤ 1000000) (hs : s.length ≤ 1048576) : Ev (fun k => spec_l03Add.f k l s) (insS s l) := by
 have h := add_open l s hp hl hs l.length 0 (by omega)
 rw [List.take_zero, List.drop_zero, List.nil_append] at h
 exact h
def tidyP (l : List (List C)) : List (List C) := l.foldl (fun a s => insS s a) []
theorem tidyP_snoc (l : List (List C)) (s : List C) : tidyP (l ++ [s]) = insS s (tidyP l) := by unfold tidyP; rw [List.foldl_append]; rfl
theorem foldl_ins (l : List (List C)) : ∀ a : List (List C), a.Pairwise ltS → (l.foldl (fun a s => insS s a) a).Pairwise ltS ∧ (∀ t, t ∈ l.foldl (fun a s => insS s a) a ↔ t ∈ a ∨ t ∈ l) ∧ (l.foldl (fun a s => insS s a) a).length ≤ a.length + l.length := by
 induction l with
 | nil => intro a h; exact ⟨h, fun t => by simp, by simp⟩
 | cons s r ih =>
  intro a h
  obtain ⟨h1, h2, h3⟩ := ih (insS s a) (insS_sorted s a h)
  refine ⟨h1, fun t => ?_, ?_⟩
  ·rw [List.foldl_cons, h2, insS_mem, List.mem_cons]
   constructor
   ·rintro ((h | h) | h)
    ·exact Or.inr (Or.inl h)
    ·exact Or.inl h
    ·exact Or.inr (Or.inr h)
   ·rintro (h | h | h)
    ·exact Or.inl (Or.inr h)
    ·exact Or.inl (Or.inl h)
    ·exact Or.inr h
  ·have := insS_length s a
   rw [List.foldl_cons, List.length_cons]; omega
theorem tidyP_sorted (l : List (List C)) : (tidyP l).Pairwise ltS := (foldl_ins l [] List.Pairwise.nil).1
theorem tidyP_mem (l : List (List C)) (t : List C) : t ∈ tidyP l ↔ t ∈ l := by
 refine ((foldl_ins l [] List.Pairwise.nil).2.1 t).trans ?_
 simp
theorem tidyP_length (l : List (List C)) : (tidyP l).length ≤ l.length := by
 have h := (foldl_ins l [] List.Pairwise.nil).2.2
 rw [List.length_nil, Nat.zero_add] at h; exact h
theorem cfL_cmpL (a : List C) : ∀ b : List C, cfL_ a b = cmpL a b := by
 induction a with
 | nil => intro b; cases b <;> rfl
 | cons x r ih =>
  intro b
  cases b with
  | nil => rfl
  | cons y s =>
   have e1 : ltbC_ x y = decide (ltC x y) := rfl
   have e2 : ltbC_ y x = decide (ltC y x) := rfl
   simp only [cfL_, cmpL, cfC_, e1, e2, decide_eq_true_eq]
   by_cases c1 : ltC x y
   ·simp only [if_pos c1]; rw [if_neg (by decide)]
   ·simp only [if_neg c1]
    by_cases c2 : ltC y x
    ·simp only [if_pos c2]; rw [if_neg (by decide)]
    ·simp only [if_neg c2]; rw [if_pos trivial]; exact ih s
theorem cfS_cmpS (a b : List C) : cfS_ a b = cmpS a b := by unfold cfS_ cmpS; rw [cfL_cmpL]
def leS (a b : List C) : Prop := ¬ ltS b a
theorem leS_trans {a b c : List C} (h : leS a b) (g : leS b c) : leS a c := by
 intro k
 rcases ltS_tri a b with e | e | e
 ·exact g (ltS_trans k e)
 ·rw [e] at k; exact g k
 ·exact h e
theorem ltS_leS {a b : List C} (h : ltS a b) : leS a b := fun g => ltS_irrefl (ltS_trans h g)
def formsL (l : List C) (n : Nat) : List (List C) := (List.range n).map fun t => formP l (t : Nat)
theorem formsL_length (l : List C) (n : Nat) : (formsL l n).length = n := by unfold formsL; rw [List.length_map, List.length_range]
theorem formsL_succ (l : List C) (n : Nat) : formsL l (n + 1) = formsL l n ++ [formP l (n : Nat)] := by unfold formsL; rw [List.range_succ, List.map_append]; rfl
theorem formsL_mem (l s : List C) (n : Nat) : s ∈ formsL l n ↔ ∃ t : Nat, t < n ∧ formP l (t : Nat) = s := by
 unfold formsL
 simp only [List.mem_map, List.mem_range]
theorem implForms_loop (l : List C) (n : Nat) (hn : n ≤ 8) (h0 : 0 < l.length) (hl : l.length ≤ 1048570) : ∀ d j : Nat, j + d = n → Ev (fun k => impl_forms.l0 k l (formsL l j) (n : Nat) (j : Nat)) (formsL l n) := by
 intro d
 induction d with
 | zero =>
  intro j hj
  obtain rfl : j = n := by omega
  refine Ev.step (fun k => ?_) (Ev.now _)
  simp only [impl_forms.l0]; rw [if_neg (by omega)]
 | succ d ih =>
  intro j hj
  have g := ih (j + 1) (by omega)
  rw [formsL_succ] at g
  have hlen := formsL_length l j
  refine Ev.step (f := fun k => (impl_form.f k l (j : Nat)).bind fun t => impl_forms.l0 k l (formsL l j ++ [t]) (n : Nat) ((j + 1 : Nat) : Int)) (fun k => ?_) ?_
  ·simp only [impl_forms.l0, if_pos (show (formsL l j).length < 5864062014805 by omega)]
   rw [if_pos (by omega), w64 (by omega) (by omega)]; rfl
  ·exact Ev.bind (f := fun k t => impl_forms.l0 k l (formsL l j ++ [t]) (n : Nat) ((j + 1 : Nat) : Int)) (iform_ev l (j : Nat) (by omega) h0 hl) g
theorem implForms_ev (l : List C) (n : Nat) (hn : n ≤ 8) (h0 : 0 < l.length) (hl : l.length ≤ 1048570) : Ev (fun k => impl_forms.f k l (n : Nat)) (formsL l n) :=
 implForms_loop l n hn h0 hl n 0 (by omega)
theorem specForms_loop (l : List C) (n : Nat) (hn : n ≤ 8) (h0 : 0 < l.length) (hl : l.length ≤ 1048570) : ∀ d j : Nat, j + d = n → Ev (fun k => spec_l03Forms.l0 k l (n : Nat) (tidyP (formsL l j)) (j : Nat)) (tidyP (formsL l n)) := by
 intro d
 induction d with
 | zero =>
  intro j hj
  obtain rfl : j = n := by omega
  refine Ev.step (fun k => ?_) (Ev.now _)
  simp only [spec_l03Forms.l0]; rw [if_neg (by omega)]
 | succ d ih =>
  intro j hj
  have g := ih (j + 1) (by omega)
  rw [formsL_succ, tidyP_snoc] at g
  have hlen := formsL_length l j
  have htl := tidyP_length (formsL l j)
  refine Ev.step (f := fun k => (spec_l03Form.f k l (j : Nat)).bind fun t => (spec_l03Add.f k (tidyP (formsL l j)) t).bind fun u => spec_l03Forms.l0 k l (n : Nat) u ((j + 1 : Nat) : Int)) (fun k => ?_) ?_
  ·simp only [spec_l03Forms.l0]
   rw [if_pos (by omega), w64 (by omega) (by omega)]; rfl
  ·refine Ev.bind (f := fun k t => (spec_l03Add.f k (tidyP (formsL l j)) t).bind fun u => spec_l03Forms.l0 k l (n : Nat) u ((j + 1 : Nat) : Int)) (sform_ev l (j : Nat) (by omega) h0 hl) ?_
   exact Ev.bind (f := fun k u => spec_l03Forms.l0 k l (n : Nat) u ((j + 1 : Nat) : Int)) (add_ev _ _ (tidyP_sorted _) (by omega) (by rw [formP_length]; omega)) g
theorem specForms_ev (l : List C) (n : Nat) (hn : n ≤ 8) (h0 : 0 < l.length) (hl : l.length ≤ 1048570) : Ev (fun k => spec_l03Forms.f k l (n : Nat)) (tidyP (formsL l n)) :=
 specForms_loop l n hn h0 hl n 0 (by omega)
theorem head_min {l : List (List C)} (h : 0 < l.length) : ro_ (tidyP l) 0 ∈ l ∧ ∀ x ∈ l, leS (ro_ (tidyP l) 0) x := by
 have hne : 0 < (tidyP l).length := by
  rcases Nat.eq_zero_or_pos (tidyP l).length with e | e
  ·have e2 := List.length_eq_zero_iff.1 e
   have := (tidyP_mem l (ro_ l 0)).2 (ro_mem l 0 h)
   rw [e2] at this; cases this
  ·exact e
 refine ⟨(tidyP_mem l _).1 (ro_mem _ 0 hne), fun x hx => ?_⟩
 obtain ⟨i, hi, rfl⟩ := List.mem_iff_getElem.1 ((tidyP_mem l x).2 hx)
 rw [ro_get _ 0 hne]
 by_cases e : i = 0
 ·subst e; exact fun g => ltS_irrefl g
 ·exact ltS_leS (List.pairwise_iff_getElem.1 (tidyP_sorted l) 0 i hne hi (by omega))
theorem tidyP_pos {l : List (List C)} (h : 0 < l.length) : 0 < (tidyP l).length := by
 rcases Nat.eq_zero_or_pos (tidyP l).length with e | e
 ·have e2 := List.length_eq_zero_iff.1 e
  have := (tidyP_mem l (ro_ l 0)).2 (ro_mem l 0 h)
  rw [e2] at this; cases this
 ·exact e
def addC (v c : C) : C := ⟨c.f0 + v.f0, c.f1 + v.f1⟩
theorem lo_eq {l : List C} {a b : Int} (h : 0 < l.length) (h1 : ∀ c ∈ l, a ≤ c.f0 ∧ b ≤ c.f1) (h2 : ∃ c ∈ l, c.f0 = a) (h4 : ∃ c ∈ l, c.f1 = b) : lo l = (a, b) := by
 obtain ⟨c, hc, ec⟩ := h2
 obtain ⟨d, hd, ed⟩ := h4
 obtain ⟨e, he, ee⟩ := lo_mem0 h
 obtain ⟨f, hf, ef⟩ := lo_mem1 h
 have a1 := lo_le hc
 have a2 := lo_le hd
 have a3 := h1 e he
 have a4 := h1 f hf
 have x1 : (lo l).1 = a := by omega
 have x2 : (lo l).2 = b := by omega
 rw [← x1, ← x2]
theorem lo_add (v : C) {l : List C} (h : 0 < l.length) : lo (l.map (addC v)) = ((lo l).1 + v.f0, (lo l).2 + v.f1) := by
 obtain ⟨c, hc, ec⟩ := lo_mem0 h
 obtain ⟨d, hd, ed⟩ := lo_mem1 h
 refine lo_eq (by rw [List.length_map]; exact h) (fun x hx => ?_) ⟨addC v c, List.mem_map_of_mem hc, ?_⟩ ⟨addC v d, List.mem_map_of_mem hd, ?_⟩
 ·obtain ⟨y, hy, rfl⟩ := List.mem_map.1 hx
  have := lo_le hy
  unfold addC; simp only []; omega
 ·unfold addC; simp only []; omega
 ·unfold addC; simp only []; omega
def normU (l : List C) : List C := l.map (addC ⟨-(lo l).1, -(lo l).2⟩)
theorem normU_length (l : List C) : (normU l).length = l.length := by unfold normU; rw [List.length_map]
theorem normU_lo {l : List C} (h : 0 < l.length) : lo (normU l) = (0, 0) := by
 unfold normU
 rw [lo_add _ h]
 congr 1 <;> (simp only []; omega)
theorem addC_zero (c : C) : addC ⟨0, 0⟩ c = c := by unfold addC; simp
theorem normU_idem {l : List C} (h : 0 < l.length) : normU (normU l) = normU l := by
 show (normU l).map (addC ⟨-(lo (normU l)).1, -(lo (normU l)).2⟩) = normU l
 rw [normU_lo h]
 conv => rhs; rw [← List.map_id (normU l)]
 exact List.map_congr_left fun c _ => addC_zero c
def trI (t : Nat) (c : C) : C :=
 match t with
 | 0 => c
 | 1 => ⟨-c.f1, c.f0⟩
 | 2 => ⟨-c.f0, -c.f1⟩
 | 3 => ⟨c.f1, -c.f0⟩
 | 4 => ⟨-c.f0, c.f1⟩
 | 5 => ⟨-c.f1, -c.f0⟩
 | 6 => ⟨c.f0, -c.f1⟩
 | 7 => ⟨c.f1, c.f0⟩
 | _ => c
def mulT (a b : Nat) : Nat := if b < 4 then (a % 4 + b) % 4 + (if a < 4 then 0 else 4) else (b - a % 4) % 4 + (if a < 4 then 4 else 0)
theorem eight {t : Nat} (h : t < 8) : t = 0 ∨ t = 1 ∨ t = 2 ∨ t = 3 ∨ t = 4 ∨ t = 5 ∨ t = 6 ∨ t = 7 := by omega
theorem trI_mul {a b : Nat} (ha : a < 8) (hb : b < 8) (c : C) : trI b (trI a c) = trI (mulT a b) c := by
 rcases eight ha with rfl | rfl | rfl | rfl | rfl | rfl | rfl | rfl <;> rcases eight hb with rfl | rfl | rfl | rfl | rfl | rfl | rfl | rfl <;> simp [trI, mulT]
def formU (l : List C) (t : Nat) : List C := normU (sortP (l.map (trI t)))
def BD (l : List C) : Prop := ∀ c ∈ l, -1000000 ≤ c.f0 ∧ c.f0 ≤ 1000000 ∧ -1000000 ≤ c.f1 ∧ c.f1 ≤ 1000000
theorem trC_I {t : Nat} (ht : t < 8) {c : C} (h : -1000000 ≤ c.f0 ∧ c.f0 ≤ 1000000 ∧ -1000000 ≤ c.f1 ∧ c.f1 ≤ 1000000) : trC (t : Nat) c = trI t c := by
 have e : ∀ x : Int, -1000000 ≤ x → x ≤ 1000000 → wrap64 (-x) = -x := fun x h1 h2 => w64 (by omega) (by omega)
 have a0 := e c.f0 (by omega) (by omega)
 have a1 := e c.f1 (by omega) (by omega)
 have b0 : wrap64 c.f0 = c.f0 := w64 (by omega) (by omega)
 have b1 : wrap64 c.f1 = c.f1 := w64 (by omega) (by omega)
 rcases eight ht with rfl | rfl | rfl | rfl | rfl | rfl | rfl | rfl
 ·rfl
 ·show (⟨(rotN 1 c.f0 c.f1).1, (rotN 1 c.f0 c.f1).2⟩ : C) = _
  simp only [rotN, a0, a1, trI]
 ·show (⟨(rotN 2 c.f0 c.f1).1, (rotN 2 c.f0 c.f1).2⟩ : C) = _
  simp only [rotN, a0, a1, trI]
 ·show (⟨(rotN 3 c.f0 c.f1).1, (rotN 3 c.f0 c.f1).2⟩ : C) = _
  simp only [rotN, a0, a1, trI, Int.neg_neg, b1]
 ·show (⟨(rotN 0 (wrap64 (-c.f0)) c.f1).1, (rotN 0 (wrap64 (-c.f0)) c.f1).2⟩ : C) = _
  simp only [rotN, a0, trI]
 ·show (⟨(rotN 1 (wrap64 (-c.f0)) c.f1).1, (rotN 1 (wrap64 (-c.f0)) c.f1).2⟩ : C) = _
  simp only [rotN, a0, a1, trI]
 ·show (⟨(rotN 2 (wrap64 (-c.f0)) c.f1).1, (rotN 2 (wrap64 (-c.f0)) c.f1).2⟩ : C) = _
  simp only [rotN, a0, a1, trI, Int.neg_neg, b0]
 ·show (⟨(rotN 3 (wrap64 (-c.f0)) c.f1).1, (rotN 3 (wrap64 (-c.f0)) c.f1).2⟩ : C) = _
  simp only [rotN, a0, a1, trI, Int.neg_neg, b0, b1]
theorem BD_tr {l : List C} (h : BD l) {t : Nat} (ht : t < 8) : BD (l.map (trI t)) := by
 intro c hc
 obtain ⟨d, hd, rfl⟩ := List.mem_map.1 hc
 have := h d hd
 rcases eight ht with rfl | rfl | rfl | rfl | rfl | rfl | rfl | rfl <;> simp only [trI] <;> omega
theorem BD_sort {l : List C} (h : BD l) : BD (sortP l) := fun c hc => h c (mem_sortP.1 hc)
theorem normL_U {l : List C} (h : BD l) (h0 : 0 < l.length) : normL l = normU l := by
 unfold normL movL normU
 obtain ⟨d, hd, ed⟩ := lo_mem0 h0
 obtain ⟨e, he, ee⟩ := lo_mem1 h0
 have b1 := h d hd
 have b2 := h e he
 refine List.map_congr_left fun c hc => ?_
 have b3 := h c hc
 unfold movC addC
 rw [w64 (x := -(lo l).1) (by omega) (by omega), w64 (x := -(lo l).2) (by omega) (by omega), w64 (by omega) (by omega), w64 (by omega) (by omega)]
theorem formP_U {l : List C} (h : BD l) (h0 : 0 < l.length) {t : Nat} (ht : t < 8) : formP l (t : Nat) = formU l t := by
 unfold formP formU
 have e : l.map (trC (t : Nat)) = l.map (trI t) := List.map_congr_left fun c hc => trC_I ht (h c hc)
 rw [e]
 exact normL_U (BD_sort (BD_tr h ht)) (by rw [sortP_length, List.length_map]; exact h0)
def invT (t : Nat) : Nat := if t < 4 then (4 - t) % 4 else t
theorem invT_lt {a : Nat} (ha : a < 8) : invT a < 8 := by
 rcases eight ha with rfl | rfl | rfl | rfl | rfl | rfl | rfl | rfl <;> decide
theorem mulT_inv {a : Nat} (ha : a < 8) : mulT a (invT a) = 0 := by
 rcases eight ha with rfl | rfl | rfl | rfl | rfl | rfl | rfl | rfl <;> decide
theorem sh_BD {l : List C} (h : Sh l) : BD l := fun c hc => by
 have := h.ok hc
 unfold okC at this; omega
theorem sh_of {l : List C} (h1 : 1 ≤ l.length) (h2 : l.length ≤ 40) (h3 : ∀ c ∈ l, okC c) (h4 : l.Pairwise ltC) : Sh l := by
 refine ⟨h1, h2, fun i hi => h3 _ (at_mem l i hi), fun i hi => ?_⟩
 rw [at_get l i (by omega), at_get l (i + 1) hi]
 exact List.pairwise_iff_getElem.1 h4 i (i + 1) (by omega) hi (by omega)
theorem code_wide {l : List C} (hc : codeP l = 0) : ∀ c ∈ l, ∀ d ∈ l, c.f0 - d.f0 ≤ 100 ∧ c.f1 - d.f1 ≤ 100 := by
 have hs := codeP_sh hc
 have hn : Sh (normL l) := by
  unfold codeP at hc
  rw [shB_true hs] at hc
  rcases sh_cases (normL l) with ⟨h, _⟩ | ⟨_, h⟩
  ·exact h
  ·rw [h] at hc; exact absurd hc (by decide)
 intro c hc d hd
 have hm : addC ⟨-(lo l).1, -(lo l).2⟩ c ∈ normL l := by
  rw [normL_U (sh_BD hs) hs.1]; exact List.mem_map_of_mem hc
 have ho := hn.ok hm
 have hd2 := lo_le hd
 unfold okC addC at ho
 simp only [] at ho
 omega
theorem trI_inj {t : Nat} (ht : t < 8) {a b : C} (h : trI t a = trI t b) : a = b := by
 have e := congrArg (trI (invT t)) h
 rw [trI_mul ht (invT_lt ht), trI_mul ht (invT_lt ht), mulT_inv ht] at e
 exact e
theorem form_code {l : List C} (hc : codeP l = 0) {t : Nat} (ht : t < 8) : codeP (formP l (t : Nat)) = 0 := by
 have hs := codeP_sh hc
 have hb := sh_BD hs
 have h0 : 0 < l.length := hs.1
 have hw := code_wide hc
 rw [formP_U hb h0 ht]
 have hml : (sortP (l.map (trI t))).length = l.length := by rw [sortP_length, List.length_map]
 have hm0 : 0 < (sortP (l.map (trI t))).length := by omega
 have hnd : (sortP (l.map (trI t))).Nodup := by
  rw [(sortP_perm _).nodup_iff]
  unfold List.Nodup
  rw [List.pairwise_map]
  rw [List.pairwise_iff_getElem]
  intro i j hi hj hij e
  have e2 := trI_inj ht e
  have h3 := hs.lt i j hij hj
  rw [at_get l i hi, at_get l j hj, e2] at h3
  exact ltC_irrefl h3
 have hlt : (sortP (l.map (trI t))).Pairwise ltC := by
  have hle := sortP_sorted (l.map (trI t))
  rw [List.pairwise_iff_getElem] at hle ⊢
  unfold List.Nodup at hnd
  rw [List.pairwise_iff_getElem] at hnd
  intro i j hi hj hij
  have a := hle i j hi hj hij
  have b := hnd i j hi hj hij
  rcases (show ltC (sortP (l.map (trI t)))[i] (sortP (l.map (trI t)))[j] ∨ ¬ ltC (sortP (l.map (trI t)))[i] (sortP (l.map (trI t)))[j] from Decidable.em _) with g | g
  ·exact g
  ·exact absurd (leC_anti a g) b
 have hsh : Sh (formU l t) := by
  unfold formU
  refine sh_of (by rw [normU_length]; omega) (by rw [normU_length, hml]; exact hs.2.1) (fun c hcm => ?_) ?_
  ·unfold normU at hcm
   obtain ⟨x, hx, rfl⟩ := List.mem_map.1 hcm
   obtain ⟨y, hy, rfl⟩ := List.mem_map.1 (mem_sortP.1 hx)
   obtain ⟨z0, hz0, e0⟩ := lo_mem0 hm0
   obtain ⟨z1, hz1, e1⟩ := lo_mem1 hm0
   obtain ⟨u, hu, rfl⟩ := List.mem_map.1 (mem_sortP.1 hz0)
   obtain ⟨v, hv, rfl⟩ := List.mem_map.1 (mem_sortP.1 hz1)
   have hl := lo_le hx
   have a1 := hw y hy u hu
   have a2 := hw u hu y hy
   have a3 := hw y hy v hv
   have a4 := hw v hv y hy
   unfold okC addC
   rw [e0, e1] at hl ⊢
   simp only []
   rcases eight ht with rfl | rfl | rfl | rfl | rfl | rfl | rfl | rfl <;> simp only [trI] at hl ⊢ <;> omega
  ·unfold normU
   rw [List.pairwise_map]
   exact hlt.imp fun {a b} hab => by unfold ltC addC at *; simp only [] at *; omega
 have hnorm : normL (formU l t) = formU l t := by
  rw [normL_U (sh_BD hsh) hsh.1]
  unfold formU
  exact normU_idem hm0
 unfold codeP
 rw [hnorm, shB_true hsh]; rfl
theorem compareShapes_ev (l m : List C) (hl : l.length ≤ 1048576) : Ev (fun k => impl_compareShapes.f k l m) (cmpS l m) := by
 unfold impl_compareShapes.f
 rw [cfS_cmpS]; exact Ev.now _
theorem head_least (l : List (List C)) (h : 0 < l.length) : ro_ (tidyP l) 0 ∈ l ∧ ∀ x ∈ l, leS (ro_ (tidyP l) 0) x := by
 have hne : 0 < (tidyP l).length := by
  rcases Nat.eq_zero_or_pos (tidyP l).length with e | e
  ·have e2 := List.length_eq_zero_iff.1 e
   have := (tidyP_mem l (ro_ l 0)).2 (ro_mem l 0 h)
   rw [e2] at this; cases this
  ·exact e
 refine ⟨(tidyP_mem l _).1 (ro_mem _ 0 hne), fun x hx => ?_⟩
 obtain ⟨i, hi, rfl⟩ := List.mem_iff_getElem.1 ((tidyP_mem l x).2 hx)
 rw [ro_get _ 0 hne]
 by_cases e : i = 0
 ·subst e; exact fun g => ltS_irrefl g
 ·exact ltS_leS (List.pairwise_iff_getElem.1 (tidyP_sorted l) 0 i hne hi (by omega))
theorem least_unique {l : List (List C)} {a b : List C} (ha : a ∈ l) (ha2 : ∀ x ∈ l, leS a x) (hb : b ∈ l) (hb2 : ∀ x ∈ l, leS b x) : a = b := by
 rcases ltS_tri a b with h | h | h
 ·exact absurd h (hb2 a ha)
 ·exact h
 ·exact absurd h (ha2 b hb)
theorem minf_loop (l : List (List C)) (hl : l.length ≤ 1000000) (hs : ∀ x ∈ l, x.length ≤ 1048576) (h0 : 0 < l.length) : ∀ d j : Nat, j + d = l.length → ∀ m, m ∈ l → (∀ x ∈ l.take j, leS m x) → Ev (fun k => slices_MinFunc_CellS.l0 k l m (j : Nat)) (ro_ (tidyP l) 0) := by
 intro d
 induction d with
 | zero =>
  intro j hj m hm hx
  obtain rfl : j = l.length := by omega
  rw [List.take_length] at hx
  obtain ⟨h1, h2⟩ := head_least l h0
  rw [← least_unique hm hx h1 h2]
  refine Ev.step (fun k => ?_) (Ev.now _)
  simp only [slices_MinFunc_CellS.l0]; rw [if_neg (by omega)]
 | succ d ih =>
  intro j hj m hm hx
  have hmem := ro_mem l j (by omega)
  have ht := take_ro l j (by omega)
  refine Ev.step (f := fun k => (impl_compareShapes.f k (ro_ l j) m).bind fun t => if t < 0 then slices_MinFunc_CellS.l0 k l (ro_ l j) ((j + 1 : Nat) : Int) else slices_MinFunc_CellS.l0 k l m ((j + 1 : Nat) : Int)) (fun k => ?_) ?_
  ·simp only [slices_MinFunc_CellS.l0, rd_ro]
   rw [if_pos (by omega), if_pos (by omega), w64 (by omega) (by omega)]; rfl
  ·refine Ev.bind (f := fun k t => if t < 0 then slices_MinFunc_CellS.l0 k l (ro_ l j) ((j + 1 : Nat) : Int) else slices_MinFunc_CellS.l0 k l m ((j + 1 : Nat) : Int)) (compareShapes_ev (ro_ l j) m (hs _ hmem)) ?_
   by_cases c : cmpS (ro_ l j) m < 0
   ·simp only [if_pos c]
    refine ih (j + 1) (by omega) _ hmem fun x hxm => ?_
    rw [ht] at hxm
    rcases List.mem_append.1 hxm with g | g
    ·exact leS_trans (ltS_leS (cmpS_neg_lt c)) (hx x g)
    ·rw [List.mem_singleton.1 g]; exact fun g => ltS_irrefl g
   ·simp only [if_neg c]
    refine ih (j + 1) (by omega) _ hm fun x hxm => ?_
    rw [ht] at hxm
    rcases List.mem_append.1 hxm with g | g
    ·exact hx x g
    ·rw [List.mem_singleton.1 g]; exact fun g => c (by unfold ltS at g; omega)
theorem leastOf_ev (l : List (List C)) (hl : l.length ≤ 1000000) (hs : ∀ x ∈ l, x.length ≤ 1048576) (h0 : 0 < l.length) : Ev (fun k => impl_leastOf.f k l) (ro_ (tidyP l) 0) := by
 unfold impl_leastOf.f slices_MinFunc_CellS.f
 have h := minf_loop l hl hs h0 (l.length - 1) 1 (by omega) (ro_ l 0) (ro_mem l 0 h0) (fun x hx => by
  rw [take_ro l 0 h0, List.take_zero, List.nil_append, List.mem_singleton] at hx
  rw [hx]; exact fun g => ltS_irrefl g)
 refine Ev.bind (f := fun _ t => some t) ?_ (Ev.now _)
 refine Ev.step (f := fun k => slices_MinFunc_CellS.l0 (k + 1) l (ro_ l 0) 1) (fun k => ?_) ?_
 ·rw [if_neg (by omega), if_pos (by omega), show (0 : Int) = ((0 : Nat) : Int) from rfl, rd_ro]
 ·obtain ⟨K, hK⟩ := h
  exact ⟨K, fun k hk => hK (k + 1) (by omega)⟩
theorem specSize_ev (l : List C) (h : Sh l) : Ev (fun k => spec_l04Size.f k l) (sz l) := by
 have hn := h.1
 have hm40 := h.2.1
 unfold spec_l04Size.f
 refine Ev.bind (f := fun k (bt : Int × Int) => spec_l04Size.l0 k l bt.1 bt.2 0 0 0) (least_ev l (by omega) (by omega)) ?_
 obtain ⟨c0, hc0, b0⟩ := lo_mem0 (l := l) (by omega)
 obtain ⟨c1, hc1, b1⟩ := lo_mem1 (l := l) (by omega)
 have o0 := h.ok hc0
 have o1 := h.ok hc1
 unfold okC at o0 o1
 refine ev_fold (fun k (s : Int × Int) j => spec_l04Size.l0 k l (lo l).1 (lo l).2 s.1 s.2 j) l (fun s c => (mx s.1 (wrap64 (wrap64 (c.f0 - (lo l).1) + 1)), mx s.2 (wrap64 (wrap64 (c.f1 - (lo l).2) + 1)))) some _ (fun _ _ => True) ?_ ?_ 0 (by omega) (0, 0) trivial ?_
 ·intro k s j hj hm _
  refine ⟨?_, trivial⟩
  simp only [spec_l04Size.l0, rd_at]; rw [if_pos (by omega), if_pos (by omega), w64 (x := (j : Int) + 1) (by omega) (by omega)]; rfl
 ·intro k s _
  simp only [spec_l04Size.l0]; rw [if_neg (by omega)]
 ·rw [List.drop_zero, foldl_pair (fun s c => mx s (wrap64 (wrap64 (c.f0 - (lo l).1) + 1))) (fun s c => mx s (wrap64 (wrap64 (c.f1 - (lo l).2) + 1)))]
  have wr : ∀ a b : Int, -100 ≤ a → a ≤ 100 → -100 ≤ b → b ≤ 100 → wrap64 (wrap64 (a - b) + 1) = a - b + 1 := by
   intro a b _ _ _ _; rw [w64 (x := a - b) (by omega) (by omega), w64 (by omega) (by omega)]
  have m0 := mxF_spec (fun c => wrap64 (wrap64 (c.f0 - (lo l).1) + 1)) l 0
  have m1 := mxF_spec (fun c => wrap64 (wrap64 (c.f1 - (lo l).2) + 1)) l 0
  have f0 : ∀ c ∈ l, wrap64 (wrap64 (c.f0 - (lo l).1) + 1) = c.f0 - (lo l).1 + 1 := fun c hc => by have := h.ok hc; unfold okC at this; exact wr _ _ (by omega) (by omega) (by omega) (by omega)
  have f1 : ∀ c ∈ l, wrap64 (wrap64 (c.f1 - (lo l).2) + 1) = c.f1 - (lo l).2 + 1 := fun c hc => by have := h.ok hc; unfold okC at this; exact wr _ _ (by omega) (by omega) (by omega) (by omega)
  have a0 : mxF (fun c => wrap64 (wrap64 (c.f0 - (lo l).1) + 1)) l 0 = (hi l).1 - (lo l).1 + 1 := by
   obtain ⟨d, hd, e⟩ := hi_mem0 (l := l) (by omega)
   have g1 := m0.2.1 d hd
   have g2 := (lo_le hd).1
   have g3 := f0 d hd
   simp only [g3] at g1
   rcases m0.2.2 with g | ⟨c, hc, g⟩
   ·omega
   ·have := (le_hi hc).1; have := f0 c hc; replace g := g.trans this; omega
  have a1 : mxF (fun c => wrap64 (wrap64 (c.f1 - (lo l).2) + 1)) l 0 = (hi l).2 - (lo l).2 + 1 := by
   obtain ⟨d, hd, e⟩ := hi_mem1 (l := l) (by omega)
   have g1 := m1.2.1 d hd
   have g2 := (lo_le hd).2
   have g3 := f1 d hd
   simp only [g3] at g1
   rcases m1.2.2 with g | ⟨c, hc, g⟩
   ·omega
   ·have := (le_hi hc).2; have := f1 c hc; replace g := g.trans this; omega
  show some (mxF (fun c => wrap64 (wrap64 (c.f0 - (lo l).1) + 1)) l 0, mxF (fun c => wrap64 (wrap64 (c.f1 - (lo l).2) + 1)) l 0) = _
  rw [a0, a1]; rfl
theorem reach_ev (l : List C) (h : 0 < l.length) (hl : l.length ≤ 1048576) : Ev (fun k => impl_reach.f k l) (hi l) := by
 unfold impl_reach.f
 simp only [if_pos (show 0 < (l.length : Int) by omega)]
 have e0 : rd_T55 l 0 = at_ l 0 := rd_at l 0
 rw [e0]
 refine ev_fold (fun k (s : Int × Int) j => impl_reach.l0 k l (l.length : Int) j s.1 s.2) l (fun s c => (mx s.1 c.f0, mx s.2 c.f1)) some _ (fun _ _ => True) ?_ ?_ 0 (by omega) ((at_ l 0).f0, (at_ l 0).f1) trivial ?_
 ·intro k s j hj hm _
  refine ⟨?_, trivial⟩
  simp only [impl_reach.l0, rd_at]; rw [if_pos (by omega), if_pos (by omega), if_pos (by omega), w64 (x := (j : Int) + 1) (by omega) (by omega)]; rfl
 ·intro k s _
  simp only [impl_reach.l0]; rw [if_neg (by omega)]
 ·rw [List.drop_zero, foldl_pair (fun s c => mx s c.f0) (fun s c => mx s c.f1)]; rfl
def ixF : Nat → List C → Int → Int → Int
 | _, [], _, _ => -1
 | j, c :: r, x, y => if c.f0 = x ∧ c.f1 = y then (j : Int) else ixF (j + 1) r x y
theorem ixF_mem (x y : Int) : ∀ (r : List C) (j : Nat), 0 ≤ ixF j r x y ↔ (⟨x, y⟩ : C) ∈ r := by
 intro r
 induction r with
 | nil => intro j; simp [ixF]
 | cons c r ih =>
  intro j
  unfold ixF
  by_cases h : c.f0 = x ∧ c.f1 = y
  ·rw [if_pos h]
   constructor
   ·intro _; obtain ⟨rfl, rfl⟩ := h; exact List.mem_cons_self
   ·intro _; omega
  ·rw [if_neg h, ih (j + 1), List.mem_cons]
   constructor
   ·exact fun g => Or.inr g
   ·rintro (g | g)
    ·exact absurd (by rw [← g]; exact ⟨rfl, rfl⟩) h
    ·exact g
theorem specIx_loop (l : List C) (x y : Int) (hl : l.length ≤ 1048576) : ∀ d j : Nat, j + d = l.length → Ev (fun k => spec_l02Index.l0 k l (j : Nat) x y) (ixF j (l.drop j) x y) := by
 intro d
 induction d with
 | zero =>
  intro j hj
  obtain rfl : j = l.length := by omega
  rw [List.drop_length]
  refine Ev.step (fun k => ?_) (Ev.now _)
  simp only [spec_l02Index.l0, ixF]; rw [if_neg (by omega)]
 | succ d ih =>
  intro j hj
  rw [drop_at l j (by omega)]
  have e : ∀ k, spec_l02Index.l0 (k + 1) l (j : Nat) x y = if (at_ l j).f0 = x ∧ (at_ l j).f1 = y then some (j : Int) else spec_l02Index.l0 k l ((j + 1 : Nat) : Int) x y := by
   intro k
   simp only [spec_l02Index.l0, rd_at, Bool.and_eq_true, beq_iff_eq]
   rw [if_pos (by omega), if_pos (by omega), w64 (by omega) (by omega)]; rfl
  unfold ixF
  by_cases c : (at_ l j).f0 = x ∧ (at_ l j).f1 = y
  ·rw [if_pos c]; exact Ev.step (f := fun _ => some (j : Int)) (fun k => (e k).trans (if_pos c)) (Ev.now _)
  ·rw [if_neg c]; exact Ev.step (fun k => (e k).trans (if_neg c)) (ih (j + 1) (by omega))
theorem specIx_ev (l : List C) (x y : Int) (hl : l.length ≤ 1048576) : Ev (fun k => spec_l02Index.f k l x y) (ixF 0 l x y) :=
 specIx_loop l x y hl l.length 0 (by omega)
def cellN (q : List C) (x y : Int) : Int := if 0 ≤ ixF 0 q x y then 35 else 46
def rowT (q : List C) (y : Int) : Nat → Nat → List Int
 | 0, _ => []
 | d + 1, x => cellN q (x : Nat) y :: rowT q y d (x + 1)
def allT (q : List C) (m : Nat) : Nat → Nat → List Int
 | 0, _ => []
 | d + 1, y => ((if 0 < y then [47] else []) ++ rowT q (y : Nat) m 0) ++ allT q m d (y + 1)
def rowsT (q : List C) (m : Nat) : Nat → Nat → List (List Int)
 | 0, _ => []
 | d + 1, y => rowT q (y : Nat) m 0 :: rowsT q m d (y + 1)
theorem rowT_length (q : List C) (y : Int) : ∀ d x, (rowT q y d x).length = d
 | 0, _ => rfl
 | d + 1, x => by rw [rowT, List.length_cons, rowT_length q y d (x + 1)]
theorem rowT_at (q : List C) (y : Int) : ∀ d x i, i < d → (rowT q y d x)[i]? = some (cellN q ((x + i : Nat) : Int) y)
 | 0, _, _, h => absurd h (Nat.not_lt_zero _)
 | d + 1, x, 0, _ => rfl
 | d + 1, x, i + 1, h => by
  rw [rowT, List.getElem?_cons_succ, rowT_at q y d (x + 1) i (by omega), show x + 1 + i = x + (i + 1) by omega]
theorem rowsT_length (q : List C) (m : Nat) : ∀ d y, (rowsT q m d y).length = d
 | 0, _ => rfl
 | d + 1, y => by rw [rowsT, List.length_cons, rowsT_length q m d (y + 1)]
theorem rowsT_at (q : List C) (m : Nat) : ∀ d y i, i < d → (rowsT q m d y)[i]? = some (rowT q ((y + i : Nat) : Int) m 0)
 | 0, _, _, h => absurd h (Nat.not_lt_zero _)
 | d + 1, y, 0, _ => rfl
 | d + 1, y, i + 1, h => by
  rw [rowsT, List.getElem?_cons_succ, rowsT_at q m d (y + 1) i (by omega), show y + 1 + i = y + (i + 1) by omega]
theorem textRow_loop (q : List C) (hq : q.length ≤ 1048576) (n m y : Nat) (r : ByteArray) (hm : m ≤ 1000) (hy : y ≤ 1000) : ∀ (d x : Nat) (out : List Int), x + d = m → out.length + d ≤ 1000000 →
  Ev (fun k => spec_l04Text.l0 k (m : Nat) (n : Nat) q (out ++ rowT q (y : Nat) d x) ((y + 1 : Nat) : Int)) r → Ev (fun k => spec_l04Text.l1 k (m : Nat) (n : Nat) q out (y : Nat) (x : Nat)) r := by
 intro d
 induction d with
 | zero =>
  intro x out hx ho h
  refine Ev.step (fun k => ?_) h
  simp only [spec_l04Text.l1, rowT, List.append_nil]
  rw [if_neg (by omega), w64 (x := (y : Int) + 1) (by omega) (by omega)]; rfl
 | succ d ih =>
  intro x out hx ho h
  have e : ∀ k, spec_l04Text.l1 (k + 1) (m : Nat) (n : Nat) q out (y : Nat) (x : Nat) = (spec_l02Index.f k q (x : Nat) (y : Nat)).bind fun t => spec_l04Text.l1 k (m : Nat) (n : Nat) q (out ++ [if 0 ≤ t then 35 else 46]) (y : Nat) ((x + 1 : Nat) : Int) := by
   intro k
   simp only [spec_l04Text.l1]
   rw [if_pos (by omega)]
   congr 1
   funext t
   rw [w64 (x := (x : Int) + 1) (by omega) (by omega)]
   by_cases c : t ≥ 0
   ·have c2 : 0 ≤ t := c
    rw [if_pos c, if_pos (by omega), if_pos c2]; rfl
   ·have c2 : ¬ 0 ≤ t := c
    rw [if_neg c, if_pos (by omega), if_neg c2]; rfl
  refine Ev.step e (Ev.bind (f := fun k t => spec_l04Text.l1 k (m : Nat) (n : Nat) q (out ++ [if 0 ≤ t then 35 else 46]) (y : Nat) ((x + 1 : Nat) : Int)) (specIx_ev q (x : Nat) (y : Nat) hq) ?_)
  refine ih (x + 1) _ (by omega) (by rw [List.length_append]; simp; omega) ?_
  rw [rowT] at h
  rw [List.append_assoc]
  exact h
theorem text_loop (q : List C) (hq : q.length ≤ 1048576) (n m : Nat) (hm : m ≤ 1000) (hn : n ≤ 1000) : ∀ (d y : Nat) (out : List Int), y + d = n → out.length + d * (m + 1) ≤ 1000000 →
  Ev (fun k => spec_l04Text.l0 k (m : Nat) (n : Nat) q out (y : Nat)) (strOfNums (out ++ allT q m d y)) := by
 intro d
 induction d with
 | zero =>
  intro y out hy ho
  refine Ev.step (f := fun _ => some (strOfNums (out ++ allT q m 0 y))) (fun k => ?_) (Ev.now _)
  simp only [spec_l04Text.l0, allT, List.append_nil]
  rw [if_neg (by omega)]
 | succ d ih =>
  intro y out hy ho
  have hs : (d + 1) * (m + 1) = d * (m + 1) + (m + 1) := Nat.succ_mul ..
  have e : ∀ k, spec_l04Text.l0 (k + 1) (m : Nat) (n : Nat) q out (y : Nat) = spec_l04Text.j1 k (m : Nat) (n : Nat) q (out ++ if 0 < y then [47] else []) (y : Nat) := by
   intro k
   simp only [spec_l04Text.l0]
   rw [if_pos (by omega)]
   by_cases c : 0 < y
   ·rw [if_pos (show (y : Int) > 0 by omega), if_pos (by omega), if_pos c]
   ·rw [if_neg (show ¬ (y : Int) > 0 by omega), if_neg c, List.append_nil]
  have hl : (out ++ if 0 < y then [47] else []).length ≤ out.length + 1 := by
   rw [List.length_append]; split <;> simp
  refine Ev.step e (Ev.step (f := fun k => spec_l04Text.l1 k (m : Nat) (n : Nat) q (out ++ if 0 < y then [47] else []) (y : Nat) ((0 : Nat) : Int)) (fun k => by simp only [spec_l04Text.j1]; rfl) ?_)
  refine textRow_loop q hq n m y _ hm (by omega) m 0 _ (by omega) (by omega) ?_
  have h := ih (y + 1) ((out ++ if 0 < y then [47] else []) ++ rowT q (y : Nat) m 0) (by omega) (by rw [List.length_append, rowT_length]; omega)
  rw [allT, ← List.append_assoc, ← List.append_assoc]
  exact h
def textP (l : List C) : ByteArray := strOfNums (allT (normL l) (sz l).1.toNat (sz l).2.toNat 0)
theorem specText_ev (l : List C) (h : Sh l) (hl : l.length ≤ 1048576) : Ev (fun k => spec_l04Text.f k l) (textP l) := by
 have hz := sz_ok h
 unfold spec_l04Text.f
 refine Ev.bind (f := fun k (bt : Int × Int) => (spec_l02Normal.f k l).bind fun t => spec_l04Text.l0 k bt.1 bt.2 t [] 0) (specSize_ev l h) ?_
 refine Ev.bind (f := fun k t => spec_l04Text.l0 k (sz l).1 (sz l).2 t [] 0) (specNorm_ev l h.1 hl) ?_
 have h2 : (sz l).2.toNat * ((sz l).1.toNat + 1) ≤ 201 * 202 := Nat.mul_le_mul (by omega) (by omega)
 have h1 := text_loop (normL l) (by rw [normL_length]; exact hl) (sz l).2.toNat (sz l).1.toNat (by omega) (by omega) (sz l).2.toNat 0 [] (by omega) (by simp only [List.length_nil]; omega)
 rw [show (((sz l).1.toNat : Nat) : Int) = (sz l).1 by omega, show (((sz l).2.toNat : Nat) : Int) = (sz l).2 by omega] at h1
 exact h1
theorem marks_at (n m : Nat) : ∀ (cs : List C) (g : List (List Int)), g.length = n → (∀ r ∈ g, r.length = m) → (∀ c ∈ cs, (0 ≤ c.f0 ∧ c.f0 < (m : Int)) ∧ 0 ≤ c.f1 ∧ c.f1 < (n : Int)) →
  (cs.foldl markRow_ g).length = n ∧ ∀ y, y < n → ∃ row, (cs.foldl markRow_ g)[y]? = some row ∧ row.length = m ∧ ∀ x : Nat, x < m → (((⟨(x : Nat), (y : Nat)⟩ : C) ∈ cs → row[x]? = some 35) ∧ (¬ (⟨(x : Nat), (y : Nat)⟩ : C) ∈ cs → row[x]? = (g.getD y [])[x]?)) := by
 intro cs
 induction cs with
 | nil =>
  intro g hg hm _
  refine ⟨hg, fun y hy => ⟨g[y]'(by omega), List.getElem?_eq_getElem _, hm _ (List.getElem_mem _), fun x hx => ⟨fun h => by simp at h, fun _ => ?_⟩⟩⟩
  rw [List.getD_eq_getElem?_getD, List.getElem?_eq_getElem (show y < g.length by omega)]; rfl
 | cons c r ih =>
  intro g hg hm hc
  obtain ⟨⟨c1, c2⟩, c3, c4⟩ := hc c (List.mem_cons_self ..)
  have hyl : c.f1.toNat < g.length := by omega
  have hgy : g.getD c.f1.toNat [] = g[c.f1.toNat] := by rw [List.getD_eq_getElem?_getD, List.getElem?_eq_getElem hyl]; rfl
  have hrl := hm _ (List.getElem_mem hyl)
  have hm' : ∀ q ∈ markRow_ g c, q.length = m := by
   intro q hq
   unfold markRow_ at hq
   rcases List.mem_or_eq_of_mem_set hq with h | h
   ·exact hm q h
   ·rw [h, List.length_set, hgy]; exact hrl
  obtain ⟨i1, i2⟩ := ih (markRow_ g c) (by unfold markRow_; rw [List.length_set]; exact hg) hm' (fun d hd => hc d (List.mem_cons_of_mem _ hd))
  refine ⟨i1, fun y hy => ?_⟩
  obtain ⟨row, j1, j2, j3⟩ := i2 y hy
  refine ⟨row, j1, j2, fun x hx => ?_⟩
  obtain ⟨k1, k2⟩ := j3 x hx
  have hval : (c = ⟨(x : Nat), (y : Nat)⟩ → ((markRow_ g c).getD y [])[x]? = some 35) ∧ (¬ c = ⟨(x : Nat), (y : Nat)⟩ → ((markRow_ g c).getD y [])[x]? = (g.getD y [])[x]?) := by
   unfold markRow_
   rw [hgy, List.getD_eq_getElem?_getD, List.getD_eq_getElem?_getD]
   refine ⟨fun e => ?_, fun e => ?_⟩
   ·subst e
    simp only [Int.toNat_natCast]
    rw [List.getElem?_set_self (by omega)]
    simp only [Option.getD_some]
    rw [List.getElem?_set_self (by simp only [Int.toNat_natCast] at hrl; omega)]
   ·by_cases e1 : c.f1.toNat = y
    ·subst e1
     rw [List.getElem?_set_self hyl, List.getElem?_eq_getElem hyl]
     simp only [Option.getD_some]
     rw [List.getElem?_set_ne (fun e2 => e ?_)]
     rcases c with ⟨a, b⟩
     simp only at c1 c3 e2 ⊢
     rw [← e2, show ((a.toNat : Nat) : Int) = a by omega, show ((b.toNat : Nat) : Int) = b by omega]
    ·rw [List.getElem?_set_ne e1]
  refine ⟨fun h => ?_, fun h => ?_⟩
  ·by_cases hr : (⟨(x : Nat), (y : Nat)⟩ : C) ∈ r
   ·exact k1 hr
   ·rw [k2 hr]
    rcases List.mem_cons.1 h with h | h
    ·exact hval.1 h.symm
    ·exact absurd h hr
  ·rw [k2 (fun hr => h (List.mem_cons_of_mem _ hr))]
   exact hval.2 (fun e => h (by rw [e]; exact List.mem_cons_self ..))
theorem textRows_eq (q : List C) (n m : Nat) (hc : ∀ c ∈ q, (0 ≤ c.f0 ∧ c.f0 < (m : Int)) ∧ 0 ≤ c.f1 ∧ c.f1 < (n : Int)) : textRows_ n m q = rowsT q m n 0 := by
 obtain ⟨h1, h2⟩ := marks_at n m q (List.replicate n (List.replicate m 46)) (List.length_replicate ..) (fun r hr => by rw [(List.mem_replicate.1 hr).2, List.length_replicate]) hc
 apply List.ext_getElem?
 intro y
 rcases Nat.lt_or_ge y n with hy | hy
 ·obtain ⟨row, j1, j2, j3⟩ := h2 y hy
  unfold textRows_
  rw [j1, rowsT_at q m n 0 y hy]
  congr 1
  apply List.ext_getElem?
  intro x
  rcases Nat.lt_or_ge x m with hx | hx
  ·obtain ⟨k1, k2⟩ := j3 x hx
   rw [rowT_at q _ m 0 x hx, Nat.zero_add, Nat.zero_add]
   unfold cellN
   by_cases c : (⟨(x : Nat), (y : Nat)⟩ : C) ∈ q
   ·rw [k1 c, if_pos ((ixF_mem _ _ q 0).2 c)]
   ·rw [k2 c, if_neg (fun e => c ((ixF_mem _ _ q 0).1 e)), List.getD_eq_getElem?_getD, List.getElem?_replicate, if_pos hy]
    simp only [Option.getD_some]
    rw [List.getElem?_replicate, if_pos hx]
  ·rw [List.getElem?_eq_none (by omega), List.getElem?_eq_none (by rw [rowT_length]; exact hx)]
 ·unfold textRows_
  rw [List.getElem?_eq_none (by omega), List.getElem?_eq_none (by rw [rowsT_length]; exact hy)]
theorem joinTail_T (q : List C) (m : Nat) : ∀ d y, Lib.joinTail [47] ((rowsT q m d (y + 1)).map fun r => (strOfNums r).data.toList) = (allT q m d (y + 1)).map fun n => UInt8.ofNat n.toNat
 | 0, _ => rfl
 | d + 1, y => by
  have ih := joinTail_T q m d (y + 1)
  rw [rowsT, allT, if_pos (Nat.succ_pos y), List.map_cons, List.map_append, List.map_append, ← ih]
  unfold Lib.joinTail
  rw [List.map_cons, List.flatten_cons, strOfNums_data]
  rfl
theorem joined_T (q : List C) (m d : Nat) : joined_ (rowsT q m (d + 1) 0) = strOfNums (allT q m (d + 1) 0) := by
 unfold joined_ strOfNums
 rw [rowsT, allT, if_neg (Nat.lt_irrefl 0), List.map_cons, Lib.join_cons, List.nil_append, List.map_append, ← joinTail_T q m d 0]
 rfl
theorem hi_norm {l : List C} (h : Sh l) : (hi (normL l)).1 + 1 = (sz l).1 ∧ (hi (normL l)).2 + 1 = (sz l).2 := by
 have hn := h.1
 have e := normL_eq h
 have hq : 0 < (normL l).length := by rw [normL_length]; exact hn
 have hm : ∀ c ∈ l, (⟨c.f0 - (lo l).1, c.f1 - (lo l).2⟩ : C) ∈ normL l := fun c hc => by rw [e]; exact List.mem_map.2 ⟨c, hc, rfl⟩
 have hm2 : ∀ d ∈ normL l, ∃ c ∈ l, d = ⟨c.f0 - (lo l).1, c.f1 - (lo l).2⟩ := fun d hd => by
  rw [e] at hd
  obtain ⟨c, hc, rfl⟩ := List.mem_map.1 hd
  exact ⟨c, hc, rfl⟩
 unfold sz
 obtain ⟨a, ha, a1⟩ := hi_mem0 (l := l) (by omega)
 obtain ⟨b, hb, b1⟩ := hi_mem1 (l := l) (by omega)
 obtain ⟨a', ha', a1'⟩ := hi_mem0 hq
 obtain ⟨b', hb', b1'⟩ := hi_mem1 hq
 obtain ⟨c, hc, rfl⟩ := hm2 a' ha'
 obtain ⟨d, hd, rfl⟩ := hm2 b' hb'
 have u1 := (le_hi (hm a ha)).1
 have u2 := (le_hi (hm b hb)).2
 have u3 := (le_hi hc).1
 have u4 := (le_hi hd).2
 simp only at u1 u2 a1' b1'
 constructor <;> simp only <;> omega
theorem implText_ev (l : List C) (h : Sh l) (hl : l.length ≤ 1048576) : Ev (fun k => impl_shapeText.f k l) (textP l) := by
 have hz := sz_ok h
 obtain ⟨z1, z2⟩ := hi_norm h
 unfold impl_shapeText.f
 refine Ev.bind (f := fun k o => (impl_reach.f k o).bind fun p => if (0 ≤ p.1 ∧ p.1 < 1000000) ∧ (0 ≤ p.2 ∧ p.2 < 1000000) ∧ ∀ c ∈ o, (0 ≤ c.f0 ∧ c.f0 ≤ p.1) ∧ 0 ≤ c.f1 ∧ c.f1 ≤ p.2 then some (joined_ (textRows_ (p.2.toNat + 1) (p.1.toNat + 1) o)) else none) (implNorm_ev l h.1 hl) ?_
 refine Ev.bind (f := fun _ p => if (0 ≤ p.1 ∧ p.1 < 1000000) ∧ (0 ≤ p.2 ∧ p.2 < 1000000) ∧ ∀ c ∈ normL l, (0 ≤ c.f0 ∧ c.f0 ≤ p.1) ∧ 0 ≤ c.f1 ∧ c.f1 ≤ p.2 then some (joined_ (textRows_ (p.2.toNat + 1) (p.1.toNat + 1) (normL l))) else none) (reach_ev (normL l) (by rw [normL_length]; exact h.1) (by rw [normL_length]; exact hl)) ?_
 have hin : ∀ c ∈ normL l, (0 ≤ c.f0 ∧ c.f0 ≤ (hi (normL l)).1) ∧ 0 ≤ c.f1 ∧ c.f1 ≤ (hi (normL l)).2 := by
  intro c hc
  have hc2 := le_hi hc
  rw [normL_eq h] at hc
  obtain ⟨d, hd, rfl⟩ := List.mem_map.1 hc
  have := norm_lt h hd
  exact ⟨⟨this.1, hc2.1⟩, this.2.2.1, hc2.2⟩
 have hv : (if (0 ≤ (hi (normL l)).1 ∧ (hi (normL l)).1 < 1000000) ∧ (0 ≤ (hi (normL l)).2 ∧ (hi (normL l)).2 < 1000000) ∧ ∀ c ∈ normL l, (0 ≤ c.f0 ∧ c.f0 ≤ (hi (normL l)).1) ∧ 0 ≤ c.f1 ∧ c.f1 ≤ (hi (normL l)).2 then some (joined_ (textRows_ ((hi (normL l)).2.toNat + 1) ((hi (normL l)).1.toNat + 1) (normL l))) else none) = some (textP l) := by
  rw [if_pos ⟨⟨by omega, by omega⟩, ⟨by omega, by omega⟩, hin⟩, textRows_eq _ _ _ (fun c hc => by have := hin c hc; omega), joined_T]
  unfold textP
  rw [show (hi (normL l)).1.toNat + 1 = (sz l).1.toNat by omega, show (hi (normL l)).2.toNat + 1 = (sz l).2.toNat by omega]
 exact ⟨0, fun k _ => hv⟩
end Go.Proofs.Ytbkafaoehheioaa.M
namespace Go.Proofs.Ytbkafaoehheioaa.Pure
set_option linter.unusedVariables false
set_option linter.unusedSimpArgs false
open Go.RowKit Go.Proofs.Ytbkafaoehheioaa.X Go.Proofs.YtbkafaoehheioaaW.PrintWords Go.Proofs.YtbkafaoehheioaaW.PrintLast Go.Proofs.YtbkafaoehheioaaW.PrintMore Go.Proofs.Ytbkafaoehheioaa.M
theorem name_sh {l : List C} (h : codeP l = 0) : Sh l := by
 rcases codeP_cases l with ⟨_, _, g⟩ | ⟨g, _⟩ | ⟨g, _⟩
 ·rw [g] at h; exact absurd h (by decide)
 ·exact g
 ·exact g
noncomputable def noP (l : List C) : ByteArray × Int := if codeP l = 0 then (textP (ro_ (tidyP (formsL l 8)) 0), 0) else (⟨#[]⟩, codeP l)
theorem free_sh {l : List C} (h : codeP l = 0) : Sh (ro_ (tidyP (formsL l 8)) 0) := by
 obtain ⟨h1, _⟩ := head_min (l := formsL l 8) (by rw [formsL_length]; decide)
 obtain ⟨t, ht, e⟩ := (formsL_mem l _ 8).1 h1
 rw [← e]
 exact name_sh (form_code h ht)
theorem specNo_ev (l : List C) (hl : l.length ≤ 1048576) : Ev (fun k => spec_NameOf.f k l) (noP l) := by
 unfold spec_NameOf.f
 refine Ev.bind (f := fun k t => if t = 0 then ((spec_l03Forms.f k l 8).bind fun t622 => (if 0 < (t622.length : Int) then ((spec_l04Text.f k (rd_L3 t622 0)).bind fun t626 => (some (t626, 0))) else (none))) else (some ((⟨#[]⟩ : ByteArray), t))) (scode_ev l hl) ?_
 unfold noP
 by_cases c : codeP l = 0
 ·have hs := name_sh c
  have h40 := hs.2.1
  have hf := free_sh c
  have hf40 := hf.2.1
  simp only [if_pos c]
  refine Ev.bind (f := fun k t622 => (if 0 < (t622.length : Int) then ((spec_l04Text.f k (rd_L3 t622 0)).bind fun t626 => (some (t626, (0 : Int)))) else (none))) (specForms_ev l 8 (Nat.le_refl _) hs.1 (by omega)) ?_
  have hp := tidyP_pos (l := formsL l 8) (by rw [formsL_length]; decide)
  have e0 : rd_L3 (tidyP (formsL l 8)) 0 = ro_ (tidyP (formsL l 8)) 0 := rd_ro _ 0
  simp only [if_pos (show 0 < ((tidyP (formsL l 8)).length : Int) by omega), e0]
  exact Ev.bind (f := fun _ t => some (t, (0 : Int))) (specText_ev _ hf (by omega)) (Ev.now _)
 ·simp only [if_neg c]
  exact Ev.now _
theorem implNo_ev (l : List C) (hl : l.length ≤ 1048576) : Ev (fun k => impl_NameOf.f k l) (noP l) := by
 unfold impl_NameOf.f
 refine Ev.bind (f := fun k t => if t = 0 then ((impl_freeForm.f k l).bind fun t680 => ((impl_shapeText.f k t680).bind fun t683 => (some (t683, 0)))) else (some ((⟨#[]⟩ : ByteArray), t))) (icode_ev l hl) ?_
 unfold noP
 by_cases c : codeP l = 0
 ·have hs := name_sh c
  have h40 := hs.2.1
  have hf := free_sh c
  have hf40 := hf.2.1
  simp only [if_pos c]
  have hff : Ev (fun k => impl_freeForm.f k l) (ro_ (tidyP (formsL l 8)) 0) := by
   unfold impl_freeForm.f
   refine Ev.bind (f := fun k t => (impl_leastOf.f k t).bind fun t676 => (some t676)) (implForms_ev l 8 (Nat.le_refl _) hs.1 (by omega)) ?_
   refine Ev.bind (f := fun _ t => some t) (leastOf_ev (formsL l 8) (by rw [formsL_length]; decide) (fun x hx => ?_) (by rw [formsL_length]; decide)) (Ev.now _)
   obtain ⟨t, _, e⟩ := (formsL_mem l _ 8).1 hx
   rw [← e, formP_length]; omega
  refine Ev.bind (f := fun k t680 => ((impl_shapeText.f k t680).bind fun t683 => (some (t683, (0 : Int))))) hff ?_
  exact Ev.bind (f := fun _ t => some (t, (0 : Int))) (implText_ev _ hf (by omega)) (Ev.now _)
 ·simp only [if_neg c]
  exact Ev.now _
theorem FnExactNameOf : laws_FnExactNameOf.Pure := by
 intro l hl hw
 rcases sz_cases l hl 1048576 (by omega) (by omega) with ⟨h, e⟩ | ⟨h, e⟩
 ·exact ⟨0, by simp only [laws_FnExactNameOf.f, e, Option.bind_some]; rfl⟩
 ·have h0 : ¬ (1048576 - (l.length : Int) < 0) := by omega
  have hc := cs_length l
  obtain ⟨K, e1, e2, e3, e4⟩ := ev4 (toCell_ev l (by omega)) (eqCell_ev (cs l) (by omega)) (specNo_ev (cs l) (by omega)) (implNo_ev (cs l) (by omega))
  refine ⟨K + 2, ?_⟩
  simp only [laws_FnExactNameOf.f, e, Option.bind_some, if_neg h0, e1, e2, e3, e4, bne_self_eq_false, Bool.false_eq_true, if_false, if_true, laws_FnExactNameOf.j0]
end Go.Proofs.Ytbkafaoehheioaa.Pure
