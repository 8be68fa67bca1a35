/- The program's ReadShape returns what the reference's returns, for all arguments, without any condition. -/
import Derived.Test.YtbfmocohknadkaaDoorXx0
import Derived.Test.YtbfmocohknadkaaDoorXx2
import Derived.Test.YtbfmocohknadkaaDoorXx3
import Derived.Test.YtbfmocohknadkaaDoorXx4
import Derived.Test.YtbfmocohknadkaaDoorXx5
namespace Go.Proofs.YtbfmocohknadkaaDoor.M
set_option linter.unusedVariables false
set_option linter.unusedSimpArgs false
open Go.RowKit Go.Proofs.YtbfmocohknadkaaDoor.X Go.Proofs.YtbfmocohknadkaaDoorW.PrintWords Go.Proofs.YtbfmocohknadkaaDoorW.PrintLast Go.Proofs.YtbfmocohknadkaaDoorW.PrintMore
theorem w64 {x : Int} (h1 : -9223372036854775808 ≤ x) (h2 : x ≤ 9223372036854775807) : wrap64 x = x := by unfold wrap64; omega
abbrev C := S29
def at_ (l : List C) (j : Nat) : C := l.getD j ⟨0, 0⟩
theorem rd_at (l : List C) (j : Nat) : rd_T29 l (j : Int) = at_ l j := by unfold rd_T29 at_; rw [Int.toNat_natCast]; rfl
theorem at_get (l : List C) (j : Nat) (h : j < l.length) : at_ l j = l[j] := by unfold at_; rw [List.getD_eq_getElem?_getD, List.getElem?_eq_getElem h]; rfl
theorem at_mem (l : List C) (j : Nat) (h : j < l.length) : at_ l j ∈ l := by rw [at_get l j h]; exact List.getElem_mem h
theorem drop_at (l : List C) (j : Nat) (h : j < l.length) : l.drop j = at_ l j :: l.drop (j + 1) := by rw [at_get l j h, List.drop_eq_getElem_cons h]
def AE (P : Nat → Prop) : Prop := ∃ K, ∀ k, K ≤ k → P k
theorem AE.and {P Q : Nat → Prop} (h : AE P) (g : AE Q) : AE (fun k => P k ∧ Q k) := by
 obtain ⟨K, h⟩ := h; obtain ⟨L, g⟩ := g
 exact ⟨K + L, fun k hk => ⟨h k (by omega), g k (by omega)⟩⟩
theorem AE.up {P : Nat → Prop} (h : AE P) : ∃ K, ∀ n, P (K + n) := by
 obtain ⟨K, h⟩ := h; exact ⟨K, fun n => h _ (by omega)⟩
theorem evae {α : Type} {g : Nat → Option α} {a : α} (h : Ev g a) : AE (fun k => g k = some a) := h
theorem ev2 {α0 α1 : Type} {g0 : Nat → Option α0} {g1 : Nat → Option α1} {a0 : α0} {a1 : α1} (h0 : Ev g0 a0) (h1 : Ev g1 a1) : ∃ K, (∀ n, g0 (K + n) = some a0) ∧ (∀ n, g1 (K + n) = some a1) := by
 obtain ⟨K, h⟩ := AE.up (AE.and (evae h0) (evae h1)); exact ⟨K, fun n => (h n).1, fun n => (h n).2⟩
theorem ev5 {α0 α1 α2 α3 α4 : Type} {g0 : Nat → Option α0} {g1 : Nat → Option α1} {g2 : Nat → Option α2} {g3 : Nat → Option α3} {g4 : Nat → Option α4} {a0 : α0} {a1 : α1} {a2 : α2} {a3 : α3} {a4 : α4} (h0 : Ev g0 a0) (h1 : Ev g1 a1) (h2 : Ev g2 a2) (h3 : Ev g3 a3) (h4 : Ev g4 a4) : ∃ K, (∀ n, g0 (K + n) = some a0) ∧ (∀ n, g1 (K + n) = some a1) ∧ (∀ n, g2 (K + n) = some a2) ∧ (∀ n, g3 (K + n) = some a3) ∧ (∀ n, g4 (K + n) = some a4) := by
 obtain ⟨K, h⟩ := AE.up (AE.and (evae h0) (AE.and (evae h1) (AE.and (evae h2) (AE.and (evae h3) (evae h4))))); exact ⟨K, fun n => (h n).1, fun n => (h n).2.1, fun n => (h n).2.2.1, fun n => (h n).2.2.2.1, fun n => (h n).2.2.2.2⟩
theorem ev_fold {σ β : Type} (F : Nat → σ → Int → Option β) (l : List C) (g : σ → C → σ) (fin : σ → Option β) (r : β) (inv : Nat → σ → Prop)
  (step : ∀ k s (j : Nat), j < l.length → at_ l j ∈ l → inv j s → F (k + 1) s (j : Nat) = F k (g s (at_ l j)) ((j + 1 : Nat) : Int) ∧ inv (j + 1) (g s (at_ l j)))
  (done : ∀ k s, inv l.length s → F (k + 1) s (l.length : Nat) = fin s) (j0 : Nat) (hj0 : j0 ≤ l.length) (s0 : σ) (h0 : inv j0 s0) (hr : fin ((l.drop j0).foldl g s0) = some r) : Ev (fun k => F k s0 (j0 : Nat)) r := by
 have key : ∀ d j : Nat, j + d = l.length → ∀ s, inv j s → fin ((l.drop j).foldl g s) = some r → Ev (fun k => F k s (j : Nat)) r := by
  intro d
  induction d with
  | zero =>
   intro j hj s hs hr
   obtain rfl : j = l.length := by omega
   refine Ev.step (fun k => done k s hs) ?_
   rw [List.drop_length] at hr
   have hr' : fin s = some r := hr
   rw [hr']; exact Ev.now r
  | succ d ih =>
   intro j hj s hs hr
   have h : j < l.length := by omega
   refine Ev.step (fun k => (step k s j h (at_mem l j h) hs).1) (ih (j + 1) (by omega) _ ((step 0 s j h (at_mem l j h) hs).2) ?_)
   rw [drop_at l j h] at hr; exact hr
 exact key (l.length - j0) j0 (by omega) s0 h0 hr
theorem eqCell_loop (l : List C) (hl : l.length ≤ 140737488355328) : ∀ d j : Nat, j + d = l.length → Ev (fun k => laws_eqCellS.l0 k l l (j : Nat)) true := by
 intro d
 induction d with
 | zero =>
  intro j hj
  refine Ev.step (fun k => ?_) (Ev.now _)
  simp only [laws_eqCellS.l0]; rw [if_neg (by omega)]
 | succ d ih =>
  intro j hj
  refine Ev.step (fun k => ?_) (ih (j + 1) (by omega))
  simp only [laws_eqCellS.l0, laws_eqCell.f, if_true, Option.bind_some]; rw [if_pos (by omega), if_pos (by omega), if_pos (by omega), w64 (by omega) (by omega)]; rfl
theorem eqCell_ev (l : List C) (hl : l.length ≤ 140737488355328) : Ev (fun k => laws_eqCellS.f k l l) true := by
 unfold laws_eqCellS.f
 simp only [if_true]
 exact eqCell_loop l hl l.length 0 (by omega)
theorem l01In_eq (a b c : Int) : spec_l01In.f a b c = some (decide (b ≤ a ∧ a ≤ c)) := by
 unfold spec_l01In.f; by_cases h : a ≥ b
 ·rw [if_pos h]; simp [h]
 ·rw [if_neg h]; simp; omega
theorem within_eq (a b c : Int) : impl_within.f a b c = some (decide (b ≤ a ∧ a ≤ c)) := l01In_eq a b c
def ltC (a b : C) : Prop := a.f1 < b.f1 ∨ (a.f1 = b.f1 ∧ a.f0 < b.f0)
instance (a b : C) : Decidable (ltC a b) := by unfold ltC; exact inferInstance
def okC (a : C) : Prop := -100 ≤ a.f0 ∧ a.f0 ≤ 100 ∧ -100 ≤ a.f1 ∧ a.f1 ≤ 100
instance (a : C) : Decidable (okC a) := by unfold okC; exact inferInstance
def Sh (l : List C) : Prop := 1 ≤ l.length ∧ l.length ≤ 40 ∧ (∀ i, i < l.length → okC (at_ l i)) ∧ (∀ i, i + 1 < l.length → ltC (at_ l i) (at_ l (i + 1)))
noncomputable def shB (l : List C) : Bool := @decide (Sh l) (Classical.propDecidable _)
theorem shB_true {l : List C} (h : Sh l) : shB l = true := @decide_eq_true _ (Classical.propDecidable _) h
theorem shB_false {l : List C} (h : ¬ Sh l) : shB l = false := @decide_eq_false _ (Classical.propDecidable _) h
theorem less_eq (a b c d : Int) : spec_l02Less.f a b c d = some (decide (ltC ⟨a, b⟩ ⟨c, d⟩)) := by
 unfold spec_l02Less.f ltC
 by_cases h : b < d
 ·rw [if_pos h]; simp [h]
 ·rw [if_neg h]
  by_cases e : b = d
  ·rw [if_pos e]; simp [e]
  ·rw [if_neg e]; simp [h, e]
theorem cellOk_eq (a b : Int) : spec_l02Cell.f a b = some (decide (okC ⟨a, b⟩)) := by
 unfold spec_l02Cell.f okC
 simp only [l01In_eq, Option.bind_some]
 by_cases h : -100 ≤ a ∧ a ≤ 100
 ·simp [h]
 ·simp only [decide_eq_false h, Bool.false_eq_true, if_false]; congr 1; exact (decide_eq_false (fun g => h ⟨g.1, g.2.1⟩)).symm
theorem isCo_eq (a : Int) : impl_isCoordinate.f a = some (decide (-100 ≤ a ∧ a ≤ 100)) := by
 unfold impl_isCoordinate.f; simp only [within_eq, Option.bind_some]
theorem cmp_eq (a b : Int) : cmp_Compare_int64.f a b = some (if a < b then -1 else if b < a then 1 else 0) := by
 unfold cmp_Compare_int64.f cmp_isNaN_int64.f
 simp only [bne_self_eq_false, Option.bind_some, Bool.false_eq_true, if_false]
 by_cases h : a < b
 ·simp [h]
 ·by_cases g : b < a <;> simp [h, g]
def cmpC (a b : C) : Int := if ltC a b then -1 else if ltC b a then 1 else 0
theorem cmpCells_eq (a b c d : Int) : impl_compareCells.f a b c d = some (cmpC ⟨a, b⟩ ⟨c, d⟩) := by
 unfold impl_compareCells.f cmpC ltC
 simp only [cmp_eq, Option.bind_some]
 by_cases h : b < d
 ·simp [h]
 ·by_cases g : d < b
  ·have : ¬ b = d := by omega
   have : ¬ d = b := by omega
   simp [*]
  ·obtain rfl : b = d := by omega
   simp [h]
theorem cmpC_neg (a b : C) : (0 ≤ cmpC a b) ↔ ¬ ltC a b := by
 unfold cmpC; by_cases h : ltC a b
 ·simp [h]
 ·simp only [h, if_false, not_false_eq_true, iff_true]; split <;> omega
theorem specShape_loop (l : List C) (hl : l.length ≤ 1048576) : ∀ d j : Nat, j + d = l.length → (∀ i, i < j → okC (at_ l i)) → (∀ i, i + 1 < j → ltC (at_ l i) (at_ l (i + 1))) → Ev (fun k => spec_IsShape.l0 k l (j : Nat)) (shB l) := by
 intro d
 induction d with
 | zero =>
  intro j hj h1 h2
  obtain rfl : j = l.length := by omega
  refine Ev.step (fun k => ?_) (Ev.now _)
  simp only [spec_IsShape.l0, l01In_eq, Option.bind_some]; rw [if_neg (by omega)]
  congr 1
  by_cases h : 1 ≤ l.length ∧ l.length ≤ 40
  ·rw [shB_true ⟨h.1, h.2, h1, h2⟩]; exact decide_eq_true (by omega)
  ·rw [shB_false (fun g => h ⟨g.1, g.2.1⟩)]; exact decide_eq_false (by omega)
 | succ d ih =>
  intro j hj h1 h2
  by_cases c1 : okC (at_ l j)
  ·have c1' : okC ⟨(at_ l j).f0, (at_ l j).f1⟩ := c1
   by_cases c2 : j = 0
   ·subst c2
    refine Ev.step (fun k => ?_) (ih 1 (by omega) (fun i hi => by obtain rfl : i = 0 := (by omega); exact c1) (fun i hi => by omega))
    simp only [spec_IsShape.l0, rd_at, cellOk_eq, decide_eq_true c1', Option.bind_some, if_true]
    rw [if_pos (by omega), if_pos (by omega), if_neg (by omega), w64 (by omega) (by omega)]; rfl
   ·obtain ⟨i, rfl⟩ : ∃ i, j = i + 1 := ⟨j - 1, by omega⟩
    have e : wrap64 (((i + 1 : Nat) : Int) - 1) = (i : Nat) := by rw [w64 (by omega) (by omega)]; omega
    by_cases c3 : ltC (at_ l i) (at_ l (i + 1))
    ·have c3' : ltC ⟨(at_ l i).f0, (at_ l i).f1⟩ ⟨(at_ l (i + 1)).f0, (at_ l (i + 1)).f1⟩ := c3
     refine Ev.step (fun k => ?_) (ih (i + 1 + 1) (by omega) (fun x hx => if g : x = i + 1 then by rw [g]; exact c1 else h1 x (by omega)) (fun x hx => if g : x = i then by rw [g]; exact c3 else h2 x (by omega)))
     simp only [spec_IsShape.l0, rd_at, cellOk_eq, decide_eq_true c1', Option.bind_some, if_true, e, less_eq, decide_eq_true c3']
     rw [if_pos (by omega), if_pos (by omega), if_pos (by omega), if_pos (by omega), if_pos (by omega), w64 (by omega) (by omega)]; rfl
    ·have c3' : ¬ ltC ⟨(at_ l i).f0, (at_ l i).f1⟩ ⟨(at_ l (i + 1)).f0, (at_ l (i + 1)).f1⟩ := c3
     rw [shB_false (fun g => c3 (g.2.2.2 i (by omega)))]
     refine Ev.step (fun k => ?_) (Ev.now _)
     simp only [spec_IsShape.l0, rd_at, cellOk_eq, decide_eq_true c1', Option.bind_some, if_true, e, less_eq, decide_eq_false c3', Bool.false_eq_true, if_false]
     rw [if_pos (by omega), if_pos (by omega), if_pos (by omega), if_pos (by omega), if_pos (by omega)]
  ·have c1' : ¬ okC ⟨(at_ l j).f0, (at_ l j).f1⟩ := c1
   rw [shB_false (fun g => c1 (g.2.2.1 j (by omega)))]
   refine Ev.step (fun k => ?_) (Ev.now _)
   simp only [spec_IsShape.l0, rd_at, cellOk_eq, decide_eq_false c1', Option.bind_some, Bool.false_eq_true, if_false]
   rw [if_pos (by omega), if_pos (by omega)]
theorem specShape_ev (l : List C) (hl : l.length ≤ 1048576) : Ev (fun k => spec_IsShape.f k l) (shB l) :=
 specShape_loop l hl l.length 0 (by omega) (fun i hi => by omega) (fun i hi => by omega)
theorem implShape_loop (l : List C) (hl : l.length ≤ 1048576) : ∀ d j : Nat, j + d = l.length → (∀ i, i < j → okC (at_ l i)) → (∀ i, i + 1 < j → ltC (at_ l i) (at_ l (i + 1))) → Ev (fun k => impl_IsShape.l0 k l l (l.length : Int) (j : Nat)) (shB l) := by
 intro d
 induction d with
 | zero =>
  intro j hj h1 h2
  obtain rfl : j = l.length := by omega
  refine Ev.step (fun k => ?_) (Ev.now _)
  simp only [impl_IsShape.l0]; rw [if_neg (by omega)]
  by_cases h : 1 ≤ l.length ∧ l.length ≤ 40
  ·rw [shB_true ⟨h.1, h.2, h1, h2⟩, if_pos (by omega)]; congr 1; exact decide_eq_true (by omega)
  ·rw [shB_false (fun g => h ⟨g.1, g.2.1⟩)]
   by_cases g : (l.length : Int) ≥ 1
   ·rw [if_pos g]; congr 1; exact decide_eq_false (by omega)
   ·rw [if_neg g]
 | succ d ih =>
  intro j hj h1 h2
  by_cases c1 : okC (at_ l j)
  ·have ca : -100 ≤ (at_ l j).f0 ∧ (at_ l j).f0 ≤ 100 := ⟨c1.1, c1.2.1⟩
   have cb : -100 ≤ (at_ l j).f1 ∧ (at_ l j).f1 ≤ 100 := c1.2.2
   by_cases c2 : j = 0
   ·subst c2
    refine Ev.step (fun k => ?_) (ih 1 (by omega) (fun i hi => by obtain rfl : i = 0 := (by omega); exact c1) (fun i hi => by omega))
    simp only [impl_IsShape.l0, rd_at, isCo_eq, decide_eq_true ca, decide_eq_true cb, Option.bind_some, if_true]
    rw [if_pos (by omega), if_pos (by omega), if_pos (by omega), if_neg (by omega), w64 (by omega) (by omega)]; rfl
   ·obtain ⟨i, rfl⟩ : ∃ i, j = i + 1 := ⟨j - 1, by omega⟩
    have e : wrap64 (((i + 1 : Nat) : Int) - 1) = (i : Nat) := by rw [w64 (by omega) (by omega)]; omega
    by_cases c3 : ltC (at_ l i) (at_ l (i + 1))
    ·have c3' : ¬ (cmpC ⟨(at_ l i).f0, (at_ l i).f1⟩ ⟨(at_ l (i + 1)).f0, (at_ l (i + 1)).f1⟩ ≥ 0) := fun g => (cmpC_neg _ _).1 g c3
     refine Ev.step (fun k => ?_) (ih (i + 1 + 1) (by omega) (fun x hx => if g : x = i + 1 then by rw [g]; exact c1 else h1 x (by omega)) (fun x hx => if g : x = i then by rw [g]; exact c3 else h2 x (by omega)))
     simp only [impl_IsShape.l0, rd_at, isCo_eq, decide_eq_true ca, decide_eq_true cb, Option.bind_some, if_true, e, cmpCells_eq, if_neg c3']
     rw [if_pos (by omega), if_pos (by omega), if_pos (by omega), if_pos (by omega), if_pos (by omega), if_pos (by omega), w64 (by omega) (by omega)]; rfl
    ·have c3' : cmpC ⟨(at_ l i).f0, (at_ l i).f1⟩ ⟨(at_ l (i + 1)).f0, (at_ l (i + 1)).f1⟩ ≥ 0 := (cmpC_neg _ _).2 c3
     rw [shB_false (fun g => c3 (g.2.2.2 i (by omega)))]
     refine Ev.step (fun k => ?_) (Ev.now _)
     simp only [impl_IsShape.l0, rd_at, isCo_eq, decide_eq_true ca, decide_eq_true cb, Option.bind_some, if_true, e, cmpCells_eq, if_pos c3']
     rw [if_pos (by omega), if_pos (by omega), if_pos (by omega), if_pos (by omega), if_pos (by omega), if_pos (by omega)]
  ·rw [shB_false (fun g => c1 (g.2.2.1 j (by omega)))]
   refine Ev.step (fun k => ?_) (Ev.now _)
   simp only [impl_IsShape.l0, rd_at, isCo_eq, Option.bind_some]
   rw [if_pos (by omega), if_pos (by omega), if_pos (by omega)]
   by_cases ca : -100 ≤ (at_ l j).f0 ∧ (at_ l j).f0 ≤ 100
   ·have cb : ¬ (-100 ≤ (at_ l j).f1 ∧ (at_ l j).f1 ≤ 100) := fun cb => c1 ⟨ca.1, ca.2, cb.1, cb.2⟩
    simp only [decide_eq_true ca, decide_eq_false cb, if_true, Bool.false_eq_true, if_false]
   ·simp only [decide_eq_false ca, Bool.false_eq_true, if_false]
theorem implShape_ev (l : List C) (hl : l.length ≤ 1048576) : Ev (fun k => impl_IsShape.f k l) (shB l) :=
 implShape_loop l hl l.length 0 (by omega) (fun i hi => by omega) (fun i hi => by omega)
theorem mem_at {l : List C} {c : C} (h : c ∈ l) : ∃ i, i < l.length ∧ at_ l i = c := by
 obtain ⟨i, hi, e⟩ := List.mem_iff_getElem.1 h
 exact ⟨i, hi, (at_get l i hi).trans e⟩
theorem Sh.ok {l : List C} (h : Sh l) {c : C} (hc : c ∈ l) : okC c := by
 obtain ⟨i, hi, rfl⟩ := mem_at hc
 exact h.2.2.1 i hi
theorem sh_cases (l : List C) : (Sh l ∧ shB l = true) ∨ (¬ Sh l ∧ shB l = false) := by
 by_cases h : Sh l
 ·exact Or.inl ⟨h, shB_true h⟩
 ·exact Or.inr ⟨h, shB_false h⟩
def mrk (m : Int) (n : Nat) : List C := (List.range n).map fun i => ⟨m + 2 * (i : Nat), m + 2 * (i : Nat) + 1⟩
theorem mrk_length (m : Int) (n : Nat) : (mrk m n).length = n := by simp [mrk]
theorem mrk_get (m : Int) (n i : Nat) (h : i < n) : (mrk m n)[i]? = some ⟨m + 2 * (i : Nat), m + 2 * (i : Nat) + 1⟩ := by
 unfold mrk; rw [List.getElem?_map, List.getElem?_range h]; rfl
theorem mrk_at (m : Int) (n i : Nat) (h : i < n) : at_ (mrk m n) i = ⟨m + 2 * (i : Nat), m + 2 * (i : Nat) + 1⟩ := by
 unfold at_; rw [List.getD_eq_getElem?_getD, mrk_get m n i h]; rfl
theorem markCell_loop (m : Int) (n : Nat) (hn : n ≤ 1048576) (hm : 0 ≤ m) (hm2 : m ≤ 9223372036850000000) : ∀ d j : Nat, j + d = n → ∀ x : List C, x.length = n → (∀ i, i < j → x[i]? = (mrk m n)[i]?) →
  Ev (fun k => laws_markCellS.l0 k x (m + 2 * (j : Nat)) (j : Nat)) (m + 2 * (n : Nat), mrk m n) := by
 intro d
 induction d with
 | zero =>
  intro j hj x hx hi
  obtain rfl : x = mrk m n := by
   apply List.ext_getElem?
   intro i
   by_cases h : i < j
   ·exact hi i h
   ·rw [List.getElem?_eq_none (by omega), List.getElem?_eq_none (by rw [mrk_length]; omega)]
  obtain rfl : j = n := by omega
  refine Ev.step (fun k => ?_) (Ev.now _)
  simp only [laws_markCellS.l0, mrk_length]; rw [if_neg (by omega)]
 | succ d ih =>
  intro j hj x hx hi
  refine Ev.step (fun k => ?_) (ih (j + 1) (by omega) (x.set j ⟨m + 2 * (j : Nat), m + 2 * (j : Nat) + 1⟩) (by rw [List.length_set]; exact hx) ?_)
  ·simp only [laws_markCellS.l0, Option.bind_some]
   rw [if_pos (by omega), if_pos (by omega), w64 (x := (j : Int) + 1) (by omega) (by omega), w64 (x := m + 2 * (j : Nat) + 1) (by omega) (by omega), w64 (by omega) (by omega), rd_at, rd_at, List.set_set]
   have e : at_ (x.set ((j : Int).toNat) ⟨m + 2 * (j : Nat), (at_ x j).f1⟩) j = ⟨m + 2 * (j : Nat), (at_ x j).f1⟩ := by
    rw [at_get _ _ (by rw [List.length_set]; omega), Int.toNat_natCast, List.getElem_set_self]
   rw [e]
   show laws_markCellS.l0 k (x.set j ⟨m + 2 * (j : Nat), m + 2 * (j : Nat) + 1⟩) (m + 2 * (j : Nat) + 1 + 1) ((j : Int) + 1) = laws_markCellS.l0 k _ (m + 2 * ((j + 1 : Nat) : Int)) ((j + 1 : Nat) : Int)
   congr 1
   omega
  ·intro i h
   rw [List.getElem?_set]
   by_cases e : j = i
   ·subst e; rw [if_pos rfl, if_pos (by omega), mrk_get m n j (by omega)]
   ·rw [if_neg e]; exact hi i (by omega)
theorem markCell_ev (l : List C) (m : Int) (hl : l.length ≤ 1048576) (hm : 0 ≤ m) (hm2 : m ≤ 9223372036850000000) : Ev (fun k => laws_markCellS.f k l m) (m + 2 * (l.length : Int), mrk m l.length) := by
 have h := markCell_loop m l.length hl hm hm2 l.length 0 (by omega) l rfl (by intro i h; omega)
 rw [show m + 2 * ((0 : Nat) : Int) = m from by omega] at h
 exact h
theorem heldCell_loop (m : Int) (n : Nat) (hn : n ≤ 1048576) (hm : 0 ≤ m) (hm2 : m ≤ 9223372036850000000) : ∀ d j : Nat, j + d = n → Ev (fun k => laws_heldCellS.l0 k (mrk m n) (m + 2 * (j : Nat)) (j : Nat)) (m + 2 * (n : Nat)) := by
 intro d
 induction d with
 | zero =>
  intro j hj
  obtain rfl : j = n := by omega
  refine Ev.step (fun k => ?_) (Ev.now _)
  simp only [laws_heldCellS.l0, mrk_length]; rw [if_neg (by omega)]
 | succ d ih =>
  intro j hj
  refine Ev.step (fun k => ?_) (ih (j + 1) (by omega))
  simp only [laws_heldCellS.l0, mrk_length, rd_at]
  rw [mrk_at m n j (by omega), if_pos (by omega), if_pos (by omega), if_pos rfl, w64 (x := m + 2 * (j : Nat) + 1) (by omega) (by omega), if_pos rfl, w64 (x := (j : Int) + 1) (by omega) (by omega), w64 (by omega) (by omega)]
  congr 1
  omega
theorem heldCell_ev (m : Int) (n : Nat) (hn : n ≤ 1048576) (hm : 0 ≤ m) (hm2 : m ≤ 9223372036850000000) : Ev (fun k => laws_heldCellS.f k (mrk m n) m) (m + 2 * (n : Nat)) := by
 have h := heldCell_loop m n hn hm hm2 n 0 (by omega)
 rw [show m + 2 * ((0 : Nat) : Int) = m from by omega] at h
 exact h
theorem foldl_pair (g1 g2 : Int → C → Int) (l : List C) : ∀ a b, l.foldl (fun (s : Int × Int) c => (g1 s.1 c, g2 s.2 c)) (a, b) = (l.foldl g1 a, l.foldl g2 b) := by
 induction l with
 | nil => intro a b; rfl
 | cons c r ih => intro a b; exact ih _ _
def mxF (f : C → Int) (l : List C) (s : Int) : Int := l.foldl (fun s c => mx s (f c)) s
def mnF (f : C → Int) (l : List C) (s : Int) : Int := l.foldl (fun s c => mn s (f c)) s
theorem mxF_spec (f : C → Int) (l : List C) : ∀ s, s ≤ mxF f l s ∧ (∀ c ∈ l, f c ≤ mxF f l s) ∧ (mxF f l s = s ∨ ∃ c ∈ l, mxF f l s = f c) := by
 induction l with
 | nil => intro s; exact ⟨Int.le_refl _, (fun c h => by cases h), Or.inl rfl⟩
 | cons d r ih =>
  intro s
  obtain ⟨h1, h2, h3⟩ := ih (mx s (f d))
  have e : mxF f (d :: r) s = mxF f r (mx s (f d)) := rfl
  rw [e]
  have m1 : s ≤ mx s (f d) ∧ f d ≤ mx s (f d) ∧ (mx s (f d) = s ∨ mx s (f d) = f d) := by unfold mx; split <;> omega
  refine ⟨by omega, fun c hc => ?_, ?_⟩
  ·rcases List.mem_cons.1 hc with rfl | hc
   ·omega
   ·exact h2 c hc
  ·rcases h3 with h3 | ⟨c, hc, h3⟩
   ·rcases m1.2.2 with m | m
    ·exact Or.inl (h3.trans m)
    ·exact Or.inr ⟨d, List.mem_cons_self, h3.trans m⟩
   ·exact Or.inr ⟨c, List.mem_cons_of_mem _ hc, h3⟩
theorem mnF_spec (f : C → Int) (l : List C) : ∀ s, mnF f l s ≤ s ∧ (∀ c ∈ l, mnF f l s ≤ f c) ∧ (mnF f l s = s ∨ ∃ c ∈ l, mnF f l s = f c) := by
 induction l with
 | nil => intro s; exact ⟨Int.le_refl _, (fun c h => by cases h), Or.inl rfl⟩
 | cons d r ih =>
  intro s
  obtain ⟨h1, h2, h3⟩ := ih (mn s (f d))
  have e : mnF f (d :: r) s = mnF f r (mn s (f d)) := rfl
  rw [e]
  have m1 : mn s (f d) ≤ s ∧ mn s (f d) ≤ f d ∧ (mn s (f d) = s ∨ mn s (f d) = f d) := by unfold mn; split <;> omega
  refine ⟨by omega, fun c hc => ?_, ?_⟩
  ·rcases List.mem_cons.1 hc with rfl | hc
   ·omega
   ·exact h2 c hc
  ·rcases h3 with h3 | ⟨c, hc, h3⟩
   ·rcases m1.2.2 with m | m
    ·exact Or.inl (h3.trans m)
    ·exact Or.inr ⟨d, List.mem_cons_self, h3.trans m⟩
   ·exact Or.inr ⟨c, List.mem_cons_of_mem _ hc, h3⟩
def lo (l : List C) : Int × Int := (mnF (fun c => c.f0) l (at_ l 0).f0, mnF (fun c => c.f1) l (at_ l 0).f1)
def hi (l : List C) : Int × Int := (mxF (fun c => c.f0) l (at_ l 0).f0, mxF (fun c => c.f1) l (at_ l 0).f1)
theorem mn_self (a : Int) : mn a a = a := by unfold mn; split <;> omega
theorem lo_drop (l : List C) (h : 0 < l.length) : lo l = (mnF (fun c => c.f0) (l.drop 1) (at_ l 0).f0, mnF (fun c => c.f1) (l.drop 1) (at_ l 0).f1) := by
 have e := drop_at l 0 h
 rw [List.drop_zero] at e
 unfold lo
 have e0 : mnF (fun c => c.f0) l (at_ l 0).f0 = mnF (fun c => c.f0) (l.drop 1) (at_ l 0).f0 := by
  conv => lhs; rw [e]
  show mnF _ (l.drop (0 + 1)) (mn (at_ (at_ l 0 :: l.drop (0 + 1)) 0).f0 (at_ l 0).f0) = _
  rw [show at_ (at_ l 0 :: l.drop (0 + 1)) 0 = at_ l 0 from rfl, mn_self]
 have e1 : mnF (fun c => c.f1) l (at_ l 0).f1 = mnF (fun c => c.f1) (l.drop 1) (at_ l 0).f1 := by
  conv => lhs; rw [e]
  show mnF _ (l.drop (0 + 1)) (mn (at_ (at_ l 0 :: l.drop (0 + 1)) 0).f1 (at_ l 0).f1) = _
  rw [show at_ (at_ l 0 :: l.drop (0 + 1)) 0 = at_ l 0 from rfl, mn_self]
 rw [e0, e1]
theorem lo_le {l : List C} {c : C} (h : c ∈ l) : (lo l).1 ≤ c.f0 ∧ (lo l).2 ≤ c.f1 := ⟨(mnF_spec _ l _).2.1 c h, (mnF_spec _ l _).2.1 c h⟩
theorem le_hi {l : List C} {c : C} (h : c ∈ l) : c.f0 ≤ (hi l).1 ∧ c.f1 ≤ (hi l).2 := ⟨(mxF_spec _ l _).2.1 c h, (mxF_spec _ l _).2.1 c h⟩
theorem lo_mem0 {l : List C} (h : 0 < l.length) : ∃ c ∈ l, (lo l).1 = c.f0 := by
 rcases (mnF_spec (fun c : C => c.f0) l (at_ l 0).f0).2.2 with e | ⟨c, hc, e⟩
 ·exact ⟨at_ l 0, at_mem l 0 h, e⟩
 ·exact ⟨c, hc, e⟩
theorem lo_mem1 {l : List C} (h : 0 < l.length) : ∃ c ∈ l, (lo l).2 = c.f1 := by
 rcases (mnF_spec (fun c : C => c.f1) l (at_ l 0).f1).2.2 with e | ⟨c, hc, e⟩
 ·exact ⟨at_ l 0, at_mem l 0 h, e⟩
 ·exact ⟨c, hc, e⟩
theorem hi_mem0 {l : List C} (h : 0 < l.length) : ∃ c ∈ l, (hi l).1 = c.f0 := by
 rcases (mxF_spec (fun c : C => c.f0) l (at_ l 0).f0).2.2 with e | ⟨c, hc, e⟩
 ·exact ⟨at_ l 0, at_mem l 0 h, e⟩
 ·exact ⟨c, hc, e⟩
theorem hi_mem1 {l : List C} (h : 0 < l.length) : ∃ c ∈ l, (hi l).2 = c.f1 := by
 rcases (mxF_spec (fun c : C => c.f1) l (at_ l 0).f1).2.2 with e | ⟨c, hc, e⟩
 ·exact ⟨at_ l 0, at_mem l 0 h, e⟩
 ·exact ⟨c, hc, e⟩
def sz (l : List C) : Int × Int := ((hi l).1 - (lo l).1 + 1, (hi l).2 - (lo l).2 + 1)
def movC (a b : Int) (c : C) : C := ⟨wrap64 (c.f0 + a), wrap64 (c.f1 + b)⟩
def movL (a b : Int) (l : List C) : List C := l.map (movC a b)
theorem movL_length (a b : Int) (l : List C) : (movL a b l).length = l.length := by simp [movL]
theorem foldl_append_map {α β : Type} (f : α → β) (l : List α) : ∀ s : List β, l.foldl (fun s c => s ++ [f c]) s = s ++ l.map f := by
 induction l with
 | nil => intro s; simp
 | cons c r ih => intro s; rw [List.foldl_cons, ih]; simp
def normL (l : List C) : List C := movL (wrap64 (-(lo l).1)) (wrap64 (-(lo l).2)) l
theorem normL_length (l : List C) : (normL l).length = l.length := movL_length _ _ _
theorem lo_ok {l : List C} (h : Sh l) : -100 ≤ (lo l).1 ∧ (lo l).1 ≤ 100 ∧ -100 ≤ (lo l).2 ∧ (lo l).2 ≤ 100 := by
 obtain ⟨c0, hc0, b0⟩ := lo_mem0 (l := l) (by have := h.1; omega)
 obtain ⟨c1, hc1, b1⟩ := lo_mem1 (l := l) (by have := h.1; omega)
 have o0 := h.ok hc0
 have o1 := h.ok hc1
 unfold okC at o0 o1
 omega
theorem hi_ok {l : List C} (h : Sh l) : -100 ≤ (hi l).1 ∧ (hi l).1 ≤ 100 ∧ -100 ≤ (hi l).2 ∧ (hi l).2 ≤ 100 := by
 obtain ⟨c0, hc0, b0⟩ := hi_mem0 (l := l) (by have := h.1; omega)
 obtain ⟨c1, hc1, b1⟩ := hi_mem1 (l := l) (by have := h.1; omega)
 have o0 := h.ok hc0
 have o1 := h.ok hc1
 unfold okC at o0 o1
 omega
theorem normC_eq {l : List C} (h : Sh l) {c : C} (hc : c ∈ l) : movC (wrap64 (-(lo l).1)) (wrap64 (-(lo l).2)) c = ⟨c.f0 - (lo l).1, c.f1 - (lo l).2⟩ := by
 have a := lo_ok h
 have b := h.ok hc
 unfold okC at b
 unfold movC
 rw [w64 (x := -(lo l).1) (by omega) (by omega), w64 (x := -(lo l).2) (by omega) (by omega), w64 (by omega) (by omega), w64 (by omega) (by omega)]
 rfl
theorem normL_eq {l : List C} (h : Sh l) : normL l = l.map fun c => ⟨c.f0 - (lo l).1, c.f1 - (lo l).2⟩ := by
 unfold normL movL
 exact List.map_congr_left fun c hc => normC_eq h hc
theorem sz_ok {l : List C} (h : Sh l) : 1 ≤ (sz l).1 ∧ (sz l).1 ≤ 201 ∧ 1 ≤ (sz l).2 ∧ (sz l).2 ≤ 201 := by
 have a := lo_ok h
 have b := hi_ok h
 have h1 := h.1
 have c := lo_le (at_mem l 0 (by omega))
 have d := le_hi (at_mem l 0 (by omega))
 unfold sz
 simp only []
 omega
theorem norm_lt {l : List C} (h : Sh l) {c : C} (hc : c ∈ l) : 0 ≤ c.f0 - (lo l).1 ∧ c.f0 - (lo l).1 < (sz l).1 ∧ 0 ≤ c.f1 - (lo l).2 ∧ c.f1 - (lo l).2 < (sz l).2 := by
 have a := lo_le hc
 have b := le_hi hc
 unfold sz
 simp only []
 omega
-- USES Base Cell In Shape ShUse
-- USES Base Cell In Shape ShUse Fold Moved Norm Sort
-- USES Base Cell
-- USES Base Cell In Shape ShUse FoldE Sort
theorem least_ev (l : List C) (h : 0 < l.length) (hl : l.length ≤ 1048576) : Ev (fun k => spec_l02Least.f k l) (lo l) := by
 unfold spec_l02Least.f
 simp only [if_pos (show 0 < (l.length : Int) by omega)]
 have e0 : rd_T29 l 0 = at_ l 0 := rd_at l 0
 rw [e0]
 refine ev_fold (fun k (s : Int × Int) j => spec_l02Least.l0 k l s.1 s.2 j) l (fun s c => (mn s.1 c.f0, mn s.2 c.f1)) some _ (fun _ _ => True) ?_ ?_ 1 (by omega) ((at_ l 0).f0, (at_ l 0).f1) trivial ?_
 ·intro k s j hj hm _
  refine ⟨?_, trivial⟩
  simp only [spec_l02Least.l0, rd_at]; rw [if_pos (by omega), if_pos (by omega), w64 (x := (j : Int) + 1) (by omega) (by omega)]; rfl
 ·intro k s _
  simp only [spec_l02Least.l0]; rw [if_neg (by omega)]
 ·rw [foldl_pair (fun s c => mn s c.f0) (fun s c => mn s c.f1), lo_drop l h]; rfl
theorem specMove_ev (l : List C) (a b : Int) (hl : l.length ≤ 1048576) : Ev (fun k => spec_l02Move.f k l a b) (movL a b l) := by
 unfold spec_l02Move.f
 refine ev_fold (fun k (s : List C) j => spec_l02Move.l0 k l a b s j) l (fun s c => s ++ [movC a b c]) some _ (fun j s => s.length = j) ?_ ?_ 0 (by omega) [] rfl ?_
 ·intro k s j hj hm hs
  refine ⟨?_, by simp [hs]⟩
  simp only [spec_l02Move.l0, rd_at]; rw [if_pos (by omega), if_pos (by omega), if_pos (by omega), w64 (x := (j : Int) + 1) (by omega) (by omega)]; rfl
 ·intro k s _
  simp only [spec_l02Move.l0]; rw [if_neg (by omega)]
 ·rw [List.drop_zero, foldl_append_map]; rfl
theorem specNorm_ev (l : List C) (h : 0 < l.length) (hl : l.length ≤ 1048576) : Ev (fun k => spec_l02Normal.f k l) (normL l) := by
 obtain ⟨K, h1, h2⟩ := ev2 (least_ev l h hl) (specMove_ev l (wrap64 (-(lo l).1)) (wrap64 (-(lo l).2)) hl)
 refine ⟨K, fun k hk => ?_⟩
 obtain ⟨n, rfl⟩ : ∃ n, k = K + n := ⟨k - K, by omega⟩
 simp only [spec_l02Normal.f, h1, h2, Option.bind_some]; rfl
-- USES Base Cell In Shape ShUse Fold Moved Norm Sort Turn FoldE SortS NormS
-- USES Base Cell In Shape ShUse Fold Moved Norm Sort Turn TurnS
-- USES Base Cell In Shape ShUse Sort
-- USES Base Cell In Shape ShUse Sort SortI
theorem corner_ev (l : List C) (h : 0 < l.length) (hl : l.length ≤ 1048576) : Ev (fun k => impl_corner.f k l) (lo l) := by
 unfold impl_corner.f
 simp only [if_pos (show 0 < (l.length : Int) by omega)]
 have e0 : rd_T29 l 0 = at_ l 0 := rd_at l 0
 rw [e0]
 refine ev_fold (fun k (s : Int × Int) j => impl_corner.l0 k l (l.length : Int) j s.1 s.2) l (fun s c => (mn s.1 c.f0, mn s.2 c.f1)) some _ (fun _ _ => True) ?_ ?_ 0 (by omega) ((at_ l 0).f0, (at_ l 0).f1) trivial ?_
 ·intro k s j hj hm _
  refine ⟨?_, trivial⟩
  simp only [impl_corner.l0, rd_at]; rw [if_pos (by omega), if_pos (by omega), if_pos (by omega), w64 (x := (j : Int) + 1) (by omega) (by omega)]; rfl
 ·intro k s _
  simp only [impl_corner.l0]; rw [if_neg (by omega)]
 ·rw [List.drop_zero, foldl_pair (fun s c => mn s c.f0) (fun s c => mn s c.f1)]; rfl
theorem implMove_ev (l : List C) (a b : Int) (hl : l.length ≤ 1048576) : Ev (fun k => impl_moved.f k l a b) (movL a b l) := by
 unfold impl_moved.f
 simp only [if_pos (show 0 ≤ (l.length : Int) by omega), if_pos (show ((l.length : Int)).toNat ≤ 17592186044416 by omega)]
 refine ev_fold (fun k (s : List C) j => impl_moved.l0 k a b s l (l.length : Int) j) l (fun s c => s ++ [movC a b c]) some _ (fun j s => s.length = j) ?_ ?_ 0 (by omega) [] rfl ?_
 ·intro k s j hj hm hs
  refine ⟨?_, by simp [hs]⟩
  simp only [impl_moved.l0, rd_at]; rw [if_pos (by omega), if_pos (by omega), if_pos (by omega), if_pos (by omega), w64 (x := (j : Int) + 1) (by omega) (by omega)]; rfl
 ·intro k s _
  simp only [impl_moved.l0]; rw [if_neg (by omega)]
 ·rw [List.drop_zero, foldl_append_map]; rfl
theorem implNorm_ev (l : List C) (h : 0 < l.length) (hl : l.length ≤ 1048576) : Ev (fun k => impl_normal.f k l) (normL l) := by
 obtain ⟨K, h1, h2⟩ := ev2 (corner_ev l h hl) (implMove_ev l (wrap64 (-(lo l).1)) (wrap64 (-(lo l).2)) hl)
 refine ⟨K, fun k hk => ?_⟩
 obtain ⟨n, rfl⟩ : ∃ n, k = K + n := ⟨k - K, by omega⟩
 simp only [impl_normal.f, h1, h2, Option.bind_some]; rfl
-- USES Base Cell In Shape ShUse Fold Moved Norm Sort Turn FoldE SortI ImplSort NormI TurnS
theorem specSize_ev (l : List C) (h : Sh l) : Ev (fun k => spec_l04Size.f k l) (sz l) := by
 have hn := h.1
 have hm40 := h.2.1
 unfold spec_l04Size.f
 refine Ev.bind (f := fun k (bt : Int × Int) => spec_l04Size.l0 k l bt.1 bt.2 0 0 0) (least_ev l (by omega) (by omega)) ?_
 obtain ⟨c0, hc0, b0⟩ := lo_mem0 (l := l) (by omega)
 obtain ⟨c1, hc1, b1⟩ := lo_mem1 (l := l) (by omega)
 have o0 := h.ok hc0
 have o1 := h.ok hc1
 unfold okC at o0 o1
 refine ev_fold (fun k (s : Int × Int) j => spec_l04Size.l0 k l (lo l).1 (lo l).2 s.1 s.2 j) l (fun s c => (mx s.1 (wrap64 (wrap64 (c.f0 - (lo l).1) + 1)), mx s.2 (wrap64 (wrap64 (c.f1 - (lo l).2) + 1)))) some _ (fun _ _ => True) ?_ ?_ 0 (by omega) (0, 0) trivial ?_
 ·intro k s j hj hm _
  refine ⟨?_, trivial⟩
  simp only [spec_l04Size.l0, rd_at]; rw [if_pos (by omega), if_pos (by omega), w64 (x := (j : Int) + 1) (by omega) (by omega)]; rfl
 ·intro k s _
  simp only [spec_l04Size.l0]; rw [if_neg (by omega)]
 ·rw [List.drop_zero, foldl_pair (fun s c => mx s (wrap64 (wrap64 (c.f0 - (lo l).1) + 1))) (fun s c => mx s (wrap64 (wrap64 (c.f1 - (lo l).2) + 1)))]
  have wr : ∀ a b : Int, -100 ≤ a → a ≤ 100 → -100 ≤ b → b ≤ 100 → wrap64 (wrap64 (a - b) + 1) = a - b + 1 := by
   intro a b _ _ _ _; rw [w64 (x := a - b) (by omega) (by omega), w64 (by omega) (by omega)]
  have m0 := mxF_spec (fun c => wrap64 (wrap64 (c.f0 - (lo l).1) + 1)) l 0
  have m1 := mxF_spec (fun c => wrap64 (wrap64 (c.f1 - (lo l).2) + 1)) l 0
  have f0 : ∀ c ∈ l, wrap64 (wrap64 (c.f0 - (lo l).1) + 1) = c.f0 - (lo l).1 + 1 := fun c hc => by have := h.ok hc; unfold okC at this; exact wr _ _ (by omega) (by omega) (by omega) (by omega)
  have f1 : ∀ c ∈ l, wrap64 (wrap64 (c.f1 - (lo l).2) + 1) = c.f1 - (lo l).2 + 1 := fun c hc => by have := h.ok hc; unfold okC at this; exact wr _ _ (by omega) (by omega) (by omega) (by omega)
  have a0 : mxF (fun c => wrap64 (wrap64 (c.f0 - (lo l).1) + 1)) l 0 = (hi l).1 - (lo l).1 + 1 := by
   obtain ⟨d, hd, e⟩ := hi_mem0 (l := l) (by omega)
   have g1 := m0.2.1 d hd
   have g2 := (lo_le hd).1
   have g3 := f0 d hd
   simp only [g3] at g1
   rcases m0.2.2 with g | ⟨c, hc, g⟩
   ·omega
   ·have := (le_hi hc).1; have := f0 c hc; replace g := g.trans this; omega
  have a1 : mxF (fun c => wrap64 (wrap64 (c.f1 - (lo l).2) + 1)) l 0 = (hi l).2 - (lo l).2 + 1 := by
   obtain ⟨d, hd, e⟩ := hi_mem1 (l := l) (by omega)
   have g1 := m1.2.1 d hd
   have g2 := (lo_le hd).2
   have g3 := f1 d hd
   simp only [g3] at g1
   rcases m1.2.2 with g | ⟨c, hc, g⟩
   ·omega
   ·have := (le_hi hc).2; have := f1 c hc; replace g := g.trans this; omega
  show some (mxF (fun c => wrap64 (wrap64 (c.f0 - (lo l).1) + 1)) l 0, mxF (fun c => wrap64 (wrap64 (c.f1 - (lo l).2) + 1)) l 0) = _
  rw [a0, a1]; rfl
theorem reach_ev (l : List C) (h : 0 < l.length) (hl : l.length ≤ 1048576) : Ev (fun k => impl_reach.f k l) (hi l) := by
 unfold impl_reach.f
 simp only [if_pos (show 0 < (l.length : Int) by omega)]
 have e0 : rd_T29 l 0 = at_ l 0 := rd_at l 0
 rw [e0]
 refine ev_fold (fun k (s : Int × Int) j => impl_reach.l0 k l (l.length : Int) j s.1 s.2) l (fun s c => (mx s.1 c.f0, mx s.2 c.f1)) some _ (fun _ _ => True) ?_ ?_ 0 (by omega) ((at_ l 0).f0, (at_ l 0).f1) trivial ?_
 ·intro k s j hj hm _
  refine ⟨?_, trivial⟩
  simp only [impl_reach.l0, rd_at]; rw [if_pos (by omega), if_pos (by omega), if_pos (by omega), w64 (x := (j : Int) + 1) (by omega) (by omega)]; rfl
 ·intro k s _
  simp only [impl_reach.l0]; rw [if_neg (by omega)]
 ·rw [List.drop_zero, foldl_pair (fun s c => mx s c.f0) (fun s c => mx s c.f1)]; rfl
def ixF : Nat → List C → Int → Int → Int
 | _, [], _, _ => -1
 | j, c :: r, x, y => if c.f0 = x ∧ c.f1 = y then (j : Int) else ixF (j + 1) r x y
theorem ixF_mem (x y : Int) : ∀ (r : List C) (j : Nat), 0 ≤ ixF j r x y ↔ (⟨x, y⟩ : C) ∈ r := by
 intro r
 induction r with
 | nil => intro j; simp [ixF]
 | cons c r ih =>
  intro j
  unfold ixF
  by_cases h : c.f0 = x ∧ c.f1 = y
  ·rw [if_pos h]
   constructor
   ·intro _; obtain ⟨rfl, rfl⟩ := h; exact List.mem_cons_self
   ·intro _; omega
  ·rw [if_neg h, ih (j + 1), List.mem_cons]
   constructor
   ·exact fun g => Or.inr g
   ·rintro (g | g)
    ·exact absurd (by rw [← g]; exact ⟨rfl, rfl⟩) h
    ·exact g
theorem specIx_loop (l : List C) (x y : Int) (hl : l.length ≤ 1048576) : ∀ d j : Nat, j + d = l.length → Ev (fun k => spec_l02Index.l0 k l (j : Nat) x y) (ixF j (l.drop j) x y) := by
 intro d
 induction d with
 | zero =>
  intro j hj
  obtain rfl : j = l.length := by omega
  rw [List.drop_length]
  refine Ev.step (fun k => ?_) (Ev.now _)
  simp only [spec_l02Index.l0, ixF]; rw [if_neg (by omega)]
 | succ d ih =>
  intro j hj
  rw [drop_at l j (by omega)]
  have e : ∀ k, spec_l02Index.l0 (k + 1) l (j : Nat) x y = if (at_ l j).f0 = x ∧ (at_ l j).f1 = y then some (j : Int) else spec_l02Index.l0 k l ((j + 1 : Nat) : Int) x y := by
   intro k
   simp only [spec_l02Index.l0, rd_at, Bool.and_eq_true, beq_iff_eq]
   rw [if_pos (by omega), if_pos (by omega), w64 (by omega) (by omega)]; rfl
  unfold ixF
  by_cases c : (at_ l j).f0 = x ∧ (at_ l j).f1 = y
  ·rw [if_pos c]; exact Ev.step (f := fun _ => some (j : Int)) (fun k => (e k).trans (if_pos c)) (Ev.now _)
  ·rw [if_neg c]; exact Ev.step (fun k => (e k).trans (if_neg c)) (ih (j + 1) (by omega))
theorem specIx_ev (l : List C) (x y : Int) (hl : l.length ≤ 1048576) : Ev (fun k => spec_l02Index.f k l x y) (ixF 0 l x y) :=
 specIx_loop l x y hl l.length 0 (by omega)
def cellN (q : List C) (x y : Int) : Int := if 0 ≤ ixF 0 q x y then 35 else 46
def rowT (q : List C) (y : Int) : Nat → Nat → List Int
 | 0, _ => []
 | d + 1, x => cellN q (x : Nat) y :: rowT q y d (x + 1)
def allT (q : List C) (m : Nat) : Nat → Nat → List Int
 | 0, _ => []
 | d + 1, y => ((if 0 < y then [47] else []) ++ rowT q (y : Nat) m 0) ++ allT q m d (y + 1)
def rowsT (q : List C) (m : Nat) : Nat → Nat → List (List Int)
 | 0, _ => []
 | d + 1, y => rowT q (y : Nat) m 0 :: rowsT q m d (y + 1)
theorem rowT_length (q : List C) (y : Int) : ∀ d x, (rowT q y d x).length = d
 | 0, _ => rfl
 | d + 1, x => by rw [rowT, List.length_cons, rowT_length q y d (x + 1)]
theorem rowT_at (q : List C) (y : Int) : ∀ d x i, i < d → (rowT q y d x)[i]? = some (cellN q ((x + i : Nat) : Int) y)
 | 0, _, _, h => absurd h (Nat.not_lt_zero _)
 | d + 1, x, 0, _ => rfl
 | d + 1, x, i + 1, h => by
  rw [rowT, List.getElem?_cons_succ, rowT_at q y d (x + 1) i (by omega), show x + 1 + i = x + (i + 1) by omega]
theorem rowsT_length (q : List C) (m : Nat) : ∀ d y, (rowsT q m d y).length = d
 | 0, _ => rfl
 | d + 1, y => by rw [rowsT, List.length_cons, rowsT_length q m d (y + 1)]
theorem rowsT_at (q : List C) (m : Nat) : ∀ d y i, i < d → (rowsT q m d y)[i]? = some (rowT q ((y + i : Nat) : Int) m 0)
 | 0, _, _, h => absurd h (Nat.not_lt_zero _)
 | d + 1, y, 0, _ => rfl
 | d + 1, y, i + 1, h => by
  rw [rowsT, List.getElem?_cons_succ, rowsT_at q m d (y + 1) i (by omega), show y + 1 + i = y + (i + 1) by omega]
theorem textRow_loop (q : List C) (hq : q.length ≤ 1048576) (n m y : Nat) (r : ByteArray) (hm : m ≤ 1000) (hy : y ≤ 1000) : ∀ (d x : Nat) (out : List Int), x + d = m → out.length + d ≤ 1000000 →
  Ev (fun k => spec_l04Text.l0 k (m : Nat) (n : Nat) q (out ++ rowT q (y : Nat) d x) ((y + 1 : Nat) : Int)) r → Ev (fun k => spec_l04Text.l1 k (m : Nat) (n : Nat) q out (y : Nat) (x : Nat)) r := by
 intro d
 induction d with
 | zero =>
  intro x out hx ho h
  refine Ev.step (fun k => ?_) h
  simp only [spec_l04Text.l1, rowT, List.append_nil]
  rw [if_neg (by omega), w64 (x := (y : Int) + 1) (by omega) (by omega)]; rfl
 | succ d ih =>
  intro x out hx ho h
  have e : ∀ k, spec_l04Text.l1 (k + 1) (m : Nat) (n : Nat) q out (y : Nat) (x : Nat) = (spec_l02Index.f k q (x : Nat) (y : Nat)).bind fun t => spec_l04Text.l1 k (m : Nat) (n : Nat) q (out ++ [if 0 ≤ t then 35 else 46]) (y : Nat) ((x + 1 : Nat) : Int) := by
   intro k
   simp only [spec_l04Text.l1]
   rw [if_pos (by omega)]
   congr 1
   funext t
   rw [w64 (x := (x : Int) + 1) (by omega) (by omega)]
   by_cases c : t ≥ 0
   ·have c2 : 0 ≤ t := c
    rw [if_pos c, if_pos (by omega), if_pos c2]; rfl
   ·have c2 : ¬ 0 ≤ t := c
    rw [if_neg c, if_pos (by omega), if_neg c2]; rfl
  refine Ev.step e (Ev.bind (f := fun k t => spec_l04Text.l1 k (m : Nat) (n : Nat) q (out ++ [if 0 ≤ t then 35 else 46]) (y : Nat) ((x + 1 : Nat) : Int)) (specIx_ev q (x : Nat) (y : Nat) hq) ?_)
  refine ih (x + 1) _ (by omega) (by rw [List.length_append]; simp; omega) ?_
  rw [rowT] at h
  rw [List.append_assoc]
  exact h
theorem text_loop (q : List C) (hq : q.length ≤ 1048576) (n m : Nat) (hm : m ≤ 1000) (hn : n ≤ 1000) : ∀ (d y : Nat) (out : List Int), y + d = n → out.length + d * (m + 1) ≤ 1000000 →
  Ev (fun k => spec_l04Text.l0 k (m : Nat) (n : Nat) q out (y : Nat)) (strOfNums (out ++ allT q m d y)) := by
 intro d
 induction d with
 | zero =>
  intro y out hy ho
  refine Ev.step (f := fun _ => some (strOfNums (out ++ allT q m 0 y))) (fun k => ?_) (Ev.now _)
  simp only [spec_l04Text.l0, allT, List.append_nil]
  rw [if_neg (by omega)]
 | succ d ih =>
  intro y out hy ho
  have hs : (d + 1) * (m + 1) = d * (m + 1) + (m + 1) := Nat.succ_mul ..
  have e : ∀ k, spec_l04Text.l0 (k + 1) (m : Nat) (n : Nat) q out (y : Nat) = spec_l04Text.j1 k (m : Nat) (n : Nat) q (out ++ if 0 < y then [47] else []) (y : Nat) := by
   intro k
   simp only [spec_l04Text.l0]
   rw [if_pos (by omega)]
   by_cases c : 0 < y
   ·rw [if_pos (show (y : Int) > 0 by omega), if_pos (by omega), if_pos c]
   ·rw [if_neg (show ¬ (y : Int) > 0 by omega), if_neg c, List.append_nil]
  have hl : (out ++ if 0 < y then [47] else []).length ≤ out.length + 1 := by
   rw [List.length_append]; split <;> simp
  refine Ev.step e (Ev.step (f := fun k => spec_l04Text.l1 k (m : Nat) (n : Nat) q (out ++ if 0 < y then [47] else []) (y : Nat) ((0 : Nat) : Int)) (fun k => by simp only [spec_l04Text.j1]; rfl) ?_)
  refine textRow_loop q hq n m y _ hm (by omega) m 0 _ (by omega) (by omega) ?_
  have h := ih (y + 1) ((out ++ if 0 < y then [47] else []) ++ rowT q (y : Nat) m 0) (by omega) (by rw [List.length_append, rowT_length]; omega)
  rw [allT, ← List.append_assoc, ← List.append_assoc]
  exact h
def textP (l : List C) : ByteArray := strOfNums (allT (normL l) (sz l).1.toNat (sz l).2.toNat 0)
theorem specText_ev (l : List C) (h : Sh l) (hl : l.length ≤ 1048576) : Ev (fun k => spec_l04Text.f k l) (textP l) := by
 have hz := sz_ok h
 unfold spec_l04Text.f
 refine Ev.bind (f := fun k (bt : Int × Int) => (spec_l02Normal.f k l).bind fun t => spec_l04Text.l0 k bt.1 bt.2 t [] 0) (specSize_ev l h) ?_
 refine Ev.bind (f := fun k t => spec_l04Text.l0 k (sz l).1 (sz l).2 t [] 0) (specNorm_ev l h.1 hl) ?_
 have h2 : (sz l).2.toNat * ((sz l).1.toNat + 1) ≤ 201 * 202 := Nat.mul_le_mul (by omega) (by omega)
 have h1 := text_loop (normL l) (by rw [normL_length]; exact hl) (sz l).2.toNat (sz l).1.toNat (by omega) (by omega) (sz l).2.toNat 0 [] (by omega) (by simp only [List.length_nil]; omega)
 rw [show (((sz l).1.toNat : Nat) : Int) = (sz l).1 by omega, show (((sz l).2.toNat : Nat) : Int) = (sz l).2 by omega] at h1
 exact h1
theorem marks_at (n m : Nat) : ∀ (cs : List C) (g : List (List Int)), g.length = n → (∀ r ∈ g, r.length = m) → (∀ c ∈ cs, (0 ≤ c.f0 ∧ c.f0 < (m : Int)) ∧ 0 ≤ c.f1 ∧ c.f1 < (n : Int)) →
  (cs.foldl markRow_ g).length = n ∧ ∀ y, y < n → ∃ row, (cs.foldl markRow_ g)[y]? = some row ∧ row.length = m ∧ ∀ x : Nat, x < m → (((⟨(x : Nat), (y : Nat)⟩ : C) ∈ cs → row[x]? = some 35) ∧ (¬ (⟨(x : Nat), (y : Nat)⟩ : C) ∈ cs → row[x]? = (g.getD y [])[x]?)) := by
 intro cs
 induction cs with
 | nil =>
  intro g hg hm _
  refine ⟨hg, fun y hy => ⟨g[y]'(by omega), List.getElem?_eq_getElem _, hm _ (List.getElem_mem _), fun x hx => ⟨fun h => by simp at h, fun _ => ?_⟩⟩⟩
  rw [List.getD_eq_getElem?_getD, List.getElem?_eq_getElem (show y < g.length by omega)]; rfl
 | cons c r ih =>
  intro g hg hm hc
  obtain ⟨⟨c1, c2⟩, c3, c4⟩ := hc c (List.mem_cons_self ..)
  have hyl : c.f1.toNat < g.length := by omega
  have hgy : g.getD c.f1.toNat [] = g[c.f1.toNat] := by rw [List.getD_eq_getElem?_getD, List.getElem?_eq_getElem hyl]; rfl
  have hrl := hm _ (List.getElem_mem hyl)
  have hm' : ∀ q ∈ markRow_ g c, q.length = m := by
   intro q hq
   unfold markRow_ at hq
   rcases List.mem_or_eq_of_mem_set hq with h | h
   ·exact hm q h
   ·rw [h, List.length_set, hgy]; exact hrl
  obtain ⟨i1, i2⟩ := ih (markRow_ g c) (by unfold markRow_; rw [List.length_set]; exact hg) hm' (fun d hd => hc d (List.mem_cons_of_mem _ hd))
  refine ⟨i1, fun y hy => ?_⟩
  obtain ⟨row, j1, j2, j3⟩ := i2 y hy
  refine ⟨row, j1, j2, fun x hx => ?_⟩
  obtain ⟨k1, k2⟩ := j3 x hx
  have hval : (c = ⟨(x : Nat), (y : Nat)⟩ → ((markRow_ g c).getD y [])[x]? = some 35) ∧ (¬ c = ⟨(x : Nat), (y : Nat)⟩ → ((markRow_ g c).getD y [])[x]? = (g.getD y [])[x]?) := by
   unfold markRow_
   rw [hgy, List.getD_eq_getElem?_getD, List.getD_eq_getElem?_getD]
   refine ⟨fun e => ?_, fun e => ?_⟩
   ·subst e
    simp only [Int.toNat_natCast]
    rw [List.getElem?_set_self (by omega)]
    simp only [Option.getD_some]
    rw [List.getElem?_set_self (by simp only [Int.toNat_natCast] at hrl; omega)]
   ·by_cases e1 : c.f1.toNat = y
    ·subst e1
     rw [List.getElem?_set_self hyl, List.getElem?_eq_getElem hyl]
     simp only [Option.getD_some]
     rw [List.getElem?_set_ne (fun e2 => e ?_)]
     rcases c with ⟨a, b⟩
     simp only at c1 c3 e2 ⊢
     rw [← e2, show ((a.toNat : Nat) : Int) = a by omega, show ((b.toNat : Nat) : Int) = b by omega]
    ·rw [List.getElem?_set_ne e1]
  refine ⟨fun h => ?_, fun h => ?_⟩
  ·by_cases hr : (⟨(x : Nat), (y : Nat)⟩ : C) ∈ r
   ·exact k1 hr
   ·rw [k2 hr]
    rcases List.mem_cons.1 h with h | h
    ·exact hval.1 h.symm
    ·exact absurd h hr
  ·rw [k2 (fun hr => h (List.mem_cons_of_mem _ hr))]
   exact hval.2 (fun e => h (by rw [e]; exact List.mem_cons_self ..))
theorem textRows_eq (q : List C) (n m : Nat) (hc : ∀ c ∈ q, (0 ≤ c.f0 ∧ c.f0 < (m : Int)) ∧ 0 ≤ c.f1 ∧ c.f1 < (n : Int)) : textRows_ n m q = rowsT q m n 0 := by
 obtain ⟨h1, h2⟩ := marks_at n m q (List.replicate n (List.replicate m 46)) (List.length_replicate ..) (fun r hr => by rw [(List.mem_replicate.1 hr).2, List.length_replicate]) hc
 apply List.ext_getElem?
 intro y
 rcases Nat.lt_or_ge y n with hy | hy
 ·obtain ⟨row, j1, j2, j3⟩ := h2 y hy
  unfold textRows_
  rw [j1, rowsT_at q m n 0 y hy]
  congr 1
  apply List.ext_getElem?
  intro x
  rcases Nat.lt_or_ge x m with hx | hx
  ·obtain ⟨k1, k2⟩ := j3 x hx
   rw [rowT_at q _ m 0 x hx, Nat.zero_add, Nat.zero_add]
   unfold cellN
   by_cases c : (⟨(x : Nat), (y : Nat)⟩ : C) ∈ q
   ·rw [k1 c, if_pos ((ixF_mem _ _ q 0).2 c)]
   ·rw [k2 c, if_neg (fun e => c ((ixF_mem _ _ q 0).1 e)), List.getD_eq_getElem?_getD, List.getElem?_replicate, if_pos hy]
    simp only [Option.getD_some]
    rw [List.getElem?_replicate, if_pos hx]
  ·rw [List.getElem?_eq_none (by omega), List.getElem?_eq_none (by rw [rowT_length]; exact hx)]
 ·unfold textRows_
  rw [List.getElem?_eq_none (by omega), List.getElem?_eq_none (by rw [rowsT_length]; exact hy)]
theorem joinTail_T (q : List C) (m : Nat) : ∀ d y, Lib.joinTail [47] ((rowsT q m d (y + 1)).map fun r => (strOfNums r).data.toList) = (allT q m d (y + 1)).map fun n => UInt8.ofNat n.toNat
 | 0, _ => rfl
 | d + 1, y => by
  have ih := joinTail_T q m d (y + 1)
  rw [rowsT, allT, if_pos (Nat.succ_pos y), List.map_cons, List.map_append, List.map_append, ← ih]
  unfold Lib.joinTail
  rw [List.map_cons, List.flatten_cons, strOfNums_data]
  rfl
theorem joined_T (q : List C) (m d : Nat) : joined_ (rowsT q m (d + 1) 0) = strOfNums (allT q m (d + 1) 0) := by
 unfold joined_ strOfNums
 rw [rowsT, allT, if_neg (Nat.lt_irrefl 0), List.map_cons, Lib.join_cons, List.nil_append, List.map_append, ← joinTail_T q m d 0]
 rfl
theorem hi_norm {l : List C} (h : Sh l) : (hi (normL l)).1 + 1 = (sz l).1 ∧ (hi (normL l)).2 + 1 = (sz l).2 := by
 have hn := h.1
 have e := normL_eq h
 have hq : 0 < (normL l).length := by rw [normL_length]; exact hn
 have hm : ∀ c ∈ l, (⟨c.f0 - (lo l).1, c.f1 - (lo l).2⟩ : C) ∈ normL l := fun c hc => by rw [e]; exact List.mem_map.2 ⟨c, hc, rfl⟩
 have hm2 : ∀ d ∈ normL l, ∃ c ∈ l, d = ⟨c.f0 - (lo l).1, c.f1 - (lo l).2⟩ := fun d hd => by
  rw [e] at hd
  obtain ⟨c, hc, rfl⟩ := List.mem_map.1 hd
  exact ⟨c, hc, rfl⟩
 unfold sz
 obtain ⟨a, ha, a1⟩ := hi_mem0 (l := l) (by omega)
 obtain ⟨b, hb, b1⟩ := hi_mem1 (l := l) (by omega)
 obtain ⟨a', ha', a1'⟩ := hi_mem0 hq
 obtain ⟨b', hb', b1'⟩ := hi_mem1 hq
 obtain ⟨c, hc, rfl⟩ := hm2 a' ha'
 obtain ⟨d, hd, rfl⟩ := hm2 b' hb'
 have u1 := (le_hi (hm a ha)).1
 have u2 := (le_hi (hm b hb)).2
 have u3 := (le_hi hc).1
 have u4 := (le_hi hd).2
 simp only at u1 u2 a1' b1'
 constructor <;> simp only <;> omega
theorem implText_ev (l : List C) (h : Sh l) (hl : l.length ≤ 1048576) : Ev (fun k => impl_shapeText.f k l) (textP l) := by
 have hz := sz_ok h
 obtain ⟨z1, z2⟩ := hi_norm h
 unfold impl_shapeText.f
 refine Ev.bind (f := fun k o => (impl_reach.f k o).bind fun p => if (0 ≤ p.1 ∧ p.1 < 1000000) ∧ (0 ≤ p.2 ∧ p.2 < 1000000) ∧ ∀ c ∈ o, (0 ≤ c.f0 ∧ c.f0 ≤ p.1) ∧ 0 ≤ c.f1 ∧ c.f1 ≤ p.2 then some (joined_ (textRows_ (p.2.toNat + 1) (p.1.toNat + 1) o)) else none) (implNorm_ev l h.1 hl) ?_
 refine Ev.bind (f := fun _ p => if (0 ≤ p.1 ∧ p.1 < 1000000) ∧ (0 ≤ p.2 ∧ p.2 < 1000000) ∧ ∀ c ∈ normL l, (0 ≤ c.f0 ∧ c.f0 ≤ p.1) ∧ 0 ≤ c.f1 ∧ c.f1 ≤ p.2 then some (joined_ (textRows_ (p.2.toNat + 1) (p.1.toNat + 1) (normL l))) else none) (reach_ev (normL l) (by rw [normL_length]; exact h.1) (by rw [normL_length]; exact hl)) ?_
 have hin : ∀ c ∈ normL l, (0 ≤ c.f0 ∧ c.f0 ≤ (hi (normL l)).1) ∧ 0 ≤ c.f1 ∧ c.f1 ≤ (hi (normL l)).2 := by
  intro c hc
  have hc2 := le_hi hc
  rw [normL_eq h] at hc
  obtain ⟨d, hd, rfl⟩ := List.mem_map.1 hc
  have := norm_lt h hd
  exact ⟨⟨this.1, hc2.1⟩, this.2.2.1, hc2.2⟩
 have hv : (if (0 ≤ (hi (normL l)).1 ∧ (hi (normL l)).1 < 1000000) ∧ (0 ≤ (hi (normL l)).2 ∧ (hi (normL l)).2 < 1000000) ∧ ∀ c ∈ normL l, (0 ≤ c.f0 ∧ c.f0 ≤ (hi (normL l)).1) ∧ 0 ≤ c.f1 ∧ c.f1 ≤ (hi (normL l)).2 then some (joined_ (textRows_ ((hi (normL l)).2.toNat + 1) ((hi (normL l)).1.toNat + 1) (normL l))) else none) = some (textP l) := by
  rw [if_pos ⟨⟨by omega, by omega⟩, ⟨by omega, by omega⟩, hin⟩, textRows_eq _ _ _ (fun c hc => by have := hin c hc; omega), joined_T]
  unfold textP
  rw [show (hi (normL l)).1.toNat + 1 = (sz l).1.toNat by omega, show (hi (normL l)).2.toNat + 1 = (sz l).2.toNat by omega]
 exact ⟨0, fun k _ => hv⟩
def rp : List UInt8 → List C → Int → Int → List C
 | [], acc, _, _ => acc
 | b :: r, acc, x, y => rp r (if b = 35 then acc ++ [⟨x, y⟩] else acc) (x + 1) y
def sp : List UInt8 → List C → Int → Int → List C
 | [], acc, _, _ => acc
 | b :: r, acc, x, y => if b = 47 then sp r acc 0 (y + 1) else sp r (if b = 35 then acc ++ [⟨x, y⟩] else acc) (x + 1) y
def gp : List (List UInt8) → List C → Int → List C
 | [], acc, _ => acc
 | p :: r, acc, y => gp r (rp p acc 0 y) (y + 1)
theorem rp_length : ∀ (l : List UInt8) (acc : List C) (x y : Int), acc.length ≤ (rp l acc x y).length ∧ (rp l acc x y).length ≤ acc.length + l.length
 | [], acc, _, _ => ⟨Nat.le_refl _, Nat.le_refl _⟩
 | b :: r, acc, x, y => by
  obtain ⟨h1, h2⟩ := rp_length r (if b = 35 then acc ++ [⟨x, y⟩] else acc) (x + 1) y
  have h3 : acc.length ≤ (if b = 35 then acc ++ [⟨x, y⟩] else acc).length ∧ (if b = 35 then acc ++ [⟨x, y⟩] else acc).length ≤ acc.length + 1 := by
   split
   ·rw [List.length_append]; simp
   ·omega
  rw [rp, List.length_cons]
  omega
theorem gp_length : ∀ (l : List (List UInt8)) (acc : List C) (y : Int), acc.length ≤ (gp l acc y).length
 | [], _, _ => Nat.le_refl _
 | p :: r, acc, y => by rw [gp]; exact Nat.le_trans (rp_length p acc 0 y).1 (gp_length r _ _)
theorem sp_cut : ∀ (l : List UInt8) (acc : List C) (x y : Int), (Lib.indexByte l 47 = -1 → sp l acc x y = rp l acc x y) ∧
  (∀ i : Nat, Lib.indexByte l 47 = (i : Nat) → sp l acc x y = sp (l.drop (i + 1)) (rp (l.take i) acc x y) 0 (y + 1) ∧ (l.drop (i + 1)).count 47 + 1 ≤ l.count 47)
 | [], acc, x, y => ⟨fun _ => rfl, fun i h => by
   rw [show Lib.indexByte [] 47 = -1 from rfl] at h; omega⟩
 | b :: r, acc, x, y => by
  have hge := Lib.indexByte_ge r 47
  by_cases hb : b = 47
  ·subst hb
   have e : Lib.indexByte ((47 : UInt8) :: r) 47 = 0 := by rw [Lib.indexByte, if_pos (by decide)]
   refine ⟨fun h => by rw [e] at h; omega, fun i h => ?_⟩
   rw [e] at h
   obtain rfl : i = 0 := by omega
   refine ⟨?_, ?_⟩
   ·rw [sp, if_pos rfl, List.take_zero, rp, List.drop_succ_cons, List.drop_zero]
   ·rw [List.drop_succ_cons, List.drop_zero, List.count_cons_self]; exact Nat.le_refl _
  ·obtain ⟨ih1, ih2⟩ := sp_cut r (if b = 35 then acc ++ [⟨x, y⟩] else acc) (x + 1) y
   have e : Lib.indexByte (b :: r) 47 = if Lib.indexByte r 47 == -1 then -1 else Lib.indexByte r 47 + 1 := by
    rw [Lib.indexByte, if_neg (by simpa using hb)]
   refine ⟨fun h => ?_, fun i h => ?_⟩
   ·have h1 : Lib.indexByte r 47 = -1 := by
     by_cases c : Lib.indexByte r 47 = -1
     ·exact c
     ·rw [e, if_neg (by simpa using c)] at h; omega
    rw [sp, if_neg hb, rp]
    exact ih1 h1
   ·have h1 : ¬ Lib.indexByte r 47 = -1 := by
     intro c
     rw [e, if_pos (by simpa using c)] at h; omega
    rw [e, if_neg (by simpa using h1)] at h
    obtain ⟨j, rfl⟩ : ∃ j, i = j + 1 := ⟨i - 1, by omega⟩
    obtain ⟨k1, k2⟩ := ih2 j (by omega)
    refine ⟨?_, ?_⟩
    ·rw [sp, if_neg hb, List.take_succ_cons, rp, List.drop_succ_cons]
     exact k1
    ·rw [List.drop_succ_cons, List.count_cons_of_ne hb]
     exact k2
theorem sp_gp : ∀ (k : Nat) (l : List UInt8) (acc : List C) (y : Int), l.count 47 ≤ k → sp l acc 0 y = gp (Lib.splitK [47] 0 k l) acc y := by
 intro k
 induction k with
 | zero =>
  intro l acc y hk
  obtain ⟨h1, h2⟩ := sp_cut l acc 0 y
  have hge := Lib.indexByte_ge l 47
  by_cases c : Lib.indexByte l 47 = -1
  ·rw [h1 c]; rfl
  ·have := (h2 (Lib.indexByte l 47).toNat (by omega)).2; omega
 | succ k ih =>
  intro l acc y hk
  obtain ⟨h1, h2⟩ := sp_cut l acc 0 y
  have hge := Lib.indexByte_ge l 47
  rw [Lib.splitK, Lib.index_one]
  by_cases c : Lib.indexByte l 47 = -1
  ·rw [if_pos (by simpa using c), h1 c]; rfl
  ·rw [if_neg (by simpa using c)]
   obtain ⟨k1, k2⟩ := h2 (Lib.indexByte l 47).toNat (by omega)
   rw [k1, ih _ _ _ (by omega), gp]
   rfl
theorem splitK_le : ∀ (k : Nat) (l : List UInt8), ∀ p ∈ Lib.splitK [47] 0 k l, p.length ≤ l.length := by
 intro k
 induction k with
 | zero => intro l p hp; rw [Lib.splitK, List.mem_singleton] at hp; rw [hp]; exact Nat.le_refl _
 | succ k ih =>
  intro l p hp
  rw [Lib.splitK] at hp
  split at hp
  ·rw [List.mem_singleton.1 hp]; exact Nat.le_refl _
  ·rcases List.mem_cons.1 hp with h | h
   ·rw [h, List.length_take]; omega
   ·have := ih _ p h; rw [List.length_drop] at this; omega
theorem bt_byte (s : ByteArray) (i : Nat) (h : i < s.data.toList.length) : bt s (i : Nat) = ((s.data.toList[i]).toNat : Int) := by
 have hs : i < s.size := h
 have := bt_at s (i : Nat) (by rw [Int.toNat_natCast]; exact hs)
 rw [← this]
 simp only [Int.toNat_natCast]
 rfl
theorem byte_is (b : UInt8) (n : Nat) (hn : n < 256) : ((b.toNat : Int) = (n : Nat)) ↔ b = UInt8.ofNat n := by
 constructor
 ·intro h
  apply UInt8.toNat_inj.1
  rw [UInt8.toNat_ofNat']
  omega
 ·intro h
  rw [h, UInt8.toNat_ofNat']
  omega
noncomputable def finP (s : ByteArray) (acc : List C) : List C × Int := if shB acc = true then (if (textP acc).toList = s.toList then (acc, 0) else ([], 6)) else ([], 6)
theorem finP_long (s : ByteArray) (acc : List C) (h : 40 < acc.length) : finP s acc = ([], 6) := by
 unfold finP
 rw [shB_false (fun g => by have := g.2.1; omega)]
 rfl
theorem specFin_ev (s : ByteArray) (acc : List C) (hl : acc.length ≤ 1048576) : Ev (fun k => (spec_IsShape.f k acc).bind fun t160 => (if t160 = true then ((spec_l04Text.f k acc).bind fun t161 => (if t161.toList = s.toList then (some (acc, (0 : Int))) else (some (([] : List C), 6)))) else (some (([] : List C), 6)))) (finP s acc) := by
 refine Ev.bind (f := fun k t160 => (if t160 = true then ((spec_l04Text.f k acc).bind fun t161 => (if t161.toList = s.toList then (some (acc, (0 : Int))) else (some (([] : List C), 6)))) else (some (([] : List C), 6)))) (specShape_ev acc hl) ?_
 unfold finP
 rcases sh_cases acc with ⟨hs, hb⟩ | ⟨_, hb⟩
 ·rw [hb]; simp only [if_true]
  refine Ev.bind (f := fun _ t161 => (if t161.toList = s.toList then (some (acc, (0 : Int))) else (some (([] : List C), 6)))) (specText_ev acc hs hl) ?_
  split <;> exact Ev.now _
 ·rw [hb]; exact Ev.now _
theorem implFin_ev (s : ByteArray) (acc : List C) (hl : acc.length ≤ 1048576) : Ev (fun k => (impl_IsShape.f k acc).bind fun t160 => (if t160 = true then ((impl_shapeText.f k acc).bind fun t161 => (if t161.toList = s.toList then (some (acc, (0 : Int))) else (some (([] : List C), 6)))) else (some (([] : List C), 6)))) (finP s acc) := by
 refine Ev.bind (f := fun k t160 => (if t160 = true then ((impl_shapeText.f k acc).bind fun t161 => (if t161.toList = s.toList then (some (acc, (0 : Int))) else (some (([] : List C), 6)))) else (some (([] : List C), 6)))) (implShape_ev acc hl) ?_
 unfold finP
 rcases sh_cases acc with ⟨hs, hb⟩ | ⟨_, hb⟩
 ·rw [hb]; simp only [if_true]
  refine Ev.bind (f := fun _ t161 => (if t161.toList = s.toList then (some (acc, (0 : Int))) else (some (([] : List C), 6)))) (implText_ev acc hs hl) ?_
  split <;> exact Ev.now _
 ·rw [hb]; exact Ev.now _
theorem specRead_loop (s : ByteArray) (hs : s.size ≤ 12000) : ∀ (d i : Nat) (acc : List C) (x y : Nat), i + d = s.size → acc.length ≤ i → x ≤ i → y ≤ i →
  Ev (fun k => spec_ReadShape.l0 k s acc (i : Nat) (x : Nat) (y : Nat)) (finP s (sp (s.data.toList.drop i) acc (x : Nat) (y : Nat))) := by
 have hsl : s.data.toList.length = s.size := by simp
 intro d
 induction d with
 | zero =>
  intro i acc x y hi ha hx hy
  rw [List.drop_of_length_le (by omega), sp]
  refine Ev.step (f := fun k => (spec_IsShape.f k acc).bind fun t160 => (if t160 = true then ((spec_l04Text.f k acc).bind fun t161 => (if t161.toList = s.toList then (some (acc, (0 : Int))) else (some (([] : List C), 6)))) else (some (([] : List C), 6)))) (fun k => ?_) (specFin_ev s acc (by omega))
  simp only [spec_ReadShape.l0]
  rw [if_neg (by omega)]
 | succ d ih =>
  intro i acc x y hi ha hx hy
  have hil : i < s.data.toList.length := by omega
  have hb := bt_byte s i hil
  rw [List.drop_eq_getElem_cons hil, sp]
  generalize s.data.toList[i] = b at hb ⊢
  have c47 : (b.toNat : Int) = 47 ↔ b = 47 := byte_is b 47 (by decide)
  have c35 : (b.toNat : Int) = 35 ↔ b = 35 := byte_is b 35 (by decide)
  by_cases h47 : b = 47
  ·rw [if_pos h47]
   refine Ev.step (f := fun k => spec_ReadShape.l0 k s acc ((i + 1 : Nat) : Int) ((0 : Nat) : Int) ((y + 1 : Nat) : Int)) (fun k => ?_) (ih (i + 1) acc 0 (y + 1) (by omega) (by omega) (by omega) (by omega))
   simp only [spec_ReadShape.l0]
   rw [if_pos (by omega), if_pos (by omega), hb, if_pos (c47.2 h47), w64 (x := (i : Int) + 1) (by omega) (by omega), w64 (x := (y : Int) + 1) (by omega) (by omega)]; rfl
  ·rw [if_neg h47]
   by_cases h35 : b = 35
   ·rw [if_pos h35]
    refine Ev.step (f := fun k => spec_ReadShape.l0 k s (acc ++ [⟨(x : Nat), (y : Nat)⟩]) ((i + 1 : Nat) : Int) ((x + 1 : Nat) : Int) (y : Nat)) (fun k => ?_) (ih (i + 1) _ (x + 1) y (by omega) (by rw [List.length_append]; simp; omega) (by omega) (by omega))
    simp only [spec_ReadShape.l0]
    rw [if_pos (by omega), if_pos (by omega), hb, if_neg (fun e => h47 (c47.1 e)), if_pos (c35.2 h35), if_pos (by omega), w64 (x := (i : Int) + 1) (by omega) (by omega), w64 (x := (x : Int) + 1) (by omega) (by omega)]; rfl
   ·rw [if_neg h35]
    refine Ev.step (f := fun k => spec_ReadShape.l0 k s acc ((i + 1 : Nat) : Int) ((x + 1 : Nat) : Int) (y : Nat)) (fun k => ?_) (ih (i + 1) acc (x + 1) y (by omega) (by omega) (by omega) (by omega))
    simp only [spec_ReadShape.l0]
    rw [if_pos (by omega), if_pos (by omega), hb, if_neg (fun e => h47 (c47.1 e)), if_neg (fun e => h35 (c35.1 e)), w64 (x := (i : Int) + 1) (by omega) (by omega), w64 (x := (x : Int) + 1) (by omega) (by omega)]; rfl
theorem implRow_loop (s row : ByteArray) (hr : row.size ≤ 12000) (ps : List ByteArray) (n : Int) (i : Nat) (hi : i ≤ 12000) (r : List C × Int) : ∀ (d j : Nat) (acc : List C), j + d = row.size → acc.length ≤ 40 + j →
  Ev (fun k => if ((rp (row.data.toList.drop j) acc (j : Nat) (i : Nat)).length : Int) > 40 then some (([] : List C), (6 : Int)) else impl_ReadShape.l0 k s (rp (row.data.toList.drop j) acc (j : Nat) (i : Nat)) ps n ((i + 1 : Nat) : Int)) r →
  Ev (fun k => impl_ReadShape.l1 k s acc (i : Nat) row (j : Nat) ps n (i : Nat)) r := by
 have hsl : row.data.toList.length = row.size := by simp
 intro d
 induction d with
 | zero =>
  intro j acc hj ha h
  rw [List.drop_of_length_le (by omega), rp] at h
  refine Ev.step (fun k => ?_) h
  simp only [impl_ReadShape.l1]
  rw [if_neg (by omega), w64 (x := (i : Int) + 1) (by omega) (by omega)]; rfl
 | succ d ih =>
  intro j acc hj ha h
  have hjl : j < row.data.toList.length := by omega
  have hb := bt_byte row j hjl
  rw [List.drop_eq_getElem_cons hjl, rp] at h
  generalize row.data.toList[j] = b at hb h
  have c35 : (b.toNat : Int) = 35 ↔ b = 35 := byte_is b 35 (by decide)
  by_cases h35 : b = 35
  ·rw [if_pos h35] at h
   refine Ev.step (f := fun k => impl_ReadShape.l1 k s (acc ++ [⟨(j : Nat), (i : Nat)⟩]) (i : Nat) row ((j + 1 : Nat) : Int) ps n (i : Nat)) (fun k => ?_) (ih (j + 1) _ (by omega) (by rw [List.length_append]; simp; omega) h)
   simp only [impl_ReadShape.l1]
   rw [if_pos (by omega), if_pos (by omega), hb, if_pos (c35.2 h35), if_pos (by omega), w64 (x := (j : Int) + 1) (by omega) (by omega)]; rfl
  ·rw [if_neg h35] at h
   refine Ev.step (f := fun k => impl_ReadShape.l1 k s acc (i : Nat) row ((j + 1 : Nat) : Int) ps n (i : Nat)) (fun k => ?_) (ih (j + 1) acc (by omega) (by omega) h)
   simp only [impl_ReadShape.l1]
   rw [if_pos (by omega), if_pos (by omega), hb, if_neg (fun e => h35 (c35.1 e)), w64 (x := (j : Int) + 1) (by omega) (by omega)]; rfl
theorem implRead_loop (s : ByteArray) (ps : List ByteArray) (hps : ps.length ≤ 12001) (hp : ∀ p ∈ ps, p.size ≤ 12000) : ∀ (d i : Nat) (acc : List C), i + d = ps.length → acc.length ≤ 40 →
  Ev (fun k => impl_ReadShape.l0 k s acc ps (ps.length : Int) (i : Nat)) (finP s (gp ((ps.drop i).map (·.data.toList)) acc (i : Nat))) := by
 intro d
 induction d with
 | zero =>
  intro i acc hi ha
  rw [List.drop_of_length_le (by omega), List.map_nil, gp]
  refine Ev.step (f := fun k => (impl_IsShape.f k acc).bind fun t160 => (if t160 = true then ((impl_shapeText.f k acc).bind fun t161 => (if t161.toList = s.toList then (some (acc, (0 : Int))) else (some (([] : List C), 6)))) else (some (([] : List C), 6)))) (fun k => ?_) (implFin_ev s acc (by omega))
  simp only [impl_ReadShape.l0]
  rw [if_neg (by omega)]
 | succ d ih =>
  intro i acc hi ha
  have hil : i < ps.length := by omega
  have hrd : rdOf ByteArray.empty ps (i : Nat) = ps[i] := by unfold rdOf; rw [Int.toNat_natCast, List.getD_eq_getElem?_getD, List.getElem?_eq_getElem hil]; rfl
  have hsz := hp _ (List.getElem_mem hil)
  rw [List.drop_eq_getElem_cons hil, List.map_cons, gp]
  refine Ev.step (f := fun k => impl_ReadShape.l1 k s acc (i : Nat) ps[i] ((0 : Nat) : Int) ps (ps.length : Int) (i : Nat)) (fun k => ?_) ?_
  ·simp only [impl_ReadShape.l0]
   rw [if_pos (by omega), if_pos (by omega), if_pos (by omega), hrd]; rfl
  ·refine implRow_loop s ps[i] hsz ps (ps.length : Int) i (by omega) _ ps[i].size 0 acc (by omega) (by omega) ?_
   rw [List.drop_zero]
   show Ev (fun k => if ((rp ps[i].data.toList acc 0 (i : Nat)).length : Int) > 40 then some (([] : List C), (6 : Int)) else impl_ReadShape.l0 k s (rp ps[i].data.toList acc 0 (i : Nat)) ps (ps.length : Int) ((i + 1 : Nat) : Int)) _
   by_cases c : ((rp ps[i].data.toList acc 0 (i : Nat)).length : Int) > 40
   ·have := gp_length ((ps.drop (i + 1)).map (·.data.toList)) (rp ps[i].data.toList acc 0 (i : Nat)) ((i : Nat) + 1)
    rw [finP_long s _ (by omega)]
    simp only [if_pos c]
    exact Ev.now _
   ·simp only [if_neg c]
    exact ih (i + 1) _ (by omega) (by omega)
noncomputable def rdP (s : ByteArray) : List C × Int := if s.size ≤ 12000 then finP s (sp s.data.toList [] 0 0) else ([], 3)
theorem finP_length (s : ByteArray) (acc : List C) : (finP s acc).1.length ≤ 40 := by
 unfold finP
 rcases sh_cases acc with ⟨hs, hb⟩ | ⟨_, hb⟩
 ·rw [hb]
  simp only [if_true]
  split
  ·exact hs.2.1
  ·exact Nat.zero_le _
 ·rw [hb]; exact Nat.zero_le _
theorem rdP_length (s : ByteArray) : (rdP s).1.length ≤ 40 := by
 unfold rdP
 split
 ·exact finP_length _ _
 ·exact Nat.zero_le _
theorem specRd_ev (s : ByteArray) : Ev (fun k => spec_ReadShape.f k s) (rdP s) := by
 unfold rdP spec_ReadShape.f
 by_cases c : s.size ≤ 12000
 ·simp only [if_pos c, if_neg (show ¬ (s.size : Int) > 12000 by omega)]
  have h := specRead_loop s c s.size 0 [] 0 0 (by omega) (Nat.le_refl _) (Nat.le_refl _) (Nat.le_refl _)
  rw [List.drop_zero] at h
  exact h
 ·simp only [if_neg c, if_pos (show (s.size : Int) > 12000 by omega)]
  exact Ev.now _
theorem implRd_ev (s : ByteArray) : Ev (fun k => impl_ReadShape.f k s) (rdP s) := by
 unfold rdP impl_ReadShape.f
 by_cases c : s.size ≤ 12000
 ·simp only [if_pos c, if_neg (show ¬ (s.size : Int) > 12000 by omega)]
  have hsl : s.data.toList.length = s.size := by simp
  have e : strings_Split.f s ⟨#[47]⟩ = some (splitSl_ s) := if_pos ⟨rfl, by omega⟩
  simp only [e, Option.bind_some]
  have hd : (splitSl_ s).map (·.data.toList) = Lib.splitK [47] 0 (Lib.countB s ⟨#[47]⟩) s.data.toList := Lib.splitB_data ⟨#[47]⟩ 0 _ s
  have hcle := Lib.countB_le ⟨#[47]⟩ (Nat.le_refl 1) s.size s (Nat.le_refl _)
  have hcnt : Lib.countB s ⟨#[47]⟩ = s.data.toList.count 47 := Lib.count_one 47 _
  have hlen : (splitSl_ s).length = Lib.countB s ⟨#[47]⟩ + 1 := Lib.splitB_all ⟨#[47]⟩ (Nat.le_refl 1) 0 _ s rfl
  have h := implRead_loop s (splitSl_ s) (by omega) (fun p hp => by
   have h1 := splitK_le (Lib.countB s ⟨#[47]⟩) s.data.toList p.data.toList (by rw [← hd]; exact List.mem_map_of_mem hp)
   have h2 : p.data.toList.length = p.size := by simp
   omega) (splitSl_ s).length 0 [] (by omega) (Nat.zero_le _)
  rw [List.drop_zero, hd, ← sp_gp _ _ _ _ (by rw [hcnt]; exact Nat.le_refl _)] at h
  exact h
 ·simp only [if_neg c, if_pos (show (s.size : Int) > 12000 by omega)]
  exact Ev.now _
end Go.Proofs.YtbfmocohknadkaaDoor.M
namespace Go.Proofs.YtbfmocohknadkaaDoor.Pure
set_option linter.unusedVariables false
set_option linter.unusedSimpArgs false
open Go.RowKit Go.Proofs.YtbfmocohknadkaaDoor.X Go.Proofs.YtbfmocohknadkaaDoorW.PrintWords Go.Proofs.YtbfmocohknadkaaDoorW.PrintLast Go.Proofs.YtbfmocohknadkaaDoorW.PrintMore Go.Proofs.YtbfmocohknadkaaDoor.M
theorem FnExactReadShape : laws_FnExactReadShape.Pure := by
 intro s hs
 by_cases c : (s.size : Int) > 1048576
 ·exact ⟨0, by simp only [laws_FnExactReadShape.f, if_pos c]⟩
 ·have hr := rdP_length s
  obtain ⟨K, e1, e2, e3, e4, e5⟩ := ev5 (specRd_ev s) (implRd_ev s) (eqCell_ev (rdP s).1 (by omega)) (markCell_ev (rdP s).1 1 (by omega) (by omega) (by omega)) (heldCell_ev 1 (rdP s).1.length (by omega) (by omega) (by omega))
  have n2 : ¬ (1 + 2 * ((rdP s).1.length : Int) < 0) := by omega
  refine ⟨K + 4, ?_⟩
  simp only [laws_FnExactReadShape.f, if_neg c, Option.bind_some, e1, e2, e3, e4, e5, bne_self_eq_false, Bool.false_eq_true, if_false, if_true, laws_FnExactReadShape.j0, laws_FnExactReadShape.j1, if_neg n2]
end Go.Proofs.YtbfmocohknadkaaDoor.Pure
