/- The program's FormsOf returns what the reference's returns, for all arguments, without any condition. -/
import Derived.Test.YtpilmhjbgbpbmaaXx0
import Derived.Test.YtpilmhjbgbpbmaaXx11
import Derived.Test.YtpilmhjbgbpbmaaXx12
import Derived.Test.YtpilmhjbgbpbmaaXx13
import Derived.Test.YtpilmhjbgbpbmaaXx14
import Derived.Test.YtpilmhjbgbpbmaaXx16
import Derived.Test.YtpilmhjbgbpbmaaXx17
import Derived.Test.YtpilmhjbgbpbmaaXx2
import Derived.Test.YtpilmhjbgbpbmaaXx20
import Derived.Test.YtpilmhjbgbpbmaaXx22
import Derived.Test.YtpilmhjbgbpbmaaXx3
import Derived.Test.YtpilmhjbgbpbmaaXx34
import Derived.Test.YtpilmhjbgbpbmaaXx4
import Derived.Test.YtpilmhjbgbpbmaaXx5
import Derived.Test.YtpilmhjbgbpbmaaXx6
import Derived.Test.YtpilmhjbgbpbmaaXx7
import Derived.Test.YtpilmhjbgbpbmaaXx8
import Derived.Test.YtpilmhjbgbpbmaaXx9
namespace Go.Proofs.Ytpilmhjbgbpbmaa.X
set_option linter.unusedVariables false
set_option linter.unusedSimpArgs false
open Go.RowKit Go.Proofs.Ytpilmhjbgbpbmaa.X Go.Proofs.YtpilmhjbgbpbmaaW.PrintWords Go.Proofs.YtpilmhjbgbpbmaaW.PrintLast Go.Proofs.YtpilmhjbgbpbmaaW.PrintMore
def laws_FnExactFormsOf.Pure : Prop := ∀ (l0 : List S56), l0.length ≤ 9223372036854775807 → (∀ x ∈ l0, (Lit.int .i64 x.f0).wf = true ∧ (Lit.int .i64 x.f1).wf = true) → ∃ k, laws_FnExactFormsOf.f k l0 = some true
end Go.Proofs.Ytpilmhjbgbpbmaa.X
namespace Go.Proofs.Ytpilmhjbgbpbmaa.M
set_option linter.unusedVariables false
set_option linter.unusedSimpArgs false
open Go.RowKit Go.Proofs.Ytpilmhjbgbpbmaa.X Go.Proofs.YtpilmhjbgbpbmaaW.PrintWords Go.Proofs.YtpilmhjbgbpbmaaW.PrintLast Go.Proofs.YtpilmhjbgbpbmaaW.PrintMore
theorem w64 {x : Int} (h1 : -9223372036854775808 ≤ x) (h2 : x ≤ 9223372036854775807) : wrap64 x = x := by unfold wrap64; omega
theorem tmod_pos {a n : Int} (h : 0 ≤ a) (hn : 0 < n) : 0 ≤ Int.tmod a n ∧ Int.tmod a n < n := by
 rw [Int.tmod_eq_emod_of_nonneg h]; exact ⟨Int.emod_nonneg _ (by omega), Int.emod_lt_of_pos _ hn⟩
abbrev C := S42
def at_ (l : List C) (j : Nat) : C := l.getD j ⟨0, 0⟩
theorem rd_at (l : List C) (j : Nat) : rd_T42 l (j : Int) = at_ l j := by unfold rd_T42 at_; rw [Int.toNat_natCast]; rfl
theorem at_get (l : List C) (j : Nat) (h : j < l.length) : at_ l j = l[j] := by unfold at_; rw [List.getD_eq_getElem?_getD, List.getElem?_eq_getElem h]; rfl
theorem at_mem (l : List C) (j : Nat) (h : j < l.length) : at_ l j ∈ l := by rw [at_get l j h]; exact List.getElem_mem h
theorem drop_at (l : List C) (j : Nat) (h : j < l.length) : l.drop j = at_ l j :: l.drop (j + 1) := by rw [at_get l j h, List.drop_eq_getElem_cons h]
def AE (P : Nat → Prop) : Prop := ∃ K, ∀ k, K ≤ k → P k
theorem AE.and {P Q : Nat → Prop} (h : AE P) (g : AE Q) : AE (fun k => P k ∧ Q k) := by
 obtain ⟨K, h⟩ := h; obtain ⟨L, g⟩ := g
 exact ⟨K + L, fun k hk => ⟨h k (by omega), g k (by omega)⟩⟩
theorem AE.up {P : Nat → Prop} (h : AE P) : ∃ K, ∀ n, P (K + n) := by
 obtain ⟨K, h⟩ := h; exact ⟨K, fun n => h _ (by omega)⟩
theorem evae {α : Type} {g : Nat → Option α} {a : α} (h : Ev g a) : AE (fun k => g k = some a) := h
theorem ev2 {α0 α1 : Type} {g0 : Nat → Option α0} {g1 : Nat → Option α1} {a0 : α0} {a1 : α1} (h0 : Ev g0 a0) (h1 : Ev g1 a1) : ∃ K, (∀ n, g0 (K + n) = some a0) ∧ (∀ n, g1 (K + n) = some a1) := by
 obtain ⟨K, h⟩ := AE.up (AE.and (evae h0) (evae h1)); exact ⟨K, fun n => (h n).1, fun n => (h n).2⟩
theorem ev8 {α0 α1 α2 α3 α4 α5 α6 α7 : Type} {g0 : Nat → Option α0} {g1 : Nat → Option α1} {g2 : Nat → Option α2} {g3 : Nat → Option α3} {g4 : Nat → Option α4} {g5 : Nat → Option α5} {g6 : Nat → Option α6} {g7 : Nat → Option α7} {a0 : α0} {a1 : α1} {a2 : α2} {a3 : α3} {a4 : α4} {a5 : α5} {a6 : α6} {a7 : α7} (h0 : Ev g0 a0) (h1 : Ev g1 a1) (h2 : Ev g2 a2) (h3 : Ev g3 a3) (h4 : Ev g4 a4) (h5 : Ev g5 a5) (h6 : Ev g6 a6) (h7 : Ev g7 a7) : ∃ K, (∀ n, g0 (K + n) = some a0) ∧ (∀ n, g1 (K + n) = some a1) ∧ (∀ n, g2 (K + n) = some a2) ∧ (∀ n, g3 (K + n) = some a3) ∧ (∀ n, g4 (K + n) = some a4) ∧ (∀ n, g5 (K + n) = some a5) ∧ (∀ n, g6 (K + n) = some a6) ∧ (∀ n, g7 (K + n) = some a7) := by
 obtain ⟨K, h⟩ := AE.up (AE.and (evae h0) (AE.and (evae h1) (AE.and (evae h2) (AE.and (evae h3) (AE.and (evae h4) (AE.and (evae h5) (AE.and (evae h6) (evae h7)))))))); exact ⟨K, fun n => (h n).1, fun n => (h n).2.1, fun n => (h n).2.2.1, fun n => (h n).2.2.2.1, fun n => (h n).2.2.2.2.1, fun n => (h n).2.2.2.2.2.1, fun n => (h n).2.2.2.2.2.2.1, fun n => (h n).2.2.2.2.2.2.2⟩
theorem ev_fold {σ β : Type} (F : Nat → σ → Int → Option β) (l : List C) (g : σ → C → σ) (fin : σ → Option β) (r : β) (inv : Nat → σ → Prop)
  (step : ∀ k s (j : Nat), j < l.length → at_ l j ∈ l → inv j s → F (k + 1) s (j : Nat) = F k (g s (at_ l j)) ((j + 1 : Nat) : Int) ∧ inv (j + 1) (g s (at_ l j)))
  (done : ∀ k s, inv l.length s → F (k + 1) s (l.length : Nat) = fin s) (j0 : Nat) (hj0 : j0 ≤ l.length) (s0 : σ) (h0 : inv j0 s0) (hr : fin ((l.drop j0).foldl g s0) = some r) : Ev (fun k => F k s0 (j0 : Nat)) r := by
 have key : ∀ d j : Nat, j + d = l.length → ∀ s, inv j s → fin ((l.drop j).foldl g s) = some r → Ev (fun k => F k s (j : Nat)) r := by
  intro d
  induction d with
  | zero =>
   intro j hj s hs hr
   obtain rfl : j = l.length := by omega
   refine Ev.step (fun k => done k s hs) ?_
   rw [List.drop_length] at hr
   have hr' : fin s = some r := hr
   rw [hr']; exact Ev.now r
  | succ d ih =>
   intro j hj s hs hr
   have h : j < l.length := by omega
   refine Ev.step (fun k => (step k s j h (at_mem l j h) hs).1) (ih (j + 1) (by omega) _ ((step 0 s j h (at_mem l j h) hs).2) ?_)
   rw [drop_at l j h] at hr; exact hr
 exact key (l.length - j0) j0 (by omega) s0 h0 hr
def cs (l : List S56) : List C := l.map fun c => ⟨c.f0, c.f1⟩
theorem cs_length (l : List S56) : (cs l).length = l.length := by simp [cs]
theorem sz_cases (l : List S56) (hl : l.length ≤ 9223372036854775807) (b : Int) (hb : 0 ≤ b) (hb2 : b ≤ 1048576) :
  (b < (l.length : Int) ∧ laws_szCellS.f l b = some (-1)) ∨ ((l.length : Int) ≤ b ∧ laws_szCellS.f l b = some (b - (l.length : Int))) := by
 unfold laws_szCellS.f
 rw [w64 (by omega) (by omega)]
 by_cases h : b - (l.length : Int) < 0
 ·exact Or.inl ⟨by omega, by rw [if_pos h]⟩
 ·exact Or.inr ⟨by omega, by rw [if_neg h]⟩
theorem toCell_loop (l : List S56) (hl : l.length ≤ 1048576) : ∀ d j : Nat, j + d = l.length → ∀ x : List C, x.length = l.length → (∀ i, i < j → x[i]? = (cs l)[i]?) → Ev (fun k => laws_toCellS.l0 k l x (j : Nat)) (cs l) := by
 intro d
 induction d with
 | zero =>
  intro j hj x hx hi
  obtain rfl : x = cs l := by
   apply List.ext_getElem?
   intro i
   by_cases h : i < j
   ·exact hi i h
   ·rw [List.getElem?_eq_none (by omega), List.getElem?_eq_none (by rw [cs_length]; omega)]
  refine Ev.step (fun k => ?_) (Ev.now _)
  simp only [laws_toCellS.l0]; rw [if_neg (by omega)]
 | succ d ih =>
  intro j hj x hx hi
  have hc : (cs l)[j]? = some ⟨(rd_T56 l (j : Nat)).f0, (rd_T56 l (j : Nat)).f1⟩ := by
   unfold cs rd_T56; rw [List.getElem?_map, List.getD_eq_getElem?_getD, Int.toNat_natCast, List.getElem?_eq_getElem (by omega)]; rfl
  refine Ev.step (fun k => ?_) (ih (j + 1) (by omega) (x.set j ⟨(rd_T56 l (j : Nat)).f0, (rd_T56 l (j : Nat)).f1⟩) (by rw [List.length_set]; exact hx) ?_)
  ·simp only [laws_toCellS.l0, laws_toCell.f, Option.bind_some]; rw [if_pos (by omega), if_pos (by omega), if_pos (by omega), w64 (by omega) (by omega)]; rfl
  ·intro i h
   rw [List.getElem?_set]
   by_cases e : j = i
   ·subst e; rw [if_pos rfl, if_pos (by omega), hc]
   ·rw [if_neg e]; exact hi i (by omega)
theorem toCell_ev (l : List S56) (hl : l.length ≤ 1048576) : Ev (fun k => laws_toCellS.f k l) (cs l) := by
 unfold laws_toCellS.f
 simp only [if_pos (show 0 ≤ (l.length : Int) by omega), if_pos (show ((l.length : Int)).toNat ≤ 17592186044416 by omega)]
 exact toCell_loop l hl l.length 0 (by omega) _ (by simp) (by intro i h; omega)
theorem eqCell_loop (l : List C) (hl : l.length ≤ 140737488355328) : ∀ d j : Nat, j + d = l.length → Ev (fun k => laws_eqCellS.l0 k l l (j : Nat)) true := by
 intro d
 induction d with
 | zero =>
  intro j hj
  refine Ev.step (fun k => ?_) (Ev.now _)
  simp only [laws_eqCellS.l0]; rw [if_neg (by omega)]
 | succ d ih =>
  intro j hj
  refine Ev.step (fun k => ?_) (ih (j + 1) (by omega))
  simp only [laws_eqCellS.l0, laws_eqCell.f, if_true, Option.bind_some]; rw [if_pos (by omega), if_pos (by omega), if_pos (by omega), w64 (by omega) (by omega)]; rfl
theorem eqCell_ev (l : List C) (hl : l.length ≤ 140737488355328) : Ev (fun k => laws_eqCellS.f k l l) true := by
 unfold laws_eqCellS.f
 simp only [if_true]
 exact eqCell_loop l hl l.length 0 (by omega)
theorem l01In_eq (a b c : Int) : spec_l01In.f a b c = some (decide (b ≤ a ∧ a ≤ c)) := by
 unfold spec_l01In.f; by_cases h : a ≥ b
 ·rw [if_pos h]; simp [h]
 ·rw [if_neg h]; simp; omega
theorem within_eq (a b c : Int) : impl_within.f a b c = some (decide (b ≤ a ∧ a ≤ c)) := l01In_eq a b c
def ltC (a b : C) : Prop := a.f1 < b.f1 ∨ (a.f1 = b.f1 ∧ a.f0 < b.f0)
instance (a b : C) : Decidable (ltC a b) := by unfold ltC; exact inferInstance
def okC (a : C) : Prop := -100 ≤ a.f0 ∧ a.f0 ≤ 100 ∧ -100 ≤ a.f1 ∧ a.f1 ≤ 100
instance (a : C) : Decidable (okC a) := by unfold okC; exact inferInstance
def Sh (l : List C) : Prop := 1 ≤ l.length ∧ l.length ≤ 40 ∧ (∀ i, i < l.length → okC (at_ l i)) ∧ (∀ i, i + 1 < l.length → ltC (at_ l i) (at_ l (i + 1)))
noncomputable def shB (l : List C) : Bool := @decide (Sh l) (Classical.propDecidable _)
theorem shB_true {l : List C} (h : Sh l) : shB l = true := @decide_eq_true _ (Classical.propDecidable _) h
theorem shB_false {l : List C} (h : ¬ Sh l) : shB l = false := @decide_eq_false _ (Classical.propDecidable _) h
theorem less_eq (a b c d : Int) : spec_l02Less.f a b c d = some (decide (ltC ⟨a, b⟩ ⟨c, d⟩)) := by
 unfold spec_l02Less.f ltC
 by_cases h : b < d
 ·rw [if_pos h]; simp [h]
 ·rw [if_neg h]
  by_cases e : b = d
  ·rw [if_pos e]; simp [e]
  ·rw [if_neg e]; simp [h, e]
theorem cellOk_eq (a b : Int) : spec_l02Cell.f a b = some (decide (okC ⟨a, b⟩)) := by
 unfold spec_l02Cell.f okC
 simp only [l01In_eq, Option.bind_some]
 by_cases h : -100 ≤ a ∧ a ≤ 100
 ·simp [h]
 ·simp only [decide_eq_false h, Bool.false_eq_true, if_false]; congr 1; exact (decide_eq_false (fun g => h ⟨g.1, g.2.1⟩)).symm
theorem isCo_eq (a : Int) : impl_isCoordinate.f a = some (decide (-100 ≤ a ∧ a ≤ 100)) := by
 unfold impl_isCoordinate.f; simp only [within_eq, Option.bind_some]
theorem cmp_eq (a b : Int) : cmp_Compare_int64.f a b = some (if a < b then -1 else if b < a then 1 else 0) := by
 unfold cmp_Compare_int64.f cmp_isNaN_int64.f
 simp only [bne_self_eq_false, Option.bind_some, Bool.false_eq_true, if_false]
 by_cases h : a < b
 ·simp [h]
 ·by_cases g : b < a <;> simp [h, g]
def cmpC (a b : C) : Int := if ltC a b then -1 else if ltC b a then 1 else 0
theorem cmpCells_eq (a b c d : Int) : impl_compareCells.f a b c d = some (cmpC ⟨a, b⟩ ⟨c, d⟩) := by
 unfold impl_compareCells.f cmpC ltC
 simp only [cmp_eq, Option.bind_some]
 by_cases h : b < d
 ·simp [h]
 ·by_cases g : d < b
  ·have : ¬ b = d := by omega
   have : ¬ d = b := by omega
   simp [*]
  ·obtain rfl : b = d := by omega
   simp [h]
theorem cmpC_neg (a b : C) : (0 ≤ cmpC a b) ↔ ¬ ltC a b := by
 unfold cmpC; by_cases h : ltC a b
 ·simp [h]
 ·simp only [h, if_false, not_false_eq_true, iff_true]; split <;> omega
theorem specShape_loop (l : List C) (hl : l.length ≤ 1048576) : ∀ d j : Nat, j + d = l.length → (∀ i, i < j → okC (at_ l i)) → (∀ i, i + 1 < j → ltC (at_ l i) (at_ l (i + 1))) → Ev (fun k => spec_IsShape.l0 k l (j : Nat)) (shB l) := by
 intro d
 induction d with
 | zero =>
  intro j hj h1 h2
  obtain rfl : j = l.length := by omega
  refine Ev.step (fun k => ?_) (Ev.now _)
  simp only [spec_IsShape.l0, l01In_eq, Option.bind_some]; rw [if_neg (by omega)]
  congr 1
  by_cases h : 1 ≤ l.length ∧ l.length ≤ 40
  ·rw [shB_true ⟨h.1, h.2, h1, h2⟩]; exact decide_eq_true (by omega)
  ·rw [shB_false (fun g => h ⟨g.1, g.2.1⟩)]; exact decide_eq_false (by omega)
 | succ d ih =>
  intro j hj h1 h2
  by_cases c1 : okC (at_ l j)
  ·have c1' : okC ⟨(at_ l j).f0, (at_ l j).f1⟩ := c1
   by_cases c2 : j = 0
   ·subst c2
    refine Ev.step (fun k => ?_) (ih 1 (by omega) (fun i hi => by obtain rfl : i = 0 := (by omega); exact c1) (fun i hi => by omega))
    simp only [spec_IsShape.l0, rd_at, cellOk_eq, decide_eq_true c1', Option.bind_some, if_true]
    rw [if_pos (by omega), if_pos (by omega), if_neg (by omega), w64 (by omega) (by omega)]; rfl
   ·obtain ⟨i, rfl⟩ : ∃ i, j = i + 1 := ⟨j - 1, by omega⟩
    have e : wrap64 (((i + 1 : Nat) : Int) - 1) = (i : Nat) := by rw [w64 (by omega) (by omega)]; omega
    by_cases c3 : ltC (at_ l i) (at_ l (i + 1))
    ·have c3' : ltC ⟨(at_ l i).f0, (at_ l i).f1⟩ ⟨(at_ l (i + 1)).f0, (at_ l (i + 1)).f1⟩ := c3
     refine Ev.step (fun k => ?_) (ih (i + 1 + 1) (by omega) (fun x hx => if g : x = i + 1 then by rw [g]; exact c1 else h1 x (by omega)) (fun x hx => if g : x = i then by rw [g]; exact c3 else h2 x (by omega)))
     simp only [spec_IsShape.l0, rd_at, cellOk_eq, decide_eq_true c1', Option.bind_some, if_true, e, less_eq, decide_eq_true c3']
     rw [if_pos (by omega), if_pos (by omega), if_pos (by omega), if_pos (by omega), if_pos (by omega), w64 (by omega) (by omega)]; rfl
    ·have c3' : ¬ ltC ⟨(at_ l i).f0, (at_ l i).f1⟩ ⟨(at_ l (i + 1)).f0, (at_ l (i + 1)).f1⟩ := c3
     rw [shB_false (fun g => c3 (g.2.2.2 i (by omega)))]
     refine Ev.step (fun k => ?_) (Ev.now _)
     simp only [spec_IsShape.l0, rd_at, cellOk_eq, decide_eq_true c1', Option.bind_some, if_true, e, less_eq, decide_eq_false c3', Bool.false_eq_true, if_false]
     rw [if_pos (by omega), if_pos (by omega), if_pos (by omega), if_pos (by omega), if_pos (by omega)]
  ·have c1' : ¬ okC ⟨(at_ l j).f0, (at_ l j).f1⟩ := c1
   rw [shB_false (fun g => c1 (g.2.2.1 j (by omega)))]
   refine Ev.step (fun k => ?_) (Ev.now _)
   simp only [spec_IsShape.l0, rd_at, cellOk_eq, decide_eq_false c1', Option.bind_some, Bool.false_eq_true, if_false]
   rw [if_pos (by omega), if_pos (by omega)]
theorem specShape_ev (l : List C) (hl : l.length ≤ 1048576) : Ev (fun k => spec_IsShape.f k l) (shB l) :=
 specShape_loop l hl l.length 0 (by omega) (fun i hi => by omega) (fun i hi => by omega)
theorem implShape_loop (l : List C) (hl : l.length ≤ 1048576) : ∀ d j : Nat, j + d = l.length → (∀ i, i < j → okC (at_ l i)) → (∀ i, i + 1 < j → ltC (at_ l i) (at_ l (i + 1))) → Ev (fun k => impl_IsShape.l0 k l l (l.length : Int) (j : Nat)) (shB l) := by
 intro d
 induction d with
 | zero =>
  intro j hj h1 h2
  obtain rfl : j = l.length := by omega
  refine Ev.step (fun k => ?_) (Ev.now _)
  simp only [impl_IsShape.l0]; rw [if_neg (by omega)]
  by_cases h : 1 ≤ l.length ∧ l.length ≤ 40
  ·rw [shB_true ⟨h.1, h.2, h1, h2⟩, if_pos (by omega)]; congr 1; exact decide_eq_true (by omega)
  ·rw [shB_false (fun g => h ⟨g.1, g.2.1⟩)]
   by_cases g : (l.length : Int) ≥ 1
   ·rw [if_pos g]; congr 1; exact decide_eq_false (by omega)
   ·rw [if_neg g]
 | succ d ih =>
  intro j hj h1 h2
  by_cases c1 : okC (at_ l j)
  ·have ca : -100 ≤ (at_ l j).f0 ∧ (at_ l j).f0 ≤ 100 := ⟨c1.1, c1.2.1⟩
   have cb : -100 ≤ (at_ l j).f1 ∧ (at_ l j).f1 ≤ 100 := c1.2.2
   by_cases c2 : j = 0
   ·subst c2
    refine Ev.step (fun k => ?_) (ih 1 (by omega) (fun i hi => by obtain rfl : i = 0 := (by omega); exact c1) (fun i hi => by omega))
    simp only [impl_IsShape.l0, rd_at, isCo_eq, decide_eq_true ca, decide_eq_true cb, Option.bind_some, if_true]
    rw [if_pos (by omega), if_pos (by omega), if_pos (by omega), if_neg (by omega), w64 (by omega) (by omega)]; rfl
   ·obtain ⟨i, rfl⟩ : ∃ i, j = i + 1 := ⟨j - 1, by omega⟩
    have e : wrap64 (((i + 1 : Nat) : Int) - 1) = (i : Nat) := by rw [w64 (by omega) (by omega)]; omega
    by_cases c3 : ltC (at_ l i) (at_ l (i + 1))
    ·have c3' : ¬ (cmpC ⟨(at_ l i).f0, (at_ l i).f1⟩ ⟨(at_ l (i + 1)).f0, (at_ l (i + 1)).f1⟩ ≥ 0) := fun g => (cmpC_neg _ _).1 g c3
     refine Ev.step (fun k => ?_) (ih (i + 1 + 1) (by omega) (fun x hx => if g : x = i + 1 then by rw [g]; exact c1 else h1 x (by omega)) (fun x hx => if g : x = i then by rw [g]; exact c3 else h2 x (by omega)))
     simp only [impl_IsShape.l0, rd_at, isCo_eq, decide_eq_true ca, decide_eq_true cb, Option.bind_some, if_true, e, cmpCells_eq, if_neg c3']
     rw [if_pos (by omega), if_pos (by omega), if_pos (by omega), if_pos (by omega), if_pos (by omega), if_pos (by omega), w64 (by omega) (by omega)]; rfl
    ·have c3' : cmpC ⟨(at_ l i).f0, (at_ l i).f1⟩ ⟨(at_ l (i + 1)).f0, (at_ l (i + 1)).f1⟩ ≥ 0 := (cmpC_neg _ _).2 c3
     rw [shB_false (fun g => c3 (g.2.2.2 i (by omega)))]
     refine Ev.step (fun k => ?_) (Ev.now _)
     simp only [impl_IsShape.l0, rd_at, isCo_eq, decide_eq_true ca, decide_eq_true cb, Option.bind_some, if_true, e, cmpCells_eq, if_pos c3']
     rw [if_pos (by omega), if_pos (by omega), if_pos (by omega), if_pos (by omega), if_pos (by omega), if_pos (by omega)]
  ·rw [shB_false (fun g => c1 (g.2.2.1 j (by omega)))]
   refine Ev.step (fun k => ?_) (Ev.now _)
   simp only [impl_IsShape.l0, rd_at, isCo_eq, Option.bind_some]
   rw [if_pos (by omega), if_pos (by omega), if_pos (by omega)]
   by_cases ca : -100 ≤ (at_ l j).f0 ∧ (at_ l j).f0 ≤ 100
   ·have cb : ¬ (-100 ≤ (at_ l j).f1 ∧ (at_ l j).f1 ≤ 100) := fun cb => c1 ⟨ca.1, ca.2, cb.1, cb.2⟩
    simp only [decide_eq_true ca, decide_eq_false cb, if_true, Bool.false_eq_true, if_false]
   ·simp only [decide_eq_false ca, Bool.false_eq_true, if_false]
theorem implShape_ev (l : List C) (hl : l.length ≤ 1048576) : Ev (fun k => impl_IsShape.f k l) (shB l) :=
 implShape_loop l hl l.length 0 (by omega) (fun i hi => by omega) (fun i hi => by omega)
theorem ltC_trans {a b c : C} (h : ltC a b) (g : ltC b c) : ltC a c := by unfold ltC at *; omega
theorem ltC_irrefl {a : C} (h : ltC a a) : False := by unfold ltC at h; omega
theorem sh_cases (l : List C) : (Sh l ∧ shB l = true) ∨ (¬ Sh l ∧ shB l = false) := by
 by_cases h : Sh l
 ·exact Or.inl ⟨h, shB_true h⟩
 ·exact Or.inr ⟨h, shB_false h⟩
def insP (c : C) : List C → List C
 | [] => [c]
 | x :: r => if ltC c x then c :: x :: r else x :: insP c r
def sortP (l : List C) : List C := l.foldl (fun s c => insP c s) []
theorem insP_length (c : C) (l : List C) : (insP c l).length = l.length + 1 := by
 induction l with
 | nil => rfl
 | cons x r ih => unfold insP; split <;> simp [ih]
theorem insP_perm (c : C) (l : List C) : (insP c l).Perm (c :: l) := by
 induction l with
 | nil => exact List.Perm.refl _
 | cons x r ih =>
  unfold insP
  split
  ·exact List.Perm.refl _
  ·exact (ih.cons x).trans (List.Perm.swap c x r)
theorem foldl_insP_perm : ∀ (l s : List C), (l.foldl (fun s c => insP c s) s).Perm (s ++ l) := by
 intro l
 induction l with
 | nil => intro s; simp
 | cons c r ih =>
  intro s
  rw [List.foldl_cons]
  refine (ih _).trans ?_
  refine ((insP_perm c s).append_right r).trans ?_
  exact (List.perm_middle).symm
theorem sortP_perm (l : List C) : (sortP l).Perm l := by
 have := foldl_insP_perm l []
 rwa [List.nil_append] at this
theorem sortP_length (l : List C) : (sortP l).length = l.length := (sortP_perm l).length_eq
def leC (a b : C) : Prop := ¬ ltC b a
theorem leC_trans {a b c : C} (h : leC a b) (g : leC b c) : leC a c := by unfold leC ltC at *; omega
theorem leC_total (a b : C) : leC a b ∨ leC b a := by unfold leC ltC; omega
theorem leC_anti {a b : C} (h : leC a b) (g : leC b a) : a = b := by
 unfold leC ltC at *
 have e0 : a.f0 = b.f0 := by omega
 have e1 : a.f1 = b.f1 := by omega
 cases a; cases b; cases e0; cases e1; rfl
theorem ltC_le {a b : C} (h : ltC a b) : leC a b := by unfold leC ltC at *; omega
theorem insP_sorted (c : C) (l : List C) (h : l.Pairwise leC) : (insP c l).Pairwise leC := by
 induction l with
 | nil => simp [insP]
 | cons x r ih =>
  rw [List.pairwise_cons] at h
  unfold insP
  by_cases hc : ltC c x
  ·rw [if_pos hc, List.pairwise_cons]
   refine ⟨fun y hy => ?_, List.pairwise_cons.2 h⟩
   rcases List.mem_cons.1 hy with rfl | hy
   ·exact ltC_le hc
   ·exact leC_trans (ltC_le hc) (h.1 y hy)
  ·rw [if_neg hc, List.pairwise_cons]
   refine ⟨fun y hy => ?_, ih h.2⟩
   rcases List.mem_cons.1 ((insP_perm c r).mem_iff.1 hy) with rfl | hy
   ·exact hc
   ·exact h.1 y hy
theorem sortP_sorted (l : List C) : (sortP l).Pairwise leC := by
 have : ∀ (l s : List C), s.Pairwise leC → (l.foldl (fun s c => insP c s) s).Pairwise leC := by
  intro l
  induction l with
  | nil => intro s h; exact h
  | cons c r ih => intro s h; exact ih _ (insP_sorted c s h)
 exact this l [] List.Pairwise.nil
theorem sorted_unique {l m : List C} (hl : l.Pairwise leC) (hm : m.Pairwise leC) (hp : l.Perm m) : l = m :=
 List.Perm.eq_of_pairwise (le := leC) (fun _ _ _ _ h1 h2 => leC_anti h1 h2) hl hm hp
theorem foldl_pair (g1 g2 : Int → C → Int) (l : List C) : ∀ a b, l.foldl (fun (s : Int × Int) c => (g1 s.1 c, g2 s.2 c)) (a, b) = (l.foldl g1 a, l.foldl g2 b) := by
 induction l with
 | nil => intro a b; rfl
 | cons c r ih => intro a b; exact ih _ _
def mxF (f : C → Int) (l : List C) (s : Int) : Int := l.foldl (fun s c => mx s (f c)) s
def mnF (f : C → Int) (l : List C) (s : Int) : Int := l.foldl (fun s c => mn s (f c)) s
def lo (l : List C) : Int × Int := (mnF (fun c => c.f0) l (at_ l 0).f0, mnF (fun c => c.f1) l (at_ l 0).f1)
def hi (l : List C) : Int × Int := (mxF (fun c => c.f0) l (at_ l 0).f0, mxF (fun c => c.f1) l (at_ l 0).f1)
theorem mn_self (a : Int) : mn a a = a := by unfold mn; split <;> omega
theorem lo_drop (l : List C) (h : 0 < l.length) : lo l = (mnF (fun c => c.f0) (l.drop 1) (at_ l 0).f0, mnF (fun c => c.f1) (l.drop 1) (at_ l 0).f1) := by
 have e := drop_at l 0 h
 rw [List.drop_zero] at e
 unfold lo
 have e0 : mnF (fun c => c.f0) l (at_ l 0).f0 = mnF (fun c => c.f0) (l.drop 1) (at_ l 0).f0 := by
  conv => lhs; rw [e]
  show mnF _ (l.drop (0 + 1)) (mn (at_ (at_ l 0 :: l.drop (0 + 1)) 0).f0 (at_ l 0).f0) = _
  rw [show at_ (at_ l 0 :: l.drop (0 + 1)) 0 = at_ l 0 from rfl, mn_self]
 have e1 : mnF (fun c => c.f1) l (at_ l 0).f1 = mnF (fun c => c.f1) (l.drop 1) (at_ l 0).f1 := by
  conv => lhs; rw [e]
  show mnF _ (l.drop (0 + 1)) (mn (at_ (at_ l 0 :: l.drop (0 + 1)) 0).f1 (at_ l 0).f1) = _
  rw [show at_ (at_ l 0 :: l.drop (0 + 1)) 0 = at_ l 0 from rfl, mn_self]
 rw [e0, e1]
def movC (a b : Int) (c : C) : C := ⟨wrap64 (c.f0 + a), wrap64 (c.f1 + b)⟩
def movL (a b : Int) (l : List C) : List C := l.map (movC a b)
theorem movL_length (a b : Int) (l : List C) : (movL a b l).length = l.length := by simp [movL]
theorem foldl_append_map {α β : Type} (f : α → β) (l : List α) : ∀ s : List β, l.foldl (fun s c => s ++ [f c]) s = s ++ l.map f := by
 induction l with
 | nil => intro s; simp
 | cons c r ih => intro s; rw [List.foldl_cons, ih]; simp
def normL (l : List C) : List C := movL (wrap64 (-(lo l).1)) (wrap64 (-(lo l).2)) l
theorem normL_length (l : List C) : (normL l).length = l.length := movL_length _ _ _
def rotN : Nat → Int → Int → Int × Int
 | 0, x, y => (x, y)
 | n + 1, x, y => rotN n (wrap64 (-y)) x
def trn (t x y : Int) : Int × Int := rotN (Int.tmod t 4).toNat (if t ≥ 4 then wrap64 (-x) else x) y
def trC (t : Int) (c : C) : C := ⟨(trn t c.f0 c.f1).1, (trn t c.f0 c.f1).2⟩
def formP (l : List C) (t : Int) : List C := normL (sortP (l.map (trC t)))
theorem formP_length (l : List C) (t : Int) : (formP l t).length = l.length := by unfold formP; rw [normL_length, sortP_length, List.length_map]
theorem tmod4 (t : Int) (h : 0 ≤ t) : 0 ≤ Int.tmod t 4 ∧ Int.tmod t 4 < 4 := tmod_pos h (by omega)
theorem ev_foldE {σ β : Type} (F : Nat → σ → Int → Option β) (l : List C) (g : σ → C → σ) (inv : Nat → σ → Prop)
  (step : ∀ s (j : Nat), j < l.length → at_ l j ∈ l → inv j s → inv (j + 1) (g s (at_ l j)) ∧ ∀ r, Ev (fun k => F k (g s (at_ l j)) ((j + 1 : Nat) : Int)) r → Ev (fun k => F k s (j : Nat)) r)
  (r : β) (j0 : Nat) (hj0 : j0 ≤ l.length) (s0 : σ) (h0 : inv j0 s0) (hr : inv l.length ((l.drop j0).foldl g s0) → Ev (fun k => F k ((l.drop j0).foldl g s0) (l.length : Nat)) r) : Ev (fun k => F k s0 (j0 : Nat)) r := by
 have key : ∀ d j : Nat, j + d = l.length → ∀ s, inv j s → (inv l.length ((l.drop j).foldl g s) → Ev (fun k => F k ((l.drop j).foldl g s) (l.length : Nat)) r) → Ev (fun k => F k s (j : Nat)) r := by
  intro d
  induction d with
  | zero =>
   intro j hj s hs hr
   obtain rfl : j = l.length := by omega
   rw [List.drop_length] at hr
   exact hr hs
  | succ d ih =>
   intro j hj s hs hr
   have h : j < l.length := by omega
   obtain ⟨h1, h2⟩ := step s j h (at_mem l j h) hs
   refine h2 r (ih (j + 1) (by omega) _ h1 ?_)
   rw [drop_at l j h] at hr; exact hr
 exact key (l.length - j0) j0 (by omega) s0 h0 hr
theorem ins_loop (l : List C) (x y : Int) (hl : l.length ≤ 1048576) : ∀ d j : Nat, j + d = l.length → ∀ acc : List C, acc.length ≤ j + 1 →
  Ev (fun k => spec_l02Insert.l0 k l acc true (j : Nat) x y) (acc ++ l.drop j) ∧ (acc.length ≤ j → Ev (fun k => spec_l02Insert.l0 k l acc false (j : Nat) x y) (acc ++ insP ⟨x, y⟩ (l.drop j))) := by
 intro d
 induction d with
 | zero =>
  intro j hj acc ha
  obtain rfl : j = l.length := by omega
  rw [List.drop_length]
  refine ⟨?_, fun _ => ?_⟩
  ·refine Ev.step (fun k => ?_) (Ev.now _)
   simp only [spec_l02Insert.l0, if_true, List.append_nil]; rw [if_neg (by omega)]
  ·refine Ev.step (fun k => ?_) (Ev.now _)
   simp only [spec_l02Insert.l0, insP, Bool.false_eq_true, if_false]; rw [if_neg (by omega), if_pos (by omega)]
 | succ d ih =>
  intro j hj acc ha
  have hjl : j < l.length := by omega
  rw [drop_at l j hjl]
  have ej : wrap64 ((j : Int) + 1) = ((j + 1 : Nat) : Int) := by rw [w64 (by omega) (by omega)]; rfl
  refine ⟨?_, fun hb => ?_⟩
  ·have g := (ih (j + 1) (by omega) (acc ++ [at_ l j]) (by simp; omega)).1
   rw [List.append_assoc] at g
   refine Ev.step (fun k => ?_) g
   simp only [spec_l02Insert.l0, rd_at, if_true]
   rw [if_pos (by omega), if_pos (by omega), if_pos (by omega), ej]
  ·by_cases c : ltC ⟨x, y⟩ (at_ l j)
   ·have c' : ltC ⟨x, y⟩ ⟨(at_ l j).f0, (at_ l j).f1⟩ := c
    have g := (ih (j + 1) (by omega) ((acc ++ [⟨x, y⟩]) ++ [at_ l j]) (by simp; omega)).1
    unfold insP
    rw [if_pos c]
    rw [List.append_assoc, List.append_assoc] at g
    refine Ev.step (fun k => ?_) g
    simp only [spec_l02Insert.l0, rd_at, less_eq, Option.bind_some, Bool.false_eq_true, if_false, decide_eq_true c', if_true]
    rw [if_pos (by omega), if_pos (by omega), if_pos (by omega), if_pos (by simp; omega), ej, List.append_assoc]
   ·have c' : ¬ ltC ⟨x, y⟩ ⟨(at_ l j).f0, (at_ l j).f1⟩ := c
    have g := (ih (j + 1) (by omega) (acc ++ [at_ l j]) (by simp; omega)).2 (by simp; omega)
    unfold insP
    rw [if_neg c]
    rw [List.append_assoc] at g
    refine Ev.step (fun k => ?_) g
    simp only [spec_l02Insert.l0, rd_at, less_eq, Option.bind_some, Bool.false_eq_true, if_false, decide_eq_false c']
    rw [if_pos (by omega), if_pos (by omega), if_pos (by omega), ej]
theorem specIns_ev (l : List C) (x y : Int) (hl : l.length ≤ 1048576) : Ev (fun k => spec_l02Insert.f k l x y) (insP ⟨x, y⟩ l) :=
 (ins_loop l x y hl l.length 0 (by omega) [] (by simp)).2 (by simp)
theorem specSort_ev (l : List C) (hl : l.length ≤ 1048570) : Ev (fun k => spec_l02Sort.f k l) (sortP l) := by
 unfold spec_l02Sort.f
 refine ev_foldE (fun k s j => spec_l02Sort.l0 k l s j) l (fun s c => insP c s) (fun j s => s.length = j) ?_ _ 0 (by omega) [] rfl ?_
 ·intro s j hj hm hs
  refine ⟨by rw [insP_length]; omega, fun r hr => ?_⟩
  refine Ev.step (f := fun k => (spec_l02Insert.f k s (at_ l j).f0 (at_ l j).f1).bind fun t => spec_l02Sort.l0 k l t ((j + 1 : Nat) : Int)) (fun k => ?_) ?_
  ·simp only [spec_l02Sort.l0, rd_at]; rw [if_pos (by omega), if_pos (by omega), w64 (by omega) (by omega)]; rfl
  ·exact Ev.bind (f := fun k t => spec_l02Sort.l0 k l t ((j + 1 : Nat) : Int)) (specIns_ev s _ _ (by omega)) hr
 ·intro hs
  refine Ev.step (fun k => ?_) (Ev.now _)
  simp only [spec_l02Sort.l0]; rw [if_neg (by omega)]; rfl
theorem least_ev (l : List C) (h : 0 < l.length) (hl : l.length ≤ 1048576) : Ev (fun k => spec_l02Least.f k l) (lo l) := by
 unfold spec_l02Least.f
 simp only [if_pos (show 0 < (l.length : Int) by omega)]
 have e0 : rd_T42 l 0 = at_ l 0 := rd_at l 0
 rw [e0]
 refine ev_fold (fun k (s : Int × Int) j => spec_l02Least.l0 k l s.1 s.2 j) l (fun s c => (mn s.1 c.f0, mn s.2 c.f1)) some _ (fun _ _ => True) ?_ ?_ 1 (by omega) ((at_ l 0).f0, (at_ l 0).f1) trivial ?_
 ·intro k s j hj hm _
  refine ⟨?_, trivial⟩
  simp only [spec_l02Least.l0, rd_at]; rw [if_pos (by omega), if_pos (by omega), w64 (x := (j : Int) + 1) (by omega) (by omega)]; rfl
 ·intro k s _
  simp only [spec_l02Least.l0]; rw [if_neg (by omega)]
 ·rw [foldl_pair (fun s c => mn s c.f0) (fun s c => mn s c.f1), lo_drop l h]; rfl
theorem specMove_ev (l : List C) (a b : Int) (hl : l.length ≤ 1048576) : Ev (fun k => spec_l02Move.f k l a b) (movL a b l) := by
 unfold spec_l02Move.f
 refine ev_fold (fun k (s : List C) j => spec_l02Move.l0 k l a b s j) l (fun s c => s ++ [movC a b c]) some _ (fun j s => s.length = j) ?_ ?_ 0 (by omega) [] rfl ?_
 ·intro k s j hj hm hs
  refine ⟨?_, by simp [hs]⟩
  simp only [spec_l02Move.l0, rd_at]; rw [if_pos (by omega), if_pos (by omega), if_pos (by omega), w64 (x := (j : Int) + 1) (by omega) (by omega)]; rfl
 ·intro k s _
  simp only [spec_l02Move.l0]; rw [if_neg (by omega)]
 ·rw [List.drop_zero, foldl_append_map]; rfl
theorem specNorm_ev (l : List C) (h : 0 < l.length) (hl : l.length ≤ 1048576) : Ev (fun k => spec_l02Normal.f k l) (normL l) := by
 obtain ⟨K, h1, h2⟩ := ev2 (least_ev l h hl) (specMove_ev l (wrap64 (-(lo l).1)) (wrap64 (-(lo l).2)) hl)
 refine ⟨K, fun k hk => ?_⟩
 obtain ⟨n, rfl⟩ : ∃ n, k = K + n := ⟨k - K, by omega⟩
 simp only [spec_l02Normal.f, h1, h2, Option.bind_some]; rfl
theorem sturn_loop : ∀ n : Nat, n < 4 → ∀ x y : Int, Ev (fun k => spec_l03Turn.l0 k (n : Nat) x y) (rotN n x y) := by
 intro n
 induction n with
 | zero =>
  intro _ x y
  refine Ev.step (fun k => ?_) (Ev.now _)
  simp only [spec_l03Turn.l0, rotN]; rw [if_neg (by omega)]
 | succ n ih =>
  intro h x y
  refine Ev.step (fun k => ?_) (ih (by omega) (wrap64 (-y)) x)
  simp only [spec_l03Turn.l0]
  rw [if_pos (by omega), w64 (x := ((n + 1 : Nat) : Int) - 1) (by omega) (by omega), show ((n + 1 : Nat) : Int) - 1 = (n : Nat) from by omega]
theorem sturn_ev (t x y : Int) (ht : 0 ≤ t) : Ev (fun k => spec_l03Turn.f k x y t) (trn t x y) := by
 have h4 := tmod4 t ht
 have e : Int.tmod t 4 = ((Int.tmod t 4).toNat : Nat) := by omega
 unfold spec_l03Turn.f trn
 by_cases h : t ≥ 4
 ·simp only [if_pos h]
  refine Ev.step (f := fun k => spec_l03Turn.l0 k (Int.tmod t 4) (wrap64 (-x)) y) (fun k => by simp only [spec_l03Turn.j0]) ?_
  have g := sturn_loop (Int.tmod t 4).toNat (by omega) (wrap64 (-x)) y
  rw [← e] at g; exact g
 ·simp only [if_neg h]
  refine Ev.step (f := fun k => spec_l03Turn.l0 k (Int.tmod t 4) x y) (fun k => by simp only [spec_l03Turn.j0]) ?_
  have g := sturn_loop (Int.tmod t 4).toNat (by omega) x y
  rw [← e] at g; exact g
theorem sform_ev (l : List C) (t : Int) (ht : 0 ≤ t) (h0 : 0 < l.length) (hl : l.length ≤ 1048570) : Ev (fun k => spec_l03Form.f k l t) (formP l t) := by
 unfold spec_l03Form.f
 refine ev_foldE (fun k s j => spec_l03Form.l0 k l t s j) l (fun s c => s ++ [trC t c]) (fun j s => s.length = j) ?_ _ 0 (by omega) [] rfl ?_
 ·intro s j hj hm hs
  refine ⟨by simp [hs], fun r hr => ?_⟩
  refine Ev.step (f := fun k => (spec_l03Turn.f k (at_ l j).f0 (at_ l j).f1 t).bind fun bt => spec_l03Form.l0 k l t (s ++ [⟨bt.1, bt.2⟩]) ((j + 1 : Nat) : Int)) (fun k => ?_) ?_
  ·simp only [spec_l03Form.l0, rd_at]; rw [if_pos (by omega), if_pos (by omega), w64 (x := (j : Int) + 1) (by omega) (by omega)]
   congr 1; funext bt; rw [if_pos (by omega)]; rfl
  ·exact Ev.bind (f := fun k (bt : Int × Int) => spec_l03Form.l0 k l t (s ++ [⟨bt.1, bt.2⟩]) ((j + 1 : Nat) : Int)) (sturn_ev t _ _ ht) hr
 ·intro hs
  rw [List.drop_zero, foldl_append_map, List.nil_append]
  refine Ev.step (f := fun k => (spec_l02Sort.f k (l.map (trC t))).bind fun t848 => ((spec_l02Normal.f k t848).bind fun t851 => (some t851))) (fun k => ?_) ?_
  ·simp only [spec_l03Form.l0]; rw [if_neg (by omega)]
  ·refine Ev.bind (f := fun k t848 => ((spec_l02Normal.f k t848).bind fun t851 => (some t851))) (specSort_ev _ (by rw [List.length_map]; omega)) ?_
   exact Ev.bind (f := fun k t851 => some t851) (specNorm_ev _ (by rw [sortP_length, List.length_map]; omega) (by rw [sortP_length, List.length_map]; omega)) (Ev.now _)
noncomputable def codeP (l : List C) : Int := if shB l = true then (if shB (normL l) = true then 0 else 3) else 1
theorem scode_ev (l : List C) (hl : l.length ≤ 1048576) : Ev (fun k => spec_l03Code.f k l) (codeP l) := by
 unfold spec_l03Code.f codeP
 rcases sh_cases l with ⟨hs, hb⟩ | ⟨hs, hb⟩
 ·refine Ev.bind (f := fun k t => if t = true then ((spec_l02Normal.f k l).bind fun t540 => ((spec_IsShape.f k t540).bind fun t543 => (if t543 = true then (some 0) else (some 3)))) else (some 1)) (specShape_ev l hl) ?_
  simp only [hb, if_true]
  refine Ev.bind (f := fun k t540 => ((spec_IsShape.f k t540).bind fun t543 => (if t543 = true then (some 0) else (some 3)))) (specNorm_ev l hs.1 hl) ?_
  refine Ev.bind (f := fun k t543 => (if t543 = true then (some (0 : Int)) else (some 3))) (specShape_ev (normL l) (by rw [normL_length]; exact hl)) ?_
  cases shB (normL l) <;> exact Ev.now _
 ·refine Ev.bind (f := fun k t => if t = true then ((spec_l02Normal.f k l).bind fun t540 => ((spec_IsShape.f k t540).bind fun t543 => (if t543 = true then (some 0) else (some 3)))) else (some 1)) (specShape_ev l hl) ?_
  simp only [hb, Bool.false_eq_true, if_false]; exact Ev.now _
theorem codeP_cases (l : List C) : (¬ Sh l ∧ shB l = false ∧ codeP l = 1) ∨ (Sh l ∧ shB l = true ∧ codeP l = 0) ∨ (Sh l ∧ shB l = true ∧ codeP l = 3) := by
 unfold codeP
 rcases sh_cases l with ⟨hs, hb⟩ | ⟨hs, hb⟩
 ·rw [hb]
  cases shB (normL l)
  ·exact Or.inr (Or.inr ⟨hs, rfl, rfl⟩)
  ·exact Or.inr (Or.inl ⟨hs, rfl, rfl⟩)
 ·rw [hb]; exact Or.inl ⟨hs, rfl, rfl⟩
def cmpL : List C → List C → Int
 | a :: r, b :: s => if ltC a b then -1 else if ltC b a then 1 else cmpL r s
 | _, _ => 0
def cmpS (l m : List C) : Int := if l.length = m.length then cmpL l m else if l.length < m.length then -1 else 1
theorem specCmp_loop (l m : List C) (hl : l.length ≤ 1048576) (hm : l.length = m.length) : ∀ d j : Nat, j + d = l.length → Ev (fun k => spec_CompareShapes.l0 k l m (j : Nat)) (cmpL (l.drop j) (m.drop j)) := by
 intro d
 induction d with
 | zero =>
  intro j hj
  obtain rfl : j = l.length := by omega
  rw [List.drop_length]
  refine Ev.step (fun k => ?_) (Ev.now _)
  simp only [spec_CompareShapes.l0, cmpL]; rw [if_neg (by omega)]
 | succ d ih =>
  intro j hj
  rw [drop_at l j (by omega), drop_at m j (by omega)]
  have e : ∀ k, spec_CompareShapes.l0 (k + 1) l m (j : Nat) = if ltC (at_ l j) (at_ m j) then some (-1) else if ltC (at_ m j) (at_ l j) then some 1 else spec_CompareShapes.l0 k l m ((j + 1 : Nat) : Int) := by
   intro k
   simp only [spec_CompareShapes.l0, rd_at, less_eq, Option.bind_some, decide_eq_true_eq]
   rw [if_pos (by omega), if_pos (by omega), if_pos (by omega), w64 (by omega) (by omega)]; rfl
  by_cases c1 : ltC (at_ l j) (at_ m j)
  ·refine Ev.step (fun k => (e k).trans (if_pos c1)) ?_
   simp only [cmpL, if_pos c1]; exact Ev.now _
  ·by_cases c2 : ltC (at_ m j) (at_ l j)
   ·refine Ev.step (fun k => (e k).trans ((if_neg c1).trans (if_pos c2))) ?_
    simp only [cmpL, if_neg c1, if_pos c2]; exact Ev.now _
   ·refine Ev.step (fun k => (e k).trans ((if_neg c1).trans (if_neg c2))) ?_
    simp only [cmpL, if_neg c1, if_neg c2]; exact ih (j + 1) (by omega)
theorem specCmp_ev (l m : List C) (hl : l.length ≤ 1048576) : Ev (fun k => spec_CompareShapes.f k l m) (cmpS l m) := by
 unfold spec_CompareShapes.f cmpS
 by_cases h : l.length = m.length
 ·simp only [if_pos h, if_pos (show (l.length : Int) = (m.length : Int) by omega)]
  exact specCmp_loop l m hl h l.length 0 (by omega)
 ·simp only [if_neg h, if_neg (show ¬ (l.length : Int) = (m.length : Int) by omega)]
  by_cases g : l.length < m.length
  ·simp only [if_pos g, if_pos (show (l.length : Int) < (m.length : Int) by omega)]; exact Ev.now _
  ·simp only [if_neg g, if_neg (show ¬ (l.length : Int) < (m.length : Int) by omega)]; exact Ev.now _
theorem cmpL_range (a : List C) : ∀ b, cmpL a b = -1 ∨ cmpL a b = 0 ∨ cmpL a b = 1 := by
 induction a with
 | nil => intro b; exact Or.inr (Or.inl rfl)
 | cons x r ih =>
  intro b
  cases b with
  | nil => exact Or.inr (Or.inl rfl)
  | cons y s =>
   simp only [cmpL]
   split
   ·exact Or.inl rfl
   ·split
    ·exact Or.inr (Or.inr rfl)
    ·exact ih s
theorem cmpL_zero (a : List C) : ∀ b, a.length = b.length → (cmpL a b = 0 ↔ a = b) := by
 induction a with
 | nil =>
  intro b h
  have : b = [] := List.length_eq_zero_iff.1 (by simpa using h.symm)
  rw [this]; exact ⟨fun _ => rfl, fun _ => rfl⟩
 | cons x r ih =>
  intro b h
  cases b with
  | nil => simp at h
  | cons y s =>
   simp only [cmpL]
   have hl : r.length = s.length := by simpa using h
   by_cases c1 : ltC x y
   ·rw [if_pos c1]
    exact ⟨fun g => by omega, fun g => by rw [(List.cons.inj g).1] at c1; exact absurd c1 (fun h => ltC_irrefl h)⟩
   ·rw [if_neg c1]
    by_cases c2 : ltC y x
    ·rw [if_pos c2]
     exact ⟨fun g => by omega, fun g => by rw [(List.cons.inj g).1] at c2; exact absurd c2 (fun h => ltC_irrefl h)⟩
    ·rw [if_neg c2, ih s hl]
     have e : x = y := leC_anti (show leC x y from c2) (show leC y x from c1)
     rw [e]
     exact ⟨fun g => by rw [g], fun g => (List.cons.inj g).2⟩
theorem cmpL_neg (a : List C) : ∀ b, cmpL b a = -cmpL a b := by
 induction a with
 | nil => intro b; cases b <;> rfl
 | cons x r ih =>
  intro b
  cases b with
  | nil => rfl
  | cons y s =>
   simp only [cmpL]
   by_cases c1 : ltC x y
   ·have c2 : ¬ ltC y x := fun g => ltC_irrefl (ltC_trans c1 g)
    rw [if_pos c1, if_neg c2, if_pos c1]; rfl
   ·rw [if_neg c1]
    by_cases c2 : ltC y x
    ·rw [if_pos c2, if_neg c1, if_pos c2]
    ·rw [if_neg c2, if_neg c2, if_neg c1]; exact ih s
theorem cmpL_trans (a : List C) : ∀ b c, a.length = b.length → b.length = c.length → cmpL a b = -1 → cmpL b c = -1 → cmpL a c = -1 := by
 induction a with
 | nil => intro b c _ _ h; simp [cmpL] at h
 | cons x r ih =>
  intro b c h1 h2 g1 g2
  cases b with
  | nil => simp at h1
  | cons y s =>
   cases c with
   | nil => simp at h2
   | cons z t =>
    simp only [cmpL] at g1 g2 ⊢
    by_cases c1 : ltC x y
    ·by_cases c2 : ltC y z
     ·rw [if_pos (ltC_trans c1 c2)]
     ·rw [if_neg c2] at g2
      by_cases c3 : ltC z y
      ·rw [if_pos c3] at g2; omega
      ·have e : y = z := leC_anti (show leC y z from c3) (show leC z y from c2)
       rw [← e, if_pos c1]
    ·rw [if_neg c1] at g1
     by_cases c3 : ltC y x
     ·rw [if_pos c3] at g1; omega
     ·have e : x = y := leC_anti (show leC x y from c3) (show leC y x from c1)
      rw [if_neg c3] at g1
      rw [e]
      by_cases c2 : ltC y z
      ·rw [if_pos c2]
      ·rw [if_neg c2] at g2 ⊢
       by_cases c4 : ltC z y
       ·rw [if_pos c4] at g2; omega
       ·rw [if_neg c4] at g2 ⊢
        exact ih s t (by simpa using h1) (by simpa using h2) g1 g2
theorem cmpS_range (a b : List C) : cmpS a b = -1 ∨ cmpS a b = 0 ∨ cmpS a b = 1 := by
 unfold cmpS
 split
 ·exact cmpL_range a b
 ·split
  ·exact Or.inl rfl
  ·exact Or.inr (Or.inr rfl)
theorem cmpS_zero (a b : List C) : cmpS a b = 0 ↔ a = b := by
 unfold cmpS
 by_cases h : a.length = b.length
 ·rw [if_pos h]; exact cmpL_zero a b h
 ·rw [if_neg h]
  refine ⟨fun g => ?_, fun g => absurd (by rw [g]) h⟩
  split at g <;> omega
theorem cmpS_neg (a b : List C) : cmpS b a = -cmpS a b := by
 unfold cmpS
 by_cases h : a.length = b.length
 ·rw [if_pos h, if_pos h.symm]; exact cmpL_neg a b
 ·rw [if_neg h, if_neg (fun g => h g.symm)]
  by_cases g : a.length < b.length
  ·rw [if_pos g, if_neg (by omega)]; rfl
  ·rw [if_neg g, if_pos (by omega)]
def ltS (a b : List C) : Prop := cmpS a b = -1
theorem ltS_trans {a b c : List C} (h : ltS a b) (g : ltS b c) : ltS a c := by
 unfold ltS cmpS at *
 by_cases h1 : a.length = b.length
 ·by_cases h2 : b.length = c.length
  ·rw [if_pos h1] at h; rw [if_pos h2] at g; rw [if_pos (h1.trans h2)]
   exact cmpL_trans a b c h1 h2 h g
  ·rw [if_neg h2] at g
   rw [if_neg (by omega)]
   by_cases g2 : b.length < c.length
   ·rw [if_pos (by omega)]
   ·rw [if_neg g2] at g; omega
 ·rw [if_neg h1] at h
  by_cases g1 : a.length < b.length
  ·by_cases h2 : b.length = c.length
   ·rw [if_neg (by omega), if_pos (by omega)]
   ·rw [if_neg h2] at g
    by_cases g2 : b.length < c.length
    ·rw [if_neg (by omega), if_pos (by omega)]
    ·rw [if_neg g2] at g; omega
  ·rw [if_neg g1] at h; omega
theorem ltS_irrefl {a : List C} (h : ltS a a) : False := by
 unfold ltS at h
 rw [(cmpS_zero a a).2 rfl] at h; omega
theorem ltS_tri (a b : List C) : ltS a b ∨ a = b ∨ ltS b a := by
 rcases cmpS_range a b with h | h | h
 ·exact Or.inl h
 ·exact Or.inr (Or.inl ((cmpS_zero a b).1 h))
 ·refine Or.inr (Or.inr ?_)
  unfold ltS; rw [cmpS_neg, h]
theorem cmpS_pos (a b : List C) : cmpS a b = 1 ↔ ltS b a := by
 unfold ltS; rw [cmpS_neg a b]; omega
theorem ltS_unique {l m : List (List C)} (hl : l.Pairwise ltS) (hm : m.Pairwise ltS) (h : ∀ s, s ∈ l ↔ s ∈ m) : l = m := by
 have n1 : l.Nodup := hl.imp fun h e => by rw [e] at h; exact ltS_irrefl h
 have n2 : m.Nodup := hm.imp fun h e => by rw [e] at h; exact ltS_irrefl h
 exact List.Perm.eq_of_pairwise (le := ltS) (fun a b _ _ h1 h2 => (ltS_irrefl (ltS_trans h1 h2)).elim) hl hm ((List.perm_ext_iff_of_nodup n1 n2).2 h)
def ro_ (l : List (List C)) (j : Nat) : List C := l.getD j []
theorem rd_ro (l : List (List C)) (j : Nat) : rd_L3 l (j : Int) = ro_ l j := by unfold rd_L3 ro_; rw [Int.toNat_natCast]
theorem ro_get (l : List (List C)) (j : Nat) (h : j < l.length) : ro_ l j = l[j] := by unfold ro_; rw [List.getD_eq_getElem?_getD, List.getElem?_eq_getElem h]; rfl
theorem ro_mem (l : List (List C)) (j : Nat) (h : j < l.length) : ro_ l j ∈ l := by rw [ro_get l j h]; exact List.getElem_mem h
theorem drop_ro (l : List (List C)) (j : Nat) (h : j < l.length) : l.drop j = ro_ l j :: l.drop (j + 1) := by rw [ro_get l j h, List.drop_eq_getElem_cons h]
theorem take_ro (l : List (List C)) (j : Nat) (h : j < l.length) : l.take (j + 1) = l.take j ++ [ro_ l j] := by rw [ro_get l j h, List.take_succ_eq_append_getElem h]
def insS (s : List C) : List (List C) → List (List C)
 | [] => [s]
 | x :: r => if cmpS s x = 0 then x :: r else if cmpS s x < 0 then s :: x :: r else x :: insS s r
theorem insS_mem (s t : List C) (l : List (List C)) : t ∈ insS s l ↔ t = s ∨ t ∈ l := by
 induction l with
 | nil => simp [insS]
 | cons x r ih =>
  unfold insS
  by_cases h : cmpS s x = 0
  ·rw [if_pos h]
   have e := (cmpS_zero s x).1 h
   constructor
   ·exact fun g => Or.inr g
   ·rintro (g | g)
    ·rw [g, e]; exact List.mem_cons_self
    ·exact g
  ·rw [if_neg h]
   by_cases g : cmpS s x < 0
   ·rw [if_pos g, List.mem_cons]
   ·rw [if_neg g, List.mem_cons, ih, List.mem_cons]
    constructor
    ·rintro (a | a | a)
     ·exact Or.inr (Or.inl a)
     ·exact Or.inl a
     ·exact Or.inr (Or.inr a)
    ·rintro (a | a | a)
     ·exact Or.inr (Or.inl a)
     ·exact Or.inl a
     ·exact Or.inr (Or.inr a)
theorem cmpS_neg_lt {a b : List C} (h : cmpS a b < 0) : ltS a b := by
 unfold ltS; rcases cmpS_range a b with g | g | g <;> omega
theorem insS_sorted (s : List C) (l : List (List C)) (h : l.Pairwise ltS) : (insS s l).Pairwise ltS := by
 induction l with
 | nil => exact List.pairwise_singleton _ _
 | cons x r ih =>
  obtain ⟨h1, h2⟩ := List.pairwise_cons.1 h
  unfold insS
  by_cases c : cmpS s x = 0
  ·rw [if_pos c]; exact h
  ·rw [if_neg c]
   by_cases g : cmpS s x < 0
   ·rw [if_pos g]
    refine List.pairwise_cons.2 ⟨fun t ht => ?_, h⟩
    have e := cmpS_neg_lt g
    rcases List.mem_cons.1 ht with rfl | ht
    ·exact e
    ·exact ltS_trans e (h1 t ht)
   ·rw [if_neg g]
    refine List.pairwise_cons.2 ⟨fun t ht => ?_, ih h2⟩
    rcases (insS_mem s t r).1 ht with rfl | ht
    ·exact (cmpS_pos t x).1 (by rcases cmpS_range t x with g1 | g1 | g1 <;> omega)
    ·exact h1 t ht
theorem insS_length (s : List C) (l : List (List C)) : (insS s l).length ≤ l.length + 1 := by
 induction l with
 | nil => simp [insS]
 | cons x r ih =>
  unfold insS
  repeat' split
  all_goals simp only [List.length_cons]; omega
theorem add_done (l : List (List C)) (s : List C) (hl : l.length ≤ 1000000) (hs : s.length ≤ 1048576) : ∀ d j : Nat, j + d = l.length → (∀ x ∈ l.drop j, ltS s x) → ∀ out : List (List C), out.length ≤ j + 1 → Ev (fun k => spec_l03Add.l0 k l s out true (j : Nat)) (out ++ l.drop j) := by
 intro d
 induction d with
 | zero =>
  intro j hj _ out ho
  obtain rfl : j = l.length := by omega
  rw [List.drop_length, List.append_nil]
  refine Ev.step (fun k => ?_) (Ev.now _)
  simp only [spec_l03Add.l0]; rw [if_neg (by omega), if_pos trivial]
 | succ d ih =>
  intro j hj hx out ho
  rw [drop_ro l j (by omega)] at hx ⊢
  have e1 := hx _ List.mem_cons_self
  unfold ltS at e1
  have g := ih (j + 1) (by omega) (fun x h => hx x (List.mem_cons_of_mem _ h)) (out ++ [ro_ l j]) (by rw [List.length_append, List.length_singleton]; omega)
  rw [List.append_assoc] at g
  refine Ev.step (f := fun k => (spec_CompareShapes.f k s (ro_ l j)).bind fun t => if t = 0 then some l else if t < 0 then spec_l03Add.l0 k l s (out ++ [ro_ l j]) true ((j + 1 : Nat) : Int) else spec_l03Add.l0 k l s (out ++ [ro_ l j]) true ((j + 1 : Nat) : Int)) (fun k => ?_) ?_
  ·simp only [spec_l03Add.l0, rd_ro, if_true]
   rw [if_pos (by omega), if_pos (by omega), if_pos (by omega), w64 (by omega) (by omega)]; rfl
  ·refine Ev.bind (f := fun k t => if t = 0 then some l else if t < 0 then spec_l03Add.l0 k l s (out ++ [ro_ l j]) true ((j + 1 : Nat) : Int) else spec_l03Add.l0 k l s (out ++ [ro_ l j]) true ((j + 1 : Nat) : Int)) (specCmp_ev s (ro_ l j) hs) ?_
   rw [e1]; simp only [if_neg (show ¬ (-1 : Int) = 0 by decide), if_pos (show (-1 : Int) < 0 by decide)]
   exact g
theorem add_open (l : List (List C)) (s : List C) (hp : l.Pairwise ltS) (hl : l.length ≤ 1000000) (hs : s.length ≤ 1048576) : ∀ d j : Nat, j + d = l.length → Ev (fun k => spec_l03Add.l0 k l s (l.take j) false (j : Nat)) (l.take j ++ insS s (l.drop j)) := by
 intro d
 induction d with
 | zero =>
  intro j hj
  obtain rfl : j = l.length := by omega
  rw [List.drop_length, List.take_length]
  refine Ev.step (fun k => ?_) (Ev.now _)
  simp only [spec_l03Add.l0, Bool.false_eq_true, if_false]; rw [if_neg (by omega), if_pos (by omega)]; rfl
 | succ d ih =>
  intro j hj
  have hd := drop_ro l j (by omega)
  have ht := take_ro l j (by omega)
  have hlt : (l.take j).length = j := by rw [List.length_take]; omega
  have hsrt := hp.sublist (List.drop_sublist j l)
  rw [hd] at hsrt ⊢
  obtain ⟨s1, s2⟩ := List.pairwise_cons.1 hsrt
  refine Ev.step (f := fun k => (spec_CompareShapes.f k s (ro_ l j)).bind fun t => if t = 0 then some l else if t < 0 then spec_l03Add.l0 k l s ((l.take j ++ [s]) ++ [ro_ l j]) true ((j + 1 : Nat) : Int) else spec_l03Add.l0 k l s (l.take (j + 1)) false ((j + 1 : Nat) : Int)) (fun k => ?_) ?_
  ·simp only [spec_l03Add.l0, rd_ro, Bool.false_eq_true, if_false, Option.bind_some]
   rw [if_pos (by omega), if_pos (by omega), if_pos (by omega), if_pos (by rw [List.length_append, List.length_singleton]; omega), if_pos (show (l.take j).length < 5864062014805 by omega), w64 (by omega) (by omega), ht]; rfl
  ·refine Ev.bind (f := fun k t => if t = 0 then some l else if t < 0 then spec_l03Add.l0 k l s ((l.take j ++ [s]) ++ [ro_ l j]) true ((j + 1 : Nat) : Int) else spec_l03Add.l0 k l s (l.take (j + 1)) false ((j + 1 : Nat) : Int)) (specCmp_ev s (ro_ l j) hs) ?_
   unfold insS
   by_cases c : cmpS s (ro_ l j) = 0
   ·simp only [if_pos c]
    rw [← hd, List.take_append_drop]; exact Ev.now _
   ·simp only [if_neg c]
    by_cases g : cmpS s (ro_ l j) < 0
    ·simp only [if_pos g]
     have h := add_done l s hl hs d (j + 1) (by omega) (fun x hx => ltS_trans (cmpS_neg_lt g) (s1 x hx)) ((l.take j ++ [s]) ++ [ro_ l j]) (by simp only [List.length_append, List.length_singleton, hlt]; omega)
     have e : l.take j ++ [s] ++ [ro_ l j] ++ l.drop (j + 1) = l.take j ++ s :: ro_ l j :: l.drop (j + 1) := by simp
     rw [e] at h; exact h
    ·simp only [if_neg g]
     have h := ih (j + 1) (by omega)
     rw [ht] at h ⊢
     have e : l.take j ++ [ro_ l j] ++ insS s (l.drop (j + 1)) = l.take j ++ ro_ l j :: insS s (l.drop (j + 1)) := by simp
     rw [e] at h; exact h
theorem add_ev (l : List (List C)) (s : List C) (hp : l.Pairwise ltS) (hl : l.length ≤ 1000000) (hs : s.length ≤ 1048576) : Ev (fun k => spec_l03Add.f k l s) (insS s l) := by
 have h := add_open l s hp hl hs l.length 0 (by omega)
 rw [List.take_zero, List.drop_zero, List.nil_append] at h
 exact h
def tidyP (l : List (List C)) : List (List C) := l.foldl (fun a s => insS s a) []
theorem tidyP_snoc (l : List (List C)) (s : List C) : tidyP (l ++ [s]) = insS s (tidyP l) := by unfold tidyP; rw [List.foldl_append]; rfl
theorem foldl_ins (l : List (List C)) : ∀ a : List (List C), a.Pairwise ltS → (l.foldl (fun a s => insS s a) a).Pairwise ltS ∧ (∀ t, t ∈ l.foldl (fun a s => insS s a) a ↔ t ∈ a ∨ t ∈ l) ∧ (l.foldl (fun a s => insS s a) a).length ≤ a.length + l.length := by
 induction l with
 | nil => intro a h; exact ⟨h, fun t => by simp, by simp⟩
 | cons s r ih =>
  intro a h
  obtain ⟨h1, h2, h3⟩ := ih (insS s a) (insS_sorted s a h)
  refine ⟨h1, fun t => ?_, ?_⟩
  ·rw [List.foldl_cons, h2, insS_mem, List.mem_cons]
   constructor
   ·rintro ((h | h) | h)
    ·exact Or.inr (Or.inl h)
    ·exact Or.inl h
    ·exact Or.inr (Or.inr h)
   ·rintro (h | h | h)
    ·exact Or.inl (Or.inr h)
    ·exact Or.inl (Or.inl h)
    ·exact Or.inr h
  ·have := insS_length s a
   rw [List.foldl_cons, List.length_cons]; omega
theorem tidyP_sorted (l : List (List C)) : (tidyP l).Pairwise ltS := (foldl_ins l [] List.Pairwise.nil).1
theorem tidyP_mem (l : List (List C)) (t : List C) : t ∈ tidyP l ↔ t ∈ l := by
 refine ((foldl_ins l [] List.Pairwise.nil).2.1 t).trans ?_
 simp
theorem tidyP_length (l : List (List C)) : (tidyP l).length ≤ l.length := by
 have h := (foldl_ins l [] List.Pairwise.nil).2.2
 rw [List.length_nil, Nat.zero_add] at h; exact h
theorem tidyP_unique {l m : List (List C)} (hm : m.Pairwise ltS) (h : ∀ t, t ∈ m ↔ t ∈ l) : m = tidyP l :=
 ltS_unique hm (tidyP_sorted l) fun t => (h t).trans (tidyP_mem l t).symm
theorem merge_sortP (l : List C) : l.mergeSort (fun x y => !ltbC_ y x) = sortP l := by
 have e : (fun x y : C => !ltbC_ y x) = fun x y => @decide (leC x y) (Classical.propDecidable _) := by
  funext x y
  by_cases h : ltC y x
  ·have h1 : ltbC_ y x = true := by unfold ltbC_; exact decide_eq_true h
   rw [h1]; exact (@decide_eq_false (leC x y) (Classical.propDecidable _) (fun g => g h)).symm
  ·have h1 : ltbC_ y x = false := by unfold ltbC_; exact decide_eq_false h
   rw [h1]; exact (@decide_eq_true (leC x y) (Classical.propDecidable _) h).symm
 refine sorted_unique ?_ (sortP_sorted l) ((List.mergeSort_perm _ _).trans (sortP_perm l).symm)
 rw [e]
 have h := List.pairwise_mergeSort (le := fun x y : C => @decide (leC x y) (Classical.propDecidable _)) (fun a b c h1 h2 => @decide_eq_true _ (Classical.propDecidable _) (leC_trans (@of_decide_eq_true _ (Classical.propDecidable _) h1) (@of_decide_eq_true _ (Classical.propDecidable _) h2)))
  (fun a b => by
   rcases leC_total a b with g | g
   ·rw [@decide_eq_true _ (Classical.propDecidable _) g]; rfl
   ·rw [@decide_eq_true _ (Classical.propDecidable (leC b a)) g, Bool.or_true]) l
 exact h.imp fun g => @of_decide_eq_true _ (Classical.propDecidable _) g
theorem implSort_eq (l : List C) (hl : l.length ≤ 1048576) : impl_sorted.f l = some (sortP l) := by
 unfold impl_sorted.f slices_Clone_Cell.f
 rw [if_pos (by omega)]
 simp only [Option.bind_some, slices_SortFunc_Cell.f]
 rw [if_pos (by omega), Option.bind_some, merge_sortP]
theorem corner_ev (l : List C) (h : 0 < l.length) (hl : l.length ≤ 1048576) : Ev (fun k => impl_corner.f k l) (lo l) := by
 unfold impl_corner.f
 simp only [if_pos (show 0 < (l.length : Int) by omega)]
 have e0 : rd_T42 l 0 = at_ l 0 := rd_at l 0
 rw [e0]
 refine ev_fold (fun k (s : Int × Int) j => impl_corner.l0 k l (l.length : Int) j s.1 s.2) l (fun s c => (mn s.1 c.f0, mn s.2 c.f1)) some _ (fun _ _ => True) ?_ ?_ 0 (by omega) ((at_ l 0).f0, (at_ l 0).f1) trivial ?_
 ·intro k s j hj hm _
  refine ⟨?_, trivial⟩
  simp only [impl_corner.l0, rd_at]; rw [if_pos (by omega), if_pos (by omega), if_pos (by omega), w64 (x := (j : Int) + 1) (by omega) (by omega)]; rfl
 ·intro k s _
  simp only [impl_corner.l0]; rw [if_neg (by omega)]
 ·rw [List.drop_zero, foldl_pair (fun s c => mn s c.f0) (fun s c => mn s c.f1)]; rfl
theorem implMove_ev (l : List C) (a b : Int) (hl : l.length ≤ 1048576) : Ev (fun k => impl_moved.f k l a b) (movL a b l) := by
 unfold impl_moved.f
 simp only [if_pos (show 0 ≤ (l.length : Int) by omega), if_pos (show ((l.length : Int)).toNat ≤ 17592186044416 by omega)]
 refine ev_fold (fun k (s : List C) j => impl_moved.l0 k a b s l (l.length : Int) j) l (fun s c => s ++ [movC a b c]) some _ (fun j s => s.length = j) ?_ ?_ 0 (by omega) [] rfl ?_
 ·intro k s j hj hm hs
  refine ⟨?_, by simp [hs]⟩
  simp only [impl_moved.l0, rd_at]; rw [if_pos (by omega), if_pos (by omega), if_pos (by omega), if_pos (by omega), w64 (x := (j : Int) + 1) (by omega) (by omega)]; rfl
 ·intro k s _
  simp only [impl_moved.l0]; rw [if_neg (by omega)]
 ·rw [List.drop_zero, foldl_append_map]; rfl
theorem implNorm_ev (l : List C) (h : 0 < l.length) (hl : l.length ≤ 1048576) : Ev (fun k => impl_normal.f k l) (normL l) := by
 obtain ⟨K, h1, h2⟩ := ev2 (corner_ev l h hl) (implMove_ev l (wrap64 (-(lo l).1)) (wrap64 (-(lo l).2)) hl)
 refine ⟨K, fun k hk => ?_⟩
 obtain ⟨n, rfl⟩ : ∃ n, k = K + n := ⟨k - K, by omega⟩
 simp only [impl_normal.f, h1, h2, Option.bind_some]; rfl
theorem iturn_loop (n : Nat) (hn : n < 4) : ∀ d j : Nat, j + d = n → ∀ x y : Int, Ev (fun k => impl_turnCell.l0 k (n : Nat) (j : Nat) x y) (rotN d x y) := by
 intro d
 induction d with
 | zero =>
  intro j hj x y
  refine Ev.step (fun k => ?_) (Ev.now _)
  simp only [impl_turnCell.l0, rotN]; rw [if_neg (by omega)]
 | succ d ih =>
  intro j hj x y
  refine Ev.step (fun k => ?_) (ih (j + 1) (by omega) (wrap64 (-y)) x)
  simp only [impl_turnCell.l0]
  rw [if_pos (by omega), w64 (x := (j : Int) + 1) (by omega) (by omega)]; rfl
theorem iturn_ev (t x y : Int) (ht : 0 ≤ t) : Ev (fun k => impl_turnCell.f k x y t) (trn t x y) := by
 have h4 := tmod4 t ht
 have e : Int.tmod t 4 = ((Int.tmod t 4).toNat : Nat) := by omega
 unfold impl_turnCell.f trn
 by_cases h : t ≥ 4
 ·simp only [if_pos h]
  refine Ev.step (f := fun k => impl_turnCell.l0 k (Int.tmod t 4) 0 (wrap64 (-x)) y) (fun k => by simp only [impl_turnCell.j0]) ?_
  have g := iturn_loop (Int.tmod t 4).toNat (by omega) (Int.tmod t 4).toNat 0 (by omega) (wrap64 (-x)) y
  rw [← e] at g; exact g
 ·simp only [if_neg h]
  refine Ev.step (f := fun k => impl_turnCell.l0 k (Int.tmod t 4) 0 x y) (fun k => by simp only [impl_turnCell.j0]) ?_
  have g := iturn_loop (Int.tmod t 4).toNat (by omega) (Int.tmod t 4).toNat 0 (by omega) x y
  rw [← e] at g; exact g
theorem iform_ev (l : List C) (t : Int) (ht : 0 ≤ t) (h0 : 0 < l.length) (hl : l.length ≤ 1048570) : Ev (fun k => impl_form.f k l t) (formP l t) := by
 unfold impl_form.f
 simp only [if_pos (show 0 ≤ (l.length : Int) by omega), if_pos (show ((l.length : Int)).toNat ≤ 17592186044416 by omega)]
 refine ev_foldE (fun k s j => impl_form.l0 k t s l (l.length : Int) j) l (fun s c => s ++ [trC t c]) (fun j s => s.length = j) ?_ _ 0 (by omega) [] rfl ?_
 ·intro s j hj hm hs
  refine ⟨by simp [hs], fun r hr => ?_⟩
  refine Ev.step (f := fun k => (impl_turnCell.f k (at_ l j).f0 (at_ l j).f1 t).bind fun bt => impl_form.l0 k t (s ++ [⟨bt.1, bt.2⟩]) l (l.length : Int) ((j + 1 : Nat) : Int)) (fun k => ?_) ?_
  ·simp only [impl_form.l0, rd_at]; rw [if_pos (by omega), if_pos (by omega), if_pos (by omega), w64 (x := (j : Int) + 1) (by omega) (by omega)]
   congr 1; funext bt; rw [if_pos (by omega)]; rfl
  ·exact Ev.bind (f := fun k (bt : Int × Int) => impl_form.l0 k t (s ++ [⟨bt.1, bt.2⟩]) l (l.length : Int) ((j + 1 : Nat) : Int)) (iturn_ev t _ _ ht) hr
 ·intro hs
  rw [List.drop_zero, foldl_append_map, List.nil_append]
  refine Ev.step (f := fun k => (impl_normal.f k (sortP (l.map (trC t)))).bind fun t851 => (some t851)) (fun k => ?_) ?_
  ·simp only [impl_form.l0]; rw [if_neg (by omega), implSort_eq _ (by rw [List.length_map]; omega), Option.bind_some]
  ·exact Ev.bind (f := fun k t851 => some t851) (implNorm_ev _ (by rw [sortP_length, List.length_map]; omega) (by rw [sortP_length, List.length_map]; omega)) (Ev.now _)
theorem icode_ev (l : List C) (hl : l.length ≤ 1048576) : Ev (fun k => impl_shapeCode.f k l) (codeP l) := by
 unfold impl_shapeCode.f codeP
 rcases sh_cases l with ⟨hs, hb⟩ | ⟨hs, hb⟩
 ·refine Ev.bind (f := fun k t => if t = true then ((impl_normal.f k l).bind fun t540 => ((impl_IsShape.f k t540).bind fun t543 => (if t543 = true then (some 0) else (some 3)))) else (some 1)) (implShape_ev l hl) ?_
  simp only [hb, if_true]
  refine Ev.bind (f := fun k t540 => ((impl_IsShape.f k t540).bind fun t543 => (if t543 = true then (some 0) else (some 3)))) (implNorm_ev l hs.1 hl) ?_
  refine Ev.bind (f := fun k t543 => (if t543 = true then (some (0 : Int)) else (some 3))) (implShape_ev (normL l) (by rw [normL_length]; exact hl)) ?_
  cases shB (normL l) <;> exact Ev.now _
 ·refine Ev.bind (f := fun k t => if t = true then ((impl_normal.f k l).bind fun t540 => ((impl_IsShape.f k t540).bind fun t543 => (if t543 = true then (some 0) else (some 3)))) else (some 1)) (implShape_ev l hl) ?_
  simp only [hb, Bool.false_eq_true, if_false]; exact Ev.now _
theorem cfL_cmpL (a : List C) : ∀ b : List C, cfL_ a b = cmpL a b := by
 induction a with
 | nil => intro b; cases b <;> rfl
 | cons x r ih =>
  intro b
  cases b with
  | nil => rfl
  | cons y s =>
   have e1 : ltbC_ x y = decide (ltC x y) := rfl
   have e2 : ltbC_ y x = decide (ltC y x) := rfl
   simp only [cfL_, cmpL, cfC_, e1, e2, decide_eq_true_eq]
   by_cases c1 : ltC x y
   ·simp only [if_pos c1]; rw [if_neg (by decide)]
   ·simp only [if_neg c1]
    by_cases c2 : ltC y x
    ·simp only [if_pos c2]; rw [if_neg (by decide)]
    ·simp only [if_neg c2]; rw [if_pos trivial]; exact ih s
theorem cfS_cmpS (a b : List C) : cfS_ a b = cmpS a b := by unfold cfS_ cmpS; rw [cfL_cmpL]
def leS (a b : List C) : Prop := ¬ ltS b a
theorem cfS_lt (a b : List C) : cfS_ a b < 0 ↔ ltS a b := by
 rw [cfS_cmpS]; exact ⟨cmpS_neg_lt, fun h => by unfold ltS at h; omega⟩
theorem leS_lt {a b : List C} (h : leS a b) (hne : b ≠ a) : ltS a b := by
 rcases ltS_tri a b with g | g | g
 ·exact g
 ·exact absurd g.symm hne
 ·exact absurd g h
theorem leS_trans {a b c : List C} (h : leS a b) (g : leS b c) : leS a c := by
 intro k
 rcases ltS_tri a b with e | e | e
 ·exact g (ltS_trans k e)
 ·rw [e] at k; exact g k
 ·exact h e
theorem leS_ltS_trans {a b c : List C} (h : leS a b) (g : ltS b c) : ltS a c := by
 rcases ltS_tri a b with e | e | e
 ·exact ltS_trans e g
 ·rw [e]; exact g
 ·exact absurd e h
def formsL (l : List C) (n : Nat) : List (List C) := (List.range n).map fun t => formP l (t : Nat)
theorem formsL_length (l : List C) (n : Nat) : (formsL l n).length = n := by unfold formsL; rw [List.length_map, List.length_range]
theorem formsL_succ (l : List C) (n : Nat) : formsL l (n + 1) = formsL l n ++ [formP l (n : Nat)] := by unfold formsL; rw [List.range_succ, List.map_append]; rfl
theorem formsL_mem (l s : List C) (n : Nat) : s ∈ formsL l n ↔ ∃ t : Nat, t < n ∧ formP l (t : Nat) = s := by
 unfold formsL
 simp only [List.mem_map, List.mem_range]
theorem implForms_loop (l : List C) (n : Nat) (hn : n ≤ 8) (h0 : 0 < l.length) (hl : l.length ≤ 1048570) : ∀ d j : Nat, j + d = n → Ev (fun k => impl_forms.l0 k l (formsL l j) (n : Nat) (j : Nat)) (formsL l n) := by
 intro d
 induction d with
 | zero =>
  intro j hj
  obtain rfl : j = n := by omega
  refine Ev.step (fun k => ?_) (Ev.now _)
  simp only [impl_forms.l0]; rw [if_neg (by omega)]
 | succ d ih =>
  intro j hj
  have g := ih (j + 1) (by omega)
  rw [formsL_succ] at g
  have hlen := formsL_length l j
  refine Ev.step (f := fun k => (impl_form.f k l (j : Nat)).bind fun t => impl_forms.l0 k l (formsL l j ++ [t]) (n : Nat) ((j + 1 : Nat) : Int)) (fun k => ?_) ?_
  ·simp only [impl_forms.l0, if_pos (show (formsL l j).length < 5864062014805 by omega)]
   rw [if_pos (by omega), w64 (by omega) (by omega)]; rfl
  ·exact Ev.bind (f := fun k t => impl_forms.l0 k l (formsL l j ++ [t]) (n : Nat) ((j + 1 : Nat) : Int)) (iform_ev l (j : Nat) (by omega) h0 hl) g
theorem implForms_ev (l : List C) (n : Nat) (hn : n ≤ 8) (h0 : 0 < l.length) (hl : l.length ≤ 1048570) : Ev (fun k => impl_forms.f k l (n : Nat)) (formsL l n) :=
 implForms_loop l n hn h0 hl n 0 (by omega)
theorem specForms_loop (l : List C) (n : Nat) (hn : n ≤ 8) (h0 : 0 < l.length) (hl : l.length ≤ 1048570) : ∀ d j : Nat, j + d = n → Ev (fun k => spec_l03Forms.l0 k l (n : Nat) (tidyP (formsL l j)) (j : Nat)) (tidyP (formsL l n)) := by
 intro d
 induction d with
 | zero =>
  intro j hj
  obtain rfl : j = n := by omega
  refine Ev.step (fun k => ?_) (Ev.now _)
  simp only [spec_l03Forms.l0]; rw [if_neg (by omega)]
 | succ d ih =>
  intro j hj
  have g := ih (j + 1) (by omega)
  rw [formsL_succ, tidyP_snoc] at g
  have hlen := formsL_length l j
  have htl := tidyP_length (formsL l j)
  refine Ev.step (f := fun k => (spec_l03Form.f k l (j : Nat)).bind fun t => (spec_l03Add.f k (tidyP (formsL l j)) t).bind fun u => spec_l03Forms.l0 k l (n : Nat) u ((j + 1 : Nat) : Int)) (fun k => ?_) ?_
  ·simp only [spec_l03Forms.l0]
   rw [if_pos (by omega), w64 (by omega) (by omega)]; rfl
  ·refine Ev.bind (f := fun k t => (spec_l03Add.f k (tidyP (formsL l j)) t).bind fun u => spec_l03Forms.l0 k l (n : Nat) u ((j + 1 : Nat) : Int)) (sform_ev l (j : Nat) (by omega) h0 hl) ?_
   exact Ev.bind (f := fun k u => spec_l03Forms.l0 k l (n : Nat) u ((j + 1 : Nat) : Int)) (add_ev _ _ (tidyP_sorted _) (by omega) (by rw [formP_length]; omega)) g
theorem specForms_ev (l : List C) (n : Nat) (hn : n ≤ 8) (h0 : 0 < l.length) (hl : l.length ≤ 1048570) : Ev (fun k => spec_l03Forms.f k l (n : Nat)) (tidyP (formsL l n)) :=
 specForms_loop l n hn h0 hl n 0 (by omega)
theorem sortS_perm (l : List (List C)) : (sortS_ l).Perm l := List.mergeSort_perm _ _
theorem sortS_sorted (l : List (List C)) : (sortS_ l).Pairwise leS := by
 have h := List.pairwise_mergeSort (le := fun x y : List C => !decide (cfS_ y x < 0)) (fun a b c h1 h2 => by
  simp only [Bool.not_eq_true', decide_eq_false_iff_not, cfS_lt] at *
  exact leS_trans h1 h2) (fun a b => by
  by_cases h : cfS_ b a < 0
  ·have : ¬ cfS_ a b < 0 := fun g => ltS_irrefl (ltS_trans ((cfS_lt _ _).1 h) ((cfS_lt _ _).1 g))
   simp [this]
  ·simp [h]) l
 exact h.imp fun g => by
  simp only [Bool.not_eq_true', decide_eq_false_iff_not, cfS_lt] at g
  exact g
theorem dd_spec (s : List (List C)) (hs : s.Pairwise leS) : ∀ i, i ≤ s.length → (ddS_ s i).Pairwise ltS ∧ ∀ t, t ∈ ddS_ s i ↔ t ∈ s.take i := by
 intro i
 induction i with
 | zero => intro _; exact ⟨List.Pairwise.nil, fun t => by simp [ddS_]⟩
 | succ i ih =>
  intro hi
  obtain ⟨h1, h2⟩ := ih (by omega)
  have ht := take_ro s i (by omega)
  have e0 : s.getD i [] = ro_ s i := rfl
  have e1 : s.getD (i - 1) [] = ro_ s (i - 1) := rfl
  unfold ddS_
  rw [e0, e1, cfS_cmpS, ht]
  have hle : ∀ t ∈ s.take i, leS t (ro_ s (i - 1)) ∧ leS (ro_ s (i - 1)) (ro_ s i) := by
   intro t htm
   obtain ⟨j, hj, rfl⟩ := List.mem_iff_getElem.1 htm
   rw [List.length_take] at hj
   have hpw := List.pairwise_iff_getElem.1 hs
   rw [ro_get s (i - 1) (by omega), ro_get s i (by omega), List.getElem_take]
   refine ⟨?_, hpw (i - 1) i (by omega) (by omega) (by omega)⟩
   by_cases e : j = i - 1
   ·subst e; exact fun g => ltS_irrefl g
   ·exact hpw j (i - 1) (by omega) (by omega) (by omega)
  by_cases c : i ≠ 0 ∧ cmpS (ro_ s i) (ro_ s (i - 1)) = 0
  ·rw [if_pos c]
   refine ⟨h1, fun t => ?_⟩
   rw [h2, List.mem_append, List.mem_singleton]
   constructor
   ·exact Or.inl
   ·rintro (g | g)
    ·exact g
    ·rw [g, (cmpS_zero _ _).1 c.2, ro_get s (i - 1) (by omega)]
     exact List.mem_iff_getElem.2 ⟨i - 1, by rw [List.length_take]; omega, by rw [List.getElem_take]⟩
  ·rw [if_neg c]
   refine ⟨List.pairwise_append.2 ⟨h1, List.pairwise_singleton _ _, fun a ha b hb => ?_⟩, fun t => ?_⟩
   ·rw [List.mem_singleton] at hb
    subst hb
    obtain ⟨l1, l2⟩ := hle a ((h2 a).1 ha)
    have hi0 : i ≠ 0 := by
     intro g; subst g
     have := (h2 a).1 ha
     simp at this
    exact leS_ltS_trans l1 (leS_lt l2 fun g => c ⟨hi0, (cmpS_zero _ _).2 g⟩)
   ·rw [List.mem_append, h2, List.mem_append]
theorem tidy_eq (k : Nat) (l : List (List C)) (h : l.length ≤ 1000000) : impl_tidyShapes.f k l = some (tidyP l) := by
 unfold impl_tidyShapes.f
 rw [if_pos h]
 have hl : (sortS_ l).length = l.length := (sortS_perm l).length_eq
 obtain ⟨h1, h2⟩ := dd_spec (sortS_ l) (sortS_sorted l) l.length (by omega)
 rw [← hl, List.take_length, hl] at h2
 rw [tidyP_unique h1 fun t => (h2 t).trans (sortS_perm l).mem_iff]
noncomputable def foP (l : List C) : List (List C) × Int := if codeP l = 0 then (tidyP (formsL l 8), 0) else ([], codeP l)
theorem implFo_ev (l : List C) (hl : l.length ≤ 1048570) : Ev (fun k => impl_FormsOf.f k l) (foP l) := by
 unfold impl_FormsOf.f foP
 refine Ev.bind (f := fun k t => if t = 0 then ((impl_forms.f k l 8).bind fun o => (impl_tidyShapes.f k o).bind fun q => some (q, 0)) else some (([] : List (List C)), t)) (icode_ev l (by omega)) ?_
 rcases codeP_cases l with ⟨_, _, hc⟩ | ⟨hs, _, hc⟩ | ⟨_, _, hc⟩
 ·rw [hc]; exact Ev.now _
 ·rw [hc]; simp only [if_true]
  refine Ev.bind (f := fun k o => (impl_tidyShapes.f k o).bind fun q => some (q, (0 : Int))) (implForms_ev l 8 (by omega) hs.1 (by omega)) ?_
  refine Ev.step (fun k => ?_) (Ev.now _)
  rw [tidy_eq _ _ (by rw [formsL_length]; omega)]; rfl
 ·rw [hc]; exact Ev.now _
theorem specFo_ev (l : List C) (hl : l.length ≤ 1048570) : Ev (fun k => spec_FormsOf.f k l) (foP l) := by
 unfold spec_FormsOf.f foP
 refine Ev.bind (f := fun k t => if t = 0 then ((spec_l03Forms.f k l 8).bind fun o => some (o, 0)) else some (([] : List (List C)), t)) (scode_ev l (by omega)) ?_
 rcases codeP_cases l with ⟨_, _, hc⟩ | ⟨hs, _, hc⟩ | ⟨_, _, hc⟩
 ·rw [hc]; exact Ev.now _
 ·rw [hc]; simp only [if_true]
  exact Ev.bind (f := fun _ o => some (o, (0 : Int))) (specForms_ev l 8 (by omega) hs.1 (by omega)) (Ev.now _)
 ·rw [hc]; exact Ev.now _
def mrk (m : Int) (n : Nat) : List C := (List.range n).map fun i => ⟨m + 2 * (i : Nat), m + 2 * (i : Nat) + 1⟩
theorem mrk_length (m : Int) (n : Nat) : (mrk m n).length = n := by simp [mrk]
theorem mrk_get (m : Int) (n i : Nat) (h : i < n) : (mrk m n)[i]? = some ⟨m + 2 * (i : Nat), m + 2 * (i : Nat) + 1⟩ := by
 unfold mrk; rw [List.getElem?_map, List.getElem?_range h]; rfl
theorem mrk_at (m : Int) (n i : Nat) (h : i < n) : at_ (mrk m n) i = ⟨m + 2 * (i : Nat), m + 2 * (i : Nat) + 1⟩ := by
 unfold at_; rw [List.getD_eq_getElem?_getD, mrk_get m n i h]; rfl
theorem markCell_loop (m : Int) (n : Nat) (hn : n ≤ 1048576) (hm : 0 ≤ m) (hm2 : m ≤ 9223372036850000000) : ∀ d j : Nat, j + d = n → ∀ x : List C, x.length = n → (∀ i, i < j → x[i]? = (mrk m n)[i]?) →
  Ev (fun k => laws_markCellS.l0 k x (m + 2 * (j : Nat)) (j : Nat)) (m + 2 * (n : Nat), mrk m n) := by
 intro d
 induction d with
 | zero =>
  intro j hj x hx hi
  obtain rfl : x = mrk m n := by
   apply List.ext_getElem?
   intro i
   by_cases h : i < j
   ·exact hi i h
   ·rw [List.getElem?_eq_none (by omega), List.getElem?_eq_none (by rw [mrk_length]; omega)]
  obtain rfl : j = n := by omega
  refine Ev.step (fun k => ?_) (Ev.now _)
  simp only [laws_markCellS.l0, mrk_length]; rw [if_neg (by omega)]
 | succ d ih =>
  intro j hj x hx hi
  refine Ev.step (fun k => ?_) (ih (j + 1) (by omega) (x.set j ⟨m + 2 * (j : Nat), m + 2 * (j : Nat) + 1⟩) (by rw [List.length_set]; exact hx) ?_)
  ·simp only [laws_markCellS.l0, Option.bind_some]
   rw [if_pos (by omega), if_pos (by omega), w64 (x := (j : Int) + 1) (by omega) (by omega), w64 (x := m + 2 * (j : Nat) + 1) (by omega) (by omega), w64 (by omega) (by omega), rd_at, rd_at, List.set_set]
   have e : at_ (x.set ((j : Int).toNat) ⟨m + 2 * (j : Nat), (at_ x j).f1⟩) j = ⟨m + 2 * (j : Nat), (at_ x j).f1⟩ := by
    rw [at_get _ _ (by rw [List.length_set]; omega), Int.toNat_natCast, List.getElem_set_self]
   rw [e]
   show laws_markCellS.l0 k (x.set j ⟨m + 2 * (j : Nat), m + 2 * (j : Nat) + 1⟩) (m + 2 * (j : Nat) + 1 + 1) ((j : Int) + 1) = laws_markCellS.l0 k _ (m + 2 * ((j + 1 : Nat) : Int)) ((j + 1 : Nat) : Int)
   congr 1
   omega
  ·intro i h
   rw [List.getElem?_set]
   by_cases e : j = i
   ·subst e; rw [if_pos rfl, if_pos (by omega), mrk_get m n j (by omega)]
   ·rw [if_neg e]; exact hi i (by omega)
theorem markCell_ev (l : List C) (m : Int) (hl : l.length ≤ 1048576) (hm : 0 ≤ m) (hm2 : m ≤ 9223372036850000000) : Ev (fun k => laws_markCellS.f k l m) (m + 2 * (l.length : Int), mrk m l.length) := by
 have h := markCell_loop m l.length hl hm hm2 l.length 0 (by omega) l rfl (by intro i h; omega)
 rw [show m + 2 * ((0 : Nat) : Int) = m from by omega] at h
 exact h
theorem heldCell_loop (m : Int) (n : Nat) (hn : n ≤ 1048576) (hm : 0 ≤ m) (hm2 : m ≤ 9223372036850000000) : ∀ d j : Nat, j + d = n → Ev (fun k => laws_heldCellS.l0 k (mrk m n) (m + 2 * (j : Nat)) (j : Nat)) (m + 2 * (n : Nat)) := by
 intro d
 induction d with
 | zero =>
  intro j hj
  obtain rfl : j = n := by omega
  refine Ev.step (fun k => ?_) (Ev.now _)
  simp only [laws_heldCellS.l0, mrk_length]; rw [if_neg (by omega)]
 | succ d ih =>
  intro j hj
  refine Ev.step (fun k => ?_) (ih (j + 1) (by omega))
  simp only [laws_heldCellS.l0, mrk_length, rd_at]
  rw [mrk_at m n j (by omega), if_pos (by omega), if_pos (by omega), if_pos rfl, w64 (x := m + 2 * (j : Nat) + 1) (by omega) (by omega), if_pos rfl, w64 (x := (j : Int) + 1) (by omega) (by omega), w64 (by omega) (by omega)]
  congr 1
  omega
theorem heldCell_ev (m : Int) (n : Nat) (hn : n ≤ 1048576) (hm : 0 ≤ m) (hm2 : m ≤ 9223372036850000000) : Ev (fun k => laws_heldCellS.f k (mrk m n) m) (m + 2 * (n : Nat)) := by
 have h := heldCell_loop m n hn hm hm2 n 0 (by omega)
 rw [show m + 2 * ((0 : Nat) : Int) = m from by omega] at h
 exact h
def totR : List (List C) → Nat
 | [] => 0
 | s :: r => s.length + totR r
theorem totR_le (b : Nat) : ∀ l : List (List C), (∀ s ∈ l, s.length ≤ b) → totR l ≤ l.length * b
 | [], _ => Nat.zero_le _
 | s :: r, h => by
  have h1 := h s List.mem_cons_self
  have h2 := totR_le b r fun x hx => h x (List.mem_cons_of_mem _ hx)
  rw [totR, List.length_cons, Nat.succ_mul]; omega
def mrkR : Int → List (List C) → List (List C)
 | _, [] => []
 | m, s :: r => mrk m s.length :: mrkR (m + 2 * (s.length : Int)) r
theorem mrkR_length : ∀ (l : List (List C)) (m : Int), (mrkR m l).length = l.length
 | [], _ => rfl
 | _ :: r, m => by rw [mrkR, List.length_cons, mrkR_length r, List.length_cons]
theorem markR_ev : ∀ (l : List (List C)) (m : Int), (∀ s ∈ l, s.length ≤ 1048576) → 0 ≤ m → m + 2 * (totR l : Int) ≤ 9000000000000000000 → Ev (fun k => laws_markCellSS.f k l m) (m + 2 * (totR l : Int), mrkR m l)
 | [], m, _, _, _ => by
  rw [show m + 2 * ((totR ([] : List (List C)) : Nat) : Int) = m by simp [totR]]
  exact Ev.now _
 | s :: r, m, h, h0, h1 => by
  have hs := h s List.mem_cons_self
  have e : ((totR (s :: r) : Nat) : Int) = (s.length : Int) + (totR r : Int) := by rw [totR]; omega
  rw [e] at h1 ⊢
  refine Ev.bind (f := fun k (p : Int × List C) => (laws_markCellSS.f k r p.1).bind fun q => some (q.1, p.2 :: q.2)) (markCell_ev s m hs h0 (by omega)) ?_
  refine Ev.bind (f := fun _ (q : Int × List (List C)) => some (q.1, mrk m s.length :: q.2)) (markR_ev r (m + 2 * (s.length : Int)) (fun x hx => h x (List.mem_cons_of_mem _ hx)) (by omega) (by omega)) ?_
  rw [show m + 2 * ((s.length : Int) + (totR r : Int)) = m + 2 * (s.length : Int) + 2 * (totR r : Int) by omega]
  exact Ev.now _
theorem heldR_loop : ∀ (l pre : List (List C)) (m : Int), (∀ s ∈ l, s.length ≤ 1048576) → 0 ≤ m → m + 2 * (totR l : Int) ≤ 9000000000000000000 → pre.length + l.length ≤ 1000000000 → Ev (fun k => laws_heldCellSS.l0 k (pre ++ mrkR m l) m (pre.length : Nat)) (m + 2 * (totR l : Int))
 | [], pre, m, _, _, _, _ => by
  rw [show m + 2 * ((totR ([] : List (List C)) : Nat) : Int) = m by simp [totR]]
  refine Ev.step (f := fun _ => some m) (fun k => ?_) (Ev.now _)
  simp only [laws_heldCellSS.l0, mrkR, List.append_nil]; rw [if_neg (by omega)]
 | s :: r, pre, m, h, h0, h1, h2 => by
  have hs := h s List.mem_cons_self
  have e : ((totR (s :: r) : Nat) : Int) = (s.length : Int) + (totR r : Int) := by rw [totR]; omega
  rw [List.length_cons] at h2
  rw [e] at h1 ⊢
  have hl : (pre ++ mrkR m (s :: r)).length = pre.length + (r.length + 1) := by rw [List.length_append, mrkR_length, List.length_cons]
  have hr : ro_ (pre ++ mrkR m (s :: r)) pre.length = mrk m s.length := by
   unfold ro_; rw [List.getD_eq_getElem?_getD, List.getElem?_append_right (Nat.le_refl _), Nat.sub_self]; rfl
  have ha : pre ++ mrkR m (s :: r) = (pre ++ [mrk m s.length]) ++ mrkR (m + 2 * (s.length : Int)) r := by rw [List.append_assoc]; rfl
  have hn : ¬ m + 2 * (s.length : Int) < 0 := by omega
  refine Ev.step (f := fun k => (laws_heldCellS.f k (mrk m s.length) m).bind fun t => if t < 0 then some (-1) else laws_heldCellSS.l0 k ((pre ++ [mrk m s.length]) ++ mrkR (m + 2 * (s.length : Int)) r) t ((pre ++ [mrk m s.length]).length : Nat)) (fun k => ?_) ?_
  ·simp only [laws_heldCellSS.l0, rd_ro]
   rw [if_pos (by omega), if_pos (by omega), hr, w64 (by omega) (by omega), ha]
   rw [List.length_append, List.length_singleton]; rfl
  ·refine Ev.bind (f := fun k t => if t < 0 then some (-1) else laws_heldCellSS.l0 k ((pre ++ [mrk m s.length]) ++ mrkR (m + 2 * (s.length : Int)) r) t ((pre ++ [mrk m s.length]).length : Nat)) (heldCell_ev m s.length hs h0 (by omega)) ?_
   simp only [if_neg hn]
   rw [show m + 2 * ((s.length : Int) + (totR r : Int)) = m + 2 * (s.length : Int) + 2 * (totR r : Int) by omega]
   exact heldR_loop r (pre ++ [mrk m s.length]) (m + 2 * (s.length : Int)) (fun x hx => h x (List.mem_cons_of_mem _ hx)) (by omega) (by omega) (by rw [List.length_append, List.length_singleton]; omega)
theorem heldR_ev (l : List (List C)) (m : Int) (h : ∀ s ∈ l, s.length ≤ 1048576) (h0 : 0 ≤ m) (h1 : m + 2 * (totR l : Int) ≤ 9000000000000000000) (h2 : l.length ≤ 1000000000) : Ev (fun k => laws_heldCellSS.f k (mrkR m l) m) (m + 2 * (totR l : Int)) :=
 heldR_loop l [] m h h0 h1 (by simpa using h2)
theorem eqR_loop (l : List (List C)) (hl : l.length ≤ 1000000000) (h : ∀ s ∈ l, s.length ≤ 1048576) : ∀ d j : Nat, j + d = l.length → Ev (fun k => laws_eqCellSS.l0 k l l (j : Nat)) true := by
 intro d
 induction d with
 | zero =>
  intro j hj
  refine Ev.step (f := fun _ => some true) (fun k => ?_) (Ev.now _)
  simp only [laws_eqCellSS.l0]; rw [if_neg (by omega)]
 | succ d ih =>
  intro j hj
  refine Ev.step (f := fun k => (laws_eqCellS.f k (ro_ l j) (ro_ l j)).bind fun t => if t = true then laws_eqCellSS.l0 k l l ((j + 1 : Nat) : Int) else some false) (fun k => ?_) ?_
  ·simp only [laws_eqCellSS.l0, rd_ro]; rw [if_pos (by omega), if_pos (by omega), if_pos (by omega), w64 (by omega) (by omega)]; rfl
  ·refine Ev.bind (f := fun k t => if t = true then laws_eqCellSS.l0 k l l ((j + 1 : Nat) : Int) else some false) (eqCell_ev (ro_ l j) (by have := h _ (ro_mem l j (by omega)); omega)) ?_
   simp only [if_true]; exact ih (j + 1) (by omega)
theorem eqR_ev (l : List (List C)) (hl : l.length ≤ 1000000000) (h : ∀ s ∈ l, s.length ≤ 1048576) : Ev (fun k => laws_eqCellSS.f k l l) true := by
 unfold laws_eqCellSS.f
 simp only [if_true]
 exact eqR_loop l hl h l.length 0 (by omega)
end Go.Proofs.Ytpilmhjbgbpbmaa.M
namespace Go.Proofs.Ytpilmhjbgbpbmaa.Pure
set_option linter.unusedVariables false
set_option linter.unusedSimpArgs false
open Go.RowKit Go.Proofs.Ytpilmhjbgbpbmaa.X Go.Proofs.YtpilmhjbgbpbmaaW.PrintWords Go.Proofs.YtpilmhjbgbpbmaaW.PrintLast Go.Proofs.YtpilmhjbgbpbmaaW.PrintMore Go.Proofs.Ytpilmhjbgbpbmaa.M
theorem both_FormsOf (l : List C) (hl : l.length ≤ 1048576) : ∃ r : List (List C) × Int, Ev (fun k => spec_FormsOf.f k l) r ∧ Ev (fun k => impl_FormsOf.f k l) r ∧ r.1.length ≤ 1000000 ∧ ∀ s ∈ r.1, s.length ≤ 41 := by
 by_cases hbig : l.length ≤ 40
 ·refine ⟨foP l, specFo_ev l (by omega), implFo_ev l (by omega), ?_, ?_⟩
  ·unfold foP
   by_cases c : codeP l = 0
   ·rw [if_pos c]
    have h1 := tidyP_length (formsL l 8)
    have h2 := formsL_length l 8
    simp only; omega
   ·rw [if_neg c]; simp
  ·unfold foP
   by_cases c : codeP l = 0
   ·rw [if_pos c]
    intro s hs
    obtain ⟨t, _, rfl⟩ := (formsL_mem l s 8).1 ((tidyP_mem _ s).1 hs)
    rw [formP_length]; omega
   ·rw [if_neg c]; intro s hs; cases hs
 ·have hsh : ¬ Sh l := fun g => by have := g.2.1; omega
  have hcode : codeP l = 1 := by
   rcases codeP_cases l with ⟨_, _, hc⟩ | ⟨hs, _, _⟩ | ⟨hs, _, _⟩
   ·exact hc
   ·exact absurd hs hsh
   ·exact absurd hs hsh
  refine ⟨([], 1), ?_, ?_, by simp, by simp⟩
  ·have a := scode_ev l (by omega)
   rw [hcode] at a
   exact Ev.bind (f := fun k t => if t = 0 then ((spec_l03Forms.f k l 8).bind fun o => some (o, (0 : Int))) else some (([] : List (List C)), t)) a (Ev.now _)
  ·have a := icode_ev l (by omega)
   rw [hcode] at a
   exact Ev.bind (f := fun k t => if t = 0 then ((impl_forms.f k l 8).bind fun o => (impl_tidyShapes.f k o).bind fun q => some (q, (0 : Int))) else some (([] : List (List C)), t)) a (Ev.now _)
theorem FnExactFormsOf : laws_FnExactFormsOf.Pure := by
 intro l hl hw
 rcases sz_cases l hl 1048576 (by omega) (by omega) with ⟨h, e⟩ | ⟨h, e⟩
 ·exact ⟨0, by simp only [laws_FnExactFormsOf.f, e, Option.bind_some]; rfl⟩
 ·have h0 : ¬ (1048576 - (l.length : Int) < 0) := by omega
  have hc := cs_length l
  obtain ⟨r, hs, hi, hn, hb⟩ := both_FormsOf (cs l) (by omega)
  have hb2 : ∀ s ∈ r.1, s.length ≤ 1048576 := fun s hs => by have := hb s hs; omega
  have ht := totR_le 41 r.1 hb
  have htot : totR r.1 ≤ 41000000 := by omega
  obtain ⟨K, e1, e2, e3, e4, e5, e6, e7, e8⟩ := ev8 (toCell_ev l (by omega)) (eqCell_ev (cs l) (by omega)) hs hi (eqR_ev r.1 (by omega) hb2) (markCell_ev (cs l) 1 (by omega) (by omega) (by omega)) (markR_ev r.1 1 hb2 (by omega) (by omega)) (heldR_ev r.1 1 hb2 (by omega) (by omega) (by omega))
  have e1 := e1 0; have e2 := e2 0; have e3 := e3 0; have e4 := e4 0; have e5 := e5 0; have e6 := e6 0; have e7 := e7 0; have e8 := e8 0
  rw [Nat.add_zero] at e1 e2 e3 e4 e5 e6 e7 e8
  have n1 : ¬ (1 + 2 * ((cs l).length : Int) < 0) := by omega
  have n2 : ¬ (1 + 2 * (totR r.1 : Int) < 0) := by omega
  refine ⟨K, ?_⟩
  simp only [laws_FnExactFormsOf.f, e, Option.bind_some, if_neg h0, e1, e2, e3, e4, e5, e6, e7, e8]
  rw [if_pos (by first | exact ⟨⟨rfl, rfl⟩, rfl, n1⟩ | exact ⟨⟨trivial, trivial⟩, trivial, n1⟩), if_pos (by first | exact ⟨rfl, n2⟩ | exact ⟨trivial, n2⟩)]
end Go.Proofs.Ytpilmhjbgbpbmaa.Pure
