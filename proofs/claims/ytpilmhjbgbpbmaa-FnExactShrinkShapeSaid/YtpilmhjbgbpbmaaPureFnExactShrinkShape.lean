/- The program's ShrinkShape returns what the reference's returns, for all arguments, without any condition. -/
import Derived.Test.YtpilmhjbgbpbmaaXx0
import Derived.Test.YtpilmhjbgbpbmaaXx11
import Derived.Test.YtpilmhjbgbpbmaaXx12
import Derived.Test.YtpilmhjbgbpbmaaXx13
import Derived.Test.YtpilmhjbgbpbmaaXx15
import Derived.Test.YtpilmhjbgbpbmaaXx16
import Derived.Test.YtpilmhjbgbpbmaaXx17
import Derived.Test.YtpilmhjbgbpbmaaXx2
import Derived.Test.YtpilmhjbgbpbmaaXx20
import Derived.Test.YtpilmhjbgbpbmaaXx24
import Derived.Test.YtpilmhjbgbpbmaaXx36
import Derived.Test.YtpilmhjbgbpbmaaXx4
import Derived.Test.YtpilmhjbgbpbmaaXx7
import Derived.Test.YtpilmhjbgbpbmaaXx8
namespace Go.Proofs.Ytpilmhjbgbpbmaa.X
set_option linter.unusedVariables false
set_option linter.unusedSimpArgs false
open Go.RowKit Go.Proofs.Ytpilmhjbgbpbmaa.X Go.Proofs.YtpilmhjbgbpbmaaW.PrintWords Go.Proofs.YtpilmhjbgbpbmaaW.PrintLast Go.Proofs.YtpilmhjbgbpbmaaW.PrintMore
def laws_FnExactShrinkShape.Pure : Prop := ∀ (l0 : List S56), l0.length ≤ 9223372036854775807 → (∀ x ∈ l0, (Lit.int .i64 x.f0).wf = true ∧ (Lit.int .i64 x.f1).wf = true) → ∃ k, laws_FnExactShrinkShape.f k l0 = some true
end Go.Proofs.Ytpilmhjbgbpbmaa.X
namespace Go.Proofs.Ytpilmhjbgbpbmaa.M
set_option linter.unusedVariables false
set_option linter.unusedSimpArgs false
open Go.RowKit Go.Proofs.Ytpilmhjbgbpbmaa.X Go.Proofs.YtpilmhjbgbpbmaaW.PrintWords Go.Proofs.YtpilmhjbgbpbmaaW.PrintLast Go.Proofs.YtpilmhjbgbpbmaaW.PrintMore
theorem w64 {x : Int} (h1 : -9223372036854775808 ≤ x) (h2 : x ≤ 9223372036854775807) : wrap64 x = x := by unfold wrap64; omega
abbrev C := S42
def at_ (l : List C) (j : Nat) : C := l.getD j ⟨0, 0⟩
theorem rd_at (l : List C) (j : Nat) : rd_T42 l (j : Int) = at_ l j := by unfold rd_T42 at_; rw [Int.toNat_natCast]; rfl
theorem at_get (l : List C) (j : Nat) (h : j < l.length) : at_ l j = l[j] := by unfold at_; rw [List.getD_eq_getElem?_getD, List.getElem?_eq_getElem h]; rfl
theorem at_mem (l : List C) (j : Nat) (h : j < l.length) : at_ l j ∈ l := by rw [at_get l j h]; exact List.getElem_mem h
theorem drop_at (l : List C) (j : Nat) (h : j < l.length) : l.drop j = at_ l j :: l.drop (j + 1) := by rw [at_get l j h, List.drop_eq_getElem_cons h]
def AE (P : Nat → Prop) : Prop := ∃ K, ∀ k, K ≤ k → P k
theorem AE.and {P Q : Nat → Prop} (h : AE P) (g : AE Q) : AE (fun k => P k ∧ Q k) := by
 obtain ⟨K, h⟩ := h; obtain ⟨L, g⟩ := g
 exact ⟨K + L, fun k hk => ⟨h k (by omega), g k (by omega)⟩⟩
theorem AE.up {P : Nat → Prop} (h : AE P) : ∃ K, ∀ n, P (K + n) := by
 obtain ⟨K, h⟩ := h; exact ⟨K, fun n => h _ (by omega)⟩
theorem evae {α : Type} {g : Nat → Option α} {a : α} (h : Ev g a) : AE (fun k => g k = some a) := h
theorem ev2 {α0 α1 : Type} {g0 : Nat → Option α0} {g1 : Nat → Option α1} {a0 : α0} {a1 : α1} (h0 : Ev g0 a0) (h1 : Ev g1 a1) : ∃ K, (∀ n, g0 (K + n) = some a0) ∧ (∀ n, g1 (K + n) = some a1) := by
 obtain ⟨K, h⟩ := AE.up (AE.and (evae h0) (evae h1)); exact ⟨K, fun n => (h n).1, fun n => (h n).2⟩
theorem ev8 {α0 α1 α2 α3 α4 α5 α6 α7 : Type} {g0 : Nat → Option α0} {g1 : Nat → Option α1} {g2 : Nat → Option α2} {g3 : Nat → Option α3} {g4 : Nat → Option α4} {g5 : Nat → Option α5} {g6 : Nat → Option α6} {g7 : Nat → Option α7} {a0 : α0} {a1 : α1} {a2 : α2} {a3 : α3} {a4 : α4} {a5 : α5} {a6 : α6} {a7 : α7} (h0 : Ev g0 a0) (h1 : Ev g1 a1) (h2 : Ev g2 a2) (h3 : Ev g3 a3) (h4 : Ev g4 a4) (h5 : Ev g5 a5) (h6 : Ev g6 a6) (h7 : Ev g7 a7) : ∃ K, (∀ n, g0 (K + n) = some a0) ∧ (∀ n, g1 (K + n) = some a1) ∧ (∀ n, g2 (K + n) = some a2) ∧ (∀ n, g3 (K + n) = some a3) ∧ (∀ n, g4 (K + n) = some a4) ∧ (∀ n, g5 (K + n) = some a5) ∧ (∀ n, g6 (K + n) = some a6) ∧ (∀ n, g7 (K + n) = some a7) := by
 obtain ⟨K, h⟩ := AE.up (AE.and (evae h0) (AE.and (evae h1) (AE.and (evae h2) (AE.and (evae h3) (AE.and (evae h4) (AE.and (evae h5) (AE.and (evae h6) (evae h7)))))))); exact ⟨K, fun n => (h n).1, fun n => (h n).2.1, fun n => (h n).2.2.1, fun n => (h n).2.2.2.1, fun n => (h n).2.2.2.2.1, fun n => (h n).2.2.2.2.2.1, fun n => (h n).2.2.2.2.2.2.1, fun n => (h n).2.2.2.2.2.2.2⟩
theorem ev_fold {σ β : Type} (F : Nat → σ → Int → Option β) (l : List C) (g : σ → C → σ) (fin : σ → Option β) (r : β) (inv : Nat → σ → Prop)
  (step : ∀ k s (j : Nat), j < l.length → at_ l j ∈ l → inv j s → F (k + 1) s (j : Nat) = F k (g s (at_ l j)) ((j + 1 : Nat) : Int) ∧ inv (j + 1) (g s (at_ l j)))
  (done : ∀ k s, inv l.length s → F (k + 1) s (l.length : Nat) = fin s) (j0 : Nat) (hj0 : j0 ≤ l.length) (s0 : σ) (h0 : inv j0 s0) (hr : fin ((l.drop j0).foldl g s0) = some r) : Ev (fun k => F k s0 (j0 : Nat)) r := by
 have key : ∀ d j : Nat, j + d = l.length → ∀ s, inv j s → fin ((l.drop j).foldl g s) = some r → Ev (fun k => F k s (j : Nat)) r := by
  intro d
  induction d with
  | zero =>
   intro j hj s hs hr
   obtain rfl : j = l.length := by omega
   refine Ev.step (fun k => done k s hs) ?_
   rw [List.drop_length] at hr
   have hr' : fin s = some r := hr
   rw [hr']; exact Ev.now r
  | succ d ih =>
   intro j hj s hs hr
   have h : j < l.length := by omega
   refine Ev.step (fun k => (step k s j h (at_mem l j h) hs).1) (ih (j + 1) (by omega) _ ((step 0 s j h (at_mem l j h) hs).2) ?_)
   rw [drop_at l j h] at hr; exact hr
 exact key (l.length - j0) j0 (by omega) s0 h0 hr
def cs (l : List S56) : List C := l.map fun c => ⟨c.f0, c.f1⟩
theorem cs_length (l : List S56) : (cs l).length = l.length := by simp [cs]
theorem sz_cases (l : List S56) (hl : l.length ≤ 9223372036854775807) (b : Int) (hb : 0 ≤ b) (hb2 : b ≤ 1048576) :
  (b < (l.length : Int) ∧ laws_szCellS.f l b = some (-1)) ∨ ((l.length : Int) ≤ b ∧ laws_szCellS.f l b = some (b - (l.length : Int))) := by
 unfold laws_szCellS.f
 rw [w64 (by omega) (by omega)]
 by_cases h : b - (l.length : Int) < 0
 ·exact Or.inl ⟨by omega, by rw [if_pos h]⟩
 ·exact Or.inr ⟨by omega, by rw [if_neg h]⟩
theorem toCell_loop (l : List S56) (hl : l.length ≤ 1048576) : ∀ d j : Nat, j + d = l.length → ∀ x : List C, x.length = l.length → (∀ i, i < j → x[i]? = (cs l)[i]?) → Ev (fun k => laws_toCellS.l0 k l x (j : Nat)) (cs l) := by
 intro d
 induction d with
 | zero =>
  intro j hj x hx hi
  obtain rfl : x = cs l := by
   apply List.ext_getElem?
   intro i
   by_cases h : i < j
   ·exact hi i h
   ·rw [List.getElem?_eq_none (by omega), List.getElem?_eq_none (by rw [cs_length]; omega)]
  refine Ev.step (fun k => ?_) (Ev.now _)
  simp only [laws_toCellS.l0]; rw [if_neg (by omega)]
 | succ d ih =>
  intro j hj x hx hi
  have hc : (cs l)[j]? = some ⟨(rd_T56 l (j : Nat)).f0, (rd_T56 l (j : Nat)).f1⟩ := by
   unfold cs rd_T56; rw [List.getElem?_map, List.getD_eq_getElem?_getD, Int.toNat_natCast, List.getElem?_eq_getElem (by omega)]; rfl
  refine Ev.step (fun k => ?_) (ih (j + 1) (by omega) (x.set j ⟨(rd_T56 l (j : Nat)).f0, (rd_T56 l (j : Nat)).f1⟩) (by rw [List.length_set]; exact hx) ?_)
  ·simp only [laws_toCellS.l0, laws_toCell.f, Option.bind_some]; rw [if_pos (by omega), if_pos (by omega), if_pos (by omega), w64 (by omega) (by omega)]; rfl
  ·intro i h
   rw [List.getElem?_set]
   by_cases e : j = i
   ·subst e; rw [if_pos rfl, if_pos (by omega), hc]
   ·rw [if_neg e]; exact hi i (by omega)
theorem toCell_ev (l : List S56) (hl : l.length ≤ 1048576) : Ev (fun k => laws_toCellS.f k l) (cs l) := by
 unfold laws_toCellS.f
 simp only [if_pos (show 0 ≤ (l.length : Int) by omega), if_pos (show ((l.length : Int)).toNat ≤ 17592186044416 by omega)]
 exact toCell_loop l hl l.length 0 (by omega) _ (by simp) (by intro i h; omega)
theorem eqCell_loop (l : List C) (hl : l.length ≤ 140737488355328) : ∀ d j : Nat, j + d = l.length → Ev (fun k => laws_eqCellS.l0 k l l (j : Nat)) true := by
 intro d
 induction d with
 | zero =>
  intro j hj
  refine Ev.step (fun k => ?_) (Ev.now _)
  simp only [laws_eqCellS.l0]; rw [if_neg (by omega)]
 | succ d ih =>
  intro j hj
  refine Ev.step (fun k => ?_) (ih (j + 1) (by omega))
  simp only [laws_eqCellS.l0, laws_eqCell.f, if_true, Option.bind_some]; rw [if_pos (by omega), if_pos (by omega), if_pos (by omega), w64 (by omega) (by omega)]; rfl
theorem eqCell_ev (l : List C) (hl : l.length ≤ 140737488355328) : Ev (fun k => laws_eqCellS.f k l l) true := by
 unfold laws_eqCellS.f
 simp only [if_true]
 exact eqCell_loop l hl l.length 0 (by omega)
theorem l01In_eq (a b c : Int) : spec_l01In.f a b c = some (decide (b ≤ a ∧ a ≤ c)) := by
 unfold spec_l01In.f; by_cases h : a ≥ b
 ·rw [if_pos h]; simp [h]
 ·rw [if_neg h]; simp; omega
theorem within_eq (a b c : Int) : impl_within.f a b c = some (decide (b ≤ a ∧ a ≤ c)) := l01In_eq a b c
def ltC (a b : C) : Prop := a.f1 < b.f1 ∨ (a.f1 = b.f1 ∧ a.f0 < b.f0)
instance (a b : C) : Decidable (ltC a b) := by unfold ltC; exact inferInstance
def okC (a : C) : Prop := -100 ≤ a.f0 ∧ a.f0 ≤ 100 ∧ -100 ≤ a.f1 ∧ a.f1 ≤ 100
instance (a : C) : Decidable (okC a) := by unfold okC; exact inferInstance
def Sh (l : List C) : Prop := 1 ≤ l.length ∧ l.length ≤ 40 ∧ (∀ i, i < l.length → okC (at_ l i)) ∧ (∀ i, i + 1 < l.length → ltC (at_ l i) (at_ l (i + 1)))
noncomputable def shB (l : List C) : Bool := @decide (Sh l) (Classical.propDecidable _)
theorem shB_true {l : List C} (h : Sh l) : shB l = true := @decide_eq_true _ (Classical.propDecidable _) h
theorem shB_false {l : List C} (h : ¬ Sh l) : shB l = false := @decide_eq_false _ (Classical.propDecidable _) h
theorem less_eq (a b c d : Int) : spec_l02Less.f a b c d = some (decide (ltC ⟨a, b⟩ ⟨c, d⟩)) := by
 unfold spec_l02Less.f ltC
 by_cases h : b < d
 ·rw [if_pos h]; simp [h]
 ·rw [if_neg h]
  by_cases e : b = d
  ·rw [if_pos e]; simp [e]
  ·rw [if_neg e]; simp [h, e]
theorem cellOk_eq (a b : Int) : spec_l02Cell.f a b = some (decide (okC ⟨a, b⟩)) := by
 unfold spec_l02Cell.f okC
 simp only [l01In_eq, Option.bind_some]
 by_cases h : -100 ≤ a ∧ a ≤ 100
 ·simp [h]
 ·simp only [decide_eq_false h, Bool.false_eq_true, if_false]; congr 1; exact (decide_eq_false (fun g => h ⟨g.1, g.2.1⟩)).symm
theorem isCo_eq (a : Int) : impl_isCoordinate.f a = some (decide (-100 ≤ a ∧ a ≤ 100)) := by
 unfold impl_isCoordinate.f; simp only [within_eq, Option.bind_some]
theorem cmp_eq (a b : Int) : cmp_Compare_int64.f a b = some (if a < b then -1 else if b < a then 1 else 0) := by
 unfold cmp_Compare_int64.f cmp_isNaN_int64.f
 simp only [bne_self_eq_false, Option.bind_some, Bool.false_eq_true, if_false]
 by_cases h : a < b
 ·simp [h]
 ·by_cases g : b < a <;> simp [h, g]
def cmpC (a b : C) : Int := if ltC a b then -1 else if ltC b a then 1 else 0
theorem cmpCells_eq (a b c d : Int) : impl_compareCells.f a b c d = some (cmpC ⟨a, b⟩ ⟨c, d⟩) := by
 unfold impl_compareCells.f cmpC ltC
 simp only [cmp_eq, Option.bind_some]
 by_cases h : b < d
 ·simp [h]
 ·by_cases g : d < b
  ·have : ¬ b = d := by omega
   have : ¬ d = b := by omega
   simp [*]
  ·obtain rfl : b = d := by omega
   simp [h]
theorem cmpC_neg (a b : C) : (0 ≤ cmpC a b) ↔ ¬ ltC a b := by
 unfold cmpC; by_cases h : ltC a b
 ·simp [h]
 ·simp only [h, if_false, not_false_eq_true, iff_true]; split <;> omega
theorem specShape_loop (l : List C) (hl : l.length ≤ 1048576) : ∀ d j : Nat, j + d = l.length → (∀ i, i < j → okC (at_ l i)) → (∀ i, i + 1 < j → ltC (at_ l i) (at_ l (i + 1))) → Ev (fun k => spec_IsShape.l0 k l (j : Nat)) (shB l) := by
 intro d
 induction d with
 | zero =>
  intro j hj h1 h2
  obtain rfl : j = l.length := by omega
  refine Ev.step (fun k => ?_) (Ev.now _)
  simp only [spec_IsShape.l0, l01In_eq, Option.bind_some]; rw [if_neg (by omega)]
  congr 1
  by_cases h : 1 ≤ l.length ∧ l.length ≤ 40
  ·rw [shB_true ⟨h.1, h.2, h1, h2⟩]; exact decide_eq_true (by omega)
  ·rw [shB_false (fun g => h ⟨g.1, g.2.1⟩)]; exact decide_eq_false (by omega)
 | succ d ih =>
  intro j hj h1 h2
  by_cases c1 : okC (at_ l j)
  ·have c1' : okC ⟨(at_ l j).f0, (at_ l j).f1⟩ := c1
   by_cases c2 : j = 0
   ·subst c2
    refine Ev.step (fun k => ?_) (ih 1 (by omega) (fun i hi => by obtain rfl : i = 0 := (by omega); exact c1) (fun i hi => by omega))
    simp only [spec_IsShape.l0, rd_at, cellOk_eq, decide_eq_true c1', Option.bind_some, if_true]
    rw [if_pos (by omega), if_pos (by omega), if_neg (by omega), w64 (by omega) (by omega)]; rfl
   ·obtain ⟨i, rfl⟩ : ∃ i, j = i + 1 := ⟨j - 1, by omega⟩
    have e : wrap64 (((i + 1 : Nat) : Int) - 1) = (i : Nat) := by rw [w64 (by omega) (by omega)]; omega
    by_cases c3 : ltC (at_ l i) (at_ l (i + 1))
    ·have c3' : ltC ⟨(at_ l i).f0, (at_ l i).f1⟩ ⟨(at_ l (i + 1)).f0, (at_ l (i + 1)).f1⟩ := c3
     refine Ev.step (fun k => ?_) (ih (i + 1 + 1) (by omega) (fun x hx => if g : x = i + 1 then by rw [g]; exact c1 else h1 x (by omega)) (fun x hx => if g : x = i then by rw [g]; exact c3 else h2 x (by omega)))
     simp only [spec_IsShape.l0, rd_at, cellOk_eq, decide_eq_true c1', Option.bind_some, if_true, e, less_eq, decide_eq_true c3']
     rw [if_pos (by omega), if_pos (by omega), if_pos (by omega), if_pos (by omega), if_pos (by omega), w64 (by omega) (by omega)]; rfl
    ·have c3' : ¬ ltC ⟨(at_ l i).f0, (at_ l i).f1⟩ ⟨(at_ l (i + 1)).f0, (at_ l (i + 1)).f1⟩ := c3
     rw [shB_false (fun g => c3 (g.2.2.2 i (by omega)))]
     refine Ev.step (fun k => ?_) (Ev.now _)
     simp only [spec_IsShape.l0, rd_at, cellOk_eq, decide_eq_true c1', Option.bind_some, if_true, e, less_eq, decide_eq_false c3', Bool.false_eq_true, if_false]
     rw [if_pos (by omega), if_pos (by omega), if_pos (by omega), if_pos (by omega), if_pos (by omega)]
  ·have c1' : ¬ okC ⟨(at_ l j).f0, (at_ l j).f1⟩ := c1
   rw [shB_false (fun g => c1 (g.2.2.1 j (by omega)))]
   refine Ev.step (fun k => ?_) (Ev.now _)
   simp only [spec_IsShape.l0, rd_at, cellOk_eq, decide_eq_false c1', Option.bind_some, Bool.false_eq_true, if_false]
   rw [if_pos (by omega), if_pos (by omega)]
theorem specShape_ev (l : List C) (hl : l.length ≤ 1048576) : Ev (fun k => spec_IsShape.f k l) (shB l) :=
 specShape_loop l hl l.length 0 (by omega) (fun i hi => by omega) (fun i hi => by omega)
theorem implShape_loop (l : List C) (hl : l.length ≤ 1048576) : ∀ d j : Nat, j + d = l.length → (∀ i, i < j → okC (at_ l i)) → (∀ i, i + 1 < j → ltC (at_ l i) (at_ l (i + 1))) → Ev (fun k => impl_IsShape.l0 k l l (l.length : Int) (j : Nat)) (shB l) := by
 intro d
 induction d with
 | zero =>
  intro j hj h1 h2
  obtain rfl : j = l.length := by omega
  refine Ev.step (fun k => ?_) (Ev.now _)
  simp only [impl_IsShape.l0]; rw [if_neg (by omega)]
  by_cases h : 1 ≤ l.length ∧ l.length ≤ 40
  ·rw [shB_true ⟨h.1, h.2, h1, h2⟩, if_pos (by omega)]; congr 1; exact decide_eq_true (by omega)
  ·rw [shB_false (fun g => h ⟨g.1, g.2.1⟩)]
   by_cases g : (l.length : Int) ≥ 1
   ·rw [if_pos g]; congr 1; exact decide_eq_false (by omega)
   ·rw [if_neg g]
 | succ d ih =>
  intro j hj h1 h2
  by_cases c1 : okC (at_ l j)
  ·have ca : -100 ≤ (at_ l j).f0 ∧ (at_ l j).f0 ≤ 100 := ⟨c1.1, c1.2.1⟩
   have cb : -100 ≤ (at_ l j).f1 ∧ (at_ l j).f1 ≤ 100 := c1.2.2
   by_cases c2 : j = 0
   ·subst c2
    refine Ev.step (fun k => ?_) (ih 1 (by omega) (fun i hi => by obtain rfl : i = 0 := (by omega); exact c1) (fun i hi => by omega))
    simp only [impl_IsShape.l0, rd_at, isCo_eq, decide_eq_true ca, decide_eq_true cb, Option.bind_some, if_true]
    rw [if_pos (by omega), if_pos (by omega), if_pos (by omega), if_neg (by omega), w64 (by omega) (by omega)]; rfl
   ·obtain ⟨i, rfl⟩ : ∃ i, j = i + 1 := ⟨j - 1, by omega⟩
    have e : wrap64 (((i + 1 : Nat) : Int) - 1) = (i : Nat) := by rw [w64 (by omega) (by omega)]; omega
    by_cases c3 : ltC (at_ l i) (at_ l (i + 1))
    ·have c3' : ¬ (cmpC ⟨(at_ l i).f0, (at_ l i).f1⟩ ⟨(at_ l (i + 1)).f0, (at_ l (i + 1)).f1⟩ ≥ 0) := fun g => (cmpC_neg _ _).1 g c3
     refine Ev.step (fun k => ?_) (ih (i + 1 + 1) (by omega) (fun x hx => if g : x = i + 1 then by rw [g]; exact c1 else h1 x (by omega)) (fun x hx => if g : x = i then by rw [g]; exact c3 else h2 x (by omega)))
     simp only [impl_IsShape.l0, rd_at, isCo_eq, decide_eq_true ca, decide_eq_true cb, Option.bind_some, if_true, e, cmpCells_eq, if_neg c3']
     rw [if_pos (by omega), if_pos (by omega), if_pos (by omega), if_pos (by omega), if_pos (by omega), if_pos (by omega), w64 (by omega) (by omega)]; rfl
    ·have c3' : cmpC ⟨(at_ l i).f0, (at_ l i).f1⟩ ⟨(at_ l (i + 1)).f0, (at_ l (i + 1)).f1⟩ ≥ 0 := (cmpC_neg _ _).2 c3
     rw [shB_false (fun g => c3 (g.2.2.2 i (by omega)))]
     refine Ev.step (fun k => ?_) (Ev.now _)
     simp only [impl_IsShape.l0, rd_at, isCo_eq, decide_eq_true ca, decide_eq_true cb, Option.bind_some, if_true, e, cmpCells_eq, if_pos c3']
     rw [if_pos (by omega), if_pos (by omega), if_pos (by omega), if_pos (by omega), if_pos (by omega), if_pos (by omega)]
  ·rw [shB_false (fun g => c1 (g.2.2.1 j (by omega)))]
   refine Ev.step (fun k => ?_) (Ev.now _)
   simp only [impl_IsShape.l0, rd_at, isCo_eq, Option.bind_some]
   rw [if_pos (by omega), if_pos (by omega), if_pos (by omega)]
   by_cases ca : -100 ≤ (at_ l j).f0 ∧ (at_ l j).f0 ≤ 100
   ·have cb : ¬ (-100 ≤ (at_ l j).f1 ∧ (at_ l j).f1 ≤ 100) := fun cb => c1 ⟨ca.1, ca.2, cb.1, cb.2⟩
    simp only [decide_eq_true ca, decide_eq_false cb, if_true, Bool.false_eq_true, if_false]
   ·simp only [decide_eq_false ca, Bool.false_eq_true, if_false]
theorem implShape_ev (l : List C) (hl : l.length ≤ 1048576) : Ev (fun k => impl_IsShape.f k l) (shB l) :=
 implShape_loop l hl l.length 0 (by omega) (fun i hi => by omega) (fun i hi => by omega)
theorem mem_at {l : List C} {c : C} (h : c ∈ l) : ∃ i, i < l.length ∧ at_ l i = c := by
 obtain ⟨i, hi, e⟩ := List.mem_iff_getElem.1 h
 exact ⟨i, hi, (at_get l i hi).trans e⟩
theorem Sh.ok {l : List C} (h : Sh l) {c : C} (hc : c ∈ l) : okC c := by
 obtain ⟨i, hi, rfl⟩ := mem_at hc
 exact h.2.2.1 i hi
theorem ltC_trans {a b c : C} (h : ltC a b) (g : ltC b c) : ltC a c := by unfold ltC at *; omega
theorem ltC_irrefl {a : C} (h : ltC a a) : False := by unfold ltC at h; omega
theorem Sh.lt {l : List C} (h : Sh l) : ∀ i j, i < j → j < l.length → ltC (at_ l i) (at_ l j) := by
 intro i j
 induction j with
 | zero => intro h; omega
 | succ j ih =>
  intro hij hj
  by_cases e : i = j
  ·subst e; exact h.2.2.2 i hj
  ·exact ltC_trans (ih (by omega) (by omega)) (h.2.2.2 j hj)
theorem sh_cases (l : List C) : (Sh l ∧ shB l = true) ∨ (¬ Sh l ∧ shB l = false) := by
 by_cases h : Sh l
 ·exact Or.inl ⟨h, shB_true h⟩
 ·exact Or.inr ⟨h, shB_false h⟩
theorem foldl_pair (g1 g2 : Int → C → Int) (l : List C) : ∀ a b, l.foldl (fun (s : Int × Int) c => (g1 s.1 c, g2 s.2 c)) (a, b) = (l.foldl g1 a, l.foldl g2 b) := by
 induction l with
 | nil => intro a b; rfl
 | cons c r ih => intro a b; exact ih _ _
def mxF (f : C → Int) (l : List C) (s : Int) : Int := l.foldl (fun s c => mx s (f c)) s
def mnF (f : C → Int) (l : List C) (s : Int) : Int := l.foldl (fun s c => mn s (f c)) s
def lo (l : List C) : Int × Int := (mnF (fun c => c.f0) l (at_ l 0).f0, mnF (fun c => c.f1) l (at_ l 0).f1)
def hi (l : List C) : Int × Int := (mxF (fun c => c.f0) l (at_ l 0).f0, mxF (fun c => c.f1) l (at_ l 0).f1)
theorem mn_self (a : Int) : mn a a = a := by unfold mn; split <;> omega
theorem lo_drop (l : List C) (h : 0 < l.length) : lo l = (mnF (fun c => c.f0) (l.drop 1) (at_ l 0).f0, mnF (fun c => c.f1) (l.drop 1) (at_ l 0).f1) := by
 have e := drop_at l 0 h
 rw [List.drop_zero] at e
 unfold lo
 have e0 : mnF (fun c => c.f0) l (at_ l 0).f0 = mnF (fun c => c.f0) (l.drop 1) (at_ l 0).f0 := by
  conv => lhs; rw [e]
  show mnF _ (l.drop (0 + 1)) (mn (at_ (at_ l 0 :: l.drop (0 + 1)) 0).f0 (at_ l 0).f0) = _
  rw [show at_ (at_ l 0 :: l.drop (0 + 1)) 0 = at_ l 0 from rfl, mn_self]
 have e1 : mnF (fun c => c.f1) l (at_ l 0).f1 = mnF (fun c => c.f1) (l.drop 1) (at_ l 0).f1 := by
  conv => lhs; rw [e]
  show mnF _ (l.drop (0 + 1)) (mn (at_ (at_ l 0 :: l.drop (0 + 1)) 0).f1 (at_ l 0).f1) = _
  rw [show at_ (at_ l 0 :: l.drop (0 + 1)) 0 = at_ l 0 from rfl, mn_self]
 rw [e0, e1]
def movC (a b : Int) (c : C) : C := ⟨wrap64 (c.f0 + a), wrap64 (c.f1 + b)⟩
def movL (a b : Int) (l : List C) : List C := l.map (movC a b)
theorem movL_length (a b : Int) (l : List C) : (movL a b l).length = l.length := by simp [movL]
theorem foldl_append_map {α β : Type} (f : α → β) (l : List α) : ∀ s : List β, l.foldl (fun s c => s ++ [f c]) s = s ++ l.map f := by
 induction l with
 | nil => intro s; simp
 | cons c r ih => intro s; rw [List.foldl_cons, ih]; simp
def normL (l : List C) : List C := movL (wrap64 (-(lo l).1)) (wrap64 (-(lo l).2)) l
theorem normL_length (l : List C) : (normL l).length = l.length := movL_length _ _ _
def leC (a b : C) : Prop := ¬ ltC b a
theorem leC_anti {a b : C} (h : leC a b) (g : leC b a) : a = b := by
 unfold leC ltC at *
 have e0 : a.f0 = b.f0 := by omega
 have e1 : a.f1 = b.f1 := by omega
 cases a; cases b; cases e0; cases e1; rfl
-- USES Base Cell In Shape ShUse Fold Moved Norm Sort
-- USES Base Cell
-- USES Base Cell In Shape ShUse FoldE Sort
theorem least_ev (l : List C) (h : 0 < l.length) (hl : l.length ≤ 1048576) : Ev (fun k => spec_l02Least.f k l) (lo l) := by
 unfold spec_l02Least.f
 simp only [if_pos (show 0 < (l.length : Int) by omega)]
 have e0 : rd_T42 l 0 = at_ l 0 := rd_at l 0
 rw [e0]
 refine ev_fold (fun k (s : Int × Int) j => spec_l02Least.l0 k l s.1 s.2 j) l (fun s c => (mn s.1 c.f0, mn s.2 c.f1)) some _ (fun _ _ => True) ?_ ?_ 1 (by omega) ((at_ l 0).f0, (at_ l 0).f1) trivial ?_
 ·intro k s j hj hm _
  refine ⟨?_, trivial⟩
  simp only [spec_l02Least.l0, rd_at]; rw [if_pos (by omega), if_pos (by omega), w64 (x := (j : Int) + 1) (by omega) (by omega)]; rfl
 ·intro k s _
  simp only [spec_l02Least.l0]; rw [if_neg (by omega)]
 ·rw [foldl_pair (fun s c => mn s c.f0) (fun s c => mn s c.f1), lo_drop l h]; rfl
theorem specMove_ev (l : List C) (a b : Int) (hl : l.length ≤ 1048576) : Ev (fun k => spec_l02Move.f k l a b) (movL a b l) := by
 unfold spec_l02Move.f
 refine ev_fold (fun k (s : List C) j => spec_l02Move.l0 k l a b s j) l (fun s c => s ++ [movC a b c]) some _ (fun j s => s.length = j) ?_ ?_ 0 (by omega) [] rfl ?_
 ·intro k s j hj hm hs
  refine ⟨?_, by simp [hs]⟩
  simp only [spec_l02Move.l0, rd_at]; rw [if_pos (by omega), if_pos (by omega), if_pos (by omega), w64 (x := (j : Int) + 1) (by omega) (by omega)]; rfl
 ·intro k s _
  simp only [spec_l02Move.l0]; rw [if_neg (by omega)]
 ·rw [List.drop_zero, foldl_append_map]; rfl
theorem specNorm_ev (l : List C) (h : 0 < l.length) (hl : l.length ≤ 1048576) : Ev (fun k => spec_l02Normal.f k l) (normL l) := by
 obtain ⟨K, h1, h2⟩ := ev2 (least_ev l h hl) (specMove_ev l (wrap64 (-(lo l).1)) (wrap64 (-(lo l).2)) hl)
 refine ⟨K, fun k hk => ?_⟩
 obtain ⟨n, rfl⟩ : ∃ n, k = K + n := ⟨k - K, by omega⟩
 simp only [spec_l02Normal.f, h1, h2, Option.bind_some]; rfl
noncomputable def codeP (l : List C) : Int := if shB l = true then (if shB (normL l) = true then 0 else 3) else 1
theorem scode_ev (l : List C) (hl : l.length ≤ 1048576) : Ev (fun k => spec_l03Code.f k l) (codeP l) := by
 unfold spec_l03Code.f codeP
 rcases sh_cases l with ⟨hs, hb⟩ | ⟨hs, hb⟩
 ·refine Ev.bind (f := fun k t => if t = true then ((spec_l02Normal.f k l).bind fun t540 => ((spec_IsShape.f k t540).bind fun t543 => (if t543 = true then (some 0) else (some 3)))) else (some 1)) (specShape_ev l hl) ?_
  simp only [hb, if_true]
  refine Ev.bind (f := fun k t540 => ((spec_IsShape.f k t540).bind fun t543 => (if t543 = true then (some 0) else (some 3)))) (specNorm_ev l hs.1 hl) ?_
  refine Ev.bind (f := fun k t543 => (if t543 = true then (some (0 : Int)) else (some 3))) (specShape_ev (normL l) (by rw [normL_length]; exact hl)) ?_
  cases shB (normL l) <;> exact Ev.now _
 ·refine Ev.bind (f := fun k t => if t = true then ((spec_l02Normal.f k l).bind fun t540 => ((spec_IsShape.f k t540).bind fun t543 => (if t543 = true then (some 0) else (some 3)))) else (some 1)) (specShape_ev l hl) ?_
  simp only [hb, Bool.false_eq_true, if_false]; exact Ev.now _
-- USES Base Cell In Shape ShUse Fold Moved Norm Sort Turn TurnS
def ixF : Nat → List C → Int → Int → Int
 | _, [], _, _ => -1
 | j, c :: r, x, y => if c.f0 = x ∧ c.f1 = y then (j : Int) else ixF (j + 1) r x y
theorem ixF_mem (x y : Int) : ∀ (r : List C) (j : Nat), 0 ≤ ixF j r x y ↔ (⟨x, y⟩ : C) ∈ r := by
 intro r
 induction r with
 | nil => intro j; simp [ixF]
 | cons c r ih =>
  intro j
  unfold ixF
  by_cases h : c.f0 = x ∧ c.f1 = y
  ·rw [if_pos h]
   constructor
   ·intro _; obtain ⟨rfl, rfl⟩ := h; exact List.mem_cons_self
   ·intro _; omega
  ·rw [if_neg h, ih (j + 1), List.mem_cons]
   constructor
   ·exact fun g => Or.inr g
   ·rintro (g | g)
    ·exact absurd (by rw [← g]; exact ⟨rfl, rfl⟩) h
    ·exact g
theorem specIx_loop (l : List C) (x y : Int) (hl : l.length ≤ 1048576) : ∀ d j : Nat, j + d = l.length → Ev (fun k => spec_l02Index.l0 k l (j : Nat) x y) (ixF j (l.drop j) x y) := by
 intro d
 induction d with
 | zero =>
  intro j hj
  obtain rfl : j = l.length := by omega
  rw [List.drop_length]
  refine Ev.step (fun k => ?_) (Ev.now _)
  simp only [spec_l02Index.l0, ixF]; rw [if_neg (by omega)]
 | succ d ih =>
  intro j hj
  rw [drop_at l j (by omega)]
  have e : ∀ k, spec_l02Index.l0 (k + 1) l (j : Nat) x y = if (at_ l j).f0 = x ∧ (at_ l j).f1 = y then some (j : Int) else spec_l02Index.l0 k l ((j + 1 : Nat) : Int) x y := by
   intro k
   simp only [spec_l02Index.l0, rd_at, Bool.and_eq_true, beq_iff_eq]
   rw [if_pos (by omega), if_pos (by omega), w64 (by omega) (by omega)]; rfl
  unfold ixF
  by_cases c : (at_ l j).f0 = x ∧ (at_ l j).f1 = y
  ·rw [if_pos c]; exact Ev.step (f := fun _ => some (j : Int)) (fun k => (e k).trans (if_pos c)) (Ev.now _)
  ·rw [if_neg c]; exact Ev.step (fun k => (e k).trans (if_neg c)) (ih (j + 1) (by omega))
theorem specIx_ev (l : List C) (x y : Int) (hl : l.length ≤ 1048576) : Ev (fun k => spec_l02Index.f k l x y) (ixF 0 l x y) :=
 specIx_loop l x y hl l.length 0 (by omega)
theorem rd_nat (l : List Int) (j : Nat) (h : j < l.length) : rd l (j : Int) = l[j] := by
 unfold rd; rw [List.getD_eq_getElem?_getD, Int.toNat_natCast, List.getElem?_eq_getElem h]; rfl
def nbrs (c : C) : List C := [⟨c.f0, c.f1 - 1⟩, ⟨c.f0 - 1, c.f1⟩, ⟨c.f0 + 1, c.f1⟩, ⟨c.f0, c.f1 + 1⟩]
def Wi (b : Int) (l : List C) : Prop := ∀ c ∈ l, -b ≤ c.f0 ∧ c.f0 ≤ b ∧ -b ≤ c.f1 ∧ c.f1 ≤ b
theorem rdn (l : List Int) (j : Nat) : rd l (j : Int) = l.getD j 0 := by unfold rd; rw [Int.toNat_natCast]
theorem rdn_set (l : List Int) (i j : Nat) (v : Int) (hj : j < l.length) : rd (l.set i v) (j : Nat) = if i = j then v else rd l (j : Nat) := by
 rw [rdn, rdn, List.getD_eq_getElem?_getD, List.getElem?_set, List.getD_eq_getElem?_getD]
 by_cases h : i = j
 ·subst h; rw [if_pos rfl, if_pos hj, if_pos rfl]; rfl
 ·rw [if_neg h, if_neg h]
theorem ixF_lt (x y : Int) : ∀ (r : List C) (j : Nat), ixF j r x y < (j : Int) + r.length := by
 intro r
 induction r with
 | nil => intro j; simp only [ixF]; omega
 | cons c r ih =>
  intro j
  unfold ixF
  have := ih (j + 1)
  rw [List.length_cons]
  split <;> omega
theorem ixF_val (x y : Int) : ∀ (r : List C) (j : Nat), 0 ≤ ixF j r x y → ∃ m, m < r.length ∧ ixF j r x y = (j : Int) + m ∧ at_ r m = ⟨x, y⟩ := by
 intro r
 induction r with
 | nil => intro j h; simp only [ixF] at h; omega
 | cons c r ih =>
  intro j h
  unfold ixF at h ⊢
  by_cases e : c.f0 = x ∧ c.f1 = y
  ·rw [if_pos e]
   refine ⟨0, by simp, by omega, ?_⟩
   show c = _
   cases c; cases e.1; cases e.2; rfl
  ·rw [if_neg e] at h ⊢
   obtain ⟨m, h1, h2, h3⟩ := ih (j + 1) h
   exact ⟨m + 1, by simp; omega, by omega, h3⟩
def nearP (l : List C) (i : Int) : List C → List Int → List Int → List Int × List Int
 | [], out, q => (out, q)
 | d :: r, out, q => if 0 ≤ ixF 0 l d.f0 d.f1 ∧ rd out (ixF 0 l d.f0 d.f1) < 0 then nearP l i r (out.set (ixF 0 l d.f0 d.f1).toNat i) (q ++ [ixF 0 l d.f0 d.f1]) else nearP l i r out q
def bfsP (l : List C) (i : Int) : Nat → List Int → List Int → List Int
 | 0, out, _ => out
 | _ + 1, out, [] => out
 | n + 1, out, a :: q => bfsP l i n (nearP l i (nbrs (at_ l a.toNat)) out q).1 (nearP l i (nbrs (at_ l a.toNat)) out q).2
def outerP (l : List C) : Nat → Nat → List Int → List Int
 | 0, _, out => out
 | d + 1, i, out => outerP l d (i + 1) (if rd out (i : Nat) ≥ 0 then out else bfsP l (i : Nat) (l.length + 1) (out.set i (i : Nat)) [(i : Int)])
def partsP (l : List C) : List Int := outerP l l.length 0 (List.replicate l.length (-1))
def negs (out : List Int) : Nat := out.countP fun x => decide (x < 0)
theorem negs_set (out : List Int) (j : Nat) (hj : j < out.length) (v : Int) (hv : 0 ≤ v) (h : rd out (j : Nat) < 0) : negs (out.set j v) + 1 = negs out := by
 unfold negs
 have hx : out[j] < 0 := by rw [rd_nat out j hj] at h; exact h
 rw [List.countP_set hj]
 have h1 : decide (out[j] < 0) = true := decide_eq_true hx
 have h2 : decide (v < 0) = false := decide_eq_false (by omega)
 have h3 : 0 < out.countP fun x => decide (x < 0) := List.countP_pos_iff.2 ⟨out[j], List.getElem_mem hj, h1⟩
 simp only [h1, h2, if_true, Bool.false_eq_true, if_false]
 omega
theorem negs_le (out : List Int) : negs out ≤ out.length := List.countP_le_length
def QOk (l : List C) (out q : List Int) : Prop := out.length = l.length ∧ ∀ x ∈ q, 0 ≤ x ∧ x < (l.length : Int)
theorem nearP_ok (l : List C) (i : Int) (hi : 0 ≤ i) : ∀ (ds : List C) (out q : List Int), QOk l out q → QOk l (nearP l i ds out q).1 (nearP l i ds out q).2 ∧ negs (nearP l i ds out q).1 + (nearP l i ds out q).2.length = negs out + q.length := by
 intro ds
 induction ds with
 | nil => intro out q h; exact ⟨h, rfl⟩
 | cons d r ih =>
  intro out q h
  unfold nearP
  by_cases c : 0 ≤ ixF 0 l d.f0 d.f1 ∧ rd out (ixF 0 l d.f0 d.f1) < 0
  ·rw [if_pos c]
   have hlt := ixF_lt d.f0 d.f1 l 0
   obtain ⟨m, hm⟩ := Int.eq_ofNat_of_zero_le c.1
   rw [hm] at c hlt ⊢
   rw [Int.toNat_natCast]
   have hml : m < out.length := by rw [h.1]; omega
   obtain ⟨a, b⟩ := ih (out.set m i) (q ++ [(m : Int)]) ⟨by rw [List.length_set]; exact h.1, fun x hx => by
    rcases List.mem_append.1 hx with hx | hx
    ·exact h.2 x hx
    ·rw [List.mem_singleton] at hx; rw [hx]; omega⟩
   refine ⟨a, ?_⟩
   have := negs_set out m hml i hi c.2
   rw [b, List.length_append, List.length_singleton]
   omega
  ·rw [if_neg c]; exact ih out q h
theorem nearP_line (l : List C) (i : Int) : ∀ (ds : List C) (out q p : List Int), nearP l i ds out (p ++ q) = ((nearP l i ds out q).1, p ++ (nearP l i ds out q).2) := by
 intro ds
 induction ds with
 | nil => intro out q p; rfl
 | cons d r ih =>
  intro out q p
  unfold nearP
  by_cases c : 0 ≤ ixF 0 l d.f0 d.f1 ∧ rd out (ixF 0 l d.f0 d.f1) < 0
  ·rw [if_pos c, if_pos c, List.append_assoc, ih]
  ·rw [if_neg c, if_neg c, ih]
theorem bfsP_length (l : List C) (i : Int) (hi : 0 ≤ i) : ∀ (n : Nat) (out q : List Int), QOk l out q → (bfsP l i n out q).length = l.length := by
 intro n
 induction n with
 | zero => intro out q h; exact h.1
 | succ n ih =>
  intro out q h
  cases q with
  | nil => exact h.1
  | cons a q => exact ih _ _ (nearP_ok l i hi _ out q ⟨h.1, fun x hx => h.2 x (List.mem_cons_of_mem _ hx)⟩).1
theorem outer_start (l : List C) (out : List Int) (i : Nat) (hi : i < l.length) (ho : out.length = l.length) : QOk l (out.set i (i : Nat)) [(i : Int)] :=
 ⟨by rw [List.length_set]; exact ho, fun x hx => by rw [List.mem_singleton] at hx; rw [hx]; omega⟩
theorem outerP_length (l : List C) : ∀ (d i : Nat) (out : List Int), i + d = l.length → out.length = l.length → (outerP l d i out).length = l.length := by
 intro d
 induction d with
 | zero => intro i out _ h; exact h
 | succ d ih =>
  intro i out hi h
  unfold outerP
  refine ih _ _ (by omega) ?_
  split
  ·exact h
  ·exact bfsP_length l _ (by omega) _ _ _ (outer_start l out i (by omega) h)
theorem partsP_length (l : List C) : (partsP l).length = l.length := outerP_length l _ 0 _ (by omega) (by simp)
theorem sparts_l3 (l : List C) (hl : l.length ≤ 10000) (i : Nat) (ds : List C) (h4 : ds.length = 4) (r : List Int) : ∀ d j : Nat, j + d = 4 → ∀ out q : List Int, QOk l out q → q.length + d ≤ 1000000 →
  Ev (fun k => spec_l02Parts.l2 k l (nearP l (i : Nat) (ds.drop j) out q).1 (i : Nat) (nearP l (i : Nat) (ds.drop j) out q).2) r → Ev (fun k => spec_l02Parts.l3 k l out (i : Nat) q ds (j : Nat)) r := by
 intro d
 induction d with
 | zero =>
  intro j hj out q _ _ g
  obtain rfl : j = 4 := by omega
  rw [show ds.drop 4 = [] from List.drop_eq_nil_of_le (by omega)] at g
  refine Ev.step (fun k => ?_) g
  simp only [spec_l02Parts.l3]; rw [if_neg (by omega)]; rfl
 | succ d ih =>
  intro j hj out q ho hq g
  have hjl : j < ds.length := by omega
  rw [drop_at ds j hjl] at g
  have hlt := ixF_lt (at_ ds j).f0 (at_ ds j).f1 l 0
  refine Ev.step (f := fun k => (spec_l02Index.f k l (at_ ds j).f0 (at_ ds j).f1).bind fun t => if 0 ≤ t ∧ rd out t < 0 then spec_l02Parts.l3 k l (out.set t.toNat (i : Nat)) (i : Nat) (q ++ [t]) ds ((j + 1 : Nat) : Int) else if 0 ≤ t ∧ ¬ t < (out.length : Int) then none else spec_l02Parts.l3 k l out (i : Nat) q ds ((j + 1 : Nat) : Int)) (fun k => ?_) ?_
  ·simp only [spec_l02Parts.l3, rd_at]; rw [if_pos (by omega), if_pos (by omega), if_pos (by omega), w64 (x := (j : Int) + 1) (by omega) (by omega)]
   have hq9 : q.length < 17592186044416 := by omega
   congr 1; funext t
   by_cases t0 : 0 ≤ t
   ·by_cases t1 : t < (out.length : Int)
    ·rw [if_pos (show t ≥ 0 from t0), if_pos t0, if_pos t1]
     by_cases t2 : rd out t < 0
     ·rw [if_pos t2, if_pos hq9, if_pos (show 0 ≤ t ∧ rd out t < 0 from ⟨t0, t2⟩)]; rfl
     ·rw [if_neg t2, if_neg (fun g => t2 g.2), if_neg (fun g => g.2 t1)]; rfl
    ·rw [if_pos (show t ≥ 0 from t0), if_pos t0, if_neg t1]
     have t2 : ¬ rd out t < 0 := by
      unfold rd; rw [List.getD_eq_getElem?_getD, List.getElem?_eq_none (by omega)]; simp
     rw [if_neg (fun g => t2 g.2), if_pos (show 0 ≤ t ∧ ¬ t < (out.length : Int) from ⟨t0, t1⟩)]
   ·rw [if_neg (show ¬ t ≥ 0 from t0), if_neg (fun g => t0 g.1), if_neg (fun g => t0 g.1)]; rfl
  ·refine Ev.bind (f := fun k t => if 0 ≤ t ∧ rd out t < 0 then spec_l02Parts.l3 k l (out.set t.toNat (i : Nat)) (i : Nat) (q ++ [t]) ds ((j + 1 : Nat) : Int) else if 0 ≤ t ∧ ¬ t < (out.length : Int) then none else spec_l02Parts.l3 k l out (i : Nat) q ds ((j + 1 : Nat) : Int)) (specIx_ev l _ _ (by omega)) ?_
   by_cases c : 0 ≤ ixF 0 l (at_ ds j).f0 (at_ ds j).f1 ∧ rd out (ixF 0 l (at_ ds j).f0 (at_ ds j).f1) < 0
   ·simp only [if_pos c]
    have e : nearP l (i : Nat) (at_ ds j :: ds.drop (j + 1)) out q = nearP l (i : Nat) (ds.drop (j + 1)) (out.set (ixF 0 l (at_ ds j).f0 (at_ ds j).f1).toNat (i : Nat)) (q ++ [ixF 0 l (at_ ds j).f0 (at_ ds j).f1]) := by
     show (if _ then _ else _) = _
     rw [if_pos c]
    rw [e] at g
    refine ih (j + 1) (by omega) _ _ ⟨by rw [List.length_set]; exact ho.1, fun x hx => ?_⟩ (by rw [List.length_append, List.length_singleton]; omega) g
    rcases List.mem_append.1 hx with hx | hx
    ·exact ho.2 x hx
    ·rw [List.mem_singleton] at hx; rw [hx]; omega
   ·have e : nearP l (i : Nat) (at_ ds j :: ds.drop (j + 1)) out q = nearP l (i : Nat) (ds.drop (j + 1)) out q := by
     show (if _ then _ else _) = _
     rw [if_neg c]
    rw [e] at g
    simp only [if_neg c]
    simp only [if_neg (show ¬ (0 ≤ ixF 0 l (at_ ds j).f0 (at_ ds j).f1 ∧ ¬ ixF 0 l (at_ ds j).f0 (at_ ds j).f1 < (out.length : Int)) from fun g => g.2 (by rw [ho.1]; omega))]
    exact ih (j + 1) (by omega) _ _ ho (by omega) g
theorem sparts_l2 (l : List C) (hl : l.length ≤ 10000) (hw : Wi 1000000 l) (i : Nat) (r : List Int) : ∀ (n : Nat) (out q : List Int), QOk l out q → negs out + q.length ≤ n → n ≤ 20000 →
  Ev (fun k => spec_l02Parts.l1 k l (bfsP l (i : Nat) n out q) (wrap64 ((i : Int) + 1))) r → Ev (fun k => spec_l02Parts.l2 k l out (i : Nat) q) r := by
 have stop : ∀ (out : List Int), Ev (fun k => spec_l02Parts.l1 k l out (wrap64 ((i : Int) + 1))) r → Ev (fun k => spec_l02Parts.l2 k l out (i : Nat) []) r := by
  intro out g
  refine Ev.step (fun k => ?_) g
  simp only [spec_l02Parts.l2, List.length_nil]; rw [if_neg (by omega)]
 intro n
 induction n with
 | zero =>
  intro out q ho hn _ g
  obtain rfl : q = [] := List.length_eq_zero_iff.1 (by omega)
  exact stop out g
 | succ n ih =>
  intro out q ho hn hn2 g
  cases q with
  | nil => exact stop out g
  | cons a q =>
   obtain ⟨a0, a1⟩ := ho.2 a List.mem_cons_self
   obtain ⟨m, rfl⟩ := Int.eq_ofNat_of_zero_le a0
   have ho2 : QOk l out q := ⟨ho.1, fun x hx => ho.2 x (List.mem_cons_of_mem _ hx)⟩
   obtain ⟨o1, o2⟩ := nearP_ok l (i : Nat) (by omega) (nbrs (at_ l m)) out q ho2
   rw [List.length_cons] at hn
   have w := hw _ (at_mem l m (by omega))
   refine Ev.step (f := fun k => spec_l02Parts.l3 k l out (i : Nat) q (nbrs (at_ l m)) ((0 : Nat) : Int)) (fun k => ?_) ?_
   ·have e0 : rd ((m : Int) :: q) 0 = (m : Int) := rfl
    simp only [spec_l02Parts.l2, e0, rd_at, spec_l02Around.f, Option.bind_some, List.length_cons]
    rw [if_pos (by omega), if_pos (by omega), if_pos (by omega), if_pos (by omega), if_pos (by omega), w64 (x := (at_ l m).f1 - 1) (by omega) (by omega), w64 (x := (at_ l m).f0 - 1) (by omega) (by omega), w64 (x := (at_ l m).f0 + 1) (by omega) (by omega), w64 (x := (at_ l m).f1 + 1) (by omega) (by omega)]; rfl
   ·refine sparts_l3 l hl i _ rfl r 4 0 (by omega) out q ho2 (by have := negs_le out; omega) ?_
    rw [List.drop_zero]
    exact ih _ _ o1 (by omega) (by omega) g
theorem sparts_l1 (l : List C) (hl : l.length ≤ 10000) (hw : Wi 1000000 l) : ∀ (d i : Nat) (out : List Int), i + d = l.length → out.length = l.length → Ev (fun k => spec_l02Parts.l1 k l out (i : Nat)) (outerP l d i out) := by
 intro d
 induction d with
 | zero =>
  intro i out hi ho
  refine Ev.step (fun k => ?_) (Ev.now _)
  simp only [spec_l02Parts.l1]; rw [if_neg (by omega)]; rfl
 | succ d ih =>
  intro i out hi ho
  unfold outerP
  by_cases c : rd out (i : Nat) ≥ 0
  ·rw [if_pos c]
   refine Ev.step (fun k => ?_) (ih (i + 1) out (by omega) ho)
   simp only [spec_l02Parts.l1]; rw [if_pos (by omega), if_pos (by omega), if_pos (by omega), if_pos c, w64 (by omega) (by omega)]; rfl
  ·rw [if_neg c]
   have hs := outer_start l out i (by omega) ho
   have hn := negs_set out i (by omega) (i : Nat) (by omega) (by omega)
   have hle := negs_le out
   have g := ih (i + 1) _ (by omega) (bfsP_length l (i : Nat) (by omega) (l.length + 1) _ _ hs)
   refine Ev.step (f := fun k => spec_l02Parts.l2 k l (out.set i (i : Nat)) (i : Nat) [(i : Int)]) (fun k => ?_) (sparts_l2 l hl hw i _ (l.length + 1) _ _ hs (by rw [List.length_singleton]; omega) (by omega) ?_)
   ·simp only [spec_l02Parts.l1]; rw [if_pos (by omega), if_pos (by omega), if_pos (by omega), if_neg c]; rfl
   ·rw [w64 (by omega) (by omega)]; exact g
theorem specParts_ev (l : List C) (hl : l.length ≤ 10000) (hw : Wi 1000000 l) : Ev (fun k => spec_l02Parts.f k l) (partsP l) := by
 unfold spec_l02Parts.f
 have key : ∀ d j : Nat, j + d = l.length → Ev (fun k => spec_l02Parts.l0 k l (List.replicate j (-1)) (j : Nat)) (partsP l) := by
  intro d
  induction d with
  | zero =>
   intro j hj
   obtain rfl : j = l.length := by omega
   refine Ev.step (fun k => ?_) (sparts_l1 l hl hw l.length 0 (List.replicate l.length (-1)) (by omega) (by simp))
   simp only [spec_l02Parts.l0]; rw [if_neg (by omega)]; rfl
  | succ d ih =>
   intro j hj
   refine Ev.step (fun k => ?_) (ih (j + 1) (by omega))
   simp only [spec_l02Parts.l0, List.length_replicate]; rw [if_pos (by omega), if_pos (by omega), w64 (by omega) (by omega), ← List.replicate_succ']; rfl
 exact key l.length 0 (by omega)
theorem plN_ix (l : List C) (hn : l.Nodup) (x y : Int) : ∀ n, n ≤ l.length → plN_ l n x y = (if 0 ≤ ixF 0 l x y ∧ ixF 0 l x y < (n : Int) then some (ixF 0 l x y).toNat else none) := by
 intro n
 induction n with
 | zero => intro _; rw [if_neg (by omega)]; rfl
 | succ n ih =>
  intro hl
  show (if (rd_T42 l (n : Nat)).f0 = x ∧ (rd_T42 l (n : Nat)).f1 = y then some n else plN_ l n x y) = _
  rw [rd_at]
  by_cases c : (at_ l n).f0 = x ∧ (at_ l n).f1 = y
  ·rw [if_pos c]
   have hm : (⟨x, y⟩ : C) ∈ l := by
    have := at_mem l n (by omega)
    have e : at_ l n = ⟨x, y⟩ := by
     generalize at_ l n = z at *
     cases z; cases c.1; cases c.2; rfl
    rwa [e] at this
   have h0 := (ixF_mem x y l 0).2 hm
   obtain ⟨m, m1, m2, m3⟩ := ixF_val x y l 0 h0
   have e : m = n := by
    have e1 : at_ l m = at_ l n := by
     rw [m3]; generalize at_ l n = z at *; cases z; cases c.1; cases c.2; rfl
    rw [at_get l m m1, at_get l n (by omega)] at e1
    have hp := List.pairwise_iff_getElem.1 (List.nodup_iff_pairwise_ne.1 hn)
    rcases Nat.lt_trichotomy m n with g | g | g
    ·exact absurd e1 (hp m n m1 (by omega) g)
    ·exact g
    ·exact absurd e1.symm (hp n m (by omega) m1 g)
   subst e
   rw [m2, if_pos (by omega)]
   congr 1; omega
  ·rw [if_neg c, ih (by omega)]
   by_cases h : 0 ≤ ixF 0 l x y ∧ ixF 0 l x y < (n : Int)
   ·rw [if_pos h, if_pos (by omega)]
   ·rw [if_neg h, if_neg]
    rintro ⟨h0, h1⟩
    obtain ⟨m, m1, m2, m3⟩ := ixF_val x y l 0 h0
    have : m = n := by omega
    subst this
    exact c (by rw [m3]; exact ⟨rfl, rfl⟩)
theorem iparts_near (l : List C) (hn : l.Nodup) (i : Int) (hi : 0 ≤ i) : ∀ (ds : List C) (out q : List Int), QOk l out q → q.length + ds.length ≤ 100000 → impl_parts.near l i ds out q = some (nearP l i ds out q) := by
 intro ds
 induction ds with
 | nil => intro out q _ _; rfl
 | cons d r ih =>
  intro out q ho hq
  rw [List.length_cons] at hq
  have hlt := ixF_lt d.f0 d.f1 l 0
  show (match plN_ l l.length d.f0 d.f1 with
   | some j => if rd out (j : Nat) < 0 then (if q.length < 1000000 then impl_parts.near l i r (out.set j i) (q ++ [(j : Int)]) else none) else impl_parts.near l i r out q
   | none => impl_parts.near l i r out q) = _
  rw [plN_ix l hn d.f0 d.f1 l.length (Nat.le_refl _)]
  unfold nearP
  by_cases c : 0 ≤ ixF 0 l d.f0 d.f1
  ·rw [if_pos (by omega)]
   obtain ⟨m, hm⟩ := Int.eq_ofNat_of_zero_le c
   rw [hm] at hlt ⊢
   simp only [Int.toNat_natCast]
   by_cases c2 : rd out (m : Nat) < 0
   ·rw [if_pos c2, if_pos (by omega), if_pos (by omega)]
    refine ih _ _ ⟨by rw [List.length_set]; exact ho.1, fun x hx => ?_⟩ (by rw [List.length_append, List.length_singleton]; omega)
    rcases List.mem_append.1 hx with hx | hx
    ·exact ho.2 x hx
    ·rw [List.mem_singleton] at hx; rw [hx]; omega
   ·rw [if_neg c2, if_neg (by omega)]
    exact ih _ _ ho (by omega)
  ·rw [if_neg (by omega), if_neg (by omega)]
   exact ih _ _ ho (by omega)
theorem iparts_bfs (l : List C) (hl : l.length ≤ 10000) (hn : l.Nodup) (hw : Wi 1000000 l) (i : Int) (hi : 0 ≤ i) : ∀ (n : Nat) (a : Nat) (out q : List Int), a ≤ q.length → q.length ≤ 40000 → QOk l out q → negs out + (q.length - a) ≤ n → negs out + q.length ≤ 40000 →
  Ev (fun k => impl_parts.bfs k l i a out q) (bfsP l i n out (q.drop a)) := by
 have stop : ∀ (a : Nat) (out q : List Int), ¬ a < q.length → Ev (fun k => impl_parts.bfs k l i a out q) out := by
  intro a out q h
  refine Ev.step (f := fun _ => some out) (fun k => ?_) (Ev.now _)
  simp only [impl_parts.bfs]; rw [if_neg h]
 intro n
 induction n with
 | zero => intro a out q ha _ ho h _; exact stop a out q (by omega)
 | succ n ih =>
  intro a out q ha hq ho h hh
  by_cases c : a < q.length
  ·obtain ⟨a0, a1⟩ := ho.2 _ (List.getElem_mem c)
   obtain ⟨m, hm⟩ := Int.eq_ofNat_of_zero_le a0
   have hr : rd q (a : Nat) = (m : Int) := by rw [rd_nat q a c]; exact hm
   rw [hm] at a1
   have hd : q.drop a = (m : Int) :: q.drop (a + 1) := by rw [List.drop_eq_getElem_cons c, hm]
   rw [hd]
   have w := hw _ (at_mem l m (by omega))
   obtain ⟨o1, o2⟩ := nearP_ok l i hi (nbrs (at_ l m)) out q ho
   have hline := nearP_line l i (nbrs (at_ l m)) out (q.drop (a + 1)) (q.take (a + 1))
   rw [List.take_append_drop] at hline
   have e2 : (nearP l i (nbrs (at_ l m)) out q).2 = q.take (a + 1) ++ (nearP l i (nbrs (at_ l m)) out (q.drop (a + 1))).2 := by rw [hline]
   have e1 : (nearP l i (nbrs (at_ l m)) out q).1 = (nearP l i (nbrs (at_ l m)) out (q.drop (a + 1))).1 := by rw [hline]
   have htl : (q.take (a + 1)).length = a + 1 := by rw [List.length_take]; omega
   have e3 : (nearP l i (nbrs (at_ l m)) out q).2.drop (a + 1) = (nearP l i (nbrs (at_ l m)) out (q.drop (a + 1))).2 := by
    rw [e2, List.drop_append, htl, Nat.sub_self, List.drop_zero, List.drop_eq_nil_of_le (by omega), List.nil_append]
   have hge : a + 1 ≤ (nearP l i (nbrs (at_ l m)) out q).2.length := by rw [e2, List.length_append, htl]; omega
   have g := ih (a + 1) (nearP l i (nbrs (at_ l m)) out q).1 (nearP l i (nbrs (at_ l m)) out q).2 hge (by omega) o1 (by omega) (by omega)
   rw [e3, e1] at g
   refine Ev.step (f := fun k => impl_parts.bfs k l i (a + 1) (nearP l i (nbrs (at_ l m)) out q).1 (nearP l i (nbrs (at_ l m)) out q).2) (fun k => ?_) (by rw [e1]; exact g)
   simp only [impl_parts.bfs, hr, rd_at, impl_around.f, Option.bind_some]
   rw [if_pos c, if_pos (by omega), if_pos a1, w64 (x := (at_ l m).f1 - 1) (by omega) (by omega), w64 (x := (at_ l m).f0 - 1) (by omega) (by omega), w64 (x := (at_ l m).f0 + 1) (by omega) (by omega), w64 (x := (at_ l m).f1 + 1) (by omega) (by omega)]
   have en := iparts_near l hn i hi (nbrs (at_ l m)) out q ho (by show q.length + 4 ≤ _; omega)
   rw [show nbrs (at_ l m) = [⟨(at_ l m).f0, (at_ l m).f1 - 1⟩, ⟨(at_ l m).f0 - 1, (at_ l m).f1⟩, ⟨(at_ l m).f0 + 1, (at_ l m).f1⟩, ⟨(at_ l m).f0, (at_ l m).f1 + 1⟩] from rfl] at en ⊢
   rw [en, Option.bind_some]
  ·rw [List.drop_eq_nil_of_le (by omega)]
   exact stop a out q c
theorem iparts_outer (l : List C) (hl : l.length ≤ 10000) (hn : l.Nodup) (hw : Wi 1000000 l) : ∀ (d i : Nat) (out : List Int), i + d = l.length → out.length = l.length → Ev (fun k => impl_parts.outer k l d i out) (outerP l d i out) := by
 intro d
 induction d with
 | zero => intro i out _ _; exact Ev.now _
 | succ d ih =>
  intro i out hi ho
  unfold outerP impl_parts.outer
  by_cases c : rd out (i : Nat) ≥ 0
  ·simp only [if_pos c]; exact ih (i + 1) out (by omega) ho
  ·simp only [if_neg c]
   have hs := outer_start l out i (by omega) ho
   have hng := negs_set out i (by omega) (i : Nat) (by omega) (by omega)
   have hle := negs_le out
   have g := iparts_bfs l hl hn hw (i : Nat) (by omega) (l.length + 1) 0 _ _ (by simp) (by simp) hs (by simp; omega) (by simp; omega)
   rw [List.drop_zero] at g
   exact Ev.bind (f := fun k out => impl_parts.outer k l d (i + 1) out) g (ih (i + 1) _ (by omega) (bfsP_length l (i : Nat) (by omega) (l.length + 1) _ _ hs))
theorem implParts_ev (l : List C) (hl : l.length ≤ 10000) (hn : l.Nodup) (hw : Wi 1000000 l) : Ev (fun k => impl_parts.f k l) (partsP l) := by
 unfold impl_parts.f
 have hwf : wfC_ l = true := by
  unfold wfC_
  rw [List.all_eq_true]
  intro c hc
  exact decide_eq_true (hw c hc)
 simp only [if_pos (show l.length ≤ 1000000 by omega), hwf, if_true]
 exact iparts_outer l hl hn hw l.length 0 _ (by omega) (by simp)
structure GOk (l : List C) (i : Nat) (out : List Int) : Prop where
 len : out.length = l.length
 low : ∀ j, j < i → j < l.length → 0 ≤ rd out (j : Nat)
 val : ∀ j, j < l.length → 0 ≤ rd out (j : Nat) → ∃ v : Nat, rd out (j : Nat) = (v : Int) ∧ v ≤ j ∧ rd out (v : Nat) = (v : Int)
def Grow (l : List C) (i : Nat) (out out' : List Int) : Prop := out'.length = out.length ∧ ∀ j, j < l.length → (rd out' (j : Nat) = rd out (j : Nat)) ∨ (rd out (j : Nat) < 0 ∧ rd out' (j : Nat) = (i : Int))
theorem Grow.refl (l : List C) (i : Nat) (out : List Int) : Grow l i out out := ⟨rfl, fun _ _ => Or.inl rfl⟩
theorem Grow.trans {l : List C} {i : Nat} {a b c : List Int} (h : Grow l i a b) (g : Grow l i b c) : Grow l i a c := by
 refine ⟨g.1.trans h.1, fun j hj => ?_⟩
 rcases h.2 j hj with h1 | h1 <;> rcases g.2 j hj with g1 | g1
 ·exact Or.inl (g1.trans h1)
 ·exact Or.inr ⟨by rw [← h1]; exact g1.1, g1.2⟩
 ·exact Or.inr ⟨h1.1, g1.trans h1.2⟩
 ·exact Or.inr ⟨h1.1, g1.2⟩
theorem nearP_grow (l : List C) (i : Nat) : ∀ (ds : List C) (out q : List Int), QOk l out q → Grow l i out (nearP l (i : Nat) ds out q).1 := by
 intro ds
 induction ds with
 | nil => intro out q _; exact Grow.refl _ _ _
 | cons d r ih =>
  intro out q h
  unfold nearP
  by_cases c : 0 ≤ ixF 0 l d.f0 d.f1 ∧ rd out (ixF 0 l d.f0 d.f1) < 0
  ·rw [if_pos c]
   have hlt := ixF_lt d.f0 d.f1 l 0
   obtain ⟨m, hm⟩ := Int.eq_ofNat_of_zero_le c.1
   rw [hm] at c hlt ⊢
   rw [Int.toNat_natCast]
   refine Grow.trans ⟨by rw [List.length_set], fun j hj => ?_⟩ (ih (out.set m (i : Nat)) (q ++ [(m : Int)]) ⟨by rw [List.length_set]; exact h.1, fun x hx => ?_⟩)
   ·rw [rdn_set out m j _ (by rw [h.1]; exact hj)]
    by_cases g : m = j
    ·subst g; rw [if_pos rfl]; exact Or.inr ⟨c.2, rfl⟩
    ·rw [if_neg g]; exact Or.inl rfl
   ·rcases List.mem_append.1 hx with hx | hx
    ·exact h.2 x hx
    ·rw [List.mem_singleton] at hx; rw [hx]; omega
  ·rw [if_neg c]; exact ih out q h
theorem bfsP_grow (l : List C) (i : Nat) : ∀ (n : Nat) (out q : List Int), QOk l out q → Grow l i out (bfsP l (i : Nat) n out q) := by
 intro n
 induction n with
 | zero => intro out q _; exact Grow.refl _ _ _
 | succ n ih =>
  intro out q h
  cases q with
  | nil => exact Grow.refl _ _ _
  | cons a q =>
   have h2 : QOk l out q := ⟨h.1, fun x hx => h.2 x (List.mem_cons_of_mem _ hx)⟩
   exact (nearP_grow l i _ out q h2).trans (ih _ _ (nearP_ok l (i : Nat) (by omega) _ out q h2).1)
theorem outer_grow (l : List C) (i : Nat) (hi : i < l.length) (out : List Int) (ho : GOk l i out) (c : ¬ rd out (i : Nat) ≥ 0) : Grow l i out (bfsP l (i : Nat) (l.length + 1) (out.set i (i : Nat)) [(i : Int)]) := by
 refine Grow.trans ⟨by rw [List.length_set], fun j hj => ?_⟩ (bfsP_grow l i _ _ _ (outer_start l out i hi ho.len))
 rw [rdn_set out i j _ (by rw [ho.len]; exact hj)]
 by_cases g : i = j
 ·subst g; rw [if_pos rfl]; exact Or.inr ⟨by omega, rfl⟩
 ·rw [if_neg g]; exact Or.inl rfl
theorem bfs_start (l : List C) (i : Nat) (hi : i < l.length) (out : List Int) (ho : out.length = l.length) : rd (bfsP l (i : Nat) (l.length + 1) (out.set i (i : Nat)) [(i : Int)]) (i : Nat) = (i : Int) := by
 rcases (bfsP_grow l i (l.length + 1) _ _ (outer_start l out i hi ho)).2 i hi with h | h
 ·rw [h, rdn_set out i i _ (by omega), if_pos rfl]
 ·exact h.2
theorem gok_step (l : List C) (i : Nat) (hi : i < l.length) (out : List Int) (ho : GOk l i out) : GOk l (i + 1) (if rd out (i : Nat) ≥ 0 then out else bfsP l (i : Nat) (l.length + 1) (out.set i (i : Nat)) [(i : Int)]) := by
 by_cases c : rd out (i : Nat) ≥ 0
 ·rw [if_pos c]
  exact ⟨ho.len, fun j hj hj2 => if g : j = i then by rw [g]; exact c else ho.low j (by omega) hj2, ho.val⟩
 ·rw [if_neg c]
  have hg := outer_grow l i hi out ho c
  have hst := bfs_start l i hi out ho.len
  generalize bfsP l (i : Nat) (l.length + 1) (out.set i (i : Nat)) [(i : Int)] = z at *
  have keep : ∀ j, j < l.length → 0 ≤ rd out (j : Nat) → rd z (j : Nat) = rd out (j : Nat) := fun j hj h0 => by
   rcases hg.2 j hj with h | h
   ·exact h
   ·omega
  refine ⟨hg.1.trans ho.len, fun j hj hj2 => ?_, fun j hj h0 => ?_⟩
  ·by_cases g : j = i
   ·subst g; rw [hst]; omega
   ·rw [keep j hj2 (ho.low j (by omega) hj2)]; exact ho.low j (by omega) hj2
  ·rcases hg.2 j hj with h | h
   ·rw [h] at h0 ⊢
    obtain ⟨v, v1, v2, v3⟩ := ho.val j hj h0
    exact ⟨v, v1, v2, by rw [keep v (by omega) (by omega)]; exact v3⟩
   ·refine ⟨i, h.2, ?_, hst⟩
    by_cases g : j < i
    ·have := ho.low j g hj; omega
    ·omega
theorem outerP_gok (l : List C) : ∀ (d i : Nat) (out : List Int), i + d = l.length → GOk l i out → GOk l l.length (outerP l d i out) := by
 intro d
 induction d with
 | zero =>
  intro i out hi h
  obtain rfl : i = l.length := by omega
  exact h
 | succ d ih => intro i out hi h; exact ih (i + 1) _ (by omega) (gok_step l i (by omega) out h)
theorem partsP_gok (l : List C) : GOk l l.length (partsP l) := by
 refine outerP_gok l l.length 0 _ (by omega) ⟨by simp, fun j hj => by omega, fun j hj h => ?_⟩
 rw [rd_nat _ j (by simpa using hj), List.getElem_replicate] at h
 omega
theorem partsP_nonneg (l : List C) : ∀ x ∈ partsP l, 0 ≤ x := by
 intro x hx
 obtain ⟨i, hi, rfl⟩ := List.mem_iff_getElem.1 hx
 rw [← rd_nat _ i hi]
 rw [partsP_length] at hi
 exact (partsP_gok l).low i hi hi
theorem sh_nodup {l : List C} (h : Sh l) : l.Nodup := by
 rw [List.nodup_iff_pairwise_ne, List.pairwise_iff_getElem]
 intro i j hi hj hij e
 have := h.lt i j hij hj
 rw [at_get l i hi, at_get l j hj, e] at this
 exact ltC_irrefl this
theorem sh_wi {l : List C} (h : Sh l) : Wi 100 l := fun c hc => h.ok hc
theorem wi_big {l : List C} {b : Int} (h : Wi b l) (hb : b ≤ 1000000) : Wi 1000000 l := fun c hc => by have := h c hc; omega
def oneP (l : List Int) : Bool := decide (∀ x ∈ l, x = 0)
theorem specOne_ev (l : List Int) (hl : l.length ≤ 1048576) : Ev (fun k => spec_l02One.f k l) (oneP l) := by
 unfold spec_l02One.f
 have key : ∀ d j : Nat, j + d = l.length → (∀ i, i < j → rd l (i : Nat) = 0) → Ev (fun k => spec_l02One.l0 k l (j : Nat)) (oneP l) := by
  intro d
  induction d with
  | zero =>
   intro j hj h
   have e : oneP l = true := decide_eq_true fun x hx => by
    obtain ⟨i, hi, rfl⟩ := List.mem_iff_getElem.1 hx
    rw [← rd_nat l i hi]; exact h i (by omega)
   rw [e]
   refine Ev.step (f := fun _ => some true) (fun k => ?_) (Ev.now _)
   simp only [spec_l02One.l0]; rw [if_neg (by omega)]
  | succ d ih =>
   intro j hj h
   by_cases c : rd l (j : Nat) = 0
   ·refine Ev.step (fun k => ?_) (ih (j + 1) (by omega) (fun i hi => if g : i = j then by rw [g]; exact c else h i (by omega)))
    simp only [spec_l02One.l0]; rw [if_pos (by omega), if_pos (by omega), if_pos c, w64 (by omega) (by omega)]; rfl
   ·have e : oneP l = false := decide_eq_false fun g => c (by rw [rd_nat l j (by omega)]; exact g _ (List.getElem_mem _))
    rw [e]
    refine Ev.step (f := fun _ => some false) (fun k => ?_) (Ev.now _)
    simp only [spec_l02One.l0]; rw [if_pos (by omega), if_pos (by omega), if_neg c]
 exact key l.length 0 (by omega) (fun i hi => by omega)
theorem implMax_ev (l : List Int) (hl : l.length ≤ 1048576) (h0 : 0 < l.length) (hp : ∀ x ∈ l, 0 ≤ x) : ∃ m, Ev (fun k => slices_Max_int64.f k l) m ∧ (m == 0) = oneP l := by
 have key : ∀ d j : Nat, j + d = l.length → ∀ s : Int, 0 ≤ s → ∃ m, Ev (fun k => slices_Max_int64.l0 k l s (j : Nat)) m ∧ 0 ≤ m ∧ (m = 0 ↔ s = 0 ∧ ∀ i, j ≤ i → i < l.length → rd l (i : Nat) = 0) := by
  intro d
  induction d with
  | zero =>
   intro j hj s hs
   refine ⟨s, Ev.step (f := fun _ => some s) (fun k => ?_) (Ev.now _), hs, fun h => ⟨h, fun i hi hi2 => by omega⟩, fun h => h.1⟩
   simp only [slices_Max_int64.l0]; rw [if_neg (by omega)]
  | succ d ih =>
   intro j hj s hs
   have hx : 0 ≤ rd l (j : Nat) := by rw [rd_nat l j (by omega)]; exact hp _ (List.getElem_mem _)
   have hmx : 0 ≤ mx s (rd l (j : Nat)) ∧ (mx s (rd l (j : Nat)) = 0 ↔ s = 0 ∧ rd l (j : Nat) = 0) := by unfold mx; split <;> omega
   obtain ⟨m, h1, h2, h3⟩ := ih (j + 1) (by omega) _ hmx.1
   refine ⟨m, Ev.step (fun k => ?_) h1, h2, ?_⟩
   ·simp only [slices_Max_int64.l0]; rw [if_pos (by omega), if_pos (by omega), w64 (by omega) (by omega)]; rfl
   ·rw [h3, hmx.2]
    constructor
    ·rintro ⟨⟨a, b⟩, c⟩
     exact ⟨a, fun i hi hi2 => if g : i = j then by rw [g]; exact b else c i (by omega) hi2⟩
    ·rintro ⟨a, c⟩
     exact ⟨⟨a, c j (Nat.le_refl _) (by omega)⟩, fun i hi hi2 => c i (by omega) hi2⟩
 have hx : 0 ≤ rd l ((0 : Nat) : Int) := by rw [rd_nat l 0 h0]; exact hp _ (List.getElem_mem _)
 obtain ⟨m, h1, h2, h3⟩ := key (l.length - 1) 1 (by omega) (rd l ((0 : Nat) : Int)) hx
 refine ⟨m, ?_, ?_⟩
 ·unfold slices_Max_int64.f
  simp only [if_neg (show ¬ (l.length : Int) < 1 by omega), if_pos (show (0 : Int) < (l.length : Int) by omega)]
  exact h1
 ·have e : (m = 0) ↔ ∀ x ∈ l, x = 0 := by
   rw [h3]
   constructor
   ·rintro ⟨a, b⟩ x hx
    obtain ⟨i, hi, rfl⟩ := List.mem_iff_getElem.1 hx
    rw [← rd_nat l i hi]
    by_cases g : i = 0
    ·subst g; exact a
    ·exact b i (by omega) hi
   ·intro h
    exact ⟨by rw [rd_nat l 0 h0]; exact h _ (List.getElem_mem _), fun i _ hi => by rw [rd_nat l i hi]; exact h _ (List.getElem_mem _)⟩
  unfold oneP
  by_cases c : m = 0
  ·rw [decide_eq_true (e.1 c), c]; rfl
  ·rw [decide_eq_false (fun g => c (e.2 g))]; exact beq_eq_false_iff_ne.mpr c
theorem implConnected_ev (l : List C) (hl : l.length ≤ 10000) (h0 : 0 < l.length) (hn : l.Nodup) (hw : Wi 1000000 l) : Ev (fun k => impl_connected.f k l) (oneP (partsP l)) := by
 obtain ⟨m, h1, h2⟩ := implMax_ev (partsP l) (by rw [partsP_length]; omega) (by rw [partsP_length]; omega) (partsP_nonneg l)
 unfold impl_connected.f
 refine Ev.bind (f := fun k t233 => ((slices_Max_int64.f k t233).bind fun t236 => (some (t236 == 0)))) (implParts_ev l hl hn hw) ?_
 rw [← h2]
 exact Ev.bind (f := fun _ t236 => some (t236 == 0)) h1 (Ev.now _)
noncomputable def connP (l : List C) : Bool := shB l && oneP (partsP l)
theorem specConn_ev (l : List C) (hl : l.length ≤ 1048576) : Ev (fun k => spec_IsConnected.f k l) (connP l) := by
 unfold spec_IsConnected.f connP
 refine Ev.bind (f := fun k t203 => (if t203 = true then ((spec_l02Parts.f k l).bind fun t204 => ((spec_l02One.f k t204).bind fun t207 => (some t207))) else (some false))) (specShape_ev l hl) ?_
 rcases sh_cases l with ⟨hs, hb⟩ | ⟨hs, hb⟩
 ·rw [hb]; simp only [if_true, Bool.true_and]
  have h40 := hs.2.1
  refine Ev.bind (f := fun k t204 => ((spec_l02One.f k t204).bind fun t207 => (some t207))) (specParts_ev l (by omega) (wi_big (sh_wi hs) (by omega))) ?_
  exact Ev.bind (f := fun _ t207 => some t207) (specOne_ev _ (by rw [partsP_length]; omega)) (Ev.now _)
 ·rw [hb]; simp only [Bool.false_eq_true, if_false, Bool.false_and]; exact Ev.now _
theorem implConn_ev (l : List C) (hl : l.length ≤ 1048576) : Ev (fun k => impl_IsConnected.f k l) (connP l) := by
 unfold impl_IsConnected.f connP
 refine Ev.bind (f := fun k t241 => (if t241 = true then ((impl_connected.f k l).bind fun t242 => (some t242)) else (some false))) (implShape_ev l hl) ?_
 rcases sh_cases l with ⟨hs, hb⟩ | ⟨hs, hb⟩
 ·rw [hb]; simp only [if_true, Bool.true_and]
  have h40 := hs.2.1
  exact Ev.bind (f := fun _ t242 => some t242) (implConnected_ev l (by omega) hs.1 (sh_nodup hs) (wi_big (sh_wi hs) (by omega))) (Ev.now _)
 ·rw [hb]; simp only [Bool.false_eq_true, if_false, Bool.false_and]; exact Ev.now _
-- USES Base Cell In Shape ShUse Sort
-- USES Base Cell In Shape ShUse Sort SortI
theorem corner_ev (l : List C) (h : 0 < l.length) (hl : l.length ≤ 1048576) : Ev (fun k => impl_corner.f k l) (lo l) := by
 unfold impl_corner.f
 simp only [if_pos (show 0 < (l.length : Int) by omega)]
 have e0 : rd_T42 l 0 = at_ l 0 := rd_at l 0
 rw [e0]
 refine ev_fold (fun k (s : Int × Int) j => impl_corner.l0 k l (l.length : Int) j s.1 s.2) l (fun s c => (mn s.1 c.f0, mn s.2 c.f1)) some _ (fun _ _ => True) ?_ ?_ 0 (by omega) ((at_ l 0).f0, (at_ l 0).f1) trivial ?_
 ·intro k s j hj hm _
  refine ⟨?_, trivial⟩
  simp only [impl_corner.l0, rd_at]; rw [if_pos (by omega), if_pos (by omega), if_pos (by omega), w64 (x := (j : Int) + 1) (by omega) (by omega)]; rfl
 ·intro k s _
  simp only [impl_corner.l0]; rw [if_neg (by omega)]
 ·rw [List.drop_zero, foldl_pair (fun s c => mn s c.f0) (fun s c => mn s c.f1)]; rfl
theorem implMove_ev (l : List C) (a b : Int) (hl : l.length ≤ 1048576) : Ev (fun k => impl_moved.f k l a b) (movL a b l) := by
 unfold impl_moved.f
 simp only [if_pos (show 0 ≤ (l.length : Int) by omega), if_pos (show ((l.length : Int)).toNat ≤ 17592186044416 by omega)]
 refine ev_fold (fun k (s : List C) j => impl_moved.l0 k a b s l (l.length : Int) j) l (fun s c => s ++ [movC a b c]) some _ (fun j s => s.length = j) ?_ ?_ 0 (by omega) [] rfl ?_
 ·intro k s j hj hm hs
  refine ⟨?_, by simp [hs]⟩
  simp only [impl_moved.l0, rd_at]; rw [if_pos (by omega), if_pos (by omega), if_pos (by omega), if_pos (by omega), w64 (x := (j : Int) + 1) (by omega) (by omega)]; rfl
 ·intro k s _
  simp only [impl_moved.l0]; rw [if_neg (by omega)]
 ·rw [List.drop_zero, foldl_append_map]; rfl
theorem implNorm_ev (l : List C) (h : 0 < l.length) (hl : l.length ≤ 1048576) : Ev (fun k => impl_normal.f k l) (normL l) := by
 obtain ⟨K, h1, h2⟩ := ev2 (corner_ev l h hl) (implMove_ev l (wrap64 (-(lo l).1)) (wrap64 (-(lo l).2)) hl)
 refine ⟨K, fun k hk => ?_⟩
 obtain ⟨n, rfl⟩ : ∃ n, k = K + n := ⟨k - K, by omega⟩
 simp only [impl_normal.f, h1, h2, Option.bind_some]; rfl
theorem icode_ev (l : List C) (hl : l.length ≤ 1048576) : Ev (fun k => impl_shapeCode.f k l) (codeP l) := by
 unfold impl_shapeCode.f codeP
 rcases sh_cases l with ⟨hs, hb⟩ | ⟨hs, hb⟩
 ·refine Ev.bind (f := fun k t => if t = true then ((impl_normal.f k l).bind fun t540 => ((impl_IsShape.f k t540).bind fun t543 => (if t543 = true then (some 0) else (some 3)))) else (some 1)) (implShape_ev l hl) ?_
  simp only [hb, if_true]
  refine Ev.bind (f := fun k t540 => ((impl_IsShape.f k t540).bind fun t543 => (if t543 = true then (some 0) else (some 3)))) (implNorm_ev l hs.1 hl) ?_
  refine Ev.bind (f := fun k t543 => (if t543 = true then (some (0 : Int)) else (some 3))) (implShape_ev (normL l) (by rw [normL_length]; exact hl)) ?_
  cases shB (normL l) <;> exact Ev.now _
 ·refine Ev.bind (f := fun k t => if t = true then ((impl_normal.f k l).bind fun t540 => ((impl_IsShape.f k t540).bind fun t543 => (if t543 = true then (some 0) else (some 3)))) else (some 1)) (implShape_ev l hl) ?_
  simp only [hb, Bool.false_eq_true, if_false]; exact Ev.now _
noncomputable def ccP (l : List C) : Int := if connP l = true then codeP l else 1
theorem implCc_ev (l : List C) (hl : l.length ≤ 1048576) : Ev (fun k => impl_connectedCode.f k l) (ccP l) := by
 unfold impl_connectedCode.f ccP
 refine Ev.bind (f := fun k t => if t = true then ((impl_shapeCode.f k l).bind fun c => some c) else some 1) (implConn_ev l hl) ?_
 by_cases c : connP l = true
 ·simp only [if_pos c]; exact Ev.bind (f := fun _ c => some c) (icode_ev l hl) (Ev.now _)
 ·simp only [if_neg c]; exact Ev.now _
theorem specCc_ev (l : List C) (hl : l.length ≤ 1048576) : Ev (fun k => spec_l05Code.f k l) (ccP l) := by
 unfold spec_l05Code.f ccP
 refine Ev.bind (f := fun k t => if t = true then ((spec_l03Code.f k l).bind fun c => some c) else some 1) (specConn_ev l hl) ?_
 by_cases c : connP l = true
 ·simp only [if_pos c]; exact Ev.bind (f := fun _ c => some c) (scode_ev l hl) (Ev.now _)
 ·simp only [if_neg c]; exact Ev.now _
theorem cc_zero {l : List C} (c : ccP l = 0) : Sh l ∧ (∀ x ∈ partsP l, x = 0) ∧ codeP l = 0 := by
 have hconn : connP l = true ∧ codeP l = 0 := by
  unfold ccP at c
  by_cases g : connP l = true
  ·rw [if_pos g] at c; exact ⟨g, c⟩
  ·rw [if_neg g] at c; omega
 have hboth : shB l = true ∧ oneP (partsP l) = true := by
  have := hconn.1
  unfold connP at this
  rw [Bool.and_eq_true] at this; exact this
 have hs : Sh l := by
  rcases sh_cases l with ⟨h, _⟩ | ⟨_, h⟩
  ·exact h
  ·rw [h] at hboth; exact absurd hboth.1 (by simp)
 refine ⟨hs, ?_, hconn.2⟩
 have := hboth.2
 unfold oneP at this
 exact of_decide_eq_true this
def cmpL : List C → List C → Int
 | a :: r, b :: s => if ltC a b then -1 else if ltC b a then 1 else cmpL r s
 | _, _ => 0
def cmpS (l m : List C) : Int := if l.length = m.length then cmpL l m else if l.length < m.length then -1 else 1
theorem specCmp_loop (l m : List C) (hl : l.length ≤ 1048576) (hm : l.length = m.length) : ∀ d j : Nat, j + d = l.length → Ev (fun k => spec_CompareShapes.l0 k l m (j : Nat)) (cmpL (l.drop j) (m.drop j)) := by
 intro d
 induction d with
 | zero =>
  intro j hj
  obtain rfl : j = l.length := by omega
  rw [List.drop_length]
  refine Ev.step (fun k => ?_) (Ev.now _)
  simp only [spec_CompareShapes.l0, cmpL]; rw [if_neg (by omega)]
 | succ d ih =>
  intro j hj
  rw [drop_at l j (by omega), drop_at m j (by omega)]
  have e : ∀ k, spec_CompareShapes.l0 (k + 1) l m (j : Nat) = if ltC (at_ l j) (at_ m j) then some (-1) else if ltC (at_ m j) (at_ l j) then some 1 else spec_CompareShapes.l0 k l m ((j + 1 : Nat) : Int) := by
   intro k
   simp only [spec_CompareShapes.l0, rd_at, less_eq, Option.bind_some, decide_eq_true_eq]
   rw [if_pos (by omega), if_pos (by omega), if_pos (by omega), w64 (by omega) (by omega)]; rfl
  by_cases c1 : ltC (at_ l j) (at_ m j)
  ·refine Ev.step (fun k => (e k).trans (if_pos c1)) ?_
   simp only [cmpL, if_pos c1]; exact Ev.now _
  ·by_cases c2 : ltC (at_ m j) (at_ l j)
   ·refine Ev.step (fun k => (e k).trans ((if_neg c1).trans (if_pos c2))) ?_
    simp only [cmpL, if_neg c1, if_pos c2]; exact Ev.now _
   ·refine Ev.step (fun k => (e k).trans ((if_neg c1).trans (if_neg c2))) ?_
    simp only [cmpL, if_neg c1, if_neg c2]; exact ih (j + 1) (by omega)
theorem specCmp_ev (l m : List C) (hl : l.length ≤ 1048576) : Ev (fun k => spec_CompareShapes.f k l m) (cmpS l m) := by
 unfold spec_CompareShapes.f cmpS
 by_cases h : l.length = m.length
 ·simp only [if_pos h, if_pos (show (l.length : Int) = (m.length : Int) by omega)]
  exact specCmp_loop l m hl h l.length 0 (by omega)
 ·simp only [if_neg h, if_neg (show ¬ (l.length : Int) = (m.length : Int) by omega)]
  by_cases g : l.length < m.length
  ·simp only [if_pos g, if_pos (show (l.length : Int) < (m.length : Int) by omega)]; exact Ev.now _
  ·simp only [if_neg g, if_neg (show ¬ (l.length : Int) < (m.length : Int) by omega)]; exact Ev.now _
theorem cmpL_range (a : List C) : ∀ b, cmpL a b = -1 ∨ cmpL a b = 0 ∨ cmpL a b = 1 := by
 induction a with
 | nil => intro b; exact Or.inr (Or.inl rfl)
 | cons x r ih =>
  intro b
  cases b with
  | nil => exact Or.inr (Or.inl rfl)
  | cons y s =>
   simp only [cmpL]
   split
   ·exact Or.inl rfl
   ·split
    ·exact Or.inr (Or.inr rfl)
    ·exact ih s
theorem cmpL_zero (a : List C) : ∀ b, a.length = b.length → (cmpL a b = 0 ↔ a = b) := by
 induction a with
 | nil =>
  intro b h
  have : b = [] := List.length_eq_zero_iff.1 (by simpa using h.symm)
  rw [this]; exact ⟨fun _ => rfl, fun _ => rfl⟩
 | cons x r ih =>
  intro b h
  cases b with
  | nil => simp at h
  | cons y s =>
   simp only [cmpL]
   have hl : r.length = s.length := by simpa using h
   by_cases c1 : ltC x y
   ·rw [if_pos c1]
    exact ⟨fun g => by omega, fun g => by rw [(List.cons.inj g).1] at c1; exact absurd c1 (fun h => ltC_irrefl h)⟩
   ·rw [if_neg c1]
    by_cases c2 : ltC y x
    ·rw [if_pos c2]
     exact ⟨fun g => by omega, fun g => by rw [(List.cons.inj g).1] at c2; exact absurd c2 (fun h => ltC_irrefl h)⟩
    ·rw [if_neg c2, ih s hl]
     have e : x = y := leC_anti (show leC x y from c2) (show leC y x from c1)
     rw [e]
     exact ⟨fun g => by rw [g], fun g => (List.cons.inj g).2⟩
theorem cmpL_neg (a : List C) : ∀ b, cmpL b a = -cmpL a b := by
 induction a with
 | nil => intro b; cases b <;> rfl
 | cons x r ih =>
  intro b
  cases b with
  | nil => rfl
  | cons y s =>
   simp only [cmpL]
   by_cases c1 : ltC x y
   ·have c2 : ¬ ltC y x := fun g => ltC_irrefl (ltC_trans c1 g)
    rw [if_pos c1, if_neg c2, if_pos c1]; rfl
   ·rw [if_neg c1]
    by_cases c2 : ltC y x
    ·rw [if_pos c2, if_neg c1, if_pos c2]
    ·rw [if_neg c2, if_neg c2, if_neg c1]; exact ih s
theorem cmpL_trans (a : List C) : ∀ b c, a.length = b.length → b.length = c.length → cmpL a b = -1 → cmpL b c = -1 → cmpL a c = -1 := by
 induction a with
 | nil => intro b c _ _ h; simp [cmpL] at h
 | cons x r ih =>
  intro b c h1 h2 g1 g2
  cases b with
  | nil => simp at h1
  | cons y s =>
   cases c with
   | nil => simp at h2
   | cons z t =>
    simp only [cmpL] at g1 g2 ⊢
    by_cases c1 : ltC x y
    ·by_cases c2 : ltC y z
     ·rw [if_pos (ltC_trans c1 c2)]
     ·rw [if_neg c2] at g2
      by_cases c3 : ltC z y
      ·rw [if_pos c3] at g2; omega
      ·have e : y = z := leC_anti (show leC y z from c3) (show leC z y from c2)
       rw [← e, if_pos c1]
    ·rw [if_neg c1] at g1
     by_cases c3 : ltC y x
     ·rw [if_pos c3] at g1; omega
     ·have e : x = y := leC_anti (show leC x y from c3) (show leC y x from c1)
      rw [if_neg c3] at g1
      rw [e]
      by_cases c2 : ltC y z
      ·rw [if_pos c2]
      ·rw [if_neg c2] at g2 ⊢
       by_cases c4 : ltC z y
       ·rw [if_pos c4] at g2; omega
       ·rw [if_neg c4] at g2 ⊢
        exact ih s t (by simpa using h1) (by simpa using h2) g1 g2
theorem cmpS_range (a b : List C) : cmpS a b = -1 ∨ cmpS a b = 0 ∨ cmpS a b = 1 := by
 unfold cmpS
 split
 ·exact cmpL_range a b
 ·split
  ·exact Or.inl rfl
  ·exact Or.inr (Or.inr rfl)
theorem cmpS_zero (a b : List C) : cmpS a b = 0 ↔ a = b := by
 unfold cmpS
 by_cases h : a.length = b.length
 ·rw [if_pos h]; exact cmpL_zero a b h
 ·rw [if_neg h]
  refine ⟨fun g => ?_, fun g => absurd (by rw [g]) h⟩
  split at g <;> omega
theorem cmpS_neg (a b : List C) : cmpS b a = -cmpS a b := by
 unfold cmpS
 by_cases h : a.length = b.length
 ·rw [if_pos h, if_pos h.symm]; exact cmpL_neg a b
 ·rw [if_neg h, if_neg (fun g => h g.symm)]
  by_cases g : a.length < b.length
  ·rw [if_pos g, if_neg (by omega)]; rfl
  ·rw [if_neg g, if_pos (by omega)]
def ltS (a b : List C) : Prop := cmpS a b = -1
theorem ltS_trans {a b c : List C} (h : ltS a b) (g : ltS b c) : ltS a c := by
 unfold ltS cmpS at *
 by_cases h1 : a.length = b.length
 ·by_cases h2 : b.length = c.length
  ·rw [if_pos h1] at h; rw [if_pos h2] at g; rw [if_pos (h1.trans h2)]
   exact cmpL_trans a b c h1 h2 h g
  ·rw [if_neg h2] at g
   rw [if_neg (by omega)]
   by_cases g2 : b.length < c.length
   ·rw [if_pos (by omega)]
   ·rw [if_neg g2] at g; omega
 ·rw [if_neg h1] at h
  by_cases g1 : a.length < b.length
  ·by_cases h2 : b.length = c.length
   ·rw [if_neg (by omega), if_pos (by omega)]
   ·rw [if_neg h2] at g
    by_cases g2 : b.length < c.length
    ·rw [if_neg (by omega), if_pos (by omega)]
    ·rw [if_neg g2] at g; omega
  ·rw [if_neg g1] at h; omega
theorem ltS_irrefl {a : List C} (h : ltS a a) : False := by
 unfold ltS at h
 rw [(cmpS_zero a a).2 rfl] at h; omega
theorem ltS_tri (a b : List C) : ltS a b ∨ a = b ∨ ltS b a := by
 rcases cmpS_range a b with h | h | h
 ·exact Or.inl h
 ·exact Or.inr (Or.inl ((cmpS_zero a b).1 h))
 ·refine Or.inr (Or.inr ?_)
  unfold ltS; rw [cmpS_neg, h]
theorem cmpS_pos (a b : List C) : cmpS a b = 1 ↔ ltS b a := by
 unfold ltS; rw [cmpS_neg a b]; omega
theorem ltS_unique {l m : List (List C)} (hl : l.Pairwise ltS) (hm : m.Pairwise ltS) (h : ∀ s, s ∈ l ↔ s ∈ m) : l = m := by
 have n1 : l.Nodup := hl.imp fun h e => by rw [e] at h; exact ltS_irrefl h
 have n2 : m.Nodup := hm.imp fun h e => by rw [e] at h; exact ltS_irrefl h
 exact List.Perm.eq_of_pairwise (le := ltS) (fun a b _ _ h1 h2 => (ltS_irrefl (ltS_trans h1 h2)).elim) hl hm ((List.perm_ext_iff_of_nodup n1 n2).2 h)
def ro_ (l : List (List C)) (j : Nat) : List C := l.getD j []
theorem rd_ro (l : List (List C)) (j : Nat) : rd_L3 l (j : Int) = ro_ l j := by unfold rd_L3 ro_; rw [Int.toNat_natCast]
theorem ro_get (l : List (List C)) (j : Nat) (h : j < l.length) : ro_ l j = l[j] := by unfold ro_; rw [List.getD_eq_getElem?_getD, List.getElem?_eq_getElem h]; rfl
theorem ro_mem (l : List (List C)) (j : Nat) (h : j < l.length) : ro_ l j ∈ l := by rw [ro_get l j h]; exact List.getElem_mem h
theorem drop_ro (l : List (List C)) (j : Nat) (h : j < l.length) : l.drop j = ro_ l j :: l.drop (j + 1) := by rw [ro_get l j h, List.drop_eq_getElem_cons h]
theorem take_ro (l : List (List C)) (j : Nat) (h : j < l.length) : l.take (j + 1) = l.take j ++ [ro_ l j] := by rw [ro_get l j h, List.take_succ_eq_append_getElem h]
def insS (s : List C) : List (List C) → List (List C)
 | [] => [s]
 | x :: r => if cmpS s x = 0 then x :: r else if cmpS s x < 0 then s :: x :: r else x :: insS s r
theorem insS_mem (s t : List C) (l : List (List C)) : t ∈ insS s l ↔ t = s ∨ t ∈ l := by
 induction l with
 | nil => simp [insS]
 | cons x r ih =>
  unfold insS
  by_cases h : cmpS s x = 0
  ·rw [if_pos h]
   have e := (cmpS_zero s x).1 h
   constructor
   ·exact fun g => Or.inr g
   ·rintro (g | g)
    ·rw [g, e]; exact List.mem_cons_self
    ·exact g
  ·rw [if_neg h]
   by_cases g : cmpS s x < 0
   ·rw [if_pos g, List.mem_cons]
   ·rw [if_neg g, List.mem_cons, ih, List.mem_cons]
    constructor
    ·rintro (a | a | a)
     ·exact Or.inr (Or.inl a)
     ·exact Or.inl a
     ·exact Or.inr (Or.inr a)
    ·rintro (a | a | a)
     ·exact Or.inr (Or.inl a)
     ·exact Or.inl a
     ·exact Or.inr (Or.inr a)
theorem cmpS_neg_lt {a b : List C} (h : cmpS a b < 0) : ltS a b := by
 unfold ltS; rcases cmpS_range a b with g | g | g <;> omega
theorem insS_sorted (s : List C) (l : List (List C)) (h : l.Pairwise ltS) : (insS s l).Pairwise ltS := by
 induction l with
 | nil => exact List.pairwise_singleton _ _
 | cons x r ih =>
  obtain ⟨h1, h2⟩ := List.pairwise_cons.1 h
  unfold insS
  by_cases c : cmpS s x = 0
  ·rw [if_pos c]; exact h
  ·rw [if_neg c]
   by_cases g : cmpS s x < 0
   ·rw [if_pos g]
    refine List.pairwise_cons.2 ⟨fun t ht => ?_, h⟩
    have e := cmpS_neg_lt g
    rcases List.mem_cons.1 ht with rfl | ht
    ·exact e
    ·exact ltS_trans e (h1 t ht)
   ·rw [if_neg g]
    refine List.pairwise_cons.2 ⟨fun t ht => ?_, ih h2⟩
    rcases (insS_mem s t r).1 ht with rfl | ht
    ·exact (cmpS_pos t x).1 (by rcases cmpS_range t x with g1 | g1 | g1 <;> omega)
    ·exact h1 t ht
theorem insS_length (s : List C) (l : List (List C)) : (insS s l).length ≤ l.length + 1 := by
 induction l with
 | nil => simp [insS]
 | cons x r ih =>
  unfold insS
  repeat' split
  all_goals simp only [List.length_cons]; omega
theorem add_done (l : List (List C)) (s : List C) (hl : l.length ≤ 1000000) (hs : s.length ≤ 1048576) : ∀ d j : Nat, j + d = l.length → (∀ x ∈ l.drop j, ltS s x) → ∀ out : List (List C), out.length ≤ j + 1 → Ev (fun k => spec_l03Add.l0 k l s out true (j : Nat)) (out ++ l.drop j) := by
 intro d
 induction d with
 | zero =>
  intro j hj _ out ho
  obtain rfl : j = l.length := by omega
  rw [List.drop_length, List.append_nil]
  refine Ev.step (fun k => ?_) (Ev.now _)
  simp only [spec_l03Add.l0]; rw [if_neg (by omega), if_pos trivial]
 | succ d ih =>
  intro j hj hx out ho
  rw [drop_ro l j (by omega)] at hx ⊢
  have e1 := hx _ List.mem_cons_self
  unfold ltS at e1
  have g := ih (j + 1) (by omega) (fun x h => hx x (List.mem_cons_of_mem _ h)) (out ++ [ro_ l j]) (by rw [List.length_append, List.length_singleton]; omega)
  rw [List.append_assoc] at g
  refine Ev.step (f := fun k => (spec_CompareShapes.f k s (ro_ l j)).bind fun t => if t = 0 then some l else if t < 0 then spec_l03Add.l0 k l s (out ++ [ro_ l j]) true ((j + 1 : Nat) : Int) else spec_l03Add.l0 k l s (out ++ [ro_ l j]) true ((j + 1 : Nat) : Int)) (fun k => ?_) ?_
  ·simp only [spec_l03Add.l0, rd_ro, if_true]
   rw [if_pos (by omega), if_pos (by omega), if_pos (by omega), w64 (by omega) (by omega)]; rfl
  ·refine Ev.bind (f := fun k t => if t = 0 then some l else if t < 0 then spec_l03Add.l0 k l s (out ++ [ro_ l j]) true ((j + 1 : Nat) : Int) else spec_l03Add.l0 k l s (out ++ [ro_ l j]) true ((j + 1 : Nat) : Int)) (specCmp_ev s (ro_ l j) hs) ?_
   rw [e1]; simp only [if_neg (show ¬ (-1 : Int) = 0 by decide), if_pos (show (-1 : Int) < 0 by decide)]
   exact g
theorem add_open (l : List (List C)) (s : List C) (hp : l.Pairwise ltS) (hl : l.length ≤ 1000000) (hs : s.length ≤ 1048576) : ∀ d j : Nat, j + d = l.length → Ev (fun k => spec_l03Add.l0 k l s (l.take j) false (j : Nat)) (l.take j ++ insS s (l.drop j)) := by
 intro d
 induction d with
 | zero =>
  intro j hj
  obtain rfl : j = l.length := by omega
  rw [List.drop_length, List.take_length]
  refine Ev.step (fun k => ?_) (Ev.now _)
  simp only [spec_l03Add.l0, Bool.false_eq_true, if_false]; rw [if_neg (by omega), if_pos (by omega)]; rfl
 | succ d ih =>
  intro j hj
  have hd := drop_ro l j (by omega)
  have ht := take_ro l j (by omega)
  have hlt : (l.take j).length = j := by rw [List.length_take]; omega
  have hsrt := hp.sublist (List.drop_sublist j l)
  rw [hd] at hsrt ⊢
  obtain ⟨s1, s2⟩ := List.pairwise_cons.1 hsrt
  refine Ev.step (f := fun k => (spec_CompareShapes.f k s (ro_ l j)).bind fun t => if t = 0 then some l else if t < 0 then spec_l03Add.l0 k l s ((l.take j ++ [s]) ++ [ro_ l j]) true ((j + 1 : Nat) : Int) else spec_l03Add.l0 k l s (l.take (j + 1)) false ((j + 1 : Nat) : Int)) (fun k => ?_) ?_
  ·simp only [spec_l03Add.l0, rd_ro, Bool.false_eq_true, if_false, Option.bind_some]
   rw [if_pos (by omega), if_pos (by omega), if_pos (by omega), if_pos (by rw [List.length_append, List.length_singleton]; omega), if_pos (show (l.take j).length < 5864062014805 by omega), w64 (by omega) (by omega), ht]; rfl
  ·refine Ev.bind (f := fun k t => if t = 0 then some l else if t < 0 then spec_l03Add.l0 k l s ((l.take j ++ [s]) ++ [ro_ l j]) true ((j + 1 : Nat) : Int) else spec_l03Add.l0 k l s (l.take (j + 1)) false ((j + 1 : Nat) : Int)) (specCmp_ev s (ro_ l j) hs) ?_
   unfold insS
   by_cases c : cmpS s (ro_ l j) = 0
   ·simp only [if_pos c]
    rw [← hd, List.take_append_drop]; exact Ev.now _
   ·simp only [if_neg c]
    by_cases g : cmpS s (ro_ l j) < 0
    ·simp only [if_pos g]
     have h := add_done l s hl hs d (j + 1) (by omega) (fun x hx => ltS_trans (cmpS_neg_lt g) (s1 x hx)) ((l.take j ++ [s]) ++ [ro_ l j]) (by simp only [List.length_append, List.length_singleton, hlt]; omega)
     have e : l.take j ++ [s] ++ [ro_ l j] ++ l.drop (j + 1) = l.take j ++ s :: ro_ l j :: l.drop (j + 1) := by simp
     rw [e] at h; exact h
    ·simp only [if_neg g]
     have h := ih (j + 1) (by omega)
     rw [ht] at h ⊢
     have e : l.take j ++ [ro_ l j] ++ insS s (l.drop (j + 1)) = l.take j ++ ro_ l j :: insS s (l.drop (j + 1)) := by simp
     rw [e] at h; exact h
theorem add_ev (l : List (List C)) (s : List C) (hp : l.Pairwise ltS) (hl : l.length ≤ 1000000) (hs : s.length ≤ 1048576) : Ev (fun k => spec_l03Add.f k l s) (insS s l) := by
 have h := add_open l s hp hl hs l.length 0 (by omega)
 rw [List.take_zero, List.drop_zero, List.nil_append] at h
 exact h
def tidyP (l : List (List C)) : List (List C) := l.foldl (fun a s => insS s a) []
theorem tidyP_snoc (l : List (List C)) (s : List C) : tidyP (l ++ [s]) = insS s (tidyP l) := by unfold tidyP; rw [List.foldl_append]; rfl
theorem foldl_ins (l : List (List C)) : ∀ a : List (List C), a.Pairwise ltS → (l.foldl (fun a s => insS s a) a).Pairwise ltS ∧ (∀ t, t ∈ l.foldl (fun a s => insS s a) a ↔ t ∈ a ∨ t ∈ l) ∧ (l.foldl (fun a s => insS s a) a).length ≤ a.length + l.length := by
 induction l with
 | nil => intro a h; exact ⟨h, fun t => by simp, by simp⟩
 | cons s r ih =>
  intro a h
  obtain ⟨h1, h2, h3⟩ := ih (insS s a) (insS_sorted s a h)
  refine ⟨h1, fun t => ?_, ?_⟩
  ·rw [List.foldl_cons, h2, insS_mem, List.mem_cons]
   constructor
   ·rintro ((h | h) | h)
    ·exact Or.inr (Or.inl h)
    ·exact Or.inl h
    ·exact Or.inr (Or.inr h)
   ·rintro (h | h | h)
    ·exact Or.inl (Or.inr h)
    ·exact Or.inl (Or.inl h)
    ·exact Or.inr h
  ·have := insS_length s a
   rw [List.foldl_cons, List.length_cons]; omega
theorem tidyP_sorted (l : List (List C)) : (tidyP l).Pairwise ltS := (foldl_ins l [] List.Pairwise.nil).1
theorem tidyP_mem (l : List (List C)) (t : List C) : t ∈ tidyP l ↔ t ∈ l := by
 refine ((foldl_ins l [] List.Pairwise.nil).2.1 t).trans ?_
 simp
theorem tidyP_length (l : List (List C)) : (tidyP l).length ≤ l.length := by
 have h := (foldl_ins l [] List.Pairwise.nil).2.2
 rw [List.length_nil, Nat.zero_add] at h; exact h
theorem tidyP_unique {l m : List (List C)} (hm : m.Pairwise ltS) (h : ∀ t, t ∈ m ↔ t ∈ l) : m = tidyP l :=
 ltS_unique hm (tidyP_sorted l) fun t => (h t).trans (tidyP_mem l t).symm
theorem cfL_cmpL (a : List C) : ∀ b : List C, cfL_ a b = cmpL a b := by
 induction a with
 | nil => intro b; cases b <;> rfl
 | cons x r ih =>
  intro b
  cases b with
  | nil => rfl
  | cons y s =>
   have e1 : ltbC_ x y = decide (ltC x y) := rfl
   have e2 : ltbC_ y x = decide (ltC y x) := rfl
   simp only [cfL_, cmpL, cfC_, e1, e2, decide_eq_true_eq]
   by_cases c1 : ltC x y
   ·simp only [if_pos c1]; rw [if_neg (by decide)]
   ·simp only [if_neg c1]
    by_cases c2 : ltC y x
    ·simp only [if_pos c2]; rw [if_neg (by decide)]
    ·simp only [if_neg c2]; rw [if_pos trivial]; exact ih s
theorem cfS_cmpS (a b : List C) : cfS_ a b = cmpS a b := by unfold cfS_ cmpS; rw [cfL_cmpL]
def leS (a b : List C) : Prop := ¬ ltS b a
theorem cfS_lt (a b : List C) : cfS_ a b < 0 ↔ ltS a b := by
 rw [cfS_cmpS]; exact ⟨cmpS_neg_lt, fun h => by unfold ltS at h; omega⟩
theorem leS_lt {a b : List C} (h : leS a b) (hne : b ≠ a) : ltS a b := by
 rcases ltS_tri a b with g | g | g
 ·exact g
 ·exact absurd g.symm hne
 ·exact absurd g h
theorem leS_trans {a b c : List C} (h : leS a b) (g : leS b c) : leS a c := by
 intro k
 rcases ltS_tri a b with e | e | e
 ·exact g (ltS_trans k e)
 ·rw [e] at k; exact g k
 ·exact h e
theorem leS_ltS_trans {a b c : List C} (h : leS a b) (g : ltS b c) : ltS a c := by
 rcases ltS_tri a b with e | e | e
 ·exact ltS_trans e g
 ·rw [e]; exact g
 ·exact absurd e h
theorem sortS_perm (l : List (List C)) : (sortS_ l).Perm l := List.mergeSort_perm _ _
theorem sortS_sorted (l : List (List C)) : (sortS_ l).Pairwise leS := by
 have h := List.pairwise_mergeSort (le := fun x y : List C => !decide (cfS_ y x < 0)) (fun a b c h1 h2 => by
  simp only [Bool.not_eq_true', decide_eq_false_iff_not, cfS_lt] at *
  exact leS_trans h1 h2) (fun a b => by
  by_cases h : cfS_ b a < 0
  ·have : ¬ cfS_ a b < 0 := fun g => ltS_irrefl (ltS_trans ((cfS_lt _ _).1 h) ((cfS_lt _ _).1 g))
   simp [this]
  ·simp [h]) l
 exact h.imp fun g => by
  simp only [Bool.not_eq_true', decide_eq_false_iff_not, cfS_lt] at g
  exact g
theorem dd_spec (s : List (List C)) (hs : s.Pairwise leS) : ∀ i, i ≤ s.length → (ddS_ s i).Pairwise ltS ∧ ∀ t, t ∈ ddS_ s i ↔ t ∈ s.take i := by
 intro i
 induction i with
 | zero => intro _; exact ⟨List.Pairwise.nil, fun t => by simp [ddS_]⟩
 | succ i ih =>
  intro hi
  obtain ⟨h1, h2⟩ := ih (by omega)
  have ht := take_ro s i (by omega)
  have e0 : s.getD i [] = ro_ s i := rfl
  have e1 : s.getD (i - 1) [] = ro_ s (i - 1) := rfl
  unfold ddS_
  rw [e0, e1, cfS_cmpS, ht]
  have hle : ∀ t ∈ s.take i, leS t (ro_ s (i - 1)) ∧ leS (ro_ s (i - 1)) (ro_ s i) := by
   intro t htm
   obtain ⟨j, hj, rfl⟩ := List.mem_iff_getElem.1 htm
   rw [List.length_take] at hj
   have hpw := List.pairwise_iff_getElem.1 hs
   rw [ro_get s (i - 1) (by omega), ro_get s i (by omega), List.getElem_take]
   refine ⟨?_, hpw (i - 1) i (by omega) (by omega) (by omega)⟩
   by_cases e : j = i - 1
   ·subst e; exact fun g => ltS_irrefl g
   ·exact hpw j (i - 1) (by omega) (by omega) (by omega)
  by_cases c : i ≠ 0 ∧ cmpS (ro_ s i) (ro_ s (i - 1)) = 0
  ·rw [if_pos c]
   refine ⟨h1, fun t => ?_⟩
   rw [h2, List.mem_append, List.mem_singleton]
   constructor
   ·exact Or.inl
   ·rintro (g | g)
    ·exact g
    ·rw [g, (cmpS_zero _ _).1 c.2, ro_get s (i - 1) (by omega)]
     exact List.mem_iff_getElem.2 ⟨i - 1, by rw [List.length_take]; omega, by rw [List.getElem_take]⟩
  ·rw [if_neg c]
   refine ⟨List.pairwise_append.2 ⟨h1, List.pairwise_singleton _ _, fun a ha b hb => ?_⟩, fun t => ?_⟩
   ·rw [List.mem_singleton] at hb
    subst hb
    obtain ⟨l1, l2⟩ := hle a ((h2 a).1 ha)
    have hi0 : i ≠ 0 := by
     intro g; subst g
     have := (h2 a).1 ha
     simp at this
    exact leS_ltS_trans l1 (leS_lt l2 fun g => c ⟨hi0, (cmpS_zero _ _).2 g⟩)
   ·rw [List.mem_append, h2, List.mem_append]
theorem tidy_eq (k : Nat) (l : List (List C)) (h : l.length ≤ 1000000) : impl_tidyShapes.f k l = some (tidyP l) := by
 unfold impl_tidyShapes.f
 rw [if_pos h]
 have hl : (sortS_ l).length = l.length := (sortS_perm l).length_eq
 obtain ⟨h1, h2⟩ := dd_spec (sortS_ l) (sortS_sorted l) l.length (by omega)
 rw [← hl, List.take_length, hl] at h2
 rw [tidyP_unique h1 fun t => (h2 t).trans (sortS_perm l).mem_iff]
def shrF (l : List C) : Nat → Nat → List (List C)
 | 0, _ => []
 | d + 1, i => if oneP (partsP (l.eraseIdx i)) = true then normL (l.eraseIdx i) :: shrF l d (i + 1) else shrF l d (i + 1)
theorem shrF_length (l : List C) : ∀ d i, (shrF l d i).length ≤ d := by
 intro d
 induction d with
 | zero => intro i; exact Nat.le_refl _
 | succ d ih =>
  intro i
  have := ih (i + 1)
  unfold shrF
  split
  ·rw [List.length_cons]; omega
  ·omega
theorem shrF_mem (l : List C) : ∀ d i s, s ∈ shrF l d i ↔ ∃ j, i ≤ j ∧ j < i + d ∧ oneP (partsP (l.eraseIdx j)) = true ∧ s = normL (l.eraseIdx j) := by
 intro d
 induction d with
 | zero =>
  intro i s
  constructor
  ·intro h; cases h
  ·rintro ⟨j, h1, h2, _⟩; omega
 | succ d ih =>
  intro i s
  unfold shrF
  by_cases c : oneP (partsP (l.eraseIdx i)) = true
  ·rw [if_pos c, List.mem_cons, ih]
   constructor
   ·rintro (rfl | ⟨j, h1, h2, h3⟩)
    ·exact ⟨i, Nat.le_refl _, by omega, c, rfl⟩
    ·exact ⟨j, by omega, by omega, h3⟩
   ·rintro ⟨j, h1, h2, h3, h4⟩
    by_cases e : j = i
    ·subst e; exact Or.inl h4
    ·exact Or.inr ⟨j, by omega, by omega, h3, h4⟩
  ·rw [if_neg c, ih]
   constructor
   ·rintro ⟨j, h1, h2, h3⟩; exact ⟨j, by omega, by omega, h3⟩
   ·rintro ⟨j, h1, h2, h3, h4⟩
    by_cases e : j = i
    ·subst e; exact absurd h3 c
    ·exact ⟨j, by omega, by omega, h3, h4⟩
theorem less_length (l : List C) (i : Nat) (h : i < l.length) : (l.eraseIdx i).length = l.length - 1 := by rw [List.length_eraseIdx, if_pos h]
theorem less_sub (l : List C) (i : Nat) : (l.eraseIdx i).Sublist l := List.eraseIdx_sublist ..
theorem sh_nodup' {l : List C} (h : Sh l) (i : Nat) : (l.eraseIdx i).Nodup := (sh_nodup h).sublist (less_sub l i)
theorem sh_wim' {l : List C} (h : Sh l) (i : Nat) : Wi 1000000 (l.eraseIdx i) := fun c hc => wi_big (sh_wi h) (by omega) c ((less_sub l i).subset hc)
theorem implShr_go (l : List C) (hs : Sh l) (h2 : 2 ≤ l.length) : ∀ d i, i + d = l.length → Ev (fun k => impl_ShrinkShape.go k l d i) (shrF l d i) := by
 have h40 := hs.2.1
 intro d
 induction d with
 | zero => intro i _; exact Ev.now _
 | succ d ih =>
  intro i hi
  have hlen := less_length l i (by omega)
  have hf : ∀ k, impl_ShrinkShape.go k l (d + 1) i = (impl_connected.f k (l.eraseIdx i)).bind fun b => if b = true then ((impl_normal.f k (l.eraseIdx i)).bind fun s => (impl_ShrinkShape.go k l d (i + 1)).bind fun r => some (s :: r)) else impl_ShrinkShape.go k l d (i + 1) := fun _ => rfl
  simp only [hf]
  refine Ev.bind (f := fun k b => if b = true then ((impl_normal.f k (l.eraseIdx i)).bind fun s => (impl_ShrinkShape.go k l d (i + 1)).bind fun r => some (s :: r)) else impl_ShrinkShape.go k l d (i + 1)) (implConnected_ev (l.eraseIdx i) (by omega) (by omega) (sh_nodup' hs i) (sh_wim' hs i)) ?_
  unfold shrF
  by_cases c : oneP (partsP (l.eraseIdx i)) = true
  ·simp only [if_pos c]
   refine Ev.bind (f := fun k s => (impl_ShrinkShape.go k l d (i + 1)).bind fun r => some (s :: r)) (implNorm_ev (l.eraseIdx i) (by omega) (by omega)) ?_
   exact Ev.bind (f := fun _ r => some (normL (l.eraseIdx i) :: r)) (ih (i + 1) (by omega)) (Ev.now _)
  ·simp only [if_neg c]; exact ih (i + 1) (by omega)
theorem without_eq (l : List C) (i : Nat) (hi : i < l.length) (hl : l.length ≤ 40) : spec_l05Without.f l (i : Nat) = some (l.eraseIdx i) := by
 unfold spec_l05Without.f
 have e : wrap64 ((i : Int) + 1) = ((i + 1 : Nat) : Int) := by rw [w64 (by omega) (by omega)]; rfl
 simp only [Option.bind_some, e, Int.toNat_natCast, List.nil_append]
 rw [if_pos (by omega), if_pos (by omega), if_pos (by rw [List.length_take]; simp; omega), if_pos (by omega), if_pos (by omega), if_pos (by rw [List.length_take, List.length_drop]; omega), List.eraseIdx_eq_take_drop_succ]
theorem specShr_loop (l : List C) (hs : Sh l) (h2 : 2 ≤ l.length) : ∀ d i, i + d = l.length → ∀ done : List (List C), done.length ≤ i → Ev (fun k => spec_ShrinkShape.l0 k l (tidyP done) (i : Nat)) (tidyP (done ++ shrF l d i), 0) := by
 have h40 := hs.2.1
 intro d
 induction d with
 | zero =>
  intro i hi done _
  refine Ev.step (f := fun _ => some (tidyP done, (0 : Int))) (fun k => ?_) ?_
  ·simp only [spec_ShrinkShape.l0]; rw [if_neg (by omega)]
  ·rw [show shrF l 0 i = [] from rfl, List.append_nil]; exact Ev.now _
 | succ d ih =>
  intro i hi done hd
  have hlen := less_length l i (by omega)
  have htl := tidyP_length done
  refine Ev.step (f := fun k => (spec_l02Parts.f k (l.eraseIdx i)).bind fun p => (spec_l02One.f k p).bind fun b => if b = true then ((spec_l02Normal.f k (l.eraseIdx i)).bind fun n => (spec_l03Add.f k (tidyP done) n).bind fun o => spec_ShrinkShape.l0 k l o ((i + 1 : Nat) : Int)) else spec_ShrinkShape.l0 k l (tidyP done) ((i + 1 : Nat) : Int)) (fun k => ?_) ?_
  ·simp only [spec_ShrinkShape.l0]
   rw [if_pos (by omega), without_eq l i (by omega) h40, Option.bind_some, w64 (by omega) (by omega)]; rfl
  ·refine Ev.bind (f := fun k p => (spec_l02One.f k p).bind fun b => if b = true then ((spec_l02Normal.f k (l.eraseIdx i)).bind fun n => (spec_l03Add.f k (tidyP done) n).bind fun o => spec_ShrinkShape.l0 k l o ((i + 1 : Nat) : Int)) else spec_ShrinkShape.l0 k l (tidyP done) ((i + 1 : Nat) : Int)) (specParts_ev (l.eraseIdx i) (by omega) (sh_wim' hs i)) ?_
   refine Ev.bind (f := fun k b => if b = true then ((spec_l02Normal.f k (l.eraseIdx i)).bind fun n => (spec_l03Add.f k (tidyP done) n).bind fun o => spec_ShrinkShape.l0 k l o ((i + 1 : Nat) : Int)) else spec_ShrinkShape.l0 k l (tidyP done) ((i + 1 : Nat) : Int)) (specOne_ev _ (by rw [partsP_length]; omega)) ?_
   unfold shrF
   by_cases c : oneP (partsP (l.eraseIdx i)) = true
   ·simp only [if_pos c]
    refine Ev.bind (f := fun k n => (spec_l03Add.f k (tidyP done) n).bind fun o => spec_ShrinkShape.l0 k l o ((i + 1 : Nat) : Int)) (specNorm_ev (l.eraseIdx i) (by omega) (by omega)) ?_
    refine Ev.bind (f := fun k o => spec_ShrinkShape.l0 k l o ((i + 1 : Nat) : Int)) (add_ev (tidyP done) (normL (l.eraseIdx i)) (tidyP_sorted done) (by omega) (by rw [normL_length]; omega)) ?_
    have h := ih (i + 1) (by omega) (done ++ [normL (l.eraseIdx i)]) (by rw [List.length_append, List.length_singleton]; omega)
    rw [tidyP_snoc, List.append_assoc] at h
    exact h
   ·simp only [if_neg c]
    exact ih (i + 1) (by omega) done (by omega)
noncomputable def skP (l : List C) : List (List C) × Int := if ccP l = 0 then (if (l.length : Int) = 1 then ([], 5) else (tidyP (shrF l l.length 0), 0)) else ([], ccP l)
theorem implSk_ev (l : List C) (hl : l.length ≤ 1048576) : Ev (fun k => impl_ShrinkShape.f k l) (skP l) := by
 unfold impl_ShrinkShape.f skP
 refine Ev.bind (f := fun k t => if t = 0 then (if (l.length : Int) = 1 then some (([] : List (List C)), 5) else if l.length ≤ 1000000 then ((impl_ShrinkShape.go k l l.length 0).bind fun o => (impl_tidyShapes.f k o).bind fun q => some (q, (0 : Int))) else none) else some (([] : List (List C)), t)) (implCc_ev l hl) ?_
 by_cases c : ccP l = 0
 ·obtain ⟨hs, _, _⟩ := cc_zero c
  have h1 := hs.1
  have h40 := hs.2.1
  simp only [if_pos c]
  by_cases c1 : (l.length : Int) = 1
  ·simp only [if_pos c1]; exact Ev.now _
  simp only [if_neg c1, if_pos (show l.length ≤ 1000000 by omega)]
  refine Ev.bind (f := fun k o => (impl_tidyShapes.f k o).bind fun q => some (q, (0 : Int))) (implShr_go l hs (by omega) l.length 0 (by omega)) ?_
  have hf := shrF_length l l.length 0
  refine Ev.step (fun k => ?_) (Ev.now _)
  rw [tidy_eq _ _ (by omega)]; rfl
 ·simp only [if_neg c]; exact Ev.now _
theorem specSk_ev (l : List C) (hl : l.length ≤ 1048576) : Ev (fun k => spec_ShrinkShape.f k l) (skP l) := by
 unfold spec_ShrinkShape.f skP
 refine Ev.bind (f := fun k t => if t = 0 then (if (l.length : Int) = 1 then some (([] : List (List C)), 5) else spec_ShrinkShape.l0 k l ([] : List (List C)) 0) else some (([] : List (List C)), t)) (specCc_ev l hl) ?_
 by_cases c : ccP l = 0
 ·obtain ⟨hs, _, _⟩ := cc_zero c
  have h1 := hs.1
  simp only [if_pos c]
  by_cases c1 : (l.length : Int) = 1
  ·simp only [if_pos c1]; exact Ev.now _
  simp only [if_neg c1]
  exact specShr_loop l hs (by omega) l.length 0 (by omega) [] (Nat.le_refl _)
 ·simp only [if_neg c]; exact Ev.now _
theorem skP_length (l : List C) : (skP l).1.length ≤ 1000000 ∧ ∀ s ∈ (skP l).1, s.length ≤ 41 := by
 unfold skP
 by_cases c : ccP l = 0
 ·obtain ⟨hs, _, _⟩ := cc_zero c
  have h40 := hs.2.1
  rw [if_pos c]
  split
  ·simp
  ·refine ⟨?_, fun s hs' => ?_⟩
   ·have h1 := tidyP_length (shrF l l.length 0)
    have h2 := shrF_length l l.length 0
    simp only; omega
   ·obtain ⟨j, _, hj, _, rfl⟩ := (shrF_mem l l.length 0 s).1 ((tidyP_mem _ s).1 hs')
    rw [normL_length, less_length l j (by omega)]; omega
 ·rw [if_neg c]; simp
theorem both_ShrinkShape (l : List C) (hl : l.length ≤ 1048576) : ∃ r : List (List C) × Int, Ev (fun k => spec_ShrinkShape.f k l) r ∧ Ev (fun k => impl_ShrinkShape.f k l) r ∧ r.1.length ≤ 1000000 ∧ ∀ s ∈ r.1, s.length ≤ 41 :=
 ⟨skP l, specSk_ev l hl, implSk_ev l hl, skP_length l⟩
def mrk (m : Int) (n : Nat) : List C := (List.range n).map fun i => ⟨m + 2 * (i : Nat), m + 2 * (i : Nat) + 1⟩
theorem mrk_length (m : Int) (n : Nat) : (mrk m n).length = n := by simp [mrk]
theorem mrk_get (m : Int) (n i : Nat) (h : i < n) : (mrk m n)[i]? = some ⟨m + 2 * (i : Nat), m + 2 * (i : Nat) + 1⟩ := by
 unfold mrk; rw [List.getElem?_map, List.getElem?_range h]; rfl
theorem mrk_at (m : Int) (n i : Nat) (h : i < n) : at_ (mrk m n) i = ⟨m + 2 * (i : Nat), m + 2 * (i : Nat) + 1⟩ := by
 unfold at_; rw [List.getD_eq_getElem?_getD, mrk_get m n i h]; rfl
theorem markCell_loop (m : Int) (n : Nat) (hn : n ≤ 1048576) (hm : 0 ≤ m) (hm2 : m ≤ 9223372036850000000) : ∀ d j : Nat, j + d = n → ∀ x : List C, x.length = n → (∀ i, i < j → x[i]? = (mrk m n)[i]?) →
  Ev (fun k => laws_markCellS.l0 k x (m + 2 * (j : Nat)) (j : Nat)) (m + 2 * (n : Nat), mrk m n) := by
 intro d
 induction d with
 | zero =>
  intro j hj x hx hi
  obtain rfl : x = mrk m n := by
   apply List.ext_getElem?
   intro i
   by_cases h : i < j
   ·exact hi i h
   ·rw [List.getElem?_eq_none (by omega), List.getElem?_eq_none (by rw [mrk_length]; omega)]
  obtain rfl : j = n := by omega
  refine Ev.step (fun k => ?_) (Ev.now _)
  simp only [laws_markCellS.l0, mrk_length]; rw [if_neg (by omega)]
 | succ d ih =>
  intro j hj x hx hi
  refine Ev.step (fun k => ?_) (ih (j + 1) (by omega) (x.set j ⟨m + 2 * (j : Nat), m + 2 * (j : Nat) + 1⟩) (by rw [List.length_set]; exact hx) ?_)
  ·simp only [laws_markCellS.l0, Option.bind_some]
   rw [if_pos (by omega), if_pos (by omega), w64 (x := (j : Int) + 1) (by omega) (by omega), w64 (x := m + 2 * (j : Nat) + 1) (by omega) (by omega), w64 (by omega) (by omega), rd_at, rd_at, List.set_set]
   have e : at_ (x.set ((j : Int).toNat) ⟨m + 2 * (j : Nat), (at_ x j).f1⟩) j = ⟨m + 2 * (j : Nat), (at_ x j).f1⟩ := by
    rw [at_get _ _ (by rw [List.length_set]; omega), Int.toNat_natCast, List.getElem_set_self]
   rw [e]
   show laws_markCellS.l0 k (x.set j ⟨m + 2 * (j : Nat), m + 2 * (j : Nat) + 1⟩) (m + 2 * (j : Nat) + 1 + 1) ((j : Int) + 1) = laws_markCellS.l0 k _ (m + 2 * ((j + 1 : Nat) : Int)) ((j + 1 : Nat) : Int)
   congr 1
   omega
  ·intro i h
   rw [List.getElem?_set]
   by_cases e : j = i
   ·subst e; rw [if_pos rfl, if_pos (by omega), mrk_get m n j (by omega)]
   ·rw [if_neg e]; exact hi i (by omega)
theorem markCell_ev (l : List C) (m : Int) (hl : l.length ≤ 1048576) (hm : 0 ≤ m) (hm2 : m ≤ 9223372036850000000) : Ev (fun k => laws_markCellS.f k l m) (m + 2 * (l.length : Int), mrk m l.length) := by
 have h := markCell_loop m l.length hl hm hm2 l.length 0 (by omega) l rfl (by intro i h; omega)
 rw [show m + 2 * ((0 : Nat) : Int) = m from by omega] at h
 exact h
theorem heldCell_loop (m : Int) (n : Nat) (hn : n ≤ 1048576) (hm : 0 ≤ m) (hm2 : m ≤ 9223372036850000000) : ∀ d j : Nat, j + d = n → Ev (fun k => laws_heldCellS.l0 k (mrk m n) (m + 2 * (j : Nat)) (j : Nat)) (m + 2 * (n : Nat)) := by
 intro d
 induction d with
 | zero =>
  intro j hj
  obtain rfl : j = n := by omega
  refine Ev.step (fun k => ?_) (Ev.now _)
  simp only [laws_heldCellS.l0, mrk_length]; rw [if_neg (by omega)]
 | succ d ih =>
  intro j hj
  refine Ev.step (fun k => ?_) (ih (j + 1) (by omega))
  simp only [laws_heldCellS.l0, mrk_length, rd_at]
  rw [mrk_at m n j (by omega), if_pos (by omega), if_pos (by omega), if_pos rfl, w64 (x := m + 2 * (j : Nat) + 1) (by omega) (by omega), if_pos rfl, w64 (x := (j : Int) + 1) (by omega) (by omega), w64 (by omega) (by omega)]
  congr 1
  omega
theorem heldCell_ev (m : Int) (n : Nat) (hn : n ≤ 1048576) (hm : 0 ≤ m) (hm2 : m ≤ 9223372036850000000) : Ev (fun k => laws_heldCellS.f k (mrk m n) m) (m + 2 * (n : Nat)) := by
 have h := heldCell_loop m n hn hm hm2 n 0 (by omega)
 rw [show m + 2 * ((0 : Nat) : Int) = m from by omega] at h
 exact h
def totR : List (List C) → Nat
 | [] => 0
 | s :: r => s.length + totR r
theorem totR_le (b : Nat) : ∀ l : List (List C), (∀ s ∈ l, s.length ≤ b) → totR l ≤ l.length * b
 | [], _ => Nat.zero_le _
 | s :: r, h => by
  have h1 := h s List.mem_cons_self
  have h2 := totR_le b r fun x hx => h x (List.mem_cons_of_mem _ hx)
  rw [totR, List.length_cons, Nat.succ_mul]; omega
def mrkR : Int → List (List C) → List (List C)
 | _, [] => []
 | m, s :: r => mrk m s.length :: mrkR (m + 2 * (s.length : Int)) r
theorem mrkR_length : ∀ (l : List (List C)) (m : Int), (mrkR m l).length = l.length
 | [], _ => rfl
 | _ :: r, m => by rw [mrkR, List.length_cons, mrkR_length r, List.length_cons]
theorem markR_ev : ∀ (l : List (List C)) (m : Int), (∀ s ∈ l, s.length ≤ 1048576) → 0 ≤ m → m + 2 * (totR l : Int) ≤ 9000000000000000000 → Ev (fun k => laws_markCellSS.f k l m) (m + 2 * (totR l : Int), mrkR m l)
 | [], m, _, _, _ => by
  rw [show m + 2 * ((totR ([] : List (List C)) : Nat) : Int) = m by simp [totR]]
  exact Ev.now _
 | s :: r, m, h, h0, h1 => by
  have hs := h s List.mem_cons_self
  have e : ((totR (s :: r) : Nat) : Int) = (s.length : Int) + (totR r : Int) := by rw [totR]; omega
  rw [e] at h1 ⊢
  refine Ev.bind (f := fun k (p : Int × List C) => (laws_markCellSS.f k r p.1).bind fun q => some (q.1, p.2 :: q.2)) (markCell_ev s m hs h0 (by omega)) ?_
  refine Ev.bind (f := fun _ (q : Int × List (List C)) => some (q.1, mrk m s.length :: q.2)) (markR_ev r (m + 2 * (s.length : Int)) (fun x hx => h x (List.mem_cons_of_mem _ hx)) (by omega) (by omega)) ?_
  rw [show m + 2 * ((s.length : Int) + (totR r : Int)) = m + 2 * (s.length : Int) + 2 * (totR r : Int) by omega]
  exact Ev.now _
theorem heldR_loop : ∀ (l pre : List (List C)) (m : Int), (∀ s ∈ l, s.length ≤ 1048576) → 0 ≤ m → m + 2 * (totR l : Int) ≤ 9000000000000000000 → pre.length + l.length ≤ 1000000000 → Ev (fun k => laws_heldCellSS.l0 k (pre ++ mrkR m l) m (pre.length : Nat)) (m + 2 * (totR l : Int))
 | [], pre, m, _, _, _, _ => by
  rw [show m + 2 * ((totR ([] : List (List C)) : Nat) : Int) = m by simp [totR]]
  refine Ev.step (f := fun _ => some m) (fun k => ?_) (Ev.now _)
  simp only [laws_heldCellSS.l0, mrkR, List.append_nil]; rw [if_neg (by omega)]
 | s :: r, pre, m, h, h0, h1, h2 => by
  have hs := h s List.mem_cons_self
  have e : ((totR (s :: r) : Nat) : Int) = (s.length : Int) + (totR r : Int) := by rw [totR]; omega
  rw [List.length_cons] at h2
  rw [e] at h1 ⊢
  have hl : (pre ++ mrkR m (s :: r)).length = pre.length + (r.length + 1) := by rw [List.length_append, mrkR_length, List.length_cons]
  have hr : ro_ (pre ++ mrkR m (s :: r)) pre.length = mrk m s.length := by
   unfold ro_; rw [List.getD_eq_getElem?_getD, List.getElem?_append_right (Nat.le_refl _), Nat.sub_self]; rfl
  have ha : pre ++ mrkR m (s :: r) = (pre ++ [mrk m s.length]) ++ mrkR (m + 2 * (s.length : Int)) r := by rw [List.append_assoc]; rfl
  have hn : ¬ m + 2 * (s.length : Int) < 0 := by omega
  refine Ev.step (f := fun k => (laws_heldCellS.f k (mrk m s.length) m).bind fun t => if t < 0 then some (-1) else laws_heldCellSS.l0 k ((pre ++ [mrk m s.length]) ++ mrkR (m + 2 * (s.length : Int)) r) t ((pre ++ [mrk m s.length]).length : Nat)) (fun k => ?_) ?_
  ·simp only [laws_heldCellSS.l0, rd_ro]
   rw [if_pos (by omega), if_pos (by omega), hr, w64 (by omega) (by omega), ha]
   rw [List.length_append, List.length_singleton]; rfl
  ·refine Ev.bind (f := fun k t => if t < 0 then some (-1) else laws_heldCellSS.l0 k ((pre ++ [mrk m s.length]) ++ mrkR (m + 2 * (s.length : Int)) r) t ((pre ++ [mrk m s.length]).length : Nat)) (heldCell_ev m s.length hs h0 (by omega)) ?_
   simp only [if_neg hn]
   rw [show m + 2 * ((s.length : Int) + (totR r : Int)) = m + 2 * (s.length : Int) + 2 * (totR r : Int) by omega]
   exact heldR_loop r (pre ++ [mrk m s.length]) (m + 2 * (s.length : Int)) (fun x hx => h x (List.mem_cons_of_mem _ hx)) (by omega) (by omega) (by rw [List.length_append, List.length_singleton]; omega)
theorem heldR_ev (l : List (List C)) (m : Int) (h : ∀ s ∈ l, s.length ≤ 1048576) (h0 : 0 ≤ m) (h1 : m + 2 * (totR l : Int) ≤ 9000000000000000000) (h2 : l.length ≤ 1000000000) : Ev (fun k => laws_heldCellSS.f k (mrkR m l) m) (m + 2 * (totR l : Int)) :=
 heldR_loop l [] m h h0 h1 (by simpa using h2)
theorem eqR_loop (l : List (List C)) (hl : l.length ≤ 1000000000) (h : ∀ s ∈ l, s.length ≤ 1048576) : ∀ d j : Nat, j + d = l.length → Ev (fun k => laws_eqCellSS.l0 k l l (j : Nat)) true := by
 intro d
 induction d with
 | zero =>
  intro j hj
  refine Ev.step (f := fun _ => some true) (fun k => ?_) (Ev.now _)
  simp only [laws_eqCellSS.l0]; rw [if_neg (by omega)]
 | succ d ih =>
  intro j hj
  refine Ev.step (f := fun k => (laws_eqCellS.f k (ro_ l j) (ro_ l j)).bind fun t => if t = true then laws_eqCellSS.l0 k l l ((j + 1 : Nat) : Int) else some false) (fun k => ?_) ?_
  ·simp only [laws_eqCellSS.l0, rd_ro]; rw [if_pos (by omega), if_pos (by omega), if_pos (by omega), w64 (by omega) (by omega)]; rfl
  ·refine Ev.bind (f := fun k t => if t = true then laws_eqCellSS.l0 k l l ((j + 1 : Nat) : Int) else some false) (eqCell_ev (ro_ l j) (by have := h _ (ro_mem l j (by omega)); omega)) ?_
   simp only [if_true]; exact ih (j + 1) (by omega)
theorem eqR_ev (l : List (List C)) (hl : l.length ≤ 1000000000) (h : ∀ s ∈ l, s.length ≤ 1048576) : Ev (fun k => laws_eqCellSS.f k l l) true := by
 unfold laws_eqCellSS.f
 simp only [if_true]
 exact eqR_loop l hl h l.length 0 (by omega)
end Go.Proofs.Ytpilmhjbgbpbmaa.M
namespace Go.Proofs.Ytpilmhjbgbpbmaa.Pure
set_option linter.unusedVariables false
set_option linter.unusedSimpArgs false
open Go.RowKit Go.Proofs.Ytpilmhjbgbpbmaa.X Go.Proofs.YtpilmhjbgbpbmaaW.PrintWords Go.Proofs.YtpilmhjbgbpbmaaW.PrintLast Go.Proofs.YtpilmhjbgbpbmaaW.PrintMore Go.Proofs.Ytpilmhjbgbpbmaa.M
theorem FnExactShrinkShape : laws_FnExactShrinkShape.Pure := by
 intro l hl hw
 rcases sz_cases l hl 1048576 (by omega) (by omega) with ⟨h, e⟩ | ⟨h, e⟩
 ·exact ⟨0, by simp only [laws_FnExactShrinkShape.f, e, Option.bind_some]; rfl⟩
 ·have h0 : ¬ (1048576 - (l.length : Int) < 0) := by omega
  have hc := cs_length l
  obtain ⟨r, hs, hi, hn, hb⟩ := both_ShrinkShape (cs l) (by omega)
  have hb2 : ∀ s ∈ r.1, s.length ≤ 1048576 := fun s hs => by have := hb s hs; omega
  have ht := totR_le 41 r.1 hb
  have htot : totR r.1 ≤ 41000000 := by omega
  obtain ⟨K, e1, e2, e3, e4, e5, e6, e7, e8⟩ := ev8 (toCell_ev l (by omega)) (eqCell_ev (cs l) (by omega)) hs hi (eqR_ev r.1 (by omega) hb2) (markCell_ev (cs l) 1 (by omega) (by omega) (by omega)) (markR_ev r.1 1 hb2 (by omega) (by omega)) (heldR_ev r.1 1 hb2 (by omega) (by omega) (by omega))
  have e1 := e1 0; have e2 := e2 0; have e3 := e3 0; have e4 := e4 0; have e5 := e5 0; have e6 := e6 0; have e7 := e7 0; have e8 := e8 0
  rw [Nat.add_zero] at e1 e2 e3 e4 e5 e6 e7 e8
  have n1 : ¬ (1 + 2 * ((cs l).length : Int) < 0) := by omega
  have n2 : ¬ (1 + 2 * (totR r.1 : Int) < 0) := by omega
  refine ⟨K, ?_⟩
  simp only [laws_FnExactShrinkShape.f, e, Option.bind_some, if_neg h0, e1, e2, e3, e4, e5, e6, e7, e8]
  rw [if_pos (by first | exact ⟨⟨rfl, rfl⟩, rfl, n1⟩ | exact ⟨⟨trivial, trivial⟩, trivial, n1⟩), if_pos (by first | exact ⟨rfl, n2⟩ | exact ⟨trivial, n2⟩)]
end Go.Proofs.Ytpilmhjbgbpbmaa.Pure
