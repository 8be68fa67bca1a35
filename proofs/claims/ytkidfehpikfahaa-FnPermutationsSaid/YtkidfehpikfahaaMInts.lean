/- Lemmas on the seat's printed functions: Ints. -/
import Derived.Test.YtkidfehpikfahaaXx4
import Derived.Test.YtkidfehpikfahaaXx7
import Derived.Test.YtkidfehpikfahaaMBase
namespace Go.Proofs.Ytkidfehpikfahaa.M
set_option linter.unusedVariables false
set_option linter.unusedSimpArgs false
open Go.RowKit Go.Proofs.Ytkidfehpikfahaa.X Go.Proofs.YtkidfehpikfahaaW.PrintWords Go.Proofs.YtkidfehpikfahaaW.PrintLast Go.Proofs.YtkidfehpikfahaaW.PrintMore
theorem rd_nat (l : List Int) (j : Nat) (h : j < l.length) : rd l (j : Int) = l[j] := by
  unfold rd; rw [List.getD_eq_getElem?_getD, Int.toNat_natCast, List.getElem?_eq_getElem h]; rfl
theorem toInt_loop (l : List Int) (hl : l.length ≤ 1048576) : ∀ d j : Nat, j + d = l.length → ∀ x : List Int, x.length = l.length → (∀ i, i < j → x[i]? = l[i]?) → Ev (fun k => laws_toInt64S.l0 k l x (j : Nat)) l := by
  intro d
  induction d with
  | zero =>
    intro j hj x hx hi
    obtain rfl : x = l := by
      apply List.ext_getElem?
      intro i
      by_cases h : i < j
      · exact hi i h
      · rw [List.getElem?_eq_none (by omega), List.getElem?_eq_none (by omega)]
    refine Ev.step (fun k => ?_) (Ev.now _)
    simp only [laws_toInt64S.l0]; rw [if_neg (by omega)]
  | succ d ih =>
    intro j hj x hx hi
    refine Ev.step (fun k => ?_) (ih (j + 1) (by omega) (x.set j (rd l j)) (by rw [List.length_set]; exact hx) ?_)
    · simp only [laws_toInt64S.l0]; rw [if_pos (by omega), if_pos (by omega), if_pos (by omega), w64 (by omega) (by omega)]; rfl
    · intro i h
      rw [List.getElem?_set]
      by_cases e : j = i
      · subst e; rw [if_pos rfl, if_pos (by omega), rd_nat l j (by omega), List.getElem?_eq_getElem (by omega)]
      · rw [if_neg e]; exact hi i (by omega)
theorem toInt_ev (l : List Int) (hl : l.length ≤ 1048576) : Ev (fun k => laws_toInt64S.f k l) l := by
  unfold laws_toInt64S.f
  simp only [if_pos (show 0 ≤ (l.length : Int) by omega), if_pos (show ((l.length : Int)).toNat ≤ 35184372088832 by omega)]
  exact toInt_loop l hl l.length 0 (by omega) _ (by simp) (by intro i h; omega)
theorem eqInt_loop (l : List Int) (hl : l.length ≤ 140737488355328) : ∀ d j : Nat, j + d = l.length → Ev (fun k => laws_eqInt64S.l0 k l l (j : Nat)) true := by
  intro d
  induction d with
  | zero =>
    intro j hj
    refine Ev.step (fun k => ?_) (Ev.now _)
    simp only [laws_eqInt64S.l0]; rw [if_neg (by omega)]
  | succ d ih =>
    intro j hj
    refine Ev.step (fun k => ?_) (ih (j + 1) (by omega))
    simp only [laws_eqInt64S.l0]; rw [if_pos (by omega), if_pos (by omega), if_pos (by omega), if_pos trivial, w64 (by omega) (by omega)]; rfl
theorem eqInt_ev (l : List Int) (hl : l.length ≤ 140737488355328) : Ev (fun k => laws_eqInt64S.f k l l) true := by
  unfold laws_eqInt64S.f
  simp only [if_true]
  exact eqInt_loop l hl l.length 0 (by omega)
/-- the numbers m, m + 1, .. -/
def marks (m : Int) (n : Nat) : List Int := (List.range n).map fun i => m + (i : Nat)
theorem marks_length (m : Int) (n : Nat) : (marks m n).length = n := by simp [marks]
theorem marks_get (m : Int) (n i : Nat) (h : i < n) : (marks m n)[i]? = some (m + (i : Nat)) := by
  unfold marks; rw [List.getElem?_map, List.getElem?_range h]; rfl
theorem markInt_loop (m : Int) (n : Nat) (hn : n ≤ 1048576) (hm : 0 ≤ m) (hm2 : m ≤ 1048577) : ∀ d j : Nat, j + d = n → ∀ x : List Int, x.length = n → (∀ i, i < j → x[i]? = (marks m n)[i]?) →
    Ev (fun k => laws_markInt64S.l0 k x (m + (j : Nat)) (j : Nat)) (m + (n : Nat), marks m n) := by
  intro d
  induction d with
  | zero =>
    intro j hj x hx hi
    obtain rfl : x = marks m n := by
      apply List.ext_getElem?
      intro i
      by_cases h : i < j
      · exact hi i h
      · rw [List.getElem?_eq_none (by omega), List.getElem?_eq_none (by rw [marks_length]; omega)]
    obtain rfl : j = n := by omega
    refine Ev.step (fun k => ?_) (Ev.now _)
    simp only [laws_markInt64S.l0, marks_length]; rw [if_neg (by omega)]
  | succ d ih =>
    intro j hj x hx hi
    refine Ev.step (fun k => ?_) (ih (j + 1) (by omega) (x.set j (m + (j : Nat))) (by rw [List.length_set]; exact hx) ?_)
    · simp only [laws_markInt64S.l0]; rw [if_pos (by omega), if_pos (by omega), w64 (x := (j : Int) + 1) (by omega) (by omega), w64 (by omega) (by omega), Int.add_assoc]; rfl
    · intro i h
      rw [List.getElem?_set]
      by_cases e : j = i
      · subst e; rw [if_pos rfl, if_pos (by omega), marks_get m n j (by omega)]
      · rw [if_neg e]; exact hi i (by omega)
theorem markInt_ev (l : List Int) (m : Int) (hl : l.length ≤ 1048576) (hm : 0 ≤ m) (hm2 : m ≤ 1048577) : Ev (fun k => laws_markInt64S.f k l m) (m + (l.length : Int), marks m l.length) := by
  have h := markInt_loop m l.length hl hm hm2 l.length 0 (by omega) l rfl (by intro i h; omega)
  rw [show m + ((0 : Nat) : Int) = m from by omega] at h
  exact h
theorem heldInt_loop (m : Int) (n : Nat) (hn : n ≤ 1048576) (hm : 0 ≤ m) (hm2 : m ≤ 1048577) : ∀ d j : Nat, j + d = n → Ev (fun k => laws_heldInt64S.l0 k (marks m n) (m + (j : Nat)) (j : Nat)) (m + (n : Nat)) := by
  intro d
  induction d with
  | zero =>
    intro j hj
    obtain rfl : j = n := by omega
    refine Ev.step (fun k => ?_) (Ev.now _)
    simp only [laws_heldInt64S.l0, marks_length]; rw [if_neg (by omega)]
  | succ d ih =>
    intro j hj
    have hr : rd (marks m n) (j : Nat) = m + (j : Nat) := by
      unfold rd; rw [List.getD_eq_getElem?_getD, Int.toNat_natCast, marks_get m n j (by omega)]; rfl
    refine Ev.step (fun k => ?_) (ih (j + 1) (by omega))
    simp only [laws_heldInt64S.l0, marks_length]; rw [if_pos (by omega), if_pos (by omega), if_pos hr, w64 (x := (j : Int) + 1) (by omega) (by omega), w64 (by omega) (by omega), Int.add_assoc]; rfl
theorem heldInt_ev (n : Nat) (hn : n ≤ 1048576) : Ev (fun k => laws_heldInt64S.f k (marks 1 n) 1) (1 + (n : Int)) := by
  exact heldInt_loop 1 n hn (by omega) (by omega) n 0 (by omega)
end Go.Proofs.Ytkidfehpikfahaa.M
