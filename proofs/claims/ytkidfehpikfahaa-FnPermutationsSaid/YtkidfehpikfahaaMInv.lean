/- Lemmas on the seat's printed functions: Inv. -/
import Derived.Test.YtkidfehpikfahaaXx6
import Derived.Test.YtkidfehpikfahaaXx7
import Derived.Test.YtkidfehpikfahaaMBase
import Derived.Test.YtkidfehpikfahaaMIn
import Derived.Test.YtkidfehpikfahaaMInts
import Derived.Test.YtkidfehpikfahaaMPerm
namespace Go.Proofs.Ytkidfehpikfahaa.M
set_option linter.unusedVariables false
set_option linter.unusedSimpArgs false
open Go.RowKit Go.Proofs.Ytkidfehpikfahaa.X Go.Proofs.YtkidfehpikfahaaW.PrintWords Go.Proofs.YtkidfehpikfahaaW.PrintLast Go.Proofs.YtkidfehpikfahaaW.PrintMore
/-- the inverse after j steps -/
def invAt (l : List Int) (j : Nat) : List Int := (List.range j).foldl (fun x i => x.set (rd l (i : Nat)).toNat (i : Int)) (List.replicate l.length 0)
def invL (l : List Int) : List Int := invAt l l.length
theorem invAt_succ (l : List Int) (j : Nat) : invAt l (j + 1) = (invAt l j).set (rd l (j : Nat)).toNat (j : Int) := by
  unfold invAt; rw [List.range_succ, List.foldl_append]; rfl
theorem invAt_length (l : List Int) (j : Nat) : (invAt l j).length = l.length := by
  induction j with
  | zero => simp [invAt]
  | succ j ih => rw [invAt_succ, List.length_set, ih]
theorem perm_at {l : List Int} (h : isPerm l = true) (j : Nat) (hj : j < l.length) : 0 ≤ rd l (j : Nat) ∧ rd l (j : Nat) < l.length := by
  rw [rd_nat l j hj]; exact ((isPerm_iff l).1 h).2.1 _ (List.getElem_mem hj)
theorem impl_inv_loop (l : List Int) (h : isPerm l = true) : ∀ d j : Nat, j + d = l.length → Ev (fun k => impl_InverseOf.l0 k (invAt l j) l l.length (j : Nat)) (invL l, 0) := by
  have hl := ((isPerm_iff l).1 h).1
  intro d
  induction d with
  | zero =>
    intro j hj
    obtain rfl : j = l.length := by omega
    refine Ev.step (fun k => ?_) (Ev.now _)
    simp only [impl_InverseOf.l0]; rw [if_neg (by omega)]; rfl
  | succ d ih =>
    intro j hj
    have hp := perm_at h j (by omega)
    refine Ev.step (fun k => ?_) (ih (j + 1) (by omega))
    simp only [impl_InverseOf.l0, invAt_length]
    rw [if_pos (by omega), if_pos (by omega), if_pos (by omega), if_pos hp.1, if_pos hp.2, w64 (by omega) (by omega), invAt_succ]; rfl
theorem spec_inv_loop (l : List Int) (h : isPerm l = true) : ∀ d j : Nat, j + d = l.length → Ev (fun k => spec_InverseOf.l0 k l (invAt l j) (j : Nat)) (invL l, 0) := by
  have hl := ((isPerm_iff l).1 h).1
  intro d
  induction d with
  | zero =>
    intro j hj
    obtain rfl : j = l.length := by omega
    refine Ev.step (fun k => ?_) (Ev.now _)
    simp only [spec_InverseOf.l0]; rw [if_neg (by omega)]; rfl
  | succ d ih =>
    intro j hj
    have hp := perm_at h j (by omega)
    refine Ev.step (fun k => ?_) (ih (j + 1) (by omega))
    simp only [spec_InverseOf.l0, invAt_length]
    rw [if_pos (by omega), if_pos (by omega), if_pos hp.1, if_pos hp.2, w64 (by omega) (by omega), invAt_succ]; rfl
def invP (l : List Int) : List Int × Int := if isPerm l = true then (invL l, 0) else ([], 1)
theorem impl_Inv_ev (l : List Int) : Ev (fun k => impl_InverseOf.f k l) (invP l) := by
  unfold impl_InverseOf.f invP
  simp only [impl_IsPerm_eq, Option.bind_some]
  by_cases h : isPerm l = true
  · have hl := ((isPerm_iff l).1 h).1
    simp only [if_pos h, if_pos (show 0 ≤ (l.length : Int) by omega), Int.toNat_natCast, if_pos (show l.length ≤ 35184372088832 by omega)]
    exact impl_inv_loop l h l.length 0 (by omega)
  · simp only [if_neg h]; exact Ev.now _
theorem spec_Inv_ev (l : List Int) (hl : l.length ≤ 1048576) : Ev (fun k => spec_InverseOf.f k l) (invP l) := by
  unfold spec_InverseOf.f invP
  refine Ev.bind (spec_IsPerm_ev l hl) ?_
  by_cases h : isPerm l = true
  · simp only [if_pos h, if_pos (show 0 ≤ (l.length : Int) by omega), Int.toNat_natCast, if_pos (show l.length ≤ 35184372088832 by omega)]
    exact spec_inv_loop l h l.length 0 (by omega)
  · simp only [if_neg h]; exact Ev.now _
theorem invP_length (l : List Int) : (invP l).1.length ≤ 64 := by
  unfold invP
  by_cases h : isPerm l = true
  · rw [if_pos h]; have hl := ((isPerm_iff l).1 h).1; show (invL l).length ≤ 64; unfold invL; rw [invAt_length]; exact hl
  · rw [if_neg h]; decide
end Go.Proofs.Ytkidfehpikfahaa.M
