/- The program's InverseTurn returns what the reference's returns, for all arguments, without any condition. -/
import Derived.Test.YtbfmocohknadkaaXx12
import Derived.Test.YtbfmocohknadkaaXx2
import Derived.Test.YtbfmocohknadkaaXx3
namespace Go.Proofs.Ytbfmocohknadkaa.Pure
set_option linter.unusedVariables false
set_option linter.unusedSimpArgs false
open Go.RowKit Go.Proofs.Ytbfmocohknadkaa.X Go.Proofs.YtbfmocohknadkaaW.PrintWords Go.Proofs.YtbfmocohknadkaaW.PrintLast Go.Proofs.YtbfmocohknadkaaW.PrintMore
theorem isTurn_s (a : Int) : spec_l03Is.f a = some (decide (0 ≤ a ∧ a ≤ 7)) := by
  unfold spec_l03Is.f spec_l01In.f
  by_cases h : a ≥ 0 <;> simp [h]
theorem isTurn_i (a : Int) : impl_isTurn.f a = some (decide (0 ≤ a ∧ a ≤ 7)) := by
  unfold impl_isTurn.f impl_within.f
  by_cases h : a ≥ 0 <;> simp [h]
theorem FnExactInverseTurn : laws_FnExactInverseTurn.Pure := by
  intro a _
  by_cases ha : 0 ≤ a ∧ a ≤ 7
  · refine ⟨90, ?_⟩
    obtain ⟨n, rfl⟩ := Int.eq_ofNat_of_zero_le ha.1
    have key : ∀ n : Fin 8, laws_FnExactInverseTurn.f 90 ((n.val : Nat) : Int) = some true := by decide +kernel
    exact key ⟨n, by omega⟩
  · refine ⟨0, ?_⟩
    simp [laws_FnExactInverseTurn.f, spec_InverseTurn.f, impl_InverseTurn.f, isTurn_s, isTurn_i, ha]
end Go.Proofs.Ytbfmocohknadkaa.Pure
