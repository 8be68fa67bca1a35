/- The program's IsPermutation returns what the reference's returns, for all arguments, without any condition. -/
import Derived.Test.YtkidfehpikfahaaXx5
import Derived.Test.YtkidfehpikfahaaMBase
import Derived.Test.YtkidfehpikfahaaMIn
import Derived.Test.YtkidfehpikfahaaMInts
import Derived.Test.YtkidfehpikfahaaMPerm
namespace Go.Proofs.Ytkidfehpikfahaa.Pure
set_option linter.unusedVariables false
set_option linter.unusedSimpArgs false
open Go.RowKit Go.Proofs.Ytkidfehpikfahaa.X Go.Proofs.YtkidfehpikfahaaW.PrintWords Go.Proofs.YtkidfehpikfahaaW.PrintLast Go.Proofs.YtkidfehpikfahaaW.PrintMore Go.Proofs.Ytkidfehpikfahaa.M
theorem FnExactIsPermutation : laws_FnExactIsPermutation.Pure := by
  intro l _ _ _
  unfold laws_FnExactIsPermutation.f
  by_cases hb : (l.length : Int) > 1048576
  · exact ⟨0, by rw [if_pos hb]⟩
  · simp only [if_neg hb]
    have hl : l.length ≤ 1048576 := by omega
    refine Ev.rounds (Ev.bind (toInt_ev l hl) (Ev.bind (spec_IsPerm_ev l hl) (Ev.bind (toInt_ev l hl) ?_)))
    simp only [impl_IsPerm_eq, Option.bind_some, bne_self_eq_false]
    exact Ev.bind (toInt_ev l hl) (Ev.bind (eqInt_ev l (by omega)) (Ev.now _))
end Go.Proofs.Ytkidfehpikfahaa.Pure
