/- The program's ChooseOf returns what the reference's returns, for all arguments, without any condition. -/
import Derived.Test.YtkidfehpikfahaaXx3
import Derived.Test.YtkidfehpikfahaaMBase
import Derived.Test.YtkidfehpikfahaaMIn
import Derived.Test.YtkidfehpikfahaaMChoose
namespace Go.Proofs.Ytkidfehpikfahaa.Pure
set_option linter.unusedVariables false
set_option linter.unusedSimpArgs false
open Go.RowKit Go.Proofs.Ytkidfehpikfahaa.X Go.Proofs.YtkidfehpikfahaaW.PrintWords Go.Proofs.YtkidfehpikfahaaW.PrintLast Go.Proofs.YtkidfehpikfahaaW.PrintMore Go.Proofs.Ytkidfehpikfahaa.M
theorem FnExactChooseOf : laws_FnExactChooseOf.Pure := by
  intro n k _ _
  refine Ev.rounds (Ev.bind (spec_Choose_ev n k) (Ev.bind (impl_Choose_ev n k) ?_))
  simp only [if_true]; exact Ev.now _
end Go.Proofs.Ytkidfehpikfahaa.Pure
