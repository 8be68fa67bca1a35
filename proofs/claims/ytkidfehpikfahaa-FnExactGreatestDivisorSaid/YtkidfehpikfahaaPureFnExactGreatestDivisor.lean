/- The program's GreatestDivisor returns what the reference's returns, for all arguments, without any condition. -/
import Derived.Test.YtkidfehpikfahaaXx1
import Derived.Test.YtkidfehpikfahaaMBase
import Derived.Test.YtkidfehpikfahaaMIn
import Derived.Test.YtkidfehpikfahaaMGcd
namespace Go.Proofs.Ytkidfehpikfahaa.Pure
set_option linter.unusedVariables false
set_option linter.unusedSimpArgs false
open Go.RowKit Go.Proofs.Ytkidfehpikfahaa.X Go.Proofs.YtkidfehpikfahaaW.PrintWords Go.Proofs.YtkidfehpikfahaaW.PrintLast Go.Proofs.YtkidfehpikfahaaW.PrintMore Go.Proofs.Ytkidfehpikfahaa.M
theorem FnExactGreatestDivisor : laws_FnExactGreatestDivisor.Pure := by
  intro a b _ _
  refine Ev.rounds (Ev.bind (spec_Gcd_ev a b) (Ev.bind (impl_Gcd_ev a b) ?_))
  simp only [if_true]; exact Ev.now _
end Go.Proofs.Ytkidfehpikfahaa.Pure
