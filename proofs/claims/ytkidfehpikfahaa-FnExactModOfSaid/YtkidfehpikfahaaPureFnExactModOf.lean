/- The program's ModOf returns what the reference's returns, for all arguments, without any condition. -/
import Derived.Test.YtkidfehpikfahaaXx1
import Derived.Test.YtkidfehpikfahaaMBase
import Derived.Test.YtkidfehpikfahaaMIn
import Derived.Test.YtkidfehpikfahaaMMod
namespace Go.Proofs.Ytkidfehpikfahaa.Pure
set_option linter.unusedVariables false
set_option linter.unusedSimpArgs false
open Go.RowKit Go.Proofs.Ytkidfehpikfahaa.X Go.Proofs.YtkidfehpikfahaaW.PrintWords Go.Proofs.YtkidfehpikfahaaW.PrintLast Go.Proofs.YtkidfehpikfahaaW.PrintMore Go.Proofs.Ytkidfehpikfahaa.M
theorem FnExactModOf : laws_FnExactModOf.Pure := by
  intro a m _ _
  unfold laws_FnExactModOf.f
  rw [impl_Mod_eq, spec_Mod_eq]
  simp
end Go.Proofs.Ytkidfehpikfahaa.Pure
