/- The program's OrderOf returns what the reference's returns, for all arguments, without any condition. -/
import Derived.Test.YtkidfehpikfahaaXx14
import Derived.Test.YtkidfehpikfahaaMBase
import Derived.Test.YtkidfehpikfahaaMIn
import Derived.Test.YtkidfehpikfahaaMInts
import Derived.Test.YtkidfehpikfahaaMPerm
import Derived.Test.YtkidfehpikfahaaMInv
import Derived.Test.YtkidfehpikfahaaMCyc
import Derived.Test.YtkidfehpikfahaaMGcd
import Derived.Test.YtkidfehpikfahaaMOrd
namespace Go.Proofs.Ytkidfehpikfahaa.Pure
set_option linter.unusedVariables false
set_option linter.unusedSimpArgs false
open Go.RowKit Go.Proofs.Ytkidfehpikfahaa.X Go.Proofs.YtkidfehpikfahaaW.PrintWords Go.Proofs.YtkidfehpikfahaaW.PrintLast Go.Proofs.YtkidfehpikfahaaW.PrintMore Go.Proofs.Ytkidfehpikfahaa.M
theorem FnExactOrderOf : laws_FnExactOrderOf.Pure := by
  intro l _ _ _
  unfold laws_FnExactOrderOf.f
  by_cases hb : (l.length : Int) > 1048576
  · exact ⟨0, by rw [if_pos hb]⟩
  · simp only [if_neg hb]
    have hl : l.length ≤ 1048576 := by omega
    have j0 : Ev (fun k => laws_FnExactOrderOf.j0 k l l false) true := by
      obtain ⟨K2, h2⟩ := eqInt_ev l (by omega)
      obtain ⟨K3, h3⟩ := toInt_ev l hl
      refine ⟨K2 + K3 + 1, fun n hn => ?_⟩
      obtain ⟨k, rfl⟩ : ∃ m, n = m + 1 := ⟨n - 1, by omega⟩
      simp only [laws_FnExactOrderOf.j0, h2 k (by omega), h3 k (by omega), Option.bind_some, if_true]
      rw [if_neg (by simp)]
    refine Ev.rounds (Ev.bind (toInt_ev l hl) (Ev.bind (spec_Ord_ev l hl) (Ev.bind (toInt_ev l hl) (Ev.bind (impl_Ord_ev l) ?_))))
    simp only [if_true, bne_self_eq_false]
    exact j0
end Go.Proofs.Ytkidfehpikfahaa.Pure
