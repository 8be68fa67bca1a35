/- The program's CycleLengths returns what the reference's returns, for all arguments, without any condition. -/
import Derived.Test.YtkidfehpikfahaaXx13
import Derived.Test.YtkidfehpikfahaaXx4
import Derived.Test.YtkidfehpikfahaaMBase
import Derived.Test.YtkidfehpikfahaaMIn
import Derived.Test.YtkidfehpikfahaaMInts
import Derived.Test.YtkidfehpikfahaaMPerm
import Derived.Test.YtkidfehpikfahaaMInv
import Derived.Test.YtkidfehpikfahaaMCyc
namespace Go.Proofs.Ytkidfehpikfahaa.Pure
set_option linter.unusedVariables false
set_option linter.unusedSimpArgs false
open Go.RowKit Go.Proofs.Ytkidfehpikfahaa.X Go.Proofs.YtkidfehpikfahaaW.PrintWords Go.Proofs.YtkidfehpikfahaaW.PrintLast Go.Proofs.YtkidfehpikfahaaW.PrintMore Go.Proofs.Ytkidfehpikfahaa.M
theorem FnExactCycleLengths : laws_FnExactCycleLengths.Pure := by
  intro l _ _ _
  unfold laws_FnExactCycleLengths.f
  by_cases hb : (l.length : Int) > 1048576
  · exact ⟨0, by rw [if_pos hb]⟩
  · simp only [if_neg hb]
    have hl : l.length ≤ 1048576 := by omega
    have hg := cycP_length l
    have hG : Ev (fun k => laws_eqInt64S.f k (cycP l).1 (cycP l).1) true := eqInt_ev _ (by omega)
    have j2 : Ev (fun k => laws_FnExactCycleLengths.j2 k (marks 1 (cycP l).1.length) (1 + ((cycP l).1.length : Int)) false) true := by
      obtain ⟨K, h⟩ := heldInt_ev (cycP l).1.length (by omega)
      refine ⟨K + 1, fun n hn => ?_⟩
      obtain ⟨k, rfl⟩ : ∃ m, n = m + 1 := ⟨n - 1, by omega⟩
      simp only [laws_FnExactCycleLengths.j2, h k (by omega), Option.bind_some]
      rw [if_neg (by simp), if_neg (by omega), if_pos trivial]
    have j1 : Ev (fun k => laws_FnExactCycleLengths.j1 k l (cycP l).1 (cycP l).2 (cycP l).1 false) true := by
      obtain ⟨K1, h1⟩ := markInt_ev (cycP l).1 1 (by omega) (by omega) (by omega)
      obtain ⟨K2, h2⟩ := heldInt_ev (cycP l).1.length (by omega)
      obtain ⟨K3, h3⟩ := toInt_ev l hl
      obtain ⟨K4, h4⟩ := impl_Cyc_ev l
      obtain ⟨K5, h5⟩ := hG
      obtain ⟨K6, h6⟩ := j2
      refine ⟨K1 + K2 + K3 + K4 + K5 + K6 + 1, fun n hn => ?_⟩
      obtain ⟨k, rfl⟩ : ∃ m, n = m + 1 := ⟨n - 1, by omega⟩
      simp only [laws_FnExactCycleLengths.j1, h1 k (by omega), h2 k (by omega), h3 k (by omega), h4 k (by omega), h5 k (by omega), Option.bind_some, if_true, bne_self_eq_false]
      rw [if_neg (by simp), if_neg (by omega)]; exact h6 k (by omega)
    have j0 : Ev (fun k => laws_FnExactCycleLengths.j0 k l (cycP l).1 (cycP l).2 l (cycP l).1 (cycP l).2 false) true := by
      obtain ⟨K1, h1⟩ := markInt_ev l 1 (by omega) (by omega) (by omega)
      obtain ⟨K2, h2⟩ := eqInt_ev l (by omega)
      obtain ⟨K3, h3⟩ := toInt_ev l hl
      obtain ⟨K5, h5⟩ := hG
      obtain ⟨K6, h6⟩ := j1
      refine ⟨K1 + K2 + K3 + K5 + K6 + 1, fun n hn => ?_⟩
      obtain ⟨k, rfl⟩ : ∃ m, n = m + 1 := ⟨n - 1, by omega⟩
      simp only [laws_FnExactCycleLengths.j0, h1 k (by omega), h2 k (by omega), h3 k (by omega), h5 k (by omega), Option.bind_some, if_true, bne_self_eq_false]
      rw [if_neg (by simp), if_neg (by omega)]; exact h6 k (by omega)
    refine Ev.rounds (Ev.bind (toInt_ev l hl) (Ev.bind (spec_Cyc_ev l hl) (Ev.bind (toInt_ev l hl) (Ev.bind (impl_Cyc_ev l) (Ev.bind hG ?_)))))
    simp only [if_true, bne_self_eq_false]
    exact j0
end Go.Proofs.Ytkidfehpikfahaa.Pure
