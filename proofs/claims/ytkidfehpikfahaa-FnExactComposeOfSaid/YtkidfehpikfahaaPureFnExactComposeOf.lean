/- The program's ComposeOf returns what the reference's returns, for all arguments, without any condition. -/
import Derived.Test.YtkidfehpikfahaaXx11
import Derived.Test.YtkidfehpikfahaaXx4
import Derived.Test.YtkidfehpikfahaaMBase
import Derived.Test.YtkidfehpikfahaaMIn
import Derived.Test.YtkidfehpikfahaaMInts
import Derived.Test.YtkidfehpikfahaaMPerm
import Derived.Test.YtkidfehpikfahaaMInv
import Derived.Test.YtkidfehpikfahaaMComp
namespace Go.Proofs.Ytkidfehpikfahaa.Pure
set_option linter.unusedVariables false
set_option linter.unusedSimpArgs false
open Go.RowKit Go.Proofs.Ytkidfehpikfahaa.X Go.Proofs.YtkidfehpikfahaaW.PrintWords Go.Proofs.YtkidfehpikfahaaW.PrintLast Go.Proofs.YtkidfehpikfahaaW.PrintMore Go.Proofs.Ytkidfehpikfahaa.M
theorem FnExactComposeOf : laws_FnExactComposeOf.Pure := by
  intro p q _ _ _ _ _ _
  unfold laws_FnExactComposeOf.f
  by_cases hb : (p.length : Int) > 1048576
  · exact ⟨0, by rw [if_pos hb]⟩
  by_cases hb2 : (q.length : Int) > 1048576
  · exact ⟨0, by rw [if_neg hb, if_pos hb2]⟩
  · simp only [if_neg hb, if_neg hb2]
    have hl : p.length ≤ 1048576 := by omega
    have hl2 : q.length ≤ 1048576 := by omega
    have hg := compP_length p q
    have hG : Ev (fun k => laws_eqInt64S.f k (compP p q).1 (compP p q).1) true := eqInt_ev _ (by omega)
    have j2 : Ev (fun k => laws_FnExactComposeOf.j2 k (marks 1 (compP p q).1.length) (1 + ((compP p q).1.length : Int)) false) true := by
      obtain ⟨K, h⟩ := heldInt_ev (compP p q).1.length (by omega)
      refine ⟨K + 1, fun n hn => ?_⟩
      obtain ⟨k, rfl⟩ : ∃ m, n = m + 1 := ⟨n - 1, by omega⟩
      simp only [laws_FnExactComposeOf.j2, h k (by omega), Option.bind_some]
      rw [if_neg (by simp), if_neg (by omega), if_pos trivial]
    have j1 : Ev (fun k => laws_FnExactComposeOf.j1 k p q (compP p q).1 (compP p q).2 (compP p q).1 false) true := by
      obtain ⟨K1, h1⟩ := markInt_ev (compP p q).1 1 (by omega) (by omega) (by omega)
      obtain ⟨K2, h2⟩ := heldInt_ev (compP p q).1.length (by omega)
      obtain ⟨K3, h3⟩ := toInt_ev p hl
      obtain ⟨K7, h7⟩ := toInt_ev q hl2
      obtain ⟨K4, h4⟩ := impl_Comp_ev p q
      obtain ⟨K5, h5⟩ := hG
      obtain ⟨K6, h6⟩ := j2
      refine ⟨K1 + K2 + K3 + K4 + K5 + K6 + K7 + 1, fun n hn => ?_⟩
      obtain ⟨k, rfl⟩ : ∃ m, n = m + 1 := ⟨n - 1, by omega⟩
      simp only [laws_FnExactComposeOf.j1, h1 k (by omega), h2 k (by omega), h3 k (by omega), h4 k (by omega), h5 k (by omega), h7 k (by omega), Option.bind_some, if_true, bne_self_eq_false]
      rw [if_neg (by simp), if_neg (by omega)]; exact h6 k (by omega)
    have j0 : Ev (fun k => laws_FnExactComposeOf.j0 k p q (compP p q).1 (compP p q).2 p q (compP p q).1 (compP p q).2 false) true := by
      obtain ⟨K1, h1⟩ := markInt_ev p 1 (by omega) (by omega) (by omega)
      obtain ⟨K8, h8⟩ := markInt_ev q (1 + (p.length : Int)) (by omega) (by omega) (by omega)
      obtain ⟨K2, h2⟩ := eqInt_ev p (by omega)
      obtain ⟨K9, h9⟩ := eqInt_ev q (by omega)
      obtain ⟨K3, h3⟩ := toInt_ev p hl
      obtain ⟨K7, h7⟩ := toInt_ev q hl2
      obtain ⟨K5, h5⟩ := hG
      obtain ⟨K6, h6⟩ := j1
      refine ⟨K1 + K2 + K3 + K5 + K6 + K7 + K8 + K9 + 1, fun n hn => ?_⟩
      obtain ⟨k, rfl⟩ : ∃ m, n = m + 1 := ⟨n - 1, by omega⟩
      simp only [laws_FnExactComposeOf.j0, h1 k (by omega), h2 k (by omega), h3 k (by omega), h5 k (by omega), h7 k (by omega), h8 k (by omega), h9 k (by omega), Option.bind_some, if_true, bne_self_eq_false]
      rw [if_neg (by simp), if_neg (by omega)]; exact h6 k (by omega)
    refine Ev.rounds (Ev.bind (toInt_ev p hl) (Ev.bind (toInt_ev q hl2) (Ev.bind (spec_Comp_ev p q hl hl2) (Ev.bind (toInt_ev p hl) (Ev.bind (toInt_ev q hl2) (Ev.bind (impl_Comp_ev p q) (Ev.bind hG ?_)))))))
    simp only [if_true, bne_self_eq_false]
    exact j0
end Go.Proofs.Ytkidfehpikfahaa.Pure
