/- The inverse of the inverse is the permutation, with cycles of the same lengths: the law answers true for every code, without any condition. -/
import Derived.Test.YtkidfehpikfahaaXx16
import Derived.Test.YtkidfehpikfahaaXx5
import Derived.Test.YtkidfehpikfahaaMBase
import Derived.Test.YtkidfehpikfahaaMSrc
import Derived.Test.YtkidfehpikfahaaMIn
import Derived.Test.YtkidfehpikfahaaMInts
import Derived.Test.YtkidfehpikfahaaMPerm
import Derived.Test.YtkidfehpikfahaaMInv
import Derived.Test.YtkidfehpikfahaaMCyc
import Derived.Test.YtkidfehpikfahaaMGcd
import Derived.Test.YtkidfehpikfahaaMOrd
import Derived.Test.YtkidfehpikfahaaMPInv
import Derived.Test.YtkidfehpikfahaaMLike
import Derived.Test.YtkidfehpikfahaaMDrawP
namespace Go.Proofs.Ytkidfehpikfahaa.Pure
set_option linter.unusedVariables false
set_option linter.unusedSimpArgs false
open Go.RowKit Go.Proofs.Ytkidfehpikfahaa.X Go.Proofs.YtkidfehpikfahaaW.PrintWords Go.Proofs.YtkidfehpikfahaaW.PrintLast Go.Proofs.YtkidfehpikfahaaW.PrintMore Go.Proofs.Ytkidfehpikfahaa.M
theorem FnInverses : laws_FnInverses.Pure := by
  intro l _ hl hw
  have hb := bytes_of hw
  by_cases hbig : (l.length : Int) > 4096
  · refine ⟨0, ?_⟩
    unfold laws_FnInverses.f laws_big.f
    simp [hbig]
  obtain ⟨p, hd, hpl⟩ := drawInv_some hb (by omega)
  unfold laws_FnInverses.f laws_big.f
  simp only [Option.bind_some, decide_eq_false hbig]
  have hi := invP_length p
  have hcl := cycP_length p
  have j0 : Ev (fun k => laws_FnInverses.j0 k p (invP p).1 (invP p).2 (cycP p).1 false) true := by
    by_cases h : isPerm p = true
    · have e1 : invP p = (invL p, 0) := by unfold invP; rw [if_pos h]
      have e2 : cycP p = (cycL p, 0) := by unfold cycP; rw [if_pos h]
      have e3 : invP (invL p) = (p, 0) := by unfold invP; rw [if_pos (inv_perm h), inv_inv h]
      have e4 : cycP (invL p) = (cycL p, 0) := by unfold cycP; rw [if_pos (inv_perm h), cycL_inv h]
      rw [e1, e2]
      rw [e2] at hcl
      obtain ⟨K1, h1⟩ := impl_Inv_ev (invL p)
      obtain ⟨K2, h2⟩ := impl_Cyc_ev (invL p)
      rw [e3] at h1
      rw [e4] at h2
      obtain ⟨K3, h3⟩ := likeInts_ev p (by omega)
      obtain ⟨K4, h4⟩ := likeInts_ev (cycL p) (by simp only at hcl; omega)
      refine ⟨K1 + K2 + K3 + K4 + 1, fun n hn => ?_⟩
      obtain ⟨k, rfl⟩ : ∃ m, n = m + 1 := ⟨n - 1, by omega⟩
      simp only [laws_FnInverses.j0, h1 k (by omega), h2 k (by omega), h3 k (by omega), h4 k (by omega), Option.bind_some, if_true]
      rw [if_neg (by simp)]
    · have e1 : invP p = ([], 1) := by unfold invP; rw [if_neg h]
      rw [e1]
      refine ⟨1, fun n hn => ?_⟩
      obtain ⟨k, rfl⟩ : ∃ m, n = m + 1 := ⟨n - 1, by omega⟩
      simp only [laws_FnInverses.j0]
      rw [if_neg (by simp), if_neg (by omega)]
  refine Ev.rounds (Ev.bind hd (Ev.bind (impl_Inv_ev p) (Ev.bind (spec_Inv_ev p (by omega)) (Ev.bind (impl_Cyc_ev p) (Ev.bind (spec_Cyc_ev p (by omega)) ?_)))))
  simp only [if_true]
  refine Ev.bind (likeInts_ev (invP p).1 (by omega)) ?_
  simp only [if_true]
  exact Ev.bind (likeInts_ev (cycP p).1 (by omega)) j0
end Go.Proofs.Ytkidfehpikfahaa.Pure
