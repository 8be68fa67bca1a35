/- Lemmas on the seat's printed functions: Mod. -/
import Derived.Test.YtkidfehpikfahaaXx1
import Derived.Test.YtkidfehpikfahaaMBase
import Derived.Test.YtkidfehpikfahaaMIn
namespace Go.Proofs.Ytkidfehpikfahaa.M
set_option linter.unusedVariables false
set_option linter.unusedSimpArgs false
open Go.RowKit Go.Proofs.Ytkidfehpikfahaa.X Go.Proofs.YtkidfehpikfahaaW.PrintWords Go.Proofs.YtkidfehpikfahaaW.PrintLast Go.Proofs.YtkidfehpikfahaaW.PrintMore
def modP (a m : Int) : Int × Int := if (-1000000000 ≤ a ∧ a ≤ 1000000000) ∧ (1 ≤ m ∧ m ≤ 1000000000) then (a % m, 0) else (0, 2)
theorem tmod_shift {a m : Int} (hm : 0 < m) : Int.tmod (Int.tmod a m + m) m = a % m := by
  have h0 : 0 ≤ Int.tmod a m + m := by have := Int.lt_tmod_of_pos a hm; omega
  rw [Int.tmod_eq_emod_of_nonneg h0]
  by_cases ha : 0 ≤ a
  · rw [Int.tmod_eq_emod_of_nonneg ha]; simp
  · rw [Int.tmod_eq_emod]
    split
    · simp
    · rw [show a % m - ↑m.natAbs + m = a % m from by omega]; simp
theorem spec_Mod_eq (a m : Int) : spec_ModOf.f a m = some (modP a m) := by
  simp only [spec_ModOf.f, l01In_eq, Option.bind_some]
  unfold modP
  by_cases h : -1000000000 ≤ a ∧ a ≤ 1000000000
  · by_cases h' : 1 ≤ m ∧ m ≤ 1000000000
    · simp only [decide_eq_true h, decide_eq_true h', if_true, if_pos (And.intro h h')]
      unfold spec_l01Mod.f
      have hb := Int.lt_tmod_of_pos a (show 0 < m by omega)
      have hc := Int.tmod_lt_of_pos a (show 0 < m by omega)
      rw [if_neg (by omega), w64 (by omega) (by omega), tmod_shift (by omega)]; rfl
    · simp only [decide_eq_true h, decide_eq_false h', if_true, if_neg (fun z : _ ∧ _ => h' z.2)]
      rfl
  · simp only [decide_eq_false h, if_neg (fun z : _ ∧ _ => h z.1)]
    rfl
theorem impl_Mod_eq (a m : Int) : impl_ModOf.f a m = some (modP a m) := spec_Mod_eq a m
end Go.Proofs.Ytkidfehpikfahaa.M
