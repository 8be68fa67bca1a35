/- Lemmas on the seat's printed functions: Gcd. -/
import Derived.Test.YtkidfehpikfahaaXx1
import Derived.Test.YtkidfehpikfahaaMBase
import Derived.Test.YtkidfehpikfahaaMIn
namespace Go.Proofs.Ytkidfehpikfahaa.M
set_option linter.unusedVariables false
set_option linter.unusedSimpArgs false
open Go.RowKit Go.Proofs.Ytkidfehpikfahaa.X Go.Proofs.YtkidfehpikfahaaW.PrintWords Go.Proofs.YtkidfehpikfahaaW.PrintLast Go.Proofs.YtkidfehpikfahaaW.PrintMore
theorem gcd_spec (b : Nat) : ∀ a : Nat, Ev (fun k => spec_l01Gcd.f k a b) (Nat.gcd a b : Nat) := by
  induction b using Nat.strongRecOn with
  | _ b ih =>
    intro a
    by_cases hb : b = 0
    · subst hb
      refine Ev.step (fun k => ?_) (Ev.now _)
      simp only [spec_l01Gcd.f]; rw [if_pos (by omega), Nat.gcd_zero_right]
    · have h := ih (a % b) (Nat.mod_lt _ (by omega)) b
      rw [Nat.gcd_comm b, ← Nat.gcd_rec, Nat.gcd_comm] at h
      refine Ev.step (f := fun k => (spec_l01Gcd.f k b (a % b : Nat)).bind fun t => some t) (fun k => ?_) (Ev.bind h (Ev.now _))
      simp only [spec_l01Gcd.f]; rw [if_neg (by omega), tmod_cast]
theorem gcd_impl (b : Nat) : ∀ a : Nat, Ev (fun k => impl_divisor.l0 k a b) (Nat.gcd a b : Nat) := by
  induction b using Nat.strongRecOn with
  | _ b ih =>
    intro a
    by_cases hb : b = 0
    · subst hb
      refine Ev.step (fun k => ?_) (Ev.now _)
      simp only [impl_divisor.l0]; rw [if_pos (by omega), Nat.gcd_zero_right]
    · have h := ih (a % b) (Nat.mod_lt _ (by omega)) b
      rw [Nat.gcd_comm b, ← Nat.gcd_rec, Nat.gcd_comm] at h
      refine Ev.step (fun k => ?_) h
      simp only [impl_divisor.l0]; rw [if_neg (by omega), tmod_cast]
def gcdP (a b : Int) : Int × Int := if (0 ≤ a ∧ a ≤ 1000000000) ∧ (0 ≤ b ∧ b ≤ 1000000000) then ((Nat.gcd a.toNat b.toNat : Nat), 0) else (0, 2)
theorem spec_Gcd_ev (a b : Int) : Ev (fun k => spec_GreatestDivisor.f k a b) (gcdP a b) := by
  simp only [spec_GreatestDivisor.f, l01In_eq, Option.bind_some]
  unfold gcdP
  by_cases h : 0 ≤ a ∧ a ≤ 1000000000
  · by_cases h' : 0 ≤ b ∧ b ≤ 1000000000
    · obtain ⟨a, rfl⟩ := Int.eq_ofNat_of_zero_le h.1
      obtain ⟨b, rfl⟩ := Int.eq_ofNat_of_zero_le h'.1
      simp only [decide_eq_true h, decide_eq_true h', if_true, if_pos (And.intro h h'), Int.toNat_natCast]
      exact Ev.bind (gcd_spec b a) (Ev.now _)
    · simp only [decide_eq_true h, decide_eq_false h', if_true, if_neg (fun z : _ ∧ _ => h' z.2)]
      exact Ev.now _
  · simp only [decide_eq_false h, if_neg (fun z : _ ∧ _ => h z.1)]
    exact Ev.now _
theorem impl_Gcd_ev (a b : Int) : Ev (fun k => impl_GreatestDivisor.f k a b) (gcdP a b) := by
  simp only [impl_GreatestDivisor.f, within_eq, Option.bind_some, impl_divisor.f]
  unfold gcdP
  by_cases h : 0 ≤ a ∧ a ≤ 1000000000
  · by_cases h' : 0 ≤ b ∧ b ≤ 1000000000
    · obtain ⟨a, rfl⟩ := Int.eq_ofNat_of_zero_le h.1
      obtain ⟨b, rfl⟩ := Int.eq_ofNat_of_zero_le h'.1
      simp only [decide_eq_true h, decide_eq_true h', if_true, if_pos (And.intro h h'), Int.toNat_natCast]
      exact Ev.bind (gcd_impl b a) (Ev.now _)
    · simp only [decide_eq_true h, decide_eq_false h', if_true, if_neg (fun z : _ ∧ _ => h' z.2)]
      exact Ev.now _
  · simp only [decide_eq_false h, if_neg (fun z : _ ∧ _ => h z.1)]
    exact Ev.now _
end Go.Proofs.Ytkidfehpikfahaa.M
