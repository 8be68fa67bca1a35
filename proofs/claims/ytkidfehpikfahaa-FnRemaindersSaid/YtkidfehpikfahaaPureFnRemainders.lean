/- Remainders differ from numbers by multiples, and divisors divide: the law answers true for every code, without any condition. -/
import Derived.Test.YtkidfehpikfahaaXx5
import Derived.Test.YtkidfehpikfahaaXx8
import Derived.Test.YtkidfehpikfahaaXx9
import Derived.Test.YtkidfehpikfahaaMBase
import Derived.Test.YtkidfehpikfahaaMSrc
import Derived.Test.YtkidfehpikfahaaMIn
import Derived.Test.YtkidfehpikfahaaMGcd
import Derived.Test.YtkidfehpikfahaaMMod
namespace Go.Proofs.Ytkidfehpikfahaa.Pure
set_option linter.unusedVariables false
set_option linter.unusedSimpArgs false
open Go.RowKit Go.Proofs.Ytkidfehpikfahaa.X Go.Proofs.YtkidfehpikfahaaW.PrintWords Go.Proofs.YtkidfehpikfahaaW.PrintLast Go.Proofs.YtkidfehpikfahaaW.PrintMore Go.Proofs.Ytkidfehpikfahaa.M
theorem drawNumber_some {c : List Int} {i s : Int} (h : Src c i s) : ∃ r i' s', spec_l01DrawNumber.f c i s = some (r, i', s') ∧ Src c i' s' := by
  unfold spec_l01DrawNumber.f
  obtain ⟨r, i1, s1, e1, h1, _⟩ := next_some h 8 (by omega)
  simp only [e1, Option.bind_some]
  by_cases hr : r = 0
  · rw [if_pos hr]
    obtain ⟨q, i2, s2, e2, h2, hq0, hq1, _⟩ := next_some h1 6 (by omega)
    have := hq1 (by omega)
    simp only [e2, Option.bind_some]
    rw [if_pos hq0, if_pos (by simpa using this)]
    exact ⟨_, _, _, rfl, h2⟩
  · rw [if_neg hr]
    obtain ⟨q, i2, s2, e2, h2, _⟩ := next_some h1 500 (by omega)
    simp only [e2, Option.bind_some]
    exact ⟨_, _, _, rfl, h2⟩
theorem drawMod_some {c : List Int} (hb : ∀ x ∈ c, 0 ≤ x ∧ x ≤ 255) (hl : c.length ≤ 140737488355328) : ∃ r, Ev (fun k => spec_DrawModOf.f k c) r := by
  obtain ⟨s, e, h⟩ := from_some hb hl
  obtain ⟨r1, i1, s1, e1, h1⟩ := drawNumber_some h
  obtain ⟨r2, i2, s2, e2, h2, _⟩ := next_some h1 2 (by omega)
  obtain ⟨r3, i3, s3, e3, h3⟩ := drawNumber_some h2
  unfold spec_DrawModOf.f
  by_cases hr : r2 = 0
  · exact ⟨_, Ev.bind e (by simp only [e1, Option.bind_some, e2, e3, hr, if_true]; exact Ev.now _)⟩
  · exact ⟨_, Ev.bind e (by simp only [e1, Option.bind_some, e2, e3, hr, if_false]; exact Ev.now _)⟩
theorem drawGcd_some {c : List Int} (hb : ∀ x ∈ c, 0 ≤ x ∧ x ≤ 255) (hl : c.length ≤ 140737488355328) : ∃ r, Ev (fun k => spec_DrawGreatestDivisor.f k c) r := by
  obtain ⟨s, e, h⟩ := from_some hb hl
  obtain ⟨r1, i1, s1, e1, h1⟩ := drawNumber_some h
  obtain ⟨r3, i3, s3, e3, h3⟩ := drawNumber_some h1
  unfold spec_DrawGreatestDivisor.f
  exact ⟨_, Ev.bind e (by simp only [e1, Option.bind_some, e3]; exact Ev.now _)⟩
theorem gcd_one {a b : Nat} (h : 0 < Nat.gcd a b) : Nat.gcd (a / Nat.gcd a b) (b / Nat.gcd a b) = 1 := by
  rw [Nat.gcd_div (Nat.gcd_dvd_left a b) (Nat.gcd_dvd_right a b), Nat.div_self h]
theorem rem_j1 (a m c d : Int) (g : Int) (e : Int) (hg : gcdP c d = (g, e)) (b : Bool) (hb : b = true → e = 0 ∧ g > 0) :
    Ev (fun k => laws_FnRemainders.j1 k a m (modP a m).1 (modP a m).2 c d g b) true := by
  have tail : (if (modP a m).2 = 0 then (if m = 0 then (none) else (if (Int.tmod (wrap64 (a - (modP a m).1)) m) = 0 then (if (modP a m).1 ≥ 0 then (some (decide ((modP a m).1 < m))) else (some false)) else (some false))) else (some true)) = some true := by
    unfold modP
    by_cases h : (-1000000000 ≤ a ∧ a ≤ 1000000000) ∧ (1 ≤ m ∧ m ≤ 1000000000)
    · rw [if_pos h]
      have e0 := Int.emod_nonneg a (show m ≠ 0 by omega)
      have e1 := Int.emod_lt_of_pos a (show 0 < m by omega)
      simp only [if_true]
      rw [if_neg (by omega), w64 (by omega) (by omega)]
      have hd : (a - a % m).tmod m = 0 := by
        apply Int.tmod_eq_zero_of_dvd
        exact Int.dvd_self_sub_emod
      rw [if_pos hd, if_pos e0]; simp [e1]
    · rw [if_neg h]; rfl
  by_cases hbt : b = true
  · obtain ⟨he, hg0⟩ := hb hbt
    subst hbt he
    have hcd : (0 ≤ c ∧ c ≤ 1000000000) ∧ (0 ≤ d ∧ d ≤ 1000000000) := by
      unfold gcdP at hg
      by_cases h : (0 ≤ c ∧ c ≤ 1000000000) ∧ (0 ≤ d ∧ d ≤ 1000000000)
      · exact h
      · rw [if_neg h] at hg; simp at hg
    obtain ⟨c, rfl⟩ := Int.eq_ofNat_of_zero_le hcd.1.1
    obtain ⟨d, rfl⟩ := Int.eq_ofNat_of_zero_le hcd.2.1
    have hgd : g = (Nat.gcd c d : Nat) := by
      unfold gcdP at hg; rw [if_pos hcd] at hg; simp only [Int.toNat_natCast, Prod.mk.injEq] at hg; exact hg.1.symm
    subst hgd
    have hpos : 0 < Nat.gcd c d := by omega
    have q1 : c / Nat.gcd c d ≤ c := Nat.div_le_self _ _
    have q2 : d / Nat.gcd c d ≤ d := Nat.div_le_self _ _
    have t1 : Int.tdiv (c : Int) (Nat.gcd c d : Nat) = ((c / Nat.gcd c d : Nat) : Int) := by rw [Int.tdiv_eq_ediv_of_nonneg (by omega)]; rfl
    have t2 : Int.tdiv (d : Int) (Nat.gcd c d : Nat) = ((d / Nat.gcd c d : Nat) : Int) := by rw [Int.tdiv_eq_ediv_of_nonneg (by omega)]; rfl
    have m1 : Int.tmod (c : Int) (Nat.gcd c d : Nat) = 0 := by rw [tmod_cast, Nat.mod_eq_zero_of_dvd (Nat.gcd_dvd_left c d)]; rfl
    have m2 : Int.tmod (d : Int) (Nat.gcd c d : Nat) = 0 := by rw [tmod_cast, Nat.mod_eq_zero_of_dvd (Nat.gcd_dvd_right c d)]; rfl
    have ho := gcd_one hpos
    generalize c / Nat.gcd c d = A at q1 t1 ho
    generalize d / Nat.gcd c d = B at q2 t2 ho
    have hY : gcdP (A : Int) (B : Int) = (1, 0) := by
      unfold gcdP
      rw [if_pos (by omega), Int.toNat_natCast, Int.toNat_natCast, ho]; rfl
    have w1 : wrap64 (A : Int) = A := w64 (by omega) (by omega)
    have w2 : wrap64 (B : Int) = B := w64 (by omega) (by omega)
    have hE := impl_Gcd_ev (A : Int) (B : Int)
    rw [hY] at hE
    obtain ⟨K, hE⟩ := hE
    refine ⟨K + 1, fun n hn => ?_⟩
    obtain ⟨k, rfl⟩ : ∃ k, n = k + 1 := ⟨n - 1, by omega⟩
    have hE := hE k (by omega)
    simp only [laws_FnRemainders.j1]
    have hne : ¬ ((Nat.gcd c d : Nat) : Int) = 0 := by omega
    simp only [if_true, if_neg hne, t1, t2, w1, w2, hE, m1, m2, Option.bind_some]
    exact tail
  · refine Ev.step (fun k => ?_) (Ev.now _)
    simp only [laws_FnRemainders.j1]
    rw [if_neg hbt]; exact tail

theorem FnRemainders : laws_FnRemainders.Pure := by
  intro l _ hl hw
  have hb := bytes_of hw
  by_cases hbig : (l.length : Int) > 4096
  · refine ⟨0, ?_⟩
    unfold laws_FnRemainders.f laws_big.f
    simp [hbig]
  obtain ⟨⟨a, m⟩, K1, h1⟩ := drawMod_some hb (by omega)
  obtain ⟨⟨c, d⟩, K2, h2⟩ := drawGcd_some hb (by omega)
  obtain ⟨K3, h3⟩ := impl_Gcd_ev c d
  obtain ⟨K4, h4⟩ := spec_Gcd_ev c d
  obtain ⟨K5, h5⟩ := rem_j1 a m c d (gcdP c d).1 (gcdP c d).2 rfl (decide ((gcdP c d).2 = 0) && decide ((gcdP c d).1 > 0)) (by simp)
  refine ⟨K1 + K2 + K3 + K4 + K5 + 1, ?_⟩
  have h1 := h1 (K1 + K2 + K3 + K4 + K5 + 1) (by omega)
  have h2 := h2 (K1 + K2 + K3 + K4 + K5 + 1) (by omega)
  have h3 := h3 (K1 + K2 + K3 + K4 + K5 + 1) (by omega)
  have h4 := h4 (K1 + K2 + K3 + K4 + K5 + 1) (by omega)
  have h5 := h5 (K1 + K2 + K3 + K4 + K5) (by omega)
  unfold laws_FnRemainders.f laws_big.f
  simp only [Option.bind_some, decide_eq_false hbig, h1, h2, h3, h4, spec_Mod_eq, impl_Mod_eq, if_true, bne_self_eq_false, laws_FnRemainders.j0]
  by_cases hz : (gcdP c d).2 = 0
  · simpa [hz] using h5
  · simpa [hz] using h5
end Go.Proofs.Ytkidfehpikfahaa.Pure
