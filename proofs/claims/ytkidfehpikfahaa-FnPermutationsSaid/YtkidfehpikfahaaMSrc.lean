/- Lemmas on the seat's printed functions: Src. -/
import Derived.Test.YtkidfehpikfahaaXx5
import Derived.Test.YtkidfehpikfahaaMBase
namespace Go.Proofs.Ytkidfehpikfahaa.M
set_option linter.unusedVariables false
set_option linter.unusedSimpArgs false
open Go.RowKit Go.Proofs.Ytkidfehpikfahaa.X Go.Proofs.YtkidfehpikfahaaW.PrintWords Go.Proofs.YtkidfehpikfahaaW.PrintLast Go.Proofs.YtkidfehpikfahaaW.PrintMore
/-- a source of draws whose numbers are in range -/
structure Src (c : List Int) (i s : Int) : Prop where
  bytes : ∀ x ∈ c, 0 ≤ x ∧ x ≤ 255
  lo : 0 ≤ i
  hi : i ≤ c.length
  len : c.length ≤ 140737488355328
  s0 : 0 ≤ s
  s1 : s < 2147483647
theorem next_some {c : List Int} {i s : Int} (h : Src c i s) (n : Int) (_ : n ≤ 9223372036854775807) : ∃ r i' s', spec_l01Next.f c i s n = some (r, i', s') ∧ Src c i' s' ∧ 0 ≤ r ∧ (1 ≤ n → r < n) ∧ (n ≤ 1 → r = 0) := by
  obtain ⟨hb, hlo, hhi, hlen, h0, h1⟩ := h
  have hr := rd_byte hb i
  unfold spec_l01Next.f
  by_cases c1 : n ≤ 1
  · rw [if_pos c1]; exact ⟨0, i, s, rfl, ⟨hb, hlo, hhi, hlen, h0, h1⟩, by omega, by omega, fun _ => rfl⟩
  · rw [if_neg c1, if_pos (by omega)]
    have s0 := Int.emod_nonneg (s * 48271 + 29) (show (2147483647 : Int) ≠ 0 by omega)
    have s1 := Int.emod_lt_of_pos (s * 48271 + 29) (show (0 : Int) < 2147483647 by omega)
    generalize (s * 48271 + 29) % 2147483647 = s' at s0 s1 ⊢
    have fin : ∀ x : Int, 0 ≤ x % n ∧ (1 ≤ n → x % n < n) ∧ (n ≤ 1 → x % n = 0) := fun x => ⟨Int.emod_nonneg _ (by omega), fun _ => Int.emod_lt_of_pos _ (by omega), fun z => by omega⟩
    by_cases c2 : i < (c.length : Int)
    · rw [if_pos c2]
      have hS : Src c (i + 1) s' := ⟨hb, by omega, by omega, hlen, s0, s1⟩
      split
      · exact ⟨_, _, _, rfl, hS, fin _⟩
      · exact ⟨_, _, _, rfl, hS, fin _⟩
    · rw [if_neg c2]
      exact ⟨_, _, _, rfl, ⟨hb, hlo, hhi, hlen, s0, s1⟩, fin _⟩
theorem from_loop {c : List Int} (hb : ∀ x ∈ c, 0 ≤ x ∧ x ≤ 255) (hl : c.length ≤ 140737488355328) : ∀ d : Nat, ∀ i s : Int, 0 ≤ i → (c.length : Int) - i ≤ d → i ≤ c.length → 0 ≤ s → s < 2147483647 →
    ∃ s', Ev (fun k => spec_l01From.l0 k c i c 0 s) (c, 0, s') ∧ Src c 0 s' := by
  intro d
  induction d with
  | zero =>
    intro i s h0 h1 h2 h3 h4
    refine ⟨s, Ev.step (fun k => ?_) (Ev.now _), ⟨hb, by omega, by omega, hl, h3, h4⟩⟩
    simp only [spec_l01From.l0]; rw [if_neg (by omega)]
  | succ d ih =>
    intro i s h0 h1 h2 h3 h4
    by_cases hc : i < (c.length : Int) ∧ i < 64
    · have hr := rd_byte hb i
      have ht := tmod_pos (a := s * 47 + rd c i) (n := 2147483647) (by omega) (by omega)
      obtain ⟨s', he, hs⟩ := ih (i + 1) (Int.tmod (s * 47 + rd c i) 2147483647) (by omega) (by omega) (by omega) ht.1 ht.2
      refine ⟨s', Ev.step (fun k => ?_) he, hs⟩
      simp only [spec_l01From.l0]; rw [if_pos hc.1, if_pos hc.2, if_pos h0, w64 (x := i + 1) (by omega) (by omega), w64 (x := s * 47) (by omega) (by omega), w64 (x := rd c i) (by omega) (by omega), w64 (by omega) (by omega)]
    · refine ⟨s, Ev.step (fun k => ?_) (Ev.now _), ⟨hb, by omega, by omega, hl, h3, h4⟩⟩
      simp only [spec_l01From.l0]
      by_cases hc1 : i < (c.length : Int)
      · rw [if_pos hc1, if_neg (by omega)]
      · rw [if_neg hc1]
theorem from_some {c : List Int} (hb : ∀ x ∈ c, 0 ≤ x ∧ x ≤ 255) (hl : c.length ≤ 140737488355328) : ∃ s', Ev (fun k => spec_l01From.f k c) (c, 0, s') ∧ Src c 0 s' := by
  exact from_loop hb hl c.length 0 61003 (by omega) (by omega) (by omega) (by omega) (by omega)
end Go.Proofs.Ytkidfehpikfahaa.M
