/- Numbers of sets add up row by row, and are the same for the sets of the others: the law answers true for every code, without any condition. -/
import Derived.Test.YtkidfehpikfahaaXx5
import Derived.Test.YtkidfehpikfahaaXx6
import Derived.Test.YtkidfehpikfahaaMBase
import Derived.Test.YtkidfehpikfahaaMSrc
import Derived.Test.YtkidfehpikfahaaMIn
import Derived.Test.YtkidfehpikfahaaMChoose
namespace Go.Proofs.Ytkidfehpikfahaa.Pure
set_option linter.unusedVariables false
set_option linter.unusedSimpArgs false
open Go.RowKit Go.Proofs.Ytkidfehpikfahaa.X Go.Proofs.YtkidfehpikfahaaW.PrintWords Go.Proofs.YtkidfehpikfahaaW.PrintLast Go.Proofs.YtkidfehpikfahaaW.PrintMore Go.Proofs.Ytkidfehpikfahaa.M
theorem drawChoose_some {c : List Int} (hb : ∀ x ∈ c, 0 ≤ x ∧ x ≤ 255) (hl : c.length ≤ 140737488355328) : ∃ r, Ev (fun k => spec_DrawChooseOf.f k c) r := by
  obtain ⟨s, e, h⟩ := from_some hb hl
  obtain ⟨r1, i1, s1, e1, h1, _⟩ := next_some h 20 (by omega)
  obtain ⟨r2, i2, s2, e2, h2, _⟩ := next_some h1 40 (by omega)
  obtain ⟨r3, i3, s3, e3, h3, p0, p1, _⟩ := next_some h2 5 (by omega)
  have p1 := p1 (by omega)
  obtain ⟨r4, i4, s4, e4, h4, _⟩ := next_some h3 (mx 1 (wrap64 (rd [r1, r2, 64, 65, -1] r3 + 2))) (by have := w64_hi (rd [r1, r2, 64, 65, -1] r3 + 2); unfold mx; split <;> omega)
  obtain ⟨r5, i5, s5, e5, h5, _⟩ := next_some h4 20 (by omega)
  unfold spec_DrawChooseOf.f
  refine ⟨(rd [r1, r2, 64, 65, -1] r3, wrap64 (r4 - wrap64 (Int.tdiv r5 19))), Ev.bind e ?_⟩
  simp only [e1, Option.bind_some, e2, e3]
  have hq : r3 < (([r1, r2, 64, 65, -1] : List Int).length : Int) := by simpa using p1
  simp only [if_pos p0, if_pos hq, e4, Option.bind_some, e5]
  exact Ev.now _
theorem cb_symm (n : Nat) : ∀ k, k ≤ n → cb n k = cb n (n - k) := by
  induction n with
  | zero => intro k hk; obtain rfl : k = 0 := by omega
            rfl
  | succ n ih =>
    intro k hk
    cases k with
    | zero => rw [Nat.sub_zero, cb_zero, cb_self]
    | succ k =>
      by_cases e : k = n
      · subst e; rw [Nat.sub_self, cb_zero, cb_self]
      · have h1 := ih k (by omega)
        have h2 := ih (k + 1) (by omega)
        obtain ⟨j, hj⟩ : ∃ j, n - k = j + 1 := ⟨n - k - 1, by omega⟩
        rw [show n + 1 - (k + 1) = j + 1 from by omega]
        rw [hj] at h1
        rw [show n - (k + 1) = j from by omega] at h2
        unfold cb
        rw [h1, h2, Int.add_comm]
theorem FnChoices : laws_FnChoices.Pure := by
  intro l _ hl hw
  have hb := bytes_of hw
  by_cases hbig : (l.length : Int) > 4096
  · refine ⟨0, ?_⟩
    unfold laws_FnChoices.f laws_big.f
    simp [hbig]
  obtain ⟨⟨n, k⟩, K1, h1⟩ := drawChoose_some hb (by omega)
  obtain ⟨K3, h3⟩ := impl_Choose_ev n k
  obtain ⟨K4, h4⟩ := spec_Choose_ev n k
  have hfin : ∃ K, ∀ q, K ≤ q → laws_FnChoices.j0 q n k (chooseP n k).1 (chooseP n k).2 false = some true := by
    by_cases hd : 0 ≤ n ∧ n ≤ 64 ∧ 0 ≤ k ∧ k ≤ n
    · obtain ⟨n, rfl⟩ := Int.eq_ofNat_of_zero_le hd.1
      obtain ⟨k, rfl⟩ := Int.eq_ofNat_of_zero_le hd.2.2.1
      have hv : chooseP (n : Int) k = if cb n k > 1000000000 then (0, 3) else (cb n k, 0) := by
        unfold chooseP; rw [if_pos hd]; rfl
      rw [hv]
      by_cases hg : cb n k > 1000000000
      · rw [if_pos hg]
        refine ⟨1, fun q hq => ?_⟩
        obtain ⟨q, rfl⟩ : ∃ m, q = m + 1 := ⟨q - 1, by omega⟩
        simp [laws_FnChoices.j0]
      rw [if_neg hg]
      have hs : chooseP (n : Int) ((n : Int) - k) = (cb n k, 0) := by
        unfold chooseP
        rw [if_pos (by omega), show ((n : Int) - k).toNat = n - k from by omega, Int.toNat_natCast, ← cb_symm n k (by omega), if_neg hg]
      obtain ⟨A, hA⟩ := impl_Choose_ev (n : Int) ((n : Int) - k)
      rw [hs] at hA
      have wk : wrap64 ((n : Int) - k) = (n : Int) - k := w64 (by omega) (by omega)
      by_cases hz : k = 0 ∨ k = n
      · have h1 : cb n k = 1 := by
          rcases hz with rfl | rfl
          · exact cb_zero _
          · exact cb_self _
        refine ⟨A + 4, fun q hq => ?_⟩
        obtain ⟨q, rfl⟩ : ∃ m, q = m + 3 := ⟨q - 3, by omega⟩
        have hA := hA (q + 2) (by omega)
        simp only [laws_FnChoices.j0, wk, hA, Option.bind_some, if_true, laws_FnChoices.j1, laws_FnChoices.j2, h1]
        rcases hz with rfl | rfl <;> simp
      · have hk0 : 0 < k := by omega
        have hkn : k < n := by omega
        obtain ⟨m, rfl⟩ : ∃ m, n = m + 1 := ⟨n - 1, by omega⟩
        obtain ⟨j, rfl⟩ : ∃ j, k = j + 1 := ⟨k - 1, by omega⟩
        have c1 := cb_range m j
        have c2 := cb_range m (j + 1)
        have hsum : cb (m + 1) (j + 1) = cb m j + cb m (j + 1) := by
          have : cb (m + 1) (j + 1) = mn (cb m j + cb m (j + 1)) 1000000001 := rfl
          rw [this] at hg ⊢
          unfold mn at hg ⊢
          split at hg
          · omega
          · rename_i h; rw [if_neg h]
        have v1 : chooseP (m : Int) j = (cb m j, 0) := by
          unfold chooseP; rw [if_pos (by omega), Int.toNat_natCast, Int.toNat_natCast, if_neg (by omega)]
        have v2 : chooseP (m : Int) (j + 1 : Nat) = (cb m (j + 1), 0) := by
          unfold chooseP; rw [if_pos (by omega), Int.toNat_natCast, Int.toNat_natCast, if_neg (by omega)]
        obtain ⟨B, hB⟩ := impl_Choose_ev (m : Int) j
        obtain ⟨C, hC⟩ := impl_Choose_ev (m : Int) (j + 1 : Nat)
        rw [v1] at hB
        rw [v2] at hC
        refine ⟨A + B + C + 4, fun q hq => ?_⟩
        obtain ⟨q, rfl⟩ : ∃ m, q = m + 3 := ⟨q - 3, by omega⟩
        have hA := hA (q + 2) (by omega)
        have hB := hB q (by omega)
        have hC := hC q (by omega)
        have w1 : wrap64 (((m + 1 : Nat) : Int) - 1) = m := by rw [w64 (by omega) (by omega)]; omega
        have w2 : wrap64 (((j + 1 : Nat) : Int) - 1) = j := by rw [w64 (by omega) (by omega)]; omega
        have w3 : wrap64 (cb m j + cb m (j + 1)) = cb m j + cb m (j + 1) := w64 (by omega) (by omega)
        have e1 : ¬ (((j + 1 : Nat) : Int) = 0) := by omega
        have e2 : (((j + 1 : Nat) : Int) == ((m + 1 : Nat) : Int)) = false := by rw [beq_eq_false_iff_ne]; omega
        simp only [laws_FnChoices.j0, wk, hA, Option.bind_some, if_true, laws_FnChoices.j1, laws_FnChoices.j2, w1, w2, hB, hC, w3, hsum, bne_self_eq_false, if_neg e1, e2]
        simp
    · have hv : chooseP n k = (0, 2) := by unfold chooseP; rw [if_neg hd]
      rw [hv]
      refine ⟨1, fun q hq => ?_⟩
      obtain ⟨q, rfl⟩ : ∃ m, q = m + 1 := ⟨q - 1, by omega⟩
      simp [laws_FnChoices.j0]
  obtain ⟨K5, h5⟩ := hfin
  refine ⟨K1 + K3 + K4 + K5, ?_⟩
  have h1 := h1 (K1 + K3 + K4 + K5) (by omega)
  have h3 := h3 (K1 + K3 + K4 + K5) (by omega)
  have h4 := h4 (K1 + K3 + K4 + K5) (by omega)
  have h5 := h5 (K1 + K3 + K4 + K5) (by omega)
  unfold laws_FnChoices.f laws_big.f
  simp only [Option.bind_some, decide_eq_false hbig, h1, h3, h4, if_true, bne_self_eq_false]
  exact h5
end Go.Proofs.Ytkidfehpikfahaa.Pure
