/- Lemmas on the seat's printed functions: DrawP. -/
import Derived.Test.YtkidfehpikfahaaXx14
import Derived.Test.YtkidfehpikfahaaXx15
import Derived.Test.YtkidfehpikfahaaXx16
import Derived.Test.YtkidfehpikfahaaMBase
import Derived.Test.YtkidfehpikfahaaMSrc
import Derived.Test.YtkidfehpikfahaaMInts
namespace Go.Proofs.Ytkidfehpikfahaa.M
set_option linter.unusedVariables false
set_option linter.unusedSimpArgs false
open Go.RowKit Go.Proofs.Ytkidfehpikfahaa.X Go.Proofs.YtkidfehpikfahaaW.PrintWords Go.Proofs.YtkidfehpikfahaaW.PrintLast Go.Proofs.YtkidfehpikfahaaW.PrintMore
theorem drawSize_some {c : List Int} {i s : Int} (h : Src c i s) : ∃ r i' s', spec_l01DrawSize.f c i s = some (r, i', s') ∧ Src c i' s' ∧ 0 ≤ r ∧ r ≤ 65 := by
  unfold spec_l01DrawSize.f
  obtain ⟨r, i1, s1, e1, h1, _⟩ := next_some h 20 (by omega)
  simp only [e1, Option.bind_some]
  by_cases hr : r = 0
  · rw [if_pos hr]
    obtain ⟨q, i2, s2, e2, h2, hq0, hq1, _⟩ := next_some h1 2 (by omega)
    have := hq1 (by omega)
    simp only [e2, Option.bind_some]
    exact ⟨_, _, _, rfl, h2, by rw [w64 (by omega) (by omega)]; omega, by rw [w64 (by omega) (by omega)]; omega⟩
  · rw [if_neg hr]
    obtain ⟨q, i2, s2, e2, h2, hq0, hq1, _⟩ := next_some h1 12 (by omega)
    have := hq1 (by omega)
    simp only [e2, Option.bind_some]
    exact ⟨_, _, _, rfl, h2, by omega, by omega⟩
theorem drawPerm_loop {c : List Int} (n : Int) (hn : 0 ≤ n) (hn2 : n ≤ 100) : ∀ (d : Nat) (l : List Int) (i s : Int), (l.length : Int) + d = n → Src c i s →
    ∃ r i' s', Ev (fun k => spec_l01DrawPermutation.l0 k n l (l.length : Int) c i s) (r, i', s') ∧ Src c i' s' ∧ (r.length : Int) = n := by
  intro d
  induction d with
  | zero =>
    intro l i s hl h
    by_cases hp : n > 0
    · obtain ⟨r1, i1, s1, e1, h1, _⟩ := next_some h 24 (by omega)
      by_cases hr0 : r1 = 0
      · obtain ⟨r2, i2, s2, e2, h2, p2, q2, _⟩ := next_some h1 n (by omega)
        have q2 := q2 (by omega)
        obtain ⟨r3, i3, s3, e3, h3, _⟩ := next_some h2 (wrap64 (n + 1)) (by have := w64_hi (n + 1); omega)
        refine ⟨l.set r2.toNat r3, i3, s3, Ev.step (fun k => ?_) (Ev.now _), h3, by rw [List.length_set]; omega⟩
        simp only [spec_l01DrawPermutation.l0, e1, Option.bind_some, hr0, if_true, e2, e3]
        rw [if_neg (by omega), if_pos hp, if_pos p2, if_pos (by omega)]
      · by_cases hr1 : r1 = 1
        · refine ⟨l.set 0 (-1), i1, s1, Ev.step (fun k => ?_) (Ev.now _), h1, by rw [List.length_set]; omega⟩
          simp only [spec_l01DrawPermutation.l0, e1, Option.bind_some]
          rw [if_neg (by omega), if_pos hp, if_neg hr0, if_pos hr1, if_pos (by omega)]; rfl
        · refine ⟨l, i1, s1, Ev.step (fun k => ?_) (Ev.now _), h1, by omega⟩
          simp only [spec_l01DrawPermutation.l0, e1, Option.bind_some]
          rw [if_neg (by omega), if_pos hp, if_neg hr0, if_neg hr1]
    · refine ⟨l, i, s, Ev.step (fun k => ?_) (Ev.now _), h, by omega⟩
      simp only [spec_l01DrawPermutation.l0]
      rw [if_neg (by omega), if_neg hp]
  | succ d ih =>
    intro l i s hl h
    have hw : wrap64 ((l.length : Int) + 1) = (l.length : Int) + 1 := w64 (by omega) (by omega)
    obtain ⟨r1, i1, s1, e1, h1, p1, q1, _⟩ := next_some h ((l.length : Int) + 1) (by omega)
    have q1 := q1 (by omega)
    have hlen : (((l ++ [(l.length : Int)]).set l.length (rd (l ++ [(l.length : Int)]) r1)).set r1.toNat (l.length : Int)).length = l.length + 1 := by simp
    obtain ⟨r, i', s', e, h', hr⟩ := ih (((l ++ [(l.length : Int)]).set l.length (rd (l ++ [(l.length : Int)]) r1)).set r1.toNat (l.length : Int)) i1 s1 (by rw [hlen]; omega) h1
    refine ⟨r, i', s', Ev.step (fun k => ?_) e, h', hr⟩
    have hlen2 : (l ++ [(l.length : Int)]).length = l.length + 1 := by simp
    simp only [spec_l01DrawPermutation.l0, hw, e1, Option.bind_some, hlen2]
    rw [if_pos (by omega), if_pos (by omega), if_pos p1, if_pos (by omega), if_pos (by omega), if_pos (by omega), hlen, Int.toNat_natCast]
    rfl
theorem drawPerm_some {c : List Int} {i s : Int} (h : Src c i s) (n : Int) (hn : 0 ≤ n) (hn2 : n ≤ 100) : ∃ r i' s', Ev (fun k => spec_l01DrawPermutation.f k c i s n) (r, i', s') ∧ Src c i' s' ∧ (r.length : Int) = n :=
  drawPerm_loop n hn hn2 n.toNat [] i s (by simp; omega) h
theorem drawIsPerm_some {c : List Int} (hb : ∀ x ∈ c, 0 ≤ x ∧ x ≤ 255) (hl : c.length ≤ 140737488355328) : ∃ r, Ev (fun k => spec_DrawIsPermutation.f k c) r ∧ r.length ≤ 100 := by
  obtain ⟨s, e, h⟩ := from_some hb hl
  obtain ⟨n, i1, s1, e1, h1, p1, q1⟩ := drawSize_some h
  obtain ⟨r, i2, s2, e2, h2, hr⟩ := drawPerm_some h1 n p1 (by omega)
  unfold spec_DrawIsPermutation.f
  refine ⟨r, Ev.bind e ?_, by omega⟩
  simp only [e1, Option.bind_some]
  exact Ev.bind e2 (Ev.now _)
theorem drawInv_some {c : List Int} (hb : ∀ x ∈ c, 0 ≤ x ∧ x ≤ 255) (hl : c.length ≤ 140737488355328) : ∃ r, Ev (fun k => spec_DrawInverseOf.f k c) r ∧ r.length ≤ 100 := by
  obtain ⟨r, e, hr⟩ := drawIsPerm_some hb hl
  exact ⟨r, Ev.bind e (Ev.now _), hr⟩
theorem drawComp_some {c : List Int} (hb : ∀ x ∈ c, 0 ≤ x ∧ x ≤ 255) (hl : c.length ≤ 140737488355328) : ∃ p q, Ev (fun k => spec_DrawComposeOf.f k c) (p, q) ∧ p.length ≤ 100 ∧ q.length ≤ 100 := by
  obtain ⟨s, e, h⟩ := from_some hb hl
  obtain ⟨n, i1, s1, e1, h1, p1, q1⟩ := drawSize_some h
  obtain ⟨r, i2, s2, e2, h2, hr⟩ := drawPerm_some h1 n p1 (by omega)
  obtain ⟨t, i3, s3, e3, h3, p3, q3, _⟩ := next_some h2 20 (by omega)
  have q3 := q3 (by omega)
  have ht : Int.tdiv t 19 = t / 19 := Int.tdiv_eq_ediv_of_nonneg p3
  have hw : wrap64 (n + wrap64 (Int.tdiv t 19)) = n + t / 19 := by rw [ht, w64 (x := t / 19) (by omega) (by omega), w64 (by omega) (by omega)]
  obtain ⟨r2, i4, s4, e4, h4, hr2⟩ := drawPerm_some h3 (n + t / 19) (by omega) (by omega)
  unfold spec_DrawComposeOf.f
  refine ⟨r, r2, Ev.bind e ?_, by omega, by omega⟩
  simp only [e1, Option.bind_some]
  refine Ev.bind e2 ?_
  simp only [e3, Option.bind_some, hw]
  exact Ev.bind e4 (Ev.now _)
def ordList : List Int := [2, 3, 5, 7, 11, 13, 17, 19]
theorem ordList_at (j : Nat) (h : j < 8) : 2 ≤ rd ordList (j : Nat) ∧ rd ordList (j : Nat) ≤ 19 := by
  revert h; revert j; decide
theorem drawOrd_inner {c : List Int} (j : Nat) (hj : j < 8) (b : Int) (hb : 0 ≤ b) (hb2 : b ≤ 1000) (hf : ∀ (l : List Int) (i s : Int), l.length ≤ 20 * (j + 1) → Src c i s → ∃ r, Ev (fun k => spec_DrawOrderOf.l0 k l ordList ((j + 1 : Nat) : Int) c i s) r ∧ r.length ≤ 400) :
    ∀ (d m : Nat) (l : List Int) (i s : Int), rd ordList (j : Nat) - (m : Int) = d → l.length ≤ 20 * j + m → Src c i s → ∃ r, Ev (fun k => spec_DrawOrderOf.l1 k l ordList (j : Nat) b (m : Nat) c i s) r ∧ r.length ≤ 400 := by
  have ho := ordList_at j hj
  intro d
  induction d with
  | zero =>
    intro m l i s hm hl h
    obtain ⟨r, e, hr⟩ := hf l i s (by omega) h
    refine ⟨r, Ev.step (fun k => ?_) e, hr⟩
    simp only [spec_DrawOrderOf.l1]
    rw [if_pos (by omega), if_pos (by show (j : Int) < (8 : Int); omega), if_neg (by omega), w64 (by omega) (by omega)]; rfl
  | succ d ih =>
    intro m l i s hm hl h
    obtain ⟨r, e, hr⟩ := ih (m + 1) (l ++ [wrap64 (b + Int.tmod (wrap64 ((m : Int) + 1)) (rd ordList (j : Nat)))]) i s (by omega) (by rw [List.length_append]; simp; omega) h
    refine ⟨r, Ev.step (fun k => ?_) e, hr⟩
    simp only [spec_DrawOrderOf.l1]
    rw [if_pos (by omega), if_pos (by show (j : Int) < (8 : Int); omega), if_pos (by omega), if_neg (by omega), if_pos (by omega), w64 (x := (m : Int) + 1) (by omega) (by omega)]; rfl
theorem drawOrd_loop {c : List Int} : ∀ (d j : Nat) (l : List Int) (i s : Int), j + d = 8 → l.length ≤ 20 * j → Src c i s → ∃ r, Ev (fun k => spec_DrawOrderOf.l0 k l ordList (j : Nat) c i s) r ∧ r.length ≤ 400 := by
  intro d
  induction d with
  | zero =>
    intro j l i s hj hl h
    obtain ⟨t, i1, s1, e1, h1, p1, q1, _⟩ := next_some h 3 (by omega)
    have q1 := q1 (by omega)
    refine ⟨l, Ev.step (fun k => ?_) (Ev.now _), by omega⟩
    simp only [spec_DrawOrderOf.l0, e1, Option.bind_some]
    rw [w64 (by omega) (by omega), if_neg (by omega)]
  | succ d ih =>
    intro j l i s hj hl h
    obtain ⟨t, i1, s1, e1, h1, p1, q1, _⟩ := next_some h 3 (by omega)
    have q1 := q1 (by omega)
    by_cases hs : (j : Int) < 5 + t
    · have ho := ordList_at j (by omega)
      obtain ⟨m, hm⟩ := Int.eq_ofNat_of_zero_le (show 0 ≤ rd ordList (j : Nat) by omega)
      obtain ⟨r, e, hr⟩ := drawOrd_inner (c := c) j (by omega) (l.length : Int) (by omega) (by omega) (fun l i s hl h => ih (j + 1) l i s (by omega) hl h) m 0 l i1 s1 (by omega) (by omega) h1
      refine ⟨r, Ev.step (fun k => ?_) e, hr⟩
      simp only [spec_DrawOrderOf.l0, e1, Option.bind_some]
      rw [w64 (by omega) (by omega), if_pos hs]; rfl
    · refine ⟨l, Ev.step (fun k => ?_) (Ev.now _), by omega⟩
      simp only [spec_DrawOrderOf.l0, e1, Option.bind_some]
      rw [w64 (by omega) (by omega), if_neg hs]
theorem drawOrd_some {c : List Int} (hb : ∀ x ∈ c, 0 ≤ x ∧ x ≤ 255) (hl : c.length ≤ 140737488355328) : ∃ r, Ev (fun k => spec_DrawOrderOf.f k c) r ∧ r.length ≤ 400 := by
  obtain ⟨s, e, h⟩ := from_some hb hl
  obtain ⟨t, i1, s1, e1, h1, _⟩ := next_some h 8 (by omega)
  unfold spec_DrawOrderOf.f
  by_cases ht : t = 0
  · obtain ⟨r, e2, hr⟩ := drawOrd_loop (c := c) 8 0 [] i1 s1 (by omega) (by simp) h1
    refine ⟨r, Ev.bind e ?_, hr⟩
    simp only [e1, Option.bind_some, if_pos ht]
    exact e2
  · obtain ⟨r, e2, hr⟩ := drawIsPerm_some hb hl
    refine ⟨r, Ev.bind e ?_, by omega⟩
    simp only [e1, Option.bind_some, if_neg ht]
    exact Ev.bind e2 (Ev.now _)
end Go.Proofs.Ytkidfehpikfahaa.M
