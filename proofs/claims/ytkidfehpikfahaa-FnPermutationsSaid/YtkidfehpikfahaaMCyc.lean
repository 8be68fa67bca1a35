/- Lemmas on the seat's printed functions: Cyc. -/
import Derived.Test.YtkidfehpikfahaaXx12
import Derived.Test.YtkidfehpikfahaaMBase
import Derived.Test.YtkidfehpikfahaaMIn
import Derived.Test.YtkidfehpikfahaaMInts
import Derived.Test.YtkidfehpikfahaaMPerm
import Derived.Test.YtkidfehpikfahaaMInv
namespace Go.Proofs.Ytkidfehpikfahaa.M
set_option linter.unusedVariables false
set_option linter.unusedSimpArgs false
open Go.RowKit Go.Proofs.Ytkidfehpikfahaa.X Go.Proofs.YtkidfehpikfahaaW.PrintWords Go.Proofs.YtkidfehpikfahaaW.PrintLast Go.Proofs.YtkidfehpikfahaaW.PrintMore
/-- a walk over the points from 'at' on, marking them: the marks behind it, and the number of points marked -/
def walk (p : List Int) : Nat → List Bool → Int → Int → List Bool × Int
  | 0, s, n, _ => (s, n)
  | f + 1, s, n, i => if rdOf false s i = true then (s, n) else walk p f (s.set i.toNat true) (n + 1) (rd p i)
theorem count_mark : ∀ (s : List Bool) (i : Nat) (h : i < s.length), s[i] = false → (s.set i true).count true = s.count true + 1 ∧ (s.set i true).count false + 1 = s.count false := by
  intro s
  induction s with
  | nil => intro i h; simp at h
  | cons b s ih =>
    intro i h hb
    cases i with
    | zero => simp at hb; subst hb; simp
    | succ i =>
      simp only [List.length_cons] at h
      simp only [List.getElem_cons_succ] at hb
      have := ih i (by omega) hb
      rw [List.set_cons_succ, List.count_cons, List.count_cons, List.count_cons, List.count_cons]
      omega
theorem count_both (s : List Bool) : s.count true + s.count false = s.length := by
  induction s with
  | nil => rfl
  | cons b s ih => cases b <;> simp <;> omega
theorem count_false_pos (s : List Bool) (i : Nat) (h : i < s.length) (hb : s[i] = false) : 0 < s.count false := by
  rw [List.count_pos_iff]; exact hb ▸ List.getElem_mem h
theorem walk_length (p : List Int) : ∀ f s n i, (walk p f s n i).1.length = s.length := by
  intro f
  induction f with
  | zero => intro s n i; rfl
  | succ f ih =>
    intro s n i
    unfold walk
    by_cases h : rdOf false s i = true
    · rw [if_pos h]
    · rw [if_neg h, ih, List.length_set]
/-- what a walk counts is what it marks -/
theorem walk_count (p : List Int) (hp : ∀ j : Nat, j < p.length → 0 ≤ rd p (j : Nat) ∧ rd p (j : Nat) < p.length) : ∀ f s n (i : Int), s.length = p.length → 0 ≤ i → i < p.length → ((walk p f s n i).1.count true : Int) - (walk p f s n i).2 = s.count true - n := by
  intro f
  induction f with
  | zero => intro s n i _ _ _; rfl
  | succ f ih =>
    intro s n i hs h0 h1
    unfold walk
    by_cases h : rdOf false s i = true
    · rw [if_pos h]
    · rw [if_neg h]
      obtain ⟨j, rfl⟩ := Int.eq_ofNat_of_zero_le h0
      have hp' := hp j (by omega)
      rw [ih _ _ _ (by rw [List.length_set]; exact hs) hp'.1 hp'.2, Int.toNat_natCast]
      rw [rdOf_nat false s j (by omega)] at h
      have := (count_mark s j (by omega) (by simpa using h)).1
      omega
def cycAt (p : List Int) (j : Nat) : List Bool × List Int := (List.range j).foldl (fun x i => ((walk p p.length x.1 0 (i : Nat)).1, if (walk p p.length x.1 0 (i : Nat)).2 > 0 then x.2 ++ [(walk p p.length x.1 0 (i : Nat)).2] else x.2)) (List.replicate p.length false, [])
theorem cycAt_succ (p : List Int) (j : Nat) : cycAt p (j + 1) = ((walk p p.length (cycAt p j).1 0 (j : Nat)).1, if (walk p p.length (cycAt p j).1 0 (j : Nat)).2 > 0 then (cycAt p j).2 ++ [(walk p p.length (cycAt p j).1 0 (j : Nat)).2] else (cycAt p j).2) := by
  unfold cycAt; rw [List.range_succ, List.foldl_append]; rfl
def cycL (p : List Int) : List Int := (cycAt p p.length).2
theorem cycAt_length1 (p : List Int) (j : Nat) : (cycAt p j).1.length = p.length := by
  induction j with
  | zero => simp [cycAt]
  | succ j ih => rw [cycAt_succ]; show (walk p p.length (cycAt p j).1 0 (j : Nat)).1.length = p.length; rw [walk_length, ih]
theorem cycAt_length2 (p : List Int) (j : Nat) : (cycAt p j).2.length ≤ j := by
  induction j with
  | zero => simp [cycAt]
  | succ j ih =>
    rw [cycAt_succ]
    show (if (walk p p.length (cycAt p j).1 0 (j : Nat)).2 > 0 then (cycAt p j).2 ++ [(walk p p.length (cycAt p j).1 0 (j : Nat)).2] else (cycAt p j).2).length ≤ j + 1
    split
    · rw [List.length_append]; simp; exact ih
    · omega
theorem perm_all {l : List Int} (h : isPerm l = true) : ∀ j : Nat, j < l.length → 0 ≤ rd l (j : Nat) ∧ rd l (j : Nat) < l.length := fun j hj => perm_at h j hj
/-- the reference's walk: from any state to what follows it -/
theorem spec_cyc_walk (p : List Int) (h : isPerm p = true) (out : List Int) (i : Int) (r : List Int) : ∀ f : Nat, ∀ (s : List Bool) (n x : Int), s.length = p.length → s.count false ≤ f → 0 ≤ x → x < p.length → 0 ≤ n → n ≤ 64 - (s.count false : Int) →
    Ev (fun k => if (walk p f s n x).2 > 0 then (if out.length < 17592186044416 then spec_l01Cycles.l0 k p (walk p f s n x).1 (out ++ [(walk p f s n x).2]) (wrap64 (i + 1)) else none) else spec_l01Cycles.l0 k p (walk p f s n x).1 out (wrap64 (i + 1))) r →
    Ev (fun k => spec_l01Cycles.l1 k p s out i n x) r := by
  intro f
  induction f with
  | zero =>
    intro s n x hs hc h0 h1 hn hn2 H
    obtain ⟨j, rfl⟩ := Int.eq_ofNat_of_zero_le h0
    have hm : rdOf false s (j : Nat) = true := by
      rw [rdOf_nat false s j (by omega)]
      cases e : s[j]'(by omega) with
      | true => rfl
      | false => have := count_false_pos s j (by omega) e; omega
    refine Ev.step (fun k => ?_) H
    simp only [spec_l01Cycles.l1, walk]; rw [if_pos (by omega), if_pos (by omega), if_pos hm]; rfl
  | succ f ih =>
    intro s n x hs hc h0 h1 hn hn2 H
    obtain ⟨j, rfl⟩ := Int.eq_ofNat_of_zero_le h0
    unfold walk at H
    by_cases hm : rdOf false s (j : Nat) = true
    · simp only [if_pos hm] at H
      refine Ev.step (fun k => ?_) H
      simp only [spec_l01Cycles.l1]; rw [if_pos (by omega), if_pos (by omega), if_pos hm]
    · simp only [if_neg hm] at H
      have hp := perm_at h j (by omega)
      have hsj : s[j]'(by omega) = false := by rw [rdOf_nat false s j (by omega)] at hm; simpa using hm
      have hk := (count_mark s j (by omega) hsj).2
      refine Ev.step (fun k => ?_) (ih (s.set j true) (n + 1) (rd p (j : Nat)) (by rw [List.length_set]; exact hs) (by omega) hp.1 hp.2 (by omega) (by omega) H)
      simp only [spec_l01Cycles.l1]; rw [if_pos (by omega), if_pos (by omega), if_neg hm, if_pos (by omega), w64 (by omega) (by omega)]; rfl
theorem impl_cyc_walk (p : List Int) (h : isPerm p = true) (out : List Int) (i m : Int) (r : List Int × Int) : ∀ f : Nat, ∀ (s : List Bool) (n x : Int), s.length = p.length → s.count false ≤ f → 0 ≤ x → x < p.length → 0 ≤ n → n ≤ 64 - (s.count false : Int) →
    Ev (fun k => if (walk p f s n x).2 > 0 then (if out.length < 17592186044416 then impl_CycleLengths.l0 k p (out ++ [(walk p f s n x).2]) (walk p f s n x).1 m (wrap64 (i + 1)) else none) else impl_CycleLengths.l0 k p out (walk p f s n x).1 m (wrap64 (i + 1))) r →
    Ev (fun k => impl_CycleLengths.l1 k p out s n x m i) r := by
  intro f
  induction f with
  | zero =>
    intro s n x hs hc h0 h1 hn hn2 H
    obtain ⟨j, rfl⟩ := Int.eq_ofNat_of_zero_le h0
    have hm : rdOf false s (j : Nat) = true := by
      rw [rdOf_nat false s j (by omega)]
      cases e : s[j]'(by omega) with
      | true => rfl
      | false => have := count_false_pos s j (by omega) e; omega
    refine Ev.step (fun k => ?_) H
    simp only [impl_CycleLengths.l1, walk]; rw [if_pos (by omega), if_pos (by omega), if_pos hm]; rfl
  | succ f ih =>
    intro s n x hs hc h0 h1 hn hn2 H
    obtain ⟨j, rfl⟩ := Int.eq_ofNat_of_zero_le h0
    unfold walk at H
    by_cases hm : rdOf false s (j : Nat) = true
    · simp only [if_pos hm] at H
      refine Ev.step (fun k => ?_) H
      simp only [impl_CycleLengths.l1]; rw [if_pos (by omega), if_pos (by omega), if_pos hm]
    · simp only [if_neg hm] at H
      have hp := perm_at h j (by omega)
      have hsj : s[j]'(by omega) = false := by rw [rdOf_nat false s j (by omega)] at hm; simpa using hm
      have hk := (count_mark s j (by omega) hsj).2
      refine Ev.step (fun k => ?_) (ih (s.set j true) (n + 1) (rd p (j : Nat)) (by rw [List.length_set]; exact hs) (by omega) hp.1 hp.2 (by omega) (by omega) H)
      simp only [impl_CycleLengths.l1]; rw [if_pos (by omega), if_pos (by omega), if_neg hm, if_pos (by omega), w64 (by omega) (by omega)]; rfl
theorem count_false_le (p : List Int) (j : Nat) : (cycAt p j).1.count false ≤ p.length := by
  have := count_both (cycAt p j).1; rw [cycAt_length1] at this; omega
theorem spec_cyc_loop (p : List Int) (h : isPerm p = true) : ∀ d j : Nat, j + d = p.length → Ev (fun k => spec_l01Cycles.l0 k p (cycAt p j).1 (cycAt p j).2 (j : Nat)) (cycL p) := by
  have hl := ((isPerm_iff p).1 h).1
  intro d
  induction d with
  | zero =>
    intro j hj
    obtain rfl : j = p.length := by omega
    refine Ev.step (fun k => ?_) (Ev.now _)
    simp only [spec_l01Cycles.l0]; rw [if_neg (by omega)]; rfl
  | succ d ih =>
    intro j hj
    have hc := count_false_le p j
    have hcl := cycAt_length2 p j
    have hcl1 := cycAt_length1 p j
    have hI := ih (j + 1) (by omega)
    rw [cycAt_succ] at hI
    refine Ev.step (f := fun k => spec_l01Cycles.l1 k p (cycAt p j).1 (cycAt p j).2 (j : Nat) 0 (j : Nat)) (fun k => ?_) (spec_cyc_walk p h _ _ _ p.length _ 0 _ hcl1 hc (by omega) (by omega) (by omega) (by omega) ?_)
    · simp only [spec_l01Cycles.l0]; rw [if_pos (by omega)]
    · rw [w64 (by omega) (by omega)]
      by_cases hz : (walk p p.length (cycAt p j).1 0 (j : Nat)).2 > 0
      · simp only [if_pos hz, if_pos (show (cycAt p j).2.length < 17592186044416 by omega)] at hI ⊢; exact hI
      · simp only [if_neg hz] at hI ⊢; exact hI
theorem impl_cyc_loop (p : List Int) (h : isPerm p = true) : ∀ d j : Nat, j + d = p.length → Ev (fun k => impl_CycleLengths.l0 k p (cycAt p j).2 (cycAt p j).1 p.length (j : Nat)) (cycL p, 0) := by
  have hl := ((isPerm_iff p).1 h).1
  intro d
  induction d with
  | zero =>
    intro j hj
    obtain rfl : j = p.length := by omega
    refine Ev.step (fun k => ?_) (Ev.now _)
    simp only [impl_CycleLengths.l0]; rw [if_neg (by omega)]; rfl
  | succ d ih =>
    intro j hj
    have hc := count_false_le p j
    have hcl := cycAt_length2 p j
    have hcl1 := cycAt_length1 p j
    have hI := ih (j + 1) (by omega)
    rw [cycAt_succ] at hI
    refine Ev.step (f := fun k => impl_CycleLengths.l1 k p (cycAt p j).2 (cycAt p j).1 0 (j : Nat) p.length (j : Nat)) (fun k => ?_) (impl_cyc_walk p h _ _ _ _ p.length _ 0 _ hcl1 hc (by omega) (by omega) (by omega) (by omega) ?_)
    · simp only [impl_CycleLengths.l0]; rw [if_pos (by omega)]
    · rw [w64 (by omega) (by omega)]
      by_cases hz : (walk p p.length (cycAt p j).1 0 (j : Nat)).2 > 0
      · simp only [if_pos hz, if_pos (show (cycAt p j).2.length < 17592186044416 by omega)] at hI ⊢; exact hI
      · simp only [if_neg hz] at hI ⊢; exact hI
def cycP (p : List Int) : List Int × Int := if isPerm p = true then (cycL p, 0) else ([], 1)
theorem impl_Cyc_ev (l : List Int) : Ev (fun k => impl_CycleLengths.f k l) (cycP l) := by
  unfold impl_CycleLengths.f cycP
  simp only [impl_IsPerm_eq, Option.bind_some]
  by_cases h : isPerm l = true
  · have hl := ((isPerm_iff l).1 h).1
    simp only [if_pos h, if_pos (show 0 ≤ (l.length : Int) by omega), Int.toNat_natCast, if_pos (show l.length ≤ 281474976710656 by omega)]
    exact impl_cyc_loop l h l.length 0 (by omega)
  · simp only [if_neg h]; exact Ev.now _
theorem spec_l01Cyc_ev (l : List Int) (h : isPerm l = true) : Ev (fun k => spec_l01Cycles.f k l) (cycL l) := by
  have hl := ((isPerm_iff l).1 h).1
  unfold spec_l01Cycles.f
  simp only [if_pos (show 0 ≤ (l.length : Int) by omega), Int.toNat_natCast, if_pos (show l.length ≤ 281474976710656 by omega)]
  exact spec_cyc_loop l h l.length 0 (by omega)
theorem spec_Cyc_ev (l : List Int) (hl : l.length ≤ 1048576) : Ev (fun k => spec_CycleLengths.f k l) (cycP l) := by
  unfold spec_CycleLengths.f cycP
  refine Ev.bind (spec_IsPerm_ev l hl) ?_
  by_cases h : isPerm l = true
  · simp only [if_pos h]
    exact Ev.bind (spec_l01Cyc_ev l h) (Ev.now _)
  · simp only [if_neg h]; exact Ev.now _
theorem cycP_length (l : List Int) : (cycP l).1.length ≤ 64 := by
  unfold cycP
  by_cases h : isPerm l = true
  · rw [if_pos h]; have hl := ((isPerm_iff l).1 h).1; have := cycAt_length2 l l.length; show (cycL l).length ≤ 64; unfold cycL; omega
  · rw [if_neg h]; decide
end Go.Proofs.Ytkidfehpikfahaa.M
