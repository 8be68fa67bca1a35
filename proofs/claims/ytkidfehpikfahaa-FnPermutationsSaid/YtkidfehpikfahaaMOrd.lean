/- Lemmas on the seat's printed functions: Ord. -/
import Derived.Test.YtkidfehpikfahaaXx1
import Derived.Test.YtkidfehpikfahaaXx14
import Derived.Test.YtkidfehpikfahaaMBase
import Derived.Test.YtkidfehpikfahaaMIn
import Derived.Test.YtkidfehpikfahaaMInts
import Derived.Test.YtkidfehpikfahaaMPerm
import Derived.Test.YtkidfehpikfahaaMInv
import Derived.Test.YtkidfehpikfahaaMCyc
import Derived.Test.YtkidfehpikfahaaMGcd
namespace Go.Proofs.Ytkidfehpikfahaa.M
set_option linter.unusedVariables false
set_option linter.unusedSimpArgs false
open Go.RowKit Go.Proofs.Ytkidfehpikfahaa.X Go.Proofs.YtkidfehpikfahaaW.PrintWords Go.Proofs.YtkidfehpikfahaaW.PrintLast Go.Proofs.YtkidfehpikfahaaW.PrintMore
theorem walk_ge (p : List Int) : ∀ f s n (i : Int), n ≤ (walk p f s n i).2 := by
  intro f
  induction f with
  | zero => intro s n i; exact Int.le_refl _
  | succ f ih =>
    intro s n i
    unfold walk
    by_cases h : rdOf false s i = true
    · rw [if_pos h]; exact Int.le_refl _
    · rw [if_neg h]; have := ih (s.set i.toNat true) (n + 1) (rd p i); omega
def sumL (l : List Int) : Int := l.foldr (· + ·) 0
theorem sumL_append (a b : List Int) : sumL (a ++ b) = sumL a + sumL b := by
  induction a with
  | nil => simp [sumL]
  | cons x a ih => simp only [sumL, List.cons_append, List.foldr_cons] at *; omega
theorem sumL_cons (x : Int) (a : List Int) : sumL (x :: a) = x + sumL a := rfl
theorem cycAt_sum (p : List Int) (h : isPerm p = true) : ∀ j : Nat, j ≤ p.length → sumL (cycAt p j).2 = (cycAt p j).1.count true ∧ ∀ c ∈ (cycAt p j).2, 1 ≤ c := by
  intro j
  induction j with
  | zero => intro _; simp [cycAt, sumL, List.count_replicate]
  | succ j ih =>
    intro hj
    obtain ⟨h1, h2⟩ := ih (by omega)
    have hw := walk_count p (perm_all h) p.length (cycAt p j).1 0 (j : Nat) (cycAt_length1 p j) (by omega) (by omega)
    have hg := walk_ge p p.length (cycAt p j).1 0 (j : Nat)
    rw [cycAt_succ]
    show sumL (if (walk p p.length (cycAt p j).1 0 (j : Nat)).2 > 0 then (cycAt p j).2 ++ [(walk p p.length (cycAt p j).1 0 (j : Nat)).2] else (cycAt p j).2) = ((walk p p.length (cycAt p j).1 0 (j : Nat)).1.count true : Nat) ∧ ∀ c ∈ (if (walk p p.length (cycAt p j).1 0 (j : Nat)).2 > 0 then (cycAt p j).2 ++ [(walk p p.length (cycAt p j).1 0 (j : Nat)).2] else (cycAt p j).2), 1 ≤ c
    by_cases hz : (walk p p.length (cycAt p j).1 0 (j : Nat)).2 > 0
    · rw [if_pos hz, sumL_append, h1]
      refine ⟨?_, fun c hc => ?_⟩
      · show _ + (_ + 0) = _; omega
      · rcases List.mem_append.1 hc with hc | hc
        · exact h2 c hc
        · rw [List.mem_singleton.1 hc]; omega
    · rw [if_neg hz, h1]; exact ⟨by omega, h2⟩
theorem cycL_sum_le (p : List Int) (h : isPerm p = true) : sumL (cycL p) ≤ 64 ∧ ∀ c ∈ cycL p, 1 ≤ c := by
  obtain ⟨h1, h2⟩ := cycAt_sum p h p.length (Nat.le_refl _)
  have hc := count_both (cycAt p p.length).1
  rw [cycAt_length1] at hc
  have hl := ((isPerm_iff p).1 h).1
  exact ⟨by show sumL (cycAt p p.length).2 ≤ 64; omega, h2⟩
/-- the least common multiples, one after the other -/
def lst (x : Nat) : List Int → Nat
  | [] => x
  | c :: r => lst (x / Nat.gcd x c.toNat * c.toNat) r
theorem step_ge (x c : Nat) (_ : 1 ≤ x) (hc : 1 ≤ c) : x ≤ x / Nat.gcd x c * c := by
  have h1 : Nat.gcd x c ≤ c := Nat.gcd_le_right x (by omega)
  have h2 : x / Nat.gcd x c * Nat.gcd x c = x := Nat.div_mul_cancel (Nat.gcd_dvd_left x c)
  calc x = x / Nat.gcd x c * Nat.gcd x c := h2.symm
    _ ≤ x / Nat.gcd x c * c := Nat.mul_le_mul_left _ h1
theorem step_le (x c : Nat) : x / Nat.gcd x c * c ≤ x * c := Nat.mul_le_mul_right _ (Nat.div_le_self _ _)
theorem lst_ge : ∀ (l : List Int) (x : Nat), 1 ≤ x → (∀ c ∈ l, 1 ≤ c) → x ≤ lst x l := by
  intro l
  induction l with
  | nil => intro x _ _; exact Nat.le_refl _
  | cons c r ih =>
    intro x hx hc
    have hc1 := hc c List.mem_cons_self
    have h := step_ge x c.toNat hx (by omega)
    exact Nat.le_trans h (ih _ (by omega) (fun c hc' => hc c (List.mem_cons_of_mem _ hc')))
theorem cube_le : ∀ c, c < 65 → c ^ 3 ≤ 3 ^ c := by decide
theorem cube_bound (x s : Nat) (h : x ^ 3 ≤ 3 ^ s) (hs : s ≤ 64) : x < 17179869184 := by
  apply Nat.lt_of_not_le
  intro hx
  have h1 : 17179869184 ^ 3 ≤ x ^ 3 := Nat.pow_le_pow_left hx 3
  have h2 : 3 ^ s ≤ 3 ^ 64 := Nat.pow_le_pow_right (by omega) hs
  have : (17179869184 : Nat) ^ 3 ≤ 3 ^ 64 := Nat.le_trans h1 (Nat.le_trans h h2)
  revert this; decide
theorem step_cube (x c s : Nat) (h : x ^ 3 ≤ 3 ^ s) (hc : c < 65) : (x / Nat.gcd x c * c) ^ 3 ≤ 3 ^ (s + c) := by
  refine Nat.le_trans (Nat.pow_le_pow_left (step_le x c) 3) ?_
  rw [Nat.mul_pow, Nat.pow_add]
  exact Nat.mul_le_mul h (cube_le c hc)
theorem sumL_nonneg (l : List Int) (h : ∀ c ∈ l, 1 ≤ c) : 0 ≤ sumL l := by
  induction l with
  | nil => exact Int.le_refl _
  | cons c r ih => rw [sumL_cons]; have := h c List.mem_cons_self; have := ih (fun c hc => h c (List.mem_cons_of_mem _ hc)); omega
def ordR (x : Nat) : Int × Int := if (x : Int) > 1000000000 then (0, 3) else ((x : Int), 0)
/-- one round of the two loops -/
theorem ord_round (x c s : Nat) (hx : 1 ≤ x) (hc : 1 ≤ c) (h3 : x ^ 3 ≤ 3 ^ s) (hs : s + c ≤ 64) : ¬ ((Nat.gcd x c : Nat) : Int) = 0 ∧ wrap64 (wrap64 (Int.tdiv (x : Int) (Nat.gcd x c : Nat)) * (c : Int)) = ((x / Nat.gcd x c * c : Nat) : Int) := by
  have hg : 0 < Nat.gcd x c := Nat.gcd_pos_of_pos_left _ (by omega)
  have hb := cube_bound _ _ (step_cube x c s h3 (by omega)) hs
  have hb0 := cube_bound x s h3 (by omega)
  have hd : x / Nat.gcd x c ≤ x := Nat.div_le_self _ _
  have ht : Int.tdiv (x : Int) (Nat.gcd x c : Nat) = ((x / Nat.gcd x c : Nat) : Int) := by rw [Int.tdiv_eq_ediv_of_nonneg (by omega)]; rfl
  refine ⟨by omega, ?_⟩
  rw [ht]
  generalize x / Nat.gcd x c = q at *
  rw [w64 (x := (q : Int)) (by omega) (by omega), ← Int.natCast_mul]
  exact w64 (by omega) (by omega)
theorem spec_ord_loop (l : List Int) (hl : l.length ≤ 64) (hc : ∀ c ∈ l, 1 ≤ c) : ∀ d j : Nat, j + d = l.length → ∀ x s : Nat, 1 ≤ x → x ^ 3 ≤ 3 ^ s → (s : Int) + sumL (l.drop j) ≤ 64 → Ev (fun k => spec_OrderOf.l0 k l x (j : Nat)) (ordR (lst x (l.drop j))) := by
  intro d
  induction d with
  | zero =>
    intro j hj x s hx h3 hs
    obtain rfl : j = l.length := by omega
    refine Ev.step (fun k => ?_) (Ev.now _)
    simp only [spec_OrderOf.l0]; rw [if_neg (by omega), List.drop_length]
    show _ = some (if (x : Int) > 1000000000 then (0, 3) else ((x : Int), 0))
    split <;> rfl
  | succ d ih =>
    intro j hj x s hx h3 hs
    have hd : l.drop j = rd l (j : Nat) :: l.drop (j + 1) := by rw [List.drop_eq_getElem_cons (by omega), rd_nat l j (by omega)]
    have hm : rd l (j : Nat) ∈ l := by rw [rd_nat l j (by omega)]; exact List.getElem_mem _
    have h1 := hc _ hm
    rw [hd] at hs ⊢
    rw [sumL_cons] at hs
    have hn := sumL_nonneg (l.drop (j + 1)) (fun c h => hc c (List.mem_of_mem_drop h))
    obtain ⟨c, hcc⟩ := Int.eq_ofNat_of_zero_le (show 0 ≤ rd l (j : Nat) by omega)
    rw [hcc] at hs h1 ⊢
    obtain ⟨r1, r2⟩ := ord_round x c s hx (by omega) h3 (by omega)
    have hst := step_ge x c hx (by omega)
    obtain ⟨K1, e1⟩ := ih (j + 1) (by omega) (x / Nat.gcd x c * c) (s + c) (by omega) (step_cube x c s h3 (by omega)) (by omega)
    obtain ⟨K2, e2⟩ := gcd_spec c x
    refine ⟨K1 + K2 + 1, fun n hn => ?_⟩
    obtain ⟨k, rfl⟩ : ∃ m, n = m + 1 := ⟨n - 1, by omega⟩
    have e1 := e1 k (by omega)
    have e2 := e2 k (by omega)
    simp only [spec_OrderOf.l0, hcc, e2, Option.bind_some]
    rw [if_pos (by omega), if_pos (by omega), if_neg r1, r2, w64 (by omega) (by omega)]
    exact e1
theorem impl_ord_loop (l : List Int) (hl : l.length ≤ 64) (hc : ∀ c ∈ l, 1 ≤ c) : ∀ d j : Nat, j + d = l.length → ∀ x s : Nat, 1 ≤ x → x ≤ 1000000000 → x ^ 3 ≤ 3 ^ s → (s : Int) + sumL (l.drop j) ≤ 64 → Ev (fun k => impl_OrderOf.l0 k x l l.length (j : Nat)) (ordR (lst x (l.drop j))) := by
  intro d
  induction d with
  | zero =>
    intro j hj x s hx hx2 h3 hs
    obtain rfl : j = l.length := by omega
    refine Ev.step (fun k => ?_) (Ev.now _)
    simp only [impl_OrderOf.l0]; rw [if_neg (by omega), List.drop_length]
    show _ = some (if (x : Int) > 1000000000 then (0, 3) else ((x : Int), 0))
    rw [if_neg (by omega)]
  | succ d ih =>
    intro j hj x s hx hx2 h3 hs
    have hd : l.drop j = rd l (j : Nat) :: l.drop (j + 1) := by rw [List.drop_eq_getElem_cons (by omega), rd_nat l j (by omega)]
    have hm : rd l (j : Nat) ∈ l := by rw [rd_nat l j (by omega)]; exact List.getElem_mem _
    have h1 := hc _ hm
    rw [hd] at hs ⊢
    rw [sumL_cons] at hs
    have hn := sumL_nonneg (l.drop (j + 1)) (fun c h => hc c (List.mem_of_mem_drop h))
    obtain ⟨c, hcc⟩ := Int.eq_ofNat_of_zero_le (show 0 ≤ rd l (j : Nat) by omega)
    rw [hcc] at hs h1 ⊢
    obtain ⟨r1, r2⟩ := ord_round x c s hx (by omega) h3 (by omega)
    have hst := step_ge x c hx (by omega)
    obtain ⟨K2, e2⟩ := gcd_impl c x
    by_cases hbig : ((x / Nat.gcd x c * c : Nat) : Int) > 1000000000
    · have hge := lst_ge (l.drop (j + 1)) (x / Nat.gcd x c * c) (by omega) (fun c h => hc c (List.mem_of_mem_drop h))
      refine ⟨K2 + 1, fun n hn => ?_⟩
      obtain ⟨k, rfl⟩ : ∃ m, n = m + 1 := ⟨n - 1, by omega⟩
      have e2 := e2 k (by omega)
      simp only [impl_OrderOf.l0, impl_divisor.f, hcc, e2, Option.bind_some]
      rw [if_pos (by omega), if_pos (by omega), if_pos (by omega), if_neg r1, r2, if_pos hbig]
      show _ = some (if ((lst (x / Nat.gcd x c * c) (l.drop (j + 1)) : Nat) : Int) > 1000000000 then (0, 3) else (((lst (x / Nat.gcd x c * c) (l.drop (j + 1)) : Nat) : Int), 0))
      rw [if_pos (by omega)]
    · obtain ⟨K1, e1⟩ := ih (j + 1) (by omega) (x / Nat.gcd x c * c) (s + c) (by omega) (by omega) (step_cube x c s h3 (by omega)) (by omega)
      refine ⟨K1 + K2 + 1, fun n hn => ?_⟩
      obtain ⟨k, rfl⟩ : ∃ m, n = m + 1 := ⟨n - 1, by omega⟩
      have e1 := e1 k (by omega)
      have e2 := e2 k (by omega)
      simp only [impl_OrderOf.l0, impl_divisor.f, hcc, e2, Option.bind_some]
      rw [if_pos (by omega), if_pos (by omega), if_pos (by omega), if_neg r1, r2, if_neg hbig, w64 (by omega) (by omega)]
      exact e1
def ordP (l : List Int) : Int × Int := if isPerm l = true then ordR (lst 1 (cycL l)) else (0, 1)
theorem cycL_length (l : List Int) (h : isPerm l = true) : (cycL l).length ≤ 64 := by
  have := cycP_length l; unfold cycP at this; rw [if_pos h] at this; exact this
theorem spec_Ord_ev (l : List Int) (hl : l.length ≤ 1048576) : Ev (fun k => spec_OrderOf.f k l) (ordP l) := by
  unfold spec_OrderOf.f ordP
  refine Ev.bind (spec_IsPerm_ev l hl) ?_
  by_cases h : isPerm l = true
  · simp only [if_pos h]
    obtain ⟨h1, h2⟩ := cycL_sum_le l h
    exact Ev.bind (spec_l01Cyc_ev l h) (spec_ord_loop (cycL l) (cycL_length l h) h2 (cycL l).length 0 (by omega) 1 0 (by omega) (by decide) (by simpa using h1))
  · simp only [if_neg h]; exact Ev.now _
theorem impl_Ord_ev (l : List Int) : Ev (fun k => impl_OrderOf.f k l) (ordP l) := by
  unfold impl_OrderOf.f ordP
  refine Ev.bind (impl_Cyc_ev l) ?_
  unfold cycP
  by_cases h : isPerm l = true
  · simp only [if_pos h]
    obtain ⟨h1, h2⟩ := cycL_sum_le l h
    exact impl_ord_loop (cycL l) (cycL_length l h) h2 (cycL l).length 0 (by omega) 1 0 (by omega) (by omega) (by decide) (by simpa using h1)
  · simp only [if_neg h]; exact Ev.now _
end Go.Proofs.Ytkidfehpikfahaa.M
