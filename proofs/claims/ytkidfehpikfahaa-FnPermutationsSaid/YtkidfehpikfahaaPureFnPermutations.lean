/- Composing with the inverse takes every point to itself, and the order brings every point back: the law answers true for every code, without any condition. -/
import Derived.Test.YtkidfehpikfahaaXx17
import Derived.Test.YtkidfehpikfahaaXx18
import Derived.Test.YtkidfehpikfahaaXx5
import Derived.Test.YtkidfehpikfahaaMBase
import Derived.Test.YtkidfehpikfahaaMSrc
import Derived.Test.YtkidfehpikfahaaMIn
import Derived.Test.YtkidfehpikfahaaMInts
import Derived.Test.YtkidfehpikfahaaMPerm
import Derived.Test.YtkidfehpikfahaaMInv
import Derived.Test.YtkidfehpikfahaaMCyc
import Derived.Test.YtkidfehpikfahaaMGcd
import Derived.Test.YtkidfehpikfahaaMOrd
import Derived.Test.YtkidfehpikfahaaMComp
import Derived.Test.YtkidfehpikfahaaMPInv
import Derived.Test.YtkidfehpikfahaaMLike
import Derived.Test.YtkidfehpikfahaaMDrawP
namespace Go.Proofs.Ytkidfehpikfahaa.Pure
set_option linter.unusedVariables false
set_option linter.unusedSimpArgs false
open Go.RowKit Go.Proofs.Ytkidfehpikfahaa.X Go.Proofs.YtkidfehpikfahaaW.PrintWords Go.Proofs.YtkidfehpikfahaaW.PrintLast Go.Proofs.YtkidfehpikfahaaW.PrintMore Go.Proofs.Ytkidfehpikfahaa.M
theorem step_dvd (x c : Nat) : x ∣ x / Nat.gcd x c * c ∧ c ∣ x / Nat.gcd x c * c := by
  refine ⟨?_, Nat.dvd_mul_left _ _⟩
  obtain ⟨m, hm⟩ := Nat.gcd_dvd_right x c
  refine ⟨m, ?_⟩
  calc x / Nat.gcd x c * c = x / Nat.gcd x c * (Nat.gcd x c * m) := by rw [← hm]
    _ = x / Nat.gcd x c * Nat.gcd x c * m := (Nat.mul_assoc _ _ _).symm
    _ = x * m := by rw [Nat.div_mul_cancel (Nat.gcd_dvd_left x c)]
theorem lst_dvd : ∀ (l : List Int) (x : Nat), x ∣ lst x l ∧ ∀ c ∈ l, c.toNat ∣ lst x l := by
  intro l
  induction l with
  | nil => intro x; exact ⟨Nat.dvd_refl _, fun c h => by cases h⟩
  | cons c r ih =>
    intro x
    obtain ⟨h1, h2⟩ := ih (x / Nat.gcd x c.toNat * c.toNat)
    obtain ⟨d1, d2⟩ := step_dvd x c.toNat
    refine ⟨Nat.dvd_trans d1 h1, fun b hb => ?_⟩
    rcases List.mem_cons.1 hb with rfl | hb
    · exact Nat.dvd_trans d2 h1
    · exact h2 b hb
theorem cyc_marked (p : List Int) (h : isPerm p = true) : ∀ j : Nat, j ≤ p.length → ClosedP p (cycAt p j).1 ∧ ∀ i, i < j → Mk (cycAt p j).1 i := by
  intro j
  induction j with
  | zero => intro hj; exact ⟨(cycAt_inv h 0 hj).2, fun i hi => by omega⟩
  | succ j ih =>
    intro hj
    obtain ⟨hs, hm⟩ := ih (by omega)
    have hc := count_false_le p j
    obtain ⟨a, b, c, d⟩ := walk_all p h p.length (cycAt p j).1 0 j (cycAt_length1 p j) hc (by omega) (fun k hk hmk => .inl (hs k hk hmk))
    rw [cycAt_succ]
    refine ⟨a, fun i hi => ?_⟩
    by_cases e : i = j
    · subst e; exact b
    · exact c i (hm i (by omega))
theorem count_all : ∀ s : List Bool, (∀ i (h : i < s.length), s[i] = true) → s.count true = s.length := by
  intro s
  induction s with
  | nil => intro _; rfl
  | cons b s ih =>
    intro h
    have h0 := h 0 (by simp)
    simp at h0
    subst h0
    have := ih (fun i hi => by have := h (i + 1) (by simp; omega); simpa using this)
    simp [this]
theorem cycL_sum (p : List Int) (h : isPerm p = true) : sumL (cycL p) = p.length := by
  obtain ⟨h1, h2⟩ := cycAt_sum p h p.length (Nat.le_refl _)
  have hm := (cyc_marked p h p.length (Nat.le_refl _)).2
  have hl := cycAt_length1 p p.length
  have := count_all (cycAt p p.length).1 (fun i hi => by
    have := hm i (by omega)
    unfold Mk at this
    rwa [rdOf_nat _ _ i hi] at this)
  show sumL (cycAt p p.length).2 = p.length
  rw [h1, this, hl]
theorem sum_loop (l : List Int) (hl : l.length ≤ 400) (hr : ∀ c ∈ l, 1 ≤ c) : ∀ d j : Nat, j + d = l.length → ∀ x : Int, 0 ≤ x → x + sumL (l.drop j) ≤ 64 → Ev (fun k => laws_sum.l0 k l x (j : Nat)) (x + sumL (l.drop j)) := by
  intro d
  induction d with
  | zero =>
    intro j hj x hx hs
    obtain rfl : j = l.length := by omega
    refine Ev.step (fun k => ?_) (Ev.now _)
    simp only [laws_sum.l0]; rw [if_neg (by omega), List.drop_length]; show some x = some (x + 0); rw [Int.add_zero]
  | succ d ih =>
    intro j hj x hx hs
    have hd : l.drop j = rd l (j : Nat) :: l.drop (j + 1) := by rw [List.drop_eq_getElem_cons (by omega), rd_nat l j (by omega)]
    have hm : rd l (j : Nat) ∈ l := by rw [rd_nat l j (by omega)]; exact List.getElem_mem _
    have h1 := hr _ hm
    have hn := sumL_nonneg (l.drop (j + 1)) (fun c h => hr c (List.mem_of_mem_drop h))
    rw [hd, sumL_cons] at hs ⊢
    have := ih (j + 1) (by omega) (x + rd l (j : Nat)) (by omega) (by omega)
    rw [show x + (rd l (j : Nat) + sumL (l.drop (j + 1))) = x + rd l (j : Nat) + sumL (l.drop (j + 1)) from by omega]
    refine Ev.step (fun k => ?_) this
    simp only [laws_sum.l0]
    rw [if_pos (by omega), if_pos (by omega), w64 (x := x + rd l (j : Nat)) (by omega) (by omega), w64 (by omega) (by omega)]; rfl
theorem rd_comp (p q : List Int) (i : Nat) (hi : i < p.length) : rd (compL p q) (i : Nat) = rd q (rd p (i : Nat)) := by
  unfold compL
  rw [rd_nat _ i (by rw [List.length_map]; exact hi), List.getElem_map, rd_nat p i hi]
theorem comp_perm {p q : List Int} (hp : isPerm p = true) (hq : isPerm q = true) (hl : p.length = q.length) : isPerm (compL p q) = true := by
  have hlen : (compL p q).length = p.length := by unfold compL; rw [List.length_map]
  have h64 := ((isPerm_iff p).1 hp).1
  refine isPerm_of (by omega) (fun j hj => ?_) (fun i j hi hj e => ?_)
  · rw [hlen] at hj ⊢
    rw [rd_comp p q j hj]
    have h1 := perm_at hp j hj
    obtain ⟨v, hv⟩ := Int.eq_ofNat_of_zero_le h1.1
    rw [hv]
    have := perm_at hq v (by omega)
    omega
  · rw [hlen] at hi hj
    rw [rd_comp p q i hi, rd_comp p q j hj] at e
    have h1 := perm_at hp i hi
    have h2 := perm_at hp j hj
    obtain ⟨v, hv⟩ := Int.eq_ofNat_of_zero_le h1.1
    obtain ⟨u, hu⟩ := Int.eq_ofNat_of_zero_le h2.1
    rw [hv, hu] at e
    have := perm_inj hq v u (by omega) (by omega) e
    exact perm_inj hp i j hi hj (by omega)
theorem comp_inv {p q : List Int} (hp : isPerm p = true) (hq : isPerm q = true) (hl : p.length = q.length) : compL (compL p q) (invL q) = p := by
  have hlen : (compL p q).length = p.length := by unfold compL; rw [List.length_map]
  apply rd_ext (by unfold compL; rw [List.length_map, List.length_map])
  intro i hi
  have hi' : i < p.length := by unfold compL at hi; rw [List.length_map, List.length_map] at hi; exact hi
  rw [rd_comp _ _ i (by omega), rd_comp p q i hi']
  have h1 := perm_at hp i hi'
  obtain ⟨v, hv⟩ := Int.eq_ofNat_of_zero_le h1.1
  rw [hv]
  exact inv_at hq v (by omega)
theorem perms_j2 (p q : List Int) : Ev (fun k => laws_FnPermutations.j2 k p q (compP p q).1 (compP p q).2) true := by
  unfold compP
  by_cases h : isPerm p = true ∧ isPerm q = true
  · rw [if_pos h]
    by_cases e : p.length = q.length
    · rw [if_pos e]
      have h64 := ((isPerm_iff p).1 h.1).1
      have e1 : invP q = (invL q, 0) := by unfold invP; rw [if_pos h.2]
      have hc := comp_perm h.1 h.2 e
      have e2 : compP (compL p q) (invL q) = (p, 0) := by
        unfold compP
        rw [if_pos ⟨hc, inv_perm h.2⟩, if_pos (by unfold compL; rw [List.length_map, invL_length]; exact e), comp_inv h.1 h.2 e]
      obtain ⟨K1, h1⟩ := impl_Inv_ev q
      obtain ⟨K2, h2⟩ := impl_Comp_ev (compL p q) (invL q)
      rw [e1] at h1
      rw [e2] at h2
      obtain ⟨K3, h3⟩ := likeInts_ev p (by omega)
      refine ⟨K1 + K2 + K3 + 1, fun n hn => ?_⟩
      obtain ⟨k, rfl⟩ : ∃ m, n = m + 1 := ⟨n - 1, by omega⟩
      simp only [laws_FnPermutations.j2, h1 k (by omega), h2 k (by omega), h3 k (by omega), impl_IsPerm_eq, hc, Option.bind_some, if_true]
    · rw [if_neg e]
      refine ⟨1, fun n hn => ?_⟩
      obtain ⟨k, rfl⟩ : ∃ m, n = m + 1 := ⟨n - 1, by omega⟩
      simp only [laws_FnPermutations.j2]; rw [if_neg (by omega)]
  · rw [if_neg h]
    refine ⟨1, fun n hn => ?_⟩
    obtain ⟨k, rfl⟩ : ∃ m, n = m + 1 := ⟨n - 1, by omega⟩
    simp only [laws_FnPermutations.j2]; rw [if_neg (by omega)]
theorem perms_l0 (p q y : List Int) (hy : isPerm y = true) (x : Int) (hx : ∀ c ∈ cycL y, Int.tmod x c = 0) : ∀ d j : Nat, j + d = (cycL y).length → Ev (fun k => laws_FnPermutations.l0 k p q (compP p q).1 (compP p q).2 y x (cycL y) 0 (j : Nat)) true := by
  obtain ⟨s1, s2⟩ := cycL_sum_le y hy
  have hl := cycL_length y hy
  intro d
  induction d with
  | zero =>
    intro j hj
    obtain ⟨K1, h1⟩ := sum_loop (cycL y) (by omega) s2 (cycL y).length 0 (by omega) 0 (by omega) (by simpa using s1)
    obtain ⟨K2, h2⟩ := perms_j2 p q
    have hs : (0 : Int) + sumL ((cycL y).drop 0) = y.length := by rw [List.drop_zero, cycL_sum y hy, Int.zero_add]
    rw [hs] at h1
    refine ⟨K1 + K2 + 1, fun n hn => ?_⟩
    obtain ⟨k, rfl⟩ : ∃ m, n = m + 1 := ⟨n - 1, by omega⟩
    have h1 : laws_sum.f k (cycL y) = some (y.length : Int) := h1 k (by omega)
    simp only [laws_FnPermutations.l0, h1, Option.bind_some, if_true]
    rw [if_neg (by omega)]; exact h2 k (by omega)
  | succ d ih =>
    intro j hj
    have hm : rd (cycL y) (j : Nat) ∈ cycL y := by rw [rd_nat _ j (by omega)]; exact List.getElem_mem _
    have h1 := s2 _ hm
    have h2 := hx _ hm
    refine Ev.step (fun k => ?_) (ih (j + 1) (by omega))
    simp only [laws_FnPermutations.l0]
    rw [if_pos (by omega), if_pos (by omega), if_neg (by omega), if_neg (by omega), if_pos h2, w64 (by omega) (by omega)]; rfl
theorem perms_j0 (p q y : List Int) : Ev (fun k => laws_FnPermutations.j0 k p q (compP p q).1 (compP p q).2 y (ordP y).1 (ordP y).2 false) true := by
  unfold ordP
  by_cases h : isPerm y = true
  · rw [if_pos h]
    unfold ordR
    by_cases hb : ((lst 1 (cycL y) : Nat) : Int) > 1000000000
    · rw [if_pos hb]
      obtain ⟨K2, h2⟩ := perms_j2 p q
      refine ⟨K2 + 1, fun n hn => ?_⟩
      obtain ⟨k, rfl⟩ : ∃ m, n = m + 1 := ⟨n - 1, by omega⟩
      simp only [laws_FnPermutations.j0]
      rw [if_neg (by simp), if_neg (by omega)]; exact h2 k (by omega)
    · rw [if_neg hb]
      have hd := (lst_dvd (cycL y) 1).2
      obtain ⟨s1, s2⟩ := cycL_sum_le y h
      have hx : ∀ c ∈ cycL y, Int.tmod ((lst 1 (cycL y) : Nat) : Int) c = 0 := by
        intro c hc
        obtain ⟨m, hm⟩ := Int.eq_ofNat_of_zero_le (show 0 ≤ c by have := s2 c hc; omega)
        have := hd c hc
        rw [hm] at this ⊢
        rw [Int.toNat_natCast] at this
        rw [tmod_cast, Nat.mod_eq_zero_of_dvd this]; rfl
      obtain ⟨K1, h1⟩ := impl_Cyc_ev y
      have e1 : cycP y = (cycL y, 0) := by unfold cycP; rw [if_pos h]
      rw [e1] at h1
      obtain ⟨K2, h2⟩ := perms_l0 p q y h _ hx (cycL y).length 0 (by omega)
      refine ⟨K1 + K2 + 1, fun n hn => ?_⟩
      obtain ⟨k, rfl⟩ : ∃ m, n = m + 1 := ⟨n - 1, by omega⟩
      simp only [laws_FnPermutations.j0, h1 k (by omega), Option.bind_some, if_true]
      rw [if_neg (by simp)]; exact h2 k (by omega)
  · rw [if_neg h]
    obtain ⟨K2, h2⟩ := perms_j2 p q
    refine ⟨K2 + 1, fun n hn => ?_⟩
    obtain ⟨k, rfl⟩ : ∃ m, n = m + 1 := ⟨n - 1, by omega⟩
    simp only [laws_FnPermutations.j0]
    rw [if_neg (by simp), if_neg (by omega)]; exact h2 k (by omega)
theorem FnPermutations : laws_FnPermutations.Pure := by
  intro l _ hl hw
  have hb := bytes_of hw
  by_cases hbig : (l.length : Int) > 4096
  · refine ⟨0, ?_⟩
    unfold laws_FnPermutations.f laws_big.f
    simp [hbig]
  obtain ⟨p, q, hd, hpl, hql⟩ := drawComp_some hb (by omega)
  obtain ⟨y, hd2, hyl⟩ := drawOrd_some hb (by omega)
  unfold laws_FnPermutations.f laws_big.f
  simp only [Option.bind_some, decide_eq_false hbig]
  have hcl := compP_length p q
  refine Ev.rounds (Ev.bind hd (Ev.bind (impl_Comp_ev p q) (Ev.bind (spec_Comp_ev p q (by omega) (by omega)) (Ev.bind hd2 (Ev.bind (impl_Ord_ev y) (Ev.bind (spec_Ord_ev y (by omega)) ?_))))))
  simp only [if_true]
  refine Ev.bind (likeInts_ev (compP p q).1 (by omega)) ?_
  simp only [if_true, impl_IsPerm_eq, Option.bind_some]
  refine Ev.bind (spec_IsPerm_ev p (by omega)) ?_
  simp only [bne_self_eq_false]
  exact perms_j0 p q y
end Go.Proofs.Ytkidfehpikfahaa.Pure
