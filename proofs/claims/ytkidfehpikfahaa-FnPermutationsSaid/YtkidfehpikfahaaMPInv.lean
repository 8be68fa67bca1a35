/- Lemmas on the seat's printed functions: PInv. -/
import Derived.Test.YtkidfehpikfahaaXx0
import Derived.Test.YtkidfehpikfahaaMBase
import Derived.Test.YtkidfehpikfahaaMIn
import Derived.Test.YtkidfehpikfahaaMInts
import Derived.Test.YtkidfehpikfahaaMPerm
import Derived.Test.YtkidfehpikfahaaMInv
import Derived.Test.YtkidfehpikfahaaMCyc
import Derived.Test.YtkidfehpikfahaaMOrd
namespace Go.Proofs.Ytkidfehpikfahaa.M
set_option linter.unusedVariables false
set_option linter.unusedSimpArgs false
open Go.RowKit Go.Proofs.Ytkidfehpikfahaa.X Go.Proofs.YtkidfehpikfahaaW.PrintWords Go.Proofs.YtkidfehpikfahaaW.PrintLast Go.Proofs.YtkidfehpikfahaaW.PrintMore
theorem perm_inj {p : List Int} (h : isPerm p = true) (i j : Nat) (hi : i < p.length) (hj : j < p.length) (e : rd p (i : Nat) = rd p (j : Nat)) : i = j := by
  have hn := ((isPerm_iff p).1 h).2.2
  rw [rd_nat p i hi, rd_nat p j hj] at e
  rw [List.nodup_iff_pairwise_ne, List.pairwise_iff_getElem] at hn
  rcases Nat.lt_trichotomy i j with hlt | he | hgt
  · exact absurd e (hn i j hi hj hlt)
  · exact he
  · exact absurd e.symm (hn j i hj hi hgt)
theorem isPerm_of {p : List Int} (hl : p.length ≤ 64) (hr : ∀ j : Nat, j < p.length → 0 ≤ rd p (j : Nat) ∧ rd p (j : Nat) < p.length) (hi : ∀ i j : Nat, i < p.length → j < p.length → rd p (i : Nat) = rd p (j : Nat) → i = j) : isPerm p = true := by
  rw [isPerm_iff]
  refine ⟨hl, fun x hx => ?_, ?_⟩
  · obtain ⟨i, h, rfl⟩ := List.mem_iff_getElem.1 hx
    rw [← rd_nat p i h]; exact hr i h
  · rw [List.nodup_iff_pairwise_ne, List.pairwise_iff_getElem]
    intro i j h1 h2 hlt e
    rw [← rd_nat p i h1, ← rd_nat p j h2] at e
    have := hi i j h1 h2 e
    omega
/-- what has no two alike and lies in another as long has all of it -/
theorem full_of_nodup {α : Type} [DecidableEq α] {a b : List α} (hn : a.Nodup) (hs : a ⊆ b) (hl : b.length ≤ a.length) : b ⊆ a := by
  intro x hx
  apply Classical.byContradiction
  intro hxa
  have h1 : (x :: a).Nodup := List.nodup_cons.2 ⟨hxa, hn⟩
  have h2 : (x :: a) ⊆ b := by
    intro y hy
    rcases List.mem_cons.1 hy with rfl | hy
    · exact hx
    · exact hs hy
  have := List.Nodup.length_le_of_subset h1 h2
  rw [List.length_cons] at this
  omega
theorem perm_surj {p : List Int} (h : isPerm p = true) (v : Nat) (hv : v < p.length) : ∃ i, i < p.length ∧ rd p (i : Nat) = v := by
  have hp := (isPerm_iff p).1 h
  have hs : p ⊆ (List.range p.length).map (fun i : Nat => (i : Int)) := by
    intro x hx
    have := hp.2.1 x hx
    rw [List.mem_map]
    exact ⟨x.toNat, List.mem_range.2 (by omega), by omega⟩
  have hv' := full_of_nodup hp.2.2 hs (by simp) (List.mem_map.2 ⟨v, List.mem_range.2 hv, rfl⟩)
  obtain ⟨i, hi, e⟩ := List.mem_iff_getElem.1 hv'
  exact ⟨i, hi, by rw [rd_nat p i hi]; exact e⟩
theorem invAt_at {p : List Int} (h : isPerm p = true) : ∀ j : Nat, j ≤ p.length → ∀ i : Nat, i < j → rd (invAt p j) (rd p (i : Nat)) = i := by
  intro j
  induction j with
  | zero => intro _ i hi; omega
  | succ j ih =>
    intro hj i hi
    have hp := perm_at h j (by omega)
    have hpi := perm_at h i (by omega)
    rw [invAt_succ]
    have e : ∀ (x : List Int) (a : Int) , rd x a = rdOf 0 x a := fun _ _ => rfl
    rw [e, rdOf_set _ _ _ _ hp.1 (by rw [invAt_length]; exact hp.2) _ hpi.1]
    by_cases hij : i = j
    · subst hij; rw [if_pos rfl]
    · rw [if_neg (fun he => hij (perm_inj h i j (by omega) (by omega) he)), ← e]
      exact ih (by omega) i (by omega)
theorem inv_at {p : List Int} (h : isPerm p = true) (i : Nat) (hi : i < p.length) : rd (invL p) (rd p (i : Nat)) = i := invAt_at h p.length (Nat.le_refl _) i hi
theorem invL_length (p : List Int) : (invL p).length = p.length := invAt_length p p.length
theorem inv_at' {p : List Int} (h : isPerm p = true) (v : Nat) (hv : v < p.length) : ∃ i : Nat, i < p.length ∧ rd p (i : Nat) = v ∧ rd (invL p) (v : Nat) = i := by
  obtain ⟨i, hi, e⟩ := perm_surj h v hv
  exact ⟨i, hi, e, by rw [← e]; exact inv_at h i hi⟩
theorem inv_perm {p : List Int} (h : isPerm p = true) : isPerm (invL p) = true := by
  have hl := ((isPerm_iff p).1 h).1
  refine isPerm_of (by rw [invL_length]; exact hl) (fun v hv => ?_) (fun v w hv hw e => ?_)
  · rw [invL_length] at hv ⊢
    obtain ⟨i, hi, _, e⟩ := inv_at' h v hv
    rw [e]; omega
  · rw [invL_length] at hv hw
    obtain ⟨i, hi, e1, e2⟩ := inv_at' h v hv
    obtain ⟨j, hj, e3, e4⟩ := inv_at' h w hw
    rw [e2, e4] at e
    have : i = j := by omega
    subst this
    omega
theorem rd_ext {a b : List Int} (hl : a.length = b.length) (h : ∀ i : Nat, i < a.length → rd a (i : Nat) = rd b (i : Nat)) : a = b := by
  apply List.ext_getElem hl
  intro i h1 h2
  have := h i h1
  rwa [rd_nat a i h1, rd_nat b i h2] at this
theorem inv_inv {p : List Int} (h : isPerm p = true) : invL (invL p) = p := by
  apply rd_ext (by rw [invL_length, invL_length])
  intro i hi
  rw [invL_length, invL_length] at hi
  have hp := perm_at h i hi
  obtain ⟨v, hv⟩ := Int.eq_ofNat_of_zero_le hp.1
  have hvl : v < p.length := by omega
  have h1 := inv_at (inv_perm h) v (by rw [invL_length]; exact hvl)
  have h2 := inv_at h i hi
  rw [hv] at h2
  rw [h2] at h1
  rw [h1, hv]
/-- a point is marked -/
def Mk (s : List Bool) (k : Nat) : Prop := rdOf false s (k : Nat) = true
theorem Mk_set {s : List Bool} {j k : Nat} (hj : j < s.length) : Mk (s.set j true) k ↔ k = j ∨ Mk s k := by
  unfold Mk
  have := rdOf_set false s (j : Nat) true (by omega) (by omega) (k : Nat) (by omega)
  rw [Int.toNat_natCast] at this
  rw [this]
  by_cases e : k = j
  · subst e; simp
  · rw [if_neg (by omega)]; simp [e]
/-- the marks lead to marks, but for the point that the walk has come to -/
def Led (p : List Int) (s : List Bool) (x : Int) : Prop := ∀ k : Nat, k < p.length → Mk s k → (∃ m : Nat, rd p (k : Nat) = m ∧ Mk s m) ∨ rd p (k : Nat) = x
def ClosedP (p : List Int) (s : List Bool) : Prop := ∀ k : Nat, k < p.length → Mk s k → ∃ m : Nat, rd p (k : Nat) = m ∧ Mk s m
theorem walk_all (p : List Int) (h : isPerm p = true) : ∀ (f : Nat) (s : List Bool) (n : Int) (x : Nat), s.length = p.length → s.count false ≤ f → x < p.length → Led p s (x : Nat) →
    ClosedP p (walk p f s n (x : Nat)).1 ∧ Mk (walk p f s n (x : Nat)).1 x ∧ (∀ k, Mk s k → Mk (walk p f s n (x : Nat)).1 k) ∧ ∀ C : Nat → Prop, (∀ k, Mk s k → C k) → C x → (∀ k m : Nat, k < p.length → C k → rd p (k : Nat) = m → C m) → ∀ k, Mk (walk p f s n (x : Nat)).1 k → C k := by
  intro f
  induction f with
  | zero =>
    intro s n x hs hc hx hL
    have hm : Mk s x := by
      unfold Mk
      rw [rdOf_nat false s x (by omega)]
      cases e : s[x]'(by omega) with
      | true => rfl
      | false => have := count_false_pos s x (by omega) e; omega
    refine ⟨fun k hk hmk => ?_, hm, fun k hk => hk, fun C h1 _ _ k hk => h1 k hk⟩
    rcases hL k hk hmk with h1 | h1
    · exact h1
    · exact ⟨x, h1, hm⟩
  | succ f ih =>
    intro s n x hs hc hx hL
    unfold walk
    by_cases hm : rdOf false s (x : Nat) = true
    · rw [if_pos hm]
      refine ⟨fun k hk hmk => ?_, hm, fun k hk => hk, fun C h1 _ _ k hk => h1 k hk⟩
      rcases hL k hk hmk with h1 | h1
      · exact h1
      · exact ⟨x, h1, hm⟩
    · rw [if_neg hm, Int.toNat_natCast]
      have hp := perm_at h x hx
      obtain ⟨y, hy⟩ := Int.eq_ofNat_of_zero_le hp.1
      have hsx : s[x]'(by omega) = false := by rw [rdOf_nat false s x (by omega)] at hm; simpa using hm
      have hk := (count_mark s x (by omega) hsx).2
      rw [hy]
      have hL2 : Led p (s.set x true) (y : Nat) := by
        intro k hk hmk
        rcases (Mk_set (by omega)).1 hmk with rfl | hmk
        · exact .inr hy
        · rcases hL k hk hmk with ⟨m, e, hm⟩ | e
          · exact .inl ⟨m, e, (Mk_set (by omega)).2 (.inr hm)⟩
          · exact .inl ⟨x, e, (Mk_set (by omega)).2 (.inl rfl)⟩
      obtain ⟨a, b, c, d⟩ := ih (s.set x true) (n + 1) y (by rw [List.length_set]; exact hs) (by omega) (by omega) hL2
      refine ⟨a, c x ((Mk_set (by omega)).2 (.inl rfl)), fun k hk => c k ((Mk_set (by omega)).2 (.inr hk)), fun C h1 h2 h3 k hk => ?_⟩
      refine d C (fun k hk => ?_) (h3 x y hx h2 hy) h3 k hk
      rcases (Mk_set (by omega)).1 hk with rfl | hk
      · exact h2
      · exact h1 k hk
/-- what is shut under a permutation is shut under its inverse -/
theorem shut_inv {p : List Int} (h : isPerm p = true) {s : List Bool} (hsh : ClosedP p s) : ClosedP (invL p) s := by
  intro k hk hm
  rw [invL_length] at hk
  have key : (List.range p.length).filter (fun i => rdOf false s (i : Nat)) ⊆ ((List.range p.length).filter (fun i => rdOf false s (i : Nat))).map (fun i => (rd p (i : Nat)).toNat) := by
    refine full_of_nodup ?_ ?_ (by rw [List.length_map]; exact Nat.le_refl _)
    · rw [List.nodup_iff_pairwise_ne, List.pairwise_map]
      have hn : ((List.range p.length).filter (fun i => rdOf false s (i : Nat))).Nodup := List.Nodup.sublist List.filter_sublist List.nodup_range
      rw [List.nodup_iff_pairwise_ne] at hn
      refine List.Pairwise.imp_of_mem ?_ hn
      intro a b ha hb hne e
      have ha' := List.mem_range.1 (List.mem_filter.1 ha).1
      have hb' := List.mem_range.1 (List.mem_filter.1 hb).1
      have h1 := perm_at h a ha'
      have h2 := perm_at h b hb'
      exact hne (perm_inj h a b ha' hb' (by omega))
    · intro y hy
      obtain ⟨a, ha, rfl⟩ := List.mem_map.1 hy
      have ha1 := List.mem_range.1 (List.mem_filter.1 ha).1
      have ha2 := (List.mem_filter.1 ha).2
      obtain ⟨m, e, hm⟩ := hsh a ha1 ha2
      have h1 := perm_at h a ha1
      rw [e] at h1 ⊢
      rw [Int.toNat_natCast]
      exact List.mem_filter.2 ⟨List.mem_range.2 (by omega), hm⟩
  have hkm : k ∈ (List.range p.length).filter (fun i => rdOf false s (i : Nat)) := List.mem_filter.2 ⟨List.mem_range.2 hk, hm⟩
  obtain ⟨a, ha, e⟩ := List.mem_map.1 (key hkm)
  have ha1 := List.mem_range.1 (List.mem_filter.1 ha).1
  have ha2 := (List.mem_filter.1 ha).2
  have h1 := perm_at h a ha1
  have h2 := inv_at h a ha1
  have : rd p (a : Nat) = k := by omega
  rw [this] at h2
  exact ⟨a, h2, ha2⟩
theorem walk_inv {p : List Int} (h : isPerm p = true) (s : List Bool) (x : Nat) (hs : s.length = p.length) (hx : x < p.length) (hsh : ClosedP p s) : walk p p.length s 0 (x : Nat) = walk (invL p) (invL p).length s 0 (x : Nat) ∧ ClosedP p (walk p p.length s 0 (x : Nat)).1 := by
  have hq := inv_perm h
  have hql := invL_length p
  have hc : s.count false ≤ p.length := by have := count_both s; omega
  obtain ⟨a1, b1, c1, d1⟩ := walk_all p h p.length s 0 x hs hc hx (fun k hk hm => .inl (hsh k hk hm))
  obtain ⟨a2, b2, c2, d2⟩ := walk_all (invL p) hq (invL p).length s 0 x (by rw [hql]; exact hs) (by rw [hql]; exact hc) (by rw [hql]; exact hx) (fun k hk hm => .inl (shut_inv h hsh k hk hm))
  have s1 := shut_inv h a1
  have s2 := shut_inv hq a2
  rw [inv_inv h] at s2
  have l1 := walk_length p p.length s 0 (x : Nat)
  have l2 := walk_length (invL p) (invL p).length s 0 (x : Nat)
  have e12 : ∀ k, Mk (walk p p.length s 0 (x : Nat)).1 k → Mk (walk (invL p) (invL p).length s 0 (x : Nat)).1 k := by
    refine d1 _ c2 b2 (fun k m hk hm e => ?_)
    obtain ⟨m', e', hm'⟩ := s2 k hk hm
    have : m = m' := by omega
    rw [this]; exact hm'
  have e21 : ∀ k, Mk (walk (invL p) (invL p).length s 0 (x : Nat)).1 k → Mk (walk p p.length s 0 (x : Nat)).1 k := by
    refine d2 _ c1 b1 (fun k m hk hm e => ?_)
    obtain ⟨m', e', hm'⟩ := s1 k hk hm
    have : m = m' := by omega
    rw [this]; exact hm'
  have efst : (walk p p.length s 0 (x : Nat)).1 = (walk (invL p) (invL p).length s 0 (x : Nat)).1 := by
    apply List.ext_getElem (by rw [l1, l2])
    intro i h1 h2
    have g1 := e12 i
    have g2 := e21 i
    unfold Mk at g1 g2
    rw [rdOf_nat _ _ i h1, rdOf_nat _ _ i h2] at g1 g2
    exact Bool.eq_iff_iff.2 ⟨g1, g2⟩
  refine ⟨Prod.ext efst ?_, a1⟩
  have n1 := walk_count p (perm_all h) p.length s 0 (x : Nat) hs (by omega) (by omega)
  have n2 := walk_count (invL p) (perm_all hq) (invL p).length s 0 (x : Nat) (by rw [hql]; exact hs) (by omega) (by rw [hql]; omega)
  rw [← efst] at n2
  omega
theorem cycAt_inv {p : List Int} (h : isPerm p = true) : ∀ j : Nat, j ≤ p.length → cycAt (invL p) j = cycAt p j ∧ ClosedP p (cycAt p j).1 := by
  intro j
  induction j with
  | zero =>
    intro _
    refine ⟨by unfold cycAt; rw [invL_length]; rfl, fun k hk hm => ?_⟩
    exact absurd hm (by unfold Mk; show ¬ rdOf false (List.replicate p.length false) (k : Nat) = true; rw [rdOf_replicate]; simp)
  | succ j ih =>
    intro hj
    obtain ⟨e, hs⟩ := ih (by omega)
    obtain ⟨w1, w2⟩ := walk_inv h (cycAt p j).1 j (cycAt_length1 p j) (by omega) hs
    rw [cycAt_succ, cycAt_succ, e, ← w1]
    exact ⟨rfl, w2⟩
theorem cycL_inv {p : List Int} (h : isPerm p = true) : cycL (invL p) = cycL p := by
  unfold cycL
  rw [invL_length, (cycAt_inv h p.length (Nat.le_refl _)).1]
end Go.Proofs.Ytkidfehpikfahaa.M
