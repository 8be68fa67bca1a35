/- Lemmas on the seat's printed functions: Perm. -/
import Derived.Test.YtkidfehpikfahaaXx4
import Derived.Test.YtkidfehpikfahaaMBase
import Derived.Test.YtkidfehpikfahaaMIn
import Derived.Test.YtkidfehpikfahaaMInts
namespace Go.Proofs.Ytkidfehpikfahaa.M
set_option linter.unusedVariables false
set_option linter.unusedSimpArgs false
open Go.RowKit Go.Proofs.Ytkidfehpikfahaa.X Go.Proofs.YtkidfehpikfahaaW.PrintWords Go.Proofs.YtkidfehpikfahaaW.PrintLast Go.Proofs.YtkidfehpikfahaaW.PrintMore
theorem rdOf_nat {α : Type} (d : α) (l : List α) (j : Nat) (h : j < l.length) : rdOf d l (j : Int) = l[j] := by
  unfold rdOf; rw [List.getD_eq_getElem?_getD, Int.toNat_natCast, List.getElem?_eq_getElem h]; rfl
theorem rdOf_set {α : Type} (d : α) (l : List α) (j : Int) (x : α) (hj : 0 ≤ j) (h : j < l.length) (i : Int) (hi : 0 ≤ i) : rdOf d (l.set j.toNat x) i = if i = j then x else rdOf d l i := by
  unfold rdOf
  rw [List.getD_eq_getElem?_getD, List.getD_eq_getElem?_getD, List.getElem?_set]
  by_cases e : i = j
  · subst e; rw [if_pos rfl, if_pos (by omega), if_pos rfl]; rfl
  · rw [if_neg (by omega), if_neg e]
/-- what 'seen' is good for -/
theorem go_iff (n : Nat) : ∀ (r : List Int) (s : List Bool), n ≤ s.length → (impl_IsPermutation.go n r s = true ↔ (∀ x ∈ r, 0 ≤ x ∧ x < n ∧ rdOf false s x = false) ∧ r.Nodup) := by
  intro r
  induction r with
  | nil => intro s hs; simp [impl_IsPermutation.go]
  | cons k r ih =>
    intro s hs
    unfold impl_IsPermutation.go
    by_cases h : 0 ≤ k ∧ k ≤ (n : Int) - 1
    · rw [if_pos h]
      by_cases h2 : rdOf false s k = true
      · rw [if_pos h2]
        constructor
        · intro z; cases z
        · intro z; have := (z.1 k List.mem_cons_self).2.2; rw [this] at h2; cases h2
      · rw [if_neg h2, ih (s.set k.toNat true) (by rw [List.length_set]; exact hs)]
        rw [List.nodup_cons]
        constructor
        · rintro ⟨a, b⟩
          refine ⟨fun x hx => ?_, fun hk => ?_, b⟩
          · rcases List.mem_cons.1 hx with rfl | hx
            · exact ⟨h.1, by omega, by simpa using h2⟩
            · obtain ⟨p, q, t⟩ := a x hx
              rw [rdOf_set _ _ _ _ h.1 (by omega) _ p] at t
              by_cases e : x = k
              · rw [if_pos e] at t; cases t
              · rw [if_neg e] at t; exact ⟨p, q, t⟩
          · obtain ⟨p, q, t⟩ := a k hk
            rw [rdOf_set _ _ _ _ h.1 (by omega) _ p, if_pos rfl] at t; cases t
        · rintro ⟨a, hk, b⟩
          refine ⟨fun x hx => ?_, b⟩
          obtain ⟨p, q, t⟩ := a x (List.mem_cons_of_mem _ hx)
          refine ⟨p, q, ?_⟩
          rw [rdOf_set _ _ _ _ h.1 (by omega) _ p, if_neg (fun e => hk (by rw [← e]; exact hx))]; exact t
    · rw [if_neg h]
      constructor
      · intro z; cases z
      · intro z; have := z.1 k List.mem_cons_self; omega
/-- a permutation of its length's points -/
def isPerm (l : List Int) : Bool := decide (l.length ≤ 64 ∧ (∀ x ∈ l, 0 ≤ x ∧ x < l.length) ∧ l.Nodup)
theorem isPerm_iff (l : List Int) : isPerm l = true ↔ l.length ≤ 64 ∧ (∀ x ∈ l, 0 ≤ x ∧ x < l.length) ∧ l.Nodup := by unfold isPerm; exact decide_eq_true_iff
theorem rdOf_replicate (n : Nat) (x : Int) : rdOf false (List.replicate n false) x = false := by
  unfold rdOf; rw [List.getD_eq_getElem?_getD, List.getElem?_replicate]; split <;> rfl
theorem go_start (l : List Int) (m : Nat) (h : l.length ≤ m) : impl_IsPermutation.go l.length l (List.replicate m false) = true ↔ (∀ x ∈ l, 0 ≤ x ∧ x < l.length) ∧ l.Nodup := by
  rw [go_iff l.length l _ (by rw [List.length_replicate]; exact h)]
  simp only [rdOf_replicate, and_true]
theorem impl_IsPerm_eq (l : List Int) : impl_IsPermutation.f l = some (isPerm l) := by
  unfold impl_IsPermutation.f
  congr 1
  rw [Bool.eq_iff_iff, isPerm_iff]
  by_cases h : l.length > 64
  · rw [if_pos h]
    constructor
    · intro z; cases z
    · intro z; have := z.1; omega
  · rw [if_neg h, go_start l 64 (by omega)]
    exact ⟨fun z => ⟨by omega, z⟩, fun z => z.2⟩
theorem spec_IsPerm_loop (l : List Int) (hl : l.length ≤ 1048576) : ∀ (d j : Nat), j + d = l.length → ∀ s : List Bool, s.length = l.length →
    Ev (fun k => spec_IsPermutation.l0 k l s (j : Nat)) (impl_IsPermutation.go l.length (l.drop j) s && decide ((l.length : Int) ≤ 64)) := by
  intro d
  induction d with
  | zero =>
    intro j hj s hs
    obtain rfl : j = l.length := by omega
    refine Ev.step (fun k => ?_) (Ev.now _)
    simp only [spec_IsPermutation.l0]
    rw [if_neg (by omega), List.drop_length]; rfl
  | succ d ih =>
    intro j hj s hs
    have hd : l.drop j = rd l j :: l.drop (j + 1) := by rw [List.drop_eq_getElem_cons (by omega), rd_nat l j (by omega)]
    obtain ⟨x, hx⟩ : ∃ x, rd l (j : Nat) = x := ⟨_, rfl⟩
    rw [hd, hx]
    unfold impl_IsPermutation.go
    have hw : wrap64 ((l.length : Int) - 1) = (l.length : Int) - 1 := w64 (by omega) (by omega)
    by_cases h : 0 ≤ x ∧ x ≤ (l.length : Int) - 1
    · rw [if_pos h]
      by_cases h2 : rdOf false s x = true
      · rw [if_pos h2]
        refine Ev.step (fun k => ?_) (Ev.now _)
        simp only [spec_IsPermutation.l0, hx, l01In_eq, hw, Option.bind_some, decide_eq_true h, if_true]
        rw [if_pos (by omega), if_pos (by omega), if_pos h.1, if_pos (by omega), if_pos h2]; rfl
      · rw [if_neg h2]
        refine Ev.step (fun k => ?_) (ih (j + 1) (by omega) (s.set x.toNat true) (by rw [List.length_set]; exact hs))
        simp only [spec_IsPermutation.l0, hx, l01In_eq, hw, Option.bind_some, decide_eq_true h, if_true]
        rw [if_pos (by omega), if_pos (by omega), if_pos h.1, if_pos (by omega), if_neg h2, w64 (by omega) (by omega)]; rfl
    · rw [if_neg h]
      refine Ev.step (fun k => ?_) (Ev.now _)
      simp only [spec_IsPermutation.l0, hx, l01In_eq, hw, Option.bind_some, decide_eq_false h]
      rw [if_pos (by omega), if_pos (by omega)]; rfl
theorem spec_IsPerm_ev (l : List Int) (hl : l.length ≤ 1048576) : Ev (fun k => spec_IsPermutation.f k l) (isPerm l) := by
  have h := spec_IsPerm_loop l hl l.length 0 (by omega) (List.replicate l.length false) (by simp)
  rw [List.drop_zero] at h
  have e : (impl_IsPermutation.go l.length l (List.replicate l.length false) && decide ((l.length : Int) ≤ 64)) = isPerm l := by
    rw [Bool.eq_iff_iff, isPerm_iff, Bool.and_eq_true, go_start l l.length (Nat.le_refl _), decide_eq_true_iff]
    exact ⟨fun z => ⟨by omega, z.1⟩, fun z => ⟨z.2, by omega⟩⟩
  rw [e] at h
  unfold spec_IsPermutation.f
  simp only [if_pos (show 0 ≤ (l.length : Int) by omega), Int.toNat_natCast, if_pos (show l.length ≤ 281474976710656 by omega)]
  exact h
end Go.Proofs.Ytkidfehpikfahaa.M
