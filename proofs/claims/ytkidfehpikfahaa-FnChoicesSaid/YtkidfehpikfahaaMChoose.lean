/- Lemmas on the seat's printed functions: Choose. -/
import Derived.Test.YtkidfehpikfahaaXx2
import Derived.Test.YtkidfehpikfahaaXx3
import Derived.Test.YtkidfehpikfahaaMBase
import Derived.Test.YtkidfehpikfahaaMIn
namespace Go.Proofs.Ytkidfehpikfahaa.M
set_option linter.unusedVariables false
set_option linter.unusedSimpArgs false
open Go.RowKit Go.Proofs.Ytkidfehpikfahaa.X Go.Proofs.YtkidfehpikfahaaW.PrintWords Go.Proofs.YtkidfehpikfahaaW.PrintLast Go.Proofs.YtkidfehpikfahaaW.PrintMore
/-- binomials, cut at the limit -/
def cb : Nat → Nat → Int
  | 0, 0 => 1
  | 0, _ + 1 => 0
  | _ + 1, 0 => 1
  | n + 1, k + 1 => mn (cb n k + cb n (k + 1)) 1000000001
theorem cb_range (n k : Nat) : 0 ≤ cb n k ∧ cb n k ≤ 1000000001 := by
  induction n generalizing k with
  | zero => cases k <;> simp [cb]
  | succ n ih =>
    cases k with
    | zero => simp [cb]
    | succ k => have h1 := ih k; have h2 := ih (k + 1); unfold cb mn; split <;> omega
theorem cb_zero (n : Nat) : cb n 0 = 1 := by cases n <;> rfl
theorem cb_gt (n k : Nat) (h : n < k) : cb n k = 0 := by
  induction n generalizing k with
  | zero => cases k with
    | zero => omega
    | succ k => rfl
  | succ n ih => cases k with
    | zero => omega
    | succ k => unfold cb; rw [ih k (by omega), ih (k + 1) (by omega)]; decide
theorem cb_self (n : Nat) : cb n n = 1 := by
  induction n with
  | zero => rfl
  | succ n ih => unfold cb; rw [ih, cb_gt n (n + 1) (by omega)]; decide
def row (n m : Nat) : List Int := (List.range m).map (cb n)
theorem row_length (n m : Nat) : (row n m).length = m := by simp [row]
theorem row_snoc (n m : Nat) : row n (m + 1) = row n m ++ [cb n m] := by simp [row, List.range_succ]
theorem rd_row (n m : Nat) (i : Int) (h0 : 0 ≤ i) (h : i < m) : rd (row n m) i = cb n i.toNat := by
  unfold rd row
  rw [List.getD_eq_getElem?_getD, List.getElem?_map, List.getElem?_range (by omega)]; rfl
theorem mn_comm (a b : Int) : mn a b = mn b a := by unfold mn; split <;> split <;> omega
theorem spec_l1_ev (x0 x1 : Int) (n : Nat) (hn : n < 100) (r) (H : Ev (fun k => spec_ChooseOf.l0 k x0 x1 (row (n + 1) (n + 2)) (n + 1 : Nat)) r) :
    ∀ d j : Nat, j + d = n + 1 → 1 ≤ j → Ev (fun k => spec_ChooseOf.l1 k x0 x1 (row n (n + 1)) (n : Nat) (row (n + 1) j) (j : Nat)) r := by
  intro d
  induction d with
  | zero =>
    intro j hj h1
    refine Ev.step (fun k => ?_) H
    obtain rfl : j = n + 1 := by omega
    simp only [spec_ChooseOf.l1, row_length]
    rw [if_neg (by omega), if_pos (by omega), w64 (by omega) (by omega), show row (n + 1) (n + 2) = row (n + 1) (n + 1) ++ [1] from by rw [row_snoc, cb_self]]; rfl
  | succ d ih =>
    intro j hj h1
    refine Ev.step (fun k => ?_) (ih (j + 1) (by omega) (by omega))
    simp only [spec_ChooseOf.l1, row_length]
    have c1 := cb_range n (j - 1); have c2 := cb_range n j
    rw [if_pos (by omega), w64 (x := (j : Int) - 1) (by omega) (by omega), if_pos (by omega), if_pos (by omega), if_pos (by omega), if_pos (by omega)]
    rw [rd_row _ _ _ (by omega) (by omega), rd_row _ _ _ (by omega) (by omega), show ((j : Int) - 1).toNat = j - 1 from by omega, Int.toNat_natCast]
    rw [w64 (by omega) (by omega), w64 (by omega) (by omega), mn_comm, row_snoc (n + 1) j]
    obtain ⟨i, rfl⟩ : ∃ i, j = i + 1 := ⟨j - 1, by omega⟩
    rfl
/-- what both come to -/
def chooseP (n k : Int) : Int × Int := if 0 ≤ n ∧ n ≤ 64 ∧ 0 ≤ k ∧ k ≤ n then (if cb n.toNat k.toNat > 1000000000 then (0, 3) else (cb n.toNat k.toNat, 0)) else (0, 2)
theorem spec_l0_ev (n k : Nat) (hn : n ≤ 64) (hk : k ≤ n) : ∀ d i : Nat, i + d = n → Ev (fun q => spec_ChooseOf.l0 q n k (row i (i + 1)) i) (if cb n k > 1000000000 then (0, 3) else (cb n k, 0)) := by
  intro d
  induction d with
  | zero =>
    intro i hi
    obtain rfl : i = n := by omega
    refine Ev.step (fun q => ?_) (Ev.now _)
    simp only [spec_ChooseOf.l0, row_length]
    rw [if_neg (by omega), if_pos (by omega), if_pos (by omega), rd_row _ _ _ (by omega) (by omega), Int.toNat_natCast]
    split <;> rfl
  | succ d ih =>
    intro i hi
    refine Ev.step (fun q => ?_) (spec_l1_ev n k i (by omega) _ (ih (i + 1) (by omega)) i 1 (by omega) (by omega))
    simp only [spec_ChooseOf.l0]
    rw [if_pos (by omega)]; simp [row, cb]
theorem spec_Choose_ev (n k : Int) : Ev (fun q => spec_ChooseOf.f q n k) (chooseP n k) := by
  simp only [spec_ChooseOf.f, l01In_eq, Option.bind_some]
  by_cases h : 0 ≤ n ∧ n ≤ 64
  · simp only [decide_eq_true h, if_true]
    by_cases h' : 0 ≤ k ∧ k ≤ n
    · rw [decide_eq_true h']
      refine Ev.step (f := fun q => spec_ChooseOf.l0 q n k [1] 0) (fun q => by simp [spec_ChooseOf.j0]) ?_
      obtain ⟨n, rfl⟩ := Int.eq_ofNat_of_zero_le h.1
      obtain ⟨k, rfl⟩ := Int.eq_ofNat_of_zero_le h'.1
      have := spec_l0_ev n k (by omega) (by omega) n 0 (by omega)
      unfold chooseP; rw [if_pos (by omega)]; exact this
    · rw [decide_eq_false h']
      unfold chooseP; rw [if_neg (by omega)]
      exact Ev.step (f := fun _ => some (0, 2)) (fun q => by simp [spec_ChooseOf.j0]) (Ev.now _)
  · simp only [decide_eq_false h]
    unfold chooseP; rw [if_neg (by omega)]
    exact Ev.step (f := fun _ => some (0, 2)) (fun q => by simp [spec_ChooseOf.j0]) (Ev.now _)
/-- the program's row after some rounds, those above 'j' being a round ahead -/
def mixed (n m j : Nat) : List Int := (List.range m).map fun i => if i ≤ j then cb n i else cb (n + 1) i
theorem mixed_length (n m j : Nat) : (mixed n m j).length = m := by simp [mixed]
theorem rd_mixed (n m j : Nat) (i : Int) (h0 : 0 ≤ i) (h : i < m) (h1 : i ≤ j) : rd (mixed n m j) i = cb n i.toNat := by
  unfold rd mixed
  rw [List.getD_eq_getElem?_getD, List.getElem?_map, List.getElem?_range (by omega)]; simp; omega
theorem mixed_set (n m j : Nat) (h : j + 1 < m) : (mixed n m (j + 1)).set (j + 1) (cb (n + 1) (j + 1)) = mixed n m j := by
  apply List.ext_getElem?
  intro i
  rw [List.getElem?_set, mixed_length]
  unfold mixed
  by_cases hi : i < m
  · rw [List.getElem?_map, List.getElem?_map, List.getElem?_range hi]; simp only [Option.map_some]
    by_cases e : j + 1 = i
    · subst e; rw [if_pos rfl, if_pos hi, if_neg (by omega)]
    · rw [if_neg e]
      by_cases l : i ≤ j
      · rw [if_pos l, if_pos (by omega)]
      · rw [if_neg l, if_neg (by omega)]
  · rw [if_neg (by omega)]; simp [hi]
theorem mixed_top (n m : Nat) (h : 0 < m) : mixed n m (m - 1) = row n m := by
  unfold mixed row; apply List.map_congr_left; intro i hi; rw [if_pos (by have := List.mem_range.1 hi; omega)]
theorem mixed_zero (n m : Nat) : mixed n m 0 = row (n + 1) m := by
  unfold mixed row; apply List.map_congr_left; intro i hi
  cases i with
  | zero => simp [cb_zero]
  | succ i => simp
theorem impl_l1_ev (n k : Nat) (x22 : Int) (hk : k ≤ 64) (hn : n ≤ 64) (r) (H : Ev (fun q => impl_ChooseOf.l0 q k (row (n + 1) (k + 1)) x22 (n + 1 : Nat)) r) : ∀ j : Nat, j ≤ k → Ev (fun q => impl_ChooseOf.l1 q k (mixed n (k + 1) j) j x22 n) r := by
  intro j
  induction j with
  | zero =>
    intro _
    refine Ev.step (fun q => ?_) H
    simp only [impl_ChooseOf.l1]
    rw [if_neg (by omega), mixed_zero, w64 (by omega) (by omega)]; rfl
  | succ j ih =>
    intro hj
    refine Ev.step (fun q => ?_) (ih (by omega))
    simp only [impl_ChooseOf.l1, mixed_length]
    have c1 := cb_range n (j + 1); have c2 := cb_range n j
    rw [if_pos (by omega), if_pos (by omega), if_pos (by omega), w64 (x := ((j + 1 : Nat) : Int) - 1) (by omega) (by omega), if_pos (by omega), if_pos (by omega)]
    rw [rd_mixed _ _ _ _ (by omega) (by omega) (by omega), rd_mixed _ _ _ _ (by omega) (by omega) (by omega), Int.toNat_natCast, show (((j + 1 : Nat) : Int) - 1).toNat = j from by omega, show (((j + 1 : Nat) : Int) - 1) = j from by omega]
    rw [w64 (by omega) (by omega), Int.add_comm, ← mixed_set n (k + 1) j (by omega)]; rfl
theorem impl_l0_ev (n k : Nat) (hn : n ≤ 64) (hk : k ≤ n) : ∀ d i : Nat, i + d = n → Ev (fun q => impl_ChooseOf.l0 q k (row i (k + 1)) n i) (if cb n k > 1000000000 then (0, 3) else (cb n k, 0)) := by
  intro d
  induction d with
  | zero =>
    intro i hi
    obtain rfl : i = n := by omega
    refine Ev.step (fun q => ?_) (Ev.now _)
    simp only [impl_ChooseOf.l0, row_length]
    rw [if_neg (by omega), if_pos (by omega), if_pos (by omega), rd_row _ _ _ (by omega) (by omega), Int.toNat_natCast]
    split <;> rfl
  | succ d ih =>
    intro i hi
    refine Ev.step (fun q => ?_) (impl_l1_ev i k n (by omega) (by omega) _ (ih (i + 1) (by omega)) k (by omega))
    simp only [impl_ChooseOf.l0]
    rw [if_pos (by omega), ← mixed_top i (k + 1) (by omega)]; rfl
theorem row_first (k : Nat) : (List.replicate (k + 1) (0 : Int)).set 0 1 = row 0 (k + 1) := by
  apply List.ext_getElem?
  intro i
  unfold row
  rw [List.getElem?_set, List.getElem?_map]
  cases i with
  | zero => simp [cb]
  | succ i =>
    by_cases h : i + 1 < k + 1
    · rw [List.getElem?_range h]; simp [List.getElem?_replicate, cb]; omega
    · simp [h]
theorem impl_Choose_ev (n k : Int) : Ev (fun q => impl_ChooseOf.f q n k) (chooseP n k) := by
  simp only [impl_ChooseOf.f, within_eq, Option.bind_some]
  by_cases h : 0 ≤ n ∧ n ≤ 64
  · simp only [decide_eq_true h, if_true]
    by_cases h' : 0 ≤ k ∧ k ≤ n
    · rw [decide_eq_true h']
      obtain ⟨n, rfl⟩ := Int.eq_ofNat_of_zero_le h.1
      obtain ⟨k, rfl⟩ := Int.eq_ofNat_of_zero_le h'.1
      refine Ev.step (f := fun q => impl_ChooseOf.l0 q k (row 0 (k + 1)) n 0) (fun q => ?_) ?_
      · simp only [impl_ChooseOf.j0]
        rw [if_neg (by simp), w64 (by omega) (by omega), if_pos (by omega), if_pos (by omega)]
        simp only [Option.bind_some, List.length_replicate]
        rw [if_pos (by omega), show ((k : Int) + 1).toNat = k + 1 from by omega, ← row_first]; rfl
      have := impl_l0_ev n k (by omega) (by omega) n 0 (by omega)
      unfold chooseP; rw [if_pos (by omega)]; exact this
    · rw [decide_eq_false h']
      unfold chooseP; rw [if_neg (by omega)]
      exact Ev.step (f := fun _ => some (0, 2)) (fun q => by simp [impl_ChooseOf.j0]) (Ev.now _)
  · simp only [decide_eq_false h]
    unfold chooseP; rw [if_neg (by omega)]
    exact Ev.step (f := fun _ => some (0, 2)) (fun q => by simp [impl_ChooseOf.j0]) (Ev.now _)
end Go.Proofs.Ytkidfehpikfahaa.M
