/- The program's ColumnCounts returns what the reference's returns, for all arguments, without any condition. -/
import Derived.Test.YtlhlilgienicfaaXx0
import Derived.Test.YtlhlilgienicfaaXx10
import Derived.Test.YtlhlilgienicfaaXx12
import Derived.Test.YtlhlilgienicfaaXx13
import Derived.Test.YtlhlilgienicfaaXx2
import Derived.Test.YtlhlilgienicfaaXx27
import Derived.Test.YtlhlilgienicfaaXx3
import Derived.Test.YtlhlilgienicfaaXx4
import Derived.Test.YtlhlilgienicfaaXx7
import Derived.Test.YtlhlilgienicfaaXx8
import Derived.Test.YtlhlilgienicfaaXx9
namespace Go.Proofs.Ytlhlilgienicfaa.X
set_option linter.unusedVariables false
set_option linter.unusedSimpArgs false
open Go.RowKit Go.Proofs.Ytlhlilgienicfaa.X Go.Proofs.YtlhlilgienicfaaW.PrintWords Go.Proofs.YtlhlilgienicfaaW.PrintLast Go.Proofs.YtlhlilgienicfaaW.PrintMore
def laws_FnExactColumnCounts.Pure : Prop := ∀ (l0 : List S32), l0.length ≤ 9223372036854775807 → (∀ x ∈ l0, (Lit.int .i64 x.f0).wf = true ∧ (Lit.int .i64 x.f1).wf = true) → ∃ k, laws_FnExactColumnCounts.f k l0 = some true
end Go.Proofs.Ytlhlilgienicfaa.X
namespace Go.Proofs.Ytlhlilgienicfaa.M
set_option linter.unusedVariables false
set_option linter.unusedSimpArgs false
open Go.RowKit Go.Proofs.Ytlhlilgienicfaa.X Go.Proofs.YtlhlilgienicfaaW.PrintWords Go.Proofs.YtlhlilgienicfaaW.PrintLast Go.Proofs.YtlhlilgienicfaaW.PrintMore
/-! ### Base -/
theorem w64 {x : Int} (h1 : -9223372036854775808 ≤ x) (h2 : x ≤ 9223372036854775807) : wrap64 x = x := by unfold wrap64; omega
theorem w64_lo (x : Int) : -9223372036854775808 ≤ wrap64 x := by unfold wrap64; omega
theorem w64_hi (x : Int) : wrap64 x ≤ 9223372036854775807 := by unfold wrap64; omega
theorem rd_byte {c : List Int} (h : ∀ x ∈ c, 0 ≤ x ∧ x ≤ 255) (i : Int) : 0 ≤ rd c i ∧ rd c i ≤ 255 := by
  unfold rd
  rw [List.getD_eq_getElem?_getD]
  by_cases hi : i.toNat < c.length
  · rw [List.getElem?_eq_getElem hi]; exact h _ (List.getElem_mem hi)
  · rw [List.getElem?_eq_none (by omega)]; decide
theorem tmod_pos {a n : Int} (h : 0 ≤ a) (hn : 0 < n) : 0 ≤ Int.tmod a n ∧ Int.tmod a n < n := by
  rw [Int.tmod_eq_emod_of_nonneg h]; exact ⟨Int.emod_nonneg _ (by omega), Int.emod_lt_of_pos _ hn⟩
theorem tmod_cast (a b : Nat) : Int.tmod (a : Int) b = ((a % b : Nat) : Int) := by
  rw [Int.tmod_eq_emod_of_nonneg (by omega)]; rfl
theorem bytes_of {l : List Int} (h : ∀ x ∈ l, (Lit.int .u8 x).wf = true) : ∀ x ∈ l, 0 ≤ x ∧ x ≤ 255 := by
  intro x hx
  have := h x hx
  simp only [Lit.wf, Bool.and_eq_true, decide_eq_true_eq] at this
  exact this
/-! ### Cell -/
abbrev C := S34
/-- the cell at a place, the zero cell behind the end -/
def at_ (l : List C) (j : Nat) : C := l.getD j ⟨0, 0⟩
theorem rd_at (l : List C) (j : Nat) : rd_T34 l (j : Int) = at_ l j := by unfold rd_T34 at_; rw [Int.toNat_natCast]; rfl
theorem at_get (l : List C) (j : Nat) (h : j < l.length) : at_ l j = l[j] := by unfold at_; rw [List.getD_eq_getElem?_getD, List.getElem?_eq_getElem h]; rfl
theorem at_mem (l : List C) (j : Nat) (h : j < l.length) : at_ l j ∈ l := by rw [at_get l j h]; exact List.getElem_mem h
theorem drop_at (l : List C) (j : Nat) (h : j < l.length) : l.drop j = at_ l j :: l.drop (j + 1) := by rw [at_get l j h, List.drop_eq_getElem_cons h]
/-- from some number of rounds on -/
def AE (P : Nat → Prop) : Prop := ∃ K, ∀ k, K ≤ k → P k
theorem AE.and {P Q : Nat → Prop} (h : AE P) (g : AE Q) : AE (fun k => P k ∧ Q k) := by
  obtain ⟨K, h⟩ := h; obtain ⟨L, g⟩ := g
  exact ⟨K + L, fun k hk => ⟨h k (by omega), g k (by omega)⟩⟩
theorem AE.up {P : Nat → Prop} (h : AE P) : ∃ K, ∀ n, P (K + n) := by
  obtain ⟨K, h⟩ := h; exact ⟨K, fun n => h _ (by omega)⟩
theorem evae {α : Type} {g : Nat → Option α} {a : α} (h : Ev g a) : AE (fun k => g k = some a) := h
theorem evup {α : Type} {g : Nat → Option α} {a : α} (h : Ev g a) : ∃ K, ∀ n, g (K + n) = some a := AE.up h
theorem ev2 {α0 α1 : Type} {g0 : Nat → Option α0} {g1 : Nat → Option α1} {a0 : α0} {a1 : α1} (h0 : Ev g0 a0) (h1 : Ev g1 a1) : ∃ K, (∀ n, g0 (K + n) = some a0) ∧ (∀ n, g1 (K + n) = some a1) := by
  obtain ⟨K, h⟩ := AE.up (AE.and (evae h0) (evae h1)); exact ⟨K, fun n => (h n).1, fun n => (h n).2⟩
theorem ev3 {α0 α1 α2 : Type} {g0 : Nat → Option α0} {g1 : Nat → Option α1} {g2 : Nat → Option α2} {a0 : α0} {a1 : α1} {a2 : α2} (h0 : Ev g0 a0) (h1 : Ev g1 a1) (h2 : Ev g2 a2) : ∃ K, (∀ n, g0 (K + n) = some a0) ∧ (∀ n, g1 (K + n) = some a1) ∧ (∀ n, g2 (K + n) = some a2) := by
  obtain ⟨K, h⟩ := AE.up (AE.and (evae h0) (AE.and (evae h1) (evae h2))); exact ⟨K, fun n => (h n).1, fun n => (h n).2.1, fun n => (h n).2.2⟩
theorem ev4 {α0 α1 α2 α3 : Type} {g0 : Nat → Option α0} {g1 : Nat → Option α1} {g2 : Nat → Option α2} {g3 : Nat → Option α3} {a0 : α0} {a1 : α1} {a2 : α2} {a3 : α3} (h0 : Ev g0 a0) (h1 : Ev g1 a1) (h2 : Ev g2 a2) (h3 : Ev g3 a3) : ∃ K, (∀ n, g0 (K + n) = some a0) ∧ (∀ n, g1 (K + n) = some a1) ∧ (∀ n, g2 (K + n) = some a2) ∧ (∀ n, g3 (K + n) = some a3) := by
  obtain ⟨K, h⟩ := AE.up (AE.and (evae h0) (AE.and (evae h1) (AE.and (evae h2) (evae h3)))); exact ⟨K, fun n => (h n).1, fun n => (h n).2.1, fun n => (h n).2.2.1, fun n => (h n).2.2.2⟩
theorem ev5 {α0 α1 α2 α3 α4 : Type} {g0 : Nat → Option α0} {g1 : Nat → Option α1} {g2 : Nat → Option α2} {g3 : Nat → Option α3} {g4 : Nat → Option α4} {a0 : α0} {a1 : α1} {a2 : α2} {a3 : α3} {a4 : α4} (h0 : Ev g0 a0) (h1 : Ev g1 a1) (h2 : Ev g2 a2) (h3 : Ev g3 a3) (h4 : Ev g4 a4) : ∃ K, (∀ n, g0 (K + n) = some a0) ∧ (∀ n, g1 (K + n) = some a1) ∧ (∀ n, g2 (K + n) = some a2) ∧ (∀ n, g3 (K + n) = some a3) ∧ (∀ n, g4 (K + n) = some a4) := by
  obtain ⟨K, h⟩ := AE.up (AE.and (evae h0) (AE.and (evae h1) (AE.and (evae h2) (AE.and (evae h3) (evae h4))))); exact ⟨K, fun n => (h n).1, fun n => (h n).2.1, fun n => (h n).2.2.1, fun n => (h n).2.2.2.1, fun n => (h n).2.2.2.2⟩
theorem ev6 {α0 α1 α2 α3 α4 α5 : Type} {g0 : Nat → Option α0} {g1 : Nat → Option α1} {g2 : Nat → Option α2} {g3 : Nat → Option α3} {g4 : Nat → Option α4} {g5 : Nat → Option α5} {a0 : α0} {a1 : α1} {a2 : α2} {a3 : α3} {a4 : α4} {a5 : α5} (h0 : Ev g0 a0) (h1 : Ev g1 a1) (h2 : Ev g2 a2) (h3 : Ev g3 a3) (h4 : Ev g4 a4) (h5 : Ev g5 a5) : ∃ K, (∀ n, g0 (K + n) = some a0) ∧ (∀ n, g1 (K + n) = some a1) ∧ (∀ n, g2 (K + n) = some a2) ∧ (∀ n, g3 (K + n) = some a3) ∧ (∀ n, g4 (K + n) = some a4) ∧ (∀ n, g5 (K + n) = some a5) := by
  obtain ⟨K, h⟩ := AE.up (AE.and (evae h0) (AE.and (evae h1) (AE.and (evae h2) (AE.and (evae h3) (AE.and (evae h4) (evae h5)))))); exact ⟨K, fun n => (h n).1, fun n => (h n).2.1, fun n => (h n).2.2.1, fun n => (h n).2.2.2.1, fun n => (h n).2.2.2.2.1, fun n => (h n).2.2.2.2.2⟩
theorem ev7 {α0 α1 α2 α3 α4 α5 α6 : Type} {g0 : Nat → Option α0} {g1 : Nat → Option α1} {g2 : Nat → Option α2} {g3 : Nat → Option α3} {g4 : Nat → Option α4} {g5 : Nat → Option α5} {g6 : Nat → Option α6} {a0 : α0} {a1 : α1} {a2 : α2} {a3 : α3} {a4 : α4} {a5 : α5} {a6 : α6} (h0 : Ev g0 a0) (h1 : Ev g1 a1) (h2 : Ev g2 a2) (h3 : Ev g3 a3) (h4 : Ev g4 a4) (h5 : Ev g5 a5) (h6 : Ev g6 a6) : ∃ K, (∀ n, g0 (K + n) = some a0) ∧ (∀ n, g1 (K + n) = some a1) ∧ (∀ n, g2 (K + n) = some a2) ∧ (∀ n, g3 (K + n) = some a3) ∧ (∀ n, g4 (K + n) = some a4) ∧ (∀ n, g5 (K + n) = some a5) ∧ (∀ n, g6 (K + n) = some a6) := by
  obtain ⟨K, h⟩ := AE.up (AE.and (evae h0) (AE.and (evae h1) (AE.and (evae h2) (AE.and (evae h3) (AE.and (evae h4) (AE.and (evae h5) (evae h6))))))); exact ⟨K, fun n => (h n).1, fun n => (h n).2.1, fun n => (h n).2.2.1, fun n => (h n).2.2.2.1, fun n => (h n).2.2.2.2.1, fun n => (h n).2.2.2.2.2.1, fun n => (h n).2.2.2.2.2.2⟩
theorem ev8 {α0 α1 α2 α3 α4 α5 α6 α7 : Type} {g0 : Nat → Option α0} {g1 : Nat → Option α1} {g2 : Nat → Option α2} {g3 : Nat → Option α3} {g4 : Nat → Option α4} {g5 : Nat → Option α5} {g6 : Nat → Option α6} {g7 : Nat → Option α7} {a0 : α0} {a1 : α1} {a2 : α2} {a3 : α3} {a4 : α4} {a5 : α5} {a6 : α6} {a7 : α7} (h0 : Ev g0 a0) (h1 : Ev g1 a1) (h2 : Ev g2 a2) (h3 : Ev g3 a3) (h4 : Ev g4 a4) (h5 : Ev g5 a5) (h6 : Ev g6 a6) (h7 : Ev g7 a7) : ∃ K, (∀ n, g0 (K + n) = some a0) ∧ (∀ n, g1 (K + n) = some a1) ∧ (∀ n, g2 (K + n) = some a2) ∧ (∀ n, g3 (K + n) = some a3) ∧ (∀ n, g4 (K + n) = some a4) ∧ (∀ n, g5 (K + n) = some a5) ∧ (∀ n, g6 (K + n) = some a6) ∧ (∀ n, g7 (K + n) = some a7) := by
  obtain ⟨K, h⟩ := AE.up (AE.and (evae h0) (AE.and (evae h1) (AE.and (evae h2) (AE.and (evae h3) (AE.and (evae h4) (AE.and (evae h5) (AE.and (evae h6) (evae h7)))))))); exact ⟨K, fun n => (h n).1, fun n => (h n).2.1, fun n => (h n).2.2.1, fun n => (h n).2.2.2.1, fun n => (h n).2.2.2.2.1, fun n => (h n).2.2.2.2.2.1, fun n => (h n).2.2.2.2.2.2.1, fun n => (h n).2.2.2.2.2.2.2⟩
theorem ev9 {α0 α1 α2 α3 α4 α5 α6 α7 α8 : Type} {g0 : Nat → Option α0} {g1 : Nat → Option α1} {g2 : Nat → Option α2} {g3 : Nat → Option α3} {g4 : Nat → Option α4} {g5 : Nat → Option α5} {g6 : Nat → Option α6} {g7 : Nat → Option α7} {g8 : Nat → Option α8} {a0 : α0} {a1 : α1} {a2 : α2} {a3 : α3} {a4 : α4} {a5 : α5} {a6 : α6} {a7 : α7} {a8 : α8} (h0 : Ev g0 a0) (h1 : Ev g1 a1) (h2 : Ev g2 a2) (h3 : Ev g3 a3) (h4 : Ev g4 a4) (h5 : Ev g5 a5) (h6 : Ev g6 a6) (h7 : Ev g7 a7) (h8 : Ev g8 a8) : ∃ K, (∀ n, g0 (K + n) = some a0) ∧ (∀ n, g1 (K + n) = some a1) ∧ (∀ n, g2 (K + n) = some a2) ∧ (∀ n, g3 (K + n) = some a3) ∧ (∀ n, g4 (K + n) = some a4) ∧ (∀ n, g5 (K + n) = some a5) ∧ (∀ n, g6 (K + n) = some a6) ∧ (∀ n, g7 (K + n) = some a7) ∧ (∀ n, g8 (K + n) = some a8) := by
  obtain ⟨K, h⟩ := AE.up (AE.and (evae h0) (AE.and (evae h1) (AE.and (evae h2) (AE.and (evae h3) (AE.and (evae h4) (AE.and (evae h5) (AE.and (evae h6) (AE.and (evae h7) (evae h8))))))))); exact ⟨K, fun n => (h n).1, fun n => (h n).2.1, fun n => (h n).2.2.1, fun n => (h n).2.2.2.1, fun n => (h n).2.2.2.2.1, fun n => (h n).2.2.2.2.2.1, fun n => (h n).2.2.2.2.2.2.1, fun n => (h n).2.2.2.2.2.2.2.1, fun n => (h n).2.2.2.2.2.2.2.2⟩
/-- a loop over a row of cells without a way out: the state is carried by g -/
theorem ev_fold {σ β : Type} (F : Nat → σ → Int → Option β) (l : List C) (g : σ → C → σ) (fin : σ → Option β) (r : β) (inv : Nat → σ → Prop)
    (step : ∀ k s (j : Nat), j < l.length → at_ l j ∈ l → inv j s → F (k + 1) s (j : Nat) = F k (g s (at_ l j)) ((j + 1 : Nat) : Int) ∧ inv (j + 1) (g s (at_ l j)))
    (done : ∀ k s, inv l.length s → F (k + 1) s (l.length : Nat) = fin s) (j0 : Nat) (hj0 : j0 ≤ l.length) (s0 : σ) (h0 : inv j0 s0) (hr : fin ((l.drop j0).foldl g s0) = some r) : Ev (fun k => F k s0 (j0 : Nat)) r := by
  have key : ∀ d j : Nat, j + d = l.length → ∀ s, inv j s → fin ((l.drop j).foldl g s) = some r → Ev (fun k => F k s (j : Nat)) r := by
    intro d
    induction d with
    | zero =>
      intro j hj s hs hr
      obtain rfl : j = l.length := by omega
      refine Ev.step (fun k => done k s hs) ?_
      rw [List.drop_length] at hr
      have hr' : fin s = some r := hr
      rw [hr']; exact Ev.now r
    | succ d ih =>
      intro j hj s hs hr
      have h : j < l.length := by omega
      refine Ev.step (fun k => (step k s j h (at_mem l j h) hs).1) (ih (j + 1) (by omega) _ ((step 0 s j h (at_mem l j h) hs).2) ?_)
      rw [drop_at l j h] at hr; exact hr
  exact key (l.length - j0) j0 (by omega) s0 h0 hr
/-! ### CellS -/
/-- the cells that a law's parameter stands for -/
def cs (l : List S32) : List C := l.map fun c => ⟨c.f0, c.f1⟩
theorem cs_length (l : List S32) : (cs l).length = l.length := by simp [cs]
theorem sz_cases (l : List S32) (hl : l.length ≤ 9223372036854775807) (b : Int) (hb : 0 ≤ b) (hb2 : b ≤ 1048576) :
    (b < (l.length : Int) ∧ laws_szCellS.f l b = some (-1)) ∨ ((l.length : Int) ≤ b ∧ laws_szCellS.f l b = some (b - (l.length : Int))) := by
  unfold laws_szCellS.f
  rw [w64 (by omega) (by omega)]
  by_cases h : b - (l.length : Int) < 0
  · exact Or.inl ⟨by omega, by rw [if_pos h]⟩
  · exact Or.inr ⟨by omega, by rw [if_neg h]⟩
theorem toCell_loop (l : List S32) (hl : l.length ≤ 1048576) : ∀ d j : Nat, j + d = l.length → ∀ x : List C, x.length = l.length → (∀ i, i < j → x[i]? = (cs l)[i]?) → Ev (fun k => laws_toCellS.l0 k l x (j : Nat)) (cs l) := by
  intro d
  induction d with
  | zero =>
    intro j hj x hx hi
    obtain rfl : x = cs l := by
      apply List.ext_getElem?
      intro i
      by_cases h : i < j
      · exact hi i h
      · rw [List.getElem?_eq_none (by omega), List.getElem?_eq_none (by rw [cs_length]; omega)]
    refine Ev.step (fun k => ?_) (Ev.now _)
    simp only [laws_toCellS.l0]; rw [if_neg (by omega)]
  | succ d ih =>
    intro j hj x hx hi
    have hc : (cs l)[j]? = some ⟨(rd_T32 l (j : Nat)).f0, (rd_T32 l (j : Nat)).f1⟩ := by
      unfold cs rd_T32; rw [List.getElem?_map, List.getD_eq_getElem?_getD, Int.toNat_natCast, List.getElem?_eq_getElem (by omega)]; rfl
    refine Ev.step (fun k => ?_) (ih (j + 1) (by omega) (x.set j ⟨(rd_T32 l (j : Nat)).f0, (rd_T32 l (j : Nat)).f1⟩) (by rw [List.length_set]; exact hx) ?_)
    · simp only [laws_toCellS.l0, laws_toCell.f, Option.bind_some]; rw [if_pos (by omega), if_pos (by omega), if_pos (by omega), w64 (by omega) (by omega)]; rfl
    · intro i h
      rw [List.getElem?_set]
      by_cases e : j = i
      · subst e; rw [if_pos rfl, if_pos (by omega), hc]
      · rw [if_neg e]; exact hi i (by omega)
theorem toCell_ev (l : List S32) (hl : l.length ≤ 1048576) : Ev (fun k => laws_toCellS.f k l) (cs l) := by
  unfold laws_toCellS.f
  simp only [if_pos (show 0 ≤ (l.length : Int) by omega), if_pos (show ((l.length : Int)).toNat ≤ 17592186044416 by omega)]
  exact toCell_loop l hl l.length 0 (by omega) _ (by simp) (by intro i h; omega)
theorem eqCell_loop (l : List C) (hl : l.length ≤ 140737488355328) : ∀ d j : Nat, j + d = l.length → Ev (fun k => laws_eqCellS.l0 k l l (j : Nat)) true := by
  intro d
  induction d with
  | zero =>
    intro j hj
    refine Ev.step (fun k => ?_) (Ev.now _)
    simp only [laws_eqCellS.l0]; rw [if_neg (by omega)]
  | succ d ih =>
    intro j hj
    refine Ev.step (fun k => ?_) (ih (j + 1) (by omega))
    simp only [laws_eqCellS.l0, laws_eqCell.f, if_true, Option.bind_some]; rw [if_pos (by omega), if_pos (by omega), if_pos (by omega), w64 (by omega) (by omega)]; rfl
theorem eqCell_ev (l : List C) (hl : l.length ≤ 140737488355328) : Ev (fun k => laws_eqCellS.f k l l) true := by
  unfold laws_eqCellS.f
  simp only [if_true]
  exact eqCell_loop l hl l.length 0 (by omega)
/-! ### In -/
theorem l01In_eq (a b c : Int) : spec_l01In.f a b c = some (decide (b ≤ a ∧ a ≤ c)) := by
  unfold spec_l01In.f; by_cases h : a ≥ b
  · rw [if_pos h]; simp [h]
  · rw [if_neg h]; simp; omega
theorem within_eq (a b c : Int) : impl_within.f a b c = some (decide (b ≤ a ∧ a ≤ c)) := l01In_eq a b c
/-! ### Shape -/
/-- the order of the cells: row by row -/
def ltC (a b : C) : Prop := a.f1 < b.f1 ∨ (a.f1 = b.f1 ∧ a.f0 < b.f0)
instance (a b : C) : Decidable (ltC a b) := by unfold ltC; exact inferInstance
def okC (a : C) : Prop := -100 ≤ a.f0 ∧ a.f0 ≤ 100 ∧ -100 ≤ a.f1 ∧ a.f1 ≤ 100
instance (a : C) : Decidable (okC a) := by unfold okC; exact inferInstance
/-- a shape: 1 to 40 cells within bounds, in the order of the cells -/
def Sh (l : List C) : Prop := 1 ≤ l.length ∧ l.length ≤ 40 ∧ (∀ i, i < l.length → okC (at_ l i)) ∧ (∀ i, i + 1 < l.length → ltC (at_ l i) (at_ l (i + 1)))
noncomputable def shB (l : List C) : Bool := @decide (Sh l) (Classical.propDecidable _)
theorem shB_true {l : List C} (h : Sh l) : shB l = true := @decide_eq_true _ (Classical.propDecidable _) h
theorem shB_false {l : List C} (h : ¬ Sh l) : shB l = false := @decide_eq_false _ (Classical.propDecidable _) h
theorem less_eq (a b c d : Int) : spec_l02Less.f a b c d = some (decide (ltC ⟨a, b⟩ ⟨c, d⟩)) := by
  unfold spec_l02Less.f ltC
  by_cases h : b < d
  · rw [if_pos h]; simp [h]
  · rw [if_neg h]
    by_cases e : b = d
    · rw [if_pos e]; simp [e]
    · rw [if_neg e]; simp [h, e]
theorem cellOk_eq (a b : Int) : spec_l02Cell.f a b = some (decide (okC ⟨a, b⟩)) := by
  unfold spec_l02Cell.f okC
  simp only [l01In_eq, Option.bind_some]
  by_cases h : -100 ≤ a ∧ a ≤ 100
  · simp [h]
  · simp only [decide_eq_false h, Bool.false_eq_true, if_false]; congr 1; exact (decide_eq_false (fun g => h ⟨g.1, g.2.1⟩)).symm
theorem isCo_eq (a : Int) : impl_isCoordinate.f a = some (decide (-100 ≤ a ∧ a ≤ 100)) := by
  unfold impl_isCoordinate.f; simp only [within_eq, Option.bind_some]
theorem cmp_eq (a b : Int) : cmp_Compare_int64.f a b = some (if a < b then -1 else if b < a then 1 else 0) := by
  unfold cmp_Compare_int64.f cmp_isNaN_int64.f
  simp only [bne_self_eq_false, Option.bind_some, Bool.false_eq_true, if_false]
  by_cases h : a < b
  · simp [h]
  · by_cases g : b < a <;> simp [h, g]
/-- -1, 0, 1: below, the same, above -/
def cmpC (a b : C) : Int := if ltC a b then -1 else if ltC b a then 1 else 0
theorem cmpCells_eq (a b c d : Int) : impl_compareCells.f a b c d = some (cmpC ⟨a, b⟩ ⟨c, d⟩) := by
  unfold impl_compareCells.f cmpC ltC
  simp only [cmp_eq, Option.bind_some]
  by_cases h : b < d
  · simp [h]
  · by_cases g : d < b
    · have : ¬ b = d := by omega
      have : ¬ d = b := by omega
      simp [*]
    · obtain rfl : b = d := by omega
      simp [h]
theorem cmpC_neg (a b : C) : (0 ≤ cmpC a b) ↔ ¬ ltC a b := by
  unfold cmpC; by_cases h : ltC a b
  · simp [h]
  · simp only [h, if_false, not_false_eq_true, iff_true]; split <;> omega
theorem specShape_loop (l : List C) (hl : l.length ≤ 1048576) : ∀ d j : Nat, j + d = l.length → (∀ i, i < j → okC (at_ l i)) → (∀ i, i + 1 < j → ltC (at_ l i) (at_ l (i + 1))) → Ev (fun k => spec_IsShape.l0 k l (j : Nat)) (shB l) := by
  intro d
  induction d with
  | zero =>
    intro j hj h1 h2
    obtain rfl : j = l.length := by omega
    refine Ev.step (fun k => ?_) (Ev.now _)
    simp only [spec_IsShape.l0, l01In_eq, Option.bind_some]; rw [if_neg (by omega)]
    congr 1
    by_cases h : 1 ≤ l.length ∧ l.length ≤ 40
    · rw [shB_true ⟨h.1, h.2, h1, h2⟩]; exact decide_eq_true (by omega)
    · rw [shB_false (fun g => h ⟨g.1, g.2.1⟩)]; exact decide_eq_false (by omega)
  | succ d ih =>
    intro j hj h1 h2
    by_cases c1 : okC (at_ l j)
    · have c1' : okC ⟨(at_ l j).f0, (at_ l j).f1⟩ := c1
      by_cases c2 : j = 0
      · subst c2
        refine Ev.step (fun k => ?_) (ih 1 (by omega) (fun i hi => by obtain rfl : i = 0 := (by omega); exact c1) (fun i hi => by omega))
        simp only [spec_IsShape.l0, rd_at, cellOk_eq, decide_eq_true c1', Option.bind_some, if_true]
        rw [if_pos (by omega), if_pos (by omega), if_neg (by omega), w64 (by omega) (by omega)]; rfl
      · obtain ⟨i, rfl⟩ : ∃ i, j = i + 1 := ⟨j - 1, by omega⟩
        have e : wrap64 (((i + 1 : Nat) : Int) - 1) = (i : Nat) := by rw [w64 (by omega) (by omega)]; omega
        by_cases c3 : ltC (at_ l i) (at_ l (i + 1))
        · have c3' : ltC ⟨(at_ l i).f0, (at_ l i).f1⟩ ⟨(at_ l (i + 1)).f0, (at_ l (i + 1)).f1⟩ := c3
          refine Ev.step (fun k => ?_) (ih (i + 1 + 1) (by omega) (fun x hx => if g : x = i + 1 then by rw [g]; exact c1 else h1 x (by omega)) (fun x hx => if g : x = i then by rw [g]; exact c3 else h2 x (by omega)))
          simp only [spec_IsShape.l0, rd_at, cellOk_eq, decide_eq_true c1', Option.bind_some, if_true, e, less_eq, decide_eq_true c3']
          rw [if_pos (by omega), if_pos (by omega), if_pos (by omega), if_pos (by omega), if_pos (by omega), w64 (by omega) (by omega)]; rfl
        · have c3' : ¬ ltC ⟨(at_ l i).f0, (at_ l i).f1⟩ ⟨(at_ l (i + 1)).f0, (at_ l (i + 1)).f1⟩ := c3
          rw [shB_false (fun g => c3 (g.2.2.2 i (by omega)))]
          refine Ev.step (fun k => ?_) (Ev.now _)
          simp only [spec_IsShape.l0, rd_at, cellOk_eq, decide_eq_true c1', Option.bind_some, if_true, e, less_eq, decide_eq_false c3', Bool.false_eq_true, if_false]
          rw [if_pos (by omega), if_pos (by omega), if_pos (by omega), if_pos (by omega), if_pos (by omega)]
    · have c1' : ¬ okC ⟨(at_ l j).f0, (at_ l j).f1⟩ := c1
      rw [shB_false (fun g => c1 (g.2.2.1 j (by omega)))]
      refine Ev.step (fun k => ?_) (Ev.now _)
      simp only [spec_IsShape.l0, rd_at, cellOk_eq, decide_eq_false c1', Option.bind_some, Bool.false_eq_true, if_false]
      rw [if_pos (by omega), if_pos (by omega)]
theorem specShape_ev (l : List C) (hl : l.length ≤ 1048576) : Ev (fun k => spec_IsShape.f k l) (shB l) :=
  specShape_loop l hl l.length 0 (by omega) (fun i hi => by omega) (fun i hi => by omega)
theorem implShape_loop (l : List C) (hl : l.length ≤ 1048576) : ∀ d j : Nat, j + d = l.length → (∀ i, i < j → okC (at_ l i)) → (∀ i, i + 1 < j → ltC (at_ l i) (at_ l (i + 1))) → Ev (fun k => impl_IsShape.l0 k l l (l.length : Int) (j : Nat)) (shB l) := by
  intro d
  induction d with
  | zero =>
    intro j hj h1 h2
    obtain rfl : j = l.length := by omega
    refine Ev.step (fun k => ?_) (Ev.now _)
    simp only [impl_IsShape.l0]; rw [if_neg (by omega)]
    by_cases h : 1 ≤ l.length ∧ l.length ≤ 40
    · rw [shB_true ⟨h.1, h.2, h1, h2⟩, if_pos (by omega)]; congr 1; exact decide_eq_true (by omega)
    · rw [shB_false (fun g => h ⟨g.1, g.2.1⟩)]
      by_cases g : (l.length : Int) ≥ 1
      · rw [if_pos g]; congr 1; exact decide_eq_false (by omega)
      · rw [if_neg g]
  | succ d ih =>
    intro j hj h1 h2
    by_cases c1 : okC (at_ l j)
    · have ca : -100 ≤ (at_ l j).f0 ∧ (at_ l j).f0 ≤ 100 := ⟨c1.1, c1.2.1⟩
      have cb : -100 ≤ (at_ l j).f1 ∧ (at_ l j).f1 ≤ 100 := c1.2.2
      by_cases c2 : j = 0
      · subst c2
        refine Ev.step (fun k => ?_) (ih 1 (by omega) (fun i hi => by obtain rfl : i = 0 := (by omega); exact c1) (fun i hi => by omega))
        simp only [impl_IsShape.l0, rd_at, isCo_eq, decide_eq_true ca, decide_eq_true cb, Option.bind_some, if_true]
        rw [if_pos (by omega), if_pos (by omega), if_pos (by omega), if_neg (by omega), w64 (by omega) (by omega)]; rfl
      · obtain ⟨i, rfl⟩ : ∃ i, j = i + 1 := ⟨j - 1, by omega⟩
        have e : wrap64 (((i + 1 : Nat) : Int) - 1) = (i : Nat) := by rw [w64 (by omega) (by omega)]; omega
        by_cases c3 : ltC (at_ l i) (at_ l (i + 1))
        · have c3' : ¬ (cmpC ⟨(at_ l i).f0, (at_ l i).f1⟩ ⟨(at_ l (i + 1)).f0, (at_ l (i + 1)).f1⟩ ≥ 0) := fun g => (cmpC_neg _ _).1 g c3
          refine Ev.step (fun k => ?_) (ih (i + 1 + 1) (by omega) (fun x hx => if g : x = i + 1 then by rw [g]; exact c1 else h1 x (by omega)) (fun x hx => if g : x = i then by rw [g]; exact c3 else h2 x (by omega)))
          simp only [impl_IsShape.l0, rd_at, isCo_eq, decide_eq_true ca, decide_eq_true cb, Option.bind_some, if_true, e, cmpCells_eq, if_neg c3']
          rw [if_pos (by omega), if_pos (by omega), if_pos (by omega), if_pos (by omega), if_pos (by omega), if_pos (by omega), w64 (by omega) (by omega)]; rfl
        · have c3' : cmpC ⟨(at_ l i).f0, (at_ l i).f1⟩ ⟨(at_ l (i + 1)).f0, (at_ l (i + 1)).f1⟩ ≥ 0 := (cmpC_neg _ _).2 c3
          rw [shB_false (fun g => c3 (g.2.2.2 i (by omega)))]
          refine Ev.step (fun k => ?_) (Ev.now _)
          simp only [impl_IsShape.l0, rd_at, isCo_eq, decide_eq_true ca, decide_eq_true cb, Option.bind_some, if_true, e, cmpCells_eq, if_pos c3']
          rw [if_pos (by omega), if_pos (by omega), if_pos (by omega), if_pos (by omega), if_pos (by omega), if_pos (by omega)]
    · rw [shB_false (fun g => c1 (g.2.2.1 j (by omega)))]
      refine Ev.step (fun k => ?_) (Ev.now _)
      simp only [impl_IsShape.l0, rd_at, isCo_eq, Option.bind_some]
      rw [if_pos (by omega), if_pos (by omega), if_pos (by omega)]
      by_cases ca : -100 ≤ (at_ l j).f0 ∧ (at_ l j).f0 ≤ 100
      · have cb : ¬ (-100 ≤ (at_ l j).f1 ∧ (at_ l j).f1 ≤ 100) := fun cb => c1 ⟨ca.1, ca.2, cb.1, cb.2⟩
        simp only [decide_eq_true ca, decide_eq_false cb, if_true, Bool.false_eq_true, if_false]
      · simp only [decide_eq_false ca, Bool.false_eq_true, if_false]
theorem implShape_ev (l : List C) (hl : l.length ≤ 1048576) : Ev (fun k => impl_IsShape.f k l) (shB l) :=
  implShape_loop l hl l.length 0 (by omega) (fun i hi => by omega) (fun i hi => by omega)
/-! ### ShUse -/
theorem mem_at {l : List C} {c : C} (h : c ∈ l) : ∃ i, i < l.length ∧ at_ l i = c := by
  obtain ⟨i, hi, e⟩ := List.mem_iff_getElem.1 h
  exact ⟨i, hi, (at_get l i hi).trans e⟩
theorem Sh.ok {l : List C} (h : Sh l) {c : C} (hc : c ∈ l) : okC c := by
  obtain ⟨i, hi, rfl⟩ := mem_at hc
  exact h.2.2.1 i hi
theorem ltC_trans {a b c : C} (h : ltC a b) (g : ltC b c) : ltC a c := by unfold ltC at *; omega
theorem ltC_irrefl {a : C} (h : ltC a a) : False := by unfold ltC at h; omega
theorem Sh.lt {l : List C} (h : Sh l) : ∀ i j, i < j → j < l.length → ltC (at_ l i) (at_ l j) := by
  intro i j
  induction j with
  | zero => intro h; omega
  | succ j ih =>
    intro hij hj
    by_cases e : i = j
    · subst e; exact h.2.2.2 i hj
    · exact ltC_trans (ih (by omega) (by omega)) (h.2.2.2 j hj)
theorem sh_cases (l : List C) : (Sh l ∧ shB l = true) ∨ (¬ Sh l ∧ shB l = false) := by
  by_cases h : Sh l
  · exact Or.inl ⟨h, shB_true h⟩
  · exact Or.inr ⟨h, shB_false h⟩
/-! ### Mark -/
/-- the marks m, m + 1, .. two to a cell -/
def mrk (m : Int) (n : Nat) : List C := (List.range n).map fun i => ⟨m + 2 * (i : Nat), m + 2 * (i : Nat) + 1⟩
theorem mrk_length (m : Int) (n : Nat) : (mrk m n).length = n := by simp [mrk]
theorem mrk_get (m : Int) (n i : Nat) (h : i < n) : (mrk m n)[i]? = some ⟨m + 2 * (i : Nat), m + 2 * (i : Nat) + 1⟩ := by
  unfold mrk; rw [List.getElem?_map, List.getElem?_range h]; rfl
theorem mrk_at (m : Int) (n i : Nat) (h : i < n) : at_ (mrk m n) i = ⟨m + 2 * (i : Nat), m + 2 * (i : Nat) + 1⟩ := by
  unfold at_; rw [List.getD_eq_getElem?_getD, mrk_get m n i h]; rfl
theorem markCell_loop (m : Int) (n : Nat) (hn : n ≤ 1048576) (hm : 0 ≤ m) (hm2 : m ≤ 9223372036850000000) : ∀ d j : Nat, j + d = n → ∀ x : List C, x.length = n → (∀ i, i < j → x[i]? = (mrk m n)[i]?) →
    Ev (fun k => laws_markCellS.l0 k x (m + 2 * (j : Nat)) (j : Nat)) (m + 2 * (n : Nat), mrk m n) := by
  intro d
  induction d with
  | zero =>
    intro j hj x hx hi
    obtain rfl : x = mrk m n := by
      apply List.ext_getElem?
      intro i
      by_cases h : i < j
      · exact hi i h
      · rw [List.getElem?_eq_none (by omega), List.getElem?_eq_none (by rw [mrk_length]; omega)]
    obtain rfl : j = n := by omega
    refine Ev.step (fun k => ?_) (Ev.now _)
    simp only [laws_markCellS.l0, mrk_length]; rw [if_neg (by omega)]
  | succ d ih =>
    intro j hj x hx hi
    refine Ev.step (fun k => ?_) (ih (j + 1) (by omega) (x.set j ⟨m + 2 * (j : Nat), m + 2 * (j : Nat) + 1⟩) (by rw [List.length_set]; exact hx) ?_)
    · simp only [laws_markCellS.l0, Option.bind_some]
      rw [if_pos (by omega), if_pos (by omega), w64 (x := (j : Int) + 1) (by omega) (by omega), w64 (x := m + 2 * (j : Nat) + 1) (by omega) (by omega), w64 (by omega) (by omega), rd_at, rd_at, List.set_set]
      have e : at_ (x.set ((j : Int).toNat) ⟨m + 2 * (j : Nat), (at_ x j).f1⟩) j = ⟨m + 2 * (j : Nat), (at_ x j).f1⟩ := by
        rw [at_get _ _ (by rw [List.length_set]; omega), Int.toNat_natCast, List.getElem_set_self]
      rw [e]
      show laws_markCellS.l0 k (x.set j ⟨m + 2 * (j : Nat), m + 2 * (j : Nat) + 1⟩) (m + 2 * (j : Nat) + 1 + 1) ((j : Int) + 1) = laws_markCellS.l0 k _ (m + 2 * ((j + 1 : Nat) : Int)) ((j + 1 : Nat) : Int)
      congr 1
      omega
    · intro i h
      rw [List.getElem?_set]
      by_cases e : j = i
      · subst e; rw [if_pos rfl, if_pos (by omega), mrk_get m n j (by omega)]
      · rw [if_neg e]; exact hi i (by omega)
theorem markCell_ev (l : List C) (m : Int) (hl : l.length ≤ 1048576) (hm : 0 ≤ m) (hm2 : m ≤ 9223372036850000000) : Ev (fun k => laws_markCellS.f k l m) (m + 2 * (l.length : Int), mrk m l.length) := by
  have h := markCell_loop m l.length hl hm hm2 l.length 0 (by omega) l rfl (by intro i h; omega)
  rw [show m + 2 * ((0 : Nat) : Int) = m from by omega] at h
  exact h
theorem heldCell_loop (m : Int) (n : Nat) (hn : n ≤ 1048576) (hm : 0 ≤ m) (hm2 : m ≤ 9223372036850000000) : ∀ d j : Nat, j + d = n → Ev (fun k => laws_heldCellS.l0 k (mrk m n) (m + 2 * (j : Nat)) (j : Nat)) (m + 2 * (n : Nat)) := by
  intro d
  induction d with
  | zero =>
    intro j hj
    obtain rfl : j = n := by omega
    refine Ev.step (fun k => ?_) (Ev.now _)
    simp only [laws_heldCellS.l0, mrk_length]; rw [if_neg (by omega)]
  | succ d ih =>
    intro j hj
    refine Ev.step (fun k => ?_) (ih (j + 1) (by omega))
    simp only [laws_heldCellS.l0, mrk_length, rd_at]
    rw [mrk_at m n j (by omega), if_pos (by omega), if_pos (by omega), if_pos rfl, w64 (x := m + 2 * (j : Nat) + 1) (by omega) (by omega), if_pos rfl, w64 (x := (j : Int) + 1) (by omega) (by omega), w64 (by omega) (by omega)]
    congr 1
    omega
theorem heldCell_ev (m : Int) (n : Nat) (hn : n ≤ 1048576) (hm : 0 ≤ m) (hm2 : m ≤ 9223372036850000000) : Ev (fun k => laws_heldCellS.f k (mrk m n) m) (m + 2 * (n : Nat)) := by
  have h := heldCell_loop m n hn hm hm2 n 0 (by omega)
  rw [show m + 2 * ((0 : Nat) : Int) = m from by omega] at h
  exact h
/-! ### IntsM -/
theorem rd_nat (l : List Int) (j : Nat) (h : j < l.length) : rd l (j : Int) = l[j] := by
  unfold rd; rw [List.getD_eq_getElem?_getD, Int.toNat_natCast, List.getElem?_eq_getElem h]; rfl
theorem eqInt_loop (l : List Int) (hl : l.length ≤ 140737488355328) : ∀ d j : Nat, j + d = l.length → Ev (fun k => laws_eqInt64S.l0 k l l (j : Nat)) true := by
  intro d
  induction d with
  | zero =>
    intro j hj
    refine Ev.step (fun k => ?_) (Ev.now _)
    simp only [laws_eqInt64S.l0]; rw [if_neg (by omega)]
  | succ d ih =>
    intro j hj
    refine Ev.step (fun k => ?_) (ih (j + 1) (by omega))
    simp only [laws_eqInt64S.l0]; rw [if_pos (by omega), if_pos (by omega), if_pos (by omega), if_pos trivial, w64 (by omega) (by omega)]; rfl
theorem eqInt_ev (l : List Int) (hl : l.length ≤ 140737488355328) : Ev (fun k => laws_eqInt64S.f k l l) true := by
  unfold laws_eqInt64S.f
  simp only [if_true]
  exact eqInt_loop l hl l.length 0 (by omega)
/-- the numbers m, m + 1, .. -/
def marks (m : Int) (n : Nat) : List Int := (List.range n).map fun i => m + (i : Nat)
theorem marks_length (m : Int) (n : Nat) : (marks m n).length = n := by simp [marks]
theorem marks_get (m : Int) (n i : Nat) (h : i < n) : (marks m n)[i]? = some (m + (i : Nat)) := by
  unfold marks; rw [List.getElem?_map, List.getElem?_range h]; rfl
theorem markInt_loop (m : Int) (n : Nat) (hn : n ≤ 1048576) (hm : 0 ≤ m) (hm2 : m ≤ 1048577) : ∀ d j : Nat, j + d = n → ∀ x : List Int, x.length = n → (∀ i, i < j → x[i]? = (marks m n)[i]?) →
    Ev (fun k => laws_markInt64S.l0 k x (m + (j : Nat)) (j : Nat)) (m + (n : Nat), marks m n) := by
  intro d
  induction d with
  | zero =>
    intro j hj x hx hi
    obtain rfl : x = marks m n := by
      apply List.ext_getElem?
      intro i
      by_cases h : i < j
      · exact hi i h
      · rw [List.getElem?_eq_none (by omega), List.getElem?_eq_none (by rw [marks_length]; omega)]
    obtain rfl : j = n := by omega
    refine Ev.step (fun k => ?_) (Ev.now _)
    simp only [laws_markInt64S.l0, marks_length]; rw [if_neg (by omega)]
  | succ d ih =>
    intro j hj x hx hi
    refine Ev.step (fun k => ?_) (ih (j + 1) (by omega) (x.set j (m + (j : Nat))) (by rw [List.length_set]; exact hx) ?_)
    · simp only [laws_markInt64S.l0]; rw [if_pos (by omega), if_pos (by omega), w64 (x := (j : Int) + 1) (by omega) (by omega), w64 (by omega) (by omega), Int.add_assoc]; rfl
    · intro i h
      rw [List.getElem?_set]
      by_cases e : j = i
      · subst e; rw [if_pos rfl, if_pos (by omega), marks_get m n j (by omega)]
      · rw [if_neg e]; exact hi i (by omega)
theorem markInt_ev (l : List Int) (m : Int) (hl : l.length ≤ 1048576) (hm : 0 ≤ m) (hm2 : m ≤ 1048577) : Ev (fun k => laws_markInt64S.f k l m) (m + (l.length : Int), marks m l.length) := by
  have h := markInt_loop m l.length hl hm hm2 l.length 0 (by omega) l rfl (by intro i h; omega)
  rw [show m + ((0 : Nat) : Int) = m from by omega] at h
  exact h
theorem heldInt_loop (m : Int) (n : Nat) (hn : n ≤ 1048576) (hm : 0 ≤ m) (hm2 : m ≤ 1048577) : ∀ d j : Nat, j + d = n → Ev (fun k => laws_heldInt64S.l0 k (marks m n) (m + (j : Nat)) (j : Nat)) (m + (n : Nat)) := by
  intro d
  induction d with
  | zero =>
    intro j hj
    obtain rfl : j = n := by omega
    refine Ev.step (fun k => ?_) (Ev.now _)
    simp only [laws_heldInt64S.l0, marks_length]; rw [if_neg (by omega)]
  | succ d ih =>
    intro j hj
    have hr : rd (marks m n) (j : Nat) = m + (j : Nat) := by
      unfold rd; rw [List.getD_eq_getElem?_getD, Int.toNat_natCast, marks_get m n j (by omega)]; rfl
    refine Ev.step (fun k => ?_) (ih (j + 1) (by omega))
    simp only [laws_heldInt64S.l0, marks_length]; rw [if_pos (by omega), if_pos (by omega), if_pos hr, w64 (x := (j : Int) + 1) (by omega) (by omega), w64 (by omega) (by omega), Int.add_assoc]; rfl
theorem heldInt_ev (n : Nat) (hn : n ≤ 1048576) : Ev (fun k => laws_heldInt64S.f k (marks 1 n) 1) (1 + (n : Int)) := by
  exact heldInt_loop 1 n hn (by omega) (by omega) n 0 (by omega)
/-! ### Fold -/
theorem foldl_pair (g1 g2 : Int → C → Int) (l : List C) : ∀ a b, l.foldl (fun (s : Int × Int) c => (g1 s.1 c, g2 s.2 c)) (a, b) = (l.foldl g1 a, l.foldl g2 b) := by
  induction l with
  | nil => intro a b; rfl
  | cons c r ih => intro a b; exact ih _ _
def mxF (f : C → Int) (l : List C) (s : Int) : Int := l.foldl (fun s c => mx s (f c)) s
def mnF (f : C → Int) (l : List C) (s : Int) : Int := l.foldl (fun s c => mn s (f c)) s
theorem mxF_spec (f : C → Int) (l : List C) : ∀ s, s ≤ mxF f l s ∧ (∀ c ∈ l, f c ≤ mxF f l s) ∧ (mxF f l s = s ∨ ∃ c ∈ l, mxF f l s = f c) := by
  induction l with
  | nil => intro s; exact ⟨Int.le_refl _, (fun c h => by cases h), Or.inl rfl⟩
  | cons d r ih =>
    intro s
    obtain ⟨h1, h2, h3⟩ := ih (mx s (f d))
    have e : mxF f (d :: r) s = mxF f r (mx s (f d)) := rfl
    rw [e]
    have m1 : s ≤ mx s (f d) ∧ f d ≤ mx s (f d) ∧ (mx s (f d) = s ∨ mx s (f d) = f d) := by unfold mx; split <;> omega
    refine ⟨by omega, fun c hc => ?_, ?_⟩
    · rcases List.mem_cons.1 hc with rfl | hc
      · omega
      · exact h2 c hc
    · rcases h3 with h3 | ⟨c, hc, h3⟩
      · rcases m1.2.2 with m | m
        · exact Or.inl (h3.trans m)
        · exact Or.inr ⟨d, List.mem_cons_self, h3.trans m⟩
      · exact Or.inr ⟨c, List.mem_cons_of_mem _ hc, h3⟩
theorem mnF_spec (f : C → Int) (l : List C) : ∀ s, mnF f l s ≤ s ∧ (∀ c ∈ l, mnF f l s ≤ f c) ∧ (mnF f l s = s ∨ ∃ c ∈ l, mnF f l s = f c) := by
  induction l with
  | nil => intro s; exact ⟨Int.le_refl _, (fun c h => by cases h), Or.inl rfl⟩
  | cons d r ih =>
    intro s
    obtain ⟨h1, h2, h3⟩ := ih (mn s (f d))
    have e : mnF f (d :: r) s = mnF f r (mn s (f d)) := rfl
    rw [e]
    have m1 : mn s (f d) ≤ s ∧ mn s (f d) ≤ f d ∧ (mn s (f d) = s ∨ mn s (f d) = f d) := by unfold mn; split <;> omega
    refine ⟨by omega, fun c hc => ?_, ?_⟩
    · rcases List.mem_cons.1 hc with rfl | hc
      · omega
      · exact h2 c hc
    · rcases h3 with h3 | ⟨c, hc, h3⟩
      · rcases m1.2.2 with m | m
        · exact Or.inl (h3.trans m)
        · exact Or.inr ⟨d, List.mem_cons_self, h3.trans m⟩
      · exact Or.inr ⟨c, List.mem_cons_of_mem _ hc, h3⟩
/-- the least and the greatest coordinates -/
def lo (l : List C) : Int × Int := (mnF (fun c => c.f0) l (at_ l 0).f0, mnF (fun c => c.f1) l (at_ l 0).f1)
def hi (l : List C) : Int × Int := (mxF (fun c => c.f0) l (at_ l 0).f0, mxF (fun c => c.f1) l (at_ l 0).f1)
theorem mn_self (a : Int) : mn a a = a := by unfold mn; split <;> omega
theorem lo_drop (l : List C) (h : 0 < l.length) : lo l = (mnF (fun c => c.f0) (l.drop 1) (at_ l 0).f0, mnF (fun c => c.f1) (l.drop 1) (at_ l 0).f1) := by
  have e := drop_at l 0 h
  rw [List.drop_zero] at e
  unfold lo
  have e0 : mnF (fun c => c.f0) l (at_ l 0).f0 = mnF (fun c => c.f0) (l.drop 1) (at_ l 0).f0 := by
    conv => lhs; rw [e]
    show mnF _ (l.drop (0 + 1)) (mn (at_ (at_ l 0 :: l.drop (0 + 1)) 0).f0 (at_ l 0).f0) = _
    rw [show at_ (at_ l 0 :: l.drop (0 + 1)) 0 = at_ l 0 from rfl, mn_self]
  have e1 : mnF (fun c => c.f1) l (at_ l 0).f1 = mnF (fun c => c.f1) (l.drop 1) (at_ l 0).f1 := by
    conv => lhs; rw [e]
    show mnF _ (l.drop (0 + 1)) (mn (at_ (at_ l 0 :: l.drop (0 + 1)) 0).f1 (at_ l 0).f1) = _
    rw [show at_ (at_ l 0 :: l.drop (0 + 1)) 0 = at_ l 0 from rfl, mn_self]
  rw [e0, e1]
theorem lo_le {l : List C} {c : C} (h : c ∈ l) : (lo l).1 ≤ c.f0 ∧ (lo l).2 ≤ c.f1 := ⟨(mnF_spec _ l _).2.1 c h, (mnF_spec _ l _).2.1 c h⟩
theorem le_hi {l : List C} {c : C} (h : c ∈ l) : c.f0 ≤ (hi l).1 ∧ c.f1 ≤ (hi l).2 := ⟨(mxF_spec _ l _).2.1 c h, (mxF_spec _ l _).2.1 c h⟩
theorem lo_mem0 {l : List C} (h : 0 < l.length) : ∃ c ∈ l, (lo l).1 = c.f0 := by
  rcases (mnF_spec (fun c : C => c.f0) l (at_ l 0).f0).2.2 with e | ⟨c, hc, e⟩
  · exact ⟨at_ l 0, at_mem l 0 h, e⟩
  · exact ⟨c, hc, e⟩
theorem lo_mem1 {l : List C} (h : 0 < l.length) : ∃ c ∈ l, (lo l).2 = c.f1 := by
  rcases (mnF_spec (fun c : C => c.f1) l (at_ l 0).f1).2.2 with e | ⟨c, hc, e⟩
  · exact ⟨at_ l 0, at_mem l 0 h, e⟩
  · exact ⟨c, hc, e⟩
theorem hi_mem0 {l : List C} (h : 0 < l.length) : ∃ c ∈ l, (hi l).1 = c.f0 := by
  rcases (mxF_spec (fun c : C => c.f0) l (at_ l 0).f0).2.2 with e | ⟨c, hc, e⟩
  · exact ⟨at_ l 0, at_mem l 0 h, e⟩
  · exact ⟨c, hc, e⟩
theorem hi_mem1 {l : List C} (h : 0 < l.length) : ∃ c ∈ l, (hi l).2 = c.f1 := by
  rcases (mxF_spec (fun c : C => c.f1) l (at_ l 0).f1).2.2 with e | ⟨c, hc, e⟩
  · exact ⟨at_ l 0, at_mem l 0 h, e⟩
  · exact ⟨c, hc, e⟩
/-- the width and the height -/
def sz (l : List C) : Int × Int := ((hi l).1 - (lo l).1 + 1, (hi l).2 - (lo l).2 + 1)
/-! ### Moved -/
def movC (a b : Int) (c : C) : C := ⟨wrap64 (c.f0 + a), wrap64 (c.f1 + b)⟩
def movL (a b : Int) (l : List C) : List C := l.map (movC a b)
theorem movL_length (a b : Int) (l : List C) : (movL a b l).length = l.length := by simp [movL]
theorem foldl_append_map {α β : Type} (f : α → β) (l : List α) : ∀ s : List β, l.foldl (fun s c => s ++ [f c]) s = s ++ l.map f := by
  induction l with
  | nil => intro s; simp
  | cons c r ih => intro s; rw [List.foldl_cons, ih]; simp
/-! ### Norm -/
/-- the shape with its least coordinates at 0 -/
def normL (l : List C) : List C := movL (wrap64 (-(lo l).1)) (wrap64 (-(lo l).2)) l
theorem normL_length (l : List C) : (normL l).length = l.length := movL_length _ _ _
theorem lo_ok {l : List C} (h : Sh l) : -100 ≤ (lo l).1 ∧ (lo l).1 ≤ 100 ∧ -100 ≤ (lo l).2 ∧ (lo l).2 ≤ 100 := by
  obtain ⟨c0, hc0, b0⟩ := lo_mem0 (l := l) (by have := h.1; omega)
  obtain ⟨c1, hc1, b1⟩ := lo_mem1 (l := l) (by have := h.1; omega)
  have o0 := h.ok hc0
  have o1 := h.ok hc1
  unfold okC at o0 o1
  omega
theorem hi_ok {l : List C} (h : Sh l) : -100 ≤ (hi l).1 ∧ (hi l).1 ≤ 100 ∧ -100 ≤ (hi l).2 ∧ (hi l).2 ≤ 100 := by
  obtain ⟨c0, hc0, b0⟩ := hi_mem0 (l := l) (by have := h.1; omega)
  obtain ⟨c1, hc1, b1⟩ := hi_mem1 (l := l) (by have := h.1; omega)
  have o0 := h.ok hc0
  have o1 := h.ok hc1
  unfold okC at o0 o1
  omega
theorem normC_eq {l : List C} (h : Sh l) {c : C} (hc : c ∈ l) : movC (wrap64 (-(lo l).1)) (wrap64 (-(lo l).2)) c = ⟨c.f0 - (lo l).1, c.f1 - (lo l).2⟩ := by
  have a := lo_ok h
  have b := h.ok hc
  unfold okC at b
  unfold movC
  rw [w64 (x := -(lo l).1) (by omega) (by omega), w64 (x := -(lo l).2) (by omega) (by omega), w64 (by omega) (by omega), w64 (by omega) (by omega)]
  rfl
theorem normL_eq {l : List C} (h : Sh l) : normL l = l.map fun c => ⟨c.f0 - (lo l).1, c.f1 - (lo l).2⟩ := by
  unfold normL movL
  exact List.map_congr_left fun c hc => normC_eq h hc
theorem sz_ok {l : List C} (h : Sh l) : 1 ≤ (sz l).1 ∧ (sz l).1 ≤ 201 ∧ 1 ≤ (sz l).2 ∧ (sz l).2 ≤ 201 := by
  have a := lo_ok h
  have b := hi_ok h
  have h1 := h.1
  have c := lo_le (at_mem l 0 (by omega))
  have d := le_hi (at_mem l 0 (by omega))
  unfold sz
  simp only []
  omega
theorem norm_lt {l : List C} (h : Sh l) {c : C} (hc : c ∈ l) : 0 ≤ c.f0 - (lo l).1 ∧ c.f0 - (lo l).1 < (sz l).1 ∧ 0 ≤ c.f1 - (lo l).2 ∧ c.f1 - (lo l).2 < (sz l).2 := by
  have a := lo_le hc
  have b := le_hi hc
  unfold sz
  simp only []
  omega
/-! ### Corner -/
theorem corner_ev (l : List C) (h : 0 < l.length) (hl : l.length ≤ 1048576) : Ev (fun k => impl_corner.f k l) (lo l) := by
  unfold impl_corner.f
  simp only [if_pos (show 0 < (l.length : Int) by omega)]
  have e0 : rd_T34 l 0 = at_ l 0 := rd_at l 0
  rw [e0]
  refine ev_fold (fun k (s : Int × Int) j => impl_corner.l0 k l (l.length : Int) j s.1 s.2) l (fun s c => (mn s.1 c.f0, mn s.2 c.f1)) some _ (fun _ _ => True) ?_ ?_ 0 (by omega) ((at_ l 0).f0, (at_ l 0).f1) trivial ?_
  · intro k s j hj hm _
    refine ⟨?_, trivial⟩
    simp only [impl_corner.l0, rd_at]; rw [if_pos (by omega), if_pos (by omega), if_pos (by omega), w64 (x := (j : Int) + 1) (by omega) (by omega)]; rfl
  · intro k s _
    simp only [impl_corner.l0]; rw [if_neg (by omega)]
  · rw [List.drop_zero, foldl_pair (fun s c => mn s c.f0) (fun s c => mn s c.f1)]; rfl
/-! ### MovedI -/
theorem implMove_ev (l : List C) (a b : Int) (hl : l.length ≤ 1048576) : Ev (fun k => impl_moved.f k l a b) (movL a b l) := by
  unfold impl_moved.f
  simp only [if_pos (show 0 ≤ (l.length : Int) by omega), if_pos (show ((l.length : Int)).toNat ≤ 17592186044416 by omega)]
  refine ev_fold (fun k (s : List C) j => impl_moved.l0 k a b s l (l.length : Int) j) l (fun s c => s ++ [movC a b c]) some _ (fun j s => s.length = j) ?_ ?_ 0 (by omega) [] rfl ?_
  · intro k s j hj hm hs
    refine ⟨?_, by simp [hs]⟩
    simp only [impl_moved.l0, rd_at]; rw [if_pos (by omega), if_pos (by omega), if_pos (by omega), if_pos (by omega), w64 (x := (j : Int) + 1) (by omega) (by omega)]; rfl
  · intro k s _
    simp only [impl_moved.l0]; rw [if_neg (by omega)]
  · rw [List.drop_zero, foldl_append_map]; rfl
/-! ### NormI -/
theorem implNorm_ev (l : List C) (h : 0 < l.length) (hl : l.length ≤ 1048576) : Ev (fun k => impl_normal.f k l) (normL l) := by
  obtain ⟨K, h1, h2⟩ := ev2 (corner_ev l h hl) (implMove_ev l (wrap64 (-(lo l).1)) (wrap64 (-(lo l).2)) hl)
  refine ⟨K, fun k hk => ?_⟩
  obtain ⟨n, rfl⟩ : ∃ n, k = K + n := ⟨k - K, by omega⟩
  simp only [impl_normal.f, h1, h2, Option.bind_some]; rfl
/-! ### Least -/
theorem least_ev (l : List C) (h : 0 < l.length) (hl : l.length ≤ 1048576) : Ev (fun k => spec_l02Least.f k l) (lo l) := by
  unfold spec_l02Least.f
  simp only [if_pos (show 0 < (l.length : Int) by omega)]
  have e0 : rd_T34 l 0 = at_ l 0 := rd_at l 0
  rw [e0]
  refine ev_fold (fun k (s : Int × Int) j => spec_l02Least.l0 k l s.1 s.2 j) l (fun s c => (mn s.1 c.f0, mn s.2 c.f1)) some _ (fun _ _ => True) ?_ ?_ 1 (by omega) ((at_ l 0).f0, (at_ l 0).f1) trivial ?_
  · intro k s j hj hm _
    refine ⟨?_, trivial⟩
    simp only [spec_l02Least.l0, rd_at]; rw [if_pos (by omega), if_pos (by omega), w64 (x := (j : Int) + 1) (by omega) (by omega)]; rfl
  · intro k s _
    simp only [spec_l02Least.l0]; rw [if_neg (by omega)]
  · rw [foldl_pair (fun s c => mn s c.f0) (fun s c => mn s c.f1), lo_drop l h]; rfl
/-! ### SizeS -/
theorem specSize_ev (l : List C) (h : Sh l) : Ev (fun k => spec_l04Size.f k l) (sz l) := by
  have hn := h.1
  have hm40 := h.2.1
  unfold spec_l04Size.f
  refine Ev.bind (f := fun k (bt : Int × Int) => spec_l04Size.l0 k l bt.1 bt.2 0 0 0) (least_ev l (by omega) (by omega)) ?_
  obtain ⟨c0, hc0, b0⟩ := lo_mem0 (l := l) (by omega)
  obtain ⟨c1, hc1, b1⟩ := lo_mem1 (l := l) (by omega)
  have o0 := h.ok hc0
  have o1 := h.ok hc1
  unfold okC at o0 o1
  refine ev_fold (fun k (s : Int × Int) j => spec_l04Size.l0 k l (lo l).1 (lo l).2 s.1 s.2 j) l (fun s c => (mx s.1 (wrap64 (wrap64 (c.f0 - (lo l).1) + 1)), mx s.2 (wrap64 (wrap64 (c.f1 - (lo l).2) + 1)))) some _ (fun _ _ => True) ?_ ?_ 0 (by omega) (0, 0) trivial ?_
  · intro k s j hj hm _
    refine ⟨?_, trivial⟩
    simp only [spec_l04Size.l0, rd_at]; rw [if_pos (by omega), if_pos (by omega), w64 (x := (j : Int) + 1) (by omega) (by omega)]; rfl
  · intro k s _
    simp only [spec_l04Size.l0]; rw [if_neg (by omega)]
  · rw [List.drop_zero, foldl_pair (fun s c => mx s (wrap64 (wrap64 (c.f0 - (lo l).1) + 1))) (fun s c => mx s (wrap64 (wrap64 (c.f1 - (lo l).2) + 1)))]
    have wr : ∀ a b : Int, -100 ≤ a → a ≤ 100 → -100 ≤ b → b ≤ 100 → wrap64 (wrap64 (a - b) + 1) = a - b + 1 := by
      intro a b _ _ _ _; rw [w64 (x := a - b) (by omega) (by omega), w64 (by omega) (by omega)]
    have m0 := mxF_spec (fun c => wrap64 (wrap64 (c.f0 - (lo l).1) + 1)) l 0
    have m1 := mxF_spec (fun c => wrap64 (wrap64 (c.f1 - (lo l).2) + 1)) l 0
    have f0 : ∀ c ∈ l, wrap64 (wrap64 (c.f0 - (lo l).1) + 1) = c.f0 - (lo l).1 + 1 := fun c hc => by have := h.ok hc; unfold okC at this; exact wr _ _ (by omega) (by omega) (by omega) (by omega)
    have f1 : ∀ c ∈ l, wrap64 (wrap64 (c.f1 - (lo l).2) + 1) = c.f1 - (lo l).2 + 1 := fun c hc => by have := h.ok hc; unfold okC at this; exact wr _ _ (by omega) (by omega) (by omega) (by omega)
    have a0 : mxF (fun c => wrap64 (wrap64 (c.f0 - (lo l).1) + 1)) l 0 = (hi l).1 - (lo l).1 + 1 := by
      obtain ⟨d, hd, e⟩ := hi_mem0 (l := l) (by omega)
      have g1 := m0.2.1 d hd
      have g2 := (lo_le hd).1
      have g3 := f0 d hd
      simp only [g3] at g1
      rcases m0.2.2 with g | ⟨c, hc, g⟩
      · omega
      · have := (le_hi hc).1; have := f0 c hc; replace g := g.trans this; omega
    have a1 : mxF (fun c => wrap64 (wrap64 (c.f1 - (lo l).2) + 1)) l 0 = (hi l).2 - (lo l).2 + 1 := by
      obtain ⟨d, hd, e⟩ := hi_mem1 (l := l) (by omega)
      have g1 := m1.2.1 d hd
      have g2 := (lo_le hd).2
      have g3 := f1 d hd
      simp only [g3] at g1
      rcases m1.2.2 with g | ⟨c, hc, g⟩
      · omega
      · have := (le_hi hc).2; have := f1 c hc; replace g := g.trans this; omega
    show some (mxF (fun c => wrap64 (wrap64 (c.f0 - (lo l).1) + 1)) l 0, mxF (fun c => wrap64 (wrap64 (c.f1 - (lo l).2) + 1)) l 0) = _
    rw [a0, a1]; rfl
/-! ### SizeI -/
theorem reach_ev (l : List C) (h : 0 < l.length) (hl : l.length ≤ 1048576) : Ev (fun k => impl_reach.f k l) (hi l) := by
  unfold impl_reach.f
  simp only [if_pos (show 0 < (l.length : Int) by omega)]
  have e0 : rd_T34 l 0 = at_ l 0 := rd_at l 0
  rw [e0]
  refine ev_fold (fun k (s : Int × Int) j => impl_reach.l0 k l (l.length : Int) j s.1 s.2) l (fun s c => (mx s.1 c.f0, mx s.2 c.f1)) some _ (fun _ _ => True) ?_ ?_ 0 (by omega) ((at_ l 0).f0, (at_ l 0).f1) trivial ?_
  · intro k s j hj hm _
    refine ⟨?_, trivial⟩
    simp only [impl_reach.l0, rd_at]; rw [if_pos (by omega), if_pos (by omega), if_pos (by omega), w64 (x := (j : Int) + 1) (by omega) (by omega)]; rfl
  · intro k s _
    simp only [impl_reach.l0]; rw [if_neg (by omega)]
  · rw [List.drop_zero, foldl_pair (fun s c => mx s c.f0) (fun s c => mx s c.f1)]; rfl
theorem implSize_ev (l : List C) (h : Sh l) : Ev (fun k => impl_sizeOf.f k l) (sz l) := by
  have hn := h.1
  have hm40 := h.2.1
  obtain ⟨c0, hc0, b0⟩ := lo_mem0 (l := l) (by omega)
  obtain ⟨c1, hc1, b1⟩ := lo_mem1 (l := l) (by omega)
  obtain ⟨d0, hd0, e0⟩ := hi_mem0 (l := l) (by omega)
  obtain ⟨d1, hd1, e1⟩ := hi_mem1 (l := l) (by omega)
  have o0 := h.ok hc0
  have o1 := h.ok hc1
  have p0 := h.ok hd0
  have p1 := h.ok hd1
  unfold okC at o0 o1 p0 p1
  obtain ⟨K, h1, h2⟩ := ev2 (corner_ev l (by omega) (by omega)) (reach_ev l (by omega) (by omega))
  refine ⟨K, fun k hk => ?_⟩
  obtain ⟨n, rfl⟩ : ∃ n, k = K + n := ⟨k - K, by omega⟩
  simp only [impl_sizeOf.f, h1, h2, Option.bind_some]
  unfold sz
  rw [w64 (x := (hi l).1 - (lo l).1) (by omega) (by omega), w64 (x := (hi l).2 - (lo l).2) (by omega) (by omega), w64 (by omega) (by omega), w64 (by omega) (by omega)]
/-! ### Tally -/
/-- how many cells fall to each number below n -/
def tally (f : C → Int) (l : List C) (n : Nat) : List Int := l.foldl (fun s c => s.set (f c).toNat (wrap64 (rd s (f c) + 1))) (List.replicate n 0)
theorem tally_length (f : C → Int) (l : List C) (n : Nat) : (tally f l n).length = n := by
  have h : ∀ (l : List C) (s : List Int), (l.foldl (fun s c => s.set (f c).toNat (wrap64 (rd s (f c) + 1))) s).length = s.length := by
    intro l
    induction l with
    | nil => intro s; rfl
    | cons c r ih => intro s; rw [List.foldl_cons, ih, List.length_set]
  unfold tally; rw [h]; simp
/-! ### ColumnP -/
/-- the counts of a shape's columns, and the answer's code -/
noncomputable def colP (l : List C) : List Int × Int := if shB l = true then (tally (fun c => c.f0 - (lo l).1) l (sz l).1.toNat, 0) else ([], 1)
theorem colP_length (l : List C) : (colP l).1.length ≤ 1048576 := by
  unfold colP
  rcases sh_cases l with ⟨hs, hb⟩ | ⟨hs, hb⟩
  · rw [if_pos hb]; show (tally _ _ _).length ≤ _; rw [tally_length]; have := sz_ok hs; omega
  · rw [hb]; exact Nat.zero_le _
theorem specColumn_ev (l : List C) (hl : l.length ≤ 1048576) : Ev (fun k => spec_ColumnCounts.f k l) (colP l) := by
  rcases sh_cases l with ⟨hs, hb⟩ | ⟨hs, hb⟩
  · have hz := sz_ok hs
    have ho := lo_ok hs
    have hL : Ev (fun k => spec_ColumnCounts.l0 k l (lo l).1 (List.replicate (sz l).1.toNat 0) 0) (tally (fun c => c.f0 - (lo l).1) l (sz l).1.toNat, 0) := by
      refine ev_fold (fun k (s : List Int) j => spec_ColumnCounts.l0 k l (lo l).1 s j) l (fun s c => s.set (c.f0 - (lo l).1).toNat (wrap64 (rd s (c.f0 - (lo l).1) + 1))) (fun s => some (s, 0)) _ (fun _ s => (s.length : Int) = (sz l).1) ?_ ?_ 0 (by omega) _ (by simp; omega) rfl
      · intro k s j hj hm hv
        refine ⟨?_, by simpa using hv⟩
        have b := norm_lt hs hm
        have o := hs.ok hm
        unfold okC at o
        simp only [spec_ColumnCounts.l0, rd_at]
        rw [w64 (x := (at_ l j).f0 - (lo l).1) (by omega) (by omega), if_pos (by omega), if_pos (by omega), if_pos (by omega), if_pos (by omega), w64 (x := (j : Int) + 1) (by omega) (by omega)]; rfl
      · intro k s _
        simp only [spec_ColumnCounts.l0]; rw [if_neg (by omega)]
    obtain ⟨K, h1, h2, h3, h4⟩ := ev4 (specShape_ev l hl) (least_ev l hs.1 hl) (specSize_ev l hs) hL
    refine ⟨K, fun k hk => ?_⟩
    obtain ⟨n, rfl⟩ : ∃ n, k = K + n := ⟨k - K, by omega⟩
    unfold colP
    simp only [spec_ColumnCounts.f, h1, h2, h3, hb, Option.bind_some, if_true, if_pos (show 0 ≤ (sz l).1 by omega), if_pos (show (sz l).1.toNat ≤ 35184372088832 by omega)]
    exact h4 n
  · obtain ⟨K, h1⟩ := evup (specShape_ev l hl)
    refine ⟨K, fun k hk => ?_⟩
    obtain ⟨n, rfl⟩ : ∃ n, k = K + n := ⟨k - K, by omega⟩
    unfold colP
    simp only [spec_ColumnCounts.f, h1, hb, Option.bind_some, Bool.false_eq_true, if_false]
theorem implColumn_ev (l : List C) (hl : l.length ≤ 1048576) : Ev (fun k => impl_ColumnCounts.f k l) (colP l) := by
  rcases sh_cases l with ⟨hs, hb⟩ | ⟨hs, hb⟩
  · have hz := sz_ok hs
    have ho := lo_ok hs
    have hnl := normL_length l
    have hL : Ev (fun k => impl_ColumnCounts.l0 k (List.replicate (sz l).1.toNat 0) (normL l) ((normL l).length : Int) 0) (tally (fun c => c.f0 - (lo l).1) l (sz l).1.toNat, 0) := by
      refine ev_fold (fun k (s : List Int) j => impl_ColumnCounts.l0 k s (normL l) ((normL l).length : Int) j) (normL l) (fun s c => s.set c.f0.toNat (wrap64 (rd s c.f0 + 1))) (fun s => some (s, 0)) _ (fun _ s => (s.length : Int) = (sz l).1) ?_ ?_ 0 (by omega) _ (by simp; omega) ?_
      · intro k s j hj hm hv
        refine ⟨?_, by simpa using hv⟩
        have hb2 : 0 ≤ (at_ (normL l) j).f0 ∧ (at_ (normL l) j).f0 < (sz l).1 := by
          rw [normL_eq hs] at hm ⊢
          obtain ⟨c, hc, e⟩ := List.mem_map.1 hm
          rw [← e]
          have := norm_lt hs hc
          simp only []
          omega
        simp only [impl_ColumnCounts.l0, rd_at]
        rw [if_pos (by omega), if_pos (by omega), if_pos (by omega), if_pos (by omega), if_pos (by omega), w64 (x := (j : Int) + 1) (by omega) (by omega)]; rfl
      · intro k s _
        simp only [impl_ColumnCounts.l0]; rw [if_neg (by omega)]
      · rw [List.drop_zero, normL_eq hs, List.foldl_map]; rfl
    obtain ⟨K, h1, h2, h3, h4⟩ := ev4 (implShape_ev l hl) (implNorm_ev l hs.1 hl) (implSize_ev l hs) hL
    refine ⟨K, fun k hk => ?_⟩
    obtain ⟨n, rfl⟩ : ∃ n, k = K + n := ⟨k - K, by omega⟩
    unfold colP
    simp only [impl_ColumnCounts.f, h1, h2, h3, hb, Option.bind_some, if_true, if_pos (show 0 ≤ (sz l).1 by omega), if_pos (show (sz l).1.toNat ≤ 35184372088832 by omega)]
    exact h4 n
  · obtain ⟨K, h1⟩ := evup (implShape_ev l hl)
    refine ⟨K, fun k hk => ?_⟩
    obtain ⟨n, rfl⟩ : ∃ n, k = K + n := ⟨k - K, by omega⟩
    unfold colP
    simp only [impl_ColumnCounts.f, h1, hb, Option.bind_some, Bool.false_eq_true, if_false]
end Go.Proofs.Ytlhlilgienicfaa.M
namespace Go.Proofs.Ytlhlilgienicfaa.Pure
set_option linter.unusedVariables false
set_option linter.unusedSimpArgs false
open Go.RowKit Go.Proofs.Ytlhlilgienicfaa.X Go.Proofs.YtlhlilgienicfaaW.PrintWords Go.Proofs.YtlhlilgienicfaaW.PrintLast Go.Proofs.YtlhlilgienicfaaW.PrintMore Go.Proofs.Ytlhlilgienicfaa.M
theorem FnExactColumnCounts : laws_FnExactColumnCounts.Pure := by
  intro l hl hw
  rcases sz_cases l hl 1048576 (by omega) (by omega) with ⟨h, e⟩ | ⟨h, e⟩
  · exact ⟨0, by simp only [laws_FnExactColumnCounts.f, e, Option.bind_some]; rfl⟩
  · have h0 : ¬ (1048576 - (l.length : Int) < 0) := by omega
    have hc := cs_length l
    have hr := colP_length (cs l)
    obtain ⟨K, e1, e2, e3, e4, e5, e6, e7, e8⟩ := ev8 (toCell_ev l (by omega)) (eqCell_ev (cs l) (by omega)) (specColumn_ev (cs l) (by omega)) (implColumn_ev (cs l) (by omega)) (eqInt_ev (colP (cs l)).1 (by omega)) (markCell_ev (cs l) 1 (by omega) (by omega) (by omega)) (markInt_ev (colP (cs l)).1 1 hr (by omega) (by omega)) (heldInt_ev (colP (cs l)).1.length hr)
    have n1 : ¬ (1 + 2 * ((cs l).length : Int) < 0) := by omega
    have n2 : ¬ (1 + ((colP (cs l)).1.length : Int) < 0) := by omega
    refine ⟨K + 4, ?_⟩
    simp only [laws_FnExactColumnCounts.f, e, Option.bind_some, if_neg h0, e1, e2, e3, e4, e5, e6, e7, e8, bne_self_eq_false, Bool.false_eq_true, if_false, if_true, laws_FnExactColumnCounts.j0, laws_FnExactColumnCounts.j1, laws_FnExactColumnCounts.j2, if_neg n1, if_neg n2]
end Go.Proofs.Ytlhlilgienicfaa.Pure
