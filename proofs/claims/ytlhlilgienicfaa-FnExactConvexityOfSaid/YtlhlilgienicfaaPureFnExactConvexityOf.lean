/- The program's ConvexityOf returns what the reference's returns, for all arguments, without any condition. -/
import Derived.Test.YtlhlilgienicfaaXx0
import Derived.Test.YtlhlilgienicfaaXx2
import Derived.Test.YtlhlilgienicfaaXx22
import Derived.Test.YtlhlilgienicfaaXx23
import Derived.Test.YtlhlilgienicfaaXx3
import Derived.Test.YtlhlilgienicfaaXx4
import Derived.Test.YtlhlilgienicfaaXx5
import Derived.Test.YtlhlilgienicfaaXx6
namespace Go.Proofs.Ytlhlilgienicfaa.X
set_option linter.unusedVariables false
set_option linter.unusedSimpArgs false
open Go.RowKit Go.Proofs.Ytlhlilgienicfaa.X Go.Proofs.YtlhlilgienicfaaW.PrintWords Go.Proofs.YtlhlilgienicfaaW.PrintLast Go.Proofs.YtlhlilgienicfaaW.PrintMore
def laws_FnExactConvexityOf.Pure : Prop := ∀ (l0 : List S32), l0.length ≤ 9223372036854775807 → (∀ x ∈ l0, (Lit.int .i64 x.f0).wf = true ∧ (Lit.int .i64 x.f1).wf = true) → ∃ k, laws_FnExactConvexityOf.f k l0 = some true
end Go.Proofs.Ytlhlilgienicfaa.X
namespace Go.Proofs.Ytlhlilgienicfaa.M
set_option linter.unusedVariables false
set_option linter.unusedSimpArgs false
open Go.RowKit Go.Proofs.Ytlhlilgienicfaa.X Go.Proofs.YtlhlilgienicfaaW.PrintWords Go.Proofs.YtlhlilgienicfaaW.PrintLast Go.Proofs.YtlhlilgienicfaaW.PrintMore
/-! ### Base -/
theorem w64 {x : Int} (h1 : -9223372036854775808 ≤ x) (h2 : x ≤ 9223372036854775807) : wrap64 x = x := by unfold wrap64; omega
theorem w64_lo (x : Int) : -9223372036854775808 ≤ wrap64 x := by unfold wrap64; omega
theorem w64_hi (x : Int) : wrap64 x ≤ 9223372036854775807 := by unfold wrap64; omega
theorem rd_byte {c : List Int} (h : ∀ x ∈ c, 0 ≤ x ∧ x ≤ 255) (i : Int) : 0 ≤ rd c i ∧ rd c i ≤ 255 := by
  unfold rd
  rw [List.getD_eq_getElem?_getD]
  by_cases hi : i.toNat < c.length
  · rw [List.getElem?_eq_getElem hi]; exact h _ (List.getElem_mem hi)
  · rw [List.getElem?_eq_none (by omega)]; decide
theorem tmod_pos {a n : Int} (h : 0 ≤ a) (hn : 0 < n) : 0 ≤ Int.tmod a n ∧ Int.tmod a n < n := by
  rw [Int.tmod_eq_emod_of_nonneg h]; exact ⟨Int.emod_nonneg _ (by omega), Int.emod_lt_of_pos _ hn⟩
theorem tmod_cast (a b : Nat) : Int.tmod (a : Int) b = ((a % b : Nat) : Int) := by
  rw [Int.tmod_eq_emod_of_nonneg (by omega)]; rfl
theorem bytes_of {l : List Int} (h : ∀ x ∈ l, (Lit.int .u8 x).wf = true) : ∀ x ∈ l, 0 ≤ x ∧ x ≤ 255 := by
  intro x hx
  have := h x hx
  simp only [Lit.wf, Bool.and_eq_true, decide_eq_true_eq] at this
  exact this
/-! ### Cell -/
abbrev C := S34
/-- the cell at a place, the zero cell behind the end -/
def at_ (l : List C) (j : Nat) : C := l.getD j ⟨0, 0⟩
theorem rd_at (l : List C) (j : Nat) : rd_T34 l (j : Int) = at_ l j := by unfold rd_T34 at_; rw [Int.toNat_natCast]; rfl
theorem at_get (l : List C) (j : Nat) (h : j < l.length) : at_ l j = l[j] := by unfold at_; rw [List.getD_eq_getElem?_getD, List.getElem?_eq_getElem h]; rfl
theorem at_mem (l : List C) (j : Nat) (h : j < l.length) : at_ l j ∈ l := by rw [at_get l j h]; exact List.getElem_mem h
theorem drop_at (l : List C) (j : Nat) (h : j < l.length) : l.drop j = at_ l j :: l.drop (j + 1) := by rw [at_get l j h, List.drop_eq_getElem_cons h]
/-- from some number of rounds on -/
def AE (P : Nat → Prop) : Prop := ∃ K, ∀ k, K ≤ k → P k
theorem AE.and {P Q : Nat → Prop} (h : AE P) (g : AE Q) : AE (fun k => P k ∧ Q k) := by
  obtain ⟨K, h⟩ := h; obtain ⟨L, g⟩ := g
  exact ⟨K + L, fun k hk => ⟨h k (by omega), g k (by omega)⟩⟩
theorem AE.up {P : Nat → Prop} (h : AE P) : ∃ K, ∀ n, P (K + n) := by
  obtain ⟨K, h⟩ := h; exact ⟨K, fun n => h _ (by omega)⟩
theorem evae {α : Type} {g : Nat → Option α} {a : α} (h : Ev g a) : AE (fun k => g k = some a) := h
theorem evup {α : Type} {g : Nat → Option α} {a : α} (h : Ev g a) : ∃ K, ∀ n, g (K + n) = some a := AE.up h
theorem ev2 {α0 α1 : Type} {g0 : Nat → Option α0} {g1 : Nat → Option α1} {a0 : α0} {a1 : α1} (h0 : Ev g0 a0) (h1 : Ev g1 a1) : ∃ K, (∀ n, g0 (K + n) = some a0) ∧ (∀ n, g1 (K + n) = some a1) := by
  obtain ⟨K, h⟩ := AE.up (AE.and (evae h0) (evae h1)); exact ⟨K, fun n => (h n).1, fun n => (h n).2⟩
theorem ev3 {α0 α1 α2 : Type} {g0 : Nat → Option α0} {g1 : Nat → Option α1} {g2 : Nat → Option α2} {a0 : α0} {a1 : α1} {a2 : α2} (h0 : Ev g0 a0) (h1 : Ev g1 a1) (h2 : Ev g2 a2) : ∃ K, (∀ n, g0 (K + n) = some a0) ∧ (∀ n, g1 (K + n) = some a1) ∧ (∀ n, g2 (K + n) = some a2) := by
  obtain ⟨K, h⟩ := AE.up (AE.and (evae h0) (AE.and (evae h1) (evae h2))); exact ⟨K, fun n => (h n).1, fun n => (h n).2.1, fun n => (h n).2.2⟩
theorem ev4 {α0 α1 α2 α3 : Type} {g0 : Nat → Option α0} {g1 : Nat → Option α1} {g2 : Nat → Option α2} {g3 : Nat → Option α3} {a0 : α0} {a1 : α1} {a2 : α2} {a3 : α3} (h0 : Ev g0 a0) (h1 : Ev g1 a1) (h2 : Ev g2 a2) (h3 : Ev g3 a3) : ∃ K, (∀ n, g0 (K + n) = some a0) ∧ (∀ n, g1 (K + n) = some a1) ∧ (∀ n, g2 (K + n) = some a2) ∧ (∀ n, g3 (K + n) = some a3) := by
  obtain ⟨K, h⟩ := AE.up (AE.and (evae h0) (AE.and (evae h1) (AE.and (evae h2) (evae h3)))); exact ⟨K, fun n => (h n).1, fun n => (h n).2.1, fun n => (h n).2.2.1, fun n => (h n).2.2.2⟩
theorem ev5 {α0 α1 α2 α3 α4 : Type} {g0 : Nat → Option α0} {g1 : Nat → Option α1} {g2 : Nat → Option α2} {g3 : Nat → Option α3} {g4 : Nat → Option α4} {a0 : α0} {a1 : α1} {a2 : α2} {a3 : α3} {a4 : α4} (h0 : Ev g0 a0) (h1 : Ev g1 a1) (h2 : Ev g2 a2) (h3 : Ev g3 a3) (h4 : Ev g4 a4) : ∃ K, (∀ n, g0 (K + n) = some a0) ∧ (∀ n, g1 (K + n) = some a1) ∧ (∀ n, g2 (K + n) = some a2) ∧ (∀ n, g3 (K + n) = some a3) ∧ (∀ n, g4 (K + n) = some a4) := by
  obtain ⟨K, h⟩ := AE.up (AE.and (evae h0) (AE.and (evae h1) (AE.and (evae h2) (AE.and (evae h3) (evae h4))))); exact ⟨K, fun n => (h n).1, fun n => (h n).2.1, fun n => (h n).2.2.1, fun n => (h n).2.2.2.1, fun n => (h n).2.2.2.2⟩
theorem ev6 {α0 α1 α2 α3 α4 α5 : Type} {g0 : Nat → Option α0} {g1 : Nat → Option α1} {g2 : Nat → Option α2} {g3 : Nat → Option α3} {g4 : Nat → Option α4} {g5 : Nat → Option α5} {a0 : α0} {a1 : α1} {a2 : α2} {a3 : α3} {a4 : α4} {a5 : α5} (h0 : Ev g0 a0) (h1 : Ev g1 a1) (h2 : Ev g2 a2) (h3 : Ev g3 a3) (h4 : Ev g4 a4) (h5 : Ev g5 a5) : ∃ K, (∀ n, g0 (K + n) = some a0) ∧ (∀ n, g1 (K + n) = some a1) ∧ (∀ n, g2 (K + n) = some a2) ∧ (∀ n, g3 (K + n) = some a3) ∧ (∀ n, g4 (K + n) = some a4) ∧ (∀ n, g5 (K + n) = some a5) := by
  obtain ⟨K, h⟩ := AE.up (AE.and (evae h0) (AE.and (evae h1) (AE.and (evae h2) (AE.and (evae h3) (AE.and (evae h4) (evae h5)))))); exact ⟨K, fun n => (h n).1, fun n => (h n).2.1, fun n => (h n).2.2.1, fun n => (h n).2.2.2.1, fun n => (h n).2.2.2.2.1, fun n => (h n).2.2.2.2.2⟩
theorem ev7 {α0 α1 α2 α3 α4 α5 α6 : Type} {g0 : Nat → Option α0} {g1 : Nat → Option α1} {g2 : Nat → Option α2} {g3 : Nat → Option α3} {g4 : Nat → Option α4} {g5 : Nat → Option α5} {g6 : Nat → Option α6} {a0 : α0} {a1 : α1} {a2 : α2} {a3 : α3} {a4 : α4} {a5 : α5} {a6 : α6} (h0 : Ev g0 a0) (h1 : Ev g1 a1) (h2 : Ev g2 a2) (h3 : Ev g3 a3) (h4 : Ev g4 a4) (h5 : Ev g5 a5) (h6 : Ev g6 a6) : ∃ K, (∀ n, g0 (K + n) = some a0) ∧ (∀ n, g1 (K + n) = some a1) ∧ (∀ n, g2 (K + n) = some a2) ∧ (∀ n, g3 (K + n) = some a3) ∧ (∀ n, g4 (K + n) = some a4) ∧ (∀ n, g5 (K + n) = some a5) ∧ (∀ n, g6 (K + n) = some a6) := by
  obtain ⟨K, h⟩ := AE.up (AE.and (evae h0) (AE.and (evae h1) (AE.and (evae h2) (AE.and (evae h3) (AE.and (evae h4) (AE.and (evae h5) (evae h6))))))); exact ⟨K, fun n => (h n).1, fun n => (h n).2.1, fun n => (h n).2.2.1, fun n => (h n).2.2.2.1, fun n => (h n).2.2.2.2.1, fun n => (h n).2.2.2.2.2.1, fun n => (h n).2.2.2.2.2.2⟩
theorem ev8 {α0 α1 α2 α3 α4 α5 α6 α7 : Type} {g0 : Nat → Option α0} {g1 : Nat → Option α1} {g2 : Nat → Option α2} {g3 : Nat → Option α3} {g4 : Nat → Option α4} {g5 : Nat → Option α5} {g6 : Nat → Option α6} {g7 : Nat → Option α7} {a0 : α0} {a1 : α1} {a2 : α2} {a3 : α3} {a4 : α4} {a5 : α5} {a6 : α6} {a7 : α7} (h0 : Ev g0 a0) (h1 : Ev g1 a1) (h2 : Ev g2 a2) (h3 : Ev g3 a3) (h4 : Ev g4 a4) (h5 : Ev g5 a5) (h6 : Ev g6 a6) (h7 : Ev g7 a7) : ∃ K, (∀ n, g0 (K + n) = some a0) ∧ (∀ n, g1 (K + n) = some a1) ∧ (∀ n, g2 (K + n) = some a2) ∧ (∀ n, g3 (K + n) = some a3) ∧ (∀ n, g4 (K + n) = some a4) ∧ (∀ n, g5 (K + n) = some a5) ∧ (∀ n, g6 (K + n) = some a6) ∧ (∀ n, g7 (K + n) = some a7) := by
  obtain ⟨K, h⟩ := AE.up (AE.and (evae h0) (AE.and (evae h1) (AE.and (evae h2) (AE.and (evae h3) (AE.and (evae h4) (AE.and (evae h5) (AE.and (evae h6) (evae h7)))))))); exact ⟨K, fun n => (h n).1, fun n => (h n).2.1, fun n => (h n).2.2.1, fun n => (h n).2.2.2.1, fun n => (h n).2.2.2.2.1, fun n => (h n).2.2.2.2.2.1, fun n => (h n).2.2.2.2.2.2.1, fun n => (h n).2.2.2.2.2.2.2⟩
theorem ev9 {α0 α1 α2 α3 α4 α5 α6 α7 α8 : Type} {g0 : Nat → Option α0} {g1 : Nat → Option α1} {g2 : Nat → Option α2} {g3 : Nat → Option α3} {g4 : Nat → Option α4} {g5 : Nat → Option α5} {g6 : Nat → Option α6} {g7 : Nat → Option α7} {g8 : Nat → Option α8} {a0 : α0} {a1 : α1} {a2 : α2} {a3 : α3} {a4 : α4} {a5 : α5} {a6 : α6} {a7 : α7} {a8 : α8} (h0 : Ev g0 a0) (h1 : Ev g1 a1) (h2 : Ev g2 a2) (h3 : Ev g3 a3) (h4 : Ev g4 a4) (h5 : Ev g5 a5) (h6 : Ev g6 a6) (h7 : Ev g7 a7) (h8 : Ev g8 a8) : ∃ K, (∀ n, g0 (K + n) = some a0) ∧ (∀ n, g1 (K + n) = some a1) ∧ (∀ n, g2 (K + n) = some a2) ∧ (∀ n, g3 (K + n) = some a3) ∧ (∀ n, g4 (K + n) = some a4) ∧ (∀ n, g5 (K + n) = some a5) ∧ (∀ n, g6 (K + n) = some a6) ∧ (∀ n, g7 (K + n) = some a7) ∧ (∀ n, g8 (K + n) = some a8) := by
  obtain ⟨K, h⟩ := AE.up (AE.and (evae h0) (AE.and (evae h1) (AE.and (evae h2) (AE.and (evae h3) (AE.and (evae h4) (AE.and (evae h5) (AE.and (evae h6) (AE.and (evae h7) (evae h8))))))))); exact ⟨K, fun n => (h n).1, fun n => (h n).2.1, fun n => (h n).2.2.1, fun n => (h n).2.2.2.1, fun n => (h n).2.2.2.2.1, fun n => (h n).2.2.2.2.2.1, fun n => (h n).2.2.2.2.2.2.1, fun n => (h n).2.2.2.2.2.2.2.1, fun n => (h n).2.2.2.2.2.2.2.2⟩
/-- a loop over a row of cells without a way out: the state is carried by g -/
theorem ev_fold {σ β : Type} (F : Nat → σ → Int → Option β) (l : List C) (g : σ → C → σ) (fin : σ → Option β) (r : β) (inv : Nat → σ → Prop)
    (step : ∀ k s (j : Nat), j < l.length → at_ l j ∈ l → inv j s → F (k + 1) s (j : Nat) = F k (g s (at_ l j)) ((j + 1 : Nat) : Int) ∧ inv (j + 1) (g s (at_ l j)))
    (done : ∀ k s, inv l.length s → F (k + 1) s (l.length : Nat) = fin s) (j0 : Nat) (hj0 : j0 ≤ l.length) (s0 : σ) (h0 : inv j0 s0) (hr : fin ((l.drop j0).foldl g s0) = some r) : Ev (fun k => F k s0 (j0 : Nat)) r := by
  have key : ∀ d j : Nat, j + d = l.length → ∀ s, inv j s → fin ((l.drop j).foldl g s) = some r → Ev (fun k => F k s (j : Nat)) r := by
    intro d
    induction d with
    | zero =>
      intro j hj s hs hr
      obtain rfl : j = l.length := by omega
      refine Ev.step (fun k => done k s hs) ?_
      rw [List.drop_length] at hr
      have hr' : fin s = some r := hr
      rw [hr']; exact Ev.now r
    | succ d ih =>
      intro j hj s hs hr
      have h : j < l.length := by omega
      refine Ev.step (fun k => (step k s j h (at_mem l j h) hs).1) (ih (j + 1) (by omega) _ ((step 0 s j h (at_mem l j h) hs).2) ?_)
      rw [drop_at l j h] at hr; exact hr
  exact key (l.length - j0) j0 (by omega) s0 h0 hr
/-! ### CellS -/
/-- the cells that a law's parameter stands for -/
def cs (l : List S32) : List C := l.map fun c => ⟨c.f0, c.f1⟩
theorem cs_length (l : List S32) : (cs l).length = l.length := by simp [cs]
theorem sz_cases (l : List S32) (hl : l.length ≤ 9223372036854775807) (b : Int) (hb : 0 ≤ b) (hb2 : b ≤ 1048576) :
    (b < (l.length : Int) ∧ laws_szCellS.f l b = some (-1)) ∨ ((l.length : Int) ≤ b ∧ laws_szCellS.f l b = some (b - (l.length : Int))) := by
  unfold laws_szCellS.f
  rw [w64 (by omega) (by omega)]
  by_cases h : b - (l.length : Int) < 0
  · exact Or.inl ⟨by omega, by rw [if_pos h]⟩
  · exact Or.inr ⟨by omega, by rw [if_neg h]⟩
theorem toCell_loop (l : List S32) (hl : l.length ≤ 1048576) : ∀ d j : Nat, j + d = l.length → ∀ x : List C, x.length = l.length → (∀ i, i < j → x[i]? = (cs l)[i]?) → Ev (fun k => laws_toCellS.l0 k l x (j : Nat)) (cs l) := by
  intro d
  induction d with
  | zero =>
    intro j hj x hx hi
    obtain rfl : x = cs l := by
      apply List.ext_getElem?
      intro i
      by_cases h : i < j
      · exact hi i h
      · rw [List.getElem?_eq_none (by omega), List.getElem?_eq_none (by rw [cs_length]; omega)]
    refine Ev.step (fun k => ?_) (Ev.now _)
    simp only [laws_toCellS.l0]; rw [if_neg (by omega)]
  | succ d ih =>
    intro j hj x hx hi
    have hc : (cs l)[j]? = some ⟨(rd_T32 l (j : Nat)).f0, (rd_T32 l (j : Nat)).f1⟩ := by
      unfold cs rd_T32; rw [List.getElem?_map, List.getD_eq_getElem?_getD, Int.toNat_natCast, List.getElem?_eq_getElem (by omega)]; rfl
    refine Ev.step (fun k => ?_) (ih (j + 1) (by omega) (x.set j ⟨(rd_T32 l (j : Nat)).f0, (rd_T32 l (j : Nat)).f1⟩) (by rw [List.length_set]; exact hx) ?_)
    · simp only [laws_toCellS.l0, laws_toCell.f, Option.bind_some]; rw [if_pos (by omega), if_pos (by omega), if_pos (by omega), w64 (by omega) (by omega)]; rfl
    · intro i h
      rw [List.getElem?_set]
      by_cases e : j = i
      · subst e; rw [if_pos rfl, if_pos (by omega), hc]
      · rw [if_neg e]; exact hi i (by omega)
theorem toCell_ev (l : List S32) (hl : l.length ≤ 1048576) : Ev (fun k => laws_toCellS.f k l) (cs l) := by
  unfold laws_toCellS.f
  simp only [if_pos (show 0 ≤ (l.length : Int) by omega), if_pos (show ((l.length : Int)).toNat ≤ 17592186044416 by omega)]
  exact toCell_loop l hl l.length 0 (by omega) _ (by simp) (by intro i h; omega)
theorem eqCell_loop (l : List C) (hl : l.length ≤ 140737488355328) : ∀ d j : Nat, j + d = l.length → Ev (fun k => laws_eqCellS.l0 k l l (j : Nat)) true := by
  intro d
  induction d with
  | zero =>
    intro j hj
    refine Ev.step (fun k => ?_) (Ev.now _)
    simp only [laws_eqCellS.l0]; rw [if_neg (by omega)]
  | succ d ih =>
    intro j hj
    refine Ev.step (fun k => ?_) (ih (j + 1) (by omega))
    simp only [laws_eqCellS.l0, laws_eqCell.f, if_true, Option.bind_some]; rw [if_pos (by omega), if_pos (by omega), if_pos (by omega), w64 (by omega) (by omega)]; rfl
theorem eqCell_ev (l : List C) (hl : l.length ≤ 140737488355328) : Ev (fun k => laws_eqCellS.f k l l) true := by
  unfold laws_eqCellS.f
  simp only [if_true]
  exact eqCell_loop l hl l.length 0 (by omega)
/-! ### In -/
theorem l01In_eq (a b c : Int) : spec_l01In.f a b c = some (decide (b ≤ a ∧ a ≤ c)) := by
  unfold spec_l01In.f; by_cases h : a ≥ b
  · rw [if_pos h]; simp [h]
  · rw [if_neg h]; simp; omega
theorem within_eq (a b c : Int) : impl_within.f a b c = some (decide (b ≤ a ∧ a ≤ c)) := l01In_eq a b c
/-! ### Shape -/
/-- the order of the cells: row by row -/
def ltC (a b : C) : Prop := a.f1 < b.f1 ∨ (a.f1 = b.f1 ∧ a.f0 < b.f0)
instance (a b : C) : Decidable (ltC a b) := by unfold ltC; exact inferInstance
def okC (a : C) : Prop := -100 ≤ a.f0 ∧ a.f0 ≤ 100 ∧ -100 ≤ a.f1 ∧ a.f1 ≤ 100
instance (a : C) : Decidable (okC a) := by unfold okC; exact inferInstance
/-- a shape: 1 to 40 cells within bounds, in the order of the cells -/
def Sh (l : List C) : Prop := 1 ≤ l.length ∧ l.length ≤ 40 ∧ (∀ i, i < l.length → okC (at_ l i)) ∧ (∀ i, i + 1 < l.length → ltC (at_ l i) (at_ l (i + 1)))
noncomputable def shB (l : List C) : Bool := @decide (Sh l) (Classical.propDecidable _)
theorem shB_true {l : List C} (h : Sh l) : shB l = true := @decide_eq_true _ (Classical.propDecidable _) h
theorem shB_false {l : List C} (h : ¬ Sh l) : shB l = false := @decide_eq_false _ (Classical.propDecidable _) h
theorem less_eq (a b c d : Int) : spec_l02Less.f a b c d = some (decide (ltC ⟨a, b⟩ ⟨c, d⟩)) := by
  unfold spec_l02Less.f ltC
  by_cases h : b < d
  · rw [if_pos h]; simp [h]
  · rw [if_neg h]
    by_cases e : b = d
    · rw [if_pos e]; simp [e]
    · rw [if_neg e]; simp [h, e]
theorem cellOk_eq (a b : Int) : spec_l02Cell.f a b = some (decide (okC ⟨a, b⟩)) := by
  unfold spec_l02Cell.f okC
  simp only [l01In_eq, Option.bind_some]
  by_cases h : -100 ≤ a ∧ a ≤ 100
  · simp [h]
  · simp only [decide_eq_false h, Bool.false_eq_true, if_false]; congr 1; exact (decide_eq_false (fun g => h ⟨g.1, g.2.1⟩)).symm
theorem isCo_eq (a : Int) : impl_isCoordinate.f a = some (decide (-100 ≤ a ∧ a ≤ 100)) := by
  unfold impl_isCoordinate.f; simp only [within_eq, Option.bind_some]
theorem cmp_eq (a b : Int) : cmp_Compare_int64.f a b = some (if a < b then -1 else if b < a then 1 else 0) := by
  unfold cmp_Compare_int64.f cmp_isNaN_int64.f
  simp only [bne_self_eq_false, Option.bind_some, Bool.false_eq_true, if_false]
  by_cases h : a < b
  · simp [h]
  · by_cases g : b < a <;> simp [h, g]
/-- -1, 0, 1: below, the same, above -/
def cmpC (a b : C) : Int := if ltC a b then -1 else if ltC b a then 1 else 0
theorem cmpCells_eq (a b c d : Int) : impl_compareCells.f a b c d = some (cmpC ⟨a, b⟩ ⟨c, d⟩) := by
  unfold impl_compareCells.f cmpC ltC
  simp only [cmp_eq, Option.bind_some]
  by_cases h : b < d
  · simp [h]
  · by_cases g : d < b
    · have : ¬ b = d := by omega
      have : ¬ d = b := by omega
      simp [*]
    · obtain rfl : b = d := by omega
      simp [h]
theorem cmpC_neg (a b : C) : (0 ≤ cmpC a b) ↔ ¬ ltC a b := by
  unfold cmpC; by_cases h : ltC a b
  · simp [h]
  · simp only [h, if_false, not_false_eq_true, iff_true]; split <;> omega
theorem specShape_loop (l : List C) (hl : l.length ≤ 1048576) : ∀ d j : Nat, j + d = l.length → (∀ i, i < j → okC (at_ l i)) → (∀ i, i + 1 < j → ltC (at_ l i) (at_ l (i + 1))) → Ev (fun k => spec_IsShape.l0 k l (j : Nat)) (shB l) := by
  intro d
  induction d with
  | zero =>
    intro j hj h1 h2
    obtain rfl : j = l.length := by omega
    refine Ev.step (fun k => ?_) (Ev.now _)
    simp only [spec_IsShape.l0, l01In_eq, Option.bind_some]; rw [if_neg (by omega)]
    congr 1
    by_cases h : 1 ≤ l.length ∧ l.length ≤ 40
    · rw [shB_true ⟨h.1, h.2, h1, h2⟩]; exact decide_eq_true (by omega)
    · rw [shB_false (fun g => h ⟨g.1, g.2.1⟩)]; exact decide_eq_false (by omega)
  | succ d ih =>
    intro j hj h1 h2
    by_cases c1 : okC (at_ l j)
    · have c1' : okC ⟨(at_ l j).f0, (at_ l j).f1⟩ := c1
      by_cases c2 : j = 0
      · subst c2
        refine Ev.step (fun k => ?_) (ih 1 (by omega) (fun i hi => by obtain rfl : i = 0 := (by omega); exact c1) (fun i hi => by omega))
        simp only [spec_IsShape.l0, rd_at, cellOk_eq, decide_eq_true c1', Option.bind_some, if_true]
        rw [if_pos (by omega), if_pos (by omega), if_neg (by omega), w64 (by omega) (by omega)]; rfl
      · obtain ⟨i, rfl⟩ : ∃ i, j = i + 1 := ⟨j - 1, by omega⟩
        have e : wrap64 (((i + 1 : Nat) : Int) - 1) = (i : Nat) := by rw [w64 (by omega) (by omega)]; omega
        by_cases c3 : ltC (at_ l i) (at_ l (i + 1))
        · have c3' : ltC ⟨(at_ l i).f0, (at_ l i).f1⟩ ⟨(at_ l (i + 1)).f0, (at_ l (i + 1)).f1⟩ := c3
          refine Ev.step (fun k => ?_) (ih (i + 1 + 1) (by omega) (fun x hx => if g : x = i + 1 then by rw [g]; exact c1 else h1 x (by omega)) (fun x hx => if g : x = i then by rw [g]; exact c3 else h2 x (by omega)))
          simp only [spec_IsShape.l0, rd_at, cellOk_eq, decide_eq_true c1', Option.bind_some, if_true, e, less_eq, decide_eq_true c3']
          rw [if_pos (by omega), if_pos (by omega), if_pos (by omega), if_pos (by omega), if_pos (by omega), w64 (by omega) (by omega)]; rfl
        · have c3' : ¬ ltC ⟨(at_ l i).f0, (at_ l i).f1⟩ ⟨(at_ l (i + 1)).f0, (at_ l (i + 1)).f1⟩ := c3
          rw [shB_false (fun g => c3 (g.2.2.2 i (by omega)))]
          refine Ev.step (fun k => ?_) (Ev.now _)
          simp only [spec_IsShape.l0, rd_at, cellOk_eq, decide_eq_true c1', Option.bind_some, if_true, e, less_eq, decide_eq_false c3', Bool.false_eq_true, if_false]
          rw [if_pos (by omega), if_pos (by omega), if_pos (by omega), if_pos (by omega), if_pos (by omega)]
    · have c1' : ¬ okC ⟨(at_ l j).f0, (at_ l j).f1⟩ := c1
      rw [shB_false (fun g => c1 (g.2.2.1 j (by omega)))]
      refine Ev.step (fun k => ?_) (Ev.now _)
      simp only [spec_IsShape.l0, rd_at, cellOk_eq, decide_eq_false c1', Option.bind_some, Bool.false_eq_true, if_false]
      rw [if_pos (by omega), if_pos (by omega)]
theorem specShape_ev (l : List C) (hl : l.length ≤ 1048576) : Ev (fun k => spec_IsShape.f k l) (shB l) :=
  specShape_loop l hl l.length 0 (by omega) (fun i hi => by omega) (fun i hi => by omega)
theorem implShape_loop (l : List C) (hl : l.length ≤ 1048576) : ∀ d j : Nat, j + d = l.length → (∀ i, i < j → okC (at_ l i)) → (∀ i, i + 1 < j → ltC (at_ l i) (at_ l (i + 1))) → Ev (fun k => impl_IsShape.l0 k l l (l.length : Int) (j : Nat)) (shB l) := by
  intro d
  induction d with
  | zero =>
    intro j hj h1 h2
    obtain rfl : j = l.length := by omega
    refine Ev.step (fun k => ?_) (Ev.now _)
    simp only [impl_IsShape.l0]; rw [if_neg (by omega)]
    by_cases h : 1 ≤ l.length ∧ l.length ≤ 40
    · rw [shB_true ⟨h.1, h.2, h1, h2⟩, if_pos (by omega)]; congr 1; exact decide_eq_true (by omega)
    · rw [shB_false (fun g => h ⟨g.1, g.2.1⟩)]
      by_cases g : (l.length : Int) ≥ 1
      · rw [if_pos g]; congr 1; exact decide_eq_false (by omega)
      · rw [if_neg g]
  | succ d ih =>
    intro j hj h1 h2
    by_cases c1 : okC (at_ l j)
    · have ca : -100 ≤ (at_ l j).f0 ∧ (at_ l j).f0 ≤ 100 := ⟨c1.1, c1.2.1⟩
      have cb : -100 ≤ (at_ l j).f1 ∧ (at_ l j).f1 ≤ 100 := c1.2.2
      by_cases c2 : j = 0
      · subst c2
        refine Ev.step (fun k => ?_) (ih 1 (by omega) (fun i hi => by obtain rfl : i = 0 := (by omega); exact c1) (fun i hi => by omega))
        simp only [impl_IsShape.l0, rd_at, isCo_eq, decide_eq_true ca, decide_eq_true cb, Option.bind_some, if_true]
        rw [if_pos (by omega), if_pos (by omega), if_pos (by omega), if_neg (by omega), w64 (by omega) (by omega)]; rfl
      · obtain ⟨i, rfl⟩ : ∃ i, j = i + 1 := ⟨j - 1, by omega⟩
        have e : wrap64 (((i + 1 : Nat) : Int) - 1) = (i : Nat) := by rw [w64 (by omega) (by omega)]; omega
        by_cases c3 : ltC (at_ l i) (at_ l (i + 1))
        · have c3' : ¬ (cmpC ⟨(at_ l i).f0, (at_ l i).f1⟩ ⟨(at_ l (i + 1)).f0, (at_ l (i + 1)).f1⟩ ≥ 0) := fun g => (cmpC_neg _ _).1 g c3
          refine Ev.step (fun k => ?_) (ih (i + 1 + 1) (by omega) (fun x hx => if g : x = i + 1 then by rw [g]; exact c1 else h1 x (by omega)) (fun x hx => if g : x = i then by rw [g]; exact c3 else h2 x (by omega)))
          simp only [impl_IsShape.l0, rd_at, isCo_eq, decide_eq_true ca, decide_eq_true cb, Option.bind_some, if_true, e, cmpCells_eq, if_neg c3']
          rw [if_pos (by omega), if_pos (by omega), if_pos (by omega), if_pos (by omega), if_pos (by omega), if_pos (by omega), w64 (by omega) (by omega)]; rfl
        · have c3' : cmpC ⟨(at_ l i).f0, (at_ l i).f1⟩ ⟨(at_ l (i + 1)).f0, (at_ l (i + 1)).f1⟩ ≥ 0 := (cmpC_neg _ _).2 c3
          rw [shB_false (fun g => c3 (g.2.2.2 i (by omega)))]
          refine Ev.step (fun k => ?_) (Ev.now _)
          simp only [impl_IsShape.l0, rd_at, isCo_eq, decide_eq_true ca, decide_eq_true cb, Option.bind_some, if_true, e, cmpCells_eq, if_pos c3']
          rw [if_pos (by omega), if_pos (by omega), if_pos (by omega), if_pos (by omega), if_pos (by omega), if_pos (by omega)]
    · rw [shB_false (fun g => c1 (g.2.2.1 j (by omega)))]
      refine Ev.step (fun k => ?_) (Ev.now _)
      simp only [impl_IsShape.l0, rd_at, isCo_eq, Option.bind_some]
      rw [if_pos (by omega), if_pos (by omega), if_pos (by omega)]
      by_cases ca : -100 ≤ (at_ l j).f0 ∧ (at_ l j).f0 ≤ 100
      · have cb : ¬ (-100 ≤ (at_ l j).f1 ∧ (at_ l j).f1 ≤ 100) := fun cb => c1 ⟨ca.1, ca.2, cb.1, cb.2⟩
        simp only [decide_eq_true ca, decide_eq_false cb, if_true, Bool.false_eq_true, if_false]
      · simp only [decide_eq_false ca, Bool.false_eq_true, if_false]
theorem implShape_ev (l : List C) (hl : l.length ≤ 1048576) : Ev (fun k => impl_IsShape.f k l) (shB l) :=
  implShape_loop l hl l.length 0 (by omega) (fun i hi => by omega) (fun i hi => by omega)
/-! ### ShUse -/
theorem mem_at {l : List C} {c : C} (h : c ∈ l) : ∃ i, i < l.length ∧ at_ l i = c := by
  obtain ⟨i, hi, e⟩ := List.mem_iff_getElem.1 h
  exact ⟨i, hi, (at_get l i hi).trans e⟩
theorem Sh.ok {l : List C} (h : Sh l) {c : C} (hc : c ∈ l) : okC c := by
  obtain ⟨i, hi, rfl⟩ := mem_at hc
  exact h.2.2.1 i hi
theorem ltC_trans {a b c : C} (h : ltC a b) (g : ltC b c) : ltC a c := by unfold ltC at *; omega
theorem ltC_irrefl {a : C} (h : ltC a a) : False := by unfold ltC at h; omega
theorem Sh.lt {l : List C} (h : Sh l) : ∀ i j, i < j → j < l.length → ltC (at_ l i) (at_ l j) := by
  intro i j
  induction j with
  | zero => intro h; omega
  | succ j ih =>
    intro hij hj
    by_cases e : i = j
    · subst e; exact h.2.2.2 i hj
    · exact ltC_trans (ih (by omega) (by omega)) (h.2.2.2 j hj)
theorem sh_cases (l : List C) : (Sh l ∧ shB l = true) ∨ (¬ Sh l ∧ shB l = false) := by
  by_cases h : Sh l
  · exact Or.inl ⟨h, shB_true h⟩
  · exact Or.inr ⟨h, shB_false h⟩
/-! ### Ix -/
/-- the place of a cell in a row, from a place on; -1 if it is not in it -/
def ixF : Nat → List C → Int → Int → Int
  | _, [], _, _ => -1
  | j, c :: r, x, y => if c.f0 = x ∧ c.f1 = y then (j : Int) else ixF (j + 1) r x y
theorem ixF_mem (x y : Int) : ∀ (r : List C) (j : Nat), 0 ≤ ixF j r x y ↔ (⟨x, y⟩ : C) ∈ r := by
  intro r
  induction r with
  | nil => intro j; simp [ixF]
  | cons c r ih =>
    intro j
    unfold ixF
    by_cases h : c.f0 = x ∧ c.f1 = y
    · rw [if_pos h]
      constructor
      · intro _; obtain ⟨rfl, rfl⟩ := h; exact List.mem_cons_self
      · intro _; omega
    · rw [if_neg h, ih (j + 1), List.mem_cons]
      constructor
      · exact fun g => Or.inr g
      · rintro (g | g)
        · exact absurd (by rw [← g]; exact ⟨rfl, rfl⟩) h
        · exact g
/-- the cell is in the row -/
def hasC (l : List C) (x y : Int) : Bool := decide (0 ≤ ixF 0 l x y)
theorem hasC_iff (l : List C) (x y : Int) : hasC l x y = true ↔ (⟨x, y⟩ : C) ∈ l := by unfold hasC; rw [decide_eq_true_eq]; exact ixF_mem x y l 0
theorem hasC_true {l : List C} {x y : Int} (h : (⟨x, y⟩ : C) ∈ l) : hasC l x y = true := (hasC_iff l x y).2 h
theorem hasC_false {l : List C} {x y : Int} (h : ¬ (⟨x, y⟩ : C) ∈ l) : hasC l x y = false := by
  cases e : hasC l x y with
  | false => rfl
  | true => exact absurd ((hasC_iff l x y).1 e) h
/-! ### IxS -/
theorem specIx_loop (l : List C) (x y : Int) (hl : l.length ≤ 1048576) : ∀ d j : Nat, j + d = l.length → Ev (fun k => spec_l02Index.l0 k l (j : Nat) x y) (ixF j (l.drop j) x y) := by
  intro d
  induction d with
  | zero =>
    intro j hj
    obtain rfl : j = l.length := by omega
    rw [List.drop_length]
    refine Ev.step (fun k => ?_) (Ev.now _)
    simp only [spec_l02Index.l0, ixF]; rw [if_neg (by omega)]
  | succ d ih =>
    intro j hj
    rw [drop_at l j (by omega)]
    have e : ∀ k, spec_l02Index.l0 (k + 1) l (j : Nat) x y = if (at_ l j).f0 = x ∧ (at_ l j).f1 = y then some (j : Int) else spec_l02Index.l0 k l ((j + 1 : Nat) : Int) x y := by
      intro k
      simp only [spec_l02Index.l0, rd_at, Bool.and_eq_true, beq_iff_eq]
      rw [if_pos (by omega), if_pos (by omega), w64 (by omega) (by omega)]; rfl
    unfold ixF
    by_cases c : (at_ l j).f0 = x ∧ (at_ l j).f1 = y
    · rw [if_pos c]; exact Ev.step (f := fun _ => some (j : Int)) (fun k => (e k).trans (if_pos c)) (Ev.now _)
    · rw [if_neg c]; exact Ev.step (fun k => (e k).trans (if_neg c)) (ih (j + 1) (by omega))
theorem specIx_ev (l : List C) (x y : Int) (hl : l.length ≤ 1048576) : Ev (fun k => spec_l02Index.f k l x y) (ixF 0 l x y) :=
  specIx_loop l x y hl l.length 0 (by omega)
/-! ### IxI -/
theorem implIx_loop (l : List C) (x y : Int) (hl : l.length ≤ 1048576) : ∀ d j : Nat, j + d = l.length → Ev (fun k => slices_Index_Cell.l0 k l (l.length : Int) (j : Nat) x y) (ixF j (l.drop j) x y) := by
  intro d
  induction d with
  | zero =>
    intro j hj
    obtain rfl : j = l.length := by omega
    rw [List.drop_length]
    refine Ev.step (fun k => ?_) (Ev.now _)
    simp only [slices_Index_Cell.l0, ixF]; rw [if_neg (by omega)]
  | succ d ih =>
    intro j hj
    rw [drop_at l j (by omega)]
    have e : ∀ k, slices_Index_Cell.l0 (k + 1) l (l.length : Int) (j : Nat) x y = if (at_ l j).f0 = x ∧ (at_ l j).f1 = y then some (j : Int) else slices_Index_Cell.l0 k l (l.length : Int) ((j + 1 : Nat) : Int) x y := by
      intro k
      simp only [slices_Index_Cell.l0, rd_at, Bool.and_eq_true, beq_iff_eq]
      rw [if_pos (by omega), if_pos (by omega), if_pos (by omega), w64 (by omega) (by omega)]
      by_cases c : (at_ l j).f0 = x ∧ (at_ l j).f1 = y
      · rw [if_pos c, if_pos ⟨c.1.symm, c.2.symm⟩]
      · rw [if_neg c, if_neg (fun g => c ⟨g.1.symm, g.2.symm⟩)]; rfl
    unfold ixF
    by_cases c : (at_ l j).f0 = x ∧ (at_ l j).f1 = y
    · rw [if_pos c]; exact Ev.step (f := fun _ => some (j : Int)) (fun k => (e k).trans (if_pos c)) (Ev.now _)
    · rw [if_neg c]; exact Ev.step (fun k => (e k).trans (if_neg c)) (ih (j + 1) (by omega))
theorem contains_ev (l : List C) (x y : Int) (hl : l.length ≤ 1048576) : Ev (fun k => slices_Contains_Cell.f k l x y) (hasC l x y) := by
  unfold slices_Contains_Cell.f
  exact Ev.bind (f := fun _ t => some (decide (t ≥ 0))) (implIx_loop l x y hl l.length 0 (by omega)) (Ev.now _)
/-! ### ConvP -/
/-- a statement as a truth value -/
noncomputable def tt (p : Prop) : Bool := @decide p (Classical.propDecidable p)
theorem tt_true {p : Prop} (h : p) : tt p = true := @decide_eq_true p (Classical.propDecidable p) h
theorem tt_false {p : Prop} (h : ¬ p) : tt p = false := @decide_eq_false p (Classical.propDecidable p) h
theorem tt_congr {p q : Prop} (h : p ↔ q) : tt p = tt q := by
  by_cases g : q
  · rw [tt_true g, tt_true (h.2 g)]
  · rw [tt_false g, tt_false (fun x => g (h.1 x))]
theorem tt_and (p q : Prop) : (tt p && tt q) = tt (p ∧ q) := by
  by_cases g : p
  · by_cases k : q
    · rw [tt_true g, tt_true k, tt_true ⟨g, k⟩]; rfl
    · rw [tt_true g, tt_false k, tt_false (fun (x : p ∧ q) => k x.2)]; rfl
  · rw [tt_false g, tt_false (fun (x : p ∧ q) => g x.1)]; rfl
theorem hasC_tt (l : List C) (x y : Int) : hasC l x y = tt ((⟨x, y⟩ : C) ∈ l) := by
  by_cases h : (⟨x, y⟩ : C) ∈ l
  · rw [hasC_true h, tt_true h]
  · rw [hasC_false h, tt_false h]
def segX (l : List C) (y x m : Int) : Prop := ∀ z, x ≤ z → z < m → (⟨z, y⟩ : C) ∈ l
def segY (l : List C) (x y m : Int) : Prop := ∀ z, y ≤ z → z < m → (⟨x, z⟩ : C) ∈ l
theorem segX_end (l : List C) (y x m : Int) (h : m ≤ x) : tt (segX l y x m) = true := tt_true fun z _ _ => by omega
theorem segY_end (l : List C) (x y m : Int) (h : m ≤ y) : tt (segY l x y m) = true := tt_true fun z _ _ => by omega
theorem segX_step (l : List C) (y x m : Int) (h : x < m) : (hasC l x y && tt (segX l y (x + 1) m)) = tt (segX l y x m) := by
  rw [hasC_tt, tt_and]
  refine tt_congr ⟨fun ⟨a, b⟩ z h1 h2 => ?_, fun a => ⟨a x (by omega) h, fun z h1 h2 => a z (by omega) h2⟩⟩
  by_cases e : z = x
  · rw [e]; exact a
  · exact b z (by omega) h2
theorem segY_step (l : List C) (x y m : Int) (h : y < m) : (hasC l x y && tt (segY l x (y + 1) m)) = tt (segY l x y m) := by
  rw [hasC_tt, tt_and]
  refine tt_congr ⟨fun ⟨a, b⟩ z h1 h2 => ?_, fun a => ⟨a y (by omega) h, fun z h1 h2 => a z (by omega) h2⟩⟩
  by_cases e : z = y
  · rw [e]; exact a
  · exact b z (by omega) h2
/-- the row between two cells of one row, from t behind the first -/
def rowOk (l : List C) (t : Int) (a b : C) : Prop := a.f1 = b.f1 → segX l a.f1 (a.f0 + t) b.f0
def colOk (l : List C) (t : Int) (a b : C) : Prop := a.f0 = b.f0 → segY l a.f0 (a.f1 + t) b.f1
theorem all_drop {l : List C} {j : Nat} (h : j < l.length) (p : C → Prop) : (tt (p (at_ l j)) && tt (∀ b ∈ l.drop (j + 1), p b)) = tt (∀ b ∈ l.drop j, p b) := by
  rw [tt_and, drop_at l j h]
  refine tt_congr ⟨fun ⟨a, b⟩ c hc => ?_, fun a => ⟨a _ List.mem_cons_self, fun c hc => a c (List.mem_cons_of_mem _ hc)⟩⟩
  rcases List.mem_cons.1 hc with rfl | hc
  · exact a
  · exact b c hc
theorem all_end {l : List C} (p : C → Prop) : tt (∀ b ∈ l.drop l.length, p b) = true := tt_true (by rw [List.drop_length]; intro b hb; cases hb)
section
theorem sconv_l2 (l : List C) (hl : l.length ≤ 1048576) (x6 : Bool) (x7 x8 ax ay bx byy : Int) (hb : -100 ≤ bx ∧ bx ≤ 100) (r : Bool × Bool × Int) : ∀ d : Nat, ∀ (x : Int) (x5 : Bool), -100 ≤ x → bx - x ≤ d → Ev (fun k => spec_ConvexityOf.j3 k l (x5 && tt (segX l ay x bx)) x6 x7 x8 ax ay bx byy) r → Ev (fun k => spec_ConvexityOf.l2 k l x5 x6 x7 x8 x ax ay bx byy) r := by
  intro d
  induction d with
  | zero =>
    intro x x5 h1 h2 g
    rw [segX_end l ay x bx (by omega), Bool.and_true] at g
    refine Ev.step (fun k => ?_) g
    simp only [spec_ConvexityOf.l2]; rw [if_neg (by omega)]
  | succ d ih =>
    intro x x5 h1 h2 g
    by_cases h3 : x < bx
    · have e : ∀ k, spec_ConvexityOf.l2 (k + 1) l x5 x6 x7 x8 x ax ay bx byy = if x5 = true then ((spec_l02Index.f k l x ay).bind fun t349 => (spec_ConvexityOf.l2 k l (decide (t349 ≥ 0)) x6 x7 x8 (x + 1) ax ay bx byy)) else (spec_ConvexityOf.l2 k l false x6 x7 x8 (x + 1) ax ay bx byy) := by
        intro k
        simp only [spec_ConvexityOf.l2]; rw [if_pos h3, w64 (by omega) (by omega)]
      rw [← segX_step l ay x bx h3] at g
      cases x5 with
      | true =>
        refine Ev.step (f := fun k => (spec_l02Index.f k l x ay).bind fun t349 => (spec_ConvexityOf.l2 k l (decide (t349 ≥ 0)) x6 x7 x8 (x + 1) ax ay bx byy)) (fun k => (e k).trans (if_pos rfl)) ?_
        refine Ev.bind (f := fun k t349 => (spec_ConvexityOf.l2 k l (decide (t349 ≥ 0)) x6 x7 x8 (x + 1) ax ay bx byy)) (specIx_ev l x ay hl) ?_
        refine ih (x + 1) _ (by omega) (by omega) ?_
        rw [Bool.true_and] at g
        exact g
      | false =>
        refine Ev.step (fun k => (e k).trans (if_neg (by simp))) (ih (x + 1) _ (by omega) (by omega) ?_)
        rw [Bool.false_and] at g ⊢
        exact g
    · rw [segX_end l ay x bx (by omega), Bool.and_true] at g
      refine Ev.step (fun k => ?_) g
      simp only [spec_ConvexityOf.l2]; rw [if_neg (by omega)]
theorem sconv_l3 (l : List C) (hl : l.length ≤ 1048576) (x5 : Bool) (x7 x8 ax ay bx byy : Int) (hb : -100 ≤ byy ∧ byy ≤ 100) (r : Bool × Bool × Int) : ∀ d : Nat, ∀ (y : Int) (x6 : Bool), -100 ≤ y → byy - y ≤ d → Ev (fun k => spec_ConvexityOf.l1 k l x5 (x6 && tt (segY l ax y byy)) x7 (wrap64 (x8 + 1))) r → Ev (fun k => spec_ConvexityOf.l3 k l x5 x6 x7 x8 y ax ay bx byy) r := by
  intro d
  induction d with
  | zero =>
    intro x x5 h1 h2 g
    rw [segY_end l ax x byy (by omega), Bool.and_true] at g
    refine Ev.step (fun k => ?_) g
    simp only [spec_ConvexityOf.l3]; rw [if_neg (by omega)]
  | succ d ih =>
    intro y x6 h1 h2 g
    by_cases h3 : y < byy
    · have e : ∀ k, spec_ConvexityOf.l3 (k + 1) l x5 x6 x7 x8 y ax ay bx byy = if x6 = true then ((spec_l02Index.f k l ax y).bind fun t349 => (spec_ConvexityOf.l3 k l x5 (decide (t349 ≥ 0)) x7 x8 (y + 1) ax ay bx byy)) else (spec_ConvexityOf.l3 k l x5 false x7 x8 (y + 1) ax ay bx byy) := by
        intro k
        simp only [spec_ConvexityOf.l3]; rw [if_pos h3, w64 (x := y + 1) (by omega) (by omega)]
      rw [← segY_step l ax y byy h3] at g
      cases x6 with
      | true =>
        refine Ev.step (f := fun k => (spec_l02Index.f k l ax y).bind fun t349 => (spec_ConvexityOf.l3 k l x5 (decide (t349 ≥ 0)) x7 x8 (y + 1) ax ay bx byy)) (fun k => (e k).trans (if_pos rfl)) ?_
        refine Ev.bind (f := fun k t349 => (spec_ConvexityOf.l3 k l x5 (decide (t349 ≥ 0)) x7 x8 (y + 1) ax ay bx byy)) (specIx_ev l ax y hl) ?_
        refine ih (y + 1) _ (by omega) (by omega) ?_
        rw [Bool.true_and] at g
        exact g
      | false =>
        refine Ev.step (fun k => (e k).trans (if_neg (by simp))) (ih (y + 1) _ (by omega) (by omega) ?_)
        rw [Bool.false_and] at g ⊢
        exact g
    · rw [segY_end l ax y byy (by omega), Bool.and_true] at g
      refine Ev.step (fun k => ?_) g
      simp only [spec_ConvexityOf.l3]; rw [if_neg (by omega)]
theorem sconv_l1 (l : List C) (hl : l.length ≤ 1048576) (hs : Sh l) (j : Nat) (hj : j < l.length) (r : Bool × Bool × Int) : ∀ d i : Nat, i + d = l.length → ∀ (x5 x6 : Bool),
    Ev (fun k => spec_ConvexityOf.l0 k l (x5 && tt (∀ b ∈ l.drop i, rowOk l 0 (at_ l j) b)) (x6 && tt (∀ b ∈ l.drop i, colOk l 0 (at_ l j) b)) ((j + 1 : Nat) : Int)) r → Ev (fun k => spec_ConvexityOf.l1 k l x5 x6 (j : Nat) (i : Nat)) r := by
  intro d
  induction d with
  | zero =>
    intro i hi x5 x6 g
    obtain rfl : i = l.length := by omega
    rw [all_end, all_end, Bool.and_true, Bool.and_true] at g
    refine Ev.step (fun k => ?_) g
    simp only [spec_ConvexityOf.l1]; rw [if_neg (by omega), w64 (by omega) (by omega)]; rfl
  | succ d ih =>
    intro i hi x5 x6 g
    have hil : i < l.length := by omega
    have oa := hs.ok (at_mem l j hj)
    have ob := hs.ok (at_mem l i hil)
    unfold okC at oa ob
    rw [← all_drop hil, ← all_drop hil, ← Bool.and_assoc, ← Bool.and_assoc] at g
    have g1 := ih (i + 1) (by omega) _ _ g
    have ei : wrap64 ((i : Int) + 1) = ((i + 1 : Nat) : Int) := by rw [w64 (by omega) (by omega)]; rfl
    have e : ∀ k, spec_ConvexityOf.l1 (k + 1) l x5 x6 (j : Nat) (i : Nat) = if (at_ l j).f1 = (at_ l i).f1 then (spec_ConvexityOf.l2 k l x5 x6 j i ((at_ l j).f0) ((at_ l j).f0) ((at_ l j).f1) ((at_ l i).f0) ((at_ l i).f1)) else (spec_ConvexityOf.j3 k l x5 x6 j i ((at_ l j).f0) ((at_ l j).f1) ((at_ l i).f0) ((at_ l i).f1)) := by
      intro k
      simp only [spec_ConvexityOf.l1, rd_at]
      rw [if_pos (by omega), if_pos (by omega), if_pos (by omega), if_pos (by omega)]
    have g2 : Ev (fun k => spec_ConvexityOf.j3 k l (x5 && tt (rowOk l 0 (at_ l j) (at_ l i))) x6 j i ((at_ l j).f0) ((at_ l j).f1) ((at_ l i).f0) ((at_ l i).f1)) r := by
      by_cases c : (at_ l j).f0 = (at_ l i).f0
      · refine Ev.step (f := fun k => spec_ConvexityOf.l3 k l (x5 && tt (rowOk l 0 (at_ l j) (at_ l i))) x6 j i ((at_ l j).f1) ((at_ l j).f0) ((at_ l j).f1) ((at_ l i).f0) ((at_ l i).f1)) (fun k => by simp only [spec_ConvexityOf.j3]; rw [if_pos c]) ?_
        refine sconv_l3 l hl _ _ _ _ _ _ _ (by omega) r 1000 _ _ (by omega) (by omega) ?_
        rw [ei]
        have z : tt (segY l (at_ l j).f0 (at_ l j).f1 (at_ l i).f1) = tt (colOk l 0 (at_ l j) (at_ l i)) := tt_congr ⟨fun q _ => by rw [Int.add_zero]; exact q, fun q => by have := q c; rw [Int.add_zero] at this; exact this⟩
        rw [z]; exact g1
      · refine Ev.step (f := fun k => spec_ConvexityOf.l1 k l (x5 && tt (rowOk l 0 (at_ l j) (at_ l i))) x6 j ((i + 1 : Nat) : Int)) (fun k => by simp only [spec_ConvexityOf.j3]; rw [if_neg c, ei]) ?_
        have z : tt (colOk l 0 (at_ l j) (at_ l i)) = true := tt_true fun q => absurd q c
        rw [z, Bool.and_true] at g1; exact g1
    by_cases c : (at_ l j).f1 = (at_ l i).f1
    · refine Ev.step (fun k => (e k).trans (if_pos c)) ?_
      refine sconv_l2 l hl _ _ _ _ _ _ _ (by omega) r 1000 _ _ (by omega) (by omega) ?_
      have z : tt (segX l (at_ l j).f1 (at_ l j).f0 (at_ l i).f0) = tt (rowOk l 0 (at_ l j) (at_ l i)) := tt_congr ⟨fun q _ => by rw [Int.add_zero]; exact q, fun q => by have := q c; rw [Int.add_zero] at this; exact this⟩
      rw [z]; exact g2
    · refine Ev.step (fun k => (e k).trans (if_neg c)) ?_
      have z : tt (rowOk l 0 (at_ l j) (at_ l i)) = true := tt_true fun q => absurd q c
      rw [z, Bool.and_true] at g2; exact g2
theorem sconv_l0 (l : List C) (hl : l.length ≤ 1048576) (hs : Sh l) : ∀ d j : Nat, j + d = l.length → ∀ (x5 x6 : Bool),
    Ev (fun k => spec_ConvexityOf.l0 k l x5 x6 (j : Nat)) (x5 && tt (∀ a ∈ l.drop j, ∀ b ∈ l.drop 0, rowOk l 0 a b), x6 && tt (∀ a ∈ l.drop j, ∀ b ∈ l.drop 0, colOk l 0 a b), 0) := by
  intro d
  induction d with
  | zero =>
    intro j hj x5 x6
    obtain rfl : j = l.length := by omega
    rw [all_end, all_end, Bool.and_true, Bool.and_true]
    refine Ev.step (fun k => ?_) (Ev.now _)
    simp only [spec_ConvexityOf.l0]; rw [if_neg (by omega)]
  | succ d ih =>
    intro j hj x5 x6
    have hjl : j < l.length := by omega
    rw [← all_drop hjl (fun a => ∀ b ∈ l.drop 0, rowOk l 0 a b), ← all_drop hjl (fun a => ∀ b ∈ l.drop 0, colOk l 0 a b), ← Bool.and_assoc, ← Bool.and_assoc]
    refine Ev.step (f := fun k => spec_ConvexityOf.l1 k l x5 x6 (j : Nat) ((0 : Nat) : Int)) (fun k => by simp only [spec_ConvexityOf.l0]; rw [if_pos (by omega)]; rfl) ?_
    exact sconv_l1 l hl hs j hjl _ l.length 0 (by omega) x5 x6 (ih (j + 1) (by omega) _ _)
theorem iconv_l2 (l : List C) (hl : l.length ≤ 1048576) (x6 : Bool) (x17 x18 x23 x24 ax ay bx byy : Int) (x16 x22 : List C) (he : ay = byy) (hb : -100 ≤ bx ∧ bx ≤ 100) (r : Bool × Bool × Int) : ∀ d : Nat, ∀ (x : Int) (x5 : Bool), -100 ≤ x → bx - x ≤ d → Ev (fun k => impl_ConvexityOf.j3 k l (x5 && tt (segX l ay x bx)) x6 x16 x17 x18 x22 x23 x24 ax ay bx byy) r → Ev (fun k => impl_ConvexityOf.l2 k l x5 x6 x x16 x17 x18 x22 x23 x24 ax ay bx byy) r := by
  intro d
  induction d with
  | zero =>
    intro x x5 h1 h2 g
    rw [segX_end l ay x bx (by omega), Bool.and_true] at g
    refine Ev.step (fun k => ?_) g
    simp only [impl_ConvexityOf.l2]; rw [if_pos he, if_neg (by omega)]
  | succ d ih =>
    intro x x5 h1 h2 g
    by_cases h3 : x < bx
    · have e : ∀ k, impl_ConvexityOf.l2 (k + 1) l x5 x6 x x16 x17 x18 x22 x23 x24 ax ay bx byy = if x5 = true then ((slices_Contains_Cell.f k l x ay).bind fun t => (impl_ConvexityOf.l2 k l t x6 (x + 1) x16 x17 x18 x22 x23 x24 ax ay bx byy)) else (impl_ConvexityOf.l2 k l false x6 (x + 1) x16 x17 x18 x22 x23 x24 ax ay bx byy) := by
        intro k
        simp only [impl_ConvexityOf.l2]; rw [if_pos he, if_pos h3, w64 (by omega) (by omega)]
      rw [← segX_step l ay x bx h3] at g
      cases x5 with
      | true =>
        refine Ev.step (f := fun k => (slices_Contains_Cell.f k l x ay).bind fun t => (impl_ConvexityOf.l2 k l t x6 (x + 1) x16 x17 x18 x22 x23 x24 ax ay bx byy)) (fun k => (e k).trans (if_pos rfl)) ?_
        refine Ev.bind (f := fun k t => (impl_ConvexityOf.l2 k l t x6 (x + 1) x16 x17 x18 x22 x23 x24 ax ay bx byy)) (contains_ev l x ay hl) ?_
        refine ih (x + 1) _ (by omega) (by omega) ?_
        rw [Bool.true_and] at g
        exact g
      | false =>
        refine Ev.step (fun k => (e k).trans (if_neg (by simp))) (ih (x + 1) _ (by omega) (by omega) ?_)
        rw [Bool.false_and] at g ⊢
        exact g
    · rw [segX_end l ay x bx (by omega), Bool.and_true] at g
      refine Ev.step (fun k => ?_) g
      simp only [impl_ConvexityOf.l2]; rw [if_pos he, if_neg (by omega)]
theorem iconv_l3 (l : List C) (hl : l.length ≤ 1048576) (x5 : Bool) (x17 x18 x23 x24 ax ay bx byy : Int) (x16 x22 : List C) (he : ax = bx) (hb : -100 ≤ byy ∧ byy ≤ 100) (r : Bool × Bool × Int) : ∀ d : Nat, ∀ (y : Int) (x6 : Bool), -100 ≤ y → byy - y ≤ d → Ev (fun k => impl_ConvexityOf.l1 k l x5 (x6 && tt (segY l ax y byy)) x16 x17 x18 x22 x23 (wrap64 (x24 + 1)) ax ay) r → Ev (fun k => impl_ConvexityOf.l3 k l x5 x6 y x16 x17 x18 x22 x23 x24 ax ay bx byy) r := by
  intro d
  induction d with
  | zero =>
    intro y x6 h1 h2 g
    rw [segY_end l ax y byy (by omega), Bool.and_true] at g
    refine Ev.step (fun k => ?_) g
    simp only [impl_ConvexityOf.l3]; rw [if_pos he, if_neg (by omega)]
  | succ d ih =>
    intro y x6 h1 h2 g
    by_cases h3 : y < byy
    · have e : ∀ k, impl_ConvexityOf.l3 (k + 1) l x5 x6 y x16 x17 x18 x22 x23 x24 ax ay bx byy = if x6 = true then ((slices_Contains_Cell.f k l ax y).bind fun t => (impl_ConvexityOf.l3 k l x5 t (y + 1) x16 x17 x18 x22 x23 x24 ax ay bx byy)) else (impl_ConvexityOf.l3 k l x5 false (y + 1) x16 x17 x18 x22 x23 x24 ax ay bx byy) := by
        intro k
        simp only [impl_ConvexityOf.l3]; rw [if_pos he, if_pos h3, w64 (x := y + 1) (by omega) (by omega)]
      rw [← segY_step l ax y byy h3] at g
      cases x6 with
      | true =>
        refine Ev.step (f := fun k => (slices_Contains_Cell.f k l ax y).bind fun t => (impl_ConvexityOf.l3 k l x5 t (y + 1) x16 x17 x18 x22 x23 x24 ax ay bx byy)) (fun k => (e k).trans (if_pos rfl)) ?_
        refine Ev.bind (f := fun k t => (impl_ConvexityOf.l3 k l x5 t (y + 1) x16 x17 x18 x22 x23 x24 ax ay bx byy)) (contains_ev l ax y hl) ?_
        refine ih (y + 1) _ (by omega) (by omega) ?_
        rw [Bool.true_and] at g
        exact g
      | false =>
        refine Ev.step (fun k => (e k).trans (if_neg (by simp))) (ih (y + 1) _ (by omega) (by omega) ?_)
        rw [Bool.false_and] at g ⊢
        exact g
    · rw [segY_end l ax y byy (by omega), Bool.and_true] at g
      refine Ev.step (fun k => ?_) g
      simp only [impl_ConvexityOf.l3]; rw [if_pos he, if_neg (by omega)]
theorem iconv_l1 (l : List C) (hl : l.length ≤ 1048576) (hs : Sh l) (j : Nat) (hj : j < l.length) (r : Bool × Bool × Int) : ∀ d i : Nat, i + d = l.length → ∀ (x5 x6 : Bool),
    Ev (fun k => impl_ConvexityOf.l0 k l (x5 && tt (∀ b ∈ l.drop i, rowOk l 1 (at_ l j) b)) (x6 && tt (∀ b ∈ l.drop i, colOk l 1 (at_ l j) b)) l (l.length : Int) ((j + 1 : Nat) : Int)) r → Ev (fun k => impl_ConvexityOf.l1 k l x5 x6 l (l.length : Int) (j : Nat) l (l.length : Int) (i : Nat) (at_ l j).f0 (at_ l j).f1) r := by
  intro d
  induction d with
  | zero =>
    intro i hi x5 x6 g
    obtain rfl : i = l.length := by omega
    rw [all_end, all_end, Bool.and_true, Bool.and_true] at g
    refine Ev.step (fun k => ?_) g
    simp only [impl_ConvexityOf.l1]; rw [if_neg (by omega), w64 (by omega) (by omega)]; rfl
  | succ d ih =>
    intro i hi x5 x6 g
    have hil : i < l.length := by omega
    have oa := hs.ok (at_mem l j hj)
    have ob := hs.ok (at_mem l i hil)
    unfold okC at oa ob
    rw [← all_drop hil, ← all_drop hil, ← Bool.and_assoc, ← Bool.and_assoc] at g
    have g1 := ih (i + 1) (by omega) _ _ g
    have ei : wrap64 ((i : Int) + 1) = ((i + 1 : Nat) : Int) := by rw [w64 (by omega) (by omega)]; rfl
    refine Ev.step (f := fun k => impl_ConvexityOf.l2 k l x5 x6 ((at_ l j).f0 + 1) l (l.length : Int) (j : Nat) l (l.length : Int) (i : Nat) (at_ l j).f0 (at_ l j).f1 (at_ l i).f0 (at_ l i).f1) (fun k => ?_) ?_
    · simp only [impl_ConvexityOf.l1, rd_at]
      rw [if_pos (by omega), if_pos (by omega), if_pos (by omega), w64 (by omega) (by omega)]
    have g2 : Ev (fun k => impl_ConvexityOf.j3 k l (x5 && tt (rowOk l 1 (at_ l j) (at_ l i))) x6 l (l.length : Int) (j : Nat) l (l.length : Int) (i : Nat) (at_ l j).f0 (at_ l j).f1 (at_ l i).f0 (at_ l i).f1) r := by
      refine Ev.step (f := fun k => impl_ConvexityOf.l3 k l (x5 && tt (rowOk l 1 (at_ l j) (at_ l i))) x6 ((at_ l j).f1 + 1) l (l.length : Int) (j : Nat) l (l.length : Int) (i : Nat) (at_ l j).f0 (at_ l j).f1 (at_ l i).f0 (at_ l i).f1) (fun k => by simp only [impl_ConvexityOf.j3]; rw [w64 (by omega) (by omega)]) ?_
      by_cases c : (at_ l j).f0 = (at_ l i).f0
      · refine iconv_l3 l hl _ _ _ _ _ _ _ _ _ _ _ c (by omega) r 1000 _ _ (by omega) (by omega) ?_
        rw [ei]
        have z : tt (segY l (at_ l j).f0 ((at_ l j).f1 + 1) (at_ l i).f1) = tt (colOk l 1 (at_ l j) (at_ l i)) := tt_congr ⟨fun q _ => q, fun q => q c⟩
        rw [z]; exact g1
      · refine Ev.step (f := fun k => impl_ConvexityOf.l1 k l (x5 && tt (rowOk l 1 (at_ l j) (at_ l i))) x6 l (l.length : Int) (j : Nat) l (l.length : Int) ((i + 1 : Nat) : Int) (at_ l j).f0 (at_ l j).f1) (fun k => by simp only [impl_ConvexityOf.l3]; rw [if_neg c, ei]) ?_
        have z : tt (colOk l 1 (at_ l j) (at_ l i)) = true := tt_true fun q => absurd q c
        rw [z, Bool.and_true] at g1; exact g1
    by_cases c : (at_ l j).f1 = (at_ l i).f1
    · refine iconv_l2 l hl _ _ _ _ _ _ _ _ _ _ _ c (by omega) r 1000 _ _ (by omega) (by omega) ?_
      have z : tt (segX l (at_ l j).f1 ((at_ l j).f0 + 1) (at_ l i).f0) = tt (rowOk l 1 (at_ l j) (at_ l i)) := tt_congr ⟨fun q _ => q, fun q => q c⟩
      rw [z]; exact g2
    · refine Ev.step (fun k => by simp only [impl_ConvexityOf.l2]; rw [if_neg c]) ?_
      have z : tt (rowOk l 1 (at_ l j) (at_ l i)) = true := tt_true fun q => absurd q c
      rw [z, Bool.and_true] at g2; exact g2
theorem iconv_l0 (l : List C) (hl : l.length ≤ 1048576) (hs : Sh l) : ∀ d j : Nat, j + d = l.length → ∀ (x5 x6 : Bool),
    Ev (fun k => impl_ConvexityOf.l0 k l x5 x6 l (l.length : Int) (j : Nat)) (x5 && tt (∀ a ∈ l.drop j, ∀ b ∈ l.drop 0, rowOk l 1 a b), x6 && tt (∀ a ∈ l.drop j, ∀ b ∈ l.drop 0, colOk l 1 a b), 0) := by
  intro d
  induction d with
  | zero =>
    intro j hj x5 x6
    obtain rfl : j = l.length := by omega
    rw [all_end, all_end, Bool.and_true, Bool.and_true]
    refine Ev.step (fun k => ?_) (Ev.now _)
    simp only [impl_ConvexityOf.l0]; rw [if_neg (by omega)]
  | succ d ih =>
    intro j hj x5 x6
    have hjl : j < l.length := by omega
    rw [← all_drop hjl (fun a => ∀ b ∈ l.drop 0, rowOk l 1 a b), ← all_drop hjl (fun a => ∀ b ∈ l.drop 0, colOk l 1 a b), ← Bool.and_assoc, ← Bool.and_assoc]
    refine Ev.step (f := fun k => impl_ConvexityOf.l1 k l x5 x6 l (l.length : Int) (j : Nat) l (l.length : Int) ((0 : Nat) : Int) (at_ l j).f0 (at_ l j).f1) (fun k => by simp only [impl_ConvexityOf.l0, rd_at]; rw [if_pos (by omega), if_pos (by omega), if_pos (by omega)]; rfl) ?_
    exact iconv_l1 l hl hs j hjl _ l.length 0 (by omega) x5 x6 (ih (j + 1) (by omega) _ _)
end
theorem rowOk_both (l : List C) (a b : C) (h : a ∈ l) : rowOk l 1 a b ↔ rowOk l 0 a b := by
  constructor
  · intro g e z h1 h2
    by_cases q : z = a.f0
    · rw [q]; exact h
    · exact g e z (by omega) h2
  · intro g e z h1 h2
    exact g e z (by omega) h2
theorem colOk_both (l : List C) (a b : C) (h : a ∈ l) : colOk l 1 a b ↔ colOk l 0 a b := by
  constructor
  · intro g e z h1 h2
    by_cases q : z = a.f1
    · rw [q]; exact h
    · exact g e z (by omega) h2
  · intro g e z h1 h2
    exact g e z (by omega) h2
theorem conv_both (l : List C) (hl : l.length ≤ 1048576) : ∃ x y c, Ev (fun k => spec_ConvexityOf.f k l) (x, y, c) ∧ Ev (fun k => impl_ConvexityOf.f k l) (x, y, c) := by
  rcases sh_cases l with ⟨hs, hb⟩ | ⟨hs, hb⟩
  · refine ⟨true && tt (∀ a ∈ l.drop 0, ∀ b ∈ l.drop 0, rowOk l 1 a b), true && tt (∀ a ∈ l.drop 0, ∀ b ∈ l.drop 0, colOk l 1 a b), 0, ?_, ?_⟩
    rotate_left
    · refine Ev.bind (f := fun k t => if t = true then impl_ConvexityOf.l0 k l true true l (l.length : Int) 0 else some (false, false, 1)) (implShape_ev l hl) ?_
      simp only [hb, if_true]; exact iconv_l0 l hl hs l.length 0 (by omega) true true
    · refine Ev.bind (f := fun k t => if t = true then spec_ConvexityOf.l0 k l true true 0 else some (false, false, 1)) (specShape_ev l hl) ?_
      simp only [hb, if_true]
      have g := sconv_l0 l hl hs l.length 0 (by omega) true true
      have e1 : tt (∀ a ∈ l.drop 0, ∀ b ∈ l.drop 0, rowOk l 1 a b) = tt (∀ a ∈ l.drop 0, ∀ b ∈ l.drop 0, rowOk l 0 a b) := tt_congr ⟨fun q a ha b hb => (rowOk_both l a b ha).1 (q a ha b hb), fun q a ha b hb => (rowOk_both l a b ha).2 (q a ha b hb)⟩
      have e2 : tt (∀ a ∈ l.drop 0, ∀ b ∈ l.drop 0, colOk l 1 a b) = tt (∀ a ∈ l.drop 0, ∀ b ∈ l.drop 0, colOk l 0 a b) := tt_congr ⟨fun q a ha b hb => (colOk_both l a b ha).1 (q a ha b hb), fun q a ha b hb => (colOk_both l a b ha).2 (q a ha b hb)⟩
      rw [e1, e2]; exact g
  · refine ⟨false, false, 1, ?_, ?_⟩
    · refine Ev.bind (f := fun k t => if t = true then spec_ConvexityOf.l0 k l true true 0 else some (false, false, 1)) (specShape_ev l hl) ?_
      simp only [hb, Bool.false_eq_true, if_false]; exact Ev.now _
    · refine Ev.bind (f := fun k t => if t = true then impl_ConvexityOf.l0 k l true true l (l.length : Int) 0 else some (false, false, 1)) (implShape_ev l hl) ?_
      simp only [hb, Bool.false_eq_true, if_false]; exact Ev.now _
end Go.Proofs.Ytlhlilgienicfaa.M
namespace Go.Proofs.Ytlhlilgienicfaa.Pure
set_option linter.unusedVariables false
set_option linter.unusedSimpArgs false
open Go.RowKit Go.Proofs.Ytlhlilgienicfaa.X Go.Proofs.YtlhlilgienicfaaW.PrintWords Go.Proofs.YtlhlilgienicfaaW.PrintLast Go.Proofs.YtlhlilgienicfaaW.PrintMore Go.Proofs.Ytlhlilgienicfaa.M
theorem FnExactConvexityOf : laws_FnExactConvexityOf.Pure := by
  intro l hl hw
  rcases sz_cases l hl 1048576 (by omega) (by omega) with ⟨h, e⟩ | ⟨h, e⟩
  · exact ⟨0, by simp only [laws_FnExactConvexityOf.f, e, Option.bind_some]; rfl⟩
  · have h0 : ¬ (1048576 - (l.length : Int) < 0) := by omega
    have hc := cs_length l
    obtain ⟨x, y, c, a, b⟩ := conv_both (cs l) (by omega)
    obtain ⟨K, e1, e2, e3, e4⟩ := ev4 (toCell_ev l (by omega)) (eqCell_ev (cs l) (by omega)) a b
    refine ⟨K + 3, ?_⟩
    simp only [laws_FnExactConvexityOf.f, e, Option.bind_some, if_neg h0, e1, e2, e3, e4, bne_self_eq_false, Bool.false_eq_true, if_false, if_true, laws_FnExactConvexityOf.j0]
end Go.Proofs.Ytlhlilgienicfaa.Pure
