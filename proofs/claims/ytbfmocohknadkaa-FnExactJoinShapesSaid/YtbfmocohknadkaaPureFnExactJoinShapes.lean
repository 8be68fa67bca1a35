/- The program's JoinShapes returns what the reference's returns, for all arguments, without any condition. -/
import Derived.Test.YtbfmocohknadkaaXx0
import Derived.Test.YtbfmocohknadkaaXx10
import Derived.Test.YtbfmocohknadkaaXx11
import Derived.Test.YtbfmocohknadkaaXx12
import Derived.Test.YtbfmocohknadkaaXx13
import Derived.Test.YtbfmocohknadkaaXx18
import Derived.Test.YtbfmocohknadkaaXx2
import Derived.Test.YtbfmocohknadkaaXx26
import Derived.Test.YtbfmocohknadkaaXx3
import Derived.Test.YtbfmocohknadkaaXx36
import Derived.Test.YtbfmocohknadkaaXx4
import Derived.Test.YtbfmocohknadkaaXx5
import Derived.Test.YtbfmocohknadkaaXx6
import Derived.Test.YtbfmocohknadkaaXx7
import Derived.Test.YtbfmocohknadkaaXx9
namespace Go.Proofs.Ytbfmocohknadkaa.X
set_option linter.unusedVariables false
set_option linter.unusedSimpArgs false
open Go.RowKit Go.Proofs.Ytbfmocohknadkaa.X Go.Proofs.YtbfmocohknadkaaW.PrintWords Go.Proofs.YtbfmocohknadkaaW.PrintLast Go.Proofs.YtbfmocohknadkaaW.PrintMore
def laws_FnExactJoinShapes.Pure : Prop := ∀ (l0 : List S69) (l1 : List S69), l0.length ≤ 9223372036854775807 → (∀ x ∈ l0, (Lit.int .i64 x.f0).wf = true ∧ (Lit.int .i64 x.f1).wf = true) → l1.length ≤ 9223372036854775807 → (∀ x ∈ l1, (Lit.int .i64 x.f0).wf = true ∧ (Lit.int .i64 x.f1).wf = true) → ∃ k, laws_FnExactJoinShapes.f k l0 l1 = some true
end Go.Proofs.Ytbfmocohknadkaa.X
namespace Go.Proofs.Ytbfmocohknadkaa.M
set_option linter.unusedVariables false
set_option linter.unusedSimpArgs false
open Go.RowKit Go.Proofs.Ytbfmocohknadkaa.X Go.Proofs.YtbfmocohknadkaaW.PrintWords Go.Proofs.YtbfmocohknadkaaW.PrintLast Go.Proofs.YtbfmocohknadkaaW.PrintMore
/-! ### Base -/
theorem w64 {x : Int} (h1 : -9223372036854775808 ≤ x) (h2 : x ≤ 9223372036854775807) : wrap64 x = x := by unfold wrap64; omega
theorem w64_lo (x : Int) : -9223372036854775808 ≤ wrap64 x := by unfold wrap64; omega
theorem w64_hi (x : Int) : wrap64 x ≤ 9223372036854775807 := by unfold wrap64; omega
theorem rd_byte {c : List Int} (h : ∀ x ∈ c, 0 ≤ x ∧ x ≤ 255) (i : Int) : 0 ≤ rd c i ∧ rd c i ≤ 255 := by
  unfold rd
  rw [List.getD_eq_getElem?_getD]
  by_cases hi : i.toNat < c.length
  · rw [List.getElem?_eq_getElem hi]; exact h _ (List.getElem_mem hi)
  · rw [List.getElem?_eq_none (by omega)]; decide
theorem tmod_pos {a n : Int} (h : 0 ≤ a) (hn : 0 < n) : 0 ≤ Int.tmod a n ∧ Int.tmod a n < n := by
  rw [Int.tmod_eq_emod_of_nonneg h]; exact ⟨Int.emod_nonneg _ (by omega), Int.emod_lt_of_pos _ hn⟩
theorem tmod_cast (a b : Nat) : Int.tmod (a : Int) b = ((a % b : Nat) : Int) := by
  rw [Int.tmod_eq_emod_of_nonneg (by omega)]; rfl
theorem bytes_of {l : List Int} (h : ∀ x ∈ l, (Lit.int .u8 x).wf = true) : ∀ x ∈ l, 0 ≤ x ∧ x ≤ 255 := by
  intro x hx
  have := h x hx
  simp only [Lit.wf, Bool.and_eq_true, decide_eq_true_eq] at this
  exact this
/-! ### Cell -/
abbrev C := S57
/-- the cell at a place, the zero cell behind the end -/
def at_ (l : List C) (j : Nat) : C := l.getD j ⟨0, 0⟩
theorem rd_at (l : List C) (j : Nat) : rd_T57 l (j : Int) = at_ l j := by unfold rd_T57 at_; rw [Int.toNat_natCast]; rfl
theorem at_get (l : List C) (j : Nat) (h : j < l.length) : at_ l j = l[j] := by unfold at_; rw [List.getD_eq_getElem?_getD, List.getElem?_eq_getElem h]; rfl
theorem at_mem (l : List C) (j : Nat) (h : j < l.length) : at_ l j ∈ l := by rw [at_get l j h]; exact List.getElem_mem h
theorem drop_at (l : List C) (j : Nat) (h : j < l.length) : l.drop j = at_ l j :: l.drop (j + 1) := by rw [at_get l j h, List.drop_eq_getElem_cons h]
/-- from some number of rounds on -/
def AE (P : Nat → Prop) : Prop := ∃ K, ∀ k, K ≤ k → P k
theorem AE.and {P Q : Nat → Prop} (h : AE P) (g : AE Q) : AE (fun k => P k ∧ Q k) := by
  obtain ⟨K, h⟩ := h; obtain ⟨L, g⟩ := g
  exact ⟨K + L, fun k hk => ⟨h k (by omega), g k (by omega)⟩⟩
theorem AE.up {P : Nat → Prop} (h : AE P) : ∃ K, ∀ n, P (K + n) := by
  obtain ⟨K, h⟩ := h; exact ⟨K, fun n => h _ (by omega)⟩
theorem evae {α : Type} {g : Nat → Option α} {a : α} (h : Ev g a) : AE (fun k => g k = some a) := h
theorem evup {α : Type} {g : Nat → Option α} {a : α} (h : Ev g a) : ∃ K, ∀ n, g (K + n) = some a := AE.up h
theorem ev2 {α0 α1 : Type} {g0 : Nat → Option α0} {g1 : Nat → Option α1} {a0 : α0} {a1 : α1} (h0 : Ev g0 a0) (h1 : Ev g1 a1) : ∃ K, (∀ n, g0 (K + n) = some a0) ∧ (∀ n, g1 (K + n) = some a1) := by
  obtain ⟨K, h⟩ := AE.up (AE.and (evae h0) (evae h1)); exact ⟨K, fun n => (h n).1, fun n => (h n).2⟩
theorem ev3 {α0 α1 α2 : Type} {g0 : Nat → Option α0} {g1 : Nat → Option α1} {g2 : Nat → Option α2} {a0 : α0} {a1 : α1} {a2 : α2} (h0 : Ev g0 a0) (h1 : Ev g1 a1) (h2 : Ev g2 a2) : ∃ K, (∀ n, g0 (K + n) = some a0) ∧ (∀ n, g1 (K + n) = some a1) ∧ (∀ n, g2 (K + n) = some a2) := by
  obtain ⟨K, h⟩ := AE.up (AE.and (evae h0) (AE.and (evae h1) (evae h2))); exact ⟨K, fun n => (h n).1, fun n => (h n).2.1, fun n => (h n).2.2⟩
theorem ev4 {α0 α1 α2 α3 : Type} {g0 : Nat → Option α0} {g1 : Nat → Option α1} {g2 : Nat → Option α2} {g3 : Nat → Option α3} {a0 : α0} {a1 : α1} {a2 : α2} {a3 : α3} (h0 : Ev g0 a0) (h1 : Ev g1 a1) (h2 : Ev g2 a2) (h3 : Ev g3 a3) : ∃ K, (∀ n, g0 (K + n) = some a0) ∧ (∀ n, g1 (K + n) = some a1) ∧ (∀ n, g2 (K + n) = some a2) ∧ (∀ n, g3 (K + n) = some a3) := by
  obtain ⟨K, h⟩ := AE.up (AE.and (evae h0) (AE.and (evae h1) (AE.and (evae h2) (evae h3)))); exact ⟨K, fun n => (h n).1, fun n => (h n).2.1, fun n => (h n).2.2.1, fun n => (h n).2.2.2⟩
theorem ev5 {α0 α1 α2 α3 α4 : Type} {g0 : Nat → Option α0} {g1 : Nat → Option α1} {g2 : Nat → Option α2} {g3 : Nat → Option α3} {g4 : Nat → Option α4} {a0 : α0} {a1 : α1} {a2 : α2} {a3 : α3} {a4 : α4} (h0 : Ev g0 a0) (h1 : Ev g1 a1) (h2 : Ev g2 a2) (h3 : Ev g3 a3) (h4 : Ev g4 a4) : ∃ K, (∀ n, g0 (K + n) = some a0) ∧ (∀ n, g1 (K + n) = some a1) ∧ (∀ n, g2 (K + n) = some a2) ∧ (∀ n, g3 (K + n) = some a3) ∧ (∀ n, g4 (K + n) = some a4) := by
  obtain ⟨K, h⟩ := AE.up (AE.and (evae h0) (AE.and (evae h1) (AE.and (evae h2) (AE.and (evae h3) (evae h4))))); exact ⟨K, fun n => (h n).1, fun n => (h n).2.1, fun n => (h n).2.2.1, fun n => (h n).2.2.2.1, fun n => (h n).2.2.2.2⟩
theorem ev6 {α0 α1 α2 α3 α4 α5 : Type} {g0 : Nat → Option α0} {g1 : Nat → Option α1} {g2 : Nat → Option α2} {g3 : Nat → Option α3} {g4 : Nat → Option α4} {g5 : Nat → Option α5} {a0 : α0} {a1 : α1} {a2 : α2} {a3 : α3} {a4 : α4} {a5 : α5} (h0 : Ev g0 a0) (h1 : Ev g1 a1) (h2 : Ev g2 a2) (h3 : Ev g3 a3) (h4 : Ev g4 a4) (h5 : Ev g5 a5) : ∃ K, (∀ n, g0 (K + n) = some a0) ∧ (∀ n, g1 (K + n) = some a1) ∧ (∀ n, g2 (K + n) = some a2) ∧ (∀ n, g3 (K + n) = some a3) ∧ (∀ n, g4 (K + n) = some a4) ∧ (∀ n, g5 (K + n) = some a5) := by
  obtain ⟨K, h⟩ := AE.up (AE.and (evae h0) (AE.and (evae h1) (AE.and (evae h2) (AE.and (evae h3) (AE.and (evae h4) (evae h5)))))); exact ⟨K, fun n => (h n).1, fun n => (h n).2.1, fun n => (h n).2.2.1, fun n => (h n).2.2.2.1, fun n => (h n).2.2.2.2.1, fun n => (h n).2.2.2.2.2⟩
theorem ev7 {α0 α1 α2 α3 α4 α5 α6 : Type} {g0 : Nat → Option α0} {g1 : Nat → Option α1} {g2 : Nat → Option α2} {g3 : Nat → Option α3} {g4 : Nat → Option α4} {g5 : Nat → Option α5} {g6 : Nat → Option α6} {a0 : α0} {a1 : α1} {a2 : α2} {a3 : α3} {a4 : α4} {a5 : α5} {a6 : α6} (h0 : Ev g0 a0) (h1 : Ev g1 a1) (h2 : Ev g2 a2) (h3 : Ev g3 a3) (h4 : Ev g4 a4) (h5 : Ev g5 a5) (h6 : Ev g6 a6) : ∃ K, (∀ n, g0 (K + n) = some a0) ∧ (∀ n, g1 (K + n) = some a1) ∧ (∀ n, g2 (K + n) = some a2) ∧ (∀ n, g3 (K + n) = some a3) ∧ (∀ n, g4 (K + n) = some a4) ∧ (∀ n, g5 (K + n) = some a5) ∧ (∀ n, g6 (K + n) = some a6) := by
  obtain ⟨K, h⟩ := AE.up (AE.and (evae h0) (AE.and (evae h1) (AE.and (evae h2) (AE.and (evae h3) (AE.and (evae h4) (AE.and (evae h5) (evae h6))))))); exact ⟨K, fun n => (h n).1, fun n => (h n).2.1, fun n => (h n).2.2.1, fun n => (h n).2.2.2.1, fun n => (h n).2.2.2.2.1, fun n => (h n).2.2.2.2.2.1, fun n => (h n).2.2.2.2.2.2⟩
theorem ev8 {α0 α1 α2 α3 α4 α5 α6 α7 : Type} {g0 : Nat → Option α0} {g1 : Nat → Option α1} {g2 : Nat → Option α2} {g3 : Nat → Option α3} {g4 : Nat → Option α4} {g5 : Nat → Option α5} {g6 : Nat → Option α6} {g7 : Nat → Option α7} {a0 : α0} {a1 : α1} {a2 : α2} {a3 : α3} {a4 : α4} {a5 : α5} {a6 : α6} {a7 : α7} (h0 : Ev g0 a0) (h1 : Ev g1 a1) (h2 : Ev g2 a2) (h3 : Ev g3 a3) (h4 : Ev g4 a4) (h5 : Ev g5 a5) (h6 : Ev g6 a6) (h7 : Ev g7 a7) : ∃ K, (∀ n, g0 (K + n) = some a0) ∧ (∀ n, g1 (K + n) = some a1) ∧ (∀ n, g2 (K + n) = some a2) ∧ (∀ n, g3 (K + n) = some a3) ∧ (∀ n, g4 (K + n) = some a4) ∧ (∀ n, g5 (K + n) = some a5) ∧ (∀ n, g6 (K + n) = some a6) ∧ (∀ n, g7 (K + n) = some a7) := by
  obtain ⟨K, h⟩ := AE.up (AE.and (evae h0) (AE.and (evae h1) (AE.and (evae h2) (AE.and (evae h3) (AE.and (evae h4) (AE.and (evae h5) (AE.and (evae h6) (evae h7)))))))); exact ⟨K, fun n => (h n).1, fun n => (h n).2.1, fun n => (h n).2.2.1, fun n => (h n).2.2.2.1, fun n => (h n).2.2.2.2.1, fun n => (h n).2.2.2.2.2.1, fun n => (h n).2.2.2.2.2.2.1, fun n => (h n).2.2.2.2.2.2.2⟩
theorem ev9 {α0 α1 α2 α3 α4 α5 α6 α7 α8 : Type} {g0 : Nat → Option α0} {g1 : Nat → Option α1} {g2 : Nat → Option α2} {g3 : Nat → Option α3} {g4 : Nat → Option α4} {g5 : Nat → Option α5} {g6 : Nat → Option α6} {g7 : Nat → Option α7} {g8 : Nat → Option α8} {a0 : α0} {a1 : α1} {a2 : α2} {a3 : α3} {a4 : α4} {a5 : α5} {a6 : α6} {a7 : α7} {a8 : α8} (h0 : Ev g0 a0) (h1 : Ev g1 a1) (h2 : Ev g2 a2) (h3 : Ev g3 a3) (h4 : Ev g4 a4) (h5 : Ev g5 a5) (h6 : Ev g6 a6) (h7 : Ev g7 a7) (h8 : Ev g8 a8) : ∃ K, (∀ n, g0 (K + n) = some a0) ∧ (∀ n, g1 (K + n) = some a1) ∧ (∀ n, g2 (K + n) = some a2) ∧ (∀ n, g3 (K + n) = some a3) ∧ (∀ n, g4 (K + n) = some a4) ∧ (∀ n, g5 (K + n) = some a5) ∧ (∀ n, g6 (K + n) = some a6) ∧ (∀ n, g7 (K + n) = some a7) ∧ (∀ n, g8 (K + n) = some a8) := by
  obtain ⟨K, h⟩ := AE.up (AE.and (evae h0) (AE.and (evae h1) (AE.and (evae h2) (AE.and (evae h3) (AE.and (evae h4) (AE.and (evae h5) (AE.and (evae h6) (AE.and (evae h7) (evae h8))))))))); exact ⟨K, fun n => (h n).1, fun n => (h n).2.1, fun n => (h n).2.2.1, fun n => (h n).2.2.2.1, fun n => (h n).2.2.2.2.1, fun n => (h n).2.2.2.2.2.1, fun n => (h n).2.2.2.2.2.2.1, fun n => (h n).2.2.2.2.2.2.2.1, fun n => (h n).2.2.2.2.2.2.2.2⟩
/-- a loop over a row of cells without a way out: the state is carried by g -/
theorem ev_fold {σ β : Type} (F : Nat → σ → Int → Option β) (l : List C) (g : σ → C → σ) (fin : σ → Option β) (r : β) (inv : Nat → σ → Prop)
    (step : ∀ k s (j : Nat), j < l.length → at_ l j ∈ l → inv j s → F (k + 1) s (j : Nat) = F k (g s (at_ l j)) ((j + 1 : Nat) : Int) ∧ inv (j + 1) (g s (at_ l j)))
    (done : ∀ k s, inv l.length s → F (k + 1) s (l.length : Nat) = fin s) (j0 : Nat) (hj0 : j0 ≤ l.length) (s0 : σ) (h0 : inv j0 s0) (hr : fin ((l.drop j0).foldl g s0) = some r) : Ev (fun k => F k s0 (j0 : Nat)) r := by
  have key : ∀ d j : Nat, j + d = l.length → ∀ s, inv j s → fin ((l.drop j).foldl g s) = some r → Ev (fun k => F k s (j : Nat)) r := by
    intro d
    induction d with
    | zero =>
      intro j hj s hs hr
      obtain rfl : j = l.length := by omega
      refine Ev.step (fun k => done k s hs) ?_
      rw [List.drop_length] at hr
      have hr' : fin s = some r := hr
      rw [hr']; exact Ev.now r
    | succ d ih =>
      intro j hj s hs hr
      have h : j < l.length := by omega
      refine Ev.step (fun k => (step k s j h (at_mem l j h) hs).1) (ih (j + 1) (by omega) _ ((step 0 s j h (at_mem l j h) hs).2) ?_)
      rw [drop_at l j h] at hr; exact hr
  exact key (l.length - j0) j0 (by omega) s0 h0 hr
/-! ### CellS -/
/-- the cells that a law's parameter stands for -/
def cs (l : List S69) : List C := l.map fun c => ⟨c.f0, c.f1⟩
theorem cs_length (l : List S69) : (cs l).length = l.length := by simp [cs]
theorem sz_cases (l : List S69) (hl : l.length ≤ 9223372036854775807) (b : Int) (hb : 0 ≤ b) (hb2 : b ≤ 1048576) :
    (b < (l.length : Int) ∧ laws_szCellS.f l b = some (-1)) ∨ ((l.length : Int) ≤ b ∧ laws_szCellS.f l b = some (b - (l.length : Int))) := by
  unfold laws_szCellS.f
  rw [w64 (by omega) (by omega)]
  by_cases h : b - (l.length : Int) < 0
  · exact Or.inl ⟨by omega, by rw [if_pos h]⟩
  · exact Or.inr ⟨by omega, by rw [if_neg h]⟩
theorem toCell_loop (l : List S69) (hl : l.length ≤ 1048576) : ∀ d j : Nat, j + d = l.length → ∀ x : List C, x.length = l.length → (∀ i, i < j → x[i]? = (cs l)[i]?) → Ev (fun k => laws_toCellS.l0 k l x (j : Nat)) (cs l) := by
  intro d
  induction d with
  | zero =>
    intro j hj x hx hi
    obtain rfl : x = cs l := by
      apply List.ext_getElem?
      intro i
      by_cases h : i < j
      · exact hi i h
      · rw [List.getElem?_eq_none (by omega), List.getElem?_eq_none (by rw [cs_length]; omega)]
    refine Ev.step (fun k => ?_) (Ev.now _)
    simp only [laws_toCellS.l0]; rw [if_neg (by omega)]
  | succ d ih =>
    intro j hj x hx hi
    have hc : (cs l)[j]? = some ⟨(rd_T69 l (j : Nat)).f0, (rd_T69 l (j : Nat)).f1⟩ := by
      unfold cs rd_T69; rw [List.getElem?_map, List.getD_eq_getElem?_getD, Int.toNat_natCast, List.getElem?_eq_getElem (by omega)]; rfl
    refine Ev.step (fun k => ?_) (ih (j + 1) (by omega) (x.set j ⟨(rd_T69 l (j : Nat)).f0, (rd_T69 l (j : Nat)).f1⟩) (by rw [List.length_set]; exact hx) ?_)
    · simp only [laws_toCellS.l0, laws_toCell.f, Option.bind_some]; rw [if_pos (by omega), if_pos (by omega), if_pos (by omega), w64 (by omega) (by omega)]; rfl
    · intro i h
      rw [List.getElem?_set]
      by_cases e : j = i
      · subst e; rw [if_pos rfl, if_pos (by omega), hc]
      · rw [if_neg e]; exact hi i (by omega)
theorem toCell_ev (l : List S69) (hl : l.length ≤ 1048576) : Ev (fun k => laws_toCellS.f k l) (cs l) := by
  unfold laws_toCellS.f
  simp only [if_pos (show 0 ≤ (l.length : Int) by omega), if_pos (show ((l.length : Int)).toNat ≤ 17592186044416 by omega)]
  exact toCell_loop l hl l.length 0 (by omega) _ (by simp) (by intro i h; omega)
theorem eqCell_loop (l : List C) (hl : l.length ≤ 140737488355328) : ∀ d j : Nat, j + d = l.length → Ev (fun k => laws_eqCellS.l0 k l l (j : Nat)) true := by
  intro d
  induction d with
  | zero =>
    intro j hj
    refine Ev.step (fun k => ?_) (Ev.now _)
    simp only [laws_eqCellS.l0]; rw [if_neg (by omega)]
  | succ d ih =>
    intro j hj
    refine Ev.step (fun k => ?_) (ih (j + 1) (by omega))
    simp only [laws_eqCellS.l0, laws_eqCell.f, if_true, Option.bind_some]; rw [if_pos (by omega), if_pos (by omega), if_pos (by omega), w64 (by omega) (by omega)]; rfl
theorem eqCell_ev (l : List C) (hl : l.length ≤ 140737488355328) : Ev (fun k => laws_eqCellS.f k l l) true := by
  unfold laws_eqCellS.f
  simp only [if_true]
  exact eqCell_loop l hl l.length 0 (by omega)
/-! ### In -/
theorem l01In_eq (a b c : Int) : spec_l01In.f a b c = some (decide (b ≤ a ∧ a ≤ c)) := by
  unfold spec_l01In.f; by_cases h : a ≥ b
  · rw [if_pos h]; simp [h]
  · rw [if_neg h]; simp; omega
theorem within_eq (a b c : Int) : impl_within.f a b c = some (decide (b ≤ a ∧ a ≤ c)) := l01In_eq a b c
/-! ### Shape -/
/-- the order of the cells: row by row -/
def ltC (a b : C) : Prop := a.f1 < b.f1 ∨ (a.f1 = b.f1 ∧ a.f0 < b.f0)
instance (a b : C) : Decidable (ltC a b) := by unfold ltC; exact inferInstance
def okC (a : C) : Prop := -100 ≤ a.f0 ∧ a.f0 ≤ 100 ∧ -100 ≤ a.f1 ∧ a.f1 ≤ 100
instance (a : C) : Decidable (okC a) := by unfold okC; exact inferInstance
/-- a shape: 1 to 40 cells within bounds, in the order of the cells -/
def Sh (l : List C) : Prop := 1 ≤ l.length ∧ l.length ≤ 40 ∧ (∀ i, i < l.length → okC (at_ l i)) ∧ (∀ i, i + 1 < l.length → ltC (at_ l i) (at_ l (i + 1)))
noncomputable def shB (l : List C) : Bool := @decide (Sh l) (Classical.propDecidable _)
theorem shB_true {l : List C} (h : Sh l) : shB l = true := @decide_eq_true _ (Classical.propDecidable _) h
theorem shB_false {l : List C} (h : ¬ Sh l) : shB l = false := @decide_eq_false _ (Classical.propDecidable _) h
theorem less_eq (a b c d : Int) : spec_l02Less.f a b c d = some (decide (ltC ⟨a, b⟩ ⟨c, d⟩)) := by
  unfold spec_l02Less.f ltC
  by_cases h : b < d
  · rw [if_pos h]; simp [h]
  · rw [if_neg h]
    by_cases e : b = d
    · rw [if_pos e]; simp [e]
    · rw [if_neg e]; simp [h, e]
theorem cellOk_eq (a b : Int) : spec_l02Cell.f a b = some (decide (okC ⟨a, b⟩)) := by
  unfold spec_l02Cell.f okC
  simp only [l01In_eq, Option.bind_some]
  by_cases h : -100 ≤ a ∧ a ≤ 100
  · simp [h]
  · simp only [decide_eq_false h, Bool.false_eq_true, if_false]; congr 1; exact (decide_eq_false (fun g => h ⟨g.1, g.2.1⟩)).symm
theorem isCo_eq (a : Int) : impl_isCoordinate.f a = some (decide (-100 ≤ a ∧ a ≤ 100)) := by
  unfold impl_isCoordinate.f; simp only [within_eq, Option.bind_some]
theorem cmp_eq (a b : Int) : cmp_Compare_int64.f a b = some (if a < b then -1 else if b < a then 1 else 0) := by
  unfold cmp_Compare_int64.f cmp_isNaN_int64.f
  simp only [bne_self_eq_false, Option.bind_some, Bool.false_eq_true, if_false]
  by_cases h : a < b
  · simp [h]
  · by_cases g : b < a <;> simp [h, g]
/-- -1, 0, 1: below, the same, above -/
def cmpC (a b : C) : Int := if ltC a b then -1 else if ltC b a then 1 else 0
theorem cmpCells_eq (a b c d : Int) : impl_compareCells.f a b c d = some (cmpC ⟨a, b⟩ ⟨c, d⟩) := by
  unfold impl_compareCells.f cmpC ltC
  simp only [cmp_eq, Option.bind_some]
  by_cases h : b < d
  · simp [h]
  · by_cases g : d < b
    · have : ¬ b = d := by omega
      have : ¬ d = b := by omega
      simp [*]
    · obtain rfl : b = d := by omega
      simp [h]
theorem cmpC_neg (a b : C) : (0 ≤ cmpC a b) ↔ ¬ ltC a b := by
  unfold cmpC; by_cases h : ltC a b
  · simp [h]
  · simp only [h, if_false, not_false_eq_true, iff_true]; split <;> omega
theorem specShape_loop (l : List C) (hl : l.length ≤ 1048576) : ∀ d j : Nat, j + d = l.length → (∀ i, i < j → okC (at_ l i)) → (∀ i, i + 1 < j → ltC (at_ l i) (at_ l (i + 1))) → Ev (fun k => spec_IsShape.l0 k l (j : Nat)) (shB l) := by
  intro d
  induction d with
  | zero =>
    intro j hj h1 h2
    obtain rfl : j = l.length := by omega
    refine Ev.step (fun k => ?_) (Ev.now _)
    simp only [spec_IsShape.l0, l01In_eq, Option.bind_some]; rw [if_neg (by omega)]
    congr 1
    by_cases h : 1 ≤ l.length ∧ l.length ≤ 40
    · rw [shB_true ⟨h.1, h.2, h1, h2⟩]; exact decide_eq_true (by omega)
    · rw [shB_false (fun g => h ⟨g.1, g.2.1⟩)]; exact decide_eq_false (by omega)
  | succ d ih =>
    intro j hj h1 h2
    by_cases c1 : okC (at_ l j)
    · have c1' : okC ⟨(at_ l j).f0, (at_ l j).f1⟩ := c1
      by_cases c2 : j = 0
      · subst c2
        refine Ev.step (fun k => ?_) (ih 1 (by omega) (fun i hi => by obtain rfl : i = 0 := (by omega); exact c1) (fun i hi => by omega))
        simp only [spec_IsShape.l0, rd_at, cellOk_eq, decide_eq_true c1', Option.bind_some, if_true]
        rw [if_pos (by omega), if_pos (by omega), if_neg (by omega), w64 (by omega) (by omega)]; rfl
      · obtain ⟨i, rfl⟩ : ∃ i, j = i + 1 := ⟨j - 1, by omega⟩
        have e : wrap64 (((i + 1 : Nat) : Int) - 1) = (i : Nat) := by rw [w64 (by omega) (by omega)]; omega
        by_cases c3 : ltC (at_ l i) (at_ l (i + 1))
        · have c3' : ltC ⟨(at_ l i).f0, (at_ l i).f1⟩ ⟨(at_ l (i + 1)).f0, (at_ l (i + 1)).f1⟩ := c3
          refine Ev.step (fun k => ?_) (ih (i + 1 + 1) (by omega) (fun x hx => if g : x = i + 1 then by rw [g]; exact c1 else h1 x (by omega)) (fun x hx => if g : x = i then by rw [g]; exact c3 else h2 x (by omega)))
          simp only [spec_IsShape.l0, rd_at, cellOk_eq, decide_eq_true c1', Option.bind_some, if_true, e, less_eq, decide_eq_true c3']
          rw [if_pos (by omega), if_pos (by omega), if_pos (by omega), if_pos (by omega), if_pos (by omega), w64 (by omega) (by omega)]; rfl
        · have c3' : ¬ ltC ⟨(at_ l i).f0, (at_ l i).f1⟩ ⟨(at_ l (i + 1)).f0, (at_ l (i + 1)).f1⟩ := c3
          rw [shB_false (fun g => c3 (g.2.2.2 i (by omega)))]
          refine Ev.step (fun k => ?_) (Ev.now _)
          simp only [spec_IsShape.l0, rd_at, cellOk_eq, decide_eq_true c1', Option.bind_some, if_true, e, less_eq, decide_eq_false c3', Bool.false_eq_true, if_false]
          rw [if_pos (by omega), if_pos (by omega), if_pos (by omega), if_pos (by omega), if_pos (by omega)]
    · have c1' : ¬ okC ⟨(at_ l j).f0, (at_ l j).f1⟩ := c1
      rw [shB_false (fun g => c1 (g.2.2.1 j (by omega)))]
      refine Ev.step (fun k => ?_) (Ev.now _)
      simp only [spec_IsShape.l0, rd_at, cellOk_eq, decide_eq_false c1', Option.bind_some, Bool.false_eq_true, if_false]
      rw [if_pos (by omega), if_pos (by omega)]
theorem specShape_ev (l : List C) (hl : l.length ≤ 1048576) : Ev (fun k => spec_IsShape.f k l) (shB l) :=
  specShape_loop l hl l.length 0 (by omega) (fun i hi => by omega) (fun i hi => by omega)
theorem implShape_loop (l : List C) (hl : l.length ≤ 1048576) : ∀ d j : Nat, j + d = l.length → (∀ i, i < j → okC (at_ l i)) → (∀ i, i + 1 < j → ltC (at_ l i) (at_ l (i + 1))) → Ev (fun k => impl_IsShape.l0 k l l (l.length : Int) (j : Nat)) (shB l) := by
  intro d
  induction d with
  | zero =>
    intro j hj h1 h2
    obtain rfl : j = l.length := by omega
    refine Ev.step (fun k => ?_) (Ev.now _)
    simp only [impl_IsShape.l0]; rw [if_neg (by omega)]
    by_cases h : 1 ≤ l.length ∧ l.length ≤ 40
    · rw [shB_true ⟨h.1, h.2, h1, h2⟩, if_pos (by omega)]; congr 1; exact decide_eq_true (by omega)
    · rw [shB_false (fun g => h ⟨g.1, g.2.1⟩)]
      by_cases g : (l.length : Int) ≥ 1
      · rw [if_pos g]; congr 1; exact decide_eq_false (by omega)
      · rw [if_neg g]
  | succ d ih =>
    intro j hj h1 h2
    by_cases c1 : okC (at_ l j)
    · have ca : -100 ≤ (at_ l j).f0 ∧ (at_ l j).f0 ≤ 100 := ⟨c1.1, c1.2.1⟩
      have cb : -100 ≤ (at_ l j).f1 ∧ (at_ l j).f1 ≤ 100 := c1.2.2
      by_cases c2 : j = 0
      · subst c2
        refine Ev.step (fun k => ?_) (ih 1 (by omega) (fun i hi => by obtain rfl : i = 0 := (by omega); exact c1) (fun i hi => by omega))
        simp only [impl_IsShape.l0, rd_at, isCo_eq, decide_eq_true ca, decide_eq_true cb, Option.bind_some, if_true]
        rw [if_pos (by omega), if_pos (by omega), if_pos (by omega), if_neg (by omega), w64 (by omega) (by omega)]; rfl
      · obtain ⟨i, rfl⟩ : ∃ i, j = i + 1 := ⟨j - 1, by omega⟩
        have e : wrap64 (((i + 1 : Nat) : Int) - 1) = (i : Nat) := by rw [w64 (by omega) (by omega)]; omega
        by_cases c3 : ltC (at_ l i) (at_ l (i + 1))
        · have c3' : ¬ (cmpC ⟨(at_ l i).f0, (at_ l i).f1⟩ ⟨(at_ l (i + 1)).f0, (at_ l (i + 1)).f1⟩ ≥ 0) := fun g => (cmpC_neg _ _).1 g c3
          refine Ev.step (fun k => ?_) (ih (i + 1 + 1) (by omega) (fun x hx => if g : x = i + 1 then by rw [g]; exact c1 else h1 x (by omega)) (fun x hx => if g : x = i then by rw [g]; exact c3 else h2 x (by omega)))
          simp only [impl_IsShape.l0, rd_at, isCo_eq, decide_eq_true ca, decide_eq_true cb, Option.bind_some, if_true, e, cmpCells_eq, if_neg c3']
          rw [if_pos (by omega), if_pos (by omega), if_pos (by omega), if_pos (by omega), if_pos (by omega), if_pos (by omega), w64 (by omega) (by omega)]; rfl
        · have c3' : cmpC ⟨(at_ l i).f0, (at_ l i).f1⟩ ⟨(at_ l (i + 1)).f0, (at_ l (i + 1)).f1⟩ ≥ 0 := (cmpC_neg _ _).2 c3
          rw [shB_false (fun g => c3 (g.2.2.2 i (by omega)))]
          refine Ev.step (fun k => ?_) (Ev.now _)
          simp only [impl_IsShape.l0, rd_at, isCo_eq, decide_eq_true ca, decide_eq_true cb, Option.bind_some, if_true, e, cmpCells_eq, if_pos c3']
          rw [if_pos (by omega), if_pos (by omega), if_pos (by omega), if_pos (by omega), if_pos (by omega), if_pos (by omega)]
    · rw [shB_false (fun g => c1 (g.2.2.1 j (by omega)))]
      refine Ev.step (fun k => ?_) (Ev.now _)
      simp only [impl_IsShape.l0, rd_at, isCo_eq, Option.bind_some]
      rw [if_pos (by omega), if_pos (by omega), if_pos (by omega)]
      by_cases ca : -100 ≤ (at_ l j).f0 ∧ (at_ l j).f0 ≤ 100
      · have cb : ¬ (-100 ≤ (at_ l j).f1 ∧ (at_ l j).f1 ≤ 100) := fun cb => c1 ⟨ca.1, ca.2, cb.1, cb.2⟩
        simp only [decide_eq_true ca, decide_eq_false cb, if_true, Bool.false_eq_true, if_false]
      · simp only [decide_eq_false ca, Bool.false_eq_true, if_false]
theorem implShape_ev (l : List C) (hl : l.length ≤ 1048576) : Ev (fun k => impl_IsShape.f k l) (shB l) :=
  implShape_loop l hl l.length 0 (by omega) (fun i hi => by omega) (fun i hi => by omega)
/-! ### ShUse -/
theorem mem_at {l : List C} {c : C} (h : c ∈ l) : ∃ i, i < l.length ∧ at_ l i = c := by
  obtain ⟨i, hi, e⟩ := List.mem_iff_getElem.1 h
  exact ⟨i, hi, (at_get l i hi).trans e⟩
theorem Sh.ok {l : List C} (h : Sh l) {c : C} (hc : c ∈ l) : okC c := by
  obtain ⟨i, hi, rfl⟩ := mem_at hc
  exact h.2.2.1 i hi
theorem ltC_trans {a b c : C} (h : ltC a b) (g : ltC b c) : ltC a c := by unfold ltC at *; omega
theorem ltC_irrefl {a : C} (h : ltC a a) : False := by unfold ltC at h; omega
theorem Sh.lt {l : List C} (h : Sh l) : ∀ i j, i < j → j < l.length → ltC (at_ l i) (at_ l j) := by
  intro i j
  induction j with
  | zero => intro h; omega
  | succ j ih =>
    intro hij hj
    by_cases e : i = j
    · subst e; exact h.2.2.2 i hj
    · exact ltC_trans (ih (by omega) (by omega)) (h.2.2.2 j hj)
theorem sh_cases (l : List C) : (Sh l ∧ shB l = true) ∨ (¬ Sh l ∧ shB l = false) := by
  by_cases h : Sh l
  · exact Or.inl ⟨h, shB_true h⟩
  · exact Or.inr ⟨h, shB_false h⟩
/-! ### Mark -/
/-- the marks m, m + 1, .. two to a cell -/
def mrk (m : Int) (n : Nat) : List C := (List.range n).map fun i => ⟨m + 2 * (i : Nat), m + 2 * (i : Nat) + 1⟩
theorem mrk_length (m : Int) (n : Nat) : (mrk m n).length = n := by simp [mrk]
theorem mrk_get (m : Int) (n i : Nat) (h : i < n) : (mrk m n)[i]? = some ⟨m + 2 * (i : Nat), m + 2 * (i : Nat) + 1⟩ := by
  unfold mrk; rw [List.getElem?_map, List.getElem?_range h]; rfl
theorem mrk_at (m : Int) (n i : Nat) (h : i < n) : at_ (mrk m n) i = ⟨m + 2 * (i : Nat), m + 2 * (i : Nat) + 1⟩ := by
  unfold at_; rw [List.getD_eq_getElem?_getD, mrk_get m n i h]; rfl
theorem markCell_loop (m : Int) (n : Nat) (hn : n ≤ 1048576) (hm : 0 ≤ m) (hm2 : m ≤ 9223372036850000000) : ∀ d j : Nat, j + d = n → ∀ x : List C, x.length = n → (∀ i, i < j → x[i]? = (mrk m n)[i]?) →
    Ev (fun k => laws_markCellS.l0 k x (m + 2 * (j : Nat)) (j : Nat)) (m + 2 * (n : Nat), mrk m n) := by
  intro d
  induction d with
  | zero =>
    intro j hj x hx hi
    obtain rfl : x = mrk m n := by
      apply List.ext_getElem?
      intro i
      by_cases h : i < j
      · exact hi i h
      · rw [List.getElem?_eq_none (by omega), List.getElem?_eq_none (by rw [mrk_length]; omega)]
    obtain rfl : j = n := by omega
    refine Ev.step (fun k => ?_) (Ev.now _)
    simp only [laws_markCellS.l0, mrk_length]; rw [if_neg (by omega)]
  | succ d ih =>
    intro j hj x hx hi
    refine Ev.step (fun k => ?_) (ih (j + 1) (by omega) (x.set j ⟨m + 2 * (j : Nat), m + 2 * (j : Nat) + 1⟩) (by rw [List.length_set]; exact hx) ?_)
    · simp only [laws_markCellS.l0, Option.bind_some]
      rw [if_pos (by omega), if_pos (by omega), w64 (x := (j : Int) + 1) (by omega) (by omega), w64 (x := m + 2 * (j : Nat) + 1) (by omega) (by omega), w64 (by omega) (by omega), rd_at, rd_at, List.set_set]
      have e : at_ (x.set ((j : Int).toNat) ⟨m + 2 * (j : Nat), (at_ x j).f1⟩) j = ⟨m + 2 * (j : Nat), (at_ x j).f1⟩ := by
        rw [at_get _ _ (by rw [List.length_set]; omega), Int.toNat_natCast, List.getElem_set_self]
      rw [e]
      show laws_markCellS.l0 k (x.set j ⟨m + 2 * (j : Nat), m + 2 * (j : Nat) + 1⟩) (m + 2 * (j : Nat) + 1 + 1) ((j : Int) + 1) = laws_markCellS.l0 k _ (m + 2 * ((j + 1 : Nat) : Int)) ((j + 1 : Nat) : Int)
      congr 1
      omega
    · intro i h
      rw [List.getElem?_set]
      by_cases e : j = i
      · subst e; rw [if_pos rfl, if_pos (by omega), mrk_get m n j (by omega)]
      · rw [if_neg e]; exact hi i (by omega)
theorem markCell_ev (l : List C) (m : Int) (hl : l.length ≤ 1048576) (hm : 0 ≤ m) (hm2 : m ≤ 9223372036850000000) : Ev (fun k => laws_markCellS.f k l m) (m + 2 * (l.length : Int), mrk m l.length) := by
  have h := markCell_loop m l.length hl hm hm2 l.length 0 (by omega) l rfl (by intro i h; omega)
  rw [show m + 2 * ((0 : Nat) : Int) = m from by omega] at h
  exact h
theorem heldCell_loop (m : Int) (n : Nat) (hn : n ≤ 1048576) (hm : 0 ≤ m) (hm2 : m ≤ 9223372036850000000) : ∀ d j : Nat, j + d = n → Ev (fun k => laws_heldCellS.l0 k (mrk m n) (m + 2 * (j : Nat)) (j : Nat)) (m + 2 * (n : Nat)) := by
  intro d
  induction d with
  | zero =>
    intro j hj
    obtain rfl : j = n := by omega
    refine Ev.step (fun k => ?_) (Ev.now _)
    simp only [laws_heldCellS.l0, mrk_length]; rw [if_neg (by omega)]
  | succ d ih =>
    intro j hj
    refine Ev.step (fun k => ?_) (ih (j + 1) (by omega))
    simp only [laws_heldCellS.l0, mrk_length, rd_at]
    rw [mrk_at m n j (by omega), if_pos (by omega), if_pos (by omega), if_pos rfl, w64 (x := m + 2 * (j : Nat) + 1) (by omega) (by omega), if_pos rfl, w64 (x := (j : Int) + 1) (by omega) (by omega), w64 (by omega) (by omega)]
    congr 1
    omega
theorem heldCell_ev (m : Int) (n : Nat) (hn : n ≤ 1048576) (hm : 0 ≤ m) (hm2 : m ≤ 9223372036850000000) : Ev (fun k => laws_heldCellS.f k (mrk m n) m) (m + 2 * (n : Nat)) := by
  have h := heldCell_loop m n hn hm hm2 n 0 (by omega)
  rw [show m + 2 * ((0 : Nat) : Int) = m from by omega] at h
  exact h
/-! ### Ix -/
/-- the place of a cell in a row, from a place on; -1 if it is not in it -/
def ixF : Nat → List C → Int → Int → Int
  | _, [], _, _ => -1
  | j, c :: r, x, y => if c.f0 = x ∧ c.f1 = y then (j : Int) else ixF (j + 1) r x y
theorem ixF_mem (x y : Int) : ∀ (r : List C) (j : Nat), 0 ≤ ixF j r x y ↔ (⟨x, y⟩ : C) ∈ r := by
  intro r
  induction r with
  | nil => intro j; simp [ixF]
  | cons c r ih =>
    intro j
    unfold ixF
    by_cases h : c.f0 = x ∧ c.f1 = y
    · rw [if_pos h]
      constructor
      · intro _; obtain ⟨rfl, rfl⟩ := h; exact List.mem_cons_self
      · intro _; omega
    · rw [if_neg h, ih (j + 1), List.mem_cons]
      constructor
      · exact fun g => Or.inr g
      · rintro (g | g)
        · exact absurd (by rw [← g]; exact ⟨rfl, rfl⟩) h
        · exact g
/-- the cell is in the row -/
def hasC (l : List C) (x y : Int) : Bool := decide (0 ≤ ixF 0 l x y)
theorem hasC_iff (l : List C) (x y : Int) : hasC l x y = true ↔ (⟨x, y⟩ : C) ∈ l := by unfold hasC; rw [decide_eq_true_eq]; exact ixF_mem x y l 0
theorem hasC_true {l : List C} {x y : Int} (h : (⟨x, y⟩ : C) ∈ l) : hasC l x y = true := (hasC_iff l x y).2 h
theorem hasC_false {l : List C} {x y : Int} (h : ¬ (⟨x, y⟩ : C) ∈ l) : hasC l x y = false := by
  cases e : hasC l x y with
  | false => rfl
  | true => exact absurd ((hasC_iff l x y).1 e) h
/-! ### IxS -/
theorem specIx_loop (l : List C) (x y : Int) (hl : l.length ≤ 1048576) : ∀ d j : Nat, j + d = l.length → Ev (fun k => spec_l02Index.l0 k l (j : Nat) x y) (ixF j (l.drop j) x y) := by
  intro d
  induction d with
  | zero =>
    intro j hj
    obtain rfl : j = l.length := by omega
    rw [List.drop_length]
    refine Ev.step (fun k => ?_) (Ev.now _)
    simp only [spec_l02Index.l0, ixF]; rw [if_neg (by omega)]
  | succ d ih =>
    intro j hj
    rw [drop_at l j (by omega)]
    have e : ∀ k, spec_l02Index.l0 (k + 1) l (j : Nat) x y = if (at_ l j).f0 = x ∧ (at_ l j).f1 = y then some (j : Int) else spec_l02Index.l0 k l ((j + 1 : Nat) : Int) x y := by
      intro k
      simp only [spec_l02Index.l0, rd_at, Bool.and_eq_true, beq_iff_eq]
      rw [if_pos (by omega), if_pos (by omega), w64 (by omega) (by omega)]; rfl
    unfold ixF
    by_cases c : (at_ l j).f0 = x ∧ (at_ l j).f1 = y
    · rw [if_pos c]; exact Ev.step (f := fun _ => some (j : Int)) (fun k => (e k).trans (if_pos c)) (Ev.now _)
    · rw [if_neg c]; exact Ev.step (fun k => (e k).trans (if_neg c)) (ih (j + 1) (by omega))
theorem specIx_ev (l : List C) (x y : Int) (hl : l.length ≤ 1048576) : Ev (fun k => spec_l02Index.f k l x y) (ixF 0 l x y) :=
  specIx_loop l x y hl l.length 0 (by omega)
/-! ### IxI -/
theorem implIx_loop (l : List C) (x y : Int) (hl : l.length ≤ 1048576) : ∀ d j : Nat, j + d = l.length → Ev (fun k => slices_Index_Cell.l0 k l (l.length : Int) (j : Nat) x y) (ixF j (l.drop j) x y) := by
  intro d
  induction d with
  | zero =>
    intro j hj
    obtain rfl : j = l.length := by omega
    rw [List.drop_length]
    refine Ev.step (fun k => ?_) (Ev.now _)
    simp only [slices_Index_Cell.l0, ixF]; rw [if_neg (by omega)]
  | succ d ih =>
    intro j hj
    rw [drop_at l j (by omega)]
    have e : ∀ k, slices_Index_Cell.l0 (k + 1) l (l.length : Int) (j : Nat) x y = if (at_ l j).f0 = x ∧ (at_ l j).f1 = y then some (j : Int) else slices_Index_Cell.l0 k l (l.length : Int) ((j + 1 : Nat) : Int) x y := by
      intro k
      simp only [slices_Index_Cell.l0, rd_at, Bool.and_eq_true, beq_iff_eq]
      rw [if_pos (by omega), if_pos (by omega), if_pos (by omega), w64 (by omega) (by omega)]
      by_cases c : (at_ l j).f0 = x ∧ (at_ l j).f1 = y
      · rw [if_pos c, if_pos ⟨c.1.symm, c.2.symm⟩]
      · rw [if_neg c, if_neg (fun g => c ⟨g.1.symm, g.2.symm⟩)]; rfl
    unfold ixF
    by_cases c : (at_ l j).f0 = x ∧ (at_ l j).f1 = y
    · rw [if_pos c]; exact Ev.step (f := fun _ => some (j : Int)) (fun k => (e k).trans (if_pos c)) (Ev.now _)
    · rw [if_neg c]; exact Ev.step (fun k => (e k).trans (if_neg c)) (ih (j + 1) (by omega))
theorem contains_ev (l : List C) (x y : Int) (hl : l.length ≤ 1048576) : Ev (fun k => slices_Contains_Cell.f k l x y) (hasC l x y) := by
  unfold slices_Contains_Cell.f
  exact Ev.bind (f := fun _ t => some (decide (t ≥ 0))) (implIx_loop l x y hl l.length 0 (by omega)) (Ev.now _)
/-! ### Sort -/
/-- a cell laid into a row ahead of the first greater one -/
def insP (c : C) : List C → List C
  | [] => [c]
  | x :: r => if ltC c x then c :: x :: r else x :: insP c r
def sortP (l : List C) : List C := l.foldl (fun s c => insP c s) []
theorem insP_length (c : C) (l : List C) : (insP c l).length = l.length + 1 := by
  induction l with
  | nil => rfl
  | cons x r ih => unfold insP; split <;> simp [ih]
theorem insP_perm (c : C) (l : List C) : (insP c l).Perm (c :: l) := by
  induction l with
  | nil => exact List.Perm.refl _
  | cons x r ih =>
    unfold insP
    split
    · exact List.Perm.refl _
    · exact (ih.cons x).trans (List.Perm.swap c x r)
theorem foldl_insP_perm : ∀ (l s : List C), (l.foldl (fun s c => insP c s) s).Perm (s ++ l) := by
  intro l
  induction l with
  | nil => intro s; simp
  | cons c r ih =>
    intro s
    rw [List.foldl_cons]
    refine (ih _).trans ?_
    refine ((insP_perm c s).append_right r).trans ?_
    exact (List.perm_middle).symm
theorem sortP_perm (l : List C) : (sortP l).Perm l := by
  have := foldl_insP_perm l []
  rwa [List.nil_append] at this
theorem sortP_length (l : List C) : (sortP l).length = l.length := (sortP_perm l).length_eq
theorem mem_sortP {l : List C} {c : C} : c ∈ sortP l ↔ c ∈ l := (sortP_perm l).mem_iff
/-- in order; equals may come -/
def leC (a b : C) : Prop := ¬ ltC b a
theorem leC_trans {a b c : C} (h : leC a b) (g : leC b c) : leC a c := by unfold leC ltC at *; omega
theorem leC_total (a b : C) : leC a b ∨ leC b a := by unfold leC ltC; omega
theorem leC_anti {a b : C} (h : leC a b) (g : leC b a) : a = b := by
  unfold leC ltC at *
  have e0 : a.f0 = b.f0 := by omega
  have e1 : a.f1 = b.f1 := by omega
  cases a; cases b; cases e0; cases e1; rfl
theorem ltC_le {a b : C} (h : ltC a b) : leC a b := by unfold leC ltC at *; omega
theorem insP_sorted (c : C) (l : List C) (h : l.Pairwise leC) : (insP c l).Pairwise leC := by
  induction l with
  | nil => simp [insP]
  | cons x r ih =>
    rw [List.pairwise_cons] at h
    unfold insP
    by_cases hc : ltC c x
    · rw [if_pos hc, List.pairwise_cons]
      refine ⟨fun y hy => ?_, List.pairwise_cons.2 h⟩
      rcases List.mem_cons.1 hy with rfl | hy
      · exact ltC_le hc
      · exact leC_trans (ltC_le hc) (h.1 y hy)
    · rw [if_neg hc, List.pairwise_cons]
      refine ⟨fun y hy => ?_, ih h.2⟩
      rcases List.mem_cons.1 ((insP_perm c r).mem_iff.1 hy) with rfl | hy
      · exact hc
      · exact h.1 y hy
theorem sortP_sorted (l : List C) : (sortP l).Pairwise leC := by
  have : ∀ (l s : List C), s.Pairwise leC → (l.foldl (fun s c => insP c s) s).Pairwise leC := by
    intro l
    induction l with
    | nil => intro s h; exact h
    | cons c r ih => intro s h; exact ih _ (insP_sorted c s h)
  exact this l [] List.Pairwise.nil
theorem sorted_unique {l m : List C} (hl : l.Pairwise leC) (hm : m.Pairwise leC) (hp : l.Perm m) : l = m :=
  List.Perm.eq_of_pairwise (le := leC) (fun _ _ _ _ h1 h2 => leC_anti h1 h2) hl hm hp
theorem sortP_of_sorted {l : List C} (h : l.Pairwise leC) : sortP l = l := sorted_unique (sortP_sorted l) h (sortP_perm l)
theorem sortP_congr {l m : List C} (h : l.Perm m) : sortP l = sortP m := sorted_unique (sortP_sorted l) (sortP_sorted m) ((sortP_perm l).trans (h.trans (sortP_perm m).symm))
theorem Sh.sorted {l : List C} (h : Sh l) : l.Pairwise leC := by
  rw [List.pairwise_iff_getElem]
  intro i j hi hj hij
  have := h.lt i j hij hj
  rw [at_get l i hi, at_get l j hj] at this
  exact ltC_le this
/-! ### FoldE -/
/-- a loop over a row of cells whose rounds take rounds themselves -/
theorem ev_foldE {σ β : Type} (F : Nat → σ → Int → Option β) (l : List C) (g : σ → C → σ) (inv : Nat → σ → Prop)
    (step : ∀ s (j : Nat), j < l.length → at_ l j ∈ l → inv j s → inv (j + 1) (g s (at_ l j)) ∧ ∀ r, Ev (fun k => F k (g s (at_ l j)) ((j + 1 : Nat) : Int)) r → Ev (fun k => F k s (j : Nat)) r)
    (r : β) (j0 : Nat) (hj0 : j0 ≤ l.length) (s0 : σ) (h0 : inv j0 s0) (hr : inv l.length ((l.drop j0).foldl g s0) → Ev (fun k => F k ((l.drop j0).foldl g s0) (l.length : Nat)) r) : Ev (fun k => F k s0 (j0 : Nat)) r := by
  have key : ∀ d j : Nat, j + d = l.length → ∀ s, inv j s → (inv l.length ((l.drop j).foldl g s) → Ev (fun k => F k ((l.drop j).foldl g s) (l.length : Nat)) r) → Ev (fun k => F k s (j : Nat)) r := by
    intro d
    induction d with
    | zero =>
      intro j hj s hs hr
      obtain rfl : j = l.length := by omega
      rw [List.drop_length] at hr
      exact hr hs
    | succ d ih =>
      intro j hj s hs hr
      have h : j < l.length := by omega
      obtain ⟨h1, h2⟩ := step s j h (at_mem l j h) hs
      refine h2 r (ih (j + 1) (by omega) _ h1 ?_)
      rw [drop_at l j h] at hr; exact hr
  exact key (l.length - j0) j0 (by omega) s0 h0 hr
/-! ### SortS -/
theorem ins_loop (l : List C) (x y : Int) (hl : l.length ≤ 1048576) : ∀ d j : Nat, j + d = l.length → ∀ acc : List C, acc.length ≤ j + 1 →
    Ev (fun k => spec_l02Insert.l0 k l acc true (j : Nat) x y) (acc ++ l.drop j) ∧ (acc.length ≤ j → Ev (fun k => spec_l02Insert.l0 k l acc false (j : Nat) x y) (acc ++ insP ⟨x, y⟩ (l.drop j))) := by
  intro d
  induction d with
  | zero =>
    intro j hj acc ha
    obtain rfl : j = l.length := by omega
    rw [List.drop_length]
    refine ⟨?_, fun _ => ?_⟩
    · refine Ev.step (fun k => ?_) (Ev.now _)
      simp only [spec_l02Insert.l0, if_true, List.append_nil]; rw [if_neg (by omega)]
    · refine Ev.step (fun k => ?_) (Ev.now _)
      simp only [spec_l02Insert.l0, insP, Bool.false_eq_true, if_false]; rw [if_neg (by omega), if_pos (by omega)]
  | succ d ih =>
    intro j hj acc ha
    have hjl : j < l.length := by omega
    rw [drop_at l j hjl]
    have ej : wrap64 ((j : Int) + 1) = ((j + 1 : Nat) : Int) := by rw [w64 (by omega) (by omega)]; rfl
    refine ⟨?_, fun hb => ?_⟩
    · have g := (ih (j + 1) (by omega) (acc ++ [at_ l j]) (by simp; omega)).1
      rw [List.append_assoc] at g
      refine Ev.step (fun k => ?_) g
      simp only [spec_l02Insert.l0, rd_at, if_true]
      rw [if_pos (by omega), if_pos (by omega), if_pos (by omega), ej]
    · by_cases c : ltC ⟨x, y⟩ (at_ l j)
      · have c' : ltC ⟨x, y⟩ ⟨(at_ l j).f0, (at_ l j).f1⟩ := c
        have g := (ih (j + 1) (by omega) ((acc ++ [⟨x, y⟩]) ++ [at_ l j]) (by simp; omega)).1
        unfold insP
        rw [if_pos c]
        rw [List.append_assoc, List.append_assoc] at g
        refine Ev.step (fun k => ?_) g
        simp only [spec_l02Insert.l0, rd_at, less_eq, Option.bind_some, Bool.false_eq_true, if_false, decide_eq_true c', if_true]
        rw [if_pos (by omega), if_pos (by omega), if_pos (by omega), if_pos (by simp; omega), ej, List.append_assoc]
      · have c' : ¬ ltC ⟨x, y⟩ ⟨(at_ l j).f0, (at_ l j).f1⟩ := c
        have g := (ih (j + 1) (by omega) (acc ++ [at_ l j]) (by simp; omega)).2 (by simp; omega)
        unfold insP
        rw [if_neg c]
        rw [List.append_assoc] at g
        refine Ev.step (fun k => ?_) g
        simp only [spec_l02Insert.l0, rd_at, less_eq, Option.bind_some, Bool.false_eq_true, if_false, decide_eq_false c']
        rw [if_pos (by omega), if_pos (by omega), if_pos (by omega), ej]
theorem specIns_ev (l : List C) (x y : Int) (hl : l.length ≤ 1048576) : Ev (fun k => spec_l02Insert.f k l x y) (insP ⟨x, y⟩ l) :=
  (ins_loop l x y hl l.length 0 (by omega) [] (by simp)).2 (by simp)
theorem specSort_ev (l : List C) (hl : l.length ≤ 1048570) : Ev (fun k => spec_l02Sort.f k l) (sortP l) := by
  unfold spec_l02Sort.f
  refine ev_foldE (fun k s j => spec_l02Sort.l0 k l s j) l (fun s c => insP c s) (fun j s => s.length = j) ?_ _ 0 (by omega) [] rfl ?_
  · intro s j hj hm hs
    refine ⟨by rw [insP_length]; omega, fun r hr => ?_⟩
    refine Ev.step (f := fun k => (spec_l02Insert.f k s (at_ l j).f0 (at_ l j).f1).bind fun t => spec_l02Sort.l0 k l t ((j + 1 : Nat) : Int)) (fun k => ?_) ?_
    · simp only [spec_l02Sort.l0, rd_at]; rw [if_pos (by omega), if_pos (by omega), w64 (by omega) (by omega)]; rfl
    · exact Ev.bind (f := fun k t => spec_l02Sort.l0 k l t ((j + 1 : Nat) : Int)) (specIns_ev s _ _ (by omega)) hr
  · intro hs
    refine Ev.step (fun k => ?_) (Ev.now _)
    simp only [spec_l02Sort.l0]; rw [if_neg (by omega)]; rfl
/-! ### SortI -/
theorem merge_sortP (l : List C) : l.mergeSort (fun x y => !ltbC_ y x) = sortP l := by
  have e : (fun x y : C => !ltbC_ y x) = fun x y => @decide (leC x y) (Classical.propDecidable _) := by
    funext x y
    by_cases h : ltC y x
    · have h1 : ltbC_ y x = true := by unfold ltbC_; exact decide_eq_true h
      rw [h1]; exact (@decide_eq_false (leC x y) (Classical.propDecidable _) (fun g => g h)).symm
    · have h1 : ltbC_ y x = false := by unfold ltbC_; exact decide_eq_false h
      rw [h1]; exact (@decide_eq_true (leC x y) (Classical.propDecidable _) h).symm
  refine sorted_unique ?_ (sortP_sorted l) ((List.mergeSort_perm _ _).trans (sortP_perm l).symm)
  rw [e]
  have h := List.pairwise_mergeSort (le := fun x y : C => @decide (leC x y) (Classical.propDecidable _)) (fun a b c h1 h2 => @decide_eq_true _ (Classical.propDecidable _) (leC_trans (@of_decide_eq_true _ (Classical.propDecidable _) h1) (@of_decide_eq_true _ (Classical.propDecidable _) h2)))
    (fun a b => by
      rcases leC_total a b with g | g
      · rw [@decide_eq_true _ (Classical.propDecidable _) g]; rfl
      · rw [@decide_eq_true _ (Classical.propDecidable (leC b a)) g, Bool.or_true]) l
  exact h.imp fun g => @of_decide_eq_true _ (Classical.propDecidable _) g
theorem implSort_eq (l : List C) (hl : l.length ≤ 1048576) : impl_sorted.f l = some (sortP l) := by
  unfold impl_sorted.f slices_Clone_Cell.f
  rw [if_pos (by omega)]
  simp only [Option.bind_some, slices_SortFunc_Cell.f]
  rw [if_pos (by omega), Option.bind_some, merge_sortP]
/-! ### JoinP -/
def meetB (l1 l0 : List C) : Bool := l0.any fun c => hasC l1 c.f0 c.f1
theorem specMeet_loop (l0 l1 : List C) (h0 : l0.length ≤ 1048576) (h1 : l1.length ≤ 1048576) : ∀ d j : Nat, j + d = l0.length → Ev (fun k => spec_l02Meet.l0 k l0 l1 (j : Nat)) (meetB l1 (l0.drop j)) := by
  intro d
  induction d with
  | zero =>
    intro j hj
    obtain rfl : j = l0.length := by omega
    rw [List.drop_length]
    refine Ev.step (fun k => ?_) (Ev.now _)
    simp only [spec_l02Meet.l0, meetB, List.any_nil]; rw [if_neg (by omega)]
  | succ d ih =>
    intro j hj
    rw [drop_at l0 j (by omega)]
    refine Ev.step (f := fun k => (spec_l02Index.f k l1 (at_ l0 j).f0 (at_ l0 j).f1).bind fun t => if t ≥ 0 then some true else spec_l02Meet.l0 k l0 l1 ((j + 1 : Nat) : Int)) (fun k => ?_) ?_
    · simp only [spec_l02Meet.l0, rd_at]; rw [if_pos (by omega), if_pos (by omega), w64 (by omega) (by omega)]; rfl
    · refine Ev.bind (f := fun k t => if t ≥ 0 then some true else spec_l02Meet.l0 k l0 l1 ((j + 1 : Nat) : Int)) (specIx_ev l1 _ _ h1) ?_
      unfold meetB
      rw [List.any_cons]
      by_cases c : 0 ≤ ixF 0 l1 (at_ l0 j).f0 (at_ l0 j).f1
      · have hh : hasC l1 (at_ l0 j).f0 (at_ l0 j).f1 = true := decide_eq_true c
        simp only [ge_iff_le, if_pos c, hh, Bool.true_or]; exact Ev.now _
      · have hh : hasC l1 (at_ l0 j).f0 (at_ l0 j).f1 = false := decide_eq_false c
        simp only [ge_iff_le, if_neg c, hh, Bool.false_or]; exact ih (j + 1) (by omega)
theorem implMeet_ev (l1 : List C) (h1 : l1.length ≤ 1048576) : ∀ l0 : List C, Ev (fun k => impl_JoinShapes.meet k l1 l0) (meetB l1 l0) := by
  intro l0
  induction l0 with
  | nil => exact Ev.now _
  | cons c r ih =>
    refine Ev.bind (f := fun k t => if t = true then some true else impl_JoinShapes.meet k l1 r) (contains_ev l1 c.f0 c.f1 h1) ?_
    unfold meetB
    rw [List.any_cons]
    cases hasC l1 c.f0 c.f1
    · simp only [Bool.false_eq_true, if_false, Bool.false_or]; exact ih
    · simp only [if_true, Bool.true_or]; exact Ev.now _
noncomputable def jnP (l0 l1 : List C) : List C × Int := if shB l0 = true then (if shB l1 = true then (if meetB l1 l0 = true then ([], 5) else if l0.length + l1.length > 40 then ([], 3) else (sortP (l0 ++ l1), 0)) else ([], 1)) else ([], 1)
theorem jnP_length (l0 l1 : List C) : (jnP l0 l1).1.length ≤ 1048576 := by
  unfold jnP; repeat' split
  all_goals first | exact Nat.zero_le _ | (show (sortP _).length ≤ _; rw [sortP_length, List.length_append]; omega)
theorem specJn_ev (l0 l1 : List C) (h0 : l0.length ≤ 1048576) (h1 : l1.length ≤ 1048576) : Ev (fun k => spec_JoinShapes.f k l0 l1) (jnP l0 l1) := by
  unfold spec_JoinShapes.f jnP
  refine Ev.bind (f := fun k t835 => (if t835 = true then ((spec_IsShape.f k l1).bind fun t836 => (spec_JoinShapes.j0 k l0 l1 (!t836))) else (spec_JoinShapes.j0 k l0 l1 true))) (specShape_ev l0 h0) ?_
  have bad : Ev (fun k => spec_JoinShapes.j0 k l0 l1 true) (([] : List C), (1 : Int)) := Ev.step (f := fun _ => some (([] : List C), (1 : Int))) (fun k => by simp only [spec_JoinShapes.j0, if_true]) (Ev.now _)
  cases shB l0
  · simp only [Bool.false_eq_true, if_false]; exact bad
  · simp only [if_true]
    refine Ev.bind (f := fun k t836 => (spec_JoinShapes.j0 k l0 l1 (!t836))) (specShape_ev l1 h1) ?_
    cases shB l1
    · simp only [Bool.not_false, Bool.false_eq_true, if_false]; exact bad
    · simp only [Bool.not_true, if_true]
      refine Ev.step (f := fun k => (spec_l02Meet.f k l0 l1).bind fun t837 => (if t837 = true then (some (([] : List C), 5)) else (if l0.length + l1.length > 40 then (some (([] : List C), 3)) else ((spec_l02Sort.f k (l0 ++ l1)).bind fun t847 => (some (t847, 0)))))) (fun k => ?_) ?_
      · simp only [spec_JoinShapes.j0, Bool.false_eq_true, if_false, Option.bind_some, List.nil_append, List.length_nil]
        rw [w64 (by omega) (by omega)]
        congr 1; funext t837
        split
        · rfl
        · by_cases c : l0.length + l1.length > 40
          · rw [if_pos c, if_pos (by omega)]
          · rw [if_neg c, if_neg (by omega), if_pos (by omega), if_pos (by omega)]
      · refine Ev.bind (f := fun k t837 => (if t837 = true then (some (([] : List C), 5)) else (if l0.length + l1.length > 40 then (some (([] : List C), 3)) else ((spec_l02Sort.f k (l0 ++ l1)).bind fun t847 => (some (t847, 0)))))) (specMeet_loop l0 l1 h0 h1 l0.length 0 (by omega)) ?_
        rw [List.drop_zero]
        cases meetB l1 l0
        · simp only [Bool.false_eq_true, if_false]
          by_cases c : l0.length + l1.length > 40
          · simp only [if_pos c]; exact Ev.now _
          · simp only [if_neg c]; exact Ev.bind (f := fun _ t847 => some (t847, (0 : Int))) (specSort_ev (l0 ++ l1) (by rw [List.length_append]; omega)) (Ev.now _)
        · simp only [if_true]; exact Ev.now _
theorem implJn_ev (l0 l1 : List C) (h0 : l0.length ≤ 1048576) (h1 : l1.length ≤ 1048576) : Ev (fun k => impl_JoinShapes.f k l0 l1) (jnP l0 l1) := by
  obtain ⟨K, a1, a2, a3⟩ := ev3 (implShape_ev l0 h0) (implShape_ev l1 h1) (implMeet_ev l1 h1 l0)
  refine ⟨K, fun k hk => ?_⟩
  obtain ⟨n, rfl⟩ : ∃ n, k = K + n := ⟨k - K, by omega⟩
  unfold jnP
  simp only [impl_JoinShapes.f, a1, a2, a3, Option.bind_some]
  cases shB l0
  · rfl
  · cases shB l1
    · rfl
    · cases meetB l1 l0
      · simp only [if_true, Bool.false_eq_true, if_false]
        rw [w64 (by omega) (by omega)]
        by_cases c : l0.length + l1.length > 40
        · rw [if_pos c, if_pos (by omega)]
        · rw [if_neg c, if_neg (by omega)]
          have e : slices_Concat_Cell.f [l0, l1] = some (l0 ++ l1) := by
            unfold slices_Concat_Cell.f totC_
            simp only [List.map_cons, List.map_nil, List.sum_cons, List.sum_nil, List.flatten_cons, List.flatten_nil, List.append_nil]
            rw [if_pos (by omega)]
          rw [e, Option.bind_some, implSort_eq _ (by rw [List.length_append]; omega), Option.bind_some]
      · rfl
end Go.Proofs.Ytbfmocohknadkaa.M
namespace Go.Proofs.Ytbfmocohknadkaa.Pure
set_option linter.unusedVariables false
set_option linter.unusedSimpArgs false
open Go.RowKit Go.Proofs.Ytbfmocohknadkaa.X Go.Proofs.YtbfmocohknadkaaW.PrintWords Go.Proofs.YtbfmocohknadkaaW.PrintLast Go.Proofs.YtbfmocohknadkaaW.PrintMore Go.Proofs.Ytbfmocohknadkaa.M
theorem FnExactJoinShapes : laws_FnExactJoinShapes.Pure := by
  intro l m hl _ hm _
  rcases sz_cases l hl 1048576 (by omega) (by omega) with ⟨h, e⟩ | ⟨h, e⟩
  · exact ⟨0, by simp only [laws_FnExactJoinShapes.f, e, Option.bind_some]; rfl⟩
  · have h0 : ¬ (1048576 - (l.length : Int) < 0) := by omega
    rcases sz_cases m hm (1048576 - (l.length : Int)) (by omega) (by omega) with ⟨g, e'⟩ | ⟨g, e'⟩
    · exact ⟨0, by simp only [laws_FnExactJoinShapes.f, e, e', Option.bind_some, if_neg h0]; rfl⟩
    · have g0 : ¬ (1048576 - (l.length : Int) - (m.length : Int) < 0) := by omega
      have hc := cs_length l
      have hd := cs_length m
      have hr := jnP_length (cs l) (cs m)
      obtain ⟨K, h1, h2⟩ := AE.up (AE.and (AE.and (evae (toCell_ev l (by omega))) (AE.and (evae (toCell_ev m (by omega))) (AE.and (evae (specJn_ev (cs l) (cs m) (by omega) (by omega))) (AE.and (evae (implJn_ev (cs l) (cs m) (by omega) (by omega))) (AE.and (evae (markCell_ev (cs l) 1 (by omega) (by omega) (by omega))) (evae (markCell_ev (cs m) (1 + 2 * ((cs l).length : Int)) (by omega) (by omega) (by omega)))))))) (AE.and (evae (eqCell_ev (cs l) (by omega))) (AE.and (evae (eqCell_ev (cs m) (by omega))) (AE.and (evae (eqCell_ev (jnP (cs l) (cs m)).1 (by omega))) (AE.and (evae (markCell_ev (jnP (cs l) (cs m)).1 1 hr (by omega) (by omega))) (evae (heldCell_ev 1 (jnP (cs l) (cs m)).1.length hr (by omega) (by omega)))))))) |>.imp fun K h => (⟨fun n => (h n).1, fun n => (h n).2⟩ : (∀ n, _) ∧ (∀ n, _))
      have n1 : ¬ (1 + 2 * ((cs l).length : Int) + 2 * ((cs m).length : Int) < 0) := by omega
      have n2 : ¬ (1 + 2 * ((jnP (cs l) (cs m)).1.length : Int) < 0) := by omega
      exact ⟨K + 4, by simp only [laws_FnExactJoinShapes.f, e, e', Option.bind_some, if_neg h0, if_neg g0, h1, h2, bne_self_eq_false, Bool.false_eq_true, if_false, if_true, laws_FnExactJoinShapes.j0, laws_FnExactJoinShapes.j1, laws_FnExactJoinShapes.j2, if_neg n1, if_neg n2]⟩
end Go.Proofs.Ytbfmocohknadkaa.Pure
