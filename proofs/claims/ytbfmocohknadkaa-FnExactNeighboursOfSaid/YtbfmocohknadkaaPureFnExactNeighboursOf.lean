/- The program's NeighboursOf returns what the reference's returns, for all arguments, without any condition. -/
import Derived.Test.YtbfmocohknadkaaXx0
import Derived.Test.YtbfmocohknadkaaXx10
import Derived.Test.YtbfmocohknadkaaXx11
import Derived.Test.YtbfmocohknadkaaXx12
import Derived.Test.YtbfmocohknadkaaXx13
import Derived.Test.YtbfmocohknadkaaXx15
import Derived.Test.YtbfmocohknadkaaXx16
import Derived.Test.YtbfmocohknadkaaXx18
import Derived.Test.YtbfmocohknadkaaXx2
import Derived.Test.YtbfmocohknadkaaXx3
import Derived.Test.YtbfmocohknadkaaXx34
import Derived.Test.YtbfmocohknadkaaXx35
import Derived.Test.YtbfmocohknadkaaXx4
import Derived.Test.YtbfmocohknadkaaXx5
import Derived.Test.YtbfmocohknadkaaXx6
import Derived.Test.YtbfmocohknadkaaXx7
import Derived.Test.YtbfmocohknadkaaXx8
import Derived.Test.YtbfmocohknadkaaXx9
namespace Go.Proofs.Ytbfmocohknadkaa.X
set_option linter.unusedVariables false
set_option linter.unusedSimpArgs false
open Go.RowKit Go.Proofs.Ytbfmocohknadkaa.X Go.Proofs.YtbfmocohknadkaaW.PrintWords Go.Proofs.YtbfmocohknadkaaW.PrintLast Go.Proofs.YtbfmocohknadkaaW.PrintMore
def laws_FnExactNeighboursOf.Pure : Prop := ∀ (l0 : List S69), l0.length ≤ 9223372036854775807 → (∀ x ∈ l0, (Lit.int .i64 x.f0).wf = true ∧ (Lit.int .i64 x.f1).wf = true) → ∃ k, laws_FnExactNeighboursOf.f k l0 = some true
end Go.Proofs.Ytbfmocohknadkaa.X
namespace Go.Proofs.Ytbfmocohknadkaa.M
set_option linter.unusedVariables false
set_option linter.unusedSimpArgs false
open Go.RowKit Go.Proofs.Ytbfmocohknadkaa.X Go.Proofs.YtbfmocohknadkaaW.PrintWords Go.Proofs.YtbfmocohknadkaaW.PrintLast Go.Proofs.YtbfmocohknadkaaW.PrintMore
/-! ### Base -/
theorem w64 {x : Int} (h1 : -9223372036854775808 ≤ x) (h2 : x ≤ 9223372036854775807) : wrap64 x = x := by unfold wrap64; omega
theorem w64_lo (x : Int) : -9223372036854775808 ≤ wrap64 x := by unfold wrap64; omega
theorem w64_hi (x : Int) : wrap64 x ≤ 9223372036854775807 := by unfold wrap64; omega
theorem rd_byte {c : List Int} (h : ∀ x ∈ c, 0 ≤ x ∧ x ≤ 255) (i : Int) : 0 ≤ rd c i ∧ rd c i ≤ 255 := by
  unfold rd
  rw [List.getD_eq_getElem?_getD]
  by_cases hi : i.toNat < c.length
  · rw [List.getElem?_eq_getElem hi]; exact h _ (List.getElem_mem hi)
  · rw [List.getElem?_eq_none (by omega)]; decide
theorem tmod_pos {a n : Int} (h : 0 ≤ a) (hn : 0 < n) : 0 ≤ Int.tmod a n ∧ Int.tmod a n < n := by
  rw [Int.tmod_eq_emod_of_nonneg h]; exact ⟨Int.emod_nonneg _ (by omega), Int.emod_lt_of_pos _ hn⟩
theorem tmod_cast (a b : Nat) : Int.tmod (a : Int) b = ((a % b : Nat) : Int) := by
  rw [Int.tmod_eq_emod_of_nonneg (by omega)]; rfl
theorem bytes_of {l : List Int} (h : ∀ x ∈ l, (Lit.int .u8 x).wf = true) : ∀ x ∈ l, 0 ≤ x ∧ x ≤ 255 := by
  intro x hx
  have := h x hx
  simp only [Lit.wf, Bool.and_eq_true, decide_eq_true_eq] at this
  exact this
/-! ### Cell -/
abbrev C := S57
/-- the cell at a place, the zero cell behind the end -/
def at_ (l : List C) (j : Nat) : C := l.getD j ⟨0, 0⟩
theorem rd_at (l : List C) (j : Nat) : rd_T57 l (j : Int) = at_ l j := by unfold rd_T57 at_; rw [Int.toNat_natCast]; rfl
theorem at_get (l : List C) (j : Nat) (h : j < l.length) : at_ l j = l[j] := by unfold at_; rw [List.getD_eq_getElem?_getD, List.getElem?_eq_getElem h]; rfl
theorem at_mem (l : List C) (j : Nat) (h : j < l.length) : at_ l j ∈ l := by rw [at_get l j h]; exact List.getElem_mem h
theorem drop_at (l : List C) (j : Nat) (h : j < l.length) : l.drop j = at_ l j :: l.drop (j + 1) := by rw [at_get l j h, List.drop_eq_getElem_cons h]
/-- from some number of rounds on -/
def AE (P : Nat → Prop) : Prop := ∃ K, ∀ k, K ≤ k → P k
theorem AE.and {P Q : Nat → Prop} (h : AE P) (g : AE Q) : AE (fun k => P k ∧ Q k) := by
  obtain ⟨K, h⟩ := h; obtain ⟨L, g⟩ := g
  exact ⟨K + L, fun k hk => ⟨h k (by omega), g k (by omega)⟩⟩
theorem AE.up {P : Nat → Prop} (h : AE P) : ∃ K, ∀ n, P (K + n) := by
  obtain ⟨K, h⟩ := h; exact ⟨K, fun n => h _ (by omega)⟩
theorem evae {α : Type} {g : Nat → Option α} {a : α} (h : Ev g a) : AE (fun k => g k = some a) := h
theorem evup {α : Type} {g : Nat → Option α} {a : α} (h : Ev g a) : ∃ K, ∀ n, g (K + n) = some a := AE.up h
theorem ev2 {α0 α1 : Type} {g0 : Nat → Option α0} {g1 : Nat → Option α1} {a0 : α0} {a1 : α1} (h0 : Ev g0 a0) (h1 : Ev g1 a1) : ∃ K, (∀ n, g0 (K + n) = some a0) ∧ (∀ n, g1 (K + n) = some a1) := by
  obtain ⟨K, h⟩ := AE.up (AE.and (evae h0) (evae h1)); exact ⟨K, fun n => (h n).1, fun n => (h n).2⟩
theorem ev3 {α0 α1 α2 : Type} {g0 : Nat → Option α0} {g1 : Nat → Option α1} {g2 : Nat → Option α2} {a0 : α0} {a1 : α1} {a2 : α2} (h0 : Ev g0 a0) (h1 : Ev g1 a1) (h2 : Ev g2 a2) : ∃ K, (∀ n, g0 (K + n) = some a0) ∧ (∀ n, g1 (K + n) = some a1) ∧ (∀ n, g2 (K + n) = some a2) := by
  obtain ⟨K, h⟩ := AE.up (AE.and (evae h0) (AE.and (evae h1) (evae h2))); exact ⟨K, fun n => (h n).1, fun n => (h n).2.1, fun n => (h n).2.2⟩
theorem ev4 {α0 α1 α2 α3 : Type} {g0 : Nat → Option α0} {g1 : Nat → Option α1} {g2 : Nat → Option α2} {g3 : Nat → Option α3} {a0 : α0} {a1 : α1} {a2 : α2} {a3 : α3} (h0 : Ev g0 a0) (h1 : Ev g1 a1) (h2 : Ev g2 a2) (h3 : Ev g3 a3) : ∃ K, (∀ n, g0 (K + n) = some a0) ∧ (∀ n, g1 (K + n) = some a1) ∧ (∀ n, g2 (K + n) = some a2) ∧ (∀ n, g3 (K + n) = some a3) := by
  obtain ⟨K, h⟩ := AE.up (AE.and (evae h0) (AE.and (evae h1) (AE.and (evae h2) (evae h3)))); exact ⟨K, fun n => (h n).1, fun n => (h n).2.1, fun n => (h n).2.2.1, fun n => (h n).2.2.2⟩
theorem ev5 {α0 α1 α2 α3 α4 : Type} {g0 : Nat → Option α0} {g1 : Nat → Option α1} {g2 : Nat → Option α2} {g3 : Nat → Option α3} {g4 : Nat → Option α4} {a0 : α0} {a1 : α1} {a2 : α2} {a3 : α3} {a4 : α4} (h0 : Ev g0 a0) (h1 : Ev g1 a1) (h2 : Ev g2 a2) (h3 : Ev g3 a3) (h4 : Ev g4 a4) : ∃ K, (∀ n, g0 (K + n) = some a0) ∧ (∀ n, g1 (K + n) = some a1) ∧ (∀ n, g2 (K + n) = some a2) ∧ (∀ n, g3 (K + n) = some a3) ∧ (∀ n, g4 (K + n) = some a4) := by
  obtain ⟨K, h⟩ := AE.up (AE.and (evae h0) (AE.and (evae h1) (AE.and (evae h2) (AE.and (evae h3) (evae h4))))); exact ⟨K, fun n => (h n).1, fun n => (h n).2.1, fun n => (h n).2.2.1, fun n => (h n).2.2.2.1, fun n => (h n).2.2.2.2⟩
theorem ev6 {α0 α1 α2 α3 α4 α5 : Type} {g0 : Nat → Option α0} {g1 : Nat → Option α1} {g2 : Nat → Option α2} {g3 : Nat → Option α3} {g4 : Nat → Option α4} {g5 : Nat → Option α5} {a0 : α0} {a1 : α1} {a2 : α2} {a3 : α3} {a4 : α4} {a5 : α5} (h0 : Ev g0 a0) (h1 : Ev g1 a1) (h2 : Ev g2 a2) (h3 : Ev g3 a3) (h4 : Ev g4 a4) (h5 : Ev g5 a5) : ∃ K, (∀ n, g0 (K + n) = some a0) ∧ (∀ n, g1 (K + n) = some a1) ∧ (∀ n, g2 (K + n) = some a2) ∧ (∀ n, g3 (K + n) = some a3) ∧ (∀ n, g4 (K + n) = some a4) ∧ (∀ n, g5 (K + n) = some a5) := by
  obtain ⟨K, h⟩ := AE.up (AE.and (evae h0) (AE.and (evae h1) (AE.and (evae h2) (AE.and (evae h3) (AE.and (evae h4) (evae h5)))))); exact ⟨K, fun n => (h n).1, fun n => (h n).2.1, fun n => (h n).2.2.1, fun n => (h n).2.2.2.1, fun n => (h n).2.2.2.2.1, fun n => (h n).2.2.2.2.2⟩
theorem ev7 {α0 α1 α2 α3 α4 α5 α6 : Type} {g0 : Nat → Option α0} {g1 : Nat → Option α1} {g2 : Nat → Option α2} {g3 : Nat → Option α3} {g4 : Nat → Option α4} {g5 : Nat → Option α5} {g6 : Nat → Option α6} {a0 : α0} {a1 : α1} {a2 : α2} {a3 : α3} {a4 : α4} {a5 : α5} {a6 : α6} (h0 : Ev g0 a0) (h1 : Ev g1 a1) (h2 : Ev g2 a2) (h3 : Ev g3 a3) (h4 : Ev g4 a4) (h5 : Ev g5 a5) (h6 : Ev g6 a6) : ∃ K, (∀ n, g0 (K + n) = some a0) ∧ (∀ n, g1 (K + n) = some a1) ∧ (∀ n, g2 (K + n) = some a2) ∧ (∀ n, g3 (K + n) = some a3) ∧ (∀ n, g4 (K + n) = some a4) ∧ (∀ n, g5 (K + n) = some a5) ∧ (∀ n, g6 (K + n) = some a6) := by
  obtain ⟨K, h⟩ := AE.up (AE.and (evae h0) (AE.and (evae h1) (AE.and (evae h2) (AE.and (evae h3) (AE.and (evae h4) (AE.and (evae h5) (evae h6))))))); exact ⟨K, fun n => (h n).1, fun n => (h n).2.1, fun n => (h n).2.2.1, fun n => (h n).2.2.2.1, fun n => (h n).2.2.2.2.1, fun n => (h n).2.2.2.2.2.1, fun n => (h n).2.2.2.2.2.2⟩
theorem ev8 {α0 α1 α2 α3 α4 α5 α6 α7 : Type} {g0 : Nat → Option α0} {g1 : Nat → Option α1} {g2 : Nat → Option α2} {g3 : Nat → Option α3} {g4 : Nat → Option α4} {g5 : Nat → Option α5} {g6 : Nat → Option α6} {g7 : Nat → Option α7} {a0 : α0} {a1 : α1} {a2 : α2} {a3 : α3} {a4 : α4} {a5 : α5} {a6 : α6} {a7 : α7} (h0 : Ev g0 a0) (h1 : Ev g1 a1) (h2 : Ev g2 a2) (h3 : Ev g3 a3) (h4 : Ev g4 a4) (h5 : Ev g5 a5) (h6 : Ev g6 a6) (h7 : Ev g7 a7) : ∃ K, (∀ n, g0 (K + n) = some a0) ∧ (∀ n, g1 (K + n) = some a1) ∧ (∀ n, g2 (K + n) = some a2) ∧ (∀ n, g3 (K + n) = some a3) ∧ (∀ n, g4 (K + n) = some a4) ∧ (∀ n, g5 (K + n) = some a5) ∧ (∀ n, g6 (K + n) = some a6) ∧ (∀ n, g7 (K + n) = some a7) := by
  obtain ⟨K, h⟩ := AE.up (AE.and (evae h0) (AE.and (evae h1) (AE.and (evae h2) (AE.and (evae h3) (AE.and (evae h4) (AE.and (evae h5) (AE.and (evae h6) (evae h7)))))))); exact ⟨K, fun n => (h n).1, fun n => (h n).2.1, fun n => (h n).2.2.1, fun n => (h n).2.2.2.1, fun n => (h n).2.2.2.2.1, fun n => (h n).2.2.2.2.2.1, fun n => (h n).2.2.2.2.2.2.1, fun n => (h n).2.2.2.2.2.2.2⟩
theorem ev9 {α0 α1 α2 α3 α4 α5 α6 α7 α8 : Type} {g0 : Nat → Option α0} {g1 : Nat → Option α1} {g2 : Nat → Option α2} {g3 : Nat → Option α3} {g4 : Nat → Option α4} {g5 : Nat → Option α5} {g6 : Nat → Option α6} {g7 : Nat → Option α7} {g8 : Nat → Option α8} {a0 : α0} {a1 : α1} {a2 : α2} {a3 : α3} {a4 : α4} {a5 : α5} {a6 : α6} {a7 : α7} {a8 : α8} (h0 : Ev g0 a0) (h1 : Ev g1 a1) (h2 : Ev g2 a2) (h3 : Ev g3 a3) (h4 : Ev g4 a4) (h5 : Ev g5 a5) (h6 : Ev g6 a6) (h7 : Ev g7 a7) (h8 : Ev g8 a8) : ∃ K, (∀ n, g0 (K + n) = some a0) ∧ (∀ n, g1 (K + n) = some a1) ∧ (∀ n, g2 (K + n) = some a2) ∧ (∀ n, g3 (K + n) = some a3) ∧ (∀ n, g4 (K + n) = some a4) ∧ (∀ n, g5 (K + n) = some a5) ∧ (∀ n, g6 (K + n) = some a6) ∧ (∀ n, g7 (K + n) = some a7) ∧ (∀ n, g8 (K + n) = some a8) := by
  obtain ⟨K, h⟩ := AE.up (AE.and (evae h0) (AE.and (evae h1) (AE.and (evae h2) (AE.and (evae h3) (AE.and (evae h4) (AE.and (evae h5) (AE.and (evae h6) (AE.and (evae h7) (evae h8))))))))); exact ⟨K, fun n => (h n).1, fun n => (h n).2.1, fun n => (h n).2.2.1, fun n => (h n).2.2.2.1, fun n => (h n).2.2.2.2.1, fun n => (h n).2.2.2.2.2.1, fun n => (h n).2.2.2.2.2.2.1, fun n => (h n).2.2.2.2.2.2.2.1, fun n => (h n).2.2.2.2.2.2.2.2⟩
/-- a loop over a row of cells without a way out: the state is carried by g -/
theorem ev_fold {σ β : Type} (F : Nat → σ → Int → Option β) (l : List C) (g : σ → C → σ) (fin : σ → Option β) (r : β) (inv : Nat → σ → Prop)
    (step : ∀ k s (j : Nat), j < l.length → at_ l j ∈ l → inv j s → F (k + 1) s (j : Nat) = F k (g s (at_ l j)) ((j + 1 : Nat) : Int) ∧ inv (j + 1) (g s (at_ l j)))
    (done : ∀ k s, inv l.length s → F (k + 1) s (l.length : Nat) = fin s) (j0 : Nat) (hj0 : j0 ≤ l.length) (s0 : σ) (h0 : inv j0 s0) (hr : fin ((l.drop j0).foldl g s0) = some r) : Ev (fun k => F k s0 (j0 : Nat)) r := by
  have key : ∀ d j : Nat, j + d = l.length → ∀ s, inv j s → fin ((l.drop j).foldl g s) = some r → Ev (fun k => F k s (j : Nat)) r := by
    intro d
    induction d with
    | zero =>
      intro j hj s hs hr
      obtain rfl : j = l.length := by omega
      refine Ev.step (fun k => done k s hs) ?_
      rw [List.drop_length] at hr
      have hr' : fin s = some r := hr
      rw [hr']; exact Ev.now r
    | succ d ih =>
      intro j hj s hs hr
      have h : j < l.length := by omega
      refine Ev.step (fun k => (step k s j h (at_mem l j h) hs).1) (ih (j + 1) (by omega) _ ((step 0 s j h (at_mem l j h) hs).2) ?_)
      rw [drop_at l j h] at hr; exact hr
  exact key (l.length - j0) j0 (by omega) s0 h0 hr
/-! ### CellS -/
/-- the cells that a law's parameter stands for -/
def cs (l : List S69) : List C := l.map fun c => ⟨c.f0, c.f1⟩
theorem cs_length (l : List S69) : (cs l).length = l.length := by simp [cs]
theorem sz_cases (l : List S69) (hl : l.length ≤ 9223372036854775807) (b : Int) (hb : 0 ≤ b) (hb2 : b ≤ 1048576) :
    (b < (l.length : Int) ∧ laws_szCellS.f l b = some (-1)) ∨ ((l.length : Int) ≤ b ∧ laws_szCellS.f l b = some (b - (l.length : Int))) := by
  unfold laws_szCellS.f
  rw [w64 (by omega) (by omega)]
  by_cases h : b - (l.length : Int) < 0
  · exact Or.inl ⟨by omega, by rw [if_pos h]⟩
  · exact Or.inr ⟨by omega, by rw [if_neg h]⟩
theorem toCell_loop (l : List S69) (hl : l.length ≤ 1048576) : ∀ d j : Nat, j + d = l.length → ∀ x : List C, x.length = l.length → (∀ i, i < j → x[i]? = (cs l)[i]?) → Ev (fun k => laws_toCellS.l0 k l x (j : Nat)) (cs l) := by
  intro d
  induction d with
  | zero =>
    intro j hj x hx hi
    obtain rfl : x = cs l := by
      apply List.ext_getElem?
      intro i
      by_cases h : i < j
      · exact hi i h
      · rw [List.getElem?_eq_none (by omega), List.getElem?_eq_none (by rw [cs_length]; omega)]
    refine Ev.step (fun k => ?_) (Ev.now _)
    simp only [laws_toCellS.l0]; rw [if_neg (by omega)]
  | succ d ih =>
    intro j hj x hx hi
    have hc : (cs l)[j]? = some ⟨(rd_T69 l (j : Nat)).f0, (rd_T69 l (j : Nat)).f1⟩ := by
      unfold cs rd_T69; rw [List.getElem?_map, List.getD_eq_getElem?_getD, Int.toNat_natCast, List.getElem?_eq_getElem (by omega)]; rfl
    refine Ev.step (fun k => ?_) (ih (j + 1) (by omega) (x.set j ⟨(rd_T69 l (j : Nat)).f0, (rd_T69 l (j : Nat)).f1⟩) (by rw [List.length_set]; exact hx) ?_)
    · simp only [laws_toCellS.l0, laws_toCell.f, Option.bind_some]; rw [if_pos (by omega), if_pos (by omega), if_pos (by omega), w64 (by omega) (by omega)]; rfl
    · intro i h
      rw [List.getElem?_set]
      by_cases e : j = i
      · subst e; rw [if_pos rfl, if_pos (by omega), hc]
      · rw [if_neg e]; exact hi i (by omega)
theorem toCell_ev (l : List S69) (hl : l.length ≤ 1048576) : Ev (fun k => laws_toCellS.f k l) (cs l) := by
  unfold laws_toCellS.f
  simp only [if_pos (show 0 ≤ (l.length : Int) by omega), if_pos (show ((l.length : Int)).toNat ≤ 17592186044416 by omega)]
  exact toCell_loop l hl l.length 0 (by omega) _ (by simp) (by intro i h; omega)
theorem eqCell_loop (l : List C) (hl : l.length ≤ 140737488355328) : ∀ d j : Nat, j + d = l.length → Ev (fun k => laws_eqCellS.l0 k l l (j : Nat)) true := by
  intro d
  induction d with
  | zero =>
    intro j hj
    refine Ev.step (fun k => ?_) (Ev.now _)
    simp only [laws_eqCellS.l0]; rw [if_neg (by omega)]
  | succ d ih =>
    intro j hj
    refine Ev.step (fun k => ?_) (ih (j + 1) (by omega))
    simp only [laws_eqCellS.l0, laws_eqCell.f, if_true, Option.bind_some]; rw [if_pos (by omega), if_pos (by omega), if_pos (by omega), w64 (by omega) (by omega)]; rfl
theorem eqCell_ev (l : List C) (hl : l.length ≤ 140737488355328) : Ev (fun k => laws_eqCellS.f k l l) true := by
  unfold laws_eqCellS.f
  simp only [if_true]
  exact eqCell_loop l hl l.length 0 (by omega)
/-! ### In -/
theorem l01In_eq (a b c : Int) : spec_l01In.f a b c = some (decide (b ≤ a ∧ a ≤ c)) := by
  unfold spec_l01In.f; by_cases h : a ≥ b
  · rw [if_pos h]; simp [h]
  · rw [if_neg h]; simp; omega
theorem within_eq (a b c : Int) : impl_within.f a b c = some (decide (b ≤ a ∧ a ≤ c)) := l01In_eq a b c
/-! ### Shape -/
/-- the order of the cells: row by row -/
def ltC (a b : C) : Prop := a.f1 < b.f1 ∨ (a.f1 = b.f1 ∧ a.f0 < b.f0)
instance (a b : C) : Decidable (ltC a b) := by unfold ltC; exact inferInstance
def okC (a : C) : Prop := -100 ≤ a.f0 ∧ a.f0 ≤ 100 ∧ -100 ≤ a.f1 ∧ a.f1 ≤ 100
instance (a : C) : Decidable (okC a) := by unfold okC; exact inferInstance
/-- a shape: 1 to 40 cells within bounds, in the order of the cells -/
def Sh (l : List C) : Prop := 1 ≤ l.length ∧ l.length ≤ 40 ∧ (∀ i, i < l.length → okC (at_ l i)) ∧ (∀ i, i + 1 < l.length → ltC (at_ l i) (at_ l (i + 1)))
noncomputable def shB (l : List C) : Bool := @decide (Sh l) (Classical.propDecidable _)
theorem shB_true {l : List C} (h : Sh l) : shB l = true := @decide_eq_true _ (Classical.propDecidable _) h
theorem shB_false {l : List C} (h : ¬ Sh l) : shB l = false := @decide_eq_false _ (Classical.propDecidable _) h
theorem less_eq (a b c d : Int) : spec_l02Less.f a b c d = some (decide (ltC ⟨a, b⟩ ⟨c, d⟩)) := by
  unfold spec_l02Less.f ltC
  by_cases h : b < d
  · rw [if_pos h]; simp [h]
  · rw [if_neg h]
    by_cases e : b = d
    · rw [if_pos e]; simp [e]
    · rw [if_neg e]; simp [h, e]
theorem cellOk_eq (a b : Int) : spec_l02Cell.f a b = some (decide (okC ⟨a, b⟩)) := by
  unfold spec_l02Cell.f okC
  simp only [l01In_eq, Option.bind_some]
  by_cases h : -100 ≤ a ∧ a ≤ 100
  · simp [h]
  · simp only [decide_eq_false h, Bool.false_eq_true, if_false]; congr 1; exact (decide_eq_false (fun g => h ⟨g.1, g.2.1⟩)).symm
theorem isCo_eq (a : Int) : impl_isCoordinate.f a = some (decide (-100 ≤ a ∧ a ≤ 100)) := by
  unfold impl_isCoordinate.f; simp only [within_eq, Option.bind_some]
theorem cmp_eq (a b : Int) : cmp_Compare_int64.f a b = some (if a < b then -1 else if b < a then 1 else 0) := by
  unfold cmp_Compare_int64.f cmp_isNaN_int64.f
  simp only [bne_self_eq_false, Option.bind_some, Bool.false_eq_true, if_false]
  by_cases h : a < b
  · simp [h]
  · by_cases g : b < a <;> simp [h, g]
/-- -1, 0, 1: below, the same, above -/
def cmpC (a b : C) : Int := if ltC a b then -1 else if ltC b a then 1 else 0
theorem cmpCells_eq (a b c d : Int) : impl_compareCells.f a b c d = some (cmpC ⟨a, b⟩ ⟨c, d⟩) := by
  unfold impl_compareCells.f cmpC ltC
  simp only [cmp_eq, Option.bind_some]
  by_cases h : b < d
  · simp [h]
  · by_cases g : d < b
    · have : ¬ b = d := by omega
      have : ¬ d = b := by omega
      simp [*]
    · obtain rfl : b = d := by omega
      simp [h]
theorem cmpC_neg (a b : C) : (0 ≤ cmpC a b) ↔ ¬ ltC a b := by
  unfold cmpC; by_cases h : ltC a b
  · simp [h]
  · simp only [h, if_false, not_false_eq_true, iff_true]; split <;> omega
theorem specShape_loop (l : List C) (hl : l.length ≤ 1048576) : ∀ d j : Nat, j + d = l.length → (∀ i, i < j → okC (at_ l i)) → (∀ i, i + 1 < j → ltC (at_ l i) (at_ l (i + 1))) → Ev (fun k => spec_IsShape.l0 k l (j : Nat)) (shB l) := by
  intro d
  induction d with
  | zero =>
    intro j hj h1 h2
    obtain rfl : j = l.length := by omega
    refine Ev.step (fun k => ?_) (Ev.now _)
    simp only [spec_IsShape.l0, l01In_eq, Option.bind_some]; rw [if_neg (by omega)]
    congr 1
    by_cases h : 1 ≤ l.length ∧ l.length ≤ 40
    · rw [shB_true ⟨h.1, h.2, h1, h2⟩]; exact decide_eq_true (by omega)
    · rw [shB_false (fun g => h ⟨g.1, g.2.1⟩)]; exact decide_eq_false (by omega)
  | succ d ih =>
    intro j hj h1 h2
    by_cases c1 : okC (at_ l j)
    · have c1' : okC ⟨(at_ l j).f0, (at_ l j).f1⟩ := c1
      by_cases c2 : j = 0
      · subst c2
        refine Ev.step (fun k => ?_) (ih 1 (by omega) (fun i hi => by obtain rfl : i = 0 := (by omega); exact c1) (fun i hi => by omega))
        simp only [spec_IsShape.l0, rd_at, cellOk_eq, decide_eq_true c1', Option.bind_some, if_true]
        rw [if_pos (by omega), if_pos (by omega), if_neg (by omega), w64 (by omega) (by omega)]; rfl
      · obtain ⟨i, rfl⟩ : ∃ i, j = i + 1 := ⟨j - 1, by omega⟩
        have e : wrap64 (((i + 1 : Nat) : Int) - 1) = (i : Nat) := by rw [w64 (by omega) (by omega)]; omega
        by_cases c3 : ltC (at_ l i) (at_ l (i + 1))
        · have c3' : ltC ⟨(at_ l i).f0, (at_ l i).f1⟩ ⟨(at_ l (i + 1)).f0, (at_ l (i + 1)).f1⟩ := c3
          refine Ev.step (fun k => ?_) (ih (i + 1 + 1) (by omega) (fun x hx => if g : x = i + 1 then by rw [g]; exact c1 else h1 x (by omega)) (fun x hx => if g : x = i then by rw [g]; exact c3 else h2 x (by omega)))
          simp only [spec_IsShape.l0, rd_at, cellOk_eq, decide_eq_true c1', Option.bind_some, if_true, e, less_eq, decide_eq_true c3']
          rw [if_pos (by omega), if_pos (by omega), if_pos (by omega), if_pos (by omega), if_pos (by omega), w64 (by omega) (by omega)]; rfl
        · have c3' : ¬ ltC ⟨(at_ l i).f0, (at_ l i).f1⟩ ⟨(at_ l (i + 1)).f0, (at_ l (i + 1)).f1⟩ := c3
          rw [shB_false (fun g => c3 (g.2.2.2 i (by omega)))]
          refine Ev.step (fun k => ?_) (Ev.now _)
          simp only [spec_IsShape.l0, rd_at, cellOk_eq, decide_eq_true c1', Option.bind_some, if_true, e, less_eq, decide_eq_false c3', Bool.false_eq_true, if_false]
          rw [if_pos (by omega), if_pos (by omega), if_pos (by omega), if_pos (by omega), if_pos (by omega)]
    · have c1' : ¬ okC ⟨(at_ l j).f0, (at_ l j).f1⟩ := c1
      rw [shB_false (fun g => c1 (g.2.2.1 j (by omega)))]
      refine Ev.step (fun k => ?_) (Ev.now _)
      simp only [spec_IsShape.l0, rd_at, cellOk_eq, decide_eq_false c1', Option.bind_some, Bool.false_eq_true, if_false]
      rw [if_pos (by omega), if_pos (by omega)]
theorem specShape_ev (l : List C) (hl : l.length ≤ 1048576) : Ev (fun k => spec_IsShape.f k l) (shB l) :=
  specShape_loop l hl l.length 0 (by omega) (fun i hi => by omega) (fun i hi => by omega)
theorem implShape_loop (l : List C) (hl : l.length ≤ 1048576) : ∀ d j : Nat, j + d = l.length → (∀ i, i < j → okC (at_ l i)) → (∀ i, i + 1 < j → ltC (at_ l i) (at_ l (i + 1))) → Ev (fun k => impl_IsShape.l0 k l l (l.length : Int) (j : Nat)) (shB l) := by
  intro d
  induction d with
  | zero =>
    intro j hj h1 h2
    obtain rfl : j = l.length := by omega
    refine Ev.step (fun k => ?_) (Ev.now _)
    simp only [impl_IsShape.l0]; rw [if_neg (by omega)]
    by_cases h : 1 ≤ l.length ∧ l.length ≤ 40
    · rw [shB_true ⟨h.1, h.2, h1, h2⟩, if_pos (by omega)]; congr 1; exact decide_eq_true (by omega)
    · rw [shB_false (fun g => h ⟨g.1, g.2.1⟩)]
      by_cases g : (l.length : Int) ≥ 1
      · rw [if_pos g]; congr 1; exact decide_eq_false (by omega)
      · rw [if_neg g]
  | succ d ih =>
    intro j hj h1 h2
    by_cases c1 : okC (at_ l j)
    · have ca : -100 ≤ (at_ l j).f0 ∧ (at_ l j).f0 ≤ 100 := ⟨c1.1, c1.2.1⟩
      have cb : -100 ≤ (at_ l j).f1 ∧ (at_ l j).f1 ≤ 100 := c1.2.2
      by_cases c2 : j = 0
      · subst c2
        refine Ev.step (fun k => ?_) (ih 1 (by omega) (fun i hi => by obtain rfl : i = 0 := (by omega); exact c1) (fun i hi => by omega))
        simp only [impl_IsShape.l0, rd_at, isCo_eq, decide_eq_true ca, decide_eq_true cb, Option.bind_some, if_true]
        rw [if_pos (by omega), if_pos (by omega), if_pos (by omega), if_neg (by omega), w64 (by omega) (by omega)]; rfl
      · obtain ⟨i, rfl⟩ : ∃ i, j = i + 1 := ⟨j - 1, by omega⟩
        have e : wrap64 (((i + 1 : Nat) : Int) - 1) = (i : Nat) := by rw [w64 (by omega) (by omega)]; omega
        by_cases c3 : ltC (at_ l i) (at_ l (i + 1))
        · have c3' : ¬ (cmpC ⟨(at_ l i).f0, (at_ l i).f1⟩ ⟨(at_ l (i + 1)).f0, (at_ l (i + 1)).f1⟩ ≥ 0) := fun g => (cmpC_neg _ _).1 g c3
          refine Ev.step (fun k => ?_) (ih (i + 1 + 1) (by omega) (fun x hx => if g : x = i + 1 then by rw [g]; exact c1 else h1 x (by omega)) (fun x hx => if g : x = i then by rw [g]; exact c3 else h2 x (by omega)))
          simp only [impl_IsShape.l0, rd_at, isCo_eq, decide_eq_true ca, decide_eq_true cb, Option.bind_some, if_true, e, cmpCells_eq, if_neg c3']
          rw [if_pos (by omega), if_pos (by omega), if_pos (by omega), if_pos (by omega), if_pos (by omega), if_pos (by omega), w64 (by omega) (by omega)]; rfl
        · have c3' : cmpC ⟨(at_ l i).f0, (at_ l i).f1⟩ ⟨(at_ l (i + 1)).f0, (at_ l (i + 1)).f1⟩ ≥ 0 := (cmpC_neg _ _).2 c3
          rw [shB_false (fun g => c3 (g.2.2.2 i (by omega)))]
          refine Ev.step (fun k => ?_) (Ev.now _)
          simp only [impl_IsShape.l0, rd_at, isCo_eq, decide_eq_true ca, decide_eq_true cb, Option.bind_some, if_true, e, cmpCells_eq, if_pos c3']
          rw [if_pos (by omega), if_pos (by omega), if_pos (by omega), if_pos (by omega), if_pos (by omega), if_pos (by omega)]
    · rw [shB_false (fun g => c1 (g.2.2.1 j (by omega)))]
      refine Ev.step (fun k => ?_) (Ev.now _)
      simp only [impl_IsShape.l0, rd_at, isCo_eq, Option.bind_some]
      rw [if_pos (by omega), if_pos (by omega), if_pos (by omega)]
      by_cases ca : -100 ≤ (at_ l j).f0 ∧ (at_ l j).f0 ≤ 100
      · have cb : ¬ (-100 ≤ (at_ l j).f1 ∧ (at_ l j).f1 ≤ 100) := fun cb => c1 ⟨ca.1, ca.2, cb.1, cb.2⟩
        simp only [decide_eq_true ca, decide_eq_false cb, if_true, Bool.false_eq_true, if_false]
      · simp only [decide_eq_false ca, Bool.false_eq_true, if_false]
theorem implShape_ev (l : List C) (hl : l.length ≤ 1048576) : Ev (fun k => impl_IsShape.f k l) (shB l) :=
  implShape_loop l hl l.length 0 (by omega) (fun i hi => by omega) (fun i hi => by omega)
/-! ### ShUse -/
theorem mem_at {l : List C} {c : C} (h : c ∈ l) : ∃ i, i < l.length ∧ at_ l i = c := by
  obtain ⟨i, hi, e⟩ := List.mem_iff_getElem.1 h
  exact ⟨i, hi, (at_get l i hi).trans e⟩
theorem Sh.ok {l : List C} (h : Sh l) {c : C} (hc : c ∈ l) : okC c := by
  obtain ⟨i, hi, rfl⟩ := mem_at hc
  exact h.2.2.1 i hi
theorem ltC_trans {a b c : C} (h : ltC a b) (g : ltC b c) : ltC a c := by unfold ltC at *; omega
theorem ltC_irrefl {a : C} (h : ltC a a) : False := by unfold ltC at h; omega
theorem Sh.lt {l : List C} (h : Sh l) : ∀ i j, i < j → j < l.length → ltC (at_ l i) (at_ l j) := by
  intro i j
  induction j with
  | zero => intro h; omega
  | succ j ih =>
    intro hij hj
    by_cases e : i = j
    · subst e; exact h.2.2.2 i hj
    · exact ltC_trans (ih (by omega) (by omega)) (h.2.2.2 j hj)
theorem sh_cases (l : List C) : (Sh l ∧ shB l = true) ∨ (¬ Sh l ∧ shB l = false) := by
  by_cases h : Sh l
  · exact Or.inl ⟨h, shB_true h⟩
  · exact Or.inr ⟨h, shB_false h⟩
/-! ### Mark -/
/-- the marks m, m + 1, .. two to a cell -/
def mrk (m : Int) (n : Nat) : List C := (List.range n).map fun i => ⟨m + 2 * (i : Nat), m + 2 * (i : Nat) + 1⟩
theorem mrk_length (m : Int) (n : Nat) : (mrk m n).length = n := by simp [mrk]
theorem mrk_get (m : Int) (n i : Nat) (h : i < n) : (mrk m n)[i]? = some ⟨m + 2 * (i : Nat), m + 2 * (i : Nat) + 1⟩ := by
  unfold mrk; rw [List.getElem?_map, List.getElem?_range h]; rfl
theorem mrk_at (m : Int) (n i : Nat) (h : i < n) : at_ (mrk m n) i = ⟨m + 2 * (i : Nat), m + 2 * (i : Nat) + 1⟩ := by
  unfold at_; rw [List.getD_eq_getElem?_getD, mrk_get m n i h]; rfl
theorem markCell_loop (m : Int) (n : Nat) (hn : n ≤ 1048576) (hm : 0 ≤ m) (hm2 : m ≤ 9223372036850000000) : ∀ d j : Nat, j + d = n → ∀ x : List C, x.length = n → (∀ i, i < j → x[i]? = (mrk m n)[i]?) →
    Ev (fun k => laws_markCellS.l0 k x (m + 2 * (j : Nat)) (j : Nat)) (m + 2 * (n : Nat), mrk m n) := by
  intro d
  induction d with
  | zero =>
    intro j hj x hx hi
    obtain rfl : x = mrk m n := by
      apply List.ext_getElem?
      intro i
      by_cases h : i < j
      · exact hi i h
      · rw [List.getElem?_eq_none (by omega), List.getElem?_eq_none (by rw [mrk_length]; omega)]
    obtain rfl : j = n := by omega
    refine Ev.step (fun k => ?_) (Ev.now _)
    simp only [laws_markCellS.l0, mrk_length]; rw [if_neg (by omega)]
  | succ d ih =>
    intro j hj x hx hi
    refine Ev.step (fun k => ?_) (ih (j + 1) (by omega) (x.set j ⟨m + 2 * (j : Nat), m + 2 * (j : Nat) + 1⟩) (by rw [List.length_set]; exact hx) ?_)
    · simp only [laws_markCellS.l0, Option.bind_some]
      rw [if_pos (by omega), if_pos (by omega), w64 (x := (j : Int) + 1) (by omega) (by omega), w64 (x := m + 2 * (j : Nat) + 1) (by omega) (by omega), w64 (by omega) (by omega), rd_at, rd_at, List.set_set]
      have e : at_ (x.set ((j : Int).toNat) ⟨m + 2 * (j : Nat), (at_ x j).f1⟩) j = ⟨m + 2 * (j : Nat), (at_ x j).f1⟩ := by
        rw [at_get _ _ (by rw [List.length_set]; omega), Int.toNat_natCast, List.getElem_set_self]
      rw [e]
      show laws_markCellS.l0 k (x.set j ⟨m + 2 * (j : Nat), m + 2 * (j : Nat) + 1⟩) (m + 2 * (j : Nat) + 1 + 1) ((j : Int) + 1) = laws_markCellS.l0 k _ (m + 2 * ((j + 1 : Nat) : Int)) ((j + 1 : Nat) : Int)
      congr 1
      omega
    · intro i h
      rw [List.getElem?_set]
      by_cases e : j = i
      · subst e; rw [if_pos rfl, if_pos (by omega), mrk_get m n j (by omega)]
      · rw [if_neg e]; exact hi i (by omega)
theorem markCell_ev (l : List C) (m : Int) (hl : l.length ≤ 1048576) (hm : 0 ≤ m) (hm2 : m ≤ 9223372036850000000) : Ev (fun k => laws_markCellS.f k l m) (m + 2 * (l.length : Int), mrk m l.length) := by
  have h := markCell_loop m l.length hl hm hm2 l.length 0 (by omega) l rfl (by intro i h; omega)
  rw [show m + 2 * ((0 : Nat) : Int) = m from by omega] at h
  exact h
theorem heldCell_loop (m : Int) (n : Nat) (hn : n ≤ 1048576) (hm : 0 ≤ m) (hm2 : m ≤ 9223372036850000000) : ∀ d j : Nat, j + d = n → Ev (fun k => laws_heldCellS.l0 k (mrk m n) (m + 2 * (j : Nat)) (j : Nat)) (m + 2 * (n : Nat)) := by
  intro d
  induction d with
  | zero =>
    intro j hj
    obtain rfl : j = n := by omega
    refine Ev.step (fun k => ?_) (Ev.now _)
    simp only [laws_heldCellS.l0, mrk_length]; rw [if_neg (by omega)]
  | succ d ih =>
    intro j hj
    refine Ev.step (fun k => ?_) (ih (j + 1) (by omega))
    simp only [laws_heldCellS.l0, mrk_length, rd_at]
    rw [mrk_at m n j (by omega), if_pos (by omega), if_pos (by omega), if_pos rfl, w64 (x := m + 2 * (j : Nat) + 1) (by omega) (by omega), if_pos rfl, w64 (x := (j : Int) + 1) (by omega) (by omega), w64 (by omega) (by omega)]
    congr 1
    omega
theorem heldCell_ev (m : Int) (n : Nat) (hn : n ≤ 1048576) (hm : 0 ≤ m) (hm2 : m ≤ 9223372036850000000) : Ev (fun k => laws_heldCellS.f k (mrk m n) m) (m + 2 * (n : Nat)) := by
  have h := heldCell_loop m n hn hm hm2 n 0 (by omega)
  rw [show m + 2 * ((0 : Nat) : Int) = m from by omega] at h
  exact h
/-! ### Ix -/
/-- the place of a cell in a row, from a place on; -1 if it is not in it -/
def ixF : Nat → List C → Int → Int → Int
  | _, [], _, _ => -1
  | j, c :: r, x, y => if c.f0 = x ∧ c.f1 = y then (j : Int) else ixF (j + 1) r x y
theorem ixF_mem (x y : Int) : ∀ (r : List C) (j : Nat), 0 ≤ ixF j r x y ↔ (⟨x, y⟩ : C) ∈ r := by
  intro r
  induction r with
  | nil => intro j; simp [ixF]
  | cons c r ih =>
    intro j
    unfold ixF
    by_cases h : c.f0 = x ∧ c.f1 = y
    · rw [if_pos h]
      constructor
      · intro _; obtain ⟨rfl, rfl⟩ := h; exact List.mem_cons_self
      · intro _; omega
    · rw [if_neg h, ih (j + 1), List.mem_cons]
      constructor
      · exact fun g => Or.inr g
      · rintro (g | g)
        · exact absurd (by rw [← g]; exact ⟨rfl, rfl⟩) h
        · exact g
/-- the cell is in the row -/
def hasC (l : List C) (x y : Int) : Bool := decide (0 ≤ ixF 0 l x y)
theorem hasC_iff (l : List C) (x y : Int) : hasC l x y = true ↔ (⟨x, y⟩ : C) ∈ l := by unfold hasC; rw [decide_eq_true_eq]; exact ixF_mem x y l 0
theorem hasC_true {l : List C} {x y : Int} (h : (⟨x, y⟩ : C) ∈ l) : hasC l x y = true := (hasC_iff l x y).2 h
theorem hasC_false {l : List C} {x y : Int} (h : ¬ (⟨x, y⟩ : C) ∈ l) : hasC l x y = false := by
  cases e : hasC l x y with
  | false => rfl
  | true => exact absurd ((hasC_iff l x y).1 e) h
/-! ### IxI -/
theorem implIx_loop (l : List C) (x y : Int) (hl : l.length ≤ 1048576) : ∀ d j : Nat, j + d = l.length → Ev (fun k => slices_Index_Cell.l0 k l (l.length : Int) (j : Nat) x y) (ixF j (l.drop j) x y) := by
  intro d
  induction d with
  | zero =>
    intro j hj
    obtain rfl : j = l.length := by omega
    rw [List.drop_length]
    refine Ev.step (fun k => ?_) (Ev.now _)
    simp only [slices_Index_Cell.l0, ixF]; rw [if_neg (by omega)]
  | succ d ih =>
    intro j hj
    rw [drop_at l j (by omega)]
    have e : ∀ k, slices_Index_Cell.l0 (k + 1) l (l.length : Int) (j : Nat) x y = if (at_ l j).f0 = x ∧ (at_ l j).f1 = y then some (j : Int) else slices_Index_Cell.l0 k l (l.length : Int) ((j + 1 : Nat) : Int) x y := by
      intro k
      simp only [slices_Index_Cell.l0, rd_at, Bool.and_eq_true, beq_iff_eq]
      rw [if_pos (by omega), if_pos (by omega), if_pos (by omega), w64 (by omega) (by omega)]
      by_cases c : (at_ l j).f0 = x ∧ (at_ l j).f1 = y
      · rw [if_pos c, if_pos ⟨c.1.symm, c.2.symm⟩]
      · rw [if_neg c, if_neg (fun g => c ⟨g.1.symm, g.2.symm⟩)]; rfl
    unfold ixF
    by_cases c : (at_ l j).f0 = x ∧ (at_ l j).f1 = y
    · rw [if_pos c]; exact Ev.step (f := fun _ => some (j : Int)) (fun k => (e k).trans (if_pos c)) (Ev.now _)
    · rw [if_neg c]; exact Ev.step (fun k => (e k).trans (if_neg c)) (ih (j + 1) (by omega))
theorem contains_ev (l : List C) (x y : Int) (hl : l.length ≤ 1048576) : Ev (fun k => slices_Contains_Cell.f k l x y) (hasC l x y) := by
  unfold slices_Contains_Cell.f
  exact Ev.bind (f := fun _ t => some (decide (t ≥ 0))) (implIx_loop l x y hl l.length 0 (by omega)) (Ev.now _)
/-! ### Sort -/
/-- a cell laid into a row ahead of the first greater one -/
def insP (c : C) : List C → List C
  | [] => [c]
  | x :: r => if ltC c x then c :: x :: r else x :: insP c r
def sortP (l : List C) : List C := l.foldl (fun s c => insP c s) []
theorem insP_length (c : C) (l : List C) : (insP c l).length = l.length + 1 := by
  induction l with
  | nil => rfl
  | cons x r ih => unfold insP; split <;> simp [ih]
theorem insP_perm (c : C) (l : List C) : (insP c l).Perm (c :: l) := by
  induction l with
  | nil => exact List.Perm.refl _
  | cons x r ih =>
    unfold insP
    split
    · exact List.Perm.refl _
    · exact (ih.cons x).trans (List.Perm.swap c x r)
theorem foldl_insP_perm : ∀ (l s : List C), (l.foldl (fun s c => insP c s) s).Perm (s ++ l) := by
  intro l
  induction l with
  | nil => intro s; simp
  | cons c r ih =>
    intro s
    rw [List.foldl_cons]
    refine (ih _).trans ?_
    refine ((insP_perm c s).append_right r).trans ?_
    exact (List.perm_middle).symm
theorem sortP_perm (l : List C) : (sortP l).Perm l := by
  have := foldl_insP_perm l []
  rwa [List.nil_append] at this
theorem sortP_length (l : List C) : (sortP l).length = l.length := (sortP_perm l).length_eq
theorem mem_sortP {l : List C} {c : C} : c ∈ sortP l ↔ c ∈ l := (sortP_perm l).mem_iff
/-- in order; equals may come -/
def leC (a b : C) : Prop := ¬ ltC b a
theorem leC_trans {a b c : C} (h : leC a b) (g : leC b c) : leC a c := by unfold leC ltC at *; omega
theorem leC_total (a b : C) : leC a b ∨ leC b a := by unfold leC ltC; omega
theorem leC_anti {a b : C} (h : leC a b) (g : leC b a) : a = b := by
  unfold leC ltC at *
  have e0 : a.f0 = b.f0 := by omega
  have e1 : a.f1 = b.f1 := by omega
  cases a; cases b; cases e0; cases e1; rfl
theorem ltC_le {a b : C} (h : ltC a b) : leC a b := by unfold leC ltC at *; omega
theorem insP_sorted (c : C) (l : List C) (h : l.Pairwise leC) : (insP c l).Pairwise leC := by
  induction l with
  | nil => simp [insP]
  | cons x r ih =>
    rw [List.pairwise_cons] at h
    unfold insP
    by_cases hc : ltC c x
    · rw [if_pos hc, List.pairwise_cons]
      refine ⟨fun y hy => ?_, List.pairwise_cons.2 h⟩
      rcases List.mem_cons.1 hy with rfl | hy
      · exact ltC_le hc
      · exact leC_trans (ltC_le hc) (h.1 y hy)
    · rw [if_neg hc, List.pairwise_cons]
      refine ⟨fun y hy => ?_, ih h.2⟩
      rcases List.mem_cons.1 ((insP_perm c r).mem_iff.1 hy) with rfl | hy
      · exact hc
      · exact h.1 y hy
theorem sortP_sorted (l : List C) : (sortP l).Pairwise leC := by
  have : ∀ (l s : List C), s.Pairwise leC → (l.foldl (fun s c => insP c s) s).Pairwise leC := by
    intro l
    induction l with
    | nil => intro s h; exact h
    | cons c r ih => intro s h; exact ih _ (insP_sorted c s h)
  exact this l [] List.Pairwise.nil
theorem sorted_unique {l m : List C} (hl : l.Pairwise leC) (hm : m.Pairwise leC) (hp : l.Perm m) : l = m :=
  List.Perm.eq_of_pairwise (le := leC) (fun _ _ _ _ h1 h2 => leC_anti h1 h2) hl hm hp
theorem sortP_of_sorted {l : List C} (h : l.Pairwise leC) : sortP l = l := sorted_unique (sortP_sorted l) h (sortP_perm l)
theorem sortP_congr {l m : List C} (h : l.Perm m) : sortP l = sortP m := sorted_unique (sortP_sorted l) (sortP_sorted m) ((sortP_perm l).trans (h.trans (sortP_perm m).symm))
theorem Sh.sorted {l : List C} (h : Sh l) : l.Pairwise leC := by
  rw [List.pairwise_iff_getElem]
  intro i j hi hj hij
  have := h.lt i j hij hj
  rw [at_get l i hi, at_get l j hj] at this
  exact ltC_le this
/-! ### SortI -/
theorem merge_sortP (l : List C) : l.mergeSort (fun x y => !ltbC_ y x) = sortP l := by
  have e : (fun x y : C => !ltbC_ y x) = fun x y => @decide (leC x y) (Classical.propDecidable _) := by
    funext x y
    by_cases h : ltC y x
    · have h1 : ltbC_ y x = true := by unfold ltbC_; exact decide_eq_true h
      rw [h1]; exact (@decide_eq_false (leC x y) (Classical.propDecidable _) (fun g => g h)).symm
    · have h1 : ltbC_ y x = false := by unfold ltbC_; exact decide_eq_false h
      rw [h1]; exact (@decide_eq_true (leC x y) (Classical.propDecidable _) h).symm
  refine sorted_unique ?_ (sortP_sorted l) ((List.mergeSort_perm _ _).trans (sortP_perm l).symm)
  rw [e]
  have h := List.pairwise_mergeSort (le := fun x y : C => @decide (leC x y) (Classical.propDecidable _)) (fun a b c h1 h2 => @decide_eq_true _ (Classical.propDecidable _) (leC_trans (@of_decide_eq_true _ (Classical.propDecidable _) h1) (@of_decide_eq_true _ (Classical.propDecidable _) h2)))
    (fun a b => by
      rcases leC_total a b with g | g
      · rw [@decide_eq_true _ (Classical.propDecidable _) g]; rfl
      · rw [@decide_eq_true _ (Classical.propDecidable (leC b a)) g, Bool.or_true]) l
  exact h.imp fun g => @of_decide_eq_true _ (Classical.propDecidable _) g
theorem implSort_eq (l : List C) (hl : l.length ≤ 1048576) : impl_sorted.f l = some (sortP l) := by
  unfold impl_sorted.f slices_Clone_Cell.f
  rw [if_pos (by omega)]
  simp only [Option.bind_some, slices_SortFunc_Cell.f]
  rw [if_pos (by omega), Option.bind_some, merge_sortP]
/-! ### FoldE -/
/-- a loop over a row of cells whose rounds take rounds themselves -/
theorem ev_foldE {σ β : Type} (F : Nat → σ → Int → Option β) (l : List C) (g : σ → C → σ) (inv : Nat → σ → Prop)
    (step : ∀ s (j : Nat), j < l.length → at_ l j ∈ l → inv j s → inv (j + 1) (g s (at_ l j)) ∧ ∀ r, Ev (fun k => F k (g s (at_ l j)) ((j + 1 : Nat) : Int)) r → Ev (fun k => F k s (j : Nat)) r)
    (r : β) (j0 : Nat) (hj0 : j0 ≤ l.length) (s0 : σ) (h0 : inv j0 s0) (hr : inv l.length ((l.drop j0).foldl g s0) → Ev (fun k => F k ((l.drop j0).foldl g s0) (l.length : Nat)) r) : Ev (fun k => F k s0 (j0 : Nat)) r := by
  have key : ∀ d j : Nat, j + d = l.length → ∀ s, inv j s → (inv l.length ((l.drop j).foldl g s) → Ev (fun k => F k ((l.drop j).foldl g s) (l.length : Nat)) r) → Ev (fun k => F k s (j : Nat)) r := by
    intro d
    induction d with
    | zero =>
      intro j hj s hs hr
      obtain rfl : j = l.length := by omega
      rw [List.drop_length] at hr
      exact hr hs
    | succ d ih =>
      intro j hj s hs hr
      have h : j < l.length := by omega
      obtain ⟨h1, h2⟩ := step s j h (at_mem l j h) hs
      refine h2 r (ih (j + 1) (by omega) _ h1 ?_)
      rw [drop_at l j h] at hr; exact hr
  exact key (l.length - j0) j0 (by omega) s0 h0 hr
/-! ### Nb -/
/-- the four neighbours of a cell, in order -/
def nbrs (c : C) : List C := [⟨c.f0, c.f1 - 1⟩, ⟨c.f0 - 1, c.f1⟩, ⟨c.f0 + 1, c.f1⟩, ⟨c.f0, c.f1 + 1⟩]
def nbStep (l s : List C) (d : C) : List C := if hasC l d.f0 d.f1 = true then s else if hasC s d.f0 d.f1 = true then s else insP d s
/-- the cells beside a row of cells, in order -/
def nbP (l : List C) : List C := l.foldl (fun s c => (nbrs c).foldl (nbStep l) s) []
theorem insP_strict {d : C} {s : List C} (h : s.Pairwise ltC) (hd : ¬ d ∈ s) : (insP d s).Pairwise ltC := by
  induction s with
  | nil => simp [insP]
  | cons x r ih =>
    rw [List.pairwise_cons] at h
    unfold insP
    by_cases hc : ltC d x
    · rw [if_pos hc, List.pairwise_cons]
      refine ⟨fun y hy => ?_, List.pairwise_cons.2 h⟩
      rcases List.mem_cons.1 hy with rfl | hy
      · exact hc
      · exact ltC_trans hc (h.1 y hy)
    · rw [if_neg hc, List.pairwise_cons]
      refine ⟨fun y hy => ?_, ih h.2 fun g => hd (List.mem_cons_of_mem _ g)⟩
      rcases List.mem_cons.1 ((insP_perm d r).mem_iff.1 hy) with rfl | hy
      · have hne : x ≠ y := fun e => hd (by rw [e]; exact List.mem_cons_self)
        have : leC x y := hc
        by_cases g : ltC x y
        · exact g
        · exact absurd (leC_anti this g) hne
      · exact h.1 y hy
theorem nbStep_ok (l s : List C) (d : C) (h : s.Pairwise ltC) : (nbStep l s d).Pairwise ltC ∧ (∀ c, c ∈ nbStep l s d ↔ c ∈ s ∨ (c = d ∧ ¬ c ∈ l)) ∧ (nbStep l s d).length ≤ s.length + 1 := by
  unfold nbStep
  by_cases h1 : hasC l d.f0 d.f1 = true
  · rw [if_pos h1]
    have hm : d ∈ l := (hasC_iff l d.f0 d.f1).1 h1
    exact ⟨h, fun c => ⟨Or.inl, fun g => g.elim id fun g => absurd (by rw [g.1]; exact hm) g.2⟩, by omega⟩
  · rw [if_neg h1]
    have hm : ¬ d ∈ l := fun g => h1 ((hasC_iff l d.f0 d.f1).2 g)
    by_cases h2 : hasC s d.f0 d.f1 = true
    · rw [if_pos h2]
      have hs : d ∈ s := (hasC_iff s d.f0 d.f1).1 h2
      exact ⟨h, fun c => ⟨Or.inl, fun g => g.elim id fun g => by rw [g.1]; exact hs⟩, by omega⟩
    · rw [if_neg h2]
      have hs : ¬ d ∈ s := fun g => h2 ((hasC_iff s d.f0 d.f1).2 g)
      refine ⟨insP_strict h hs, fun c => ?_, by rw [insP_length]; omega⟩
      rw [(insP_perm d s).mem_iff, List.mem_cons]
      constructor
      · rintro (rfl | g)
        · exact Or.inr ⟨rfl, hm⟩
        · exact Or.inl g
      · rintro (g | g)
        · exact Or.inr g
        · exact Or.inl g.1
theorem nbFold_ok (l : List C) : ∀ (D s : List C), s.Pairwise ltC → (D.foldl (nbStep l) s).Pairwise ltC ∧ (∀ c, c ∈ D.foldl (nbStep l) s ↔ c ∈ s ∨ (c ∈ D ∧ ¬ c ∈ l)) ∧ (D.foldl (nbStep l) s).length ≤ s.length + D.length := by
  intro D
  induction D with
  | nil => intro s h; exact ⟨h, fun c => by simp, by simp⟩
  | cons d r ih =>
    intro s h
    obtain ⟨a1, a2, a3⟩ := nbStep_ok l s d h
    obtain ⟨b1, b2, b3⟩ := ih _ a1
    rw [List.foldl_cons]
    refine ⟨b1, fun c => ?_, by rw [List.length_cons]; omega⟩
    rw [b2, a2, List.mem_cons]
    constructor
    · rintro ((g | g) | g)
      · exact Or.inl g
      · exact Or.inr ⟨Or.inl g.1, g.2⟩
      · exact Or.inr ⟨Or.inr g.1, g.2⟩
    · rintro (g | ⟨g | g, k⟩)
      · exact Or.inl (Or.inl g)
      · exact Or.inl (Or.inr ⟨g, k⟩)
      · exact Or.inr ⟨g, k⟩
theorem nbOuter_ok (l : List C) : ∀ (m s : List C), s.Pairwise ltC → (m.foldl (fun s c => (nbrs c).foldl (nbStep l) s) s).Pairwise ltC ∧ (∀ c, c ∈ m.foldl (fun s c => (nbrs c).foldl (nbStep l) s) s ↔ c ∈ s ∨ ((∃ d ∈ m, c ∈ nbrs d) ∧ ¬ c ∈ l)) ∧ (m.foldl (fun s c => (nbrs c).foldl (nbStep l) s) s).length ≤ s.length + 4 * m.length := by
  intro m
  induction m with
  | nil => intro s h; exact ⟨h, fun c => by simp, by simp⟩
  | cons d r ih =>
    intro s h
    obtain ⟨a1, a2, a3⟩ := nbFold_ok l (nbrs d) s h
    obtain ⟨b1, b2, b3⟩ := ih _ a1
    rw [List.foldl_cons]
    refine ⟨b1, fun c => ?_, ?_⟩
    · rw [b2, a2]
      constructor
      · rintro ((g | g) | ⟨⟨e, he, g⟩, k⟩)
        · exact Or.inl g
        · exact Or.inr ⟨⟨d, List.mem_cons_self, g.1⟩, g.2⟩
        · exact Or.inr ⟨⟨e, List.mem_cons_of_mem _ he, g⟩, k⟩
      · rintro (g | ⟨⟨e, he, g⟩, k⟩)
        · exact Or.inl (Or.inl g)
        · rcases List.mem_cons.1 he with rfl | he
          · exact Or.inl (Or.inr ⟨g, k⟩)
          · exact Or.inr ⟨⟨e, he, g⟩, k⟩
    · have : (nbrs d).length = 4 := rfl
      rw [List.length_cons]; omega
theorem nbP_strict (l : List C) : (nbP l).Pairwise ltC := (nbOuter_ok l l [] List.Pairwise.nil).1
theorem nbP_mem (l : List C) (c : C) : c ∈ nbP l ↔ (∃ d ∈ l, c ∈ nbrs d) ∧ ¬ c ∈ l := by
  rw [show nbP l = l.foldl (fun s c => (nbrs c).foldl (nbStep l) s) [] from rfl, (nbOuter_ok l l [] List.Pairwise.nil).2.1]; simp
theorem nbP_length (l : List C) : (nbP l).length ≤ 4 * l.length := by
  have := (nbOuter_ok l l [] List.Pairwise.nil).2.2
  simp only [List.length_nil, Nat.zero_add] at this
  exact this
theorem strict_unique {l m : List C} (hl : l.Pairwise ltC) (hm : m.Pairwise ltC) (h : ∀ c, c ∈ l ↔ c ∈ m) : l = m := by
  have n1 : l.Nodup := hl.imp fun h e => by rw [e] at h; exact ltC_irrefl h
  have n2 : m.Nodup := hm.imp fun h e => by rw [e] at h; exact ltC_irrefl h
  exact sorted_unique (hl.imp ltC_le) (hm.imp ltC_le) ((List.perm_ext_iff_of_nodup n1 n2).2 h)
/-- the coordinates lie within b -/
def Wi (b : Int) (l : List C) : Prop := ∀ c ∈ l, -b ≤ c.f0 ∧ c.f0 ≤ b ∧ -b ≤ c.f1 ∧ c.f1 ≤ b
theorem nbrs_mem {c d : C} : c ∈ nbrs d ↔ (c.f0 = d.f0 ∧ (c.f1 = d.f1 - 1 ∨ c.f1 = d.f1 + 1)) ∨ (c.f1 = d.f1 ∧ (c.f0 = d.f0 - 1 ∨ c.f0 = d.f0 + 1)) := by
  have ext : ∀ x y : Int, c = (⟨x, y⟩ : C) ↔ c.f0 = x ∧ c.f1 = y := fun x y => ⟨fun e => by rw [e]; exact ⟨rfl, rfl⟩, fun e => by cases c; cases e.1; cases e.2; rfl⟩
  unfold nbrs
  simp only [List.mem_cons, List.not_mem_nil, or_false, ext]
  omega
theorem nbP_wi {b : Int} {l : List C} (h : Wi b l) : Wi (b + 1) (nbP l) := by
  intro c hc
  obtain ⟨⟨d, hd, hn⟩, _⟩ := (nbP_mem l c).1 hc
  have := h d hd
  rw [nbrs_mem] at hn
  omega
theorem nbP_ne {l : List C} (h0 : 0 < l.length) : 0 < (nbP l).length := by
  -- the cell above the least one
  obtain ⟨c, hc, hmin⟩ : ∃ c ∈ l, ∀ d ∈ l, c.f1 ≤ d.f1 := by
    have : ∀ m : List C, 0 < m.length → ∃ c ∈ m, ∀ d ∈ m, c.f1 ≤ d.f1 := by
      intro m
      induction m with
      | nil => intro h; exact absurd h (by simp)
      | cons x r ih =>
        intro _
        by_cases hr : 0 < r.length
        · obtain ⟨c, hc, hm⟩ := ih hr
          by_cases g : x.f1 ≤ c.f1
          · exact ⟨x, List.mem_cons_self, fun d hd => by
              rcases List.mem_cons.1 hd with rfl | hd
              · exact Int.le_refl _
              · have := hm d hd; omega⟩
          · exact ⟨c, List.mem_cons_of_mem _ hc, fun d hd => by
              rcases List.mem_cons.1 hd with rfl | hd
              · omega
              · exact hm d hd⟩
        · have e : r = [] := List.length_eq_zero_iff.1 (by omega)
          subst e
          exact ⟨x, List.mem_cons_self, fun d hd => by simp at hd; rw [hd]; exact Int.le_refl _⟩
    exact this l h0
  have hm : (⟨c.f0, c.f1 - 1⟩ : C) ∈ nbP l := by
    rw [nbP_mem]
    refine ⟨⟨c, hc, by simp [nbrs]⟩, fun g => ?_⟩
    have := hmin _ g
    simp only [] at this
    omega
  exact List.length_pos_of_mem hm
/-! ### Beside -/
/-- the neighbours that do not belong to the row, as they come -/
def outs (l : List C) (m : List C) : List C := (m.flatMap nbrs).filter fun d => !hasC l d.f0 d.f1
theorem bes_l1 (l : List C) (hl : l.length ≤ 10000) (i : Int) (ds : List C) (h4 : ds.length = 4) (r : List C) : ∀ d j : Nat, j + d = 4 → ∀ s : List C, s.length + d ≤ 1000000 →
    Ev (fun k => impl_beside.l0 k l (s ++ (ds.drop j).filter fun d => !hasC l d.f0 d.f1) l (l.length : Int) (wrap64 (i + 1))) r → Ev (fun k => impl_beside.l1 k l s l (l.length : Int) i ds (ds.length : Int) (j : Nat)) r := by
  intro d
  induction d with
  | zero =>
    intro j hj s _ g
    obtain rfl : j = 4 := by omega
    rw [show ds.drop 4 = [] from List.drop_eq_nil_of_le (by omega), List.filter_nil, List.append_nil] at g
    refine Ev.step (fun k => ?_) g
    simp only [impl_beside.l1]; rw [if_neg (by omega)]
  | succ d ih =>
    intro j hj s hs g
    have hjl : j < ds.length := by omega
    rw [drop_at ds j hjl] at g
    refine Ev.step (f := fun k => (slices_Contains_Cell.f k l (at_ ds j).f0 (at_ ds j).f1).bind fun t => if t = true then impl_beside.l1 k l s l (l.length : Int) i ds (ds.length : Int) ((j + 1 : Nat) : Int) else impl_beside.l1 k l (s ++ [at_ ds j]) l (l.length : Int) i ds (ds.length : Int) ((j + 1 : Nat) : Int)) (fun k => ?_) ?_
    · simp only [impl_beside.l1, rd_at]; rw [if_pos (by omega), if_pos (by omega), if_pos (by omega), w64 (x := (j : Int) + 1) (by omega) (by omega)]
      congr 1; funext t
      by_cases ht : t = true
      · rw [if_pos ht, if_pos ht]; rfl
      · rw [if_neg ht, if_neg ht, if_pos (by omega)]; rfl
    · refine Ev.bind (f := fun k t => if t = true then impl_beside.l1 k l s l (l.length : Int) i ds (ds.length : Int) ((j + 1 : Nat) : Int) else impl_beside.l1 k l (s ++ [at_ ds j]) l (l.length : Int) i ds (ds.length : Int) ((j + 1 : Nat) : Int)) (contains_ev l _ _ (by omega)) ?_
      cases hh : hasC l (at_ ds j).f0 (at_ ds j).f1
      · simp only [Bool.false_eq_true, if_false]
        refine ih (j + 1) (by omega) (s ++ [at_ ds j]) (by simp; omega) ?_
        rw [List.filter_cons, hh] at g
        simp only [Bool.not_false, if_true] at g
        rw [List.append_assoc]; exact g
      · simp only [if_true]
        refine ih (j + 1) (by omega) s (by omega) ?_
        rw [List.filter_cons, hh] at g
        simp only [Bool.not_true, Bool.false_eq_true, if_false] at g
        exact g
/-- without the repeats of a sorted row: strictly sorted, the same members -/
theorem ddN_ok (l : List C) (hs : l.Pairwise leC) : ∀ i, i ≤ l.length → (ddN_ l i).Pairwise ltC ∧ (∀ c, c ∈ ddN_ l i ↔ c ∈ l.take i) := by
  intro i
  induction i with
  | zero => intro _; exact ⟨List.Pairwise.nil, fun c => by simp [ddN_]⟩
  | succ i ih =>
    intro hi
    obtain ⟨h1, h2⟩ := ih (by omega)
    have htk : l.take (i + 1) = l.take i ++ [at_ l i] := by
      rw [List.take_add_one, List.getElem?_eq_getElem (by omega), at_get l i (by omega)]; rfl
    have hle : ∀ c ∈ l.take i, leC c (at_ l i) := by
      have hq : (l.take (i + 1)).Pairwise leC := hs.sublist (List.take_sublist _ _)
      rw [htk, List.pairwise_append] at hq
      exact fun c hc => hq.2.2 c hc _ (by simp)
    have same : ∀ a b : C, sameC_ a b = true ↔ a = b := by
      intro a b
      unfold sameC_
      rw [Bool.and_eq_true, beq_iff_eq, beq_iff_eq]
      exact ⟨fun h => by cases a; cases b; cases h.1; cases h.2; rfl, fun h => by rw [h]; exact ⟨rfl, rfl⟩⟩
    show (if i ≠ 0 ∧ sameC_ (rd_T57 l (i : Nat)) (rd_T57 l ((i - 1 : Nat) : Int)) = true then ddN_ l i else ddN_ l i ++ [rd_T57 l (i : Nat)]).Pairwise ltC ∧ ∀ c, c ∈ (if i ≠ 0 ∧ sameC_ (rd_T57 l (i : Nat)) (rd_T57 l ((i - 1 : Nat) : Int)) = true then ddN_ l i else ddN_ l i ++ [rd_T57 l (i : Nat)]) ↔ c ∈ l.take (i + 1)
    rw [rd_at, rd_at, htk]
    by_cases hc : i ≠ 0 ∧ sameC_ (at_ l i) (at_ l (i - 1)) = true
    · rw [if_pos hc]
      have e := (same _ _).1 hc.2
      have hm : at_ l i ∈ l.take i := by
        rw [e, List.mem_take_iff_getElem]
        exact ⟨i - 1, by omega, (at_get l (i - 1) (by omega)).symm⟩
      refine ⟨h1, fun c => ?_⟩
      rw [h2, List.mem_append, List.mem_singleton]
      exact ⟨Or.inl, fun g => g.elim id fun g => by rw [g]; exact hm⟩
    · rw [if_neg hc]
      have hni : ¬ at_ l i ∈ l.take i := by
        intro hm
        -- the last one of the first i is between
        have h0 : i ≠ 0 := fun h => by rw [h] at hm; simp at hm
        have hl1 : leC (at_ l i) (at_ l (i - 1)) := by
          obtain ⟨n, hn, e⟩ := List.mem_take_iff_getElem.1 hm
          rw [← e]
          by_cases g : n = i - 1
          · subst g; rw [at_get l _ (by omega)]; unfold leC; exact fun h => ltC_irrefl h
          · have := (List.pairwise_iff_getElem.1 hs) n (i - 1) (by omega) (by omega) (by omega)
            rw [at_get l (i - 1) (by omega)]; exact this
        have hl2 : leC (at_ l (i - 1)) (at_ l i) := hle _ (by rw [List.mem_take_iff_getElem]; exact ⟨i - 1, by omega, (at_get l (i - 1) (by omega)).symm⟩)
        exact hc ⟨h0, (same _ _).2 (leC_anti hl1 hl2)⟩
      refine ⟨?_, fun c => ?_⟩
      · rw [List.pairwise_append]
        refine ⟨h1, List.pairwise_singleton _ _, fun a ha b hb => ?_⟩
        rw [List.mem_singleton] at hb
        subst hb
        have ha2 := (h2 a).1 ha
        by_cases g : ltC a (at_ l i)
        · exact g
        · exact absurd (by rw [← leC_anti (hle a ha2) g]; exact ha2) hni
      · rw [List.mem_append, h2, List.mem_append]
/-! ### IxS -/
theorem specIx_loop (l : List C) (x y : Int) (hl : l.length ≤ 1048576) : ∀ d j : Nat, j + d = l.length → Ev (fun k => spec_l02Index.l0 k l (j : Nat) x y) (ixF j (l.drop j) x y) := by
  intro d
  induction d with
  | zero =>
    intro j hj
    obtain rfl : j = l.length := by omega
    rw [List.drop_length]
    refine Ev.step (fun k => ?_) (Ev.now _)
    simp only [spec_l02Index.l0, ixF]; rw [if_neg (by omega)]
  | succ d ih =>
    intro j hj
    rw [drop_at l j (by omega)]
    have e : ∀ k, spec_l02Index.l0 (k + 1) l (j : Nat) x y = if (at_ l j).f0 = x ∧ (at_ l j).f1 = y then some (j : Int) else spec_l02Index.l0 k l ((j + 1 : Nat) : Int) x y := by
      intro k
      simp only [spec_l02Index.l0, rd_at, Bool.and_eq_true, beq_iff_eq]
      rw [if_pos (by omega), if_pos (by omega), w64 (by omega) (by omega)]; rfl
    unfold ixF
    by_cases c : (at_ l j).f0 = x ∧ (at_ l j).f1 = y
    · rw [if_pos c]; exact Ev.step (f := fun _ => some (j : Int)) (fun k => (e k).trans (if_pos c)) (Ev.now _)
    · rw [if_neg c]; exact Ev.step (fun k => (e k).trans (if_neg c)) (ih (j + 1) (by omega))
theorem specIx_ev (l : List C) (x y : Int) (hl : l.length ≤ 1048576) : Ev (fun k => spec_l02Index.f k l x y) (ixF 0 l x y) :=
  specIx_loop l x y hl l.length 0 (by omega)
/-! ### SortS -/
theorem ins_loop (l : List C) (x y : Int) (hl : l.length ≤ 1048576) : ∀ d j : Nat, j + d = l.length → ∀ acc : List C, acc.length ≤ j + 1 →
    Ev (fun k => spec_l02Insert.l0 k l acc true (j : Nat) x y) (acc ++ l.drop j) ∧ (acc.length ≤ j → Ev (fun k => spec_l02Insert.l0 k l acc false (j : Nat) x y) (acc ++ insP ⟨x, y⟩ (l.drop j))) := by
  intro d
  induction d with
  | zero =>
    intro j hj acc ha
    obtain rfl : j = l.length := by omega
    rw [List.drop_length]
    refine ⟨?_, fun _ => ?_⟩
    · refine Ev.step (fun k => ?_) (Ev.now _)
      simp only [spec_l02Insert.l0, if_true, List.append_nil]; rw [if_neg (by omega)]
    · refine Ev.step (fun k => ?_) (Ev.now _)
      simp only [spec_l02Insert.l0, insP, Bool.false_eq_true, if_false]; rw [if_neg (by omega), if_pos (by omega)]
  | succ d ih =>
    intro j hj acc ha
    have hjl : j < l.length := by omega
    rw [drop_at l j hjl]
    have ej : wrap64 ((j : Int) + 1) = ((j + 1 : Nat) : Int) := by rw [w64 (by omega) (by omega)]; rfl
    refine ⟨?_, fun hb => ?_⟩
    · have g := (ih (j + 1) (by omega) (acc ++ [at_ l j]) (by simp; omega)).1
      rw [List.append_assoc] at g
      refine Ev.step (fun k => ?_) g
      simp only [spec_l02Insert.l0, rd_at, if_true]
      rw [if_pos (by omega), if_pos (by omega), if_pos (by omega), ej]
    · by_cases c : ltC ⟨x, y⟩ (at_ l j)
      · have c' : ltC ⟨x, y⟩ ⟨(at_ l j).f0, (at_ l j).f1⟩ := c
        have g := (ih (j + 1) (by omega) ((acc ++ [⟨x, y⟩]) ++ [at_ l j]) (by simp; omega)).1
        unfold insP
        rw [if_pos c]
        rw [List.append_assoc, List.append_assoc] at g
        refine Ev.step (fun k => ?_) g
        simp only [spec_l02Insert.l0, rd_at, less_eq, Option.bind_some, Bool.false_eq_true, if_false, decide_eq_true c', if_true]
        rw [if_pos (by omega), if_pos (by omega), if_pos (by omega), if_pos (by simp; omega), ej, List.append_assoc]
      · have c' : ¬ ltC ⟨x, y⟩ ⟨(at_ l j).f0, (at_ l j).f1⟩ := c
        have g := (ih (j + 1) (by omega) (acc ++ [at_ l j]) (by simp; omega)).2 (by simp; omega)
        unfold insP
        rw [if_neg c]
        rw [List.append_assoc] at g
        refine Ev.step (fun k => ?_) g
        simp only [spec_l02Insert.l0, rd_at, less_eq, Option.bind_some, Bool.false_eq_true, if_false, decide_eq_false c']
        rw [if_pos (by omega), if_pos (by omega), if_pos (by omega), ej]
theorem specIns_ev (l : List C) (x y : Int) (hl : l.length ≤ 1048576) : Ev (fun k => spec_l02Insert.f k l x y) (insP ⟨x, y⟩ l) :=
  (ins_loop l x y hl l.length 0 (by omega) [] (by simp)).2 (by simp)
theorem specSort_ev (l : List C) (hl : l.length ≤ 1048570) : Ev (fun k => spec_l02Sort.f k l) (sortP l) := by
  unfold spec_l02Sort.f
  refine ev_foldE (fun k s j => spec_l02Sort.l0 k l s j) l (fun s c => insP c s) (fun j s => s.length = j) ?_ _ 0 (by omega) [] rfl ?_
  · intro s j hj hm hs
    refine ⟨by rw [insP_length]; omega, fun r hr => ?_⟩
    refine Ev.step (f := fun k => (spec_l02Insert.f k s (at_ l j).f0 (at_ l j).f1).bind fun t => spec_l02Sort.l0 k l t ((j + 1 : Nat) : Int)) (fun k => ?_) ?_
    · simp only [spec_l02Sort.l0, rd_at]; rw [if_pos (by omega), if_pos (by omega), w64 (by omega) (by omega)]; rfl
    · exact Ev.bind (f := fun k t => spec_l02Sort.l0 k l t ((j + 1 : Nat) : Int)) (specIns_ev s _ _ (by omega)) hr
  · intro hs
    refine Ev.step (fun k => ?_) (Ev.now _)
    simp only [spec_l02Sort.l0]; rw [if_neg (by omega)]; rfl
/-! ### NbS -/
theorem nb_l1 (l : List C) (hl : l.length ≤ 100000) (i : Int) (ds : List C) (h4 : ds.length = 4) (r : List C) : ∀ d j : Nat, j + d = 4 → ∀ s : List C, s.length + d ≤ 1000000 →
    Ev (fun k => spec_l02Neighbours.l0 k l ((ds.drop j).foldl (nbStep l) s) (wrap64 (i + 1))) r → Ev (fun k => spec_l02Neighbours.l1 k l s i ds (j : Nat)) r := by
  intro d
  induction d with
  | zero =>
    intro j hj s _ g
    obtain rfl : j = 4 := by omega
    rw [show ds.drop 4 = [] from List.drop_eq_nil_of_le (by omega)] at g
    refine Ev.step (fun k => ?_) g
    simp only [spec_l02Neighbours.l1]; rw [if_neg (by omega)]; rfl
  | succ d ih =>
    intro j hj s hs g
    have hjl : j < ds.length := by omega
    rw [drop_at ds j hjl, List.foldl_cons] at g
    have e : ∀ k, spec_l02Neighbours.l1 (k + 1) l s i ds (j : Nat) = (spec_l02Index.f k l (at_ ds j).f0 (at_ ds j).f1).bind fun t => if t < 0 then ((spec_l02Index.f k s (at_ ds j).f0 (at_ ds j).f1).bind fun t => if t < 0 then ((spec_l02Insert.f k s (at_ ds j).f0 (at_ ds j).f1).bind fun t => spec_l02Neighbours.l1 k l t i ds ((j + 1 : Nat) : Int)) else spec_l02Neighbours.l1 k l s i ds ((j + 1 : Nat) : Int)) else spec_l02Neighbours.l1 k l s i ds ((j + 1 : Nat) : Int) := by
      intro k
      simp only [spec_l02Neighbours.l1, rd_at]; rw [if_pos (by omega), if_pos (by omega), if_pos (by omega), w64 (x := (j : Int) + 1) (by omega) (by omega)]; rfl
    refine Ev.step e ?_
    refine Ev.bind (f := fun k t => if t < 0 then ((spec_l02Index.f k s (at_ ds j).f0 (at_ ds j).f1).bind fun t => if t < 0 then ((spec_l02Insert.f k s (at_ ds j).f0 (at_ ds j).f1).bind fun t => spec_l02Neighbours.l1 k l t i ds ((j + 1 : Nat) : Int)) else spec_l02Neighbours.l1 k l s i ds ((j + 1 : Nat) : Int)) else spec_l02Neighbours.l1 k l s i ds ((j + 1 : Nat) : Int)) (specIx_ev l _ _ (by omega)) ?_
    by_cases c1 : 0 ≤ ixF 0 l (at_ ds j).f0 (at_ ds j).f1
    · have hh : hasC l (at_ ds j).f0 (at_ ds j).f1 = true := decide_eq_true c1
      simp only [if_neg (show ¬ ixF 0 l (at_ ds j).f0 (at_ ds j).f1 < 0 by omega)]
      have e2 : nbStep l s (at_ ds j) = s := by unfold nbStep; rw [if_pos hh]
      rw [e2] at g
      exact ih (j + 1) (by omega) s (by omega) g
    · have hh : ¬ hasC l (at_ ds j).f0 (at_ ds j).f1 = true := by unfold hasC; rw [decide_eq_true_eq]; exact c1
      simp only [if_pos (show ixF 0 l (at_ ds j).f0 (at_ ds j).f1 < 0 by omega)]
      refine Ev.bind (f := fun k t => if t < 0 then ((spec_l02Insert.f k s (at_ ds j).f0 (at_ ds j).f1).bind fun t => spec_l02Neighbours.l1 k l t i ds ((j + 1 : Nat) : Int)) else spec_l02Neighbours.l1 k l s i ds ((j + 1 : Nat) : Int)) (specIx_ev s _ _ (by omega)) ?_
      by_cases c2 : 0 ≤ ixF 0 s (at_ ds j).f0 (at_ ds j).f1
      · have h2 : hasC s (at_ ds j).f0 (at_ ds j).f1 = true := decide_eq_true c2
        simp only [if_neg (show ¬ ixF 0 s (at_ ds j).f0 (at_ ds j).f1 < 0 by omega)]
        have e2 : nbStep l s (at_ ds j) = s := by unfold nbStep; rw [if_neg hh, if_pos h2]
        rw [e2] at g
        exact ih (j + 1) (by omega) s (by omega) g
      · have h2 : ¬ hasC s (at_ ds j).f0 (at_ ds j).f1 = true := by unfold hasC; rw [decide_eq_true_eq]; exact c2
        simp only [if_pos (show ixF 0 s (at_ ds j).f0 (at_ ds j).f1 < 0 by omega)]
        have e2 : nbStep l s (at_ ds j) = insP (at_ ds j) s := by unfold nbStep; rw [if_neg hh, if_neg h2]
        rw [e2] at g
        refine Ev.bind (f := fun k t => spec_l02Neighbours.l1 k l t i ds ((j + 1 : Nat) : Int)) (specIns_ev s _ _ (by omega)) ?_
        exact ih (j + 1) (by omega) _ (by rw [insP_length]; omega) g
theorem specNb_ev (l : List C) (hl : l.length ≤ 10000) (hw : Wi 1000000 l) : Ev (fun k => spec_l02Neighbours.f k l) (nbP l) := by
  unfold spec_l02Neighbours.f
  refine ev_foldE (fun k s j => spec_l02Neighbours.l0 k l s j) l (fun s c => (nbrs c).foldl (nbStep l) s) (fun j s => s.Pairwise ltC ∧ s.length ≤ 4 * j) ?_ _ 0 (by omega) [] ⟨List.Pairwise.nil, by simp⟩ ?_
  · intro s j hj hm ⟨hs1, hs2⟩
    obtain ⟨a1, _, a3⟩ := nbFold_ok l (nbrs (at_ l j)) s hs1
    have a4 : (nbrs (at_ l j)).length = 4 := rfl
    refine ⟨⟨a1, by omega⟩, fun r hr => ?_⟩
    have w := hw _ hm
    refine Ev.step (f := fun k => spec_l02Neighbours.l1 k l s (j : Nat) (nbrs (at_ l j)) ((0 : Nat) : Int)) (fun k => ?_) ?_
    · simp only [spec_l02Neighbours.l0, rd_at, spec_l02Around.f, Option.bind_some]
      rw [if_pos (by omega), if_pos (by omega), w64 (x := (at_ l j).f1 - 1) (by omega) (by omega), w64 (x := (at_ l j).f0 - 1) (by omega) (by omega), w64 (x := (at_ l j).f0 + 1) (by omega) (by omega), w64 (x := (at_ l j).f1 + 1) (by omega) (by omega)]; rfl
    · refine nb_l1 l (by omega) _ _ rfl r 4 0 (by omega) s (by omega) ?_
      rw [w64 (by omega) (by omega)]
      exact hr
  · intro hs
    refine Ev.step (fun k => ?_) (Ev.now _)
    simp only [spec_l02Neighbours.l0]; rw [if_neg (by omega)]; rfl
/-! ### BesideP -/
theorem implBeside_ev (l : List C) (hs : Sh l) : Ev (fun k => impl_beside.f k l) (nbP l) := by
  have h40 := hs.2.1
  have hl : l.length ≤ 10000 := by omega
  have key : ∀ (m s : List C), s ++ outs l m = s ++ outs l m := fun _ _ => rfl
  unfold impl_beside.f
  refine ev_foldE (fun k s j => impl_beside.l0 k l s l (l.length : Int) j) l (fun s c => s ++ (nbrs c).filter fun d => !hasC l d.f0 d.f1) (fun j s => s.length ≤ 4 * j) ?_ _ 0 (by omega) [] (by simp) ?_
  · intro s j hj hm hsl
    have a4 : (nbrs (at_ l j)).length = 4 := rfl
    have a5 := List.length_filter_le (fun d : C => !hasC l d.f0 d.f1) (nbrs (at_ l j))
    refine ⟨by rw [List.length_append]; omega, fun r hr => ?_⟩
    have w := hs.ok hm
    unfold okC at w
    refine Ev.step (f := fun k => impl_beside.l1 k l s l (l.length : Int) (j : Nat) (nbrs (at_ l j)) ((nbrs (at_ l j)).length : Int) ((0 : Nat) : Int)) (fun k => ?_) ?_
    · simp only [impl_beside.l0, rd_at, impl_around.f, Option.bind_some]
      rw [if_pos (by omega), if_pos (by omega), if_pos (by omega), w64 (x := (at_ l j).f1 - 1) (by omega) (by omega), w64 (x := (at_ l j).f0 - 1) (by omega) (by omega), w64 (x := (at_ l j).f0 + 1) (by omega) (by omega), w64 (x := (at_ l j).f1 + 1) (by omega) (by omega)]; rfl
    · refine bes_l1 l hl _ _ rfl r 4 0 (by omega) s (by omega) ?_
      rw [w64 (by omega) (by omega)]
      exact hr
  · intro hlen
    rw [List.drop_zero] at hlen ⊢
    have hf : ∀ (m s : List C), m.foldl (fun s c => s ++ (nbrs c).filter fun d => !hasC l d.f0 d.f1) s = s ++ outs l m := by
      intro m
      induction m with
      | nil => intro s; simp [outs]
      | cons c r ih => intro s; rw [List.foldl_cons, ih, List.append_assoc]; unfold outs; rw [List.flatMap_cons, List.filter_append]
    rw [hf, List.nil_append] at hlen ⊢
    have hsl := sortP_length (outs l l)
    refine Ev.step (f := fun _ => some (nbP l)) (fun k => ?_) (Ev.now _)
    simp only [impl_beside.l0, slices_SortFunc_Cell.f, slices_Compact_Cell.f]
    rw [if_neg (by omega), if_pos (by omega), Option.bind_some, Option.bind_some, merge_sortP]
    congr 1
    obtain ⟨d1, d2⟩ := ddN_ok (sortP (outs l l)) (sortP_sorted _) (sortP (outs l l)).length (Nat.le_refl _)
    refine strict_unique d1 (nbP_strict l) fun c => ?_
    rw [d2, List.take_length, mem_sortP, nbP_mem]
    unfold outs
    rw [List.mem_filter, List.mem_flatMap]
    constructor
    · rintro ⟨h, g⟩
      refine ⟨h, fun k => ?_⟩
      rw [hasC_true (l := l) (x := c.f0) (y := c.f1) k] at g
      simp at g
    · rintro ⟨h, g⟩
      exact ⟨h, by rw [hasC_false (l := l) (x := c.f0) (y := c.f1) g]; rfl⟩
noncomputable def noP (l : List C) : List C × Int := if shB l = true then (nbP l, 0) else ([], 1)
theorem noP_length (l : List C) (h : l.length ≤ 1048576) : (noP l).1.length ≤ 1048576 := by
  unfold noP
  rcases sh_cases l with ⟨hs, hb⟩ | ⟨hs, hb⟩
  · rw [if_pos hb]; show (nbP l).length ≤ _; have := nbP_length l; have := hs.2.1; omega
  · rw [hb]; exact Nat.zero_le _
theorem specNo_ev (l : List C) (hl : l.length ≤ 1048576) : Ev (fun k => spec_NeighboursOf.f k l) (noP l) := by
  unfold spec_NeighboursOf.f noP
  refine Ev.bind (f := fun k t768 => (if t768 = true then ((spec_l02Neighbours.f k l).bind fun t769 => (some (t769, 0))) else (some (([] : List C), 1)))) (specShape_ev l hl) ?_
  rcases sh_cases l with ⟨hs, hb⟩ | ⟨hs, hb⟩
  · rw [hb]; simp only [if_true]
    exact Ev.bind (f := fun _ t769 => some (t769, (0 : Int))) (specNb_ev l (by have := hs.2.1; omega) (fun c hc => by have := hs.ok hc; unfold okC at this; omega)) (Ev.now _)
  · rw [hb]; simp only [Bool.false_eq_true, if_false]; exact Ev.now _
theorem implNo_ev (l : List C) (hl : l.length ≤ 1048576) : Ev (fun k => impl_NeighboursOf.f k l) (noP l) := by
  unfold impl_NeighboursOf.f noP
  refine Ev.bind (f := fun k t768 => (if t768 = true then ((impl_beside.f k l).bind fun t769 => (some (t769, 0))) else (some (([] : List C), 1)))) (implShape_ev l hl) ?_
  rcases sh_cases l with ⟨hs, hb⟩ | ⟨hs, hb⟩
  · rw [hb]; simp only [if_true]
    exact Ev.bind (f := fun _ t769 => some (t769, (0 : Int))) (implBeside_ev l hs) (Ev.now _)
  · rw [hb]; simp only [Bool.false_eq_true, if_false]; exact Ev.now _
end Go.Proofs.Ytbfmocohknadkaa.M
namespace Go.Proofs.Ytbfmocohknadkaa.Pure
set_option linter.unusedVariables false
set_option linter.unusedSimpArgs false
open Go.RowKit Go.Proofs.Ytbfmocohknadkaa.X Go.Proofs.YtbfmocohknadkaaW.PrintWords Go.Proofs.YtbfmocohknadkaaW.PrintLast Go.Proofs.YtbfmocohknadkaaW.PrintMore Go.Proofs.Ytbfmocohknadkaa.M
theorem FnExactNeighboursOf : laws_FnExactNeighboursOf.Pure := by
  intro l hl hw
  rcases sz_cases l hl 1048576 (by omega) (by omega) with ⟨h, e⟩ | ⟨h, e⟩
  · exact ⟨0, by simp only [laws_FnExactNeighboursOf.f, e, Option.bind_some]; rfl⟩
  · have h0 : ¬ (1048576 - (l.length : Int) < 0) := by omega
    have hc := cs_length l
    have hr := noP_length (cs l) (by omega)
    obtain ⟨K, e1, e2, e3, e4, e5, e6, e7, e8⟩ := ev8 (toCell_ev l (by omega)) (eqCell_ev (cs l) (by omega)) (specNo_ev (cs l) (by omega)) (implNo_ev (cs l) (by omega)) (eqCell_ev (noP (cs l)).1 (by omega)) (markCell_ev (cs l) 1 (by omega) (by omega) (by omega)) (markCell_ev (noP (cs l)).1 1 hr (by omega) (by omega)) (heldCell_ev 1 (noP (cs l)).1.length hr (by omega) (by omega))
    have n1 : ¬ (1 + 2 * ((cs l).length : Int) < 0) := by omega
    have n2 : ¬ (1 + 2 * ((noP (cs l)).1.length : Int) < 0) := by omega
    refine ⟨K + 4, ?_⟩
    simp only [laws_FnExactNeighboursOf.f, e, Option.bind_some, if_neg h0, e1, e2, e3, e4, e5, e6, e7, e8, bne_self_eq_false, Bool.false_eq_true, if_false, if_true, laws_FnExactNeighboursOf.j0, laws_FnExactNeighboursOf.j1, laws_FnExactNeighboursOf.j2, if_neg n1, if_neg n2]
end Go.Proofs.Ytbfmocohknadkaa.Pure
