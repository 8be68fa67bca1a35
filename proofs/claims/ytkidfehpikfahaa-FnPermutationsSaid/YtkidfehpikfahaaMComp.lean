/- Lemmas on the seat's printed functions: Comp. -/
import Derived.Test.YtkidfehpikfahaaXx10
import Derived.Test.YtkidfehpikfahaaMBase
import Derived.Test.YtkidfehpikfahaaMIn
import Derived.Test.YtkidfehpikfahaaMInts
import Derived.Test.YtkidfehpikfahaaMPerm
import Derived.Test.YtkidfehpikfahaaMInv
namespace Go.Proofs.Ytkidfehpikfahaa.M
set_option linter.unusedVariables false
set_option linter.unusedSimpArgs false
open Go.RowKit Go.Proofs.Ytkidfehpikfahaa.X Go.Proofs.YtkidfehpikfahaaW.PrintWords Go.Proofs.YtkidfehpikfahaaW.PrintLast Go.Proofs.YtkidfehpikfahaaW.PrintMore
def compL (p q : List Int) : List Int := p.map (rd q)
def compP (p q : List Int) : List Int × Int := if isPerm p = true ∧ isPerm q = true then (if p.length = q.length then (compL p q, 0) else ([], 5)) else ([], 1)
theorem compL_take (p q : List Int) (j : Nat) (h : j < p.length) : (p.take (j + 1)).map (rd q) = (p.take j).map (rd q) ++ [rd q (rd p (j : Nat))] := by
  rw [List.take_succ_eq_append_getElem h, List.map_append, rd_nat p j h]; rfl
theorem spec_comp_loop (p q : List Int) (h : isPerm p = true) (hq : p.length = q.length) : ∀ d j : Nat, j + d = p.length → Ev (fun k => spec_ComposeOf.l0 k p q ((p.take j).map (rd q)) (j : Nat)) (compL p q, 0) := by
  have hl := ((isPerm_iff p).1 h).1
  intro d
  induction d with
  | zero =>
    intro j hj
    obtain rfl : j = p.length := by omega
    refine Ev.step (fun k => ?_) (Ev.now _)
    simp only [spec_ComposeOf.l0]; rw [if_neg (by omega), List.take_length]; rfl
  | succ d ih =>
    intro j hj
    have hp := perm_at h j (by omega)
    refine Ev.step (fun k => ?_) (ih (j + 1) (by omega))
    simp only [spec_ComposeOf.l0]
    rw [if_pos (by omega), if_pos (by omega), if_pos hp.1, if_pos (by omega), if_pos (by rw [List.length_map, List.length_take]; omega), w64 (by omega) (by omega), compL_take p q j (by omega)]; rfl
theorem impl_comp_loop (p q : List Int) (h : isPerm p = true) (hq : p.length = q.length) : ∀ d j : Nat, j + d = p.length → ∀ x : List Int, x.length = p.length → (∀ i, i < j → x[i]? = (compL p q)[i]?) →
    Ev (fun k => impl_ComposeOf.l0 k q x p p.length (j : Nat)) (compL p q, 0) := by
  have hl := ((isPerm_iff p).1 h).1
  intro d
  induction d with
  | zero =>
    intro j hj x hx hi
    obtain rfl : x = compL p q := by
      apply List.ext_getElem?
      intro i
      by_cases h : i < j
      · exact hi i h
      · rw [List.getElem?_eq_none (by omega), List.getElem?_eq_none (by unfold compL; rw [List.length_map]; omega)]
    refine Ev.step (fun k => ?_) (Ev.now _)
    simp only [impl_ComposeOf.l0]; rw [if_neg (by omega)]
  | succ d ih =>
    intro j hj x hx hi
    have hp := perm_at h j (by omega)
    refine Ev.step (fun k => ?_) (ih (j + 1) (by omega) (x.set j (rd q (rd p (j : Nat)))) (by rw [List.length_set]; exact hx) ?_)
    · simp only [impl_ComposeOf.l0]; rw [if_pos (by omega), if_pos (by omega), if_pos (by omega), if_pos hp.1, if_pos (by omega), if_pos (by omega), w64 (by omega) (by omega)]; rfl
    · intro i h
      rw [List.getElem?_set]
      by_cases e : j = i
      · subst e
        rw [if_pos rfl, if_pos (by omega)]
        unfold compL
        rw [List.getElem?_map, List.getElem?_eq_getElem (by omega), rd_nat p j (by omega)]; rfl
      · rw [if_neg e]; exact hi i (by omega)
theorem spec_Comp_ev (p q : List Int) (hp : p.length ≤ 1048576) (hq : q.length ≤ 1048576) : Ev (fun k => spec_ComposeOf.f k p q) (compP p q) := by
  unfold spec_ComposeOf.f compP
  refine Ev.bind (spec_IsPerm_ev p hp) ?_
  by_cases h : isPerm p = true
  · simp only [if_pos h]
    refine Ev.bind (spec_IsPerm_ev q hq) ?_
    by_cases h2 : isPerm q = true
    · rw [if_pos ⟨h, h2⟩, h2]
      by_cases e : p.length = q.length
      · rw [if_pos e]
        refine Ev.step (fun k => ?_) (spec_comp_loop p q h e p.length 0 (by omega))
        simp only [spec_ComposeOf.j0]; rw [if_neg (by simp), if_pos (by omega)]; rfl
      · rw [if_neg e]
        refine Ev.step (fun k => ?_) (Ev.now _)
        simp only [spec_ComposeOf.j0]; rw [if_neg (by simp), if_neg (by omega)]
    · rw [if_neg (fun z => h2 z.2)]
      refine Ev.step (fun k => ?_) (Ev.now _)
      simp only [spec_ComposeOf.j0]; rw [if_pos (by simpa using h2)]
  · simp only [if_neg h]
    rw [if_neg (fun z => h z.1)]
    refine Ev.step (fun k => ?_) (Ev.now _)
    simp only [spec_ComposeOf.j0]; rw [if_pos trivial]
theorem impl_Comp_ev (p q : List Int) : Ev (fun k => impl_ComposeOf.f k p q) (compP p q) := by
  unfold impl_ComposeOf.f compP
  simp only [impl_IsPerm_eq, Option.bind_some]
  by_cases h : isPerm p = true
  · have hl := ((isPerm_iff p).1 h).1
    simp only [if_pos h]
    by_cases h2 : isPerm q = true
    · rw [if_pos ⟨h, h2⟩, h2]
      by_cases e : p.length = q.length
      · rw [if_pos e]
        refine Ev.step (fun k => ?_) (impl_comp_loop p q h e p.length 0 (by omega) (List.replicate p.length 0) (by simp) (by intro i h; omega))
        simp only [impl_ComposeOf.j0]; rw [if_neg (by simp), if_pos (by omega), if_pos (by omega), if_pos (by omega)]; rfl
      · rw [if_neg e]
        refine Ev.step (fun k => ?_) (Ev.now _)
        simp only [impl_ComposeOf.j0]; rw [if_neg (by simp), if_neg (by omega)]
    · rw [if_neg (fun z => h2 z.2)]
      refine Ev.step (fun k => ?_) (Ev.now _)
      simp only [impl_ComposeOf.j0]; rw [if_pos (by simpa using h2)]
  · simp only [if_neg h]
    rw [if_neg (fun z => h z.1)]
    refine Ev.step (fun k => ?_) (Ev.now _)
    simp only [impl_ComposeOf.j0]; rw [if_pos trivial]
theorem compP_length (p q : List Int) : (compP p q).1.length ≤ 64 := by
  unfold compP
  by_cases h : isPerm p = true ∧ isPerm q = true
  · rw [if_pos h]; have hl := ((isPerm_iff p).1 h.1).1
    by_cases e : p.length = q.length
    · rw [if_pos e]; show (compL p q).length ≤ 64; unfold compL; rw [List.length_map]; exact hl
    · rw [if_neg e]; decide
  · rw [if_neg h]; decide
end Go.Proofs.Ytkidfehpikfahaa.M
