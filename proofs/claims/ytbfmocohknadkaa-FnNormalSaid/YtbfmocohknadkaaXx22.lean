-- xprint.py
import Derived.Test.YtbfmocohknadkaaXx0
import Derived.Test.YtbfmocohknadkaaXx3
import Derived.Test.YtbfmocohknadkaaXx8
import Derived.Test.YtbfmocohknadkaaXx11
namespace Go.Proofs.Ytbfmocohknadkaa.X
open Go.RowKit Go.Proofs.YtbfmocohknadkaaW.PrintWords Go.Proofs.YtbfmocohknadkaaW.PrintLast Go.Proofs.YtbfmocohknadkaaW.PrintMore
attribute [local go_sem] max2_int min2_int max_two min_two max_three min_three max_four min_four   -- for this text's walks alone
set_option linter.unusedVariables false
set_option linter.unusedSimpArgs false

/-! ### spec_SortCells: function 42 -/
def spec_SortCells.f (k : Nat) (l0 : List (S57)) : Option ((List (S57)) × Int) := if (l0.length : Int) > 40 then (some (([] : List (S57)), 1)) else ((spec_l02Sort.f k l0).bind fun t639 => ((spec_IsShape.f k t639).bind fun t642 => (if t642 = true then (some (t639, 0)) else (some (([] : List (S57)), 1)))))
theorem spec_SortCells.mono : ∀ a0 k, LeO (spec_SortCells.f k a0) (spec_SortCells.f (k + 1) a0) := by
 intro a0 k
 unfold spec_SortCells.f
 repeat' first
   | (with_reducible exact spec_IsShape.mono _ _)
   | (with_reducible exact spec_l02Sort.mono _ _)
   | (with_reducible exact LeO.refl _)
   | (with_reducible exact LeO.none _)
   | (with_reducible refine LeO.ite ?_ ?_)
   | (with_reducible refine LeO.bind ?_ (fun _ => ?_))
   | exact spec_IsShape.mono _ _
   | exact spec_l02Sort.mono _ _
   | exact LeO.none _
   | refine LeO.ite ?_ ?_
   | refine LeO.bind ?_ (fun _ => ?_)
set_option maxHeartbeats 8000000 in
set_option maxRecDepth 100000 in
theorem spec_SortCells.calls (k : Nat) (A0 : Option Addr) (c0 : Nat) (l0 : List (S57)) (r1 : List (S57)) (r2 : Int) (w : World) (hr0 : Kd.C k57 w A0 l0.length l0) (hc0 : l0.length ≤ c0) (h : spec_SortCells.f k l0 = some (r1, r2)) :
  Calls Try.prog 42 #[.slice A0 l0.length c0] w fun e w' => ∃ v0_ : Value, e = .returned (.tuple #[v0_, .int .i64 r2]) ∧ Kd.R k57 57 w' w.heap.size (fun _ => True) v0_ r1 ∧ Below w.heap.size w w' := by
 have HR0 := Aside0.mk hr0
 have HC0 := Aside0.mk hc0
 clear hr0 hc0
 have HB := Aside0.mk (Below.refl w.heap.size w)
 have H : (if (l0.length : Int) > 40 then (some (([] : List (S57)), 1)) else ((spec_l02Sort.f k l0).bind fun t639 => ((spec_IsShape.f k t639).bind fun t642 => (if t642 = true then (some (t639, 0)) else (some (([] : List (S57)), 1)))))) = some (r1, r2) := h
 clear h
 by_cases c2 : (l0.length : Int) > 40
 ·rw [if_pos c2] at H
  have c2b0 : decide (40 < (l0.length : Int)) = true := decide_eq_true c2
  have c2b1 : decide (40 < l0.length) = true := decide_eq_true (by omega)
  clear c2
  simp only [Option.some.injEq, Prod.mk.injEq] at H
  obtain ⟨rfl, rfl⟩ := H
  go_enter Try.func42, Try.ntmps42
  go_wp2
  go_ret2
  exact ⟨_, r2_, by first | exact Kd.R_nil _ _ _ _ _ | exact Kd.N_nil _ _ _ _ _ | exact Kd.V_nil _ _ _ _ _ | exact Kd.Q_nil _ _ _ _ _ | exact Kd.S_nil _ _ _ _ _, bB_⟩
 ·rw [if_neg c2] at H
  have c2b0 : decide (40 < (l0.length : Int)) = false := decide_eq_false c2
  have c2b1 : decide (40 < l0.length) = false := decide_eq_false (by omega)
  clear c2
  replace H := Option.bind_eq_some_iff.mp H
  obtain ⟨t639, A30, H⟩ := H
  try dsimp only at H
  have A3 := Aside0.mk A30
  clear A30
  replace H := Option.bind_eq_some_iff.mp H
  obtain ⟨t642, A40, H⟩ := H
  try dsimp only at H
  have A4 := Aside0.mk A40
  clear A40
  by_cases c5 : t642 = true
  ·subst c5
   have H1 : (some (t639, 0)) = some (r1, r2) := by rw [if_pos rfl] at H; exact H
   clear H
   have H := H1
   clear H1
   simp only [Option.some.injEq, Prod.mk.injEq] at H
   obtain ⟨rfl, rfl⟩ := H
   go_enter Try.func42, Try.ntmps42
   go_wp2_with (first | ((with_reducible refine gate_callee (f := 86) rfl ?_); refine gL_ (some 9) Try.func86 #[.slice A0 l0.length c0] ?_; (with_reducible refine (spec_l02Sort.calls k _ _ l0 t639 _ ?side1 ?side2 A3.out).mono ?_); (case side1 => exact cS_ HR0.out); (case side2 => exact HC0.out); rintro e w6 ⟨v640, rfl, ho0, hb⟩; refine ⟨_, rfl, ?_⟩; have HO641 := Aside0.mk (Kd.R_lower ho0 (below_size bB_)); replace HB := Aside0.mk (below_step bB_ hb); (try clear hb ho0); obtain ⟨Ao7, co7, eo7⟩ := Kd.R_slice HO641.out; subst eo7) | ((with_reducible refine gate_callee (f := 61) rfl ?_); refine gL_ (some 11) Try.func61 #[.slice Ao7 t639.length co7] ?_; (with_reducible refine (spec_IsShape.calls k _ _ t639 true _ ?side1 ?side2 A4.out).mono ?_); (case side1 => exact cS_ ((Kd.R_reads' HO641.out).2.2)); (case side2 => exact (Kd.R_reads' HO641.out).2.1); rintro e w8 ⟨rfl, hb⟩; refine ⟨_, rfl, ?_⟩; replace HO641 := Aside0.mk (Kd.R_below (rS_ HO641.out) hb); replace HB := Aside0.mk (below_step bB_ hb); (try clear hb)))
   go_ret2
   exact ⟨_, r2_, rS_ HO641.out, bB_⟩
  ·replace c5 := Bool.eq_false_iff.mpr c5
   subst c5
   have H1 : (some (([] : List (S57)), 1)) = some (r1, r2) := by rw [if_neg (show ¬ (false = true) by decide)] at H; exact H
   clear H
   have H := H1
   clear H1
   simp only [Option.some.injEq, Prod.mk.injEq] at H
   obtain ⟨rfl, rfl⟩ := H
   go_enter Try.func42, Try.ntmps42
   go_wp2_with (first | ((with_reducible refine gate_callee (f := 86) rfl ?_); refine gL_ (some 9) Try.func86 #[.slice A0 l0.length c0] ?_; (with_reducible refine (spec_l02Sort.calls k _ _ l0 t639 _ ?side1 ?side2 A3.out).mono ?_); (case side1 => exact cS_ HR0.out); (case side2 => exact HC0.out); rintro e w9 ⟨v640, rfl, ho0, hb⟩; refine ⟨_, rfl, ?_⟩; have HO641 := Aside0.mk (Kd.R_lower ho0 (below_size bB_)); replace HB := Aside0.mk (below_step bB_ hb); (try clear hb ho0); obtain ⟨Ao10, co10, eo10⟩ := Kd.R_slice HO641.out; subst eo10) | ((with_reducible refine gate_callee (f := 61) rfl ?_); refine gL_ (some 11) Try.func61 #[.slice Ao10 t639.length co10] ?_; (with_reducible refine (spec_IsShape.calls k _ _ t639 false _ ?side1 ?side2 A4.out).mono ?_); (case side1 => exact cS_ ((Kd.R_reads' HO641.out).2.2)); (case side2 => exact (Kd.R_reads' HO641.out).2.1); rintro e w11 ⟨rfl, hb⟩; refine ⟨_, rfl, ?_⟩; replace HO641 := Aside0.mk (Kd.R_below (rS_ HO641.out) hb); replace HB := Aside0.mk (below_step bB_ hb); (try clear hb)))
   go_ret2
   exact ⟨_, r2_, by first | exact Kd.R_nil _ _ _ _ _ | exact Kd.N_nil _ _ _ _ _ | exact Kd.V_nil _ _ _ _ _ | exact Kd.Q_nil _ _ _ _ _ | exact Kd.S_nil _ _ _ _ _, bB_⟩

/-! ### impl_SortCells: function 43 -/
def impl_SortCells.f (k : Nat) (l0 : List (S57)) : Option ((List (S57)) × Int) := if (l0.length : Int) > 40 then (some (([] : List (S57)), 1)) else ((impl_sorted.f l0).bind fun t764 => ((impl_IsShape.f k t764).bind fun t767 => (if t767 = true then (some (t764, 0)) else (some (([] : List (S57)), 1)))))
theorem impl_SortCells.mono : ∀ a0 k, LeO (impl_SortCells.f k a0) (impl_SortCells.f (k + 1) a0) := by
 intro a0 k
 unfold impl_SortCells.f
 repeat' first
   | (with_reducible exact impl_IsShape.mono _ _)
   | (with_reducible exact LeO.refl _)
   | (with_reducible exact LeO.none _)
   | (with_reducible refine LeO.ite ?_ ?_)
   | (with_reducible refine LeO.bind ?_ (fun _ => ?_))
   | exact impl_IsShape.mono _ _
   | exact LeO.none _
   | refine LeO.ite ?_ ?_
   | refine LeO.bind ?_ (fun _ => ?_)
set_option maxHeartbeats 8000000 in
set_option maxRecDepth 100000 in
theorem impl_SortCells.calls (k : Nat) (A0 : Option Addr) (c0 : Nat) (l0 : List (S57)) (r1 : List (S57)) (r2 : Int) (w : World) (hr0 : Kd.C k57 w A0 l0.length l0) (hc0 : l0.length ≤ c0) (h : impl_SortCells.f k l0 = some (r1, r2)) :
  Calls Try.prog 43 #[.slice A0 l0.length c0] w fun e w' => ∃ v0_ : Value, e = .returned (.tuple #[v0_, .int .i64 r2]) ∧ Kd.R k57 57 w' w.heap.size (fun _ => True) v0_ r1 ∧ Below w.heap.size w w' := by
 have HR0 := Aside0.mk hr0
 have HC0 := Aside0.mk hc0
 clear hr0 hc0
 have HB := Aside0.mk (Below.refl w.heap.size w)
 have H : (if (l0.length : Int) > 40 then (some (([] : List (S57)), 1)) else ((impl_sorted.f l0).bind fun t764 => ((impl_IsShape.f k t764).bind fun t767 => (if t767 = true then (some (t764, 0)) else (some (([] : List (S57)), 1)))))) = some (r1, r2) := h
 clear h
 by_cases c2 : (l0.length : Int) > 40
 ·rw [if_pos c2] at H
  have c2b0 : decide (40 < (l0.length : Int)) = true := decide_eq_true c2
  have c2b1 : decide (40 < l0.length) = true := decide_eq_true (by omega)
  clear c2
  simp only [Option.some.injEq, Prod.mk.injEq] at H
  obtain ⟨rfl, rfl⟩ := H
  go_enter Try.func43, Try.ntmps43
  go_wp2
  go_ret2
  exact ⟨_, r2_, by first | exact Kd.R_nil _ _ _ _ _ | exact Kd.N_nil _ _ _ _ _ | exact Kd.V_nil _ _ _ _ _ | exact Kd.Q_nil _ _ _ _ _ | exact Kd.S_nil _ _ _ _ _, bB_⟩
 ·rw [if_neg c2] at H
  have c2b0 : decide (40 < (l0.length : Int)) = false := decide_eq_false c2
  have c2b1 : decide (40 < l0.length) = false := decide_eq_false (by omega)
  clear c2
  replace H := Option.bind_eq_some_iff.mp H
  obtain ⟨t764, A30, H⟩ := H
  try dsimp only at H
  have A3 := Aside0.mk A30
  clear A30
  replace H := Option.bind_eq_some_iff.mp H
  obtain ⟨t767, A40, H⟩ := H
  try dsimp only at H
  have A4 := Aside0.mk A40
  clear A40
  by_cases c5 : t767 = true
  ·subst c5
   have H1 : (some (t764, 0)) = some (r1, r2) := by rw [if_pos rfl] at H; exact H
   clear H
   have H := H1
   clear H1
   simp only [Option.some.injEq, Prod.mk.injEq] at H
   obtain ⟨rfl, rfl⟩ := H
   go_enter Try.func43, Try.ntmps43
   go_wp2_with (first | ((with_reducible refine gate_callee (f := 87) rfl ?_); refine gL_ (some 9) Try.func87 #[.slice A0 l0.length c0] ?_; (with_reducible refine (impl_sorted.calls _ _ l0 t764 _ ?side1 ?side2 A3.out).mono ?_); (case side1 => exact cS_ HR0.out); (case side2 => exact HC0.out); rintro e w6 ⟨v765, rfl, ho0, hb⟩; refine ⟨_, rfl, ?_⟩; have HO766 := Aside0.mk (Kd.R_lower ho0 (below_size bB_)); replace HB := Aside0.mk (below_step bB_ hb); (try clear hb ho0); obtain ⟨Ao7, co7, eo7⟩ := Kd.R_slice HO766.out; subst eo7) | ((with_reducible refine gate_callee (f := 60) rfl ?_); refine gL_ (some 11) Try.func60 #[.slice Ao7 t764.length co7] ?_; (with_reducible refine (impl_IsShape.calls k _ _ t764 true _ ?side1 ?side2 A4.out).mono ?_); (case side1 => exact cS_ ((Kd.R_reads' HO766.out).2.2)); (case side2 => exact (Kd.R_reads' HO766.out).2.1); rintro e w8 ⟨rfl, hb⟩; refine ⟨_, rfl, ?_⟩; replace HO766 := Aside0.mk (Kd.R_below (rS_ HO766.out) hb); replace HB := Aside0.mk (below_step bB_ hb); (try clear hb)))
   go_ret2
   exact ⟨_, r2_, rS_ HO766.out, bB_⟩
  ·replace c5 := Bool.eq_false_iff.mpr c5
   subst c5
   have H1 : (some (([] : List (S57)), 1)) = some (r1, r2) := by rw [if_neg (show ¬ (false = true) by decide)] at H; exact H
   clear H
   have H := H1
   clear H1
   simp only [Option.some.injEq, Prod.mk.injEq] at H
   obtain ⟨rfl, rfl⟩ := H
   go_enter Try.func43, Try.ntmps43
   go_wp2_with (first | ((with_reducible refine gate_callee (f := 87) rfl ?_); refine gL_ (some 9) Try.func87 #[.slice A0 l0.length c0] ?_; (with_reducible refine (impl_sorted.calls _ _ l0 t764 _ ?side1 ?side2 A3.out).mono ?_); (case side1 => exact cS_ HR0.out); (case side2 => exact HC0.out); rintro e w9 ⟨v765, rfl, ho0, hb⟩; refine ⟨_, rfl, ?_⟩; have HO766 := Aside0.mk (Kd.R_lower ho0 (below_size bB_)); replace HB := Aside0.mk (below_step bB_ hb); (try clear hb ho0); obtain ⟨Ao10, co10, eo10⟩ := Kd.R_slice HO766.out; subst eo10) | ((with_reducible refine gate_callee (f := 60) rfl ?_); refine gL_ (some 11) Try.func60 #[.slice Ao10 t764.length co10] ?_; (with_reducible refine (impl_IsShape.calls k _ _ t764 false _ ?side1 ?side2 A4.out).mono ?_); (case side1 => exact cS_ ((Kd.R_reads' HO766.out).2.2)); (case side2 => exact (Kd.R_reads' HO766.out).2.1); rintro e w11 ⟨rfl, hb⟩; refine ⟨_, rfl, ?_⟩; replace HO766 := Aside0.mk (Kd.R_below (rS_ HO766.out) hb); replace HB := Aside0.mk (below_step bB_ hb); (try clear hb)))
   go_ret2
   exact ⟨_, r2_, by first | exact Kd.R_nil _ _ _ _ _ | exact Kd.N_nil _ _ _ _ _ | exact Kd.V_nil _ _ _ _ _ | exact Kd.Q_nil _ _ _ _ _ | exact Kd.S_nil _ _ _ _ _, bB_⟩

end Go.Proofs.Ytbfmocohknadkaa.X
