-- xprint.py
import Derived.Test.YtpilmhjbgbpbmaaDoorXx0
import Derived.Test.YtpilmhjbgbpbmaaDoorXx1
import Derived.Test.YtpilmhjbgbpbmaaDoorXx2
import Derived.Test.YtpilmhjbgbpbmaaDoorXx4
import Derived.Test.YtpilmhjbgbpbmaaDoorXx5
import Derived.Test.YtpilmhjbgbpbmaaDoorXx6
namespace Go.Proofs.YtpilmhjbgbpbmaaDoor.X
open Go.RowKit Go.Proofs.YtpilmhjbgbpbmaaDoorW.PrintWords Go.Proofs.YtpilmhjbgbpbmaaDoorW.PrintLast Go.Proofs.YtpilmhjbgbpbmaaDoorW.PrintMore
attribute [local go_sem] max2_int min2_int max_two min_two max_three min_three max_four min_four   -- for this text's walks alone
set_option linter.unusedVariables false
set_option linter.unusedSimpArgs false

attribute [local go_sem high] eqA43
/-! ### laws_likeCells: function 11 -/
def laws_likeCells.l0 : Nat → List (S43) → List (S43) → Int → Option (Bool)
 | 0, _, _, _ => none
 | k + 1, x0, x1, x5 => if x5 < (x0.length : Int) then (if 0 ≤ x5 then (if x5 < (x1.length : Int) then (if (!(((rd_T43 x0 x5).f0) == ((rd_T43 x1 x5).f0)) || (!(((rd_T43 x0 x5).f1) == ((rd_T43 x1 x5).f1)))) = true then (some false) else (laws_likeCells.l0 k x0 x1 (wrap64 (x5 + 1)))) else (none)) else (none)) else (some true)
def laws_likeCells.f (k : Nat) (l0 : List (S43)) (l1 : List (S43)) : Option (Bool) := if (l0.length : Int) = (l1.length : Int) then (laws_likeCells.l0 k l0 l1 0) else (some false)
theorem laws_likeCells.mono_l : ∀ k, (∀ y0 y1 y2, LeO (laws_likeCells.l0 k y0 y1 y2) (laws_likeCells.l0 (k + 1) y0 y1 y2))
 | 0 => fun _ _ _ r h => by simp [laws_likeCells.l0] at h
 | k + 1 => by
  have ih0 := laws_likeCells.mono_l k
  ·intro y0 y1 y2
   unfold laws_likeCells.l0
   repeat' first
   | (with_reducible exact ih0 _ _ _)
   | (with_reducible exact LeO.refl _)
   | (with_reducible exact LeO.none _)
   | (with_reducible refine LeO.ite ?_ ?_)
   | (with_reducible refine LeO.bind ?_ (fun _ => ?_))
   | exact ih0 _ _ _
   | exact LeO.none _
   | refine LeO.ite ?_ ?_
   | refine LeO.bind ?_ (fun _ => ?_)
theorem laws_likeCells.mono : ∀ a0 a1 k, LeO (laws_likeCells.f k a0 a1) (laws_likeCells.f (k + 1) a0 a1) := by
 intro a0 a1 k
 have ih0 := laws_likeCells.mono_l k
 unfold laws_likeCells.f
 repeat' first
   | (with_reducible exact ih0 _ _ _)
   | (with_reducible exact LeO.refl _)
   | (with_reducible exact LeO.none _)
   | (with_reducible refine LeO.ite ?_ ?_)
   | (with_reducible refine LeO.bind ?_ (fun _ => ?_))
   | exact ih0 _ _ _
   | exact LeO.none _
   | refine LeO.ite ?_ ?_
   | refine LeO.bind ?_ (fun _ => ?_)
set_option maxHeartbeats 8000000 in
set_option maxRecDepth 100000 in
theorem laws_likeCells.calls (k : Nat) (A0 : Option Addr) (c0 : Nat) (l0 : List (S43)) (A1 : Option Addr) (c1 : Nat) (l1 : List (S43)) (r : Bool) (w : World) (hr0 : Kd.C k43 w A0 l0.length l0) (hc0 : l0.length ≤ c0) (hr1 : Kd.C k43 w A1 l1.length l1) (hc1 : l1.length ≤ c1) (h : laws_likeCells.f k l0 l1 = some r) :
  Calls Tryd.prog 11 #[.slice A0 l0.length c0, .slice A1 l1.length c1] w fun e w' => e = .returned (.bool r) ∧ Drawn0 w w' := by
 have hu43 := Tryd.underlying43
 have HR0 := Aside0.mk hr0
 have HC0 := Aside0.mk hc0
 clear hr0 hc0
 have HR1 := Aside0.mk hr1
 have HC1 := Aside0.mk hc1
 clear hr1 hc1
 have H : (if (l0.length : Int) = (l1.length : Int) then (laws_likeCells.l0 k l0 l1 0) else (some false)) = some r := h
 clear h
 by_cases c3 : (l0.length : Int) = (l1.length : Int)
 ·rw [if_pos c3] at H
  have c3b0 : ((l0.length : Int) == (l1.length : Int)) = true := beq_iff_eq.mpr c3
  have c3b1 : ((l0.length : Int) != (l1.length : Int)) = false := bne_eq_false_iff_eq.mpr c3
  have c3b2 : (l0.length == l1.length) = true := by first | simpa using c3 | (simp at c3 ⊢; omega)
  clear c3
  have H' := Aside0.mk H
  clear H
  go_enter Tryd.func11, Tryd.ntmps11
  go_wp2
  repeat (go_quiet (fail); try go_wp2)
  go_loopg [5] k (fun kq v5 w' => ∃ (x5_1 : Int), v5 = .int .i64 x5_1 ∧ Aside0 (laws_likeCells.l0 kq l0 l1 x5_1 = some r) ∧ Aside0 (kq ≤ k) ∧ Drawn0 w w')
  case atStart => exact ⟨(0), r3_, H', ⟨Nat.le_refl _⟩, by repeat (first | exact Drawn0.refl _ | apply Drawn0.step)⟩
  case round =>
   clear H'
   try clear c1
   try clear p2
   try clear c3
   try clear c3b0
   try clear c3b1
   try clear c3b2
   obtain ⟨x5_1, rfl, HA, HK1, ⟨m1, rfl⟩⟩ := hrel
   cases gk with
   | zero => exact absurd HA.out (by simp [laws_likeCells.l0])
   | succ k1 =>
    have H := HA.out
    clear HA
    simp only [laws_likeCells.l0] at H
    by_cases c4 : x5_1 < (l0.length : Int)
    ·rw [if_pos c4] at H
     have c4b0 : decide (x5_1 < (l0.length : Int)) = true := decide_eq_true c4
     clear c4
     by_cases c5 : 0 ≤ x5_1
     ·rw [if_pos c5] at H
      have c5b0 : decide (0 ≤ x5_1) = true := decide_eq_true c5
      clear c5
      by_cases c6 : x5_1 < (l1.length : Int)
      ·rw [if_pos c6] at H
       have c6b0 : decide (x5_1 < (l1.length : Int)) = true := decide_eq_true c6
       clear c6
       by_cases c7 : (!(((rd_T43 l0 x5_1).f0) == ((rd_T43 l1 x5_1).f0)) || (!(((rd_T43 l0 x5_1).f1) == ((rd_T43 l1 x5_1).f1)))) = true
       ·rw [if_pos c7] at H
        have c7b0 : (!(((rd_T43 l0 x5_1).f0) == ((rd_T43 l1 x5_1).f0)) || (!(((rd_T43 l0 x5_1).f1) == ((rd_T43 l1 x5_1).f1)))) = true := c7
        clear c7
        obtain rfl := Option.some.inj H
        have p423 : 0 ≤ (x5_1 : Int) := of_decide_eq_true aS_
        have q423 : x5_1 < (l0.length : Int) := of_decide_eq_true aS_
        obtain ⟨ad423, e423, hx423_0, hx423_1⟩ := at_T43 HR0.out x5_1 p423 q423
        cases e423
        replace p423 := eq_true p423
        replace q423 := eq_true q423
        have p424 : 0 ≤ (x5_1 : Int) := of_decide_eq_true aS_
        have q424 : x5_1 < (l1.length : Int) := of_decide_eq_true aS_
        obtain ⟨ad424, e424, hx424_0, hx424_1⟩ := at_T43 HR1.out x5_1 p424 q424
        cases e424
        replace p424 := eq_true p424
        replace q424 := eq_true q424
        go_wp2
        repeat (go_quiet (fail); try go_wp2)
        go_ret
        exact ⟨r3_, by repeat (first | exact Drawn0.refl _ | apply Drawn0.step)⟩
       ·rw [if_neg c7] at H
        have c7b0 : (!(((rd_T43 l0 x5_1).f0) == ((rd_T43 l1 x5_1).f0)) || (!(((rd_T43 l0 x5_1).f1) == ((rd_T43 l1 x5_1).f1)))) = false := by simpa using c7
        clear c7
        have H' := Aside0.mk H
        clear H
        have p423 : 0 ≤ (x5_1 : Int) := of_decide_eq_true aS_
        have q423 : x5_1 < (l0.length : Int) := of_decide_eq_true aS_
        obtain ⟨ad423, e423, hx423_0, hx423_1⟩ := at_T43 HR0.out x5_1 p423 q423
        cases e423
        replace p423 := eq_true p423
        replace q423 := eq_true q423
        have p424 : 0 ≤ (x5_1 : Int) := of_decide_eq_true aS_
        have q424 : x5_1 < (l1.length : Int) := of_decide_eq_true aS_
        obtain ⟨ad424, e424, hx424_0, hx424_1⟩ := at_T43 HR1.out x5_1 p424 q424
        cases e424
        replace p424 := eq_true p424
        replace q424 := eq_true q424
        go_wp2
        repeat (go_quiet (fail); try go_wp2)
        go_roundg k1
        case measure => have := HK1.out; omega
        case rel => exact ⟨(wrap64 (x5_1 + 1)), r3_, H', ⟨by have := HK1.out; omega⟩, by repeat (first | exact Drawn0.refl _ | apply Drawn0.step)⟩
      ·rw [if_neg c6] at H
       exact absurd H (by simp)
     ·rw [if_neg c5] at H
      exact absurd H (by simp)
    ·rw [if_neg c4] at H
     have c4b0 : decide (x5_1 < (l0.length : Int)) = false := decide_eq_false c4
     clear c4
     obtain rfl := Option.some.inj H
     go_wp2
     repeat (go_quiet (fail); try go_wp2)
     go_ret
     exact ⟨r3_, by repeat (first | exact Drawn0.refl _ | apply Drawn0.step)⟩
 ·rw [if_neg c3] at H
  have c3b0 : ((l0.length : Int) == (l1.length : Int)) = false := beq_eq_false_iff_ne.mpr c3
  have c3b1 : ((l0.length : Int) != (l1.length : Int)) = true := bne_iff_ne.mpr c3
  have c3b2 : (l0.length == l1.length) = false := by first | simpa using c3 | (simp at c3 ⊢; omega)
  obtain rfl := Option.some.inj H
  go_enter Tryd.func11, Tryd.ntmps11
  go_wp2
  repeat (go_quiet (fail); try go_wp2)
  go_ret
  exact ⟨r3_, by repeat (first | exact Drawn0.refl _ | apply Drawn0.step)⟩

/-! ### impl_NormalForm: function 12 -/
def impl_NormalForm.f (k : Nat) (l0 : List (S43)) : Option ((List (S43)) × Int) := (impl_IsShape.f k l0).bind fun t425 => (if t425 = true then ((impl_normal.f k l0).bind fun t426 => ((impl_IsShape.f k t426).bind fun t429 => (if t429 = true then (some (t426, 0)) else (some (([] : List (S43)), 3))))) else (some (([] : List (S43)), 1)))
theorem impl_NormalForm.mono : ∀ a0 k, LeO (impl_NormalForm.f k a0) (impl_NormalForm.f (k + 1) a0) := by
 intro a0 k
 unfold impl_NormalForm.f
 repeat' first
   | (with_reducible exact impl_IsShape.mono _ _)
   | (with_reducible exact impl_normal.mono _ _)
   | (with_reducible exact LeO.refl _)
   | (with_reducible exact LeO.none _)
   | (with_reducible refine LeO.ite ?_ ?_)
   | (with_reducible refine LeO.bind ?_ (fun _ => ?_))
   | exact impl_IsShape.mono _ _
   | exact impl_normal.mono _ _
   | exact LeO.none _
   | refine LeO.ite ?_ ?_
   | refine LeO.bind ?_ (fun _ => ?_)
set_option maxHeartbeats 8000000 in
set_option maxRecDepth 100000 in
theorem impl_NormalForm.calls (k : Nat) (A0 : Option Addr) (c0 : Nat) (l0 : List (S43)) (r1 : List (S43)) (r2 : Int) (w : World) (hr0 : Kd.C k43 w A0 l0.length l0) (hc0 : l0.length ≤ c0) (h : impl_NormalForm.f k l0 = some (r1, r2)) :
  Calls Tryd.prog 12 #[.slice A0 l0.length c0] w fun e w' => ∃ v0_ : Value, e = .returned (.tuple #[v0_, .int .i64 r2]) ∧ Kd.R k43 43 w' w.heap.size (fun _ => True) v0_ r1 ∧ Below w.heap.size w w' := by
 have HR0 := Aside0.mk hr0
 have HC0 := Aside0.mk hc0
 clear hr0 hc0
 have HB := Aside0.mk (Below.refl w.heap.size w)
 have H : ((impl_IsShape.f k l0).bind fun t425 => (if t425 = true then ((impl_normal.f k l0).bind fun t426 => ((impl_IsShape.f k t426).bind fun t429 => (if t429 = true then (some (t426, 0)) else (some (([] : List (S43)), 3))))) else (some (([] : List (S43)), 1)))) = some (r1, r2) := h
 clear h
 replace H := Option.bind_eq_some_iff.mp H
 obtain ⟨t425, A20, H⟩ := H
 try dsimp only at H
 have A2 := Aside0.mk A20
 clear A20
 by_cases c3 : t425 = true
 ·subst c3
  have H1 : ((impl_normal.f k l0).bind fun t426 => ((impl_IsShape.f k t426).bind fun t429 => (if t429 = true then (some (t426, 0)) else (some (([] : List (S43)), 3))))) = some (r1, r2) := by rw [if_pos rfl] at H; exact H
  clear H
  have H := H1
  clear H1
  replace H := Option.bind_eq_some_iff.mp H
  obtain ⟨t426, A40, H⟩ := H
  try dsimp only at H
  have A4 := Aside0.mk A40
  clear A40
  replace H := Option.bind_eq_some_iff.mp H
  obtain ⟨t429, A50, H⟩ := H
  try dsimp only at H
  have A5 := Aside0.mk A50
  clear A50
  by_cases c6 : t429 = true
  ·subst c6
   have H1 : (some (t426, 0)) = some (r1, r2) := by rw [if_pos rfl] at H; exact H
   clear H
   have H := H1
   clear H1
   simp only [Option.some.injEq, Prod.mk.injEq] at H
   obtain ⟨rfl, rfl⟩ := H
   go_enter Tryd.func12, Tryd.ntmps12
   go_wp2_with (first | ((with_reducible refine gate_callee (f := 23) rfl ?_); refine gL_ (some 6) Tryd.func23 #[.slice A0 l0.length c0] ?_; (with_reducible refine (impl_IsShape.calls k _ _ l0 true _ ?side1 ?side2 A2.out).mono ?_); (case side1 => exact cS_ HR0.out); (case side2 => exact HC0.out); rintro e w7 ⟨rfl, hb⟩; refine ⟨_, rfl, ?_⟩; replace HB := Aside0.mk (below_step bB_ hb); (try clear hb)) | ((with_reducible refine gate_callee (f := 25) rfl ?_); refine gL_ (some 9) Tryd.func25 #[.slice A0 l0.length c0] ?_; (with_reducible refine (impl_normal.calls k _ _ l0 t426 _ ?side1 ?side2 A4.out).mono ?_); (case side1 => exact cS_ (Kd.C_below HR0.out HB.out)); (case side2 => exact HC0.out); rintro e w8 ⟨v427, rfl, ho0, hb⟩; refine ⟨_, rfl, ?_⟩; have HO428 := Aside0.mk (Kd.R_lower ho0 (below_size bB_)); replace HB := Aside0.mk (below_step bB_ hb); (try clear hb ho0); obtain ⟨Ao9, co9, eo9⟩ := Kd.R_slice HO428.out; subst eo9) | ((with_reducible refine gate_callee (f := 23) rfl ?_); refine gL_ (some 11) Tryd.func23 #[.slice Ao9 t426.length co9] ?_; (with_reducible refine (impl_IsShape.calls k _ _ t426 true _ ?side1 ?side2 A5.out).mono ?_); (case side1 => exact cS_ ((Kd.R_reads' HO428.out).2.2)); (case side2 => exact (Kd.R_reads' HO428.out).2.1); rintro e w10 ⟨rfl, hb⟩; refine ⟨_, rfl, ?_⟩; replace HO428 := Aside0.mk (Kd.R_below (rS_ HO428.out) hb); replace HB := Aside0.mk (below_step bB_ hb); (try clear hb)))
   go_ret2
   exact ⟨_, r2_, rS_ HO428.out, bB_⟩
  ·replace c6 := Bool.eq_false_iff.mpr c6
   subst c6
   have H1 : (some (([] : List (S43)), 3)) = some (r1, r2) := by rw [if_neg (show ¬ (false = true) by decide)] at H; exact H
   clear H
   have H := H1
   clear H1
   simp only [Option.some.injEq, Prod.mk.injEq] at H
   obtain ⟨rfl, rfl⟩ := H
   go_enter Tryd.func12, Tryd.ntmps12
   go_wp2_with (first | ((with_reducible refine gate_callee (f := 23) rfl ?_); refine gL_ (some 6) Tryd.func23 #[.slice A0 l0.length c0] ?_; (with_reducible refine (impl_IsShape.calls k _ _ l0 true _ ?side1 ?side2 A2.out).mono ?_); (case side1 => exact cS_ HR0.out); (case side2 => exact HC0.out); rintro e w11 ⟨rfl, hb⟩; refine ⟨_, rfl, ?_⟩; replace HB := Aside0.mk (below_step bB_ hb); (try clear hb)) | ((with_reducible refine gate_callee (f := 25) rfl ?_); refine gL_ (some 9) Tryd.func25 #[.slice A0 l0.length c0] ?_; (with_reducible refine (impl_normal.calls k _ _ l0 t426 _ ?side1 ?side2 A4.out).mono ?_); (case side1 => exact cS_ (Kd.C_below HR0.out HB.out)); (case side2 => exact HC0.out); rintro e w12 ⟨v427, rfl, ho0, hb⟩; refine ⟨_, rfl, ?_⟩; have HO428 := Aside0.mk (Kd.R_lower ho0 (below_size bB_)); replace HB := Aside0.mk (below_step bB_ hb); (try clear hb ho0); obtain ⟨Ao13, co13, eo13⟩ := Kd.R_slice HO428.out; subst eo13) | ((with_reducible refine gate_callee (f := 23) rfl ?_); refine gL_ (some 11) Tryd.func23 #[.slice Ao13 t426.length co13] ?_; (with_reducible refine (impl_IsShape.calls k _ _ t426 false _ ?side1 ?side2 A5.out).mono ?_); (case side1 => exact cS_ ((Kd.R_reads' HO428.out).2.2)); (case side2 => exact (Kd.R_reads' HO428.out).2.1); rintro e w14 ⟨rfl, hb⟩; refine ⟨_, rfl, ?_⟩; replace HO428 := Aside0.mk (Kd.R_below (rS_ HO428.out) hb); replace HB := Aside0.mk (below_step bB_ hb); (try clear hb)))
   go_ret2
   exact ⟨_, r2_, by first | exact Kd.R_nil _ _ _ _ _ | exact Kd.N_nil _ _ _ _ _ | exact Kd.V_nil _ _ _ _ _ | exact Kd.Q_nil _ _ _ _ _ | exact Kd.S_nil _ _ _ _ _, bB_⟩
 ·replace c3 := Bool.eq_false_iff.mpr c3
  subst c3
  have H1 : (some (([] : List (S43)), 1)) = some (r1, r2) := by rw [if_neg (show ¬ (false = true) by decide)] at H; exact H
  clear H
  have H := H1
  clear H1
  simp only [Option.some.injEq, Prod.mk.injEq] at H
  obtain ⟨rfl, rfl⟩ := H
  go_enter Tryd.func12, Tryd.ntmps12
  go_wp2_with (first | ((with_reducible refine gate_callee (f := 23) rfl ?_); refine gL_ (some 6) Tryd.func23 #[.slice A0 l0.length c0] ?_; (with_reducible refine (impl_IsShape.calls k _ _ l0 false _ ?side1 ?side2 A2.out).mono ?_); (case side1 => exact cS_ HR0.out); (case side2 => exact HC0.out); rintro e w15 ⟨rfl, hb⟩; refine ⟨_, rfl, ?_⟩; replace HB := Aside0.mk (below_step bB_ hb); (try clear hb)))
  go_ret2
  exact ⟨_, r2_, by first | exact Kd.R_nil _ _ _ _ _ | exact Kd.N_nil _ _ _ _ _ | exact Kd.V_nil _ _ _ _ _ | exact Kd.Q_nil _ _ _ _ _ | exact Kd.S_nil _ _ _ _ _, bB_⟩

/-! ### laws_FnShapeText: function 3 -/
mutual
def laws_FnShapeText.j0 : Nat → List (S43) → ByteArray → Int → ByteArray → List (S43) → Int → Bool → Option (Bool)
 | 0, _, _, _, _, _, _, _ => none
 | k + 1, x3, x4, x5, x8, x9, x10, x63 => if x63 = true then (some false) else (if x10 = 0 then ((impl_ShapeText.f k x9).bind fun bt448 => (if bt448.2 = 0 then (if bt448.1.toList = x8.toList then (laws_FnShapeText.j1 k x3 x4 x5) else (some false)) else (some false))) else (laws_FnShapeText.j1 k x3 x4 x5))
def laws_FnShapeText.j1 : Nat → List (S43) → ByteArray → Int → Option (Bool)
 | 0, _, _, _ => none
 | k + 1, x3, x4, x5 => if x5 = 0 then ((impl_ReadShape.f k x4).bind fun bt450 => ((impl_NormalForm.f k x3).bind fun bt454 => (if bt450.2 = 0 then (if bt454.2 = 0 then ((laws_likeCells.f k bt450.1 bt454.1).bind fun t458 => (some t458)) else (some false)) else (some false)))) else (some true)
end
def laws_FnShapeText.f (k : Nat) (l0 : List Int) : Option (Bool) := (laws_big.f l0).bind fun t430 => (if t430 = true then (some true) else ((spec_DrawShapeText.f k l0).bind fun t431 => ((impl_ShapeText.f k t431).bind fun bt434 => ((spec_ShapeText.f k t431).bind fun bt436 => ((spec_DrawReadShape.f k l0).bind fun t438 => ((impl_ReadShape.f k t438).bind fun bt439 => ((spec_ReadShape.f k t438).bind fun bt443 => (if bt434.2 = bt436.2 then (if bt434.1.toList = bt436.1.toList then (if bt439.2 = bt443.2 then ((laws_likeCells.f k bt439.1 bt443.1).bind fun t447 => (laws_FnShapeText.j0 k t431 bt434.1 bt434.2 t438 bt439.1 bt439.2 (!t447))) else (laws_FnShapeText.j0 k t431 bt434.1 bt434.2 t438 bt439.1 bt439.2 true)) else (laws_FnShapeText.j0 k t431 bt434.1 bt434.2 t438 bt439.1 bt439.2 true)) else (laws_FnShapeText.j0 k t431 bt434.1 bt434.2 t438 bt439.1 bt439.2 true)))))))))
theorem laws_FnShapeText.mono_l : ∀ k, (∀ y0 y1 y2 y3 y4 y5 y6, LeO (laws_FnShapeText.j0 k y0 y1 y2 y3 y4 y5 y6) (laws_FnShapeText.j0 (k + 1) y0 y1 y2 y3 y4 y5 y6)) ∧ (∀ y0 y1 y2, LeO (laws_FnShapeText.j1 k y0 y1 y2) (laws_FnShapeText.j1 (k + 1) y0 y1 y2))
 | 0 => ⟨fun _ _ _ _ _ _ _ r h => by simp [laws_FnShapeText.j0] at h, fun _ _ _ r h => by simp [laws_FnShapeText.j1] at h⟩
 | k + 1 => by
  obtain ⟨ih0, ih1⟩ := laws_FnShapeText.mono_l k
  refine ⟨?_, ?_⟩
  ·intro y0 y1 y2 y3 y4 y5 y6
   unfold laws_FnShapeText.j0
   repeat' first
   | (with_reducible exact ih0 _ _ _ _ _ _ _)
   | (with_reducible exact ih1 _ _ _)
   | (with_reducible exact impl_NormalForm.mono _ _)
   | (with_reducible exact impl_ReadShape.mono _ _)
   | (with_reducible exact impl_ShapeText.mono _ _)
   | (with_reducible exact laws_likeCells.mono _ _ _)
   | (with_reducible exact spec_DrawReadShape.mono _ _)
   | (with_reducible exact spec_DrawShapeText.mono _ _)
   | (with_reducible exact spec_ReadShape.mono _ _)
   | (with_reducible exact spec_ShapeText.mono _ _)
   | (with_reducible exact LeO.refl _)
   | (with_reducible exact LeO.none _)
   | (with_reducible refine LeO.ite ?_ ?_)
   | (with_reducible refine LeO.bind ?_ (fun _ => ?_))
   | exact ih0 _ _ _ _ _ _ _
   | exact ih1 _ _ _
   | exact impl_NormalForm.mono _ _
   | exact impl_ReadShape.mono _ _
   | exact impl_ShapeText.mono _ _
   | exact laws_likeCells.mono _ _ _
   | exact spec_DrawReadShape.mono _ _
   | exact spec_DrawShapeText.mono _ _
   | exact spec_ReadShape.mono _ _
   | exact spec_ShapeText.mono _ _
   | exact LeO.none _
   | refine LeO.ite ?_ ?_
   | refine LeO.bind ?_ (fun _ => ?_)
  ·intro y0 y1 y2
   unfold laws_FnShapeText.j1
   repeat' first
   | (with_reducible exact ih0 _ _ _ _ _ _ _)
   | (with_reducible exact ih1 _ _ _)
   | (with_reducible exact impl_NormalForm.mono _ _)
   | (with_reducible exact impl_ReadShape.mono _ _)
   | (with_reducible exact impl_ShapeText.mono _ _)
   | (with_reducible exact laws_likeCells.mono _ _ _)
   | (with_reducible exact spec_DrawReadShape.mono _ _)
   | (with_reducible exact spec_DrawShapeText.mono _ _)
   | (with_reducible exact spec_ReadShape.mono _ _)
   | (with_reducible exact spec_ShapeText.mono _ _)
   | (with_reducible exact LeO.refl _)
   | (with_reducible exact LeO.none _)
   | (with_reducible refine LeO.ite ?_ ?_)
   | (with_reducible refine LeO.bind ?_ (fun _ => ?_))
   | exact ih0 _ _ _ _ _ _ _
   | exact ih1 _ _ _
   | exact impl_NormalForm.mono _ _
   | exact impl_ReadShape.mono _ _
   | exact impl_ShapeText.mono _ _
   | exact laws_likeCells.mono _ _ _
   | exact spec_DrawReadShape.mono _ _
   | exact spec_DrawShapeText.mono _ _
   | exact spec_ReadShape.mono _ _
   | exact spec_ShapeText.mono _ _
   | exact LeO.none _
   | refine LeO.ite ?_ ?_
   | refine LeO.bind ?_ (fun _ => ?_)
theorem laws_FnShapeText.mono : ∀ a0 k, LeO (laws_FnShapeText.f k a0) (laws_FnShapeText.f (k + 1) a0) := by
 intro a0 k
 obtain ⟨ih0, ih1⟩ := laws_FnShapeText.mono_l k
 unfold laws_FnShapeText.f
 repeat' first
   | (with_reducible exact ih0 _ _ _ _ _ _ _)
   | (with_reducible exact ih1 _ _ _)
   | (with_reducible exact impl_NormalForm.mono _ _)
   | (with_reducible exact impl_ReadShape.mono _ _)
   | (with_reducible exact impl_ShapeText.mono _ _)
   | (with_reducible exact laws_likeCells.mono _ _ _)
   | (with_reducible exact spec_DrawReadShape.mono _ _)
   | (with_reducible exact spec_DrawShapeText.mono _ _)
   | (with_reducible exact spec_ReadShape.mono _ _)
   | (with_reducible exact spec_ShapeText.mono _ _)
   | (with_reducible exact LeO.refl _)
   | (with_reducible exact LeO.none _)
   | (with_reducible refine LeO.ite ?_ ?_)
   | (with_reducible refine LeO.bind ?_ (fun _ => ?_))
   | exact ih0 _ _ _ _ _ _ _
   | exact ih1 _ _ _
   | exact impl_NormalForm.mono _ _
   | exact impl_ReadShape.mono _ _
   | exact impl_ShapeText.mono _ _
   | exact laws_likeCells.mono _ _ _
   | exact spec_DrawReadShape.mono _ _
   | exact spec_DrawShapeText.mono _ _
   | exact spec_ReadShape.mono _ _
   | exact spec_ShapeText.mono _ _
   | exact LeO.none _
   | refine LeO.ite ?_ ?_
   | refine LeO.bind ?_ (fun _ => ?_)
set_option maxHeartbeats 8000000 in
set_option maxRecDepth 100000 in
theorem laws_FnShapeText.calls (k : Nat) (A0 : Option Addr) (c0 : Nat) (l0 : List Int) (r : Bool) (w : World) (hr0 : Kd.C (Kd.int .u8) w A0 l0.length l0) (hc0 : l0.length ≤ c0) (h : laws_FnShapeText.f k l0 = some r) :
  Calls Tryd.prog 3 #[.slice A0 l0.length c0] w fun e w' => e = .returned (.bool r) ∧ Below w.heap.size w w' := by
 have HR0 := Aside0.mk hr0
 have HC0 := Aside0.mk hc0
 clear hr0 hc0
 have HB := Aside0.mk (Below.refl w.heap.size w)
 have H : ((laws_big.f l0).bind fun t430 => (if t430 = true then (some true) else ((spec_DrawShapeText.f k l0).bind fun t431 => ((impl_ShapeText.f k t431).bind fun bt434 => ((spec_ShapeText.f k t431).bind fun bt436 => ((spec_DrawReadShape.f k l0).bind fun t438 => ((impl_ReadShape.f k t438).bind fun bt439 => ((spec_ReadShape.f k t438).bind fun bt443 => (if bt434.2 = bt436.2 then (if bt434.1.toList = bt436.1.toList then (if bt439.2 = bt443.2 then ((laws_likeCells.f k bt439.1 bt443.1).bind fun t447 => (laws_FnShapeText.j0 k t431 bt434.1 bt434.2 t438 bt439.1 bt439.2 (!t447))) else (laws_FnShapeText.j0 k t431 bt434.1 bt434.2 t438 bt439.1 bt439.2 true)) else (laws_FnShapeText.j0 k t431 bt434.1 bt434.2 t438 bt439.1 bt439.2 true)) else (laws_FnShapeText.j0 k t431 bt434.1 bt434.2 t438 bt439.1 bt439.2 true)))))))))) = some r := h
 clear h
 replace H := Option.bind_eq_some_iff.mp H
 obtain ⟨t430, A20, H⟩ := H
 try dsimp only at H
 have A2 := Aside0.mk A20
 clear A20
 by_cases c3 : t430 = true
 ·subst c3
  have H1 : (some true) = some r := by rw [if_pos rfl] at H; exact H
  clear H
  have H := H1
  clear H1
  obtain rfl := Option.some.inj H
  go_enter Tryd.func3, Tryd.ntmps3
  go_wp2_with (first | ((with_reducible refine gate_callee (f := 4) rfl ?_); refine gL_ (some 20) Tryd.func4 #[.slice A0 l0.length c0] ?_; (with_reducible refine (laws_big.calls _ _ l0 true _ ?side1 ?side2 A2.out).mono ?_); (case side1 => exact cS_ HR0.out); (case side2 => exact HC0.out); rintro e w' ⟨rfl, ⟨nd, rfl⟩⟩; refine ⟨_, rfl, ?_⟩))
  go_ret
  exact ⟨r2_, bB_⟩
 ·replace c3 := Bool.eq_false_iff.mpr c3
  subst c3
  have H1 : ((spec_DrawShapeText.f k l0).bind fun t431 => ((impl_ShapeText.f k t431).bind fun bt434 => ((spec_ShapeText.f k t431).bind fun bt436 => ((spec_DrawReadShape.f k l0).bind fun t438 => ((impl_ReadShape.f k t438).bind fun bt439 => ((spec_ReadShape.f k t438).bind fun bt443 => (if bt434.2 = bt436.2 then (if bt434.1.toList = bt436.1.toList then (if bt439.2 = bt443.2 then ((laws_likeCells.f k bt439.1 bt443.1).bind fun t447 => (laws_FnShapeText.j0 k t431 bt434.1 bt434.2 t438 bt439.1 bt439.2 (!t447))) else (laws_FnShapeText.j0 k t431 bt434.1 bt434.2 t438 bt439.1 bt439.2 true)) else (laws_FnShapeText.j0 k t431 bt434.1 bt434.2 t438 bt439.1 bt439.2 true)) else (laws_FnShapeText.j0 k t431 bt434.1 bt434.2 t438 bt439.1 bt439.2 true)))))))) = some r := by rw [if_neg (show ¬ (false = true) by decide)] at H; exact H
  clear H
  have H := H1
  clear H1
  replace H := Option.bind_eq_some_iff.mp H
  obtain ⟨t431, A40, H⟩ := H
  try dsimp only at H
  have A4 := Aside0.mk A40
  clear A40
  replace H := Option.bind_eq_some_iff.mp H
  obtain ⟨⟨t434, t435⟩, A50, H⟩ := H
  try dsimp only at H
  have A5 := Aside0.mk A50
  clear A50
  replace H := Option.bind_eq_some_iff.mp H
  obtain ⟨⟨t436, t437⟩, A60, H⟩ := H
  try dsimp only at H
  have A6 := Aside0.mk A60
  clear A60
  replace H := Option.bind_eq_some_iff.mp H
  obtain ⟨t438, A70, H⟩ := H
  try dsimp only at H
  have A7 := Aside0.mk A70
  clear A70
  replace H := Option.bind_eq_some_iff.mp H
  obtain ⟨⟨t439, t440⟩, A80, H⟩ := H
  try dsimp only at H
  have A8 := Aside0.mk A80
  clear A80
  replace H := Option.bind_eq_some_iff.mp H
  obtain ⟨⟨t443, t444⟩, A90, H⟩ := H
  try dsimp only at H
  have A9 := Aside0.mk A90
  clear A90
  have HC10 := Aside0.mk H
  clear H
  go_enter Tryd.func3, Tryd.ntmps3
  go_upto_region 9 with (first | ((with_reducible refine gate_callee (f := 4) rfl ?_); refine gL_ (some 20) Tryd.func4 #[.slice A0 l0.length c0] ?_; (with_reducible refine (laws_big.calls _ _ l0 false _ ?side1 ?side2 A2.out).mono ?_); (case side1 => exact cS_ HR0.out); (case side2 => exact HC0.out); rintro e w' ⟨rfl, ⟨nd, rfl⟩⟩; refine ⟨_, rfl, ?_⟩) | ((with_reducible refine gate_callee (f := 5) rfl ?_); refine gL_ (some 22) Tryd.func5 #[.slice A0 l0.length c0] ?_; (with_reducible refine (spec_DrawShapeText.calls k _ _ l0 t431 _ ?side1 ?side2 A4.out).mono ?_); (case side1 => exact cS_ HR0.out); (case side2 => exact HC0.out); rintro e w11 ⟨v432, rfl, ho0, hb⟩; refine ⟨_, rfl, ?_⟩; have HO433 := Aside0.mk (Kd.R_lower ho0 (below_size bB_)); replace HB := Aside0.mk (below_step bB_ hb); (try clear hb ho0); obtain ⟨Ao12, co12, eo12⟩ := Kd.R_slice HO433.out; subst eo12) | ((with_reducible refine gate_callee (f := 6) rfl ?_); refine gL_ (some 25) Tryd.func6 #[.slice Ao12 t431.length co12] ?_; (with_reducible refine (impl_ShapeText.calls k _ _ t431 t434 t435 _ ?side1 ?side2 A5.out).mono ?_); (case side1 => exact cS_ ((Kd.R_reads' HO433.out).2.2)); (case side2 => exact (Kd.R_reads' HO433.out).2.1); rintro e w13 ⟨rfl, hb⟩; refine ⟨_, rfl, ?_⟩; replace HO433 := Aside0.mk (Kd.R_below (rS_ HO433.out) hb); replace HB := Aside0.mk (below_step bB_ hb); (try clear hb)) | ((with_reducible refine gate_callee (f := 7) rfl ?_); refine gL_ (some 30) Tryd.func7 #[.slice Ao12 t431.length co12] ?_; (with_reducible refine (spec_ShapeText.calls k _ _ t431 t436 t437 _ ?side1 ?side2 A6.out).mono ?_); (case side1 => exact cS_ ((Kd.R_reads' HO433.out).2.2)); (case side2 => exact (Kd.R_reads' HO433.out).2.1); rintro e w14 ⟨rfl, hb⟩; refine ⟨_, rfl, ?_⟩; replace HO433 := Aside0.mk (Kd.R_below (rS_ HO433.out) hb); replace HB := Aside0.mk (below_step bB_ hb); (try clear hb)) | ((with_reducible refine gate_callee (f := 8) rfl ?_); refine gL_ (some 34) Tryd.func8 #[.slice A0 l0.length c0] ?_; (with_reducible refine (spec_DrawReadShape.calls k _ _ l0 t438 _ ?side1 ?side2 A7.out).mono ?_); (case side1 => exact cS_ (Kd.C_below HR0.out HB.out)); (case side2 => exact HC0.out); rintro e w15 ⟨rfl, hb⟩; refine ⟨_, rfl, ?_⟩; replace HO433 := Aside0.mk (Kd.R_below (rS_ HO433.out) hb); replace HB := Aside0.mk (below_step bB_ hb); (try clear hb)) | ((with_reducible refine gate_callee (f := 9) rfl ?_); refine gL_ (some 37) Tryd.func9 #[.string t438] ?_; (with_reducible refine (impl_ReadShape.calls k t438 t439 t440 _ A8.out).mono ?_); rintro e w16 ⟨v441, rfl, ho0, hb⟩; refine ⟨_, rfl, ?_⟩; have HO442 := Aside0.mk (Kd.R_lower (Kd.R_new' ho0 (Kd.R_lt (rS_ HO433.out))) (below_size bB_)); replace HO433 := Aside0.mk (Kd.R_elder' (rS_ HO433.out) (Kd.R_base ho0) hb); replace HB := Aside0.mk (below_step bB_ hb); (try clear hb ho0)) | ((with_reducible refine gate_callee (f := 10) rfl ?_); refine gL_ (some 42) Tryd.func10 #[.string t438] ?_; (with_reducible refine (spec_ReadShape.calls k t438 t443 t444 _ A9.out).mono ?_); rintro e w17 ⟨v445, rfl, ho0, hb⟩; refine ⟨_, rfl, ?_⟩; have HO446 := Aside0.mk (Kd.R_lower (Kd.R_new' (Kd.R_new' ho0 (Kd.R_lt (rS_ HO433.out))) (Kd.R_lt (rS_ HO442.out))) (below_size bB_)); replace HO433 := Aside0.mk (Kd.R_elder' (rS_ HO433.out) (Kd.R_base ho0) hb); replace HO442 := Aside0.mk (Kd.R_elder' (rS_ HO442.out) (Kd.R_base ho0) hb); replace HB := Aside0.mk (below_step bB_ hb); (try clear hb ho0)))
  (try simp only [Act.put, List.setIfInBounds_toArray, List.set_cons_zero, List.set_cons_succ])
  go_cut [63] (fun v63 wc => ∃ (kq : Nat) (x63_9 : Bool), v63 = .bool x63_9 ∧ Aside0 (laws_FnShapeText.j0 kq t431 t434 t435 t438 t439 t440 x63_9 = some r) ∧ Aside0 (kq ≤ k) ∧ Aside0 (Kd.R k43 43 wc w.heap.size (fun k_ => some k_ ≠ (v441 : Value).ownBlock) (.slice Ao12 t431.length co12) t431) ∧ Aside0 (Kd.R k43 43 wc w.heap.size (fun k_ => some k_ ≠ ((.slice Ao12 t431.length co12) : Value).ownBlock) v441 t439) ∧ Aside0 (Below w.heap.size w wc))
  case first =>
   have H := HC10.out
   clear HC10
   by_cases c18 : t435 = t437
   ·rw [if_pos c18] at H
    have c18b0 : (t435 == t437) = true := beq_iff_eq.mpr c18
    have c18b1 : (t435 != t437) = false := bne_eq_false_iff_eq.mpr c18
    clear c18
    (first | rw [c18b0] | (simp only [i64_w, i32_w]; rw [c18b0]) | skip)
    by_cases c19 : t434.toList = t436.toList
    ·rw [if_pos c19] at H
     have c19b0 : (t434.toList == t436.toList) = true := beq_iff_eq.mpr c19
     have c19b1 : (t434.toList != t436.toList) = false := bne_eq_false_iff_eq.mpr c19
     clear c19
     by_cases c20 : t440 = t444
     ·rw [if_pos c20] at H
      have c20b0 : (t440 == t444) = true := beq_iff_eq.mpr c20
      have c20b1 : (t440 != t444) = false := bne_eq_false_iff_eq.mpr c20
      clear c20
      replace H := Option.bind_eq_some_iff.mp H
      obtain ⟨t447, A210, H⟩ := H
      try dsimp only at H
      have A21 := Aside0.mk A210
      clear A210
      have H' := Aside0.mk H
      clear H
      obtain ⟨Ao22, co22, eo22⟩ := Kd.R_slice HO442.out
      subst eo22
      obtain ⟨Ao23, co23, eo23⟩ := Kd.R_slice HO446.out
      subst eo23
      go_wp2_with (first | (go_at_call 11; (with_reducible refine (laws_likeCells.calls k _ _ t439 _ _ t443 t447 _ ?side1 ?side2 ?side3 ?side4 A21.out).mono ?_); (case side1 => exact cS_ ((Kd.R_reads' HO442.out).2.2)); (case side2 => exact (Kd.R_reads' HO442.out).2.1); (case side3 => exact cS_ ((Kd.R_reads' HO446.out).2.2)); (case side4 => exact (Kd.R_reads' HO446.out).2.1); rintro e w' ⟨rfl, ⟨nd, rfl⟩⟩))
      go_meet
      case rel => exact ⟨_, (!t447), r3_, H', ⟨by first | omega | exact Nat.le_refl _⟩, ⟨rS_ (Kd.R_mono HO433.out (fun _ hk => hk.1.2))⟩, ⟨rS_ (Kd.R_mono HO442.out (fun _ hk => hk.1.2))⟩, ⟨bB_⟩⟩
     ·rw [if_neg c20] at H
      have c20b0 : (t440 == t444) = false := beq_eq_false_iff_ne.mpr c20
      have c20b1 : (t440 != t444) = true := bne_iff_ne.mpr c20
      have H' := Aside0.mk H
      clear H
      go_wp2
      go_meet
      case rel => exact ⟨_, (true), r3_, H', ⟨by first | omega | exact Nat.le_refl _⟩, ⟨rS_ (Kd.R_mono HO433.out (fun _ hk => hk.1.2))⟩, ⟨rS_ (Kd.R_mono HO442.out (fun _ hk => hk.1.2))⟩, ⟨bB_⟩⟩
    ·rw [if_neg c19] at H
     have c19b0 : (t434.toList == t436.toList) = false := beq_eq_false_iff_ne.mpr c19
     have c19b1 : (t434.toList != t436.toList) = true := bne_iff_ne.mpr c19
     have H' := Aside0.mk H
     clear H
     go_wp2
     go_meet
     case rel => exact ⟨_, (true), r3_, H', ⟨by first | omega | exact Nat.le_refl _⟩, ⟨rS_ (Kd.R_mono HO433.out (fun _ hk => hk.1.2))⟩, ⟨rS_ (Kd.R_mono HO442.out (fun _ hk => hk.1.2))⟩, ⟨bB_⟩⟩
   ·rw [if_neg c18] at H
    have c18b0 : (t435 == t437) = false := beq_eq_false_iff_ne.mpr c18
    have c18b1 : (t435 != t437) = true := bne_iff_ne.mpr c18
    (first | rw [c18b0] | (simp only [i64_w, i32_w]; rw [c18b0]) | skip)
    have H' := Aside0.mk H
    clear H
    go_wp2
    go_meet
    case rel => exact ⟨_, (true), r3_, H', ⟨by first | omega | exact Nat.le_refl _⟩, ⟨rS_ (Kd.R_mono HO433.out (fun _ hk => hk.1.2))⟩, ⟨rS_ (Kd.R_mono HO442.out (fun _ hk => hk.1.2))⟩, ⟨bB_⟩⟩
  case rest =>
   clear HC10
   try clear c1
   try clear c2
   try clear p2
   try clear c3
   try clear c4
   try clear c5
   try clear c6
   try clear c7
   try clear c8
   try clear c9
   try clear c10
   try clear c18
   try clear c18b0
   try clear c18b1
   try clear c19
   try clear c19b0
   try clear c19b1
   try clear c20
   try clear c20b0
   try clear c20b1
   obtain ⟨kq, x63_9, rfl, HA, HJ9, HO_3, HO_9, HB⟩ := hcut
   cases kq with
   | zero => exact absurd HA.out (by simp [laws_FnShapeText.j0])
   | succ kj9 =>
    have H := HA.out
    clear HA
    simp only [laws_FnShapeText.j0] at H
    by_cases c24 : x63_9 = true
    ·subst c24
     have H1 : (some false) = some r := by rw [if_pos rfl] at H; exact H
     clear H
     have H := H1
     clear H1
     obtain rfl := Option.some.inj H
     go_wp2
     go_ret
     exact ⟨r2_, bB_⟩
    ·replace c24 := Bool.eq_false_iff.mpr c24
     subst c24
     have H1 : (if t440 = 0 then ((impl_ShapeText.f kj9 t439).bind fun bt448 => (if bt448.2 = 0 then (if bt448.1.toList = t438.toList then (laws_FnShapeText.j1 kj9 t431 t434 t435) else (some false)) else (some false))) else (laws_FnShapeText.j1 kj9 t431 t434 t435)) = some r := by rw [if_neg (show ¬ (false = true) by decide)] at H; exact H
     clear H
     have H := H1
     clear H1
     have HC25 := Aside0.mk H
     clear H
     go_upto_if 65 with (fail)
     go_cut [] (fun wc => ∃ (kq : Nat), Aside0 (laws_FnShapeText.j1 kq t431 t434 t435 = some r) ∧ Aside0 (kq ≤ kj9) ∧ Aside0 (Kd.R k43 43 wc w.heap.size (fun _ => True) (.slice Ao12 t431.length co12) t431) ∧ Aside0 (Below w.heap.size w wc))
     case first =>
      have H := HC25.out
      clear HC25
      by_cases c26 : t440 = 0
      ·rw [if_pos c26] at H
       have c26b0 : (t440 == 0) = true := beq_iff_eq.mpr c26
       have c26b1 : (t440 != 0) = false := bne_eq_false_iff_eq.mpr c26
       clear c26
       (first | rw [c26b0] | (simp only [i64_w, i32_w]; rw [c26b0]) | skip)
       replace H := Option.bind_eq_some_iff.mp H
       obtain ⟨⟨t448, t449⟩, A270, H⟩ := H
       try dsimp only at H
       have A27 := Aside0.mk A270
       clear A270
       by_cases c28 : t449 = 0
       ·rw [if_pos c28] at H
        have c28b0 : (t449 == 0) = true := beq_iff_eq.mpr c28
        have c28b1 : (t449 != 0) = false := bne_eq_false_iff_eq.mpr c28
        clear c28
        by_cases c29 : t448.toList = t438.toList
        ·rw [if_pos c29] at H
         have c29b0 : (t448.toList == t438.toList) = true := beq_iff_eq.mpr c29
         have c29b1 : (t448.toList != t438.toList) = false := bne_eq_false_iff_eq.mpr c29
         clear c29
         have H' := Aside0.mk H
         clear H
         obtain ⟨Ao30, co30, eo30⟩ := Kd.R_slice HO_9.out
         subst eo30
         go_wp2_with (first | ((with_reducible refine gate_callee (f := 6) rfl ?_); refine gL_ (some 68) Tryd.func6 #[.slice Ao30 t439.length co30] ?_; (with_reducible refine (impl_ShapeText.calls kj9 _ _ t439 t448 t449 _ ?side1 ?side2 A27.out).mono ?_); (case side1 => exact cS_ ((Kd.R_reads' HO_9.out).2.2)); (case side2 => exact (Kd.R_reads' HO_9.out).2.1); rintro e w31 ⟨rfl, hb⟩; refine ⟨_, rfl, ?_⟩; replace HO_3 := Aside0.mk (Kd.R_below (rS_ HO_3.out) hb); replace HO_9 := Aside0.mk (Kd.R_below (rS_ HO_9.out) hb); replace HB := Aside0.mk (below_step bB_ hb); (try clear hb)))
         go_meet
         case rel => exact ⟨_, H', ⟨by have := HJ9.out; first | omega | exact Nat.le_refl _⟩, ⟨rS_ (Kd.R_mono HO_3.out (fun _ hk => trivial))⟩, ⟨bB_⟩⟩
        ·rw [if_neg c29] at H
         have c29b0 : (t448.toList == t438.toList) = false := beq_eq_false_iff_ne.mpr c29
         have c29b1 : (t448.toList != t438.toList) = true := bne_iff_ne.mpr c29
         obtain rfl := Option.some.inj H
         obtain ⟨Ao32, co32, eo32⟩ := Kd.R_slice HO_9.out
         subst eo32
         go_wp2_with (first | ((with_reducible refine gate_callee (f := 6) rfl ?_); refine gL_ (some 68) Tryd.func6 #[.slice Ao32 t439.length co32] ?_; (with_reducible refine (impl_ShapeText.calls kj9 _ _ t439 t448 t449 _ ?side1 ?side2 A27.out).mono ?_); (case side1 => exact cS_ ((Kd.R_reads' HO_9.out).2.2)); (case side2 => exact (Kd.R_reads' HO_9.out).2.1); rintro e w33 ⟨rfl, hb⟩; refine ⟨_, rfl, ?_⟩; replace HO_3 := Aside0.mk (Kd.R_below (rS_ HO_3.out) hb); replace HO_9 := Aside0.mk (Kd.R_below (rS_ HO_9.out) hb); replace HB := Aside0.mk (below_step bB_ hb); (try clear hb)))
         go_ret
         exact ⟨r2_, bB_⟩
       ·rw [if_neg c28] at H
        have c28b0 : (t449 == 0) = false := beq_eq_false_iff_ne.mpr c28
        have c28b1 : (t449 != 0) = true := bne_iff_ne.mpr c28
        obtain rfl := Option.some.inj H
        obtain ⟨Ao34, co34, eo34⟩ := Kd.R_slice HO_9.out
        subst eo34
        go_wp2_with (first | ((with_reducible refine gate_callee (f := 6) rfl ?_); refine gL_ (some 68) Tryd.func6 #[.slice Ao34 t439.length co34] ?_; (with_reducible refine (impl_ShapeText.calls kj9 _ _ t439 t448 t449 _ ?side1 ?side2 A27.out).mono ?_); (case side1 => exact cS_ ((Kd.R_reads' HO_9.out).2.2)); (case side2 => exact (Kd.R_reads' HO_9.out).2.1); rintro e w35 ⟨rfl, hb⟩; refine ⟨_, rfl, ?_⟩; replace HO_3 := Aside0.mk (Kd.R_below (rS_ HO_3.out) hb); replace HO_9 := Aside0.mk (Kd.R_below (rS_ HO_9.out) hb); replace HB := Aside0.mk (below_step bB_ hb); (try clear hb)))
        go_ret
        exact ⟨r2_, bB_⟩
      ·rw [if_neg c26] at H
       have c26b0 : (t440 == 0) = false := beq_eq_false_iff_ne.mpr c26
       have c26b1 : (t440 != 0) = true := bne_iff_ne.mpr c26
       (first | rw [c26b0] | (simp only [i64_w, i32_w]; rw [c26b0]) | skip)
       have H' := Aside0.mk H
       clear H
       go_wp2
       go_meet
       case rel => exact ⟨_, H', ⟨by have := HJ9.out; first | omega | exact Nat.le_refl _⟩, ⟨rS_ (Kd.R_mono HO_3.out (fun _ hk => trivial))⟩, ⟨bB_⟩⟩
     case rest =>
      clear HC25
      try clear c1
      try clear c2
      try clear p2
      try clear c3
      try clear c4
      try clear c5
      try clear c6
      try clear c7
      try clear c8
      try clear c9
      try clear c10
      try clear c18
      try clear c18b0
      try clear c18b1
      try clear c19
      try clear c19b0
      try clear c19b1
      try clear c20
      try clear c20b0
      try clear c20b1
      try clear c24
      try clear c26
      try clear c26b0
      try clear c26b1
      try clear c28
      try clear c28b0
      try clear c28b1
      try clear c29
      try clear c29b0
      try clear c29b1
      try clear p2
      obtain ⟨kq, HA, HJ24, HO_3, HB⟩ := hcut
      cases kq with
      | zero => exact absurd HA.out (by simp [laws_FnShapeText.j1])
      | succ kj24 =>
       have H := HA.out
       clear HA
       simp only [laws_FnShapeText.j1] at H
       by_cases c36 : t435 = 0
       ·rw [if_pos c36] at H
        have c36b0 : (t435 == 0) = true := beq_iff_eq.mpr c36
        have c36b1 : (t435 != 0) = false := bne_eq_false_iff_eq.mpr c36
        clear c36
        replace H := Option.bind_eq_some_iff.mp H
        obtain ⟨⟨t450, t451⟩, A370, H⟩ := H
        try dsimp only at H
        have A37 := Aside0.mk A370
        clear A370
        replace H := Option.bind_eq_some_iff.mp H
        obtain ⟨⟨t454, t455⟩, A380, H⟩ := H
        try dsimp only at H
        have A38 := Aside0.mk A380
        clear A380
        by_cases c39 : t451 = 0
        ·rw [if_pos c39] at H
         have c39b0 : (t451 == 0) = true := beq_iff_eq.mpr c39
         have c39b1 : (t451 != 0) = false := bne_eq_false_iff_eq.mpr c39
         clear c39
         by_cases c40 : t455 = 0
         ·rw [if_pos c40] at H
          have c40b0 : (t455 == 0) = true := beq_iff_eq.mpr c40
          have c40b1 : (t455 != 0) = false := bne_eq_false_iff_eq.mpr c40
          clear c40
          replace H := Option.bind_eq_some_iff.mp H
          obtain ⟨t458, A410, H⟩ := H
          try dsimp only at H
          have A41 := Aside0.mk A410
          clear A410
          obtain rfl := Option.some.inj H
          go_wp2_with (first | ((with_reducible refine gate_callee (f := 9) rfl ?_); refine gL_ (some 82) Tryd.func9 #[.string t434] ?_; (with_reducible refine (impl_ReadShape.calls kj24 t434 t450 t451 _ A37.out).mono ?_); rintro e w42 ⟨v452, rfl, ho0, hb⟩; refine ⟨_, rfl, ?_⟩; have HO453 := Aside0.mk (Kd.R_lower (Kd.R_new' ho0 (Kd.R_lt (rS_ HO_3.out))) (below_size bB_)); replace HO_3 := Aside0.mk (Kd.R_elder' (rS_ HO_3.out) (Kd.R_base ho0) hb); replace HB := Aside0.mk (below_step bB_ hb); (try clear hb ho0)) | ((with_reducible refine gate_callee (f := 12) rfl ?_); refine gL_ (some 87) Tryd.func12 #[.slice Ao12 t431.length co12] ?_; (with_reducible refine (impl_NormalForm.calls kj24 _ _ t431 t454 t455 _ ?side1 ?side2 A38.out).mono ?_); (case side1 => exact cS_ ((Kd.R_reads' HO_3.out).2.2)); (case side2 => exact (Kd.R_reads' HO_3.out).2.1); rintro e w43 ⟨v456, rfl, ho0, hb⟩; refine ⟨_, rfl, ?_⟩; have HO457 := Aside0.mk (Kd.R_lower (Kd.R_new' (Kd.R_new' ho0 (Kd.R_lt (rS_ HO_3.out))) (Kd.R_lt (rS_ HO453.out))) (below_size bB_)); replace HO_3 := Aside0.mk (Kd.R_elder' (rS_ HO_3.out) (Kd.R_base ho0) hb); replace HO453 := Aside0.mk (Kd.R_elder' (rS_ HO453.out) (Kd.R_base ho0) hb); replace HB := Aside0.mk (below_step bB_ hb); (try clear hb ho0); obtain ⟨Ao44, co44, eo44⟩ := Kd.R_slice HO453.out; subst eo44; obtain ⟨Ao45, co45, eo45⟩ := Kd.R_slice HO457.out; subst eo45) | (go_at_call 11; (with_reducible refine (laws_likeCells.calls kj24 _ _ t450 _ _ t454 t458 _ ?side1 ?side2 ?side3 ?side4 A41.out).mono ?_); (case side1 => exact cS_ ((Kd.R_reads' HO453.out).2.2)); (case side2 => exact (Kd.R_reads' HO453.out).2.1); (case side3 => exact cS_ ((Kd.R_reads' HO457.out).2.2)); (case side4 => exact (Kd.R_reads' HO457.out).2.1); rintro e w' ⟨rfl, ⟨nd, rfl⟩⟩))
          go_ret
          exact ⟨r2_, bB_⟩
         ·rw [if_neg c40] at H
          have c40b0 : (t455 == 0) = false := beq_eq_false_iff_ne.mpr c40
          have c40b1 : (t455 != 0) = true := bne_iff_ne.mpr c40
          obtain rfl := Option.some.inj H
          go_wp2_with (first | ((with_reducible refine gate_callee (f := 9) rfl ?_); refine gL_ (some 82) Tryd.func9 #[.string t434] ?_; (with_reducible refine (impl_ReadShape.calls kj24 t434 t450 t451 _ A37.out).mono ?_); rintro e w46 ⟨v452, rfl, ho0, hb⟩; refine ⟨_, rfl, ?_⟩; have HO453 := Aside0.mk (Kd.R_lower (Kd.R_new' ho0 (Kd.R_lt (rS_ HO_3.out))) (below_size bB_)); replace HO_3 := Aside0.mk (Kd.R_elder' (rS_ HO_3.out) (Kd.R_base ho0) hb); replace HB := Aside0.mk (below_step bB_ hb); (try clear hb ho0)) | ((with_reducible refine gate_callee (f := 12) rfl ?_); refine gL_ (some 87) Tryd.func12 #[.slice Ao12 t431.length co12] ?_; (with_reducible refine (impl_NormalForm.calls kj24 _ _ t431 t454 t455 _ ?side1 ?side2 A38.out).mono ?_); (case side1 => exact cS_ ((Kd.R_reads' HO_3.out).2.2)); (case side2 => exact (Kd.R_reads' HO_3.out).2.1); rintro e w47 ⟨v456, rfl, ho0, hb⟩; refine ⟨_, rfl, ?_⟩; have HO457 := Aside0.mk (Kd.R_lower (Kd.R_new' (Kd.R_new' ho0 (Kd.R_lt (rS_ HO_3.out))) (Kd.R_lt (rS_ HO453.out))) (below_size bB_)); replace HO_3 := Aside0.mk (Kd.R_elder' (rS_ HO_3.out) (Kd.R_base ho0) hb); replace HO453 := Aside0.mk (Kd.R_elder' (rS_ HO453.out) (Kd.R_base ho0) hb); replace HB := Aside0.mk (below_step bB_ hb); (try clear hb ho0)))
          go_ret
          exact ⟨r2_, bB_⟩
        ·rw [if_neg c39] at H
         have c39b0 : (t451 == 0) = false := beq_eq_false_iff_ne.mpr c39
         have c39b1 : (t451 != 0) = true := bne_iff_ne.mpr c39
         obtain rfl := Option.some.inj H
         go_wp2_with (first | ((with_reducible refine gate_callee (f := 9) rfl ?_); refine gL_ (some 82) Tryd.func9 #[.string t434] ?_; (with_reducible refine (impl_ReadShape.calls kj24 t434 t450 t451 _ A37.out).mono ?_); rintro e w48 ⟨v452, rfl, ho0, hb⟩; refine ⟨_, rfl, ?_⟩; have HO453 := Aside0.mk (Kd.R_lower (Kd.R_new' ho0 (Kd.R_lt (rS_ HO_3.out))) (below_size bB_)); replace HO_3 := Aside0.mk (Kd.R_elder' (rS_ HO_3.out) (Kd.R_base ho0) hb); replace HB := Aside0.mk (below_step bB_ hb); (try clear hb ho0)) | ((with_reducible refine gate_callee (f := 12) rfl ?_); refine gL_ (some 87) Tryd.func12 #[.slice Ao12 t431.length co12] ?_; (with_reducible refine (impl_NormalForm.calls kj24 _ _ t431 t454 t455 _ ?side1 ?side2 A38.out).mono ?_); (case side1 => exact cS_ ((Kd.R_reads' HO_3.out).2.2)); (case side2 => exact (Kd.R_reads' HO_3.out).2.1); rintro e w49 ⟨v456, rfl, ho0, hb⟩; refine ⟨_, rfl, ?_⟩; have HO457 := Aside0.mk (Kd.R_lower (Kd.R_new' (Kd.R_new' ho0 (Kd.R_lt (rS_ HO_3.out))) (Kd.R_lt (rS_ HO453.out))) (below_size bB_)); replace HO_3 := Aside0.mk (Kd.R_elder' (rS_ HO_3.out) (Kd.R_base ho0) hb); replace HO453 := Aside0.mk (Kd.R_elder' (rS_ HO453.out) (Kd.R_base ho0) hb); replace HB := Aside0.mk (below_step bB_ hb); (try clear hb ho0)))
         go_ret
         exact ⟨r2_, bB_⟩
       ·rw [if_neg c36] at H
        have c36b0 : (t435 == 0) = false := beq_eq_false_iff_ne.mpr c36
        have c36b1 : (t435 != 0) = true := bne_iff_ne.mpr c36
        obtain rfl := Option.some.inj H
        go_wp2
        go_ret
        exact ⟨r2_, bB_⟩

/-- THE ONE PURE STATEMENT of laws_FnShapeText: yours. -/
def laws_FnShapeText.Pure : Prop := ∀ (l0 : List Int), l0.length ≤ maxLen → l0.length * 1 ≤ 140737488351232 → (∀ x ∈ l0, (Lit.int .u8 x).wf = true) → ∃ k, laws_FnShapeText.f k l0 = some true
theorem laws_FnShapeText.walk (P : laws_FnShapeText.Pure) (a0 : Option Addr) (len0 cap0 : Nat) (z0 : List Int) (w : World) (w0 : (a0 = none ∧ len0 = 0 ∧ cap0 = 0 ∧ z0 = []) ∨ ∃ x, a0 = some x ∧ len0 ≤ cap0 ∧ cap0 ≤ maxLen ∧ z0.length = cap0 ∧ (∀ i, i < z0.length → w.cell? (x.add i) = some (.int .u8 (z0.getD i 0))) ∧ ∀ n ∈ z0, (Lit.int .u8 n).wf = true) (y0 : len0 * 1 ≤ 140737488351232) :
  Calls Tryd.prog 3 #[.slice a0 len0 cap0] w fun e w' => e = .returned (.bool true) ∧ Below w.heap.size w w' := by
 obtain ⟨l0, rfl, hr0, hm0, hw0, hc0⟩ := ReadsInt.ofRowC w0
 obtain ⟨k, h⟩ := P l0 hm0 y0 hw0
 refine (laws_FnShapeText.calls k _ _ l0 true w (Kd.C_of_reads (d := (0 : Int)) (h1 := fun _ => rfl) hr0) hc0 h).mono ?_
 rintro e w' ⟨rfl, hd⟩
 exact ⟨rfl, hd⟩

end Go.Proofs.YtpilmhjbgbpbmaaDoor.X
