-- xprint.py
import Derived.Test.YtbkafaoehheioaaGreatXx0
import Derived.Test.YtbkafaoehheioaaGreatXx1
import Derived.Test.YtbkafaoehheioaaGreatXx2
import Derived.Test.YtbkafaoehheioaaGreatXx4
import Derived.Test.YtbkafaoehheioaaGreatXx5
import Derived.Test.YtbkafaoehheioaaGreatXx6
import Derived.Test.YtbkafaoehheioaaGreatXx7
import Derived.Test.YtbkafaoehheioaaGreatXx8
import Derived.Test.YtbkafaoehheioaaGreatXx9
namespace Go.Proofs.YtbkafaoehheioaaGreat.X
open Go.RowKit Go.Proofs.YtbkafaoehheioaaGreatW.PrintWords Go.Proofs.YtbkafaoehheioaaGreatW.PrintLast Go.Proofs.YtbkafaoehheioaaGreatW.PrintMore
attribute [local go_sem] max2_int min2_int max_two min_two max_three min_three max_four min_four   -- for this text's walks alone
set_option linter.unusedVariables false
set_option linter.unusedSimpArgs false

attribute [local go_sem high] eqA39
/-! ### spec_GrowShape: function 10 -/
def spec_GrowShape.f (k : Nat) (l0 : List (S39)) : Option ((List (List (S39))) × Int) := (spec_l05Code.f k l0).bind fun t674 => (if t674 = 0 then ((spec_l04Size.f k l0).bind fun bt675 => (if (l0.length : Int) = 40 then (some (([] : List (List (S39))), 5)) else (if bt675.1 > 100 then (some (([] : List (List (S39))), 5)) else (if bt675.2 > 100 then (some (([] : List (List (S39))), 5)) else ((spec_l05Grow.f k ([] : List (List (S39))) l0).bind fun t677 => (some (t677, 0))))))) else (some (([] : List (List (S39))), t674)))
theorem spec_GrowShape.mono : ∀ a0 k, LeO (spec_GrowShape.f k a0) (spec_GrowShape.f (k + 1) a0) := by
 intro a0 k
 unfold spec_GrowShape.f
 repeat' first
   | (with_reducible exact spec_l04Size.mono _ _)
   | (with_reducible exact spec_l05Code.mono _ _)
   | (with_reducible exact spec_l05Grow.mono _ _ _)
   | (with_reducible exact LeO.refl _)
   | (with_reducible exact LeO.none _)
   | (with_reducible refine LeO.ite ?_ ?_)
   | (with_reducible refine LeO.bind ?_ (fun _ => ?_))
   | exact spec_l04Size.mono _ _
   | exact spec_l05Code.mono _ _
   | exact spec_l05Grow.mono _ _ _
   | exact LeO.none _
   | refine LeO.ite ?_ ?_
   | refine LeO.bind ?_ (fun _ => ?_)
set_option maxHeartbeats 8000000 in
set_option maxRecDepth 100000 in
theorem spec_GrowShape.calls (k : Nat) (A0 : Option Addr) (c0 : Nat) (l0 : List (S39)) (r1 : List (List (S39))) (r2 : Int) (w : World) (hr0 : Kd.C k39 w A0 l0.length l0) (hc0 : l0.length ≤ c0) (h : spec_GrowShape.f k l0 = some (r1, r2)) :
  Calls Tryz.prog 10 #[.slice A0 l0.length c0] w fun e w' => ∃ v0_ : Value, e = .returned (.tuple #[v0_, .int .i64 r2]) ∧ Kd.V (Kd.slice 39 k39) 24 w' w.heap.size (fun k_ => (w.heap.size ≤ k_)) v0_ r1 ∧ Below w.heap.size w w' := by
 have HR0 := Aside0.mk hr0
 have HC0 := Aside0.mk hc0
 clear hr0 hc0
 have HB := Aside0.mk (Below.refl w.heap.size w)
 have H : ((spec_l05Code.f k l0).bind fun t674 => (if t674 = 0 then ((spec_l04Size.f k l0).bind fun bt675 => (if (l0.length : Int) = 40 then (some (([] : List (List (S39))), 5)) else (if bt675.1 > 100 then (some (([] : List (List (S39))), 5)) else (if bt675.2 > 100 then (some (([] : List (List (S39))), 5)) else ((spec_l05Grow.f k ([] : List (List (S39))) l0).bind fun t677 => (some (t677, 0))))))) else (some (([] : List (List (S39))), t674)))) = some (r1, r2) := h
 clear h
 replace H := Option.bind_eq_some_iff.mp H
 obtain ⟨t674, A20, H⟩ := H
 try dsimp only at H
 have A2 := Aside0.mk A20
 clear A20
 by_cases c3 : t674 = 0
 ·rw [if_pos c3] at H
  have c3b0 : (t674 == 0) = true := beq_iff_eq.mpr c3
  have c3b1 : (t674 != 0) = false := bne_eq_false_iff_eq.mpr c3
  clear c3
  replace H := Option.bind_eq_some_iff.mp H
  obtain ⟨⟨t675, t676⟩, A40, H⟩ := H
  try dsimp only at H
  have A4 := Aside0.mk A40
  clear A40
  by_cases c5 : (l0.length : Int) = 40
  ·rw [if_pos c5] at H
   have c5b0 : ((l0.length : Int) == 40) = true := beq_iff_eq.mpr c5
   have c5b1 : ((l0.length : Int) != 40) = false := bne_eq_false_iff_eq.mpr c5
   clear c5
   simp only [Option.some.injEq, Prod.mk.injEq] at H
   obtain ⟨rfl, rfl⟩ := H
   go_enter Tryz.func10, Tryz.ntmps10
   go_wp2_with (first | ((with_reducible refine gate_callee (f := 23) rfl ?_); refine gL_ (some 8) Tryz.func23 #[.slice A0 l0.length c0] ?_; (with_reducible refine (spec_l05Code.calls k _ _ l0 t674 _ ?side1 ?side2 A2.out).mono ?_); (case side1 => exact cS_ HR0.out); (case side2 => exact HC0.out); rintro e w6 ⟨rfl, hb⟩; refine ⟨_, rfl, ?_⟩; replace HB := Aside0.mk (below_step bB_ hb); (try clear hb)) | ((with_reducible refine gate_callee (f := 31) rfl ?_); refine gL_ (some 14) Tryz.func31 #[.slice A0 l0.length c0] ?_; (with_reducible refine (spec_l04Size.calls k _ _ l0 t675 t676 _ ?side1 ?side2 A4.out).mono ?_); (case side1 => exact cS_ (Kd.C_below HR0.out HB.out)); (case side2 => exact HC0.out); rintro e w7 ⟨rfl, hb⟩; refine ⟨_, rfl, ?_⟩; replace HB := Aside0.mk (below_step bB_ hb); (try clear hb)))
   go_ret2
   exact ⟨_, r2_, Kd.S_V (base := w.heap.size) (Kd.S_nil _ _ _ _ _), bB_⟩
  ·rw [if_neg c5] at H
   have c5b0 : ((l0.length : Int) == 40) = false := beq_eq_false_iff_ne.mpr c5
   have c5b1 : ((l0.length : Int) != 40) = true := bne_iff_ne.mpr c5
   by_cases c8 : t675 > 100
   ·rw [if_pos c8] at H
    have c8b0 : decide (100 < t675) = true := decide_eq_true c8
    clear c8
    simp only [Option.some.injEq, Prod.mk.injEq] at H
    obtain ⟨rfl, rfl⟩ := H
    go_enter Tryz.func10, Tryz.ntmps10
    go_wp2_with (first | ((with_reducible refine gate_callee (f := 23) rfl ?_); refine gL_ (some 8) Tryz.func23 #[.slice A0 l0.length c0] ?_; (with_reducible refine (spec_l05Code.calls k _ _ l0 t674 _ ?side1 ?side2 A2.out).mono ?_); (case side1 => exact cS_ HR0.out); (case side2 => exact HC0.out); rintro e w9 ⟨rfl, hb⟩; refine ⟨_, rfl, ?_⟩; replace HB := Aside0.mk (below_step bB_ hb); (try clear hb)) | ((with_reducible refine gate_callee (f := 31) rfl ?_); refine gL_ (some 14) Tryz.func31 #[.slice A0 l0.length c0] ?_; (with_reducible refine (spec_l04Size.calls k _ _ l0 t675 t676 _ ?side1 ?side2 A4.out).mono ?_); (case side1 => exact cS_ (Kd.C_below HR0.out HB.out)); (case side2 => exact HC0.out); rintro e w10 ⟨rfl, hb⟩; refine ⟨_, rfl, ?_⟩; replace HB := Aside0.mk (below_step bB_ hb); (try clear hb)))
    go_ret2
    exact ⟨_, r2_, Kd.S_V (base := w.heap.size) (Kd.S_nil _ _ _ _ _), bB_⟩
   ·rw [if_neg c8] at H
    have c8b0 : decide (100 < t675) = false := decide_eq_false c8
    clear c8
    by_cases c11 : t676 > 100
    ·rw [if_pos c11] at H
     have c11b0 : decide (100 < t676) = true := decide_eq_true c11
     clear c11
     simp only [Option.some.injEq, Prod.mk.injEq] at H
     obtain ⟨rfl, rfl⟩ := H
     go_enter Tryz.func10, Tryz.ntmps10
     go_wp2_with (first | ((with_reducible refine gate_callee (f := 23) rfl ?_); refine gL_ (some 8) Tryz.func23 #[.slice A0 l0.length c0] ?_; (with_reducible refine (spec_l05Code.calls k _ _ l0 t674 _ ?side1 ?side2 A2.out).mono ?_); (case side1 => exact cS_ HR0.out); (case side2 => exact HC0.out); rintro e w12 ⟨rfl, hb⟩; refine ⟨_, rfl, ?_⟩; replace HB := Aside0.mk (below_step bB_ hb); (try clear hb)) | ((with_reducible refine gate_callee (f := 31) rfl ?_); refine gL_ (some 14) Tryz.func31 #[.slice A0 l0.length c0] ?_; (with_reducible refine (spec_l04Size.calls k _ _ l0 t675 t676 _ ?side1 ?side2 A4.out).mono ?_); (case side1 => exact cS_ (Kd.C_below HR0.out HB.out)); (case side2 => exact HC0.out); rintro e w13 ⟨rfl, hb⟩; refine ⟨_, rfl, ?_⟩; replace HB := Aside0.mk (below_step bB_ hb); (try clear hb)))
     go_ret2
     exact ⟨_, r2_, Kd.S_V (base := w.heap.size) (Kd.S_nil _ _ _ _ _), bB_⟩
    ·rw [if_neg c11] at H
     have c11b0 : decide (100 < t676) = false := decide_eq_false c11
     clear c11
     replace H := Option.bind_eq_some_iff.mp H
     obtain ⟨t677, A140, H⟩ := H
     try dsimp only at H
     have A14 := Aside0.mk A140
     clear A140
     simp only [Option.some.injEq, Prod.mk.injEq] at H
     obtain ⟨rfl, rfl⟩ := H
     go_enter Tryz.func10, Tryz.ntmps10
     go_wp2_with (first | ((with_reducible refine gate_callee (f := 23) rfl ?_); refine gL_ (some 8) Tryz.func23 #[.slice A0 l0.length c0] ?_; (with_reducible refine (spec_l05Code.calls k _ _ l0 t674 _ ?side1 ?side2 A2.out).mono ?_); (case side1 => exact cS_ HR0.out); (case side2 => exact HC0.out); rintro e w15 ⟨rfl, hb⟩; refine ⟨_, rfl, ?_⟩; replace HB := Aside0.mk (below_step bB_ hb); (try clear hb)) | ((with_reducible refine gate_callee (f := 31) rfl ?_); refine gL_ (some 14) Tryz.func31 #[.slice A0 l0.length c0] ?_; (with_reducible refine (spec_l04Size.calls k _ _ l0 t675 t676 _ ?side1 ?side2 A4.out).mono ?_); (case side1 => exact cS_ (Kd.C_below HR0.out HB.out)); (case side2 => exact HC0.out); rintro e w16 ⟨rfl, hb⟩; refine ⟨_, rfl, ?_⟩; replace HB := Aside0.mk (below_step bB_ hb); (try clear hb)) | ((with_reducible refine gate_callee (f := 32) rfl ?_); refine gL_ (some 29) Tryz.func32 #[.slice none 0 0, .slice A0 l0.length c0] ?_; (refine (spec_l05Grow.calls k (fun k_ => False) _ _ ([] : List (List (S39))) _ _ l0 t677 _ ?side1 ?side2 ?side3 A14.out).mono ?_); (case side1 => exact Kd.V_nil _ _ _ _ _); (case side2 => exact cS_ (Kd.C_below HR0.out HB.out)); (case side3 => exact HC0.out); rintro e w17 ⟨v678, rfl, ho0, hb⟩; refine ⟨_, rfl, ?_⟩; have HO679 := Aside0.mk (Kd.V_lower (Kd.V_mono (ok' := fun k_ => (w.heap.size ≤ k_)) ho0 (fun k_ hk_ => Or.elim hk_ (fun hs_ => (hs_).elim) (fun hn_ => (Nat.le_trans (below_size bB_) hn_)))) (below_size bB_)); replace HB := Aside0.mk (below_step bB_ hb); (try clear hb ho0)))
     go_ret2
     exact ⟨_, r2_, by (with_reducible repeat (first | apply Kd.V_alloc | apply Kd.V_drewN | apply Kd.V_drew)); exact HO679.out, bB_⟩
 ·rw [if_neg c3] at H
  have c3b0 : (t674 == 0) = false := beq_eq_false_iff_ne.mpr c3
  have c3b1 : (t674 != 0) = true := bne_iff_ne.mpr c3
  simp only [Option.some.injEq, Prod.mk.injEq] at H
  obtain ⟨rfl, rfl⟩ := H
  go_enter Tryz.func10, Tryz.ntmps10
  go_wp2_with (first | ((with_reducible refine gate_callee (f := 23) rfl ?_); refine gL_ (some 8) Tryz.func23 #[.slice A0 l0.length c0] ?_; (with_reducible refine (spec_l05Code.calls k _ _ l0 t674 _ ?side1 ?side2 A2.out).mono ?_); (case side1 => exact cS_ HR0.out); (case side2 => exact HC0.out); rintro e w18 ⟨rfl, hb⟩; refine ⟨_, rfl, ?_⟩; replace HB := Aside0.mk (below_step bB_ hb); (try clear hb)))
  go_ret2
  exact ⟨_, r2_, Kd.S_V (base := w.heap.size) (Kd.S_nil _ _ _ _ _), bB_⟩

/-! ### laws_likeCells: function 13 -/
def laws_likeCells.l0 : Nat → List (S39) → List (S39) → Int → Option (Bool)
 | 0, _, _, _ => none
 | k + 1, x0, x1, x5 => if x5 < (x0.length : Int) then (if 0 ≤ x5 then (if x5 < (x1.length : Int) then (if (!(((rd_T39 x0 x5).f0) == ((rd_T39 x1 x5).f0)) || (!(((rd_T39 x0 x5).f1) == ((rd_T39 x1 x5).f1)))) = true then (some false) else (laws_likeCells.l0 k x0 x1 (wrap64 (x5 + 1)))) else (none)) else (none)) else (some true)
def laws_likeCells.f (k : Nat) (l0 : List (S39)) (l1 : List (S39)) : Option (Bool) := if (l0.length : Int) = (l1.length : Int) then (laws_likeCells.l0 k l0 l1 0) else (some false)
theorem laws_likeCells.mono_l : ∀ k, (∀ y0 y1 y2, LeO (laws_likeCells.l0 k y0 y1 y2) (laws_likeCells.l0 (k + 1) y0 y1 y2))
 | 0 => fun _ _ _ r h => by simp [laws_likeCells.l0] at h
 | k + 1 => by
  have ih0 := laws_likeCells.mono_l k
  ·intro y0 y1 y2
   unfold laws_likeCells.l0
   repeat' first
   | (with_reducible exact ih0 _ _ _)
   | (with_reducible exact LeO.refl _)
   | (with_reducible exact LeO.none _)
   | (with_reducible refine LeO.ite ?_ ?_)
   | (with_reducible refine LeO.bind ?_ (fun _ => ?_))
   | exact ih0 _ _ _
   | exact LeO.none _
   | refine LeO.ite ?_ ?_
   | refine LeO.bind ?_ (fun _ => ?_)
theorem laws_likeCells.mono : ∀ a0 a1 k, LeO (laws_likeCells.f k a0 a1) (laws_likeCells.f (k + 1) a0 a1) := by
 intro a0 a1 k
 have ih0 := laws_likeCells.mono_l k
 unfold laws_likeCells.f
 repeat' first
   | (with_reducible exact ih0 _ _ _)
   | (with_reducible exact LeO.refl _)
   | (with_reducible exact LeO.none _)
   | (with_reducible refine LeO.ite ?_ ?_)
   | (with_reducible refine LeO.bind ?_ (fun _ => ?_))
   | exact ih0 _ _ _
   | exact LeO.none _
   | refine LeO.ite ?_ ?_
   | refine LeO.bind ?_ (fun _ => ?_)
set_option maxHeartbeats 8000000 in
set_option maxRecDepth 100000 in
theorem laws_likeCells.calls (k : Nat) (A0 : Option Addr) (c0 : Nat) (l0 : List (S39)) (A1 : Option Addr) (c1 : Nat) (l1 : List (S39)) (r : Bool) (w : World) (hr0 : Kd.C k39 w A0 l0.length l0) (hc0 : l0.length ≤ c0) (hr1 : Kd.C k39 w A1 l1.length l1) (hc1 : l1.length ≤ c1) (h : laws_likeCells.f k l0 l1 = some r) :
  Calls Tryz.prog 13 #[.slice A0 l0.length c0, .slice A1 l1.length c1] w fun e w' => e = .returned (.bool r) ∧ Drawn0 w w' := by
 have hu39 := Tryz.underlying39
 have HR0 := Aside0.mk hr0
 have HC0 := Aside0.mk hc0
 clear hr0 hc0
 have HR1 := Aside0.mk hr1
 have HC1 := Aside0.mk hc1
 clear hr1 hc1
 have H : (if (l0.length : Int) = (l1.length : Int) then (laws_likeCells.l0 k l0 l1 0) else (some false)) = some r := h
 clear h
 by_cases c3 : (l0.length : Int) = (l1.length : Int)
 ·rw [if_pos c3] at H
  have c3b0 : ((l0.length : Int) == (l1.length : Int)) = true := beq_iff_eq.mpr c3
  have c3b1 : ((l0.length : Int) != (l1.length : Int)) = false := bne_eq_false_iff_eq.mpr c3
  have c3b2 : (l0.length == l1.length) = true := by first | simpa using c3 | (simp at c3 ⊢; omega)
  clear c3
  have H' := Aside0.mk H
  clear H
  go_enter Tryz.func13, Tryz.ntmps13
  go_wp2
  repeat (go_quiet (fail); try go_wp2)
  go_loopg [5] k (fun kq v5 w' => ∃ (x5_1 : Int), v5 = .int .i64 x5_1 ∧ Aside0 (laws_likeCells.l0 kq l0 l1 x5_1 = some r) ∧ Aside0 (kq ≤ k) ∧ Drawn0 w w')
  case atStart => exact ⟨(0), r3_, H', ⟨Nat.le_refl _⟩, by repeat (first | exact Drawn0.refl _ | apply Drawn0.step)⟩
  case round =>
   clear H'
   try clear c1
   try clear p2
   try clear c3
   try clear c3b0
   try clear c3b1
   try clear c3b2
   obtain ⟨x5_1, rfl, HA, HK1, ⟨m1, rfl⟩⟩ := hrel
   cases gk with
   | zero => exact absurd HA.out (by simp [laws_likeCells.l0])
   | succ k1 =>
    have H := HA.out
    clear HA
    simp only [laws_likeCells.l0] at H
    by_cases c4 : x5_1 < (l0.length : Int)
    ·rw [if_pos c4] at H
     have c4b0 : decide (x5_1 < (l0.length : Int)) = true := decide_eq_true c4
     clear c4
     by_cases c5 : 0 ≤ x5_1
     ·rw [if_pos c5] at H
      have c5b0 : decide (0 ≤ x5_1) = true := decide_eq_true c5
      clear c5
      by_cases c6 : x5_1 < (l1.length : Int)
      ·rw [if_pos c6] at H
       have c6b0 : decide (x5_1 < (l1.length : Int)) = true := decide_eq_true c6
       clear c6
       by_cases c7 : (!(((rd_T39 l0 x5_1).f0) == ((rd_T39 l1 x5_1).f0)) || (!(((rd_T39 l0 x5_1).f1) == ((rd_T39 l1 x5_1).f1)))) = true
       ·rw [if_pos c7] at H
        have c7b0 : (!(((rd_T39 l0 x5_1).f0) == ((rd_T39 l1 x5_1).f0)) || (!(((rd_T39 l0 x5_1).f1) == ((rd_T39 l1 x5_1).f1)))) = true := c7
        clear c7
        obtain rfl := Option.some.inj H
        have p680 : 0 ≤ (x5_1 : Int) := of_decide_eq_true aS_
        have q680 : x5_1 < (l0.length : Int) := of_decide_eq_true aS_
        obtain ⟨ad680, e680, hx680_0, hx680_1⟩ := at_T39 HR0.out x5_1 p680 q680
        cases e680
        replace p680 := eq_true p680
        replace q680 := eq_true q680
        have p681 : 0 ≤ (x5_1 : Int) := of_decide_eq_true aS_
        have q681 : x5_1 < (l1.length : Int) := of_decide_eq_true aS_
        obtain ⟨ad681, e681, hx681_0, hx681_1⟩ := at_T39 HR1.out x5_1 p681 q681
        cases e681
        replace p681 := eq_true p681
        replace q681 := eq_true q681
        go_wp2
        repeat (go_quiet (fail); try go_wp2)
        go_ret
        exact ⟨r3_, by repeat (first | exact Drawn0.refl _ | apply Drawn0.step)⟩
       ·rw [if_neg c7] at H
        have c7b0 : (!(((rd_T39 l0 x5_1).f0) == ((rd_T39 l1 x5_1).f0)) || (!(((rd_T39 l0 x5_1).f1) == ((rd_T39 l1 x5_1).f1)))) = false := by simpa using c7
        clear c7
        have H' := Aside0.mk H
        clear H
        have p680 : 0 ≤ (x5_1 : Int) := of_decide_eq_true aS_
        have q680 : x5_1 < (l0.length : Int) := of_decide_eq_true aS_
        obtain ⟨ad680, e680, hx680_0, hx680_1⟩ := at_T39 HR0.out x5_1 p680 q680
        cases e680
        replace p680 := eq_true p680
        replace q680 := eq_true q680
        have p681 : 0 ≤ (x5_1 : Int) := of_decide_eq_true aS_
        have q681 : x5_1 < (l1.length : Int) := of_decide_eq_true aS_
        obtain ⟨ad681, e681, hx681_0, hx681_1⟩ := at_T39 HR1.out x5_1 p681 q681
        cases e681
        replace p681 := eq_true p681
        replace q681 := eq_true q681
        go_wp2
        repeat (go_quiet (fail); try go_wp2)
        go_roundg k1
        case measure => have := HK1.out; omega
        case rel => exact ⟨(wrap64 (x5_1 + 1)), r3_, H', ⟨by have := HK1.out; omega⟩, by repeat (first | exact Drawn0.refl _ | apply Drawn0.step)⟩
      ·rw [if_neg c6] at H
       exact absurd H (by simp)
     ·rw [if_neg c5] at H
      exact absurd H (by simp)
    ·rw [if_neg c4] at H
     have c4b0 : decide (x5_1 < (l0.length : Int)) = false := decide_eq_false c4
     clear c4
     obtain rfl := Option.some.inj H
     go_wp2
     repeat (go_quiet (fail); try go_wp2)
     go_ret
     exact ⟨r3_, by repeat (first | exact Drawn0.refl _ | apply Drawn0.step)⟩
 ·rw [if_neg c3] at H
  have c3b0 : ((l0.length : Int) == (l1.length : Int)) = false := beq_eq_false_iff_ne.mpr c3
  have c3b1 : ((l0.length : Int) != (l1.length : Int)) = true := bne_iff_ne.mpr c3
  have c3b2 : (l0.length == l1.length) = false := by first | simpa using c3 | (simp at c3 ⊢; omega)
  obtain rfl := Option.some.inj H
  go_enter Tryz.func13, Tryz.ntmps13
  go_wp2
  repeat (go_quiet (fail); try go_wp2)
  go_ret
  exact ⟨r3_, by repeat (first | exact Drawn0.refl _ | apply Drawn0.step)⟩

/-! ### laws_likeShapes: function 11 -/
def laws_likeShapes.l0 : Nat → List (List (S39)) → List (List (S39)) → Int → Option (Bool)
 | 0, _, _, _ => none
 | k + 1, x0, x1, x5 => if x5 < (x0.length : Int) then (if 0 ≤ x5 then (if x5 < (x1.length : Int) then ((laws_likeCells.f k (rd_L3 x0 x5) (rd_L3 x1 x5)).bind fun t684 => (if t684 = true then (laws_likeShapes.l0 k x0 x1 (wrap64 (x5 + 1))) else (some false))) else (none)) else (none)) else (some true)
def laws_likeShapes.f (k : Nat) (l0 : List (List (S39))) (l1 : List (List (S39))) : Option (Bool) := if (l0.length : Int) = (l1.length : Int) then (laws_likeShapes.l0 k l0 l1 0) else (some false)
theorem laws_likeShapes.mono_l : ∀ k, (∀ y0 y1 y2, LeO (laws_likeShapes.l0 k y0 y1 y2) (laws_likeShapes.l0 (k + 1) y0 y1 y2))
 | 0 => fun _ _ _ r h => by simp [laws_likeShapes.l0] at h
 | k + 1 => by
  have ih0 := laws_likeShapes.mono_l k
  ·intro y0 y1 y2
   unfold laws_likeShapes.l0
   repeat' first
   | (with_reducible exact ih0 _ _ _)
   | (with_reducible exact laws_likeCells.mono _ _ _)
   | (with_reducible exact LeO.refl _)
   | (with_reducible exact LeO.none _)
   | (with_reducible refine LeO.ite ?_ ?_)
   | (with_reducible refine LeO.bind ?_ (fun _ => ?_))
   | exact ih0 _ _ _
   | exact laws_likeCells.mono _ _ _
   | exact LeO.none _
   | refine LeO.ite ?_ ?_
   | refine LeO.bind ?_ (fun _ => ?_)
theorem laws_likeShapes.mono : ∀ a0 a1 k, LeO (laws_likeShapes.f k a0 a1) (laws_likeShapes.f (k + 1) a0 a1) := by
 intro a0 a1 k
 have ih0 := laws_likeShapes.mono_l k
 unfold laws_likeShapes.f
 repeat' first
   | (with_reducible exact ih0 _ _ _)
   | (with_reducible exact laws_likeCells.mono _ _ _)
   | (with_reducible exact LeO.refl _)
   | (with_reducible exact LeO.none _)
   | (with_reducible refine LeO.ite ?_ ?_)
   | (with_reducible refine LeO.bind ?_ (fun _ => ?_))
   | exact ih0 _ _ _
   | exact laws_likeCells.mono _ _ _
   | exact LeO.none _
   | refine LeO.ite ?_ ?_
   | refine LeO.bind ?_ (fun _ => ?_)
set_option maxHeartbeats 8000000 in
set_option maxRecDepth 100000 in
theorem laws_likeShapes.calls (k : Nat) (A0 : Option Addr) (c0 : Nat) (l0 : List (List (S39))) (A1 : Option Addr) (c1 : Nat) (l1 : List (List (S39))) (r : Bool) (w : World) (hr0 : Kd.C (Kd.slice 39 k39) w A0 l0.length l0) (hc0 : l0.length ≤ c0) (hr1 : Kd.C (Kd.slice 39 k39) w A1 l1.length l1) (hc1 : l1.length ≤ c1) (h : laws_likeShapes.f k l0 l1 = some r) :
  Calls Tryz.prog 11 #[.slice A0 l0.length c0, .slice A1 l1.length c1] w fun e w' => e = .returned (.bool r) ∧ Drawn0 w w' := by
 have HR0 := Aside0.mk hr0
 have HC0 := Aside0.mk hc0
 clear hr0 hc0
 have HR1 := Aside0.mk hr1
 have HC1 := Aside0.mk hc1
 clear hr1 hc1
 have H : (if (l0.length : Int) = (l1.length : Int) then (laws_likeShapes.l0 k l0 l1 0) else (some false)) = some r := h
 clear h
 by_cases c3 : (l0.length : Int) = (l1.length : Int)
 ·rw [if_pos c3] at H
  have c3b0 : ((l0.length : Int) == (l1.length : Int)) = true := beq_iff_eq.mpr c3
  have c3b1 : ((l0.length : Int) != (l1.length : Int)) = false := bne_eq_false_iff_eq.mpr c3
  have c3b2 : (l0.length == l1.length) = true := by first | simpa using c3 | (simp at c3 ⊢; omega)
  clear c3
  have H' := Aside0.mk H
  clear H
  go_enter Tryz.func11, Tryz.ntmps11
  go_wp2
  repeat (go_quiet (fail); try go_wp2)
  go_loopg [5] k (fun kq v5 w' => ∃ (x5_1 : Int), v5 = .int .i64 x5_1 ∧ Aside0 (laws_likeShapes.l0 kq l0 l1 x5_1 = some r) ∧ Aside0 (kq ≤ k) ∧ Drawn0 w w')
  case atStart => exact ⟨(0), r3_, H', ⟨Nat.le_refl _⟩, by repeat (first | exact Drawn0.refl _ | apply Drawn0.step)⟩
  case round =>
   clear H'
   try clear c1
   try clear p2
   try clear c3
   try clear c3b0
   try clear c3b1
   try clear c3b2
   obtain ⟨x5_1, rfl, HA, HK1, ⟨m1, rfl⟩⟩ := hrel
   cases gk with
   | zero => exact absurd HA.out (by simp [laws_likeShapes.l0])
   | succ k1 =>
    have H := HA.out
    clear HA
    simp only [laws_likeShapes.l0] at H
    by_cases c4 : x5_1 < (l0.length : Int)
    ·rw [if_pos c4] at H
     have c4b0 : decide (x5_1 < (l0.length : Int)) = true := decide_eq_true c4
     clear c4
     by_cases c5 : 0 ≤ x5_1
     ·rw [if_pos c5] at H
      have c5b0 : decide (0 ≤ x5_1) = true := decide_eq_true c5
      clear c5
      by_cases c6 : x5_1 < (l1.length : Int)
      ·rw [if_pos c6] at H
       have c6b0 : decide (x5_1 < (l1.length : Int)) = true := decide_eq_true c6
       clear c6
       replace H := Option.bind_eq_some_iff.mp H
       obtain ⟨t684, A70, H⟩ := H
       try dsimp only at H
       have A7 := Aside0.mk A70
       clear A70
       by_cases c8 : t684 = true
       ·subst c8
        have H1 : (laws_likeShapes.l0 k1 l0 l1 (wrap64 (x5_1 + 1))) = some r := by rw [if_pos rfl] at H; exact H
        clear H
        have H := H1
        clear H1
        have H' := Aside0.mk H
        clear H
        have p682 : 0 ≤ (x5_1 : Int) := of_decide_eq_true aS_
        have q682 : x5_1 < (l0.length : Int) := of_decide_eq_true aS_
        obtain ⟨ad682, A682_0, c682_0, e682, hx682_0, hl682_0, hi682_0⟩ := at_L3 HR0.out x5_1 p682 q682
        cases e682
        have HR682_0 := Aside0.mk hi682_0
        have HC682_0 := Aside0.mk hl682_0
        clear hi682_0 hl682_0
        replace p682 := eq_true p682
        replace q682 := eq_true q682
        have p683 : 0 ≤ (x5_1 : Int) := of_decide_eq_true aS_
        have q683 : x5_1 < (l1.length : Int) := of_decide_eq_true aS_
        obtain ⟨ad683, A683_0, c683_0, e683, hx683_0, hl683_0, hi683_0⟩ := at_L3 HR1.out x5_1 p683 q683
        cases e683
        have HR683_0 := Aside0.mk hi683_0
        have HC683_0 := Aside0.mk hl683_0
        clear hi683_0 hl683_0
        replace p683 := eq_true p683
        replace q683 := eq_true q683
        go_wp2_with (first | (go_at_call 13; (with_reducible refine (laws_likeCells.calls k1 _ _ (rd_L3 l0 x5_1) _ _ (rd_L3 l1 x5_1) true _ ?side1 ?side2 ?side3 ?side4 A7.out).mono ?_); (case side1 => exact cS_ HR682_0.out); (case side2 => exact HC682_0.out); (case side3 => exact cS_ HR683_0.out); (case side4 => exact HC683_0.out); rintro e w' ⟨rfl, ⟨nd, rfl⟩⟩; (try first | exact ⟨rfl, _, World.drewN_drewN _ _ _⟩ | exact ⟨rfl, _, Eq.trans (World.drewN_drewN _ _ _) (congrArg (World.drewN _) (Nat.add_assoc _ _ _))⟩)))
        repeat (go_quiet (first | (go_at_call 13; (with_reducible refine (laws_likeCells.calls k1 _ _ (rd_L3 l0 x5_1) _ _ (rd_L3 l1 x5_1) true _ ?side1 ?side2 ?side3 ?side4 A7.out).mono ?_); (case side1 => exact cS_ HR682_0.out); (case side2 => exact HC682_0.out); (case side3 => exact cS_ HR683_0.out); (case side4 => exact HC683_0.out); rintro e w' ⟨rfl, ⟨nd, rfl⟩⟩; (try first | exact ⟨rfl, _, World.drewN_drewN _ _ _⟩ | exact ⟨rfl, _, Eq.trans (World.drewN_drewN _ _ _) (congrArg (World.drewN _) (Nat.add_assoc _ _ _))⟩))); try go_wp2_with (first | (go_at_call 13; (with_reducible refine (laws_likeCells.calls k1 _ _ (rd_L3 l0 x5_1) _ _ (rd_L3 l1 x5_1) true _ ?side1 ?side2 ?side3 ?side4 A7.out).mono ?_); (case side1 => exact cS_ HR682_0.out); (case side2 => exact HC682_0.out); (case side3 => exact cS_ HR683_0.out); (case side4 => exact HC683_0.out); rintro e w' ⟨rfl, ⟨nd, rfl⟩⟩; (try first | exact ⟨rfl, _, World.drewN_drewN _ _ _⟩ | exact ⟨rfl, _, Eq.trans (World.drewN_drewN _ _ _) (congrArg (World.drewN _) (Nat.add_assoc _ _ _))⟩))))
        go_roundg k1
        case measure => have := HK1.out; omega
        case rel => exact ⟨(wrap64 (x5_1 + 1)), r3_, H', ⟨by have := HK1.out; omega⟩, by repeat (first | exact Drawn0.refl _ | apply Drawn0.step)⟩
       ·replace c8 := Bool.eq_false_iff.mpr c8
        subst c8
        have H1 : (some false) = some r := by rw [if_neg (show ¬ (false = true) by decide)] at H; exact H
        clear H
        have H := H1
        clear H1
        obtain rfl := Option.some.inj H
        have p682 : 0 ≤ (x5_1 : Int) := of_decide_eq_true aS_
        have q682 : x5_1 < (l0.length : Int) := of_decide_eq_true aS_
        obtain ⟨ad682, A682_0, c682_0, e682, hx682_0, hl682_0, hi682_0⟩ := at_L3 HR0.out x5_1 p682 q682
        cases e682
        have HR682_0 := Aside0.mk hi682_0
        have HC682_0 := Aside0.mk hl682_0
        clear hi682_0 hl682_0
        replace p682 := eq_true p682
        replace q682 := eq_true q682
        have p683 : 0 ≤ (x5_1 : Int) := of_decide_eq_true aS_
        have q683 : x5_1 < (l1.length : Int) := of_decide_eq_true aS_
        obtain ⟨ad683, A683_0, c683_0, e683, hx683_0, hl683_0, hi683_0⟩ := at_L3 HR1.out x5_1 p683 q683
        cases e683
        have HR683_0 := Aside0.mk hi683_0
        have HC683_0 := Aside0.mk hl683_0
        clear hi683_0 hl683_0
        replace p683 := eq_true p683
        replace q683 := eq_true q683
        go_wp2_with (first | (go_at_call 13; (with_reducible refine (laws_likeCells.calls k1 _ _ (rd_L3 l0 x5_1) _ _ (rd_L3 l1 x5_1) false _ ?side1 ?side2 ?side3 ?side4 A7.out).mono ?_); (case side1 => exact cS_ HR682_0.out); (case side2 => exact HC682_0.out); (case side3 => exact cS_ HR683_0.out); (case side4 => exact HC683_0.out); rintro e w' ⟨rfl, ⟨nd, rfl⟩⟩; (try first | exact ⟨rfl, _, World.drewN_drewN _ _ _⟩ | exact ⟨rfl, _, Eq.trans (World.drewN_drewN _ _ _) (congrArg (World.drewN _) (Nat.add_assoc _ _ _))⟩)))
        repeat (go_quiet (first | (go_at_call 13; (with_reducible refine (laws_likeCells.calls k1 _ _ (rd_L3 l0 x5_1) _ _ (rd_L3 l1 x5_1) false _ ?side1 ?side2 ?side3 ?side4 A7.out).mono ?_); (case side1 => exact cS_ HR682_0.out); (case side2 => exact HC682_0.out); (case side3 => exact cS_ HR683_0.out); (case side4 => exact HC683_0.out); rintro e w' ⟨rfl, ⟨nd, rfl⟩⟩; (try first | exact ⟨rfl, _, World.drewN_drewN _ _ _⟩ | exact ⟨rfl, _, Eq.trans (World.drewN_drewN _ _ _) (congrArg (World.drewN _) (Nat.add_assoc _ _ _))⟩))); try go_wp2_with (first | (go_at_call 13; (with_reducible refine (laws_likeCells.calls k1 _ _ (rd_L3 l0 x5_1) _ _ (rd_L3 l1 x5_1) false _ ?side1 ?side2 ?side3 ?side4 A7.out).mono ?_); (case side1 => exact cS_ HR682_0.out); (case side2 => exact HC682_0.out); (case side3 => exact cS_ HR683_0.out); (case side4 => exact HC683_0.out); rintro e w' ⟨rfl, ⟨nd, rfl⟩⟩; (try first | exact ⟨rfl, _, World.drewN_drewN _ _ _⟩ | exact ⟨rfl, _, Eq.trans (World.drewN_drewN _ _ _) (congrArg (World.drewN _) (Nat.add_assoc _ _ _))⟩))))
        go_ret
        exact ⟨r3_, by repeat (first | exact Drawn0.refl _ | apply Drawn0.step)⟩
      ·rw [if_neg c6] at H
       exact absurd H (by simp)
     ·rw [if_neg c5] at H
      exact absurd H (by simp)
    ·rw [if_neg c4] at H
     have c4b0 : decide (x5_1 < (l0.length : Int)) = false := decide_eq_false c4
     clear c4
     obtain rfl := Option.some.inj H
     go_wp2
     repeat (go_quiet (fail); try go_wp2)
     go_ret
     exact ⟨r3_, by repeat (first | exact Drawn0.refl _ | apply Drawn0.step)⟩
 ·rw [if_neg c3] at H
  have c3b0 : ((l0.length : Int) == (l1.length : Int)) = false := beq_eq_false_iff_ne.mpr c3
  have c3b1 : ((l0.length : Int) != (l1.length : Int)) = true := bne_iff_ne.mpr c3
  have c3b2 : (l0.length == l1.length) = false := by first | simpa using c3 | (simp at c3 ⊢; omega)
  obtain rfl := Option.some.inj H
  go_enter Tryz.func11, Tryz.ntmps11
  go_wp2
  repeat (go_quiet (fail); try go_wp2)
  go_ret
  exact ⟨r3_, by repeat (first | exact Drawn0.refl _ | apply Drawn0.step)⟩

/-! ### impl_NormalForm: function 12 -/
def impl_NormalForm.f (k : Nat) (l0 : List (S39)) : Option ((List (S39)) × Int) := (impl_IsShape.f k l0).bind fun t685 => (if t685 = true then ((impl_normal.f k l0).bind fun t686 => ((impl_IsShape.f k t686).bind fun t689 => (if t689 = true then (some (t686, 0)) else (some (([] : List (S39)), 3))))) else (some (([] : List (S39)), 1)))
theorem impl_NormalForm.mono : ∀ a0 k, LeO (impl_NormalForm.f k a0) (impl_NormalForm.f (k + 1) a0) := by
 intro a0 k
 unfold impl_NormalForm.f
 repeat' first
   | (with_reducible exact impl_IsShape.mono _ _)
   | (with_reducible exact impl_normal.mono _ _)
   | (with_reducible exact LeO.refl _)
   | (with_reducible exact LeO.none _)
   | (with_reducible refine LeO.ite ?_ ?_)
   | (with_reducible refine LeO.bind ?_ (fun _ => ?_))
   | exact impl_IsShape.mono _ _
   | exact impl_normal.mono _ _
   | exact LeO.none _
   | refine LeO.ite ?_ ?_
   | refine LeO.bind ?_ (fun _ => ?_)
set_option maxHeartbeats 8000000 in
set_option maxRecDepth 100000 in
theorem impl_NormalForm.calls (k : Nat) (A0 : Option Addr) (c0 : Nat) (l0 : List (S39)) (r1 : List (S39)) (r2 : Int) (w : World) (hr0 : Kd.C k39 w A0 l0.length l0) (hc0 : l0.length ≤ c0) (h : impl_NormalForm.f k l0 = some (r1, r2)) :
  Calls Tryz.prog 12 #[.slice A0 l0.length c0] w fun e w' => ∃ v0_ : Value, e = .returned (.tuple #[v0_, .int .i64 r2]) ∧ Kd.R k39 39 w' w.heap.size (fun _ => True) v0_ r1 ∧ Below w.heap.size w w' := by
 have HR0 := Aside0.mk hr0
 have HC0 := Aside0.mk hc0
 clear hr0 hc0
 have HB := Aside0.mk (Below.refl w.heap.size w)
 have H : ((impl_IsShape.f k l0).bind fun t685 => (if t685 = true then ((impl_normal.f k l0).bind fun t686 => ((impl_IsShape.f k t686).bind fun t689 => (if t689 = true then (some (t686, 0)) else (some (([] : List (S39)), 3))))) else (some (([] : List (S39)), 1)))) = some (r1, r2) := h
 clear h
 replace H := Option.bind_eq_some_iff.mp H
 obtain ⟨t685, A20, H⟩ := H
 try dsimp only at H
 have A2 := Aside0.mk A20
 clear A20
 by_cases c3 : t685 = true
 ·subst c3
  have H1 : ((impl_normal.f k l0).bind fun t686 => ((impl_IsShape.f k t686).bind fun t689 => (if t689 = true then (some (t686, 0)) else (some (([] : List (S39)), 3))))) = some (r1, r2) := by rw [if_pos rfl] at H; exact H
  clear H
  have H := H1
  clear H1
  replace H := Option.bind_eq_some_iff.mp H
  obtain ⟨t686, A40, H⟩ := H
  try dsimp only at H
  have A4 := Aside0.mk A40
  clear A40
  replace H := Option.bind_eq_some_iff.mp H
  obtain ⟨t689, A50, H⟩ := H
  try dsimp only at H
  have A5 := Aside0.mk A50
  clear A50
  by_cases c6 : t689 = true
  ·subst c6
   have H1 : (some (t686, 0)) = some (r1, r2) := by rw [if_pos rfl] at H; exact H
   clear H
   have H := H1
   clear H1
   simp only [Option.some.injEq, Prod.mk.injEq] at H
   obtain ⟨rfl, rfl⟩ := H
   go_enter Tryz.func12, Tryz.ntmps12
   go_wp2_with (first | ((with_reducible refine gate_callee (f := 33) rfl ?_); refine gL_ (some 6) Tryz.func33 #[.slice A0 l0.length c0] ?_; (with_reducible refine (impl_IsShape.calls k _ _ l0 true _ ?side1 ?side2 A2.out).mono ?_); (case side1 => exact cS_ HR0.out); (case side2 => exact HC0.out); rintro e w7 ⟨rfl, hb⟩; refine ⟨_, rfl, ?_⟩; replace HB := Aside0.mk (below_step bB_ hb); (try clear hb)) | ((with_reducible refine gate_callee (f := 21) rfl ?_); refine gL_ (some 9) Tryz.func21 #[.slice A0 l0.length c0] ?_; (with_reducible refine (impl_normal.calls k _ _ l0 t686 _ ?side1 ?side2 A4.out).mono ?_); (case side1 => exact cS_ (Kd.C_below HR0.out HB.out)); (case side2 => exact HC0.out); rintro e w8 ⟨v687, rfl, ho0, hb⟩; refine ⟨_, rfl, ?_⟩; have HO688 := Aside0.mk (Kd.R_lower ho0 (below_size bB_)); replace HB := Aside0.mk (below_step bB_ hb); (try clear hb ho0); obtain ⟨Ao9, co9, eo9⟩ := Kd.R_slice HO688.out; subst eo9) | ((with_reducible refine gate_callee (f := 33) rfl ?_); refine gL_ (some 11) Tryz.func33 #[.slice Ao9 t686.length co9] ?_; (with_reducible refine (impl_IsShape.calls k _ _ t686 true _ ?side1 ?side2 A5.out).mono ?_); (case side1 => exact cS_ ((Kd.R_reads' HO688.out).2.2)); (case side2 => exact (Kd.R_reads' HO688.out).2.1); rintro e w10 ⟨rfl, hb⟩; refine ⟨_, rfl, ?_⟩; replace HO688 := Aside0.mk (Kd.R_below (rS_ HO688.out) hb); replace HB := Aside0.mk (below_step bB_ hb); (try clear hb)))
   go_ret2
   exact ⟨_, r2_, rS_ HO688.out, bB_⟩
  ·replace c6 := Bool.eq_false_iff.mpr c6
   subst c6
   have H1 : (some (([] : List (S39)), 3)) = some (r1, r2) := by rw [if_neg (show ¬ (false = true) by decide)] at H; exact H
   clear H
   have H := H1
   clear H1
   simp only [Option.some.injEq, Prod.mk.injEq] at H
   obtain ⟨rfl, rfl⟩ := H
   go_enter Tryz.func12, Tryz.ntmps12
   go_wp2_with (first | ((with_reducible refine gate_callee (f := 33) rfl ?_); refine gL_ (some 6) Tryz.func33 #[.slice A0 l0.length c0] ?_; (with_reducible refine (impl_IsShape.calls k _ _ l0 true _ ?side1 ?side2 A2.out).mono ?_); (case side1 => exact cS_ HR0.out); (case side2 => exact HC0.out); rintro e w11 ⟨rfl, hb⟩; refine ⟨_, rfl, ?_⟩; replace HB := Aside0.mk (below_step bB_ hb); (try clear hb)) | ((with_reducible refine gate_callee (f := 21) rfl ?_); refine gL_ (some 9) Tryz.func21 #[.slice A0 l0.length c0] ?_; (with_reducible refine (impl_normal.calls k _ _ l0 t686 _ ?side1 ?side2 A4.out).mono ?_); (case side1 => exact cS_ (Kd.C_below HR0.out HB.out)); (case side2 => exact HC0.out); rintro e w12 ⟨v687, rfl, ho0, hb⟩; refine ⟨_, rfl, ?_⟩; have HO688 := Aside0.mk (Kd.R_lower ho0 (below_size bB_)); replace HB := Aside0.mk (below_step bB_ hb); (try clear hb ho0); obtain ⟨Ao13, co13, eo13⟩ := Kd.R_slice HO688.out; subst eo13) | ((with_reducible refine gate_callee (f := 33) rfl ?_); refine gL_ (some 11) Tryz.func33 #[.slice Ao13 t686.length co13] ?_; (with_reducible refine (impl_IsShape.calls k _ _ t686 false _ ?side1 ?side2 A5.out).mono ?_); (case side1 => exact cS_ ((Kd.R_reads' HO688.out).2.2)); (case side2 => exact (Kd.R_reads' HO688.out).2.1); rintro e w14 ⟨rfl, hb⟩; refine ⟨_, rfl, ?_⟩; replace HO688 := Aside0.mk (Kd.R_below (rS_ HO688.out) hb); replace HB := Aside0.mk (below_step bB_ hb); (try clear hb)))
   go_ret2
   exact ⟨_, r2_, by first | exact Kd.R_nil _ _ _ _ _ | exact Kd.N_nil _ _ _ _ _ | exact Kd.V_nil _ _ _ _ _ | exact Kd.Q_nil _ _ _ _ _ | exact Kd.S_nil _ _ _ _ _, bB_⟩
 ·replace c3 := Bool.eq_false_iff.mpr c3
  subst c3
  have H1 : (some (([] : List (S39)), 1)) = some (r1, r2) := by rw [if_neg (show ¬ (false = true) by decide)] at H; exact H
  clear H
  have H := H1
  clear H1
  simp only [Option.some.injEq, Prod.mk.injEq] at H
  obtain ⟨rfl, rfl⟩ := H
  go_enter Tryz.func12, Tryz.ntmps12
  go_wp2_with (first | ((with_reducible refine gate_callee (f := 33) rfl ?_); refine gL_ (some 6) Tryz.func33 #[.slice A0 l0.length c0] ?_; (with_reducible refine (impl_IsShape.calls k _ _ l0 false _ ?side1 ?side2 A2.out).mono ?_); (case side1 => exact cS_ HR0.out); (case side2 => exact HC0.out); rintro e w15 ⟨rfl, hb⟩; refine ⟨_, rfl, ?_⟩; replace HB := Aside0.mk (below_step bB_ hb); (try clear hb)))
  go_ret2
  exact ⟨_, r2_, by first | exact Kd.R_nil _ _ _ _ _ | exact Kd.N_nil _ _ _ _ _ | exact Kd.V_nil _ _ _ _ _ | exact Kd.Q_nil _ _ _ _ _ | exact Kd.S_nil _ _ _ _ _, bB_⟩

/-! ### laws_FnGrown: function 3 -/
mutual
def laws_FnGrown.j0 : Nat → List (S39) → List (List (S39)) → Int → Bool → Option (Bool)
 | 0, _, _, _, _ => none
 | k + 1, x3, x4, x5, x65 => if x65 = true then (some false) else (if x5 = 0 then ((impl_NormalForm.f k x3).bind fun bt715 => (laws_FnGrown.l0 k x4 bt715.1 bt715.2 0)) else (some true))
def laws_FnGrown.l0 : Nat → List (List (S39)) → List (S39) → Int → Int → Option (Bool)
 | 0, _, _, _, _ => none
 | k + 1, x4, x13, x14, x15 => if x15 < (x4.length : Int) then (if 0 ≤ x15 then ((impl_GrowShape.f k (rd_L3 x4 x15)).bind fun bt720 => (if bt720.2 = 5 then (laws_FnGrown.l0 k x4 x13 x14 (wrap64 (x15 + 1))) else (laws_FnGrown.l1 k x4 x13 x14 x15 bt720.1 bt720.2 false 0))) else (none)) else (if x14 = 0 then (some (decide ((x4.length : Int) > 0))) else (some false))
def laws_FnGrown.l1 : Nat → List (List (S39)) → List (S39) → Int → Int → List (List (S39)) → Int → Bool → Int → Option (Bool)
 | 0, _, _, _, _, _, _, _, _ => none
 | k + 1, x4, x13, x14, x15, x16, x17, x18, x19 => if x19 < (x16.length : Int) then (if x18 = true then (laws_FnGrown.l1 k x4 x13 x14 x15 x16 x17 true (wrap64 (x19 + 1))) else (if 0 ≤ x19 then ((laws_likeCells.f k (rd_L3 x16 x19) x13).bind fun t725 => (laws_FnGrown.l1 k x4 x13 x14 x15 x16 x17 t725 (wrap64 (x19 + 1)))) else (none))) else (if x17 = 0 then (if x18 = true then (laws_FnGrown.l0 k x4 x13 x14 (wrap64 (x15 + 1))) else (some false)) else (some false))
end
def laws_FnGrown.f (k : Nat) (l0 : List Int) : Option (Bool) := (laws_big.f l0).bind fun t690 => (if t690 = true then (some true) else ((spec_DrawShrinkShape.f k l0).bind fun t691 => ((impl_ShrinkShape.f k t691).bind fun bt694 => ((spec_ShrinkShape.f k t691).bind fun bt698 => ((spec_DrawGrowShape.f k l0).bind fun t702 => ((impl_GrowShape.f k t702).bind fun bt705 => ((spec_GrowShape.f k t702).bind fun bt709 => (if bt694.2 = bt698.2 then ((laws_likeShapes.f k bt694.1 bt698.1).bind fun t713 => (if t713 = true then (if bt705.2 = bt709.2 then ((laws_likeShapes.f k bt705.1 bt709.1).bind fun t714 => (laws_FnGrown.j0 k t691 bt694.1 bt694.2 (!t714))) else (laws_FnGrown.j0 k t691 bt694.1 bt694.2 true)) else (laws_FnGrown.j0 k t691 bt694.1 bt694.2 true))) else (laws_FnGrown.j0 k t691 bt694.1 bt694.2 true)))))))))
theorem laws_FnGrown.mono_l : ∀ k, (∀ y0 y1 y2 y3, LeO (laws_FnGrown.j0 k y0 y1 y2 y3) (laws_FnGrown.j0 (k + 1) y0 y1 y2 y3)) ∧ (∀ y0 y1 y2 y3, LeO (laws_FnGrown.l0 k y0 y1 y2 y3) (laws_FnGrown.l0 (k + 1) y0 y1 y2 y3)) ∧ (∀ y0 y1 y2 y3 y4 y5 y6 y7, LeO (laws_FnGrown.l1 k y0 y1 y2 y3 y4 y5 y6 y7) (laws_FnGrown.l1 (k + 1) y0 y1 y2 y3 y4 y5 y6 y7))
 | 0 => ⟨fun _ _ _ _ r h => by simp [laws_FnGrown.j0] at h, fun _ _ _ _ r h => by simp [laws_FnGrown.l0] at h, fun _ _ _ _ _ _ _ _ r h => by simp [laws_FnGrown.l1] at h⟩
 | k + 1 => by
  obtain ⟨ih0, ih1, ih2⟩ := laws_FnGrown.mono_l k
  refine ⟨?_, ?_, ?_⟩
  ·intro y0 y1 y2 y3
   unfold laws_FnGrown.j0
   repeat' first
   | (with_reducible exact ih0 _ _ _ _)
   | (with_reducible exact ih1 _ _ _ _)
   | (with_reducible exact ih2 _ _ _ _ _ _ _ _)
   | (with_reducible exact impl_GrowShape.mono _ _)
   | (with_reducible exact impl_NormalForm.mono _ _)
   | (with_reducible exact impl_ShrinkShape.mono _ _)
   | (with_reducible exact laws_likeCells.mono _ _ _)
   | (with_reducible exact laws_likeShapes.mono _ _ _)
   | (with_reducible exact spec_DrawGrowShape.mono _ _)
   | (with_reducible exact spec_DrawShrinkShape.mono _ _)
   | (with_reducible exact spec_GrowShape.mono _ _)
   | (with_reducible exact spec_ShrinkShape.mono _ _)
   | (with_reducible exact LeO.refl _)
   | (with_reducible exact LeO.none _)
   | (with_reducible refine LeO.ite ?_ ?_)
   | (with_reducible refine LeO.bind ?_ (fun _ => ?_))
   | exact ih0 _ _ _ _
   | exact ih1 _ _ _ _
   | exact ih2 _ _ _ _ _ _ _ _
   | exact impl_GrowShape.mono _ _
   | exact impl_NormalForm.mono _ _
   | exact impl_ShrinkShape.mono _ _
   | exact laws_likeCells.mono _ _ _
   | exact laws_likeShapes.mono _ _ _
   | exact spec_DrawGrowShape.mono _ _
   | exact spec_DrawShrinkShape.mono _ _
   | exact spec_GrowShape.mono _ _
   | exact spec_ShrinkShape.mono _ _
   | exact LeO.none _
   | refine LeO.ite ?_ ?_
   | refine LeO.bind ?_ (fun _ => ?_)
  ·intro y0 y1 y2 y3
   unfold laws_FnGrown.l0
   repeat' first
   | (with_reducible exact ih0 _ _ _ _)
   | (with_reducible exact ih1 _ _ _ _)
   | (with_reducible exact ih2 _ _ _ _ _ _ _ _)
   | (with_reducible exact impl_GrowShape.mono _ _)
   | (with_reducible exact impl_NormalForm.mono _ _)
   | (with_reducible exact impl_ShrinkShape.mono _ _)
   | (with_reducible exact laws_likeCells.mono _ _ _)
   | (with_reducible exact laws_likeShapes.mono _ _ _)
   | (with_reducible exact spec_DrawGrowShape.mono _ _)
   | (with_reducible exact spec_DrawShrinkShape.mono _ _)
   | (with_reducible exact spec_GrowShape.mono _ _)
   | (with_reducible exact spec_ShrinkShape.mono _ _)
   | (with_reducible exact LeO.refl _)
   | (with_reducible exact LeO.none _)
   | (with_reducible refine LeO.ite ?_ ?_)
   | (with_reducible refine LeO.bind ?_ (fun _ => ?_))
   | exact ih0 _ _ _ _
   | exact ih1 _ _ _ _
   | exact ih2 _ _ _ _ _ _ _ _
   | exact impl_GrowShape.mono _ _
   | exact impl_NormalForm.mono _ _
   | exact impl_ShrinkShape.mono _ _
   | exact laws_likeCells.mono _ _ _
   | exact laws_likeShapes.mono _ _ _
   | exact spec_DrawGrowShape.mono _ _
   | exact spec_DrawShrinkShape.mono _ _
   | exact spec_GrowShape.mono _ _
   | exact spec_ShrinkShape.mono _ _
   | exact LeO.none _
   | refine LeO.ite ?_ ?_
   | refine LeO.bind ?_ (fun _ => ?_)
  ·intro y0 y1 y2 y3 y4 y5 y6 y7
   unfold laws_FnGrown.l1
   repeat' first
   | (with_reducible exact ih0 _ _ _ _)
   | (with_reducible exact ih1 _ _ _ _)
   | (with_reducible exact ih2 _ _ _ _ _ _ _ _)
   | (with_reducible exact impl_GrowShape.mono _ _)
   | (with_reducible exact impl_NormalForm.mono _ _)
   | (with_reducible exact impl_ShrinkShape.mono _ _)
   | (with_reducible exact laws_likeCells.mono _ _ _)
   | (with_reducible exact laws_likeShapes.mono _ _ _)
   | (with_reducible exact spec_DrawGrowShape.mono _ _)
   | (with_reducible exact spec_DrawShrinkShape.mono _ _)
   | (with_reducible exact spec_GrowShape.mono _ _)
   | (with_reducible exact spec_ShrinkShape.mono _ _)
   | (with_reducible exact LeO.refl _)
   | (with_reducible exact LeO.none _)
   | (with_reducible refine LeO.ite ?_ ?_)
   | (with_reducible refine LeO.bind ?_ (fun _ => ?_))
   | exact ih0 _ _ _ _
   | exact ih1 _ _ _ _
   | exact ih2 _ _ _ _ _ _ _ _
   | exact impl_GrowShape.mono _ _
   | exact impl_NormalForm.mono _ _
   | exact impl_ShrinkShape.mono _ _
   | exact laws_likeCells.mono _ _ _
   | exact laws_likeShapes.mono _ _ _
   | exact spec_DrawGrowShape.mono _ _
   | exact spec_DrawShrinkShape.mono _ _
   | exact spec_GrowShape.mono _ _
   | exact spec_ShrinkShape.mono _ _
   | exact LeO.none _
   | refine LeO.ite ?_ ?_
   | refine LeO.bind ?_ (fun _ => ?_)
theorem laws_FnGrown.mono : ∀ a0 k, LeO (laws_FnGrown.f k a0) (laws_FnGrown.f (k + 1) a0) := by
 intro a0 k
 obtain ⟨ih0, ih1, ih2⟩ := laws_FnGrown.mono_l k
 unfold laws_FnGrown.f
 repeat' first
   | (with_reducible exact ih0 _ _ _ _)
   | (with_reducible exact ih1 _ _ _ _)
   | (with_reducible exact ih2 _ _ _ _ _ _ _ _)
   | (with_reducible exact impl_GrowShape.mono _ _)
   | (with_reducible exact impl_NormalForm.mono _ _)
   | (with_reducible exact impl_ShrinkShape.mono _ _)
   | (with_reducible exact laws_likeCells.mono _ _ _)
   | (with_reducible exact laws_likeShapes.mono _ _ _)
   | (with_reducible exact spec_DrawGrowShape.mono _ _)
   | (with_reducible exact spec_DrawShrinkShape.mono _ _)
   | (with_reducible exact spec_GrowShape.mono _ _)
   | (with_reducible exact spec_ShrinkShape.mono _ _)
   | (with_reducible exact LeO.refl _)
   | (with_reducible exact LeO.none _)
   | (with_reducible refine LeO.ite ?_ ?_)
   | (with_reducible refine LeO.bind ?_ (fun _ => ?_))
   | exact ih0 _ _ _ _
   | exact ih1 _ _ _ _
   | exact ih2 _ _ _ _ _ _ _ _
   | exact impl_GrowShape.mono _ _
   | exact impl_NormalForm.mono _ _
   | exact impl_ShrinkShape.mono _ _
   | exact laws_likeCells.mono _ _ _
   | exact laws_likeShapes.mono _ _ _
   | exact spec_DrawGrowShape.mono _ _
   | exact spec_DrawShrinkShape.mono _ _
   | exact spec_GrowShape.mono _ _
   | exact spec_ShrinkShape.mono _ _
   | exact LeO.none _
   | refine LeO.ite ?_ ?_
   | refine LeO.bind ?_ (fun _ => ?_)
set_option maxHeartbeats 8000000 in
set_option maxRecDepth 100000 in
theorem laws_FnGrown.calls (k : Nat) (A0 : Option Addr) (c0 : Nat) (l0 : List Int) (r : Bool) (w : World) (hr0 : Kd.C (Kd.int .u8) w A0 l0.length l0) (hc0 : l0.length ≤ c0) (h : laws_FnGrown.f k l0 = some r) :
  Calls Tryz.prog 3 #[.slice A0 l0.length c0] w fun e w' => e = .returned (.bool r) ∧ Below w.heap.size w w' := by
 have HR0 := Aside0.mk hr0
 have HC0 := Aside0.mk hc0
 clear hr0 hc0
 have HB := Aside0.mk (Below.refl w.heap.size w)
 have H : ((laws_big.f l0).bind fun t690 => (if t690 = true then (some true) else ((spec_DrawShrinkShape.f k l0).bind fun t691 => ((impl_ShrinkShape.f k t691).bind fun bt694 => ((spec_ShrinkShape.f k t691).bind fun bt698 => ((spec_DrawGrowShape.f k l0).bind fun t702 => ((impl_GrowShape.f k t702).bind fun bt705 => ((spec_GrowShape.f k t702).bind fun bt709 => (if bt694.2 = bt698.2 then ((laws_likeShapes.f k bt694.1 bt698.1).bind fun t713 => (if t713 = true then (if bt705.2 = bt709.2 then ((laws_likeShapes.f k bt705.1 bt709.1).bind fun t714 => (laws_FnGrown.j0 k t691 bt694.1 bt694.2 (!t714))) else (laws_FnGrown.j0 k t691 bt694.1 bt694.2 true)) else (laws_FnGrown.j0 k t691 bt694.1 bt694.2 true))) else (laws_FnGrown.j0 k t691 bt694.1 bt694.2 true)))))))))) = some r := h
 clear h
 replace H := Option.bind_eq_some_iff.mp H
 obtain ⟨t690, A20, H⟩ := H
 try dsimp only at H
 have A2 := Aside0.mk A20
 clear A20
 by_cases c3 : t690 = true
 ·subst c3
  have H1 : (some true) = some r := by rw [if_pos rfl] at H; exact H
  clear H
  have H := H1
  clear H1
  obtain rfl := Option.some.inj H
  go_enter Tryz.func3, Tryz.ntmps3
  go_wp2_with (first | ((with_reducible refine gate_callee (f := 4) rfl ?_); refine gL_ (some 21) Tryz.func4 #[.slice A0 l0.length c0] ?_; (with_reducible refine (laws_big.calls _ _ l0 true _ ?side1 ?side2 A2.out).mono ?_); (case side1 => exact cS_ HR0.out); (case side2 => exact HC0.out); rintro e w' ⟨rfl, ⟨nd, rfl⟩⟩; refine ⟨_, rfl, ?_⟩))
  go_ret
  exact ⟨r2_, bB_⟩
 ·replace c3 := Bool.eq_false_iff.mpr c3
  subst c3
  have H1 : ((spec_DrawShrinkShape.f k l0).bind fun t691 => ((impl_ShrinkShape.f k t691).bind fun bt694 => ((spec_ShrinkShape.f k t691).bind fun bt698 => ((spec_DrawGrowShape.f k l0).bind fun t702 => ((impl_GrowShape.f k t702).bind fun bt705 => ((spec_GrowShape.f k t702).bind fun bt709 => (if bt694.2 = bt698.2 then ((laws_likeShapes.f k bt694.1 bt698.1).bind fun t713 => (if t713 = true then (if bt705.2 = bt709.2 then ((laws_likeShapes.f k bt705.1 bt709.1).bind fun t714 => (laws_FnGrown.j0 k t691 bt694.1 bt694.2 (!t714))) else (laws_FnGrown.j0 k t691 bt694.1 bt694.2 true)) else (laws_FnGrown.j0 k t691 bt694.1 bt694.2 true))) else (laws_FnGrown.j0 k t691 bt694.1 bt694.2 true)))))))) = some r := by rw [if_neg (show ¬ (false = true) by decide)] at H; exact H
  clear H
  have H := H1
  clear H1
  replace H := Option.bind_eq_some_iff.mp H
  obtain ⟨t691, A40, H⟩ := H
  try dsimp only at H
  have A4 := Aside0.mk A40
  clear A40
  replace H := Option.bind_eq_some_iff.mp H
  obtain ⟨⟨t694, t695⟩, A50, H⟩ := H
  try dsimp only at H
  have A5 := Aside0.mk A50
  clear A50
  replace H := Option.bind_eq_some_iff.mp H
  obtain ⟨⟨t698, t701⟩, A60, H⟩ := H
  try dsimp only at H
  have A6 := Aside0.mk A60
  clear A60
  replace H := Option.bind_eq_some_iff.mp H
  obtain ⟨t702, A70, H⟩ := H
  try dsimp only at H
  have A7 := Aside0.mk A70
  clear A70
  replace H := Option.bind_eq_some_iff.mp H
  obtain ⟨⟨t705, t706⟩, A80, H⟩ := H
  try dsimp only at H
  have A8 := Aside0.mk A80
  clear A80
  replace H := Option.bind_eq_some_iff.mp H
  obtain ⟨⟨t709, t712⟩, A90, H⟩ := H
  try dsimp only at H
  have A9 := Aside0.mk A90
  clear A90
  have HC10 := Aside0.mk H
  clear H
  go_enter Tryz.func3, Tryz.ntmps3
  go_upto_region 9 with (first | ((with_reducible refine gate_callee (f := 4) rfl ?_); refine gL_ (some 21) Tryz.func4 #[.slice A0 l0.length c0] ?_; (with_reducible refine (laws_big.calls _ _ l0 false _ ?side1 ?side2 A2.out).mono ?_); (case side1 => exact cS_ HR0.out); (case side2 => exact HC0.out); rintro e w' ⟨rfl, ⟨nd, rfl⟩⟩; refine ⟨_, rfl, ?_⟩) | ((with_reducible refine gate_callee (f := 5) rfl ?_); refine gL_ (some 23) Tryz.func5 #[.slice A0 l0.length c0] ?_; (with_reducible refine (spec_DrawShrinkShape.calls k _ _ l0 t691 _ ?side1 ?side2 A4.out).mono ?_); (case side1 => exact cS_ HR0.out); (case side2 => exact HC0.out); rintro e w11 ⟨v692, rfl, ho0, hb⟩; refine ⟨_, rfl, ?_⟩; have HO693 := Aside0.mk (Kd.R_lower ho0 (below_size bB_)); replace HB := Aside0.mk (below_step bB_ hb); (try clear hb ho0); obtain ⟨Ao12, co12, eo12⟩ := Kd.R_slice HO693.out; subst eo12) | ((with_reducible refine gate_callee (f := 6) rfl ?_); refine gL_ (some 26) Tryz.func6 #[.slice Ao12 t691.length co12] ?_; (with_reducible refine (impl_ShrinkShape.calls k _ _ t691 t694 t695 _ ?side1 ?side2 A5.out).mono ?_); (case side1 => exact cS_ ((Kd.R_reads' HO693.out).2.2)); (case side2 => exact (Kd.R_reads' HO693.out).2.1); rintro e w13 ⟨v696, rfl, ho0, hb⟩; refine ⟨_, rfl, ?_⟩; have HO697 := Aside0.mk (Kd.S_lower (Kd.S_new' ho0 (Kd.R_lt (rS_ HO693.out))) (below_size bB_)); replace HO693 := Aside0.mk (Kd.R_below (rS_ HO693.out) hb); replace HB := Aside0.mk (below_step bB_ hb); (try clear hb ho0)) | ((with_reducible refine gate_callee (f := 7) rfl ?_); refine gL_ (some 31) Tryz.func7 #[.slice Ao12 t691.length co12] ?_; (with_reducible refine (spec_ShrinkShape.calls k _ _ t691 t698 t701 _ ?side1 ?side2 A6.out).mono ?_); (case side1 => exact cS_ ((Kd.R_reads' HO693.out).2.2)); (case side2 => exact (Kd.R_reads' HO693.out).2.1); rintro e w14 ⟨v699, rfl, ho0, hb⟩; refine ⟨_, rfl, ?_⟩; have HO700 := Aside0.mk (Kd.V_lower (Kd.V_mono (ok' := fun k_ => some k_ ≠ (.slice Ao12 t691.length co12 : Value).ownBlock ∧ some k_ ≠ (v696 : Value).ownBlock) ho0 (fun k_ hk_ => ⟨(Kd.fresh' (Kd.R_lt (rS_ HO693.out)) k_ hk_), (Kd.fresh' (Kd.S_lt (sS_ HO697.out)) k_ hk_)⟩)) (below_size bB_)); replace HO693 := Aside0.mk (Kd.R_below (rS_ HO693.out) hb); replace HO697 := Aside0.mk (Kd.S_below (sS_ HO697.out) hb); replace HB := Aside0.mk (below_step bB_ hb); (try clear hb ho0)) | ((with_reducible refine gate_callee (f := 8) rfl ?_); refine gL_ (some 35) Tryz.func8 #[.slice A0 l0.length c0] ?_; (with_reducible refine (spec_DrawGrowShape.calls k _ _ l0 t702 _ ?side1 ?side2 A7.out).mono ?_); (case side1 => exact cS_ (Kd.C_below HR0.out HB.out)); (case side2 => exact HC0.out); rintro e w15 ⟨v703, rfl, ho0, hb⟩; refine ⟨_, rfl, ?_⟩; replace HO697 := Aside0.mk (Kd.S_elder' (sS_ HO697.out) (Kd.R_base ho0) hb); replace HO700 := Aside0.mk (Kd.V_elder' (by (with_reducible repeat (first | apply Kd.V_alloc | apply Kd.V_drewN | apply Kd.V_drew)); exact HO700.out) (Kd.R_base ho0) hb); have HO704 := Aside0.mk (Kd.R_lower (Kd.R_new' ho0 (Kd.R_lt (rS_ HO693.out))) (below_size bB_)); replace HO693 := Aside0.mk (Kd.R_elder' (rS_ HO693.out) (Kd.R_base ho0) hb); replace HB := Aside0.mk (below_step bB_ hb); (try clear hb ho0); obtain ⟨Ao16, co16, eo16⟩ := Kd.R_slice HO704.out; subst eo16) | ((with_reducible refine gate_callee (f := 9) rfl ?_); refine gL_ (some 38) Tryz.func9 #[.slice Ao16 t702.length co16] ?_; (with_reducible refine (impl_GrowShape.calls k _ _ t702 t705 t706 _ ?side1 ?side2 A8.out).mono ?_); (case side1 => exact cS_ ((Kd.R_reads' HO704.out).2.2)); (case side2 => exact (Kd.R_reads' HO704.out).2.1); rintro e w17 ⟨v707, rfl, ho0, hb⟩; refine ⟨_, rfl, ?_⟩; replace HO700 := Aside0.mk (Kd.V_elder' (by (with_reducible repeat (first | apply Kd.V_alloc | apply Kd.V_drewN | apply Kd.V_drew)); exact HO700.out) (Kd.S_base ho0) hb); have HO708 := Aside0.mk (Kd.S_lower (Kd.S_new' (Kd.S_new' (Kd.S_new' ho0 (Kd.R_lt (rS_ HO693.out))) (Kd.S_lt (sS_ HO697.out))) (Kd.R_lt (rS_ HO704.out))) (below_size bB_)); replace HO693 := Aside0.mk (Kd.R_below (rS_ HO693.out) hb); replace HO697 := Aside0.mk (Kd.S_elder' (sS_ HO697.out) (Kd.S_base ho0) hb); replace HO704 := Aside0.mk (Kd.R_below (rS_ HO704.out) hb); replace HB := Aside0.mk (below_step bB_ hb); (try clear hb ho0)) | ((with_reducible refine gate_callee (f := 10) rfl ?_); refine gL_ (some 43) Tryz.func10 #[.slice Ao16 t702.length co16] ?_; (with_reducible refine (spec_GrowShape.calls k _ _ t702 t709 t712 _ ?side1 ?side2 A9.out).mono ?_); (case side1 => exact cS_ ((Kd.R_reads' HO704.out).2.2)); (case side2 => exact (Kd.R_reads' HO704.out).2.1); rintro e w18 ⟨v710, rfl, ho0, hb⟩; refine ⟨_, rfl, ?_⟩; replace HO700 := Aside0.mk (Kd.V_below (by (with_reducible repeat (first | apply Kd.V_alloc | apply Kd.V_drewN | apply Kd.V_drew)); exact HO700.out) hb); have HO711 := Aside0.mk (Kd.V_lower (Kd.V_mono (ok' := fun k_ => some k_ ≠ (.slice Ao12 t691.length co12 : Value).ownBlock ∧ some k_ ≠ (v696 : Value).ownBlock ∧ some k_ ≠ (.slice Ao16 t702.length co16 : Value).ownBlock ∧ some k_ ≠ (v707 : Value).ownBlock) ho0 (fun k_ hk_ => ⟨(Kd.fresh' (Kd.R_lt (rS_ HO693.out)) k_ hk_), (Kd.fresh' (Kd.S_lt (sS_ HO697.out)) k_ hk_), (Kd.fresh' (Kd.R_lt (rS_ HO704.out)) k_ hk_), (Kd.fresh' (Kd.S_lt (sS_ HO708.out)) k_ hk_)⟩)) (below_size bB_)); replace HO693 := Aside0.mk (Kd.R_below (rS_ HO693.out) hb); replace HO697 := Aside0.mk (Kd.S_below (sS_ HO697.out) hb); replace HO704 := Aside0.mk (Kd.R_below (rS_ HO704.out) hb); replace HO708 := Aside0.mk (Kd.S_below (sS_ HO708.out) hb); replace HB := Aside0.mk (below_step bB_ hb); (try clear hb ho0)))
  (try simp only [Act.put, List.setIfInBounds_toArray, List.set_cons_zero, List.set_cons_succ])
  go_cut [65] (fun v65 wc => ∃ (kq : Nat) (x65_9 : Bool), v65 = .bool x65_9 ∧ Aside0 (laws_FnGrown.j0 kq t691 t694 t695 x65_9 = some r) ∧ Aside0 (kq ≤ k) ∧ Aside0 (Kd.R k39 39 wc w.heap.size (fun _ => True) (.slice Ao12 t691.length co12) t691) ∧ Aside0 (Kd.S (Kd.slice 39 k39) 24 wc w.heap.size (fun k_ => some k_ ≠ ((.slice Ao12 t691.length co12) : Value).ownBlock) v696 t694) ∧ Aside0 (Below w.heap.size w wc))
  case first =>
   have H := HC10.out
   clear HC10
   by_cases c19 : t695 = t701
   ·rw [if_pos c19] at H
    have c19b0 : (t695 == t701) = true := beq_iff_eq.mpr c19
    have c19b1 : (t695 != t701) = false := bne_eq_false_iff_eq.mpr c19
    clear c19
    (first | rw [c19b0] | (simp only [i64_w, i32_w]; rw [c19b0]) | skip)
    replace H := Option.bind_eq_some_iff.mp H
    obtain ⟨t713, A200, H⟩ := H
    try dsimp only at H
    have A20 := Aside0.mk A200
    clear A200
    by_cases c21 : t713 = true
    ·subst c21
     have H1 : (if t706 = t712 then ((laws_likeShapes.f k t705 t709).bind fun t714 => (laws_FnGrown.j0 k t691 t694 t695 (!t714))) else (laws_FnGrown.j0 k t691 t694 t695 true)) = some r := by rw [if_pos rfl] at H; exact H
     clear H
     have H := H1
     clear H1
     by_cases c22 : t706 = t712
     ·rw [if_pos c22] at H
      have c22b0 : (t706 == t712) = true := beq_iff_eq.mpr c22
      have c22b1 : (t706 != t712) = false := bne_eq_false_iff_eq.mpr c22
      clear c22
      replace H := Option.bind_eq_some_iff.mp H
      obtain ⟨t714, A230, H⟩ := H
      try dsimp only at H
      have A23 := Aside0.mk A230
      clear A230
      have H' := Aside0.mk H
      clear H
      obtain ⟨Ao24, co24, eo24⟩ := Kd.S_slice HO697.out
      subst eo24
      obtain ⟨Ao25, co25, eo25⟩ := Kd.V_slice HO700.out
      subst eo25
      go_wp2_with (first | (go_at_call 11; (with_reducible refine (laws_likeShapes.calls k _ _ t694 _ _ t698 true _ ?side1 ?side2 ?side3 ?side4 A20.out).mono ?_); (case side1 => exact cS_ ((Kd.S_reads' HO697.out).2.2)); (case side2 => exact (Kd.S_reads' HO697.out).2.1); (case side3 => exact cS_ ((Kd.V_reads' HO700.out).2.2)); (case side4 => exact (Kd.V_reads' HO700.out).2.1); rintro e w' ⟨rfl, ⟨nd, rfl⟩⟩; obtain ⟨Ao26, co26, eo26⟩ := Kd.S_slice HO708.out; subst eo26; obtain ⟨Ao27, co27, eo27⟩ := Kd.V_slice HO711.out; subst eo27) | (go_at_call 11; (with_reducible refine (laws_likeShapes.calls k _ _ t705 _ _ t709 t714 _ ?side1 ?side2 ?side3 ?side4 A23.out).mono ?_); (case side1 => exact cS_ ((Kd.S_reads' HO708.out).2.2)); (case side2 => exact (Kd.S_reads' HO708.out).2.1); (case side3 => exact cS_ ((Kd.V_reads' HO711.out).2.2)); (case side4 => exact (Kd.V_reads' HO711.out).2.1); rintro e w' ⟨rfl, ⟨nd, rfl⟩⟩))
      go_meet
      case rel => exact ⟨_, (!t714), r3_, H', ⟨by first | omega | exact Nat.le_refl _⟩, ⟨rS_ (Kd.R_mono HO693.out (fun _ hk => trivial))⟩, ⟨sS_ (Kd.S_mono HO697.out (fun _ hk => hk.1.1.2))⟩, ⟨bB_⟩⟩
     ·rw [if_neg c22] at H
      have c22b0 : (t706 == t712) = false := beq_eq_false_iff_ne.mpr c22
      have c22b1 : (t706 != t712) = true := bne_iff_ne.mpr c22
      have H' := Aside0.mk H
      clear H
      obtain ⟨Ao28, co28, eo28⟩ := Kd.S_slice HO697.out
      subst eo28
      obtain ⟨Ao29, co29, eo29⟩ := Kd.V_slice HO700.out
      subst eo29
      go_wp2_with (first | (go_at_call 11; (with_reducible refine (laws_likeShapes.calls k _ _ t694 _ _ t698 true _ ?side1 ?side2 ?side3 ?side4 A20.out).mono ?_); (case side1 => exact cS_ ((Kd.S_reads' HO697.out).2.2)); (case side2 => exact (Kd.S_reads' HO697.out).2.1); (case side3 => exact cS_ ((Kd.V_reads' HO700.out).2.2)); (case side4 => exact (Kd.V_reads' HO700.out).2.1); rintro e w' ⟨rfl, ⟨nd, rfl⟩⟩))
      go_meet
      case rel => exact ⟨_, (true), r3_, H', ⟨by first | omega | exact Nat.le_refl _⟩, ⟨rS_ (Kd.R_mono HO693.out (fun _ hk => trivial))⟩, ⟨sS_ (Kd.S_mono HO697.out (fun _ hk => hk.1.1.2))⟩, ⟨bB_⟩⟩
    ·replace c21 := Bool.eq_false_iff.mpr c21
     subst c21
     have H1 : (laws_FnGrown.j0 k t691 t694 t695 true) = some r := by rw [if_neg (show ¬ (false = true) by decide)] at H; exact H
     clear H
     have H := H1
     clear H1
     have H' := Aside0.mk H
     clear H
     obtain ⟨Ao30, co30, eo30⟩ := Kd.S_slice HO697.out
     subst eo30
     obtain ⟨Ao31, co31, eo31⟩ := Kd.V_slice HO700.out
     subst eo31
     go_wp2_with (first | (go_at_call 11; (with_reducible refine (laws_likeShapes.calls k _ _ t694 _ _ t698 false _ ?side1 ?side2 ?side3 ?side4 A20.out).mono ?_); (case side1 => exact cS_ ((Kd.S_reads' HO697.out).2.2)); (case side2 => exact (Kd.S_reads' HO697.out).2.1); (case side3 => exact cS_ ((Kd.V_reads' HO700.out).2.2)); (case side4 => exact (Kd.V_reads' HO700.out).2.1); rintro e w' ⟨rfl, ⟨nd, rfl⟩⟩))
     go_meet
     case rel => exact ⟨_, (true), r3_, H', ⟨by first | omega | exact Nat.le_refl _⟩, ⟨rS_ (Kd.R_mono HO693.out (fun _ hk => trivial))⟩, ⟨sS_ (Kd.S_mono HO697.out (fun _ hk => hk.1.1.2))⟩, ⟨bB_⟩⟩
   ·rw [if_neg c19] at H
    have c19b0 : (t695 == t701) = false := beq_eq_false_iff_ne.mpr c19
    have c19b1 : (t695 != t701) = true := bne_iff_ne.mpr c19
    (first | rw [c19b0] | (simp only [i64_w, i32_w]; rw [c19b0]) | skip)
    have H' := Aside0.mk H
    clear H
    go_wp2
    go_meet
    case rel => exact ⟨_, (true), r3_, H', ⟨by first | omega | exact Nat.le_refl _⟩, ⟨rS_ (Kd.R_mono HO693.out (fun _ hk => trivial))⟩, ⟨sS_ (Kd.S_mono HO697.out (fun _ hk => hk.1.1.2))⟩, ⟨bB_⟩⟩
  case rest =>
   clear HC10
   try clear c1
   try clear c2
   try clear p2
   try clear c3
   try clear c4
   try clear c5
   try clear c6
   try clear c7
   try clear c8
   try clear c9
   try clear c10
   try clear c19
   try clear c19b0
   try clear c19b1
   try clear c21
   try clear c22
   try clear c22b0
   try clear c22b1
   obtain ⟨kq, x65_9, rfl, HA, HJ9, HO_3, HO_4, HB⟩ := hcut
   cases kq with
   | zero => exact absurd HA.out (by simp [laws_FnGrown.j0])
   | succ kj9 =>
    have H := HA.out
    clear HA
    simp only [laws_FnGrown.j0] at H
    by_cases c32 : x65_9 = true
    ·subst c32
     have H1 : (some false) = some r := by rw [if_pos rfl] at H; exact H
     clear H
     have H := H1
     clear H1
     obtain rfl := Option.some.inj H
     go_wp2
     go_ret
     exact ⟨r2_, bB_⟩
    ·replace c32 := Bool.eq_false_iff.mpr c32
     subst c32
     have H1 : (if t695 = 0 then ((impl_NormalForm.f kj9 t691).bind fun bt715 => (laws_FnGrown.l0 kj9 t694 bt715.1 bt715.2 0)) else (some true)) = some r := by rw [if_neg (show ¬ (false = true) by decide)] at H; exact H
     clear H
     have H := H1
     clear H1
     by_cases c33 : t695 = 0
     ·rw [if_pos c33] at H
      have c33b0 : (t695 == 0) = true := beq_iff_eq.mpr c33
      have c33b1 : (t695 != 0) = false := bne_eq_false_iff_eq.mpr c33
      clear c33
      replace H := Option.bind_eq_some_iff.mp H
      obtain ⟨⟨t715, t716⟩, A340, H⟩ := H
      try dsimp only at H
      have A34 := Aside0.mk A340
      clear A340
      have H' := Aside0.mk H
      clear H
      go_wp2_with (first | ((with_reducible refine gate_callee (f := 12) rfl ?_); refine gL_ (some 70) Tryz.func12 #[.slice Ao12 t691.length co12] ?_; (with_reducible refine (impl_NormalForm.calls kj9 _ _ t691 t715 t716 _ ?side1 ?side2 A34.out).mono ?_); (case side1 => exact cS_ ((Kd.R_reads' HO_3.out).2.2)); (case side2 => exact (Kd.R_reads' HO_3.out).2.1); rintro e w35 ⟨v717, rfl, ho0, hb⟩; refine ⟨_, rfl, ?_⟩; replace HO_4 := Aside0.mk (Kd.S_elder' (sS_ HO_4.out) (Kd.R_base ho0) hb); have HO718 := Aside0.mk (Kd.R_lower (Kd.R_new' ho0 (Kd.R_lt (rS_ HO_3.out))) (below_size bB_)); replace HO_3 := Aside0.mk (Kd.R_elder' (rS_ HO_3.out) (Kd.R_base ho0) hb); replace HB := Aside0.mk (below_step bB_ hb); (try clear hb ho0)))
      go_loopg [15] kj9 (fun kq v15 w' => ∃ (x15_2 : Int), v15 = .int .i64 x15_2 ∧ Aside0 (laws_FnGrown.l0 kq t694 t715 t716 x15_2 = some r) ∧ Aside0 (kq ≤ kj9) ∧ Aside0 (Kd.S (Kd.slice 39 k39) 24 w' w.heap.size (fun k_ => some k_ ≠ (v717 : Value).ownBlock) v696 t694) ∧ Aside0 (Kd.R k39 39 w' w.heap.size (fun _ => True) v717 t715) ∧ Aside0 (Below w.heap.size w w'))
      case atStart => exact ⟨(0), r3_, H', ⟨Nat.le_refl _⟩, ⟨sS_ (Kd.S_mono HO_4.out (fun _ hk => hk.2))⟩, ⟨rS_ (Kd.R_mono HO718.out (fun _ hk => trivial))⟩, ⟨bB_⟩⟩
      case round =>
       clear H'
       try clear c1
       try clear c2
       try clear p2
       try clear c3
       try clear c4
       try clear c5
       try clear c6
       try clear c7
       try clear c8
       try clear c9
       try clear c10
       try clear c12
       try clear c19
       try clear c19b0
       try clear c19b1
       try clear c21
       try clear c22
       try clear c22b0
       try clear c22b1
       try clear c32
       try clear c33
       try clear c33b0
       try clear c33b1
       try clear p2
       obtain ⟨x15_2, rfl, HA, HK2, HO_4, HO_13, HB⟩ := hrel
       cases gk with
       | zero => exact absurd HA.out (by simp [laws_FnGrown.l0])
       | succ k2 =>
        have H := HA.out
        clear HA
        simp only [laws_FnGrown.l0] at H
        by_cases c36 : x15_2 < (t694.length : Int)
        ·rw [if_pos c36] at H
         have c36b0 : decide (x15_2 < (t694.length : Int)) = true := decide_eq_true c36
         clear c36
         by_cases c37 : 0 ≤ x15_2
         ·rw [if_pos c37] at H
          have c37b0 : decide (0 ≤ x15_2) = true := decide_eq_true c37
          clear c37
          replace H := Option.bind_eq_some_iff.mp H
          obtain ⟨⟨t720, t721⟩, A380, H⟩ := H
          try dsimp only at H
          have A38 := Aside0.mk A380
          clear A380
          by_cases c39 : t721 = 5
          ·rw [if_pos c39] at H
           have c39b0 : (t721 == 5) = true := beq_iff_eq.mpr c39
           have c39b1 : (t721 != 5) = false := bne_eq_false_iff_eq.mpr c39
           clear c39
           have H' := Aside0.mk H
           clear H
           obtain ⟨Ao40, co40, eo40⟩ := Kd.S_slice HO_4.out
           subst eo40
           have p719 : 0 ≤ (x15_2 : Int) := of_decide_eq_true aS_
           have q719 : x15_2 < (t694.length : Int) := of_decide_eq_true aS_
           obtain ⟨ad719, A719_0, c719_0, e719, hx719_0, hl719_0, hi719_0⟩ := at_L3 (Kd.S_reads' HO_4.out).2.2 x15_2 p719 q719
           cases e719
           obtain ⟨ce719, hce719, hMe719, hcc719⟩ := Kd.S_get HO_4.out [] x15_2 p719 (by first | exact q719 | exact of_decide_eq_true aS_ | (have e_ := (Kd.S_reads' HO_4.out).1; omega))
           obtain ⟨ve719_0, rfl, ge719_0⟩ := hMe719
           have hv719_0 := hcc719 0 _ rfl
           rw [Nat.add_zero, show ((Kd.slice 39 k39)).sz = 1 from rfl, Nat.mul_one] at hv719_0
           replace hv719_0 := Option.some.inj (hv719_0.symm.trans hx719_0)
           rw [hv719_0] at ge719_0
           have HL719_0 := Aside0.mk (show Kd.R k39 39 _ _ _ _ (rd_L3 t694 x15_2) from ge719_0)
           clear hv719_0 ge719_0
           clear hcc719 hce719
           have HR719_0 := Aside0.mk hi719_0
           have HC719_0 := Aside0.mk hl719_0
           clear hi719_0 hl719_0
           replace p719 := eq_true p719
           replace q719 := eq_true q719
           go_wp2_with (first | ((with_reducible refine gate_callee (f := 9) rfl ?_); refine gL_ (some 84) Tryz.func9 #[.slice A719_0 (rd_L3 t694 x15_2).length c719_0] ?_; (with_reducible refine (impl_GrowShape.calls k2 _ _ (rd_L3 t694 x15_2) t720 t721 _ ?side1 ?side2 A38.out).mono ?_); (case side1 => exact cS_ (by repeat (first | (with_reducible exact HR719_0.out) | (with_reducible refine Kd.C_alloc ?_ _) | (with_reducible refine Kd.C_drewN ?_ _) | (with_reducible refine Kd.C_drew ?_) | exact HR719_0.out))); (case side2 => exact HC719_0.out); rintro e w41 ⟨v722, rfl, ho0, hb⟩; refine ⟨_, rfl, ?_⟩; have HO723 := Aside0.mk (Kd.S_lower (Kd.S_new' (Kd.S_new' (Kd.S_new' ho0 (Kd.S_lt (sS_ HO_4.out))) (Kd.R_lt (rS_ HO_13.out))) (Kd.R_lt (rS_ HL719_0.out))) (below_size bB_)); replace HO_4 := Aside0.mk (Kd.S_elder' (sS_ HO_4.out) (Kd.S_base ho0) hb); replace HO_13 := Aside0.mk (Kd.R_below (rS_ HO_13.out) hb); replace HL719_0 := Aside0.mk (Kd.R_below (rS_ HL719_0.out) hb); replace HR719_0 := Aside0.mk (Kd.C_below (by repeat (first | (with_reducible exact HR719_0.out) | (with_reducible refine Kd.C_alloc ?_ _) | (with_reducible refine Kd.C_drewN ?_ _) | (with_reducible refine Kd.C_drew ?_) | exact HR719_0.out)) hb); replace HB := Aside0.mk (below_step bB_ hb); (try clear hb ho0)))
           go_roundg k2
           case measure => have := HJ9.out; have := HK2.out; omega
           case rel => exact ⟨(wrap64 (x15_2 + 1)), r3_, H', ⟨by have := HJ9.out; have := HK2.out; omega⟩, ⟨sS_ (Kd.S_mono HO_4.out (fun _ hk => hk.1))⟩, ⟨rS_ HO_13.out⟩, ⟨bB_⟩⟩
          ·rw [if_neg c39] at H
           have c39b0 : (t721 == 5) = false := beq_eq_false_iff_ne.mpr c39
           have c39b1 : (t721 != 5) = true := bne_iff_ne.mpr c39
           have H' := Aside0.mk H
           clear H
           obtain ⟨Ao42, co42, eo42⟩ := Kd.S_slice HO_4.out
           subst eo42
           have p719 : 0 ≤ (x15_2 : Int) := of_decide_eq_true aS_
           have q719 : x15_2 < (t694.length : Int) := of_decide_eq_true aS_
           obtain ⟨ad719, A719_0, c719_0, e719, hx719_0, hl719_0, hi719_0⟩ := at_L3 (Kd.S_reads' HO_4.out).2.2 x15_2 p719 q719
           cases e719
           obtain ⟨ce719, hce719, hMe719, hcc719⟩ := Kd.S_get HO_4.out [] x15_2 p719 (by first | exact q719 | exact of_decide_eq_true aS_ | (have e_ := (Kd.S_reads' HO_4.out).1; omega))
           obtain ⟨ve719_0, rfl, ge719_0⟩ := hMe719
           have hv719_0 := hcc719 0 _ rfl
           rw [Nat.add_zero, show ((Kd.slice 39 k39)).sz = 1 from rfl, Nat.mul_one] at hv719_0
           replace hv719_0 := Option.some.inj (hv719_0.symm.trans hx719_0)
           rw [hv719_0] at ge719_0
           have HL719_0 := Aside0.mk (show Kd.R k39 39 _ _ _ _ (rd_L3 t694 x15_2) from ge719_0)
           clear hv719_0 ge719_0
           clear hcc719 hce719
           have HR719_0 := Aside0.mk hi719_0
           have HC719_0 := Aside0.mk hl719_0
           clear hi719_0 hl719_0
           replace p719 := eq_true p719
           replace q719 := eq_true q719
           go_wp2_with (first | ((with_reducible refine gate_callee (f := 9) rfl ?_); refine gL_ (some 84) Tryz.func9 #[.slice A719_0 (rd_L3 t694 x15_2).length c719_0] ?_; (with_reducible refine (impl_GrowShape.calls k2 _ _ (rd_L3 t694 x15_2) t720 t721 _ ?side1 ?side2 A38.out).mono ?_); (case side1 => exact cS_ (by repeat (first | (with_reducible exact HR719_0.out) | (with_reducible refine Kd.C_alloc ?_ _) | (with_reducible refine Kd.C_drewN ?_ _) | (with_reducible refine Kd.C_drew ?_) | exact HR719_0.out))); (case side2 => exact HC719_0.out); rintro e w43 ⟨v722, rfl, ho0, hb⟩; refine ⟨_, rfl, ?_⟩; have HO723 := Aside0.mk (Kd.S_lower (Kd.S_new' (Kd.S_new' (Kd.S_new' ho0 (Kd.S_lt (sS_ HO_4.out))) (Kd.R_lt (rS_ HO_13.out))) (Kd.R_lt (rS_ HL719_0.out))) (below_size bB_)); replace HO_4 := Aside0.mk (Kd.S_elder' (sS_ HO_4.out) (Kd.S_base ho0) hb); replace HO_13 := Aside0.mk (Kd.R_below (rS_ HO_13.out) hb); replace HL719_0 := Aside0.mk (Kd.R_below (rS_ HL719_0.out) hb); replace HR719_0 := Aside0.mk (Kd.C_below (by repeat (first | (with_reducible exact HR719_0.out) | (with_reducible refine Kd.C_alloc ?_ _) | (with_reducible refine Kd.C_drewN ?_ _) | (with_reducible refine Kd.C_drew ?_) | exact HR719_0.out)) hb); replace HB := Aside0.mk (below_step bB_ hb); (try clear hb ho0)))
           go_loopg [18, 19] k2 (fun kq v18 v19 w' => ∃ (x18_3 : Bool) (x19_3 : Int), v18 = .bool x18_3 ∧ v19 = .int .i64 x19_3 ∧ Aside0 (laws_FnGrown.l1 kq t694 t715 t716 x15_2 t720 t721 x18_3 x19_3 = some r) ∧ Aside0 (kq ≤ k2) ∧ Aside0 (Kd.S (Kd.slice 39 k39) 24 w' w.heap.size (fun k_ => some k_ ≠ (v717 : Value).ownBlock ∧ some k_ ≠ (v722 : Value).ownBlock) (.slice (some ad719) t694.length co42) t694) ∧ Aside0 (Kd.R k39 39 w' w.heap.size (fun _ => True) v717 t715) ∧ Aside0 (Kd.S (Kd.slice 39 k39) 24 w' w.heap.size (fun k_ => some k_ ≠ ((.slice (some ad719) t694.length co42) : Value).ownBlock ∧ some k_ ≠ (v717 : Value).ownBlock) v722 t720) ∧ Aside0 (Kd.C k39 w' A719_0 (rd_L3 t694 x15_2).length (rd_L3 t694 x15_2)) ∧ Aside0 (Below w.heap.size w w'))
           case atStart => exact ⟨(false), (0), r3_, r3_, H', ⟨Nat.le_refl _⟩, ⟨sS_ HO_4.out⟩, ⟨rS_ HO_13.out⟩, ⟨sS_ (Kd.S_mono HO723.out (fun _ hk => ⟨hk.1.1.2, hk.1.2⟩))⟩, ⟨by repeat (first | (with_reducible exact HR719_0.out) | (with_reducible refine Kd.C_alloc ?_ _) | (with_reducible refine Kd.C_drewN ?_ _) | (with_reducible refine Kd.C_drew ?_) | exact HR719_0.out)⟩, ⟨bB_⟩⟩
           case round =>
            clear H'
            try clear c1
            try clear c2
            try clear p2
            try clear c3
            try clear c4
            try clear c5
            try clear c6
            try clear p6
            try clear c7
            try clear p7
            try clear q7
            try clear hx7
            try clear c8
            try clear c9
            try clear c10
            try clear c12
            try clear c19
            try clear c19b0
            try clear c19b1
            try clear c21
            try clear c22
            try clear c22b0
            try clear c22b1
            try clear c32
            try clear c33
            try clear c33b0
            try clear c33b1
            try clear c36
            try clear c36b0
            try clear c37
            try clear c37b0
            try clear c39
            try clear c39b0
            try clear c39b1
            try clear hx719_0
            try clear p2
            try clear p719
            try clear q719
            obtain ⟨x18_3, x19_3, rfl, rfl, HA, HK3, HO_4, HO_13, HO_16, HR719_0, HB⟩ := hrel
            cases gk with
            | zero => exact absurd HA.out (by simp [laws_FnGrown.l1])
            | succ k3 =>
             have H := HA.out
             clear HA
             simp only [laws_FnGrown.l1] at H
             by_cases c44 : x19_3 < (t720.length : Int)
             ·rw [if_pos c44] at H
              have c44b0 : decide (x19_3 < (t720.length : Int)) = true := decide_eq_true c44
              clear c44
              by_cases c45 : x18_3 = true
              ·subst c45
               have H1 : (laws_FnGrown.l1 k3 t694 t715 t716 x15_2 t720 t721 true (wrap64 (x19_3 + 1))) = some r := by rw [if_pos rfl] at H; exact H
               clear H
               have H := H1
               clear H1
               have H' := Aside0.mk H
               clear H
               obtain ⟨Ao46, co46, eo46⟩ := Kd.S_slice HO_16.out
               subst eo46
               go_wp2
               go_roundg k3
               case measure => have := HJ9.out; have := HK2.out; have := HK3.out; omega
               case rel => exact ⟨(true), (wrap64 (x19_3 + 1)), r3_, r3_, H', ⟨by have := HJ9.out; have := HK2.out; have := HK3.out; omega⟩, ⟨sS_ HO_4.out⟩, ⟨rS_ HO_13.out⟩, ⟨sS_ HO_16.out⟩, ⟨by repeat (first | (with_reducible exact HR719_0.out) | (with_reducible refine Kd.C_alloc ?_ _) | (with_reducible refine Kd.C_drewN ?_ _) | (with_reducible refine Kd.C_drew ?_) | exact HR719_0.out)⟩, ⟨bB_⟩⟩
              ·replace c45 := Bool.eq_false_iff.mpr c45
               subst c45
               have H1 : (if 0 ≤ x19_3 then ((laws_likeCells.f k3 (rd_L3 t720 x19_3) t715).bind fun t725 => (laws_FnGrown.l1 k3 t694 t715 t716 x15_2 t720 t721 t725 (wrap64 (x19_3 + 1)))) else (none)) = some r := by rw [if_neg (show ¬ (false = true) by decide)] at H; exact H
               clear H
               have H := H1
               clear H1
               by_cases c47 : 0 ≤ x19_3
               ·rw [if_pos c47] at H
                have c47b0 : decide (0 ≤ x19_3) = true := decide_eq_true c47
                clear c47
                replace H := Option.bind_eq_some_iff.mp H
                obtain ⟨t725, A480, H⟩ := H
                try dsimp only at H
                have A48 := Aside0.mk A480
                clear A480
                have H' := Aside0.mk H
                clear H
                obtain ⟨Ao49, co49, eo49⟩ := Kd.S_slice HO_16.out
                subst eo49
                have p724 : 0 ≤ (x19_3 : Int) := of_decide_eq_true aS_
                have q724 : x19_3 < (t720.length : Int) := of_decide_eq_true aS_
                obtain ⟨ad724, A724_0, c724_0, e724, hx724_0, hl724_0, hi724_0⟩ := at_L3 (Kd.S_reads' HO_16.out).2.2 x19_3 p724 q724
                cases e724
                obtain ⟨ce724, hce724, hMe724, hcc724⟩ := Kd.S_get HO_16.out [] x19_3 p724 (by first | exact q724 | exact of_decide_eq_true aS_ | (have e_ := (Kd.S_reads' HO_16.out).1; omega))
                obtain ⟨ve724_0, rfl, ge724_0⟩ := hMe724
                have hv724_0 := hcc724 0 _ rfl
                rw [Nat.add_zero, show ((Kd.slice 39 k39)).sz = 1 from rfl, Nat.mul_one] at hv724_0
                replace hv724_0 := Option.some.inj (hv724_0.symm.trans hx724_0)
                rw [hv724_0] at ge724_0
                have HL724_0 := Aside0.mk (show Kd.R k39 39 _ _ _ _ (rd_L3 t720 x19_3) from ge724_0)
                clear hv724_0 ge724_0
                clear hcc724 hce724
                have HR724_0 := Aside0.mk hi724_0
                have HC724_0 := Aside0.mk hl724_0
                clear hi724_0 hl724_0
                replace p724 := eq_true p724
                replace q724 := eq_true q724
                obtain ⟨Ao50, co50, eo50⟩ := Kd.R_slice HO_13.out
                subst eo50
                go_wp2_with (first | (go_at_call 13; (with_reducible refine (laws_likeCells.calls k3 _ _ (rd_L3 t720 x19_3) _ _ t715 t725 _ ?side1 ?side2 ?side3 ?side4 A48.out).mono ?_); (case side1 => exact cS_ (by repeat (first | (with_reducible exact HR724_0.out) | (with_reducible refine Kd.C_alloc ?_ _) | (with_reducible refine Kd.C_drewN ?_ _) | (with_reducible refine Kd.C_drew ?_) | exact HR724_0.out))); (case side2 => exact HC724_0.out); (case side3 => exact cS_ ((Kd.R_reads' HO_13.out).2.2)); (case side4 => exact (Kd.R_reads' HO_13.out).2.1); rintro e w' ⟨rfl, ⟨nd, rfl⟩⟩))
                go_roundg k3
                case measure => have := HJ9.out; have := HK2.out; have := HK3.out; omega
                case rel => exact ⟨(t725), (wrap64 (x19_3 + 1)), r3_, r3_, H', ⟨by have := HJ9.out; have := HK2.out; have := HK3.out; omega⟩, ⟨sS_ HO_4.out⟩, ⟨rS_ HO_13.out⟩, ⟨sS_ HO_16.out⟩, ⟨by repeat (first | (with_reducible exact HR719_0.out) | (with_reducible refine Kd.C_alloc ?_ _) | (with_reducible refine Kd.C_drewN ?_ _) | (with_reducible refine Kd.C_drew ?_) | exact HR719_0.out)⟩, ⟨bB_⟩⟩
               ·rw [if_neg c47] at H
                exact absurd H (by simp)
             ·rw [if_neg c44] at H
              have c44b0 : decide (x19_3 < (t720.length : Int)) = false := decide_eq_false c44
              clear c44
              by_cases c51 : t721 = 0
              ·rw [if_pos c51] at H
               have c51b0 : (t721 == 0) = true := beq_iff_eq.mpr c51
               have c51b1 : (t721 != 0) = false := bne_eq_false_iff_eq.mpr c51
               clear c51
               by_cases c52 : x18_3 = true
               ·subst c52
                have H1 : (laws_FnGrown.l0 k3 t694 t715 t716 (wrap64 (x15_2 + 1))) = some r := by rw [if_pos rfl] at H; exact H
                clear H
                have H := H1
                clear H1
                have H' := Aside0.mk H
                clear H
                obtain ⟨Ao53, co53, eo53⟩ := Kd.S_slice HO_16.out
                subst eo53
                go_wp2
                go_roundg k3
                case measure => have := HJ9.out; have := HK2.out; have := HK3.out; omega
                case rel => exact ⟨(wrap64 (x15_2 + 1)), r3_, H', ⟨by have := HJ9.out; have := HK2.out; have := HK3.out; omega⟩, ⟨sS_ (Kd.S_mono HO_4.out (fun _ hk => hk.1))⟩, ⟨rS_ HO_13.out⟩, ⟨bB_⟩⟩
               ·replace c52 := Bool.eq_false_iff.mpr c52
                subst c52
                have H1 : (some false) = some r := by rw [if_neg (show ¬ (false = true) by decide)] at H; exact H
                clear H
                have H := H1
                clear H1
                obtain rfl := Option.some.inj H
                obtain ⟨Ao54, co54, eo54⟩ := Kd.S_slice HO_16.out
                subst eo54
                go_wp2
                go_ret
                exact ⟨r2_, bB_⟩
              ·rw [if_neg c51] at H
               have c51b0 : (t721 == 0) = false := beq_eq_false_iff_ne.mpr c51
               have c51b1 : (t721 != 0) = true := bne_iff_ne.mpr c51
               obtain rfl := Option.some.inj H
               obtain ⟨Ao55, co55, eo55⟩ := Kd.S_slice HO_16.out
               subst eo55
               go_wp2
               go_ret
               exact ⟨r2_, bB_⟩
         ·rw [if_neg c37] at H
          exact absurd H (by simp)
        ·rw [if_neg c36] at H
         have c36b0 : decide (x15_2 < (t694.length : Int)) = false := decide_eq_false c36
         clear c36
         by_cases c56 : t716 = 0
         ·rw [if_pos c56] at H
          have c56b0 : (t716 == 0) = true := beq_iff_eq.mpr c56
          have c56b1 : (t716 != 0) = false := bne_eq_false_iff_eq.mpr c56
          clear c56
          obtain rfl := Option.some.inj H
          obtain ⟨Ao57, co57, eo57⟩ := Kd.S_slice HO_4.out
          subst eo57
          go_wp2
          go_ret
          exact ⟨r2_, bB_⟩
         ·rw [if_neg c56] at H
          have c56b0 : (t716 == 0) = false := beq_eq_false_iff_ne.mpr c56
          have c56b1 : (t716 != 0) = true := bne_iff_ne.mpr c56
          obtain rfl := Option.some.inj H
          obtain ⟨Ao58, co58, eo58⟩ := Kd.S_slice HO_4.out
          subst eo58
          go_wp2
          go_ret
          exact ⟨r2_, bB_⟩
     ·rw [if_neg c33] at H
      have c33b0 : (t695 == 0) = false := beq_eq_false_iff_ne.mpr c33
      have c33b1 : (t695 != 0) = true := bne_iff_ne.mpr c33
      obtain rfl := Option.some.inj H
      go_wp2
      go_ret
      exact ⟨r2_, bB_⟩

/-- THE ONE PURE STATEMENT of laws_FnGrown: yours. -/
def laws_FnGrown.Pure : Prop := ∀ (l0 : List Int), l0.length ≤ maxLen → l0.length * 1 ≤ 140737488351232 → (∀ x ∈ l0, (Lit.int .u8 x).wf = true) → ∃ k, laws_FnGrown.f k l0 = some true
theorem laws_FnGrown.walk (P : laws_FnGrown.Pure) (a0 : Option Addr) (len0 cap0 : Nat) (z0 : List Int) (w : World) (w0 : (a0 = none ∧ len0 = 0 ∧ cap0 = 0 ∧ z0 = []) ∨ ∃ x, a0 = some x ∧ len0 ≤ cap0 ∧ cap0 ≤ maxLen ∧ z0.length = cap0 ∧ (∀ i, i < z0.length → w.cell? (x.add i) = some (.int .u8 (z0.getD i 0))) ∧ ∀ n ∈ z0, (Lit.int .u8 n).wf = true) (y0 : len0 * 1 ≤ 140737488351232) :
  Calls Tryz.prog 3 #[.slice a0 len0 cap0] w fun e w' => e = .returned (.bool true) ∧ Below w.heap.size w w' := by
 obtain ⟨l0, rfl, hr0, hm0, hw0, hc0⟩ := ReadsInt.ofRowC w0
 obtain ⟨k, h⟩ := P l0 hm0 y0 hw0
 refine (laws_FnGrown.calls k _ _ l0 true w (Kd.C_of_reads (d := (0 : Int)) (h1 := fun _ => rfl) hr0) hc0 h).mono ?_
 rintro e w' ⟨rfl, hd⟩
 exact ⟨rfl, hd⟩

end Go.Proofs.YtbkafaoehheioaaGreat.X
