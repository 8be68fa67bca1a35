-- xprint.py
import Derived.Test.YtbkafaoehheioaaXx0
import Derived.Test.YtbkafaoehheioaaXx2
import Derived.Test.YtbkafaoehheioaaXx3
import Derived.Test.YtbkafaoehheioaaXx5
import Derived.Test.YtbkafaoehheioaaXx6
import Derived.Test.YtbkafaoehheioaaXx8
import Derived.Test.YtbkafaoehheioaaXx11
import Derived.Test.YtbkafaoehheioaaXx12
import Derived.Test.YtbkafaoehheioaaXx13
import Derived.Test.YtbkafaoehheioaaXx15
namespace Go.Proofs.Ytbkafaoehheioaa.X
open Go.RowKit Go.Proofs.YtbkafaoehheioaaW.PrintWords Go.Proofs.YtbkafaoehheioaaW.PrintLast Go.Proofs.YtbkafaoehheioaaW.PrintMore
attribute [local go_sem] max2_int min2_int max_two min_two max_three min_three max_four min_four   -- for this text's walks alone
set_option linter.unusedVariables false
set_option linter.unusedSimpArgs false

/-! ### spec_l04Text: function 53 -/
mutual
def spec_l04Text.l0 : Nat → Int → Int → List (S55) → List Int → Int → Option (ByteArray)
 | 0, _, _, _, _, _ => none
 | k + 1, x3, x4, x5, x6, x7 => if x7 < x4 then (if x7 > 0 then (if x6.length < 140737488355328 then (spec_l04Text.j1 k x3 x4 x5 (x6 ++ [47]) x7) else (none)) else (spec_l04Text.j1 k x3 x4 x5 x6 x7)) else (some (strOfNums x6))
def spec_l04Text.j1 : Nat → Int → Int → List (S55) → List Int → Int → Option (ByteArray)
 | 0, _, _, _, _, _ => none
 | k + 1, x3, x4, x5, x6, x7 => spec_l04Text.l1 k x3 x4 x5 x6 x7 0
def spec_l04Text.l1 : Nat → Int → Int → List (S55) → List Int → Int → Int → Option (ByteArray)
 | 0, _, _, _, _, _, _ => none
 | k + 1, x3, x4, x5, x6, x7, x8 => if x8 < x3 then ((spec_l02Index.f k x5 x8 x7).bind fun t581 => (if t581 ≥ 0 then (if x6.length < 140737488355328 then (spec_l04Text.l1 k x3 x4 x5 (x6 ++ [35]) x7 (wrap64 (x8 + 1))) else (none)) else (if x6.length < 140737488355328 then (spec_l04Text.l1 k x3 x4 x5 (x6 ++ [46]) x7 (wrap64 (x8 + 1))) else (none)))) else (spec_l04Text.l0 k x3 x4 x5 x6 (wrap64 (x7 + 1)))
end
def spec_l04Text.f (k : Nat) (l0 : List (S55)) : Option (ByteArray) := (spec_l04Size.f k l0).bind fun bt570 => ((spec_l02Normal.f k l0).bind fun t572 => (spec_l04Text.l0 k bt570.1 bt570.2 t572 (([] : List Int)) 0))
theorem spec_l04Text.mono_l : ∀ k, (∀ y0 y1 y2 y3 y4, LeO (spec_l04Text.l0 k y0 y1 y2 y3 y4) (spec_l04Text.l0 (k + 1) y0 y1 y2 y3 y4)) ∧ (∀ y0 y1 y2 y3 y4, LeO (spec_l04Text.j1 k y0 y1 y2 y3 y4) (spec_l04Text.j1 (k + 1) y0 y1 y2 y3 y4)) ∧ (∀ y0 y1 y2 y3 y4 y5, LeO (spec_l04Text.l1 k y0 y1 y2 y3 y4 y5) (spec_l04Text.l1 (k + 1) y0 y1 y2 y3 y4 y5))
 | 0 => ⟨fun _ _ _ _ _ r h => by simp [spec_l04Text.l0] at h, fun _ _ _ _ _ r h => by simp [spec_l04Text.j1] at h, fun _ _ _ _ _ _ r h => by simp [spec_l04Text.l1] at h⟩
 | k + 1 => by
  obtain ⟨ih0, ih1, ih2⟩ := spec_l04Text.mono_l k
  refine ⟨?_, ?_, ?_⟩
  ·intro y0 y1 y2 y3 y4
   unfold spec_l04Text.l0
   repeat' first
   | (with_reducible exact ih0 _ _ _ _ _)
   | (with_reducible exact ih1 _ _ _ _ _)
   | (with_reducible exact ih2 _ _ _ _ _ _)
   | (with_reducible exact spec_l02Index.mono _ _ _ _)
   | (with_reducible exact spec_l02Normal.mono _ _)
   | (with_reducible exact spec_l04Size.mono _ _)
   | (with_reducible exact LeO.refl _)
   | (with_reducible exact LeO.none _)
   | (with_reducible refine LeO.ite ?_ ?_)
   | (with_reducible refine LeO.bind ?_ (fun _ => ?_))
   | exact ih0 _ _ _ _ _
   | exact ih1 _ _ _ _ _
   | exact ih2 _ _ _ _ _ _
   | exact spec_l02Index.mono _ _ _ _
   | exact spec_l02Normal.mono _ _
   | exact spec_l04Size.mono _ _
   | exact LeO.none _
   | refine LeO.ite ?_ ?_
   | refine LeO.bind ?_ (fun _ => ?_)
  ·intro y0 y1 y2 y3 y4
   unfold spec_l04Text.j1
   repeat' first
   | (with_reducible exact ih0 _ _ _ _ _)
   | (with_reducible exact ih1 _ _ _ _ _)
   | (with_reducible exact ih2 _ _ _ _ _ _)
   | (with_reducible exact spec_l02Index.mono _ _ _ _)
   | (with_reducible exact spec_l02Normal.mono _ _)
   | (with_reducible exact spec_l04Size.mono _ _)
   | (with_reducible exact LeO.refl _)
   | (with_reducible exact LeO.none _)
   | (with_reducible refine LeO.ite ?_ ?_)
   | (with_reducible refine LeO.bind ?_ (fun _ => ?_))
   | exact ih0 _ _ _ _ _
   | exact ih1 _ _ _ _ _
   | exact ih2 _ _ _ _ _ _
   | exact spec_l02Index.mono _ _ _ _
   | exact spec_l02Normal.mono _ _
   | exact spec_l04Size.mono _ _
   | exact LeO.none _
   | refine LeO.ite ?_ ?_
   | refine LeO.bind ?_ (fun _ => ?_)
  ·intro y0 y1 y2 y3 y4 y5
   unfold spec_l04Text.l1
   repeat' first
   | (with_reducible exact ih0 _ _ _ _ _)
   | (with_reducible exact ih1 _ _ _ _ _)
   | (with_reducible exact ih2 _ _ _ _ _ _)
   | (with_reducible exact spec_l02Index.mono _ _ _ _)
   | (with_reducible exact spec_l02Normal.mono _ _)
   | (with_reducible exact spec_l04Size.mono _ _)
   | (with_reducible exact LeO.refl _)
   | (with_reducible exact LeO.none _)
   | (with_reducible refine LeO.ite ?_ ?_)
   | (with_reducible refine LeO.bind ?_ (fun _ => ?_))
   | exact ih0 _ _ _ _ _
   | exact ih1 _ _ _ _ _
   | exact ih2 _ _ _ _ _ _
   | exact spec_l02Index.mono _ _ _ _
   | exact spec_l02Normal.mono _ _
   | exact spec_l04Size.mono _ _
   | exact LeO.none _
   | refine LeO.ite ?_ ?_
   | refine LeO.bind ?_ (fun _ => ?_)
theorem spec_l04Text.mono : ∀ a0 k, LeO (spec_l04Text.f k a0) (spec_l04Text.f (k + 1) a0) := by
 intro a0 k
 obtain ⟨ih0, ih1, ih2⟩ := spec_l04Text.mono_l k
 unfold spec_l04Text.f
 repeat' first
   | (with_reducible exact ih0 _ _ _ _ _)
   | (with_reducible exact ih1 _ _ _ _ _)
   | (with_reducible exact ih2 _ _ _ _ _ _)
   | (with_reducible exact spec_l02Index.mono _ _ _ _)
   | (with_reducible exact spec_l02Normal.mono _ _)
   | (with_reducible exact spec_l04Size.mono _ _)
   | (with_reducible exact LeO.refl _)
   | (with_reducible exact LeO.none _)
   | (with_reducible refine LeO.ite ?_ ?_)
   | (with_reducible refine LeO.bind ?_ (fun _ => ?_))
   | exact ih0 _ _ _ _ _
   | exact ih1 _ _ _ _ _
   | exact ih2 _ _ _ _ _ _
   | exact spec_l02Index.mono _ _ _ _
   | exact spec_l02Normal.mono _ _
   | exact spec_l04Size.mono _ _
   | exact LeO.none _
   | refine LeO.ite ?_ ?_
   | refine LeO.bind ?_ (fun _ => ?_)
set_option maxHeartbeats 8000000 in
set_option maxRecDepth 100000 in
theorem spec_l04Text.calls (k : Nat) (A0 : Option Addr) (c0 : Nat) (l0 : List (S55)) (r : ByteArray) (w : World) (hr0 : Kd.C k55 w A0 l0.length l0) (hc0 : l0.length ≤ c0) (h : spec_l04Text.f k l0 = some r) :
  Calls Try.prog 53 #[.slice A0 l0.length c0] w fun e w' => e = .returned (.string r) ∧ Below w.heap.size w w' := by
 have hu55 := Try.underlying55
 have HR0 := Aside0.mk hr0
 have HC0 := Aside0.mk hc0
 clear hr0 hc0
 have HB := Aside0.mk (Below.refl w.heap.size w)
 have H : ((spec_l04Size.f k l0).bind fun bt570 => ((spec_l02Normal.f k l0).bind fun t572 => (spec_l04Text.l0 k bt570.1 bt570.2 t572 (([] : List Int)) 0))) = some r := h
 clear h
 replace H := Option.bind_eq_some_iff.mp H
 obtain ⟨⟨t570, t571⟩, A20, H⟩ := H
 try dsimp only at H
 have A2 := Aside0.mk A20
 clear A20
 replace H := Option.bind_eq_some_iff.mp H
 obtain ⟨t572, A30, H⟩ := H
 try dsimp only at H
 have A3 := Aside0.mk A30
 clear A30
 obtain ⟨y575, hY_⟩ : ∃ y_ : List Int, y_ = (([] : List Int)) := ⟨_, rfl⟩
 replace H : (spec_l04Text.l0 k t570 t571 t572 y575 0) = some r := yY_
 have Ny575 := Aside0.mk hY_
 clear hY_
 have H' := Aside0.mk H
 clear H
 go_enter Try.func53, Try.ntmps53
 go_wp2_with (first | ((with_reducible refine gate_callee (f := 42) rfl ?_); refine gL_ (some 11) Try.func42 #[.slice A0 l0.length c0] ?_; (with_reducible refine (spec_l04Size.calls k _ _ l0 t570 t571 _ ?side1 ?side2 A2.out).mono ?_); (case side1 => exact cS_ HR0.out); (case side2 => exact HC0.out); rintro e w4 ⟨rfl, hb⟩; refine ⟨_, rfl, ?_⟩; replace HB := Aside0.mk (below_step bB_ hb); (try clear hb)) | ((with_reducible refine gate_callee (f := 73) rfl ?_); refine gL_ (some 15) Try.func73 #[.slice A0 l0.length c0] ?_; (with_reducible refine (spec_l02Normal.calls k _ _ l0 t572 _ ?side1 ?side2 A3.out).mono ?_); (case side1 => exact cS_ (Kd.C_below HR0.out HB.out)); (case side2 => exact HC0.out); rintro e w5 ⟨v573, rfl, ho0, hb⟩; refine ⟨_, rfl, ?_⟩; have HO574 := Aside0.mk (Kd.R_lower ho0 (below_size bB_)); replace HB := Aside0.mk (below_step bB_ hb); (try clear hb ho0)) | ((with_reducible refine gate_dst (N := 16) rfl ?_); refine Kd.R_lit (Kd.int .u8) _ 5 ?hg (N := 16) ?hd (xs := ([] : List Int)) (inner := []) (ok := fun _ => True) (okp := fun _ => True) ?hr ?hp (fun _ hk => hk) trivial (Below.refl _ _) (Nat.le_refl _) (by simp) ?_; (case hd => rfl); (case hg => rfl); (case hr => first | (go_simp; done) | (go_simp; rfl)); (case hp => exact (Reps.none _ _)); intro v576 w6 ho7 hb hg_ hnew_; clear hg_ hnew_; (first | rw [← Ny575.out] at ho7 | (simp only [Int.reduceToNat] at ho7; rw [← Ny575.out] at ho7)); replace HO574 := Aside0.mk (Kd.R_below (rS_ HO574.out) hb); have HO577 := Aside0.mk (Kd.R_lower ho7 (below_size bB_)); replace HB := Aside0.mk (below_step bB_ hb); clear hb ho7))
 go_loopg [6, 7] k (fun kq v6 v7 w' => ∃ (x6_1 : List Int) (x7_1 : Int), v7 = .int .i64 x7_1 ∧ Aside0 (spec_l04Text.l0 kq t570 t571 t572 x6_1 x7_1 = some r) ∧ Aside0 (kq ≤ k) ∧ Aside0 (Kd.R k55 55 w' w.heap.size (fun _ => True) v573 t572) ∧ Aside0 (Kd.R (Kd.int .u8) 5 w' w.heap.size (fun _ => True) v6 x6_1) ∧ Aside0 (Below w.heap.size w w'))
 case atStart => exact ⟨(y575), (0), r3_, H', ⟨Nat.le_refl _⟩, ⟨rS_ HO574.out⟩, ⟨rS_ HO577.out⟩, ⟨bB_⟩⟩
 case round =>
  clear H'
  try clear p2
  try clear c4
  try clear c5
  try clear c7
  obtain ⟨x6_1, x7_1, rfl, HA, HK1, HO_5, HO_6, HB⟩ := hrel
  cases gk with
  | zero => exact absurd HA.out (by simp [spec_l04Text.l0])
  | succ k1 =>
   have H := HA.out
   clear HA
   simp only [spec_l04Text.l0] at H
   by_cases c8 : x7_1 < t571
   ·rw [if_pos c8] at H
    have c8b0 : decide (x7_1 < t571) = true := decide_eq_true c8
    clear c8
    have HC9 := Aside0.mk H
    clear H
    go_upto_if 23 with (fail)
    go_cut [6] (fun v6 wc => ∃ (kq : Nat) (x6_8 : List Int), Aside0 (spec_l04Text.j1 kq t570 t571 t572 x6_8 x7_1 = some r) ∧ Aside0 (kq ≤ k1) ∧ Aside0 (Kd.R k55 55 wc w.heap.size (fun _ => True) v573 t572) ∧ Aside0 (Kd.R (Kd.int .u8) 5 wc w.heap.size (fun _ => True) v6 x6_8) ∧ Aside0 (Below w.heap.size w wc))
    case first =>
     have H := HC9.out
     clear HC9
     by_cases c10 : x7_1 > 0
     ·rw [if_pos c10] at H
      have c10b0 : decide (0 < x7_1) = true := decide_eq_true c10
      clear c10
      (first | rw [c10b0] | (simp only [i64_w, i32_w]; rw [c10b0]) | skip)
      by_cases c11 : x6_1.length < 140737488355328
      ·rw [if_pos c11] at H
       have LMc11 := Aside0.mk c11
       clear c11
       obtain ⟨y578, hY_⟩ : ∃ y_ : List Int, y_ = (x6_1 ++ [47]) := ⟨_, rfl⟩
       replace H : (spec_l04Text.j1 k1 t570 t571 t572 y578 x7_1) = some r := yY_
       have Ny578 := Aside0.mk hY_
       clear hY_
       have H' := Aside0.mk H
       clear H
       go_wp2_with (first | ((with_reducible refine gate_builtin (b := .append) (xs := #[.tmp 24, .tmp 25]) rfl ?_); at_builtin; refine Kd.R_append (Kd.int .u8) (w0 := w) w.heap.size rfl (.tmp 24) (.tmp 25) 36 5 (.int .u8 0) 1 rfl Try.underlying36 info5 rfl (by decide) (by omega) u6 x6_1 47 [.int .u8 47] (fun _ => True) (fun _ => False) rfl rfl ?aP (fun _ hk => hk.elim) ?aF ?aO ?aB ?aS ?aL ?_; (case aP => exact rfl); (case aB => exact bB_); (case aF => exact (fun _ _ => trivial)); (case aO => exact (rS_ HO_6.out)); (case aS => exact (below_size bB_)); (case aL => have := LMc11.out; omega); intro v579 w12 ho hb hg hat; rw [← Ny578.out] at ho; replace HO_5 := Aside0.mk (Kd.R_over' (rS_ HO_5.out) (Kd.R_typed (rS_ HO_6.out)) (by decide) hg); replace HB := Aside0.mk (hb); have HO580 := Aside0.mk (ho); clear HO_6; clear ho hb hg hat))
       go_meet
       case rel => exact ⟨_, (y578), H', ⟨by have := HK1.out; first | omega | exact Nat.le_refl _⟩, ⟨rS_ HO_5.out⟩, ⟨rS_ HO580.out⟩, ⟨bB_⟩⟩
      ·rw [if_neg c11] at H
       exact absurd H (by simp)
     ·rw [if_neg c10] at H
      have c10b0 : decide (0 < x7_1) = false := decide_eq_false c10
      clear c10
      (first | rw [c10b0] | (simp only [i64_w, i32_w]; rw [c10b0]) | skip)
      have H' := Aside0.mk H
      clear H
      go_wp2
      go_meet
      case rel => exact ⟨_, (x6_1), H', ⟨by have := HK1.out; first | omega | exact Nat.le_refl _⟩, ⟨rS_ HO_5.out⟩, ⟨rS_ HO_6.out⟩, ⟨bB_⟩⟩
    case rest =>
     clear HC9
     try clear c1
     try clear p2
     try clear c4
     try clear c5
     try clear c7
     try clear c8
     try clear c8b0
     try clear c10
     try clear c10b0
     try clear c11
     try clear p2
     obtain ⟨kq, x6_8, HA, HJ8, HO_5, HO_6, HB⟩ := hcut
     cases kq with
     | zero => exact absurd HA.out (by simp [spec_l04Text.j1])
     | succ kj8 =>
      have H := HA.out
      clear HA
      simp only [spec_l04Text.j1] at H
      have H' := Aside0.mk H
      clear H
      go_wp2
      go_loopg [6, 8] kj8 (fun kq v6 v8 w' => ∃ (x6_3 : List Int) (x8_3 : Int), v8 = .int .i64 x8_3 ∧ Aside0 (spec_l04Text.l1 kq t570 t571 t572 x6_3 x7_1 x8_3 = some r) ∧ Aside0 (kq ≤ kj8) ∧ Aside0 (Kd.R k55 55 w' w.heap.size (fun _ => True) v573 t572) ∧ Aside0 (Kd.R (Kd.int .u8) 5 w' w.heap.size (fun _ => True) v6 x6_3) ∧ Aside0 (Below w.heap.size w w'))
      case atStart => exact ⟨(x6_8), (0), r3_, H', ⟨Nat.le_refl _⟩, ⟨rS_ HO_5.out⟩, ⟨rS_ HO_6.out⟩, ⟨bB_⟩⟩
      case round =>
       clear H'
       try clear c1
       try clear p2
       try clear c4
       try clear c5
       try clear c7
       try clear c8
       try clear c8b0
       try clear c10
       try clear c10b0
       try clear c11
       try clear p2
       obtain ⟨x6_3, x8_3, rfl, HA, HK3, HO_5, HO_6, HB⟩ := hrel
       cases gk with
       | zero => exact absurd HA.out (by simp [spec_l04Text.l1])
       | succ k3 =>
        have H := HA.out
        clear HA
        simp only [spec_l04Text.l1] at H
        by_cases c13 : x8_3 < t570
        ·rw [if_pos c13] at H
         have c13b0 : decide (x8_3 < t570) = true := decide_eq_true c13
         clear c13
         replace H := Option.bind_eq_some_iff.mp H
         obtain ⟨t581, A140, H⟩ := H
         try dsimp only at H
         have A14 := Aside0.mk A140
         clear A140
         by_cases c15 : t581 ≥ 0
         ·rw [if_pos c15] at H
          have c15b0 : decide (0 ≤ t581) = true := decide_eq_true c15
          clear c15
          by_cases c16 : x6_3.length < 140737488355328
          ·rw [if_pos c16] at H
           have LMc16 := Aside0.mk c16
           clear c16
           obtain ⟨y582, hY_⟩ : ∃ y_ : List Int, y_ = (x6_3 ++ [35]) := ⟨_, rfl⟩
           replace H : (spec_l04Text.l1 k3 t570 t571 t572 y582 x7_1 (wrap64 (x8_3 + 1))) = some r := yY_
           have Ny582 := Aside0.mk hY_
           clear hY_
           have H' := Aside0.mk H
           clear H
           obtain ⟨Ao17, co17, eo17⟩ := Kd.R_slice HO_5.out
           subst eo17
           go_wp2_with (first | ((with_reducible refine gate_callee (f := 88) rfl ?_); refine gL_ (some 36) Try.func88 #[.slice Ao17 t572.length co17, .agg #[.int .i64 x8_3, .int .i64 x7_1]] ?_; (with_reducible refine (spec_l02Index.calls k3 _ _ t572 x8_3 x7_1 t581 _ ?side1 ?side2 A14.out).mono ?_); (case side1 => exact cS_ ((Kd.R_reads' HO_5.out).2.2)); (case side2 => exact (Kd.R_reads' HO_5.out).2.1); rintro e w18 ⟨rfl, hb⟩; refine ⟨_, rfl, ?_⟩; replace HO_5 := Aside0.mk (Kd.R_below (rS_ HO_5.out) hb); replace HO_6 := Aside0.mk (Kd.R_below (rS_ HO_6.out) hb); replace HB := Aside0.mk (below_step bB_ hb); (try clear hb)) | ((with_reducible refine gate_builtin (b := .append) (xs := #[.tmp 38, .tmp 39]) rfl ?_); at_builtin; refine Kd.R_append (Kd.int .u8) (w0 := w) w.heap.size rfl (.tmp 38) (.tmp 39) 36 5 (.int .u8 0) 1 rfl Try.underlying36 info5 rfl (by decide) (by omega) u6 x6_3 35 [.int .u8 35] (fun _ => True) (fun _ => False) rfl rfl ?aP (fun _ hk => hk.elim) ?aF ?aO ?aB ?aS ?aL ?_; (case aP => exact rfl); (case aB => exact bB_); (case aF => exact (fun _ _ => trivial)); (case aO => exact (rS_ HO_6.out)); (case aS => exact (below_size bB_)); (case aL => have := LMc16.out; omega); intro v583 w19 ho hb hg hat; rw [← Ny582.out] at ho; replace HO_5 := Aside0.mk (Kd.R_over' (rS_ HO_5.out) (Kd.R_typed (rS_ HO_6.out)) (by decide) hg); replace HB := Aside0.mk (hb); have HO584 := Aside0.mk (ho); clear HO_6; clear ho hb hg hat))
           go_roundg k3
           case measure => have := HK1.out; have := HJ8.out; have := HK3.out; omega
           case rel => exact ⟨(y582), (wrap64 (x8_3 + 1)), r3_, H', ⟨by have := HK1.out; have := HJ8.out; have := HK3.out; omega⟩, ⟨rS_ HO_5.out⟩, ⟨rS_ HO584.out⟩, ⟨bB_⟩⟩
          ·rw [if_neg c16] at H
           exact absurd H (by simp)
         ·rw [if_neg c15] at H
          have c15b0 : decide (0 ≤ t581) = false := decide_eq_false c15
          clear c15
          by_cases c20 : x6_3.length < 140737488355328
          ·rw [if_pos c20] at H
           have LMc20 := Aside0.mk c20
           clear c20
           obtain ⟨y585, hY_⟩ : ∃ y_ : List Int, y_ = (x6_3 ++ [46]) := ⟨_, rfl⟩
           replace H : (spec_l04Text.l1 k3 t570 t571 t572 y585 x7_1 (wrap64 (x8_3 + 1))) = some r := yY_
           have Ny585 := Aside0.mk hY_
           clear hY_
           have H' := Aside0.mk H
           clear H
           obtain ⟨Ao21, co21, eo21⟩ := Kd.R_slice HO_5.out
           subst eo21
           go_wp2_with (first | ((with_reducible refine gate_callee (f := 88) rfl ?_); refine gL_ (some 36) Try.func88 #[.slice Ao21 t572.length co21, .agg #[.int .i64 x8_3, .int .i64 x7_1]] ?_; (with_reducible refine (spec_l02Index.calls k3 _ _ t572 x8_3 x7_1 t581 _ ?side1 ?side2 A14.out).mono ?_); (case side1 => exact cS_ ((Kd.R_reads' HO_5.out).2.2)); (case side2 => exact (Kd.R_reads' HO_5.out).2.1); rintro e w22 ⟨rfl, hb⟩; refine ⟨_, rfl, ?_⟩; replace HO_5 := Aside0.mk (Kd.R_below (rS_ HO_5.out) hb); replace HO_6 := Aside0.mk (Kd.R_below (rS_ HO_6.out) hb); replace HB := Aside0.mk (below_step bB_ hb); (try clear hb)) | ((with_reducible refine gate_builtin (b := .append) (xs := #[.tmp 41, .tmp 42]) rfl ?_); at_builtin; refine Kd.R_append (Kd.int .u8) (w0 := w) w.heap.size rfl (.tmp 41) (.tmp 42) 36 5 (.int .u8 0) 1 rfl Try.underlying36 info5 rfl (by decide) (by omega) u6 x6_3 46 [.int .u8 46] (fun _ => True) (fun _ => False) rfl rfl ?aP (fun _ hk => hk.elim) ?aF ?aO ?aB ?aS ?aL ?_; (case aP => exact rfl); (case aB => exact bB_); (case aF => exact (fun _ _ => trivial)); (case aO => exact (rS_ HO_6.out)); (case aS => exact (below_size bB_)); (case aL => have := LMc20.out; omega); intro v586 w23 ho hb hg hat; rw [← Ny585.out] at ho; replace HO_5 := Aside0.mk (Kd.R_over' (rS_ HO_5.out) (Kd.R_typed (rS_ HO_6.out)) (by decide) hg); replace HB := Aside0.mk (hb); have HO587 := Aside0.mk (ho); clear HO_6; clear ho hb hg hat))
           go_roundg k3
           case measure => have := HK1.out; have := HJ8.out; have := HK3.out; omega
           case rel => exact ⟨(y585), (wrap64 (x8_3 + 1)), r3_, H', ⟨by have := HK1.out; have := HJ8.out; have := HK3.out; omega⟩, ⟨rS_ HO_5.out⟩, ⟨rS_ HO587.out⟩, ⟨bB_⟩⟩
          ·rw [if_neg c20] at H
           exact absurd H (by simp)
        ·rw [if_neg c13] at H
         have c13b0 : decide (x8_3 < t570) = false := decide_eq_false c13
         clear c13
         have H' := Aside0.mk H
         clear H
         go_wp2
         go_roundg k3
         case measure => have := HK1.out; have := HJ8.out; have := HK3.out; omega
         case rel => exact ⟨(x6_3), (wrap64 (x7_1 + 1)), r3_, H', ⟨by have := HK1.out; have := HJ8.out; have := HK3.out; omega⟩, ⟨rS_ HO_5.out⟩, ⟨rS_ HO_6.out⟩, ⟨bB_⟩⟩
   ·rw [if_neg c8] at H
    have c8b0 : decide (x7_1 < t571) = false := decide_eq_false c8
    clear c8
    obtain rfl := Option.some.inj H
    have hcv24 := own_string (P := Try.prog) Try.underlying36 Try.underlying5 Try.underlying9 (Kd.own_of_R HO_6.out)
    go_wp2
    go_ret
    exact ⟨r2_, bB_⟩

/-! ### spec_NameOf: function 17 -/
def spec_NameOf.f (k : Nat) (l0 : List (S55)) : Option (ByteArray × Int) := (spec_l03Code.f k l0).bind fun t621 => (if t621 = 0 then ((spec_l03Forms.f k l0 8).bind fun t622 => (if 0 < (t622.length : Int) then ((spec_l04Text.f k (rd_L3 t622 0)).bind fun t626 => (some (t626, 0))) else (none))) else (some ((⟨#[]⟩ : ByteArray), t621)))
theorem spec_NameOf.mono : ∀ a0 k, LeO (spec_NameOf.f k a0) (spec_NameOf.f (k + 1) a0) := by
 intro a0 k
 unfold spec_NameOf.f
 repeat' first
   | (with_reducible exact spec_l03Code.mono _ _)
   | (with_reducible exact spec_l03Forms.mono _ _ _)
   | (with_reducible exact spec_l04Text.mono _ _)
   | (with_reducible exact LeO.refl _)
   | (with_reducible exact LeO.none _)
   | (with_reducible refine LeO.ite ?_ ?_)
   | (with_reducible refine LeO.bind ?_ (fun _ => ?_))
   | exact spec_l03Code.mono _ _
   | exact spec_l03Forms.mono _ _ _
   | exact spec_l04Text.mono _ _
   | exact LeO.none _
   | refine LeO.ite ?_ ?_
   | refine LeO.bind ?_ (fun _ => ?_)
set_option maxHeartbeats 8000000 in
set_option maxRecDepth 100000 in
theorem spec_NameOf.calls (k : Nat) (A0 : Option Addr) (c0 : Nat) (l0 : List (S55)) (r1 : ByteArray) (r2 : Int) (w : World) (hr0 : Kd.C k55 w A0 l0.length l0) (hc0 : l0.length ≤ c0) (h : spec_NameOf.f k l0 = some (r1, r2)) :
  Calls Try.prog 17 #[.slice A0 l0.length c0] w fun e w' => e = .returned (.tuple #[.string r1, .int .i64 r2]) ∧ Below w.heap.size w w' := by
 have HR0 := Aside0.mk hr0
 have HC0 := Aside0.mk hc0
 clear hr0 hc0
 have HB := Aside0.mk (Below.refl w.heap.size w)
 have H : ((spec_l03Code.f k l0).bind fun t621 => (if t621 = 0 then ((spec_l03Forms.f k l0 8).bind fun t622 => (if 0 < (t622.length : Int) then ((spec_l04Text.f k (rd_L3 t622 0)).bind fun t626 => (some (t626, 0))) else (none))) else (some ((⟨#[]⟩ : ByteArray), t621)))) = some (r1, r2) := h
 clear h
 replace H := Option.bind_eq_some_iff.mp H
 obtain ⟨t621, A20, H⟩ := H
 try dsimp only at H
 have A2 := Aside0.mk A20
 clear A20
 by_cases c3 : t621 = 0
 ·rw [if_pos c3] at H
  have c3b0 : (t621 == 0) = true := beq_iff_eq.mpr c3
  have c3b1 : (t621 != 0) = false := bne_eq_false_iff_eq.mpr c3
  clear c3
  replace H := Option.bind_eq_some_iff.mp H
  obtain ⟨t622, A40, H⟩ := H
  try dsimp only at H
  have A4 := Aside0.mk A40
  clear A40
  by_cases c5 : 0 < (t622.length : Int)
  ·rw [if_pos c5] at H
   have c5b0 : decide (0 < (t622.length : Int)) = true := decide_eq_true c5
   have c5b1 : decide (0 < t622.length) = true := decide_eq_true (by omega)
   clear c5
   replace H := Option.bind_eq_some_iff.mp H
   obtain ⟨t626, A60, H⟩ := H
   try dsimp only at H
   have A6 := Aside0.mk A60
   clear A60
   simp only [Option.some.injEq, Prod.mk.injEq] at H
   obtain ⟨rfl, rfl⟩ := H
   go_enter Try.func17, Try.ntmps17
   go_wp2_with (first | ((with_reducible refine gate_callee (f := 52) rfl ?_); refine gL_ (some 6) Try.func52 #[.slice A0 l0.length c0] ?_; (with_reducible refine (spec_l03Code.calls k _ _ l0 t621 _ ?side1 ?side2 A2.out).mono ?_); (case side1 => exact cS_ HR0.out); (case side2 => exact HC0.out); rintro e w7 ⟨rfl, hb⟩; refine ⟨_, rfl, ?_⟩; replace HB := Aside0.mk (below_step bB_ hb); (try clear hb)) | ((with_reducible refine gate_callee (f := 54) rfl ?_); refine gL_ (some 11) Try.func54 #[.slice A0 l0.length c0, .int .i64 8] ?_; (with_reducible refine (spec_l03Forms.calls k _ _ l0 8 t622 _ ?side1 ?side2 A4.out).mono ?_); (case side1 => exact cS_ (Kd.C_below HR0.out HB.out)); (case side2 => exact HC0.out); rintro e w8 ⟨v623, rfl, ho0, hb⟩; refine ⟨_, rfl, ?_⟩; have HO624 := Aside0.mk (Kd.V_lower (Kd.V_mono (ok' := fun k_ => True) ho0 (fun k_ hk_ => trivial)) (below_size bB_)); replace HB := Aside0.mk (below_step bB_ hb); (try clear hb ho0); obtain ⟨Ao9, co9, eo9⟩ := Kd.V_slice HO624.out; subst eo9; have p625 : 0 ≤ (0 : Int) := (by omega); have q625 : 0 < (t622.length : Int) := of_decide_eq_true aS_; obtain ⟨ad625, A625_0, c625_0, e625, hx625_0, hl625_0, hi625_0⟩ := at_L3 (Kd.V_reads' HO624.out).2.2 0 p625 q625; cases e625; obtain ⟨ce625, hce625, hMe625, hcc625⟩ := Kd.V_get HO624.out [] 0 p625 (by first | exact q625 | exact of_decide_eq_true aS_ | (have e_ := (Kd.V_reads' HO624.out).1; omega)); obtain ⟨ua625_0, uc625_0, rfl, ul625_0, ge625_0⟩ := Kd.FK_slice_open hMe625; have hv625_0 := hcc625 0 _ rfl; rw [Nat.add_zero, show ((Kd.slice 55 k55)).sz = 1 from rfl, Nat.mul_one] at hv625_0; replace hv625_0 := Option.some.inj (hv625_0.symm.trans hx625_0); injection hv625_0 with hva_ hvn_ hvc_; rw [hva_] at ge625_0; rw [hvc_] at ul625_0; have HL625_0 := Aside0.mk (show Kd.V k55 55 _ w.heap.size _ _ (rd_L3 t622 0) from Kd.V_mk ul625_0 ge625_0); clear hva_ hvn_ hvc_ ge625_0 ul625_0; clear hcc625 hce625; have qi625 : (0 < t622.length) = True := eq_true (by omega); (try rw [show ((0 : Int)).toNat = 0 from rfl] at hx625_0); (try rw [Addr.add_zero'] at hx625_0); have HR625_0 := Aside0.mk hi625_0; have HC625_0 := Aside0.mk hl625_0; clear hi625_0 hl625_0; replace p625 := eq_true p625; replace q625 := eq_true q625) | ((with_reducible refine gate_callee (f := 53) rfl ?_); refine gL_ (some 14) Try.func53 #[.slice A625_0 (rd_L3 t622 0).length c625_0] ?_; (with_reducible refine (spec_l04Text.calls k _ _ (rd_L3 t622 0) t626 _ ?side1 ?side2 A6.out).mono ?_); (case side1 => exact cS_ (by repeat (first | (with_reducible exact HR625_0.out) | (with_reducible refine Kd.C_alloc ?_ _) | (with_reducible refine Kd.C_drewN ?_ _) | (with_reducible refine Kd.C_drew ?_) | exact HR625_0.out))); (case side2 => exact HC625_0.out); rintro e w10 ⟨rfl, hb⟩; refine ⟨_, rfl, ?_⟩; replace HO624 := Aside0.mk (Kd.V_below (by (with_reducible repeat (first | apply Kd.V_alloc | apply Kd.V_drewN | apply Kd.V_drew)); exact HO624.out) hb); replace HL625_0 := Aside0.mk (Kd.V_below (by (with_reducible repeat (first | apply Kd.V_alloc | apply Kd.V_drewN | apply Kd.V_drew)); exact HL625_0.out) hb); replace HR625_0 := Aside0.mk (Kd.C_below (by repeat (first | (with_reducible exact HR625_0.out) | (with_reducible refine Kd.C_alloc ?_ _) | (with_reducible refine Kd.C_drewN ?_ _) | (with_reducible refine Kd.C_drew ?_) | exact HR625_0.out)) hb); replace HB := Aside0.mk (below_step bB_ hb); (try clear hb)))
   go_ret2
   exact ⟨r2_, bB_⟩
  ·rw [if_neg c5] at H
   exact absurd H (by simp)
 ·rw [if_neg c3] at H
  have c3b0 : (t621 == 0) = false := beq_eq_false_iff_ne.mpr c3
  have c3b1 : (t621 != 0) = true := bne_iff_ne.mpr c3
  simp only [Option.some.injEq, Prod.mk.injEq] at H
  obtain ⟨rfl, rfl⟩ := H
  go_enter Try.func17, Try.ntmps17
  go_wp2_with (first | ((with_reducible refine gate_callee (f := 52) rfl ?_); refine gL_ (some 6) Try.func52 #[.slice A0 l0.length c0] ?_; (with_reducible refine (spec_l03Code.calls k _ _ l0 t621 _ ?side1 ?side2 A2.out).mono ?_); (case side1 => exact cS_ HR0.out); (case side2 => exact HC0.out); rintro e w11 ⟨rfl, hb⟩; refine ⟨_, rfl, ?_⟩; replace HB := Aside0.mk (below_step bB_ hb); (try clear hb)))
  go_ret2
  exact ⟨r2_, bB_⟩

/-! ### slices_MinFunc_CellS: function 125 -/
def slices_MinFunc_CellS.l0 : Nat → List (List (S55)) → List (S55) → Int → Option ((List (S55)))
 | 0, _, _, _ => none
 | k + 1, x0, x5, x6 => if x6 < (x0.length : Int) then (if 0 ≤ x6 then ((impl_compareShapes.f k (rd_L3 x0 x6) x5).bind fun t668 => (if t668 < 0 then (slices_MinFunc_CellS.l0 k x0 (rd_L3 x0 x6) (wrap64 (x6 + 1))) else (slices_MinFunc_CellS.l0 k x0 x5 (wrap64 (x6 + 1))))) else (none)) else (some x5)
def slices_MinFunc_CellS.f (k : Nat) (l0 : List (List (S55)))  : Option ((List (S55))) := if (l0.length : Int) < 1 then (none) else (if 0 < (l0.length : Int) then (slices_MinFunc_CellS.l0 k l0 (rd_L3 l0 0) 1) else (none))
theorem slices_MinFunc_CellS.mono_l : ∀ k, (∀ y0 y1 y2, LeO (slices_MinFunc_CellS.l0 k y0 y1 y2) (slices_MinFunc_CellS.l0 (k + 1) y0 y1 y2))
 | 0 => fun _ _ _ r h => by simp [slices_MinFunc_CellS.l0] at h
 | k + 1 => by
  have ih0 := slices_MinFunc_CellS.mono_l k
  ·intro y0 y1 y2
   unfold slices_MinFunc_CellS.l0
   repeat' first
   | (with_reducible exact ih0 _ _ _)
   | (with_reducible exact impl_compareShapes.mono _ _ _)
   | (with_reducible exact LeO.refl _)
   | (with_reducible exact LeO.none _)
   | (with_reducible refine LeO.ite ?_ ?_)
   | (with_reducible refine LeO.bind ?_ (fun _ => ?_))
   | exact ih0 _ _ _
   | exact impl_compareShapes.mono _ _ _
   | exact LeO.none _
   | refine LeO.ite ?_ ?_
   | refine LeO.bind ?_ (fun _ => ?_)
theorem slices_MinFunc_CellS.mono : ∀ a0 k, LeO (slices_MinFunc_CellS.f k a0) (slices_MinFunc_CellS.f (k + 1) a0) := by
 intro a0 k
 have ih0 := slices_MinFunc_CellS.mono_l k
 unfold slices_MinFunc_CellS.f
 repeat' first
   | (with_reducible exact ih0 _ _ _)
   | (with_reducible exact impl_compareShapes.mono _ _ _)
   | (with_reducible exact LeO.refl _)
   | (with_reducible exact LeO.none _)
   | (with_reducible refine LeO.ite ?_ ?_)
   | (with_reducible refine LeO.bind ?_ (fun _ => ?_))
   | exact ih0 _ _ _
   | exact impl_compareShapes.mono _ _ _
   | exact LeO.none _
   | refine LeO.ite ?_ ?_
   | refine LeO.bind ?_ (fun _ => ?_)
set_option maxHeartbeats 8000000 in
set_option maxRecDepth 100000 in
theorem slices_MinFunc_CellS.calls (k : Nat) (P0_ : Nat → Prop) (A0 : Option Addr) (c0 : Nat) (l0 : List (List (S55)))  (r : List (S55)) (w : World) (hs0 : Kd.V (Kd.slice 55 k55) 27 w w.heap.size (fun k_ => P0_ k_) (.slice A0 l0.length c0) l0) (h : slices_MinFunc_CellS.f k l0 = some r) :
  Calls Try.prog 125 #[.slice A0 l0.length c0, .func (.func 65) #[] #[]] w fun e w' => ∃ v0_ : Value, e = .returned (v0_) ∧ Kd.V k55 55 w' w.heap.size (fun k_ => (P0_ k_ ∨ w.heap.size ≤ k_)) v0_ r ∧ Below w.heap.size w w' := by
 have HO0 := Aside0.mk (show Kd.V (Kd.slice 55 k55) 27 w w.heap.size (fun k_ => (P0_ k_ ∨ w.heap.size ≤ k_)) (.slice A0 l0.length c0) l0 from Kd.V_mono hs0 (fun k_ hk => .inl hk))
 have HB := Aside0.mk (Below.refl w.heap.size w)
 have H : (if (l0.length : Int) < 1 then (none) else (if 0 < (l0.length : Int) then (slices_MinFunc_CellS.l0 k l0 (rd_L3 l0 0) 1) else (none))) = some r := h
 clear h
 by_cases c3 : (l0.length : Int) < 1
 ·rw [if_pos c3] at H
  exact absurd H (by simp)
 ·rw [if_neg c3] at H
  have c3b0 : decide ((l0.length : Int) < 1) = false := decide_eq_false c3
  have c3b1 : decide (l0.length < 1) = false := decide_eq_false (by omega)
  clear c3
  by_cases c4 : 0 < (l0.length : Int)
  ·rw [if_pos c4] at H
   have c4b0 : decide (0 < (l0.length : Int)) = true := decide_eq_true c4
   have c4b1 : decide (0 < l0.length) = true := decide_eq_true (by omega)
   clear c4
   have H' := Aside0.mk H
   clear H
   have p666 : 0 ≤ (0 : Int) := (by omega)
   have q666 : 0 < (l0.length : Int) := of_decide_eq_true aS_
   obtain ⟨ad666, A666_0, c666_0, e666, hx666_0, hl666_0, hi666_0⟩ := at_L3 (Kd.V_reads' HO0.out).2.2 0 p666 q666
   cases e666
   obtain ⟨ce666, hce666, hMe666, hcc666⟩ := Kd.V_get HO0.out [] 0 p666 (by first | exact q666 | exact of_decide_eq_true aS_ | (have e_ := (Kd.V_reads' HO0.out).1; omega))
   obtain ⟨ua666_0, uc666_0, rfl, ul666_0, ge666_0⟩ := Kd.FK_slice_open hMe666
   have hv666_0 := hcc666 0 _ rfl
   rw [Nat.add_zero, show ((Kd.slice 55 k55)).sz = 1 from rfl, Nat.mul_one] at hv666_0
   replace hv666_0 := Option.some.inj (hv666_0.symm.trans hx666_0)
   injection hv666_0 with hva_ hvn_ hvc_
   rw [hva_] at ge666_0
   rw [hvc_] at ul666_0
   have HL666_0 := Aside0.mk (show Kd.V k55 55 _ w.heap.size _ _ (rd_L3 l0 0) from Kd.V_mk ul666_0 ge666_0)
   clear hva_ hvn_ hvc_ ge666_0 ul666_0
   clear hcc666 hce666
   have qi666 : (0 < l0.length) = True := eq_true (by omega)
   (try rw [show ((0 : Int)).toNat = 0 from rfl] at hx666_0)
   (try rw [Addr.add_zero'] at hx666_0)
   have HR666_0 := Aside0.mk hi666_0
   have HC666_0 := Aside0.mk hl666_0
   clear hi666_0 hl666_0
   replace p666 := eq_true p666
   replace q666 := eq_true q666
   go_enter Try.func125, Try.ntmps125
   go_wp2
   go_loopg [5, 6] k (fun kq v5 v6 w' => ∃ (x5_1 : List (S55)) (x6_1 : Int), v6 = .int .i64 x6_1 ∧ Aside0 (slices_MinFunc_CellS.l0 kq l0 x5_1 x6_1 = some r) ∧ Aside0 (kq ≤ k) ∧ Aside0 (Kd.V (Kd.slice 55 k55) 27 w' w.heap.size (fun k_ => (P0_ k_ ∨ w.heap.size ≤ k_)) (.slice (some ad666) l0.length c0) l0) ∧ Aside0 (Kd.V k55 55 w' w.heap.size (fun k_ => (P0_ k_ ∨ w.heap.size ≤ k_)) v5 x5_1) ∧ Aside0 (Kd.C k55 w' A666_0 (rd_L3 l0 0).length (rd_L3 l0 0)) ∧ Aside0 (Below w.heap.size w w'))
   case atStart => exact ⟨(rd_L3 l0 0), (1), r3_, H', ⟨Nat.le_refl _⟩, ⟨by (with_reducible repeat (first | apply Kd.V_alloc | apply Kd.V_drewN | apply Kd.V_drew)); exact HO0.out⟩, ⟨by (with_reducible repeat (first | apply Kd.V_alloc | apply Kd.V_drewN | apply Kd.V_drew)); exact HL666_0.out⟩, ⟨by repeat (first | (with_reducible exact HR666_0.out) | (with_reducible refine Kd.C_alloc ?_ _) | (with_reducible refine Kd.C_drewN ?_ _) | (with_reducible refine Kd.C_drew ?_) | exact HR666_0.out)⟩, ⟨bB_⟩⟩
   case round =>
    clear H'
    try clear c1
    try clear p2
    try clear c3
    try clear c3b0
    try clear c3b1
    try clear c4
    try clear c4b0
    try clear c4b1
    try clear hx666_0
    try clear p666
    try clear q666
    obtain ⟨x5_1, x6_1, rfl, HA, HK1, HO_0, HO_5, HR666_0, HB⟩ := hrel
    cases gk with
    | zero => exact absurd HA.out (by simp [slices_MinFunc_CellS.l0])
    | succ k1 =>
     have H := HA.out
     clear HA
     simp only [slices_MinFunc_CellS.l0] at H
     by_cases c5 : x6_1 < (l0.length : Int)
     ·rw [if_pos c5] at H
      have c5b0 : decide (x6_1 < (l0.length : Int)) = true := decide_eq_true c5
      clear c5
      by_cases c6 : 0 ≤ x6_1
      ·rw [if_pos c6] at H
       have c6b0 : decide (0 ≤ x6_1) = true := decide_eq_true c6
       clear c6
       replace H := Option.bind_eq_some_iff.mp H
       obtain ⟨t668, A70, H⟩ := H
       try dsimp only at H
       have A7 := Aside0.mk A70
       clear A70
       by_cases c8 : t668 < 0
       ·rw [if_pos c8] at H
        have c8b0 : decide (t668 < 0) = true := decide_eq_true c8
        clear c8
        have H' := Aside0.mk H
        clear H
        have p667 : 0 ≤ (x6_1 : Int) := of_decide_eq_true aS_
        have q667 : x6_1 < (l0.length : Int) := of_decide_eq_true aS_
        obtain ⟨ad667, A667_0, c667_0, e667, hx667_0, hl667_0, hi667_0⟩ := at_L3 (Kd.V_reads' HO_0.out).2.2 x6_1 p667 q667
        obtain rfl : ad666 = ad667 := (by injection e667)
        obtain ⟨ce667, hce667, hMe667, hcc667⟩ := Kd.V_get HO_0.out [] x6_1 p667 (by first | exact q667 | exact of_decide_eq_true aS_ | (have e_ := (Kd.V_reads' HO_0.out).1; omega))
        obtain ⟨ua667_0, uc667_0, rfl, ul667_0, ge667_0⟩ := Kd.FK_slice_open hMe667
        have hv667_0 := hcc667 0 _ rfl
        rw [Nat.add_zero, show ((Kd.slice 55 k55)).sz = 1 from rfl, Nat.mul_one] at hv667_0
        replace hv667_0 := Option.some.inj (hv667_0.symm.trans hx667_0)
        injection hv667_0 with hva_ hvn_ hvc_
        rw [hva_] at ge667_0
        rw [hvc_] at ul667_0
        have HL667_0 := Aside0.mk (show Kd.V k55 55 _ w.heap.size _ _ (rd_L3 l0 x6_1) from Kd.V_mk ul667_0 ge667_0)
        clear hva_ hvn_ hvc_ ge667_0 ul667_0
        clear hcc667 hce667
        have HR667_0 := Aside0.mk hi667_0
        have HC667_0 := Aside0.mk hl667_0
        clear hi667_0 hl667_0
        replace p667 := eq_true p667
        replace q667 := eq_true q667
        obtain ⟨Ao9, co9, eo9⟩ := Kd.V_slice HO_5.out
        subst eo9
        go_wp2_with (first | (go_at_call 65; (with_reducible refine (impl_compareShapes.calls k1 _ _ (rd_L3 l0 x6_1) _ _ x5_1 t668 _ ?side1 ?side2 ?side3 ?side4 A7.out).mono ?_); (case side1 => exact cS_ (by repeat (first | (with_reducible exact HR667_0.out) | (with_reducible refine Kd.C_alloc ?_ _) | (with_reducible refine Kd.C_drewN ?_ _) | (with_reducible refine Kd.C_drew ?_) | exact HR667_0.out))); (case side2 => exact HC667_0.out); (case side3 => exact cS_ ((Kd.V_reads' HO_5.out).2.2)); (case side4 => exact (Kd.V_reads' HO_5.out).2.1); rintro e w10 ⟨rfl, hb⟩; replace HO_0 := Aside0.mk (Kd.V_below (by (with_reducible repeat (first | apply Kd.V_alloc | apply Kd.V_drewN | apply Kd.V_drew)); exact HO_0.out) hb); replace HO_5 := Aside0.mk (Kd.V_below (by (with_reducible repeat (first | apply Kd.V_alloc | apply Kd.V_drewN | apply Kd.V_drew)); exact HO_5.out) hb); replace HL667_0 := Aside0.mk (Kd.V_below (by (with_reducible repeat (first | apply Kd.V_alloc | apply Kd.V_drewN | apply Kd.V_drew)); exact HL667_0.out) hb); replace HR666_0 := Aside0.mk (Kd.C_below (by repeat (first | (with_reducible exact HR666_0.out) | (with_reducible refine Kd.C_alloc ?_ _) | (with_reducible refine Kd.C_drewN ?_ _) | (with_reducible refine Kd.C_drew ?_) | exact HR666_0.out)) hb); replace HR667_0 := Aside0.mk (Kd.C_below (by repeat (first | (with_reducible exact HR667_0.out) | (with_reducible refine Kd.C_alloc ?_ _) | (with_reducible refine Kd.C_drewN ?_ _) | (with_reducible refine Kd.C_drew ?_) | exact HR667_0.out)) hb); replace HB := Aside0.mk (below_step bB_ hb); (try clear hb); have p669 : 0 ≤ (x6_1 : Int) := of_decide_eq_true aS_; have q669 : x6_1 < (l0.length : Int) := of_decide_eq_true aS_; obtain ⟨ad669, A669_0, c669_0, e669, hx669_0, hl669_0, hi669_0⟩ := at_L3 (Kd.V_reads' HO_0.out).2.2 x6_1 p669 q669; obtain rfl : ad666 = ad669 := (by injection e669); obtain ⟨ce669, hce669, hMe669, hcc669⟩ := Kd.V_get HO_0.out [] x6_1 p669 (by first | exact q669 | exact of_decide_eq_true aS_ | (have e_ := (Kd.V_reads' HO_0.out).1; omega)); obtain ⟨ua669_0, uc669_0, rfl, ul669_0, ge669_0⟩ := Kd.FK_slice_open hMe669; have hv669_0 := hcc669 0 _ rfl; rw [Nat.add_zero, show ((Kd.slice 55 k55)).sz = 1 from rfl, Nat.mul_one] at hv669_0; replace hv669_0 := Option.some.inj (hv669_0.symm.trans hx669_0); injection hv669_0 with hva_ hvn_ hvc_; rw [hva_] at ge669_0; rw [hvc_] at ul669_0; have HL669_0 := Aside0.mk (show Kd.V k55 55 _ w.heap.size _ _ (rd_L3 l0 x6_1) from Kd.V_mk ul669_0 ge669_0); clear hva_ hvn_ hvc_ ge669_0 ul669_0; clear hcc669 hce669; have HR669_0 := Aside0.mk hi669_0; have HC669_0 := Aside0.mk hl669_0; clear hi669_0 hl669_0; replace p669 := eq_true p669; replace q669 := eq_true q669))
        go_roundg k1
        case measure => have := HK1.out; omega
        case rel => exact ⟨(rd_L3 l0 x6_1), (wrap64 (x6_1 + 1)), r3_, H', ⟨by have := HK1.out; omega⟩, ⟨by (with_reducible repeat (first | apply Kd.V_alloc | apply Kd.V_drewN | apply Kd.V_drew)); exact HO_0.out⟩, ⟨by (with_reducible repeat (first | apply Kd.V_alloc | apply Kd.V_drewN | apply Kd.V_drew)); exact HL669_0.out⟩, ⟨by repeat (first | (with_reducible exact HR666_0.out) | (with_reducible refine Kd.C_alloc ?_ _) | (with_reducible refine Kd.C_drewN ?_ _) | (with_reducible refine Kd.C_drew ?_) | exact HR666_0.out)⟩, ⟨bB_⟩⟩
       ·rw [if_neg c8] at H
        have c8b0 : decide (t668 < 0) = false := decide_eq_false c8
        clear c8
        have H' := Aside0.mk H
        clear H
        have p667 : 0 ≤ (x6_1 : Int) := of_decide_eq_true aS_
        have q667 : x6_1 < (l0.length : Int) := of_decide_eq_true aS_
        obtain ⟨ad667, A667_0, c667_0, e667, hx667_0, hl667_0, hi667_0⟩ := at_L3 (Kd.V_reads' HO_0.out).2.2 x6_1 p667 q667
        obtain rfl : ad666 = ad667 := (by injection e667)
        obtain ⟨ce667, hce667, hMe667, hcc667⟩ := Kd.V_get HO_0.out [] x6_1 p667 (by first | exact q667 | exact of_decide_eq_true aS_ | (have e_ := (Kd.V_reads' HO_0.out).1; omega))
        obtain ⟨ua667_0, uc667_0, rfl, ul667_0, ge667_0⟩ := Kd.FK_slice_open hMe667
        have hv667_0 := hcc667 0 _ rfl
        rw [Nat.add_zero, show ((Kd.slice 55 k55)).sz = 1 from rfl, Nat.mul_one] at hv667_0
        replace hv667_0 := Option.some.inj (hv667_0.symm.trans hx667_0)
        injection hv667_0 with hva_ hvn_ hvc_
        rw [hva_] at ge667_0
        rw [hvc_] at ul667_0
        have HL667_0 := Aside0.mk (show Kd.V k55 55 _ w.heap.size _ _ (rd_L3 l0 x6_1) from Kd.V_mk ul667_0 ge667_0)
        clear hva_ hvn_ hvc_ ge667_0 ul667_0
        clear hcc667 hce667
        have HR667_0 := Aside0.mk hi667_0
        have HC667_0 := Aside0.mk hl667_0
        clear hi667_0 hl667_0
        replace p667 := eq_true p667
        replace q667 := eq_true q667
        obtain ⟨Ao11, co11, eo11⟩ := Kd.V_slice HO_5.out
        subst eo11
        go_wp2_with (first | (go_at_call 65; (with_reducible refine (impl_compareShapes.calls k1 _ _ (rd_L3 l0 x6_1) _ _ x5_1 t668 _ ?side1 ?side2 ?side3 ?side4 A7.out).mono ?_); (case side1 => exact cS_ (by repeat (first | (with_reducible exact HR667_0.out) | (with_reducible refine Kd.C_alloc ?_ _) | (with_reducible refine Kd.C_drewN ?_ _) | (with_reducible refine Kd.C_drew ?_) | exact HR667_0.out))); (case side2 => exact HC667_0.out); (case side3 => exact cS_ ((Kd.V_reads' HO_5.out).2.2)); (case side4 => exact (Kd.V_reads' HO_5.out).2.1); rintro e w12 ⟨rfl, hb⟩; replace HO_0 := Aside0.mk (Kd.V_below (by (with_reducible repeat (first | apply Kd.V_alloc | apply Kd.V_drewN | apply Kd.V_drew)); exact HO_0.out) hb); replace HO_5 := Aside0.mk (Kd.V_below (by (with_reducible repeat (first | apply Kd.V_alloc | apply Kd.V_drewN | apply Kd.V_drew)); exact HO_5.out) hb); replace HL667_0 := Aside0.mk (Kd.V_below (by (with_reducible repeat (first | apply Kd.V_alloc | apply Kd.V_drewN | apply Kd.V_drew)); exact HL667_0.out) hb); replace HR666_0 := Aside0.mk (Kd.C_below (by repeat (first | (with_reducible exact HR666_0.out) | (with_reducible refine Kd.C_alloc ?_ _) | (with_reducible refine Kd.C_drewN ?_ _) | (with_reducible refine Kd.C_drew ?_) | exact HR666_0.out)) hb); replace HR667_0 := Aside0.mk (Kd.C_below (by repeat (first | (with_reducible exact HR667_0.out) | (with_reducible refine Kd.C_alloc ?_ _) | (with_reducible refine Kd.C_drewN ?_ _) | (with_reducible refine Kd.C_drew ?_) | exact HR667_0.out)) hb); replace HB := Aside0.mk (below_step bB_ hb); (try clear hb)))
        go_roundg k1
        case measure => have := HK1.out; omega
        case rel => exact ⟨(x5_1), (wrap64 (x6_1 + 1)), r3_, H', ⟨by have := HK1.out; omega⟩, ⟨by (with_reducible repeat (first | apply Kd.V_alloc | apply Kd.V_drewN | apply Kd.V_drew)); exact HO_0.out⟩, ⟨by (with_reducible repeat (first | apply Kd.V_alloc | apply Kd.V_drewN | apply Kd.V_drew)); exact HO_5.out⟩, ⟨by repeat (first | (with_reducible exact HR666_0.out) | (with_reducible refine Kd.C_alloc ?_ _) | (with_reducible refine Kd.C_drewN ?_ _) | (with_reducible refine Kd.C_drew ?_) | exact HR666_0.out)⟩, ⟨bB_⟩⟩
      ·rw [if_neg c6] at H
       exact absurd H (by simp)
     ·rw [if_neg c5] at H
      have c5b0 : decide (x6_1 < (l0.length : Int)) = false := decide_eq_false c5
      clear c5
      obtain rfl := Option.some.inj H
      go_wp2
      go_ret
      exact ⟨_, r2_, by (with_reducible repeat (first | apply Kd.V_alloc | apply Kd.V_drewN | apply Kd.V_drew)); exact HO_5.out, bB_⟩
  ·rw [if_neg c4] at H
   exact absurd H (by simp)

/-! ### impl_leastOf: function 92 -/
def impl_leastOf.f (k : Nat) (l0 : List (List (S55))) : Option ((List (S55))) := (slices_MinFunc_CellS.f k l0).bind fun t670 => (some t670)
theorem impl_leastOf.mono : ∀ a0 k, LeO (impl_leastOf.f k a0) (impl_leastOf.f (k + 1) a0) := by
 intro a0 k
 unfold impl_leastOf.f
 repeat' first
   | (with_reducible exact slices_MinFunc_CellS.mono _ _)
   | (with_reducible exact LeO.refl _)
   | (with_reducible exact LeO.none _)
   | (with_reducible refine LeO.ite ?_ ?_)
   | (with_reducible refine LeO.bind ?_ (fun _ => ?_))
   | exact slices_MinFunc_CellS.mono _ _
   | exact LeO.none _
   | refine LeO.ite ?_ ?_
   | refine LeO.bind ?_ (fun _ => ?_)
set_option maxHeartbeats 8000000 in
set_option maxRecDepth 100000 in
theorem impl_leastOf.calls (k : Nat) (P0_ : Nat → Prop) (A0 : Option Addr) (c0 : Nat) (l0 : List (List (S55))) (r : List (S55)) (w : World) (hs0 : Kd.V (Kd.slice 55 k55) 27 w w.heap.size (fun k_ => P0_ k_) (.slice A0 l0.length c0) l0) (h : impl_leastOf.f k l0 = some r) :
  Calls Try.prog 92 #[.slice A0 l0.length c0] w fun e w' => ∃ v0_ : Value, e = .returned (v0_) ∧ Kd.V k55 55 w' w.heap.size (fun k_ => (P0_ k_ ∨ w.heap.size ≤ k_)) v0_ r ∧ Below w.heap.size w w' := by
 have HO0 := Aside0.mk (show Kd.V (Kd.slice 55 k55) 27 w w.heap.size (fun k_ => (P0_ k_ ∨ w.heap.size ≤ k_)) (.slice A0 l0.length c0) l0 from Kd.V_mono hs0 (fun k_ hk => .inl hk))
 have HB := Aside0.mk (Below.refl w.heap.size w)
 have H : ((slices_MinFunc_CellS.f k l0).bind fun t670 => (some t670)) = some r := h
 clear h
 replace H := Option.bind_eq_some_iff.mp H
 obtain ⟨t670, A20, H⟩ := H
 try dsimp only at H
 have A2 := Aside0.mk A20
 clear A20
 obtain rfl := Option.some.inj H
 go_enter Try.func92, Try.ntmps92
 go_wp2_with (first | ((with_reducible refine gate_callee (f := 125) rfl ?_); refine gL_ (some 4) Try.func125 #[.slice A0 l0.length c0, .func (.func 65) #[] #[]] ?_; (with_reducible refine (slices_MinFunc_CellS.calls k (fun k_ => (P0_ k_ ∨ w.heap.size ≤ k_)) _ _ l0  t670 _ ?side1 A2.out).mono ?_); (case side1 => exact HO0.out); rintro e w3 ⟨v671, rfl, ho0, hb⟩; refine ⟨_, rfl, ?_⟩; replace HO0 := Aside0.mk (Kd.V_below (by (with_reducible repeat (first | apply Kd.V_alloc | apply Kd.V_drewN | apply Kd.V_drew)); exact HO0.out) hb); have HO672 := Aside0.mk (Kd.V_lower (Kd.V_mono (ok' := fun k_ => (P0_ k_ ∨ w.heap.size ≤ k_)) ho0 (fun k_ hk_ => Or.elim hk_ (fun hs_ => hs_) (fun hn_ => (.inr (Nat.le_trans (below_size bB_) hn_))))) (below_size bB_)); replace HB := Aside0.mk (below_step bB_ hb); (try clear hb ho0)))
 go_ret
 exact ⟨_, r2_, by (with_reducible repeat (first | apply Kd.V_alloc | apply Kd.V_drewN | apply Kd.V_drew)); exact HO672.out, bB_⟩

/-! ### impl_freeForm: function 57 -/
def impl_freeForm.f (k : Nat) (l0 : List (S55)) : Option ((List (S55))) := (impl_forms.f k l0 8).bind fun t673 => ((impl_leastOf.f k t673).bind fun t676 => (some t676))
theorem impl_freeForm.mono : ∀ a0 k, LeO (impl_freeForm.f k a0) (impl_freeForm.f (k + 1) a0) := by
 intro a0 k
 unfold impl_freeForm.f
 repeat' first
   | (with_reducible exact impl_forms.mono _ _ _)
   | (with_reducible exact impl_leastOf.mono _ _)
   | (with_reducible exact LeO.refl _)
   | (with_reducible exact LeO.none _)
   | (with_reducible refine LeO.ite ?_ ?_)
   | (with_reducible refine LeO.bind ?_ (fun _ => ?_))
   | exact impl_forms.mono _ _ _
   | exact impl_leastOf.mono _ _
   | exact LeO.none _
   | refine LeO.ite ?_ ?_
   | refine LeO.bind ?_ (fun _ => ?_)
set_option maxHeartbeats 8000000 in
set_option maxRecDepth 100000 in
theorem impl_freeForm.calls (k : Nat) (A0 : Option Addr) (c0 : Nat) (l0 : List (S55)) (r : List (S55)) (w : World) (hr0 : Kd.C k55 w A0 l0.length l0) (hc0 : l0.length ≤ c0) (h : impl_freeForm.f k l0 = some r) :
  Calls Try.prog 57 #[.slice A0 l0.length c0] w fun e w' => ∃ v0_ : Value, e = .returned (v0_) ∧ Kd.V k55 55 w' w.heap.size (fun k_ => (w.heap.size ≤ k_)) v0_ r ∧ Below w.heap.size w w' := by
 have HR0 := Aside0.mk hr0
 have HC0 := Aside0.mk hc0
 clear hr0 hc0
 have HB := Aside0.mk (Below.refl w.heap.size w)
 have H : ((impl_forms.f k l0 8).bind fun t673 => ((impl_leastOf.f k t673).bind fun t676 => (some t676))) = some r := h
 clear h
 replace H := Option.bind_eq_some_iff.mp H
 obtain ⟨t673, A20, H⟩ := H
 try dsimp only at H
 have A2 := Aside0.mk A20
 clear A20
 replace H := Option.bind_eq_some_iff.mp H
 obtain ⟨t676, A30, H⟩ := H
 try dsimp only at H
 have A3 := Aside0.mk A30
 clear A30
 obtain rfl := Option.some.inj H
 go_enter Try.func57, Try.ntmps57
 go_wp2_with (first | ((with_reducible refine gate_callee (f := 64) rfl ?_); refine gL_ (some 4) Try.func64 #[.slice A0 l0.length c0, .int .i64 8] ?_; (with_reducible refine (impl_forms.calls k _ _ l0 8 t673 _ ?side1 ?side2 A2.out).mono ?_); (case side1 => exact cS_ HR0.out); (case side2 => exact HC0.out); rintro e w4 ⟨v674, rfl, ho0, hb⟩; refine ⟨_, rfl, ?_⟩; have HO675 := Aside0.mk (Kd.S_lower (Kd.S_newM (M := fun k_ => (w.heap.size ≤ k_)) ho0 (below_size bB_) (fun k_ h_ => h_)) (below_size bB_)); replace HB := Aside0.mk (below_step bB_ hb); (try clear hb ho0); obtain ⟨Ao5, co5, eo5⟩ := Kd.S_slice HO675.out; subst eo5) | ((with_reducible refine gate_callee (f := 92) rfl ?_); refine gL_ (some 5) Try.func92 #[.slice Ao5 t673.length co5] ?_; (with_reducible refine (impl_leastOf.calls k (fun k_ => ((w.heap.size ≤ k_) ∧ True)) _ _ t673 t676 _ ?side1 A3.out).mono ?_); (case side1 => exact Kd.S_V (HO675.out)); rintro e w6 ⟨v677, rfl, ho0, hb⟩; refine ⟨_, rfl, ?_⟩; replace HO675 := Aside0.mk (Kd.S_below (sS_ HO675.out) hb); have HO678 := Aside0.mk (Kd.V_lower (Kd.V_mono (ok' := fun k_ => (w.heap.size ≤ k_)) ho0 (fun k_ hk_ => Or.elim hk_ (fun hs_ => hs_.1) (fun hn_ => (Nat.le_trans (below_size bB_) hn_)))) (below_size bB_)); replace HB := Aside0.mk (below_step bB_ hb); (try clear hb ho0)))
 go_ret
 exact ⟨_, r2_, by (with_reducible repeat (first | apply Kd.V_alloc | apply Kd.V_drewN | apply Kd.V_drew)); exact HO678.out, bB_⟩

/-! ### impl_NameOf: function 18 -/
def impl_NameOf.f (k : Nat) (l0 : List (S55)) : Option (ByteArray × Int) := (impl_shapeCode.f k l0).bind fun t679 => (if t679 = 0 then ((impl_freeForm.f k l0).bind fun t680 => ((impl_shapeText.f k t680).bind fun t683 => (some (t683, 0)))) else (some ((⟨#[]⟩ : ByteArray), t679)))
theorem impl_NameOf.mono : ∀ a0 k, LeO (impl_NameOf.f k a0) (impl_NameOf.f (k + 1) a0) := by
 intro a0 k
 unfold impl_NameOf.f
 repeat' first
   | (with_reducible exact impl_freeForm.mono _ _)
   | (with_reducible exact impl_shapeCode.mono _ _)
   | (with_reducible exact impl_shapeText.mono _ _)
   | (with_reducible exact LeO.refl _)
   | (with_reducible exact LeO.none _)
   | (with_reducible refine LeO.ite ?_ ?_)
   | (with_reducible refine LeO.bind ?_ (fun _ => ?_))
   | exact impl_freeForm.mono _ _
   | exact impl_shapeCode.mono _ _
   | exact impl_shapeText.mono _ _
   | exact LeO.none _
   | refine LeO.ite ?_ ?_
   | refine LeO.bind ?_ (fun _ => ?_)
set_option maxHeartbeats 8000000 in
set_option maxRecDepth 100000 in
theorem impl_NameOf.calls (k : Nat) (A0 : Option Addr) (c0 : Nat) (l0 : List (S55)) (r1 : ByteArray) (r2 : Int) (w : World) (hr0 : Kd.C k55 w A0 l0.length l0) (hc0 : l0.length ≤ c0) (h : impl_NameOf.f k l0 = some (r1, r2)) :
  Calls Try.prog 18 #[.slice A0 l0.length c0] w fun e w' => e = .returned (.tuple #[.string r1, .int .i64 r2]) ∧ Below w.heap.size w w' := by
 have HR0 := Aside0.mk hr0
 have HC0 := Aside0.mk hc0
 clear hr0 hc0
 have HB := Aside0.mk (Below.refl w.heap.size w)
 have H : ((impl_shapeCode.f k l0).bind fun t679 => (if t679 = 0 then ((impl_freeForm.f k l0).bind fun t680 => ((impl_shapeText.f k t680).bind fun t683 => (some (t683, 0)))) else (some ((⟨#[]⟩ : ByteArray), t679)))) = some (r1, r2) := h
 clear h
 replace H := Option.bind_eq_some_iff.mp H
 obtain ⟨t679, A20, H⟩ := H
 try dsimp only at H
 have A2 := Aside0.mk A20
 clear A20
 by_cases c3 : t679 = 0
 ·rw [if_pos c3] at H
  have c3b0 : (t679 == 0) = true := beq_iff_eq.mpr c3
  have c3b1 : (t679 != 0) = false := bne_eq_false_iff_eq.mpr c3
  clear c3
  replace H := Option.bind_eq_some_iff.mp H
  obtain ⟨t680, A40, H⟩ := H
  try dsimp only at H
  have A4 := Aside0.mk A40
  clear A40
  replace H := Option.bind_eq_some_iff.mp H
  obtain ⟨t683, A50, H⟩ := H
  try dsimp only at H
  have A5 := Aside0.mk A50
  clear A50
  simp only [Option.some.injEq, Prod.mk.injEq] at H
  obtain ⟨rfl, rfl⟩ := H
  go_enter Try.func18, Try.ntmps18
  go_wp2_with (first | ((with_reducible refine gate_callee (f := 55) rfl ?_); refine gL_ (some 6) Try.func55 #[.slice A0 l0.length c0] ?_; (with_reducible refine (impl_shapeCode.calls k _ _ l0 t679 _ ?side1 ?side2 A2.out).mono ?_); (case side1 => exact cS_ HR0.out); (case side2 => exact HC0.out); rintro e w6 ⟨rfl, hb⟩; refine ⟨_, rfl, ?_⟩; replace HB := Aside0.mk (below_step bB_ hb); (try clear hb)) | ((with_reducible refine gate_callee (f := 57) rfl ?_); refine gL_ (some 11) Try.func57 #[.slice A0 l0.length c0] ?_; (with_reducible refine (impl_freeForm.calls k _ _ l0 t680 _ ?side1 ?side2 A4.out).mono ?_); (case side1 => exact cS_ (Kd.C_below HR0.out HB.out)); (case side2 => exact HC0.out); rintro e w7 ⟨v681, rfl, ho0, hb⟩; refine ⟨_, rfl, ?_⟩; have HO682 := Aside0.mk (Kd.V_lower (Kd.V_mono (ok' := fun k_ => True) ho0 (fun k_ hk_ => trivial)) (below_size bB_)); replace HB := Aside0.mk (below_step bB_ hb); (try clear hb ho0); obtain ⟨Ao8, co8, eo8⟩ := Kd.V_slice HO682.out; subst eo8) | ((with_reducible refine gate_callee (f := 56) rfl ?_); refine gL_ (some 12) Try.func56 #[.slice Ao8 t680.length co8] ?_; (with_reducible refine (impl_shapeText.calls k _ _ t680 t683 _ ?side1 ?side2 A5.out).mono ?_); (case side1 => exact cS_ ((Kd.V_reads' HO682.out).2.2)); (case side2 => exact (Kd.V_reads' HO682.out).2.1); rintro e w9 ⟨rfl, hb⟩; refine ⟨_, rfl, ?_⟩; replace HO682 := Aside0.mk (Kd.V_below (by (with_reducible repeat (first | apply Kd.V_alloc | apply Kd.V_drewN | apply Kd.V_drew)); exact HO682.out) hb); replace HB := Aside0.mk (below_step bB_ hb); (try clear hb)))
  go_ret2
  exact ⟨r2_, bB_⟩
 ·rw [if_neg c3] at H
  have c3b0 : (t679 == 0) = false := beq_eq_false_iff_ne.mpr c3
  have c3b1 : (t679 != 0) = true := bne_iff_ne.mpr c3
  simp only [Option.some.injEq, Prod.mk.injEq] at H
  obtain ⟨rfl, rfl⟩ := H
  go_enter Try.func18, Try.ntmps18
  go_wp2_with (first | ((with_reducible refine gate_callee (f := 55) rfl ?_); refine gL_ (some 6) Try.func55 #[.slice A0 l0.length c0] ?_; (with_reducible refine (impl_shapeCode.calls k _ _ l0 t679 _ ?side1 ?side2 A2.out).mono ?_); (case side1 => exact cS_ HR0.out); (case side2 => exact HC0.out); rintro e w10 ⟨rfl, hb⟩; refine ⟨_, rfl, ?_⟩; replace HB := Aside0.mk (below_step bB_ hb); (try clear hb)))
  go_ret2
  exact ⟨r2_, bB_⟩

/-! ### laws_FnExactNameOf: function 4 -/
def laws_FnExactNameOf.j0 : Nat → List (S57) → List (S55) → Bool → Option (Bool)
 | 0, _, _, _ => none
 | k + 1, x0, x6, x34 => if x34 = true then (some false) else ((laws_toCellS.f k x0).bind fun t695 => ((laws_eqCellS.f k x6 t695).bind fun t698 => (if t698 = true then (some true) else (some false))))
def laws_FnExactNameOf.f (k : Nat) (l0 : List (S57)) : Option (Bool) := (laws_szCellS.f l0 1048576).bind fun t684 => (if t684 < 0 then (some true) else ((laws_toCellS.f k l0).bind fun t685 => ((spec_NameOf.f k t685).bind fun bt688 => ((laws_toCellS.f k l0).bind fun t690 => ((impl_NameOf.f k t690).bind fun bt693 => (if bt693.1.toList = bt688.1.toList then (laws_FnExactNameOf.j0 k l0 t690 (bt693.2 != bt688.2)) else (laws_FnExactNameOf.j0 k l0 t690 true)))))))
theorem laws_FnExactNameOf.mono_l : ∀ k, (∀ y0 y1 y2, LeO (laws_FnExactNameOf.j0 k y0 y1 y2) (laws_FnExactNameOf.j0 (k + 1) y0 y1 y2))
 | 0 => fun _ _ _ r h => by simp [laws_FnExactNameOf.j0] at h
 | k + 1 => by
  have ih0 := laws_FnExactNameOf.mono_l k
  ·intro y0 y1 y2
   unfold laws_FnExactNameOf.j0
   repeat' first
   | (with_reducible exact ih0 _ _ _)
   | (with_reducible exact impl_NameOf.mono _ _)
   | (with_reducible exact laws_eqCellS.mono _ _ _)
   | (with_reducible exact laws_toCellS.mono _ _)
   | (with_reducible exact spec_NameOf.mono _ _)
   | (with_reducible exact LeO.refl _)
   | (with_reducible exact LeO.none _)
   | (with_reducible refine LeO.ite ?_ ?_)
   | (with_reducible refine LeO.bind ?_ (fun _ => ?_))
   | exact ih0 _ _ _
   | exact impl_NameOf.mono _ _
   | exact laws_eqCellS.mono _ _ _
   | exact laws_toCellS.mono _ _
   | exact spec_NameOf.mono _ _
   | exact LeO.none _
   | refine LeO.ite ?_ ?_
   | refine LeO.bind ?_ (fun _ => ?_)
theorem laws_FnExactNameOf.mono : ∀ a0 k, LeO (laws_FnExactNameOf.f k a0) (laws_FnExactNameOf.f (k + 1) a0) := by
 intro a0 k
 have ih0 := laws_FnExactNameOf.mono_l k
 unfold laws_FnExactNameOf.f
 repeat' first
   | (with_reducible exact ih0 _ _ _)
   | (with_reducible exact impl_NameOf.mono _ _)
   | (with_reducible exact laws_eqCellS.mono _ _ _)
   | (with_reducible exact laws_toCellS.mono _ _)
   | (with_reducible exact spec_NameOf.mono _ _)
   | (with_reducible exact LeO.refl _)
   | (with_reducible exact LeO.none _)
   | (with_reducible refine LeO.ite ?_ ?_)
   | (with_reducible refine LeO.bind ?_ (fun _ => ?_))
   | exact ih0 _ _ _
   | exact impl_NameOf.mono _ _
   | exact laws_eqCellS.mono _ _ _
   | exact laws_toCellS.mono _ _
   | exact spec_NameOf.mono _ _
   | exact LeO.none _
   | refine LeO.ite ?_ ?_
   | refine LeO.bind ?_ (fun _ => ?_)
set_option maxHeartbeats 8000000 in
set_option maxRecDepth 100000 in
theorem laws_FnExactNameOf.calls (k : Nat) (A0 : Option Addr) (c0 : Nat) (l0 : List (S57)) (r : Bool) (w : World) (hr0 : Kd.C k57 w A0 l0.length l0) (hc0 : l0.length ≤ c0) (h : laws_FnExactNameOf.f k l0 = some r) :
  Calls Try.prog 4 #[.slice A0 l0.length c0] w fun e w' => e = .returned (.bool r) ∧ Below w.heap.size w w' := by
 have HR0 := Aside0.mk hr0
 have HC0 := Aside0.mk hc0
 clear hr0 hc0
 have HB := Aside0.mk (Below.refl w.heap.size w)
 have H : ((laws_szCellS.f l0 1048576).bind fun t684 => (if t684 < 0 then (some true) else ((laws_toCellS.f k l0).bind fun t685 => ((spec_NameOf.f k t685).bind fun bt688 => ((laws_toCellS.f k l0).bind fun t690 => ((impl_NameOf.f k t690).bind fun bt693 => (if bt693.1.toList = bt688.1.toList then (laws_FnExactNameOf.j0 k l0 t690 (bt693.2 != bt688.2)) else (laws_FnExactNameOf.j0 k l0 t690 true)))))))) = some r := h
 clear h
 replace H := Option.bind_eq_some_iff.mp H
 obtain ⟨t684, A20, H⟩ := H
 try dsimp only at H
 have A2 := Aside0.mk A20
 clear A20
 by_cases c3 : t684 < 0
 ·rw [if_pos c3] at H
  have c3b0 : decide (t684 < 0) = true := decide_eq_true c3
  clear c3
  obtain rfl := Option.some.inj H
  go_enter Try.func4, Try.ntmps4
  go_wp2_with (first | ((with_reducible refine gate_callee (f := 8) rfl ?_); refine gL_ (some 11) Try.func8 #[.slice A0 l0.length c0, .int .i64 1048576] ?_; (with_reducible refine (laws_szCellS.calls _ _ l0 1048576 t684 _ ?side1 ?side2 A2.out).mono ?_); (case side1 => exact cS_ HR0.out); (case side2 => exact HC0.out); rintro e w' ⟨rfl, ⟨nd, rfl⟩⟩; refine ⟨_, rfl, ?_⟩))
  go_ret
  exact ⟨r2_, bB_⟩
 ·rw [if_neg c3] at H
  have c3b0 : decide (t684 < 0) = false := decide_eq_false c3
  clear c3
  replace H := Option.bind_eq_some_iff.mp H
  obtain ⟨t685, A40, H⟩ := H
  try dsimp only at H
  have A4 := Aside0.mk A40
  clear A40
  replace H := Option.bind_eq_some_iff.mp H
  obtain ⟨⟨t688, t689⟩, A50, H⟩ := H
  try dsimp only at H
  have A5 := Aside0.mk A50
  clear A50
  replace H := Option.bind_eq_some_iff.mp H
  obtain ⟨t690, A60, H⟩ := H
  try dsimp only at H
  have A6 := Aside0.mk A60
  clear A60
  replace H := Option.bind_eq_some_iff.mp H
  obtain ⟨⟨t693, t694⟩, A70, H⟩ := H
  try dsimp only at H
  have A7 := Aside0.mk A70
  clear A70
  have HC8 := Aside0.mk H
  clear H
  go_enter Try.func4, Try.ntmps4
  go_upto_region 8 with (first | ((with_reducible refine gate_callee (f := 8) rfl ?_); refine gL_ (some 11) Try.func8 #[.slice A0 l0.length c0, .int .i64 1048576] ?_; (with_reducible refine (laws_szCellS.calls _ _ l0 1048576 t684 _ ?side1 ?side2 A2.out).mono ?_); (case side1 => exact cS_ HR0.out); (case side2 => exact HC0.out); rintro e w' ⟨rfl, ⟨nd, rfl⟩⟩; refine ⟨_, rfl, ?_⟩) | ((with_reducible refine gate_callee (f := 10) rfl ?_); refine gL_ (some 16) Try.func10 #[.slice A0 l0.length c0] ?_; (with_reducible refine (laws_toCellS.calls k _ _ l0 t685 _ ?side1 ?side2 A4.out).mono ?_); (case side1 => exact cS_ HR0.out); (case side2 => exact HC0.out); rintro e w9 ⟨v686, rfl, ho0, hb⟩; refine ⟨_, rfl, ?_⟩; have HO687 := Aside0.mk (Kd.R_lower ho0 (below_size bB_)); replace HB := Aside0.mk (below_step bB_ hb); (try clear hb ho0); obtain ⟨Ao10, co10, eo10⟩ := Kd.R_slice HO687.out; subst eo10) | ((with_reducible refine gate_callee (f := 17) rfl ?_); refine gL_ (some 17) Try.func17 #[.slice Ao10 t685.length co10] ?_; (with_reducible refine (spec_NameOf.calls k _ _ t685 t688 t689 _ ?side1 ?side2 A5.out).mono ?_); (case side1 => exact cS_ ((Kd.R_reads' HO687.out).2.2)); (case side2 => exact (Kd.R_reads' HO687.out).2.1); rintro e w11 ⟨rfl, hb⟩; refine ⟨_, rfl, ?_⟩; replace HO687 := Aside0.mk (Kd.R_below (rS_ HO687.out) hb); replace HB := Aside0.mk (below_step bB_ hb); (try clear hb)) | ((with_reducible refine gate_callee (f := 10) rfl ?_); refine gL_ (some 21) Try.func10 #[.slice A0 l0.length c0] ?_; (with_reducible refine (laws_toCellS.calls k _ _ l0 t690 _ ?side1 ?side2 A6.out).mono ?_); (case side1 => exact cS_ (Kd.C_below HR0.out HB.out)); (case side2 => exact HC0.out); rintro e w12 ⟨v691, rfl, ho0, hb⟩; refine ⟨_, rfl, ?_⟩; have HO692 := Aside0.mk (Kd.R_lower (Kd.R_new' ho0 (Kd.R_lt (rS_ HO687.out))) (below_size bB_)); replace HO687 := Aside0.mk (Kd.R_elder' (rS_ HO687.out) (Kd.R_base ho0) hb); replace HB := Aside0.mk (below_step bB_ hb); (try clear hb ho0); obtain ⟨Ao13, co13, eo13⟩ := Kd.R_slice HO692.out; subst eo13) | ((with_reducible refine gate_callee (f := 18) rfl ?_); refine gL_ (some 24) Try.func18 #[.slice Ao13 t690.length co13] ?_; (with_reducible refine (impl_NameOf.calls k _ _ t690 t693 t694 _ ?side1 ?side2 A7.out).mono ?_); (case side1 => exact cS_ ((Kd.R_reads' HO692.out).2.2)); (case side2 => exact (Kd.R_reads' HO692.out).2.1); rintro e w14 ⟨rfl, hb⟩; refine ⟨_, rfl, ?_⟩; replace HO687 := Aside0.mk (Kd.R_below (rS_ HO687.out) hb); replace HO692 := Aside0.mk (Kd.R_below (rS_ HO692.out) hb); replace HB := Aside0.mk (below_step bB_ hb); (try clear hb)))
  (try simp only [Act.put, List.setIfInBounds_toArray, List.set_cons_zero, List.set_cons_succ])
  go_cut [34] (fun v34 wc => ∃ (kq : Nat) (x34_7 : Bool), v34 = .bool x34_7 ∧ Aside0 (laws_FnExactNameOf.j0 kq l0 t690 x34_7 = some r) ∧ Aside0 (kq ≤ k) ∧ Aside0 (Kd.R k55 55 wc w.heap.size (fun _ => True) (.slice Ao13 t690.length co13) t690) ∧ Aside0 (Below w.heap.size w wc))
  case first =>
   have H := HC8.out
   clear HC8
   by_cases c15 : t693.toList = t688.toList
   ·rw [if_pos c15] at H
    have c15b0 : (t693.toList == t688.toList) = true := beq_iff_eq.mpr c15
    have c15b1 : (t693.toList != t688.toList) = false := bne_eq_false_iff_eq.mpr c15
    clear c15
    (first | rw [c15b0] | (simp only [i64_w, i32_w]; rw [c15b0]) | skip)
    have H' := Aside0.mk H
    clear H
    go_wp2
    go_meet
    case rel => exact ⟨_, ((t694 != t689)), r3_, H', ⟨by first | omega | exact Nat.le_refl _⟩, ⟨rS_ (Kd.R_mono HO692.out (fun _ hk => trivial))⟩, ⟨bB_⟩⟩
   ·rw [if_neg c15] at H
    have c15b0 : (t693.toList == t688.toList) = false := beq_eq_false_iff_ne.mpr c15
    have c15b1 : (t693.toList != t688.toList) = true := bne_iff_ne.mpr c15
    (first | rw [c15b0] | (simp only [i64_w, i32_w]; rw [c15b0]) | skip)
    have H' := Aside0.mk H
    clear H
    go_wp2
    go_meet
    case rel => exact ⟨_, (true), r3_, H', ⟨by first | omega | exact Nat.le_refl _⟩, ⟨rS_ (Kd.R_mono HO692.out (fun _ hk => trivial))⟩, ⟨bB_⟩⟩
  case rest =>
   clear HC8
   try clear c1
   try clear p2
   try clear c3
   try clear c3b0
   try clear c4
   try clear c8
   try clear c10
   try clear c15
   try clear c15b0
   try clear c15b1
   obtain ⟨kq, x34_7, rfl, HA, HJ7, HO_6, HB⟩ := hcut
   cases kq with
   | zero => exact absurd HA.out (by simp [laws_FnExactNameOf.j0])
   | succ kj7 =>
    have H := HA.out
    clear HA
    simp only [laws_FnExactNameOf.j0] at H
    by_cases c16 : x34_7 = true
    ·subst c16
     have H1 : (some false) = some r := by rw [if_pos rfl] at H; exact H
     clear H
     have H := H1
     clear H1
     obtain rfl := Option.some.inj H
     go_wp2
     go_ret
     exact ⟨r2_, bB_⟩
    ·replace c16 := Bool.eq_false_iff.mpr c16
     subst c16
     have H1 : ((laws_toCellS.f kj7 l0).bind fun t695 => ((laws_eqCellS.f kj7 t690 t695).bind fun t698 => (if t698 = true then (some true) else (some false)))) = some r := by rw [if_neg (show ¬ (false = true) by decide)] at H; exact H
     clear H
     have H := H1
     clear H1
     replace H := Option.bind_eq_some_iff.mp H
     obtain ⟨t695, A170, H⟩ := H
     try dsimp only at H
     have A17 := Aside0.mk A170
     clear A170
     replace H := Option.bind_eq_some_iff.mp H
     obtain ⟨t698, A180, H⟩ := H
     try dsimp only at H
     have A18 := Aside0.mk A180
     clear A180
     by_cases c19 : t698 = true
     ·subst c19
      have H1 : (some true) = some r := by rw [if_pos rfl] at H; exact H
      clear H
      have H := H1
      clear H1
      obtain rfl := Option.some.inj H
      go_wp2_with (first | ((with_reducible refine gate_callee (f := 10) rfl ?_); refine gL_ (some 37) Try.func10 #[.slice A0 l0.length c0] ?_; (with_reducible refine (laws_toCellS.calls kj7 _ _ l0 t695 _ ?side1 ?side2 A17.out).mono ?_); (case side1 => exact cS_ (Kd.C_below HR0.out HB.out)); (case side2 => exact HC0.out); rintro e w20 ⟨v696, rfl, ho0, hb⟩; refine ⟨_, rfl, ?_⟩; have HO697 := Aside0.mk (Kd.R_lower (Kd.R_new' ho0 (Kd.R_lt (rS_ HO_6.out))) (below_size bB_)); replace HO_6 := Aside0.mk (Kd.R_elder' (rS_ HO_6.out) (Kd.R_base ho0) hb); replace HB := Aside0.mk (below_step bB_ hb); (try clear hb ho0); obtain ⟨Ao21, co21, eo21⟩ := Kd.R_slice HO697.out; subst eo21) | ((with_reducible refine gate_callee (f := 13) rfl ?_); refine gL_ (some 38) Try.func13 #[.slice Ao13 t690.length co13, .slice Ao21 t695.length co21] ?_; (with_reducible refine (laws_eqCellS.calls kj7 _ _ t690 _ _ t695 true _ ?side1 ?side2 ?side3 ?side4 A18.out).mono ?_); (case side1 => exact cS_ ((Kd.R_reads' HO_6.out).2.2)); (case side2 => exact (Kd.R_reads' HO_6.out).2.1); (case side3 => exact cS_ ((Kd.R_reads' HO697.out).2.2)); (case side4 => exact (Kd.R_reads' HO697.out).2.1); rintro e w22 ⟨rfl, hb⟩; refine ⟨_, rfl, ?_⟩; replace HO_6 := Aside0.mk (Kd.R_below (rS_ HO_6.out) hb); replace HO697 := Aside0.mk (Kd.R_below (rS_ HO697.out) hb); replace HB := Aside0.mk (below_step bB_ hb); (try clear hb)))
      go_ret
      exact ⟨r2_, bB_⟩
     ·replace c19 := Bool.eq_false_iff.mpr c19
      subst c19
      have H1 : (some false) = some r := by rw [if_neg (show ¬ (false = true) by decide)] at H; exact H
      clear H
      have H := H1
      clear H1
      obtain rfl := Option.some.inj H
      go_wp2_with (first | ((with_reducible refine gate_callee (f := 10) rfl ?_); refine gL_ (some 37) Try.func10 #[.slice A0 l0.length c0] ?_; (with_reducible refine (laws_toCellS.calls kj7 _ _ l0 t695 _ ?side1 ?side2 A17.out).mono ?_); (case side1 => exact cS_ (Kd.C_below HR0.out HB.out)); (case side2 => exact HC0.out); rintro e w23 ⟨v696, rfl, ho0, hb⟩; refine ⟨_, rfl, ?_⟩; have HO697 := Aside0.mk (Kd.R_lower (Kd.R_new' ho0 (Kd.R_lt (rS_ HO_6.out))) (below_size bB_)); replace HO_6 := Aside0.mk (Kd.R_elder' (rS_ HO_6.out) (Kd.R_base ho0) hb); replace HB := Aside0.mk (below_step bB_ hb); (try clear hb ho0); obtain ⟨Ao24, co24, eo24⟩ := Kd.R_slice HO697.out; subst eo24) | ((with_reducible refine gate_callee (f := 13) rfl ?_); refine gL_ (some 38) Try.func13 #[.slice Ao13 t690.length co13, .slice Ao24 t695.length co24] ?_; (with_reducible refine (laws_eqCellS.calls kj7 _ _ t690 _ _ t695 false _ ?side1 ?side2 ?side3 ?side4 A18.out).mono ?_); (case side1 => exact cS_ ((Kd.R_reads' HO_6.out).2.2)); (case side2 => exact (Kd.R_reads' HO_6.out).2.1); (case side3 => exact cS_ ((Kd.R_reads' HO697.out).2.2)); (case side4 => exact (Kd.R_reads' HO697.out).2.1); rintro e w25 ⟨rfl, hb⟩; refine ⟨_, rfl, ?_⟩; replace HO_6 := Aside0.mk (Kd.R_below (rS_ HO_6.out) hb); replace HO697 := Aside0.mk (Kd.R_below (rS_ HO697.out) hb); replace HB := Aside0.mk (below_step bB_ hb); (try clear hb)))
      go_ret
      exact ⟨r2_, bB_⟩

end Go.Proofs.Ytbkafaoehheioaa.X
