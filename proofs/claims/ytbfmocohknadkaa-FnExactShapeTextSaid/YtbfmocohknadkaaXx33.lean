-- xprint.py
import Derived.Test.YtbfmocohknadkaaXx0
import Derived.Test.YtbfmocohknadkaaXx3
import Derived.Test.YtbfmocohknadkaaXx5
import Derived.Test.YtbfmocohknadkaaXx6
import Derived.Test.YtbfmocohknadkaaXx12
import Derived.Test.YtbfmocohknadkaaXx22
import Derived.Test.YtbfmocohknadkaaXx23
namespace Go.Proofs.Ytbfmocohknadkaa.X
open Go.RowKit Go.Proofs.YtbfmocohknadkaaW.PrintWords Go.Proofs.YtbfmocohknadkaaW.PrintLast Go.Proofs.YtbfmocohknadkaaW.PrintMore
attribute [local go_sem] max2_int min2_int max_two min_two max_three min_three max_four min_four   -- for this text's walks alone
set_option linter.unusedVariables false
set_option linter.unusedSimpArgs false

/-! ### spec_l04Text: function 83 -/
mutual
def spec_l04Text.l0 : Nat → Int → Int → List (S57) → List Int → Int → Option (ByteArray)
 | 0, _, _, _, _, _ => none
 | k + 1, x3, x4, x5, x6, x7 => if x7 < x4 then (if x7 > 0 then (if x6.length < 140737488355328 then (spec_l04Text.j1 k x3 x4 x5 (x6 ++ [47]) x7) else (none)) else (spec_l04Text.j1 k x3 x4 x5 x6 x7)) else (some (strOfNums x6))
def spec_l04Text.j1 : Nat → Int → Int → List (S57) → List Int → Int → Option (ByteArray)
 | 0, _, _, _, _, _ => none
 | k + 1, x3, x4, x5, x6, x7 => spec_l04Text.l1 k x3 x4 x5 x6 x7 0
def spec_l04Text.l1 : Nat → Int → Int → List (S57) → List Int → Int → Int → Option (ByteArray)
 | 0, _, _, _, _, _, _ => none
 | k + 1, x3, x4, x5, x6, x7, x8 => if x8 < x3 then ((spec_l02Index.f k x5 x8 x7).bind fun t594 => (if t594 ≥ 0 then (if x6.length < 140737488355328 then (spec_l04Text.l1 k x3 x4 x5 (x6 ++ [35]) x7 (wrap64 (x8 + 1))) else (none)) else (if x6.length < 140737488355328 then (spec_l04Text.l1 k x3 x4 x5 (x6 ++ [46]) x7 (wrap64 (x8 + 1))) else (none)))) else (spec_l04Text.l0 k x3 x4 x5 x6 (wrap64 (x7 + 1)))
end
def spec_l04Text.f (k : Nat) (l0 : List (S57)) : Option (ByteArray) := (spec_l04Size.f k l0).bind fun bt583 => ((spec_l02Normal.f k l0).bind fun t585 => (spec_l04Text.l0 k bt583.1 bt583.2 t585 (([] : List Int)) 0))
theorem spec_l04Text.mono_l : ∀ k, (∀ y0 y1 y2 y3 y4, LeO (spec_l04Text.l0 k y0 y1 y2 y3 y4) (spec_l04Text.l0 (k + 1) y0 y1 y2 y3 y4)) ∧ (∀ y0 y1 y2 y3 y4, LeO (spec_l04Text.j1 k y0 y1 y2 y3 y4) (spec_l04Text.j1 (k + 1) y0 y1 y2 y3 y4)) ∧ (∀ y0 y1 y2 y3 y4 y5, LeO (spec_l04Text.l1 k y0 y1 y2 y3 y4 y5) (spec_l04Text.l1 (k + 1) y0 y1 y2 y3 y4 y5))
 | 0 => ⟨fun _ _ _ _ _ r h => by simp [spec_l04Text.l0] at h, fun _ _ _ _ _ r h => by simp [spec_l04Text.j1] at h, fun _ _ _ _ _ _ r h => by simp [spec_l04Text.l1] at h⟩
 | k + 1 => by
  obtain ⟨ih0, ih1, ih2⟩ := spec_l04Text.mono_l k
  refine ⟨?_, ?_, ?_⟩
  ·intro y0 y1 y2 y3 y4
   unfold spec_l04Text.l0
   repeat' first
   | (with_reducible exact ih0 _ _ _ _ _)
   | (with_reducible exact ih1 _ _ _ _ _)
   | (with_reducible exact ih2 _ _ _ _ _ _)
   | (with_reducible exact spec_l02Index.mono _ _ _ _)
   | (with_reducible exact spec_l02Normal.mono _ _)
   | (with_reducible exact spec_l04Size.mono _ _)
   | (with_reducible exact LeO.refl _)
   | (with_reducible exact LeO.none _)
   | (with_reducible refine LeO.ite ?_ ?_)
   | (with_reducible refine LeO.bind ?_ (fun _ => ?_))
   | exact ih0 _ _ _ _ _
   | exact ih1 _ _ _ _ _
   | exact ih2 _ _ _ _ _ _
   | exact spec_l02Index.mono _ _ _ _
   | exact spec_l02Normal.mono _ _
   | exact spec_l04Size.mono _ _
   | exact LeO.none _
   | refine LeO.ite ?_ ?_
   | refine LeO.bind ?_ (fun _ => ?_)
  ·intro y0 y1 y2 y3 y4
   unfold spec_l04Text.j1
   repeat' first
   | (with_reducible exact ih0 _ _ _ _ _)
   | (with_reducible exact ih1 _ _ _ _ _)
   | (with_reducible exact ih2 _ _ _ _ _ _)
   | (with_reducible exact spec_l02Index.mono _ _ _ _)
   | (with_reducible exact spec_l02Normal.mono _ _)
   | (with_reducible exact spec_l04Size.mono _ _)
   | (with_reducible exact LeO.refl _)
   | (with_reducible exact LeO.none _)
   | (with_reducible refine LeO.ite ?_ ?_)
   | (with_reducible refine LeO.bind ?_ (fun _ => ?_))
   | exact ih0 _ _ _ _ _
   | exact ih1 _ _ _ _ _
   | exact ih2 _ _ _ _ _ _
   | exact spec_l02Index.mono _ _ _ _
   | exact spec_l02Normal.mono _ _
   | exact spec_l04Size.mono _ _
   | exact LeO.none _
   | refine LeO.ite ?_ ?_
   | refine LeO.bind ?_ (fun _ => ?_)
  ·intro y0 y1 y2 y3 y4 y5
   unfold spec_l04Text.l1
   repeat' first
   | (with_reducible exact ih0 _ _ _ _ _)
   | (with_reducible exact ih1 _ _ _ _ _)
   | (with_reducible exact ih2 _ _ _ _ _ _)
   | (with_reducible exact spec_l02Index.mono _ _ _ _)
   | (with_reducible exact spec_l02Normal.mono _ _)
   | (with_reducible exact spec_l04Size.mono _ _)
   | (with_reducible exact LeO.refl _)
   | (with_reducible exact LeO.none _)
   | (with_reducible refine LeO.ite ?_ ?_)
   | (with_reducible refine LeO.bind ?_ (fun _ => ?_))
   | exact ih0 _ _ _ _ _
   | exact ih1 _ _ _ _ _
   | exact ih2 _ _ _ _ _ _
   | exact spec_l02Index.mono _ _ _ _
   | exact spec_l02Normal.mono _ _
   | exact spec_l04Size.mono _ _
   | exact LeO.none _
   | refine LeO.ite ?_ ?_
   | refine LeO.bind ?_ (fun _ => ?_)
theorem spec_l04Text.mono : ∀ a0 k, LeO (spec_l04Text.f k a0) (spec_l04Text.f (k + 1) a0) := by
 intro a0 k
 obtain ⟨ih0, ih1, ih2⟩ := spec_l04Text.mono_l k
 unfold spec_l04Text.f
 repeat' first
   | (with_reducible exact ih0 _ _ _ _ _)
   | (with_reducible exact ih1 _ _ _ _ _)
   | (with_reducible exact ih2 _ _ _ _ _ _)
   | (with_reducible exact spec_l02Index.mono _ _ _ _)
   | (with_reducible exact spec_l02Normal.mono _ _)
   | (with_reducible exact spec_l04Size.mono _ _)
   | (with_reducible exact LeO.refl _)
   | (with_reducible exact LeO.none _)
   | (with_reducible refine LeO.ite ?_ ?_)
   | (with_reducible refine LeO.bind ?_ (fun _ => ?_))
   | exact ih0 _ _ _ _ _
   | exact ih1 _ _ _ _ _
   | exact ih2 _ _ _ _ _ _
   | exact spec_l02Index.mono _ _ _ _
   | exact spec_l02Normal.mono _ _
   | exact spec_l04Size.mono _ _
   | exact LeO.none _
   | refine LeO.ite ?_ ?_
   | refine LeO.bind ?_ (fun _ => ?_)
set_option maxHeartbeats 8000000 in
set_option maxRecDepth 100000 in
theorem spec_l04Text.calls (k : Nat) (A0 : Option Addr) (c0 : Nat) (l0 : List (S57)) (r : ByteArray) (w : World) (hr0 : Kd.C k57 w A0 l0.length l0) (hc0 : l0.length ≤ c0) (h : spec_l04Text.f k l0 = some r) :
  Calls Try.prog 83 #[.slice A0 l0.length c0] w fun e w' => e = .returned (.string r) ∧ Below w.heap.size w w' := by
 have hu57 := Try.underlying57
 have HR0 := Aside0.mk hr0
 have HC0 := Aside0.mk hc0
 clear hr0 hc0
 have HB := Aside0.mk (Below.refl w.heap.size w)
 have H : ((spec_l04Size.f k l0).bind fun bt583 => ((spec_l02Normal.f k l0).bind fun t585 => (spec_l04Text.l0 k bt583.1 bt583.2 t585 (([] : List Int)) 0))) = some r := h
 clear h
 replace H := Option.bind_eq_some_iff.mp H
 obtain ⟨⟨t583, t584⟩, A20, H⟩ := H
 try dsimp only at H
 have A2 := Aside0.mk A20
 clear A20
 replace H := Option.bind_eq_some_iff.mp H
 obtain ⟨t585, A30, H⟩ := H
 try dsimp only at H
 have A3 := Aside0.mk A30
 clear A30
 obtain ⟨y588, hY_⟩ : ∃ y_ : List Int, y_ = (([] : List Int)) := ⟨_, rfl⟩
 replace H : (spec_l04Text.l0 k t583 t584 t585 y588 0) = some r := yY_
 have Ny588 := Aside0.mk hY_
 clear hY_
 have H' := Aside0.mk H
 clear H
 go_enter Try.func83, Try.ntmps83
 go_wp2_with (first | ((with_reducible refine gate_callee (f := 81) rfl ?_); refine gL_ (some 11) Try.func81 #[.slice A0 l0.length c0] ?_; (with_reducible refine (spec_l04Size.calls k _ _ l0 t583 t584 _ ?side1 ?side2 A2.out).mono ?_); (case side1 => exact cS_ HR0.out); (case side2 => exact HC0.out); rintro e w4 ⟨rfl, hb⟩; refine ⟨_, rfl, ?_⟩; replace HB := Aside0.mk (below_step bB_ hb); (try clear hb)) | ((with_reducible refine gate_callee (f := 105) rfl ?_); refine gL_ (some 15) Try.func105 #[.slice A0 l0.length c0] ?_; (with_reducible refine (spec_l02Normal.calls k _ _ l0 t585 _ ?side1 ?side2 A3.out).mono ?_); (case side1 => exact cS_ (Kd.C_below HR0.out HB.out)); (case side2 => exact HC0.out); rintro e w5 ⟨v586, rfl, ho0, hb⟩; refine ⟨_, rfl, ?_⟩; have HO587 := Aside0.mk (Kd.R_lower ho0 (below_size bB_)); replace HB := Aside0.mk (below_step bB_ hb); (try clear hb ho0)) | ((with_reducible refine gate_dst (N := 16) rfl ?_); refine Kd.R_lit (Kd.int .u8) _ 5 ?hg (N := 16) ?hd (xs := ([] : List Int)) (inner := []) (ok := fun _ => True) (okp := fun _ => True) ?hr ?hp (fun _ hk => hk) trivial (Below.refl _ _) (Nat.le_refl _) (by simp) ?_; (case hd => rfl); (case hg => rfl); (case hr => first | (go_simp; done) | (go_simp; rfl)); (case hp => exact (Reps.none _ _)); intro v589 w6 ho7 hb hg_ hnew_; clear hg_ hnew_; (first | rw [← Ny588.out] at ho7 | (simp only [Int.reduceToNat] at ho7; rw [← Ny588.out] at ho7)); replace HO587 := Aside0.mk (Kd.R_below (rS_ HO587.out) hb); have HO590 := Aside0.mk (Kd.R_lower ho7 (below_size bB_)); replace HB := Aside0.mk (below_step bB_ hb); clear hb ho7))
 go_loopg [6, 7] k (fun kq v6 v7 w' => ∃ (x6_1 : List Int) (x7_1 : Int), v7 = .int .i64 x7_1 ∧ Aside0 (spec_l04Text.l0 kq t583 t584 t585 x6_1 x7_1 = some r) ∧ Aside0 (kq ≤ k) ∧ Aside0 (Kd.R k57 57 w' w.heap.size (fun _ => True) v586 t585) ∧ Aside0 (Kd.R (Kd.int .u8) 5 w' w.heap.size (fun _ => True) v6 x6_1) ∧ Aside0 (Below w.heap.size w w'))
 case atStart => exact ⟨(y588), (0), r3_, H', ⟨Nat.le_refl _⟩, ⟨rS_ HO587.out⟩, ⟨rS_ HO590.out⟩, ⟨bB_⟩⟩
 case round =>
  clear H'
  try clear c1
  try clear p2
  obtain ⟨x6_1, x7_1, rfl, HA, HK1, HO_5, HO_6, HB⟩ := hrel
  cases gk with
  | zero => exact absurd HA.out (by simp [spec_l04Text.l0])
  | succ k1 =>
   have H := HA.out
   clear HA
   simp only [spec_l04Text.l0] at H
   by_cases c8 : x7_1 < t584
   ·rw [if_pos c8] at H
    have c8b0 : decide (x7_1 < t584) = true := decide_eq_true c8
    clear c8
    have HC9 := Aside0.mk H
    clear H
    go_upto_if 23 with (fail)
    go_cut [6] (fun v6 wc => ∃ (kq : Nat) (x6_8 : List Int), Aside0 (spec_l04Text.j1 kq t583 t584 t585 x6_8 x7_1 = some r) ∧ Aside0 (kq ≤ k1) ∧ Aside0 (Kd.R k57 57 wc w.heap.size (fun _ => True) v586 t585) ∧ Aside0 (Kd.R (Kd.int .u8) 5 wc w.heap.size (fun _ => True) v6 x6_8) ∧ Aside0 (Below w.heap.size w wc))
    case first =>
     have H := HC9.out
     clear HC9
     by_cases c10 : x7_1 > 0
     ·rw [if_pos c10] at H
      have c10b0 : decide (0 < x7_1) = true := decide_eq_true c10
      clear c10
      (first | rw [c10b0] | (simp only [i64_w, i32_w]; rw [c10b0]) | skip)
      by_cases c11 : x6_1.length < 140737488355328
      ·rw [if_pos c11] at H
       have LMc11 := Aside0.mk c11
       clear c11
       obtain ⟨y591, hY_⟩ : ∃ y_ : List Int, y_ = (x6_1 ++ [47]) := ⟨_, rfl⟩
       replace H : (spec_l04Text.j1 k1 t583 t584 t585 y591 x7_1) = some r := yY_
       have Ny591 := Aside0.mk hY_
       clear hY_
       have H' := Aside0.mk H
       clear H
       go_wp2_with (first | ((with_reducible refine gate_builtin (b := .append) (xs := #[.tmp 24, .tmp 25]) rfl ?_); at_builtin; refine Kd.R_append (Kd.int .u8) (w0 := w) w.heap.size rfl (.tmp 24) (.tmp 25) 40 5 (.int .u8 0) 1 rfl Try.underlying40 info5 rfl (by decide) (by omega) u6 x6_1 47 [.int .u8 47] (fun _ => True) (fun _ => False) rfl rfl ?aP (fun _ hk => hk.elim) ?aF ?aO ?aB ?aS ?aL ?_; (case aP => exact rfl); (case aB => exact bB_); (case aF => exact (fun _ _ => trivial)); (case aO => exact (rS_ HO_6.out)); (case aS => exact (below_size bB_)); (case aL => have := LMc11.out; omega); intro v592 w12 ho hb hg hat; rw [← Ny591.out] at ho; replace HO_5 := Aside0.mk (Kd.R_over' (rS_ HO_5.out) (Kd.R_typed (rS_ HO_6.out)) (by decide) hg); replace HB := Aside0.mk (hb); have HO593 := Aside0.mk (ho); clear HO_6; clear ho hb hg hat))
       go_meet
       case rel => exact ⟨_, (y591), H', ⟨by have := HK1.out; first | omega | exact Nat.le_refl _⟩, ⟨rS_ HO_5.out⟩, ⟨rS_ HO593.out⟩, ⟨bB_⟩⟩
      ·rw [if_neg c11] at H
       exact absurd H (by simp)
     ·rw [if_neg c10] at H
      have c10b0 : decide (0 < x7_1) = false := decide_eq_false c10
      clear c10
      (first | rw [c10b0] | (simp only [i64_w, i32_w]; rw [c10b0]) | skip)
      have H' := Aside0.mk H
      clear H
      go_wp2
      go_meet
      case rel => exact ⟨_, (x6_1), H', ⟨by have := HK1.out; first | omega | exact Nat.le_refl _⟩, ⟨rS_ HO_5.out⟩, ⟨rS_ HO_6.out⟩, ⟨bB_⟩⟩
    case rest =>
     clear HC9
     try clear c1
     try clear p2
     try clear c8
     try clear c8b0
     try clear c10
     try clear c10b0
     try clear c11
     try clear p2
     obtain ⟨kq, x6_8, HA, HJ8, HO_5, HO_6, HB⟩ := hcut
     cases kq with
     | zero => exact absurd HA.out (by simp [spec_l04Text.j1])
     | succ kj8 =>
      have H := HA.out
      clear HA
      simp only [spec_l04Text.j1] at H
      have H' := Aside0.mk H
      clear H
      go_wp2
      go_loopg [6, 8] kj8 (fun kq v6 v8 w' => ∃ (x6_3 : List Int) (x8_3 : Int), v8 = .int .i64 x8_3 ∧ Aside0 (spec_l04Text.l1 kq t583 t584 t585 x6_3 x7_1 x8_3 = some r) ∧ Aside0 (kq ≤ kj8) ∧ Aside0 (Kd.R k57 57 w' w.heap.size (fun _ => True) v586 t585) ∧ Aside0 (Kd.R (Kd.int .u8) 5 w' w.heap.size (fun _ => True) v6 x6_3) ∧ Aside0 (Below w.heap.size w w'))
      case atStart => exact ⟨(x6_8), (0), r3_, H', ⟨Nat.le_refl _⟩, ⟨rS_ HO_5.out⟩, ⟨rS_ HO_6.out⟩, ⟨bB_⟩⟩
      case round =>
       clear H'
       try clear c1
       try clear p2
       try clear c8
       try clear c8b0
       try clear c10
       try clear c10b0
       try clear c11
       try clear p2
       obtain ⟨x6_3, x8_3, rfl, HA, HK3, HO_5, HO_6, HB⟩ := hrel
       cases gk with
       | zero => exact absurd HA.out (by simp [spec_l04Text.l1])
       | succ k3 =>
        have H := HA.out
        clear HA
        simp only [spec_l04Text.l1] at H
        by_cases c13 : x8_3 < t583
        ·rw [if_pos c13] at H
         have c13b0 : decide (x8_3 < t583) = true := decide_eq_true c13
         clear c13
         replace H := Option.bind_eq_some_iff.mp H
         obtain ⟨t594, A140, H⟩ := H
         try dsimp only at H
         have A14 := Aside0.mk A140
         clear A140
         by_cases c15 : t594 ≥ 0
         ·rw [if_pos c15] at H
          have c15b0 : decide (0 ≤ t594) = true := decide_eq_true c15
          clear c15
          by_cases c16 : x6_3.length < 140737488355328
          ·rw [if_pos c16] at H
           have LMc16 := Aside0.mk c16
           clear c16
           obtain ⟨y595, hY_⟩ : ∃ y_ : List Int, y_ = (x6_3 ++ [35]) := ⟨_, rfl⟩
           replace H : (spec_l04Text.l1 k3 t583 t584 t585 y595 x7_1 (wrap64 (x8_3 + 1))) = some r := yY_
           have Ny595 := Aside0.mk hY_
           clear hY_
           have H' := Aside0.mk H
           clear H
           obtain ⟨Ao17, co17, eo17⟩ := Kd.R_slice HO_5.out
           subst eo17
           go_wp2_with (first | ((with_reducible refine gate_callee (f := 97) rfl ?_); refine gL_ (some 36) Try.func97 #[.slice Ao17 t585.length co17, .agg #[.int .i64 x8_3, .int .i64 x7_1]] ?_; (with_reducible refine (spec_l02Index.calls k3 _ _ t585 x8_3 x7_1 t594 _ ?side1 ?side2 A14.out).mono ?_); (case side1 => exact cS_ ((Kd.R_reads' HO_5.out).2.2)); (case side2 => exact (Kd.R_reads' HO_5.out).2.1); rintro e w18 ⟨rfl, hb⟩; refine ⟨_, rfl, ?_⟩; replace HO_5 := Aside0.mk (Kd.R_below (rS_ HO_5.out) hb); replace HO_6 := Aside0.mk (Kd.R_below (rS_ HO_6.out) hb); replace HB := Aside0.mk (below_step bB_ hb); (try clear hb)) | ((with_reducible refine gate_builtin (b := .append) (xs := #[.tmp 38, .tmp 39]) rfl ?_); at_builtin; refine Kd.R_append (Kd.int .u8) (w0 := w) w.heap.size rfl (.tmp 38) (.tmp 39) 40 5 (.int .u8 0) 1 rfl Try.underlying40 info5 rfl (by decide) (by omega) u6 x6_3 35 [.int .u8 35] (fun _ => True) (fun _ => False) rfl rfl ?aP (fun _ hk => hk.elim) ?aF ?aO ?aB ?aS ?aL ?_; (case aP => exact rfl); (case aB => exact bB_); (case aF => exact (fun _ _ => trivial)); (case aO => exact (rS_ HO_6.out)); (case aS => exact (below_size bB_)); (case aL => have := LMc16.out; omega); intro v596 w19 ho hb hg hat; rw [← Ny595.out] at ho; replace HO_5 := Aside0.mk (Kd.R_over' (rS_ HO_5.out) (Kd.R_typed (rS_ HO_6.out)) (by decide) hg); replace HB := Aside0.mk (hb); have HO597 := Aside0.mk (ho); clear HO_6; clear ho hb hg hat))
           go_roundg k3
           case measure => have := HK1.out; have := HJ8.out; have := HK3.out; omega
           case rel => exact ⟨(y595), (wrap64 (x8_3 + 1)), r3_, H', ⟨by have := HK1.out; have := HJ8.out; have := HK3.out; omega⟩, ⟨rS_ HO_5.out⟩, ⟨rS_ HO597.out⟩, ⟨bB_⟩⟩
          ·rw [if_neg c16] at H
           exact absurd H (by simp)
         ·rw [if_neg c15] at H
          have c15b0 : decide (0 ≤ t594) = false := decide_eq_false c15
          clear c15
          by_cases c20 : x6_3.length < 140737488355328
          ·rw [if_pos c20] at H
           have LMc20 := Aside0.mk c20
           clear c20
           obtain ⟨y598, hY_⟩ : ∃ y_ : List Int, y_ = (x6_3 ++ [46]) := ⟨_, rfl⟩
           replace H : (spec_l04Text.l1 k3 t583 t584 t585 y598 x7_1 (wrap64 (x8_3 + 1))) = some r := yY_
           have Ny598 := Aside0.mk hY_
           clear hY_
           have H' := Aside0.mk H
           clear H
           obtain ⟨Ao21, co21, eo21⟩ := Kd.R_slice HO_5.out
           subst eo21
           go_wp2_with (first | ((with_reducible refine gate_callee (f := 97) rfl ?_); refine gL_ (some 36) Try.func97 #[.slice Ao21 t585.length co21, .agg #[.int .i64 x8_3, .int .i64 x7_1]] ?_; (with_reducible refine (spec_l02Index.calls k3 _ _ t585 x8_3 x7_1 t594 _ ?side1 ?side2 A14.out).mono ?_); (case side1 => exact cS_ ((Kd.R_reads' HO_5.out).2.2)); (case side2 => exact (Kd.R_reads' HO_5.out).2.1); rintro e w22 ⟨rfl, hb⟩; refine ⟨_, rfl, ?_⟩; replace HO_5 := Aside0.mk (Kd.R_below (rS_ HO_5.out) hb); replace HO_6 := Aside0.mk (Kd.R_below (rS_ HO_6.out) hb); replace HB := Aside0.mk (below_step bB_ hb); (try clear hb)) | ((with_reducible refine gate_builtin (b := .append) (xs := #[.tmp 41, .tmp 42]) rfl ?_); at_builtin; refine Kd.R_append (Kd.int .u8) (w0 := w) w.heap.size rfl (.tmp 41) (.tmp 42) 40 5 (.int .u8 0) 1 rfl Try.underlying40 info5 rfl (by decide) (by omega) u6 x6_3 46 [.int .u8 46] (fun _ => True) (fun _ => False) rfl rfl ?aP (fun _ hk => hk.elim) ?aF ?aO ?aB ?aS ?aL ?_; (case aP => exact rfl); (case aB => exact bB_); (case aF => exact (fun _ _ => trivial)); (case aO => exact (rS_ HO_6.out)); (case aS => exact (below_size bB_)); (case aL => have := LMc20.out; omega); intro v599 w23 ho hb hg hat; rw [← Ny598.out] at ho; replace HO_5 := Aside0.mk (Kd.R_over' (rS_ HO_5.out) (Kd.R_typed (rS_ HO_6.out)) (by decide) hg); replace HB := Aside0.mk (hb); have HO600 := Aside0.mk (ho); clear HO_6; clear ho hb hg hat))
           go_roundg k3
           case measure => have := HK1.out; have := HJ8.out; have := HK3.out; omega
           case rel => exact ⟨(y598), (wrap64 (x8_3 + 1)), r3_, H', ⟨by have := HK1.out; have := HJ8.out; have := HK3.out; omega⟩, ⟨rS_ HO_5.out⟩, ⟨rS_ HO600.out⟩, ⟨bB_⟩⟩
          ·rw [if_neg c20] at H
           exact absurd H (by simp)
        ·rw [if_neg c13] at H
         have c13b0 : decide (x8_3 < t583) = false := decide_eq_false c13
         clear c13
         have H' := Aside0.mk H
         clear H
         go_wp2
         go_roundg k3
         case measure => have := HK1.out; have := HJ8.out; have := HK3.out; omega
         case rel => exact ⟨(x6_3), (wrap64 (x7_1 + 1)), r3_, H', ⟨by have := HK1.out; have := HJ8.out; have := HK3.out; omega⟩, ⟨rS_ HO_5.out⟩, ⟨rS_ HO_6.out⟩, ⟨bB_⟩⟩
   ·rw [if_neg c8] at H
    have c8b0 : decide (x7_1 < t584) = false := decide_eq_false c8
    clear c8
    obtain rfl := Option.some.inj H
    have hcv24 := own_string (P := Try.prog) Try.underlying40 Try.underlying5 Try.underlying9 (Kd.own_of_R HO_6.out)
    go_wp2
    go_ret
    exact ⟨r2_, bB_⟩

/-! ### spec_ShapeText: function 40 -/
def spec_ShapeText.f (k : Nat) (l0 : List (S57)) : Option (ByteArray × Int) := (spec_l03Code.f k l0).bind fun t601 => (if t601 = 0 then ((spec_l04Text.f k l0).bind fun t602 => (some (t602, 0))) else (some ((⟨#[]⟩ : ByteArray), t601)))
theorem spec_ShapeText.mono : ∀ a0 k, LeO (spec_ShapeText.f k a0) (spec_ShapeText.f (k + 1) a0) := by
 intro a0 k
 unfold spec_ShapeText.f
 repeat' first
   | (with_reducible exact spec_l03Code.mono _ _)
   | (with_reducible exact spec_l04Text.mono _ _)
   | (with_reducible exact LeO.refl _)
   | (with_reducible exact LeO.none _)
   | (with_reducible refine LeO.ite ?_ ?_)
   | (with_reducible refine LeO.bind ?_ (fun _ => ?_))
   | exact spec_l03Code.mono _ _
   | exact spec_l04Text.mono _ _
   | exact LeO.none _
   | refine LeO.ite ?_ ?_
   | refine LeO.bind ?_ (fun _ => ?_)
set_option maxHeartbeats 8000000 in
set_option maxRecDepth 100000 in
theorem spec_ShapeText.calls (k : Nat) (A0 : Option Addr) (c0 : Nat) (l0 : List (S57)) (r1 : ByteArray) (r2 : Int) (w : World) (hr0 : Kd.C k57 w A0 l0.length l0) (hc0 : l0.length ≤ c0) (h : spec_ShapeText.f k l0 = some (r1, r2)) :
  Calls Try.prog 40 #[.slice A0 l0.length c0] w fun e w' => e = .returned (.tuple #[.string r1, .int .i64 r2]) ∧ Below w.heap.size w w' := by
 have HR0 := Aside0.mk hr0
 have HC0 := Aside0.mk hc0
 clear hr0 hc0
 have HB := Aside0.mk (Below.refl w.heap.size w)
 have H : ((spec_l03Code.f k l0).bind fun t601 => (if t601 = 0 then ((spec_l04Text.f k l0).bind fun t602 => (some (t602, 0))) else (some ((⟨#[]⟩ : ByteArray), t601)))) = some (r1, r2) := h
 clear h
 replace H := Option.bind_eq_some_iff.mp H
 obtain ⟨t601, A20, H⟩ := H
 try dsimp only at H
 have A2 := Aside0.mk A20
 clear A20
 by_cases c3 : t601 = 0
 ·rw [if_pos c3] at H
  have c3b0 : (t601 == 0) = true := beq_iff_eq.mpr c3
  have c3b1 : (t601 != 0) = false := bne_eq_false_iff_eq.mpr c3
  clear c3
  replace H := Option.bind_eq_some_iff.mp H
  obtain ⟨t602, A40, H⟩ := H
  try dsimp only at H
  have A4 := Aside0.mk A40
  clear A40
  simp only [Option.some.injEq, Prod.mk.injEq] at H
  obtain ⟨rfl, rfl⟩ := H
  go_enter Try.func40, Try.ntmps40
  go_wp2_with (first | ((with_reducible refine gate_callee (f := 82) rfl ?_); refine gL_ (some 6) Try.func82 #[.slice A0 l0.length c0] ?_; (with_reducible refine (spec_l03Code.calls k _ _ l0 t601 _ ?side1 ?side2 A2.out).mono ?_); (case side1 => exact cS_ HR0.out); (case side2 => exact HC0.out); rintro e w5 ⟨rfl, hb⟩; refine ⟨_, rfl, ?_⟩; replace HB := Aside0.mk (below_step bB_ hb); (try clear hb)) | ((with_reducible refine gate_callee (f := 83) rfl ?_); refine gL_ (some 11) Try.func83 #[.slice A0 l0.length c0] ?_; (with_reducible refine (spec_l04Text.calls k _ _ l0 t602 _ ?side1 ?side2 A4.out).mono ?_); (case side1 => exact cS_ (Kd.C_below HR0.out HB.out)); (case side2 => exact HC0.out); rintro e w6 ⟨rfl, hb⟩; refine ⟨_, rfl, ?_⟩; replace HB := Aside0.mk (below_step bB_ hb); (try clear hb)))
  go_ret2
  exact ⟨r2_, bB_⟩
 ·rw [if_neg c3] at H
  have c3b0 : (t601 == 0) = false := beq_eq_false_iff_ne.mpr c3
  have c3b1 : (t601 != 0) = true := bne_iff_ne.mpr c3
  simp only [Option.some.injEq, Prod.mk.injEq] at H
  obtain ⟨rfl, rfl⟩ := H
  go_enter Try.func40, Try.ntmps40
  go_wp2_with (first | ((with_reducible refine gate_callee (f := 82) rfl ?_); refine gL_ (some 6) Try.func82 #[.slice A0 l0.length c0] ?_; (with_reducible refine (spec_l03Code.calls k _ _ l0 t601 _ ?side1 ?side2 A2.out).mono ?_); (case side1 => exact cS_ HR0.out); (case side2 => exact HC0.out); rintro e w7 ⟨rfl, hb⟩; refine ⟨_, rfl, ?_⟩; replace HB := Aside0.mk (below_step bB_ hb); (try clear hb)))
  go_ret2
  exact ⟨r2_, bB_⟩

/-! ### impl_ShapeText: function 41 -/
def impl_ShapeText.f (k : Nat) (l0 : List (S57)) : Option (ByteArray × Int) := (impl_shapeCode.f k l0).bind fun t620 => (if t620 = 0 then ((impl_shapeText.f k l0).bind fun t621 => (some (t621, 0))) else (some ((⟨#[]⟩ : ByteArray), t620)))
theorem impl_ShapeText.mono : ∀ a0 k, LeO (impl_ShapeText.f k a0) (impl_ShapeText.f (k + 1) a0) := by
 intro a0 k
 unfold impl_ShapeText.f
 repeat' first
   | (with_reducible exact impl_shapeCode.mono _ _)
   | (with_reducible exact impl_shapeText.mono _ _)
   | (with_reducible exact LeO.refl _)
   | (with_reducible exact LeO.none _)
   | (with_reducible refine LeO.ite ?_ ?_)
   | (with_reducible refine LeO.bind ?_ (fun _ => ?_))
   | exact impl_shapeCode.mono _ _
   | exact impl_shapeText.mono _ _
   | exact LeO.none _
   | refine LeO.ite ?_ ?_
   | refine LeO.bind ?_ (fun _ => ?_)
set_option maxHeartbeats 8000000 in
set_option maxRecDepth 100000 in
theorem impl_ShapeText.calls (k : Nat) (A0 : Option Addr) (c0 : Nat) (l0 : List (S57)) (r1 : ByteArray) (r2 : Int) (w : World) (hr0 : Kd.C k57 w A0 l0.length l0) (hc0 : l0.length ≤ c0) (h : impl_ShapeText.f k l0 = some (r1, r2)) :
  Calls Try.prog 41 #[.slice A0 l0.length c0] w fun e w' => e = .returned (.tuple #[.string r1, .int .i64 r2]) ∧ Below w.heap.size w w' := by
 have HR0 := Aside0.mk hr0
 have HC0 := Aside0.mk hc0
 clear hr0 hc0
 have HB := Aside0.mk (Below.refl w.heap.size w)
 have H : ((impl_shapeCode.f k l0).bind fun t620 => (if t620 = 0 then ((impl_shapeText.f k l0).bind fun t621 => (some (t621, 0))) else (some ((⟨#[]⟩ : ByteArray), t620)))) = some (r1, r2) := h
 clear h
 replace H := Option.bind_eq_some_iff.mp H
 obtain ⟨t620, A20, H⟩ := H
 try dsimp only at H
 have A2 := Aside0.mk A20
 clear A20
 by_cases c3 : t620 = 0
 ·rw [if_pos c3] at H
  have c3b0 : (t620 == 0) = true := beq_iff_eq.mpr c3
  have c3b1 : (t620 != 0) = false := bne_eq_false_iff_eq.mpr c3
  clear c3
  replace H := Option.bind_eq_some_iff.mp H
  obtain ⟨t621, A40, H⟩ := H
  try dsimp only at H
  have A4 := Aside0.mk A40
  clear A40
  simp only [Option.some.injEq, Prod.mk.injEq] at H
  obtain ⟨rfl, rfl⟩ := H
  go_enter Try.func41, Try.ntmps41
  go_wp2_with (first | ((with_reducible refine gate_callee (f := 84) rfl ?_); refine gL_ (some 6) Try.func84 #[.slice A0 l0.length c0] ?_; (with_reducible refine (impl_shapeCode.calls k _ _ l0 t620 _ ?side1 ?side2 A2.out).mono ?_); (case side1 => exact cS_ HR0.out); (case side2 => exact HC0.out); rintro e w5 ⟨rfl, hb⟩; refine ⟨_, rfl, ?_⟩; replace HB := Aside0.mk (below_step bB_ hb); (try clear hb)) | ((with_reducible refine gate_callee (f := 85) rfl ?_); refine gL_ (some 11) Try.func85 #[.slice A0 l0.length c0] ?_; (with_reducible refine (impl_shapeText.calls k _ _ l0 t621 _ ?side1 ?side2 A4.out).mono ?_); (case side1 => exact cS_ (Kd.C_below HR0.out HB.out)); (case side2 => exact HC0.out); rintro e w6 ⟨rfl, hb⟩; refine ⟨_, rfl, ?_⟩; replace HB := Aside0.mk (below_step bB_ hb); (try clear hb)))
  go_ret2
  exact ⟨r2_, bB_⟩
 ·rw [if_neg c3] at H
  have c3b0 : (t620 == 0) = false := beq_eq_false_iff_ne.mpr c3
  have c3b1 : (t620 != 0) = true := bne_iff_ne.mpr c3
  simp only [Option.some.injEq, Prod.mk.injEq] at H
  obtain ⟨rfl, rfl⟩ := H
  go_enter Try.func41, Try.ntmps41
  go_wp2_with (first | ((with_reducible refine gate_callee (f := 84) rfl ?_); refine gL_ (some 6) Try.func84 #[.slice A0 l0.length c0] ?_; (with_reducible refine (impl_shapeCode.calls k _ _ l0 t620 _ ?side1 ?side2 A2.out).mono ?_); (case side1 => exact cS_ HR0.out); (case side2 => exact HC0.out); rintro e w7 ⟨rfl, hb⟩; refine ⟨_, rfl, ?_⟩; replace HB := Aside0.mk (below_step bB_ hb); (try clear hb)))
  go_ret2
  exact ⟨r2_, bB_⟩

/-! ### laws_FnExactShapeText: function 8 -/
def laws_FnExactShapeText.j0 : Nat → List (S69) → List (S57) → Bool → Option (Bool)
 | 0, _, _, _ => none
 | k + 1, x0, x6, x34 => if x34 = true then (some false) else ((laws_toCellS.f k x0).bind fun t633 => ((laws_eqCellS.f k x6 t633).bind fun t636 => (if t636 = true then (some true) else (some false))))
def laws_FnExactShapeText.f (k : Nat) (l0 : List (S69)) : Option (Bool) := (laws_szCellS.f l0 1048576).bind fun t622 => (if t622 < 0 then (some true) else ((laws_toCellS.f k l0).bind fun t623 => ((spec_ShapeText.f k t623).bind fun bt626 => ((laws_toCellS.f k l0).bind fun t628 => ((impl_ShapeText.f k t628).bind fun bt631 => (if bt631.1.toList = bt626.1.toList then (laws_FnExactShapeText.j0 k l0 t628 (bt631.2 != bt626.2)) else (laws_FnExactShapeText.j0 k l0 t628 true)))))))
theorem laws_FnExactShapeText.mono_l : ∀ k, (∀ y0 y1 y2, LeO (laws_FnExactShapeText.j0 k y0 y1 y2) (laws_FnExactShapeText.j0 (k + 1) y0 y1 y2))
 | 0 => fun _ _ _ r h => by simp [laws_FnExactShapeText.j0] at h
 | k + 1 => by
  have ih0 := laws_FnExactShapeText.mono_l k
  ·intro y0 y1 y2
   unfold laws_FnExactShapeText.j0
   repeat' first
   | (with_reducible exact ih0 _ _ _)
   | (with_reducible exact impl_ShapeText.mono _ _)
   | (with_reducible exact laws_eqCellS.mono _ _ _)
   | (with_reducible exact laws_toCellS.mono _ _)
   | (with_reducible exact spec_ShapeText.mono _ _)
   | (with_reducible exact LeO.refl _)
   | (with_reducible exact LeO.none _)
   | (with_reducible refine LeO.ite ?_ ?_)
   | (with_reducible refine LeO.bind ?_ (fun _ => ?_))
   | exact ih0 _ _ _
   | exact impl_ShapeText.mono _ _
   | exact laws_eqCellS.mono _ _ _
   | exact laws_toCellS.mono _ _
   | exact spec_ShapeText.mono _ _
   | exact LeO.none _
   | refine LeO.ite ?_ ?_
   | refine LeO.bind ?_ (fun _ => ?_)
theorem laws_FnExactShapeText.mono : ∀ a0 k, LeO (laws_FnExactShapeText.f k a0) (laws_FnExactShapeText.f (k + 1) a0) := by
 intro a0 k
 have ih0 := laws_FnExactShapeText.mono_l k
 unfold laws_FnExactShapeText.f
 repeat' first
   | (with_reducible exact ih0 _ _ _)
   | (with_reducible exact impl_ShapeText.mono _ _)
   | (with_reducible exact laws_eqCellS.mono _ _ _)
   | (with_reducible exact laws_toCellS.mono _ _)
   | (with_reducible exact spec_ShapeText.mono _ _)
   | (with_reducible exact LeO.refl _)
   | (with_reducible exact LeO.none _)
   | (with_reducible refine LeO.ite ?_ ?_)
   | (with_reducible refine LeO.bind ?_ (fun _ => ?_))
   | exact ih0 _ _ _
   | exact impl_ShapeText.mono _ _
   | exact laws_eqCellS.mono _ _ _
   | exact laws_toCellS.mono _ _
   | exact spec_ShapeText.mono _ _
   | exact LeO.none _
   | refine LeO.ite ?_ ?_
   | refine LeO.bind ?_ (fun _ => ?_)
set_option maxHeartbeats 8000000 in
set_option maxRecDepth 100000 in
theorem laws_FnExactShapeText.calls (k : Nat) (A0 : Option Addr) (c0 : Nat) (l0 : List (S69)) (r : Bool) (w : World) (hr0 : Kd.C k69 w A0 l0.length l0) (hc0 : l0.length ≤ c0) (h : laws_FnExactShapeText.f k l0 = some r) :
  Calls Try.prog 8 #[.slice A0 l0.length c0] w fun e w' => e = .returned (.bool r) ∧ Below w.heap.size w w' := by
 have HR0 := Aside0.mk hr0
 have HC0 := Aside0.mk hc0
 clear hr0 hc0
 have HB := Aside0.mk (Below.refl w.heap.size w)
 have H : ((laws_szCellS.f l0 1048576).bind fun t622 => (if t622 < 0 then (some true) else ((laws_toCellS.f k l0).bind fun t623 => ((spec_ShapeText.f k t623).bind fun bt626 => ((laws_toCellS.f k l0).bind fun t628 => ((impl_ShapeText.f k t628).bind fun bt631 => (if bt631.1.toList = bt626.1.toList then (laws_FnExactShapeText.j0 k l0 t628 (bt631.2 != bt626.2)) else (laws_FnExactShapeText.j0 k l0 t628 true)))))))) = some r := h
 clear h
 replace H := Option.bind_eq_some_iff.mp H
 obtain ⟨t622, A20, H⟩ := H
 try dsimp only at H
 have A2 := Aside0.mk A20
 clear A20
 by_cases c3 : t622 < 0
 ·rw [if_pos c3] at H
  have c3b0 : decide (t622 < 0) = true := decide_eq_true c3
  clear c3
  obtain rfl := Option.some.inj H
  go_enter Try.func8, Try.ntmps8
  go_wp2_with (first | ((with_reducible refine gate_callee (f := 19) rfl ?_); refine gL_ (some 11) Try.func19 #[.slice A0 l0.length c0, .int .i64 1048576] ?_; (with_reducible refine (laws_szCellS.calls _ _ l0 1048576 t622 _ ?side1 ?side2 A2.out).mono ?_); (case side1 => exact cS_ HR0.out); (case side2 => exact HC0.out); rintro e w' ⟨rfl, ⟨nd, rfl⟩⟩; refine ⟨_, rfl, ?_⟩))
  go_ret
  exact ⟨r2_, bB_⟩
 ·rw [if_neg c3] at H
  have c3b0 : decide (t622 < 0) = false := decide_eq_false c3
  clear c3
  replace H := Option.bind_eq_some_iff.mp H
  obtain ⟨t623, A40, H⟩ := H
  try dsimp only at H
  have A4 := Aside0.mk A40
  clear A40
  replace H := Option.bind_eq_some_iff.mp H
  obtain ⟨⟨t626, t627⟩, A50, H⟩ := H
  try dsimp only at H
  have A5 := Aside0.mk A50
  clear A50
  replace H := Option.bind_eq_some_iff.mp H
  obtain ⟨t628, A60, H⟩ := H
  try dsimp only at H
  have A6 := Aside0.mk A60
  clear A60
  replace H := Option.bind_eq_some_iff.mp H
  obtain ⟨⟨t631, t632⟩, A70, H⟩ := H
  try dsimp only at H
  have A7 := Aside0.mk A70
  clear A70
  have HC8 := Aside0.mk H
  clear H
  go_enter Try.func8, Try.ntmps8
  go_upto_region 8 with (first | ((with_reducible refine gate_callee (f := 19) rfl ?_); refine gL_ (some 11) Try.func19 #[.slice A0 l0.length c0, .int .i64 1048576] ?_; (with_reducible refine (laws_szCellS.calls _ _ l0 1048576 t622 _ ?side1 ?side2 A2.out).mono ?_); (case side1 => exact cS_ HR0.out); (case side2 => exact HC0.out); rintro e w' ⟨rfl, ⟨nd, rfl⟩⟩; refine ⟨_, rfl, ?_⟩) | ((with_reducible refine gate_callee (f := 21) rfl ?_); refine gL_ (some 16) Try.func21 #[.slice A0 l0.length c0] ?_; (with_reducible refine (laws_toCellS.calls k _ _ l0 t623 _ ?side1 ?side2 A4.out).mono ?_); (case side1 => exact cS_ HR0.out); (case side2 => exact HC0.out); rintro e w9 ⟨v624, rfl, ho0, hb⟩; refine ⟨_, rfl, ?_⟩; have HO625 := Aside0.mk (Kd.R_lower ho0 (below_size bB_)); replace HB := Aside0.mk (below_step bB_ hb); (try clear hb ho0); obtain ⟨Ao10, co10, eo10⟩ := Kd.R_slice HO625.out; subst eo10) | ((with_reducible refine gate_callee (f := 40) rfl ?_); refine gL_ (some 17) Try.func40 #[.slice Ao10 t623.length co10] ?_; (with_reducible refine (spec_ShapeText.calls k _ _ t623 t626 t627 _ ?side1 ?side2 A5.out).mono ?_); (case side1 => exact cS_ ((Kd.R_reads' HO625.out).2.2)); (case side2 => exact (Kd.R_reads' HO625.out).2.1); rintro e w11 ⟨rfl, hb⟩; refine ⟨_, rfl, ?_⟩; replace HO625 := Aside0.mk (Kd.R_below (rS_ HO625.out) hb); replace HB := Aside0.mk (below_step bB_ hb); (try clear hb)) | ((with_reducible refine gate_callee (f := 21) rfl ?_); refine gL_ (some 21) Try.func21 #[.slice A0 l0.length c0] ?_; (with_reducible refine (laws_toCellS.calls k _ _ l0 t628 _ ?side1 ?side2 A6.out).mono ?_); (case side1 => exact cS_ (Kd.C_below HR0.out HB.out)); (case side2 => exact HC0.out); rintro e w12 ⟨v629, rfl, ho0, hb⟩; refine ⟨_, rfl, ?_⟩; have HO630 := Aside0.mk (Kd.R_lower (Kd.R_new' ho0 (Kd.R_lt (rS_ HO625.out))) (below_size bB_)); replace HO625 := Aside0.mk (Kd.R_elder' (rS_ HO625.out) (Kd.R_base ho0) hb); replace HB := Aside0.mk (below_step bB_ hb); (try clear hb ho0); obtain ⟨Ao13, co13, eo13⟩ := Kd.R_slice HO630.out; subst eo13) | ((with_reducible refine gate_callee (f := 41) rfl ?_); refine gL_ (some 24) Try.func41 #[.slice Ao13 t628.length co13] ?_; (with_reducible refine (impl_ShapeText.calls k _ _ t628 t631 t632 _ ?side1 ?side2 A7.out).mono ?_); (case side1 => exact cS_ ((Kd.R_reads' HO630.out).2.2)); (case side2 => exact (Kd.R_reads' HO630.out).2.1); rintro e w14 ⟨rfl, hb⟩; refine ⟨_, rfl, ?_⟩; replace HO625 := Aside0.mk (Kd.R_below (rS_ HO625.out) hb); replace HO630 := Aside0.mk (Kd.R_below (rS_ HO630.out) hb); replace HB := Aside0.mk (below_step bB_ hb); (try clear hb)))
  (try simp only [Act.put, List.setIfInBounds_toArray, List.set_cons_zero, List.set_cons_succ])
  go_cut [34] (fun v34 wc => ∃ (kq : Nat) (x34_7 : Bool), v34 = .bool x34_7 ∧ Aside0 (laws_FnExactShapeText.j0 kq l0 t628 x34_7 = some r) ∧ Aside0 (kq ≤ k) ∧ Aside0 (Kd.R k57 57 wc w.heap.size (fun _ => True) (.slice Ao13 t628.length co13) t628) ∧ Aside0 (Below w.heap.size w wc))
  case first =>
   have H := HC8.out
   clear HC8
   by_cases c15 : t631.toList = t626.toList
   ·rw [if_pos c15] at H
    have c15b0 : (t631.toList == t626.toList) = true := beq_iff_eq.mpr c15
    have c15b1 : (t631.toList != t626.toList) = false := bne_eq_false_iff_eq.mpr c15
    clear c15
    (first | rw [c15b0] | (simp only [i64_w, i32_w]; rw [c15b0]) | skip)
    have H' := Aside0.mk H
    clear H
    go_wp2
    go_meet
    case rel => exact ⟨_, ((t632 != t627)), r3_, H', ⟨by first | omega | exact Nat.le_refl _⟩, ⟨rS_ (Kd.R_mono HO630.out (fun _ hk => trivial))⟩, ⟨bB_⟩⟩
   ·rw [if_neg c15] at H
    have c15b0 : (t631.toList == t626.toList) = false := beq_eq_false_iff_ne.mpr c15
    have c15b1 : (t631.toList != t626.toList) = true := bne_iff_ne.mpr c15
    (first | rw [c15b0] | (simp only [i64_w, i32_w]; rw [c15b0]) | skip)
    have H' := Aside0.mk H
    clear H
    go_wp2
    go_meet
    case rel => exact ⟨_, (true), r3_, H', ⟨by first | omega | exact Nat.le_refl _⟩, ⟨rS_ (Kd.R_mono HO630.out (fun _ hk => trivial))⟩, ⟨bB_⟩⟩
  case rest =>
   clear HC8
   try clear c1
   try clear c2
   try clear p2
   try clear c3
   try clear c3b0
   try clear c4
   try clear c8
   try clear c15
   try clear c15b0
   try clear c15b1
   obtain ⟨kq, x34_7, rfl, HA, HJ7, HO_6, HB⟩ := hcut
   cases kq with
   | zero => exact absurd HA.out (by simp [laws_FnExactShapeText.j0])
   | succ kj7 =>
    have H := HA.out
    clear HA
    simp only [laws_FnExactShapeText.j0] at H
    by_cases c16 : x34_7 = true
    ·subst c16
     have H1 : (some false) = some r := by rw [if_pos rfl] at H; exact H
     clear H
     have H := H1
     clear H1
     obtain rfl := Option.some.inj H
     go_wp2
     go_ret
     exact ⟨r2_, bB_⟩
    ·replace c16 := Bool.eq_false_iff.mpr c16
     subst c16
     have H1 : ((laws_toCellS.f kj7 l0).bind fun t633 => ((laws_eqCellS.f kj7 t628 t633).bind fun t636 => (if t636 = true then (some true) else (some false)))) = some r := by rw [if_neg (show ¬ (false = true) by decide)] at H; exact H
     clear H
     have H := H1
     clear H1
     replace H := Option.bind_eq_some_iff.mp H
     obtain ⟨t633, A170, H⟩ := H
     try dsimp only at H
     have A17 := Aside0.mk A170
     clear A170
     replace H := Option.bind_eq_some_iff.mp H
     obtain ⟨t636, A180, H⟩ := H
     try dsimp only at H
     have A18 := Aside0.mk A180
     clear A180
     by_cases c19 : t636 = true
     ·subst c19
      have H1 : (some true) = some r := by rw [if_pos rfl] at H; exact H
      clear H
      have H := H1
      clear H1
      obtain rfl := Option.some.inj H
      go_wp2_with (first | ((with_reducible refine gate_callee (f := 21) rfl ?_); refine gL_ (some 37) Try.func21 #[.slice A0 l0.length c0] ?_; (with_reducible refine (laws_toCellS.calls kj7 _ _ l0 t633 _ ?side1 ?side2 A17.out).mono ?_); (case side1 => exact cS_ (Kd.C_below HR0.out HB.out)); (case side2 => exact HC0.out); rintro e w20 ⟨v634, rfl, ho0, hb⟩; refine ⟨_, rfl, ?_⟩; have HO635 := Aside0.mk (Kd.R_lower (Kd.R_new' ho0 (Kd.R_lt (rS_ HO_6.out))) (below_size bB_)); replace HO_6 := Aside0.mk (Kd.R_elder' (rS_ HO_6.out) (Kd.R_base ho0) hb); replace HB := Aside0.mk (below_step bB_ hb); (try clear hb ho0); obtain ⟨Ao21, co21, eo21⟩ := Kd.R_slice HO635.out; subst eo21) | ((with_reducible refine gate_callee (f := 23) rfl ?_); refine gL_ (some 38) Try.func23 #[.slice Ao13 t628.length co13, .slice Ao21 t633.length co21] ?_; (with_reducible refine (laws_eqCellS.calls kj7 _ _ t628 _ _ t633 true _ ?side1 ?side2 ?side3 ?side4 A18.out).mono ?_); (case side1 => exact cS_ ((Kd.R_reads' HO_6.out).2.2)); (case side2 => exact (Kd.R_reads' HO_6.out).2.1); (case side3 => exact cS_ ((Kd.R_reads' HO635.out).2.2)); (case side4 => exact (Kd.R_reads' HO635.out).2.1); rintro e w22 ⟨rfl, hb⟩; refine ⟨_, rfl, ?_⟩; replace HO_6 := Aside0.mk (Kd.R_below (rS_ HO_6.out) hb); replace HO635 := Aside0.mk (Kd.R_below (rS_ HO635.out) hb); replace HB := Aside0.mk (below_step bB_ hb); (try clear hb)))
      go_ret
      exact ⟨r2_, bB_⟩
     ·replace c19 := Bool.eq_false_iff.mpr c19
      subst c19
      have H1 : (some false) = some r := by rw [if_neg (show ¬ (false = true) by decide)] at H; exact H
      clear H
      have H := H1
      clear H1
      obtain rfl := Option.some.inj H
      go_wp2_with (first | ((with_reducible refine gate_callee (f := 21) rfl ?_); refine gL_ (some 37) Try.func21 #[.slice A0 l0.length c0] ?_; (with_reducible refine (laws_toCellS.calls kj7 _ _ l0 t633 _ ?side1 ?side2 A17.out).mono ?_); (case side1 => exact cS_ (Kd.C_below HR0.out HB.out)); (case side2 => exact HC0.out); rintro e w23 ⟨v634, rfl, ho0, hb⟩; refine ⟨_, rfl, ?_⟩; have HO635 := Aside0.mk (Kd.R_lower (Kd.R_new' ho0 (Kd.R_lt (rS_ HO_6.out))) (below_size bB_)); replace HO_6 := Aside0.mk (Kd.R_elder' (rS_ HO_6.out) (Kd.R_base ho0) hb); replace HB := Aside0.mk (below_step bB_ hb); (try clear hb ho0); obtain ⟨Ao24, co24, eo24⟩ := Kd.R_slice HO635.out; subst eo24) | ((with_reducible refine gate_callee (f := 23) rfl ?_); refine gL_ (some 38) Try.func23 #[.slice Ao13 t628.length co13, .slice Ao24 t633.length co24] ?_; (with_reducible refine (laws_eqCellS.calls kj7 _ _ t628 _ _ t633 false _ ?side1 ?side2 ?side3 ?side4 A18.out).mono ?_); (case side1 => exact cS_ ((Kd.R_reads' HO_6.out).2.2)); (case side2 => exact (Kd.R_reads' HO_6.out).2.1); (case side3 => exact cS_ ((Kd.R_reads' HO635.out).2.2)); (case side4 => exact (Kd.R_reads' HO635.out).2.1); rintro e w25 ⟨rfl, hb⟩; refine ⟨_, rfl, ?_⟩; replace HO_6 := Aside0.mk (Kd.R_below (rS_ HO_6.out) hb); replace HO635 := Aside0.mk (Kd.R_below (rS_ HO635.out) hb); replace HB := Aside0.mk (below_step bB_ hb); (try clear hb)))
      go_ret
      exact ⟨r2_, bB_⟩

end Go.Proofs.Ytbfmocohknadkaa.X
