-- xprint.py
import Derived.Shelf.Strings.Split
import Derived.Test.YtpilmhjbgbpbmaaDoorXx0
import Derived.Test.YtpilmhjbgbpbmaaDoorXx2
import Derived.Test.YtpilmhjbgbpbmaaDoorXx3
import Derived.Test.YtpilmhjbgbpbmaaDoorXx5
namespace Go.Proofs.YtpilmhjbgbpbmaaDoor.X
open Go.RowKit Go.Proofs.YtpilmhjbgbpbmaaDoorW.PrintWords Go.Proofs.YtpilmhjbgbpbmaaDoorW.PrintLast Go.Proofs.YtpilmhjbgbpbmaaDoorW.PrintMore
attribute [local go_sem] max2_int min2_int max_two min_two max_three min_three max_four min_four   -- for this text's walks alone
set_option linter.unusedVariables false
set_option linter.unusedSimpArgs false

/-! ### spec_l04Text: function 17 -/
mutual
def spec_l04Text.l0 : Nat → Int → Int → List (S43) → List Int → Int → Option (ByteArray)
 | 0, _, _, _, _, _ => none
 | k + 1, x3, x4, x5, x6, x7 => if x7 < x4 then (if x7 > 0 then (if x6.length < 140737488355328 then (spec_l04Text.j1 k x3 x4 x5 (x6 ++ [47]) x7) else (none)) else (spec_l04Text.j1 k x3 x4 x5 x6 x7)) else (some (strOfNums x6))
def spec_l04Text.j1 : Nat → Int → Int → List (S43) → List Int → Int → Option (ByteArray)
 | 0, _, _, _, _, _ => none
 | k + 1, x3, x4, x5, x6, x7 => spec_l04Text.l1 k x3 x4 x5 x6 x7 0
def spec_l04Text.l1 : Nat → Int → Int → List (S43) → List Int → Int → Int → Option (ByteArray)
 | 0, _, _, _, _, _, _ => none
 | k + 1, x3, x4, x5, x6, x7, x8 => if x8 < x3 then ((spec_l02Index.f k x5 x8 x7).bind fun t353 => (if t353 ≥ 0 then (if x6.length < 140737488355328 then (spec_l04Text.l1 k x3 x4 x5 (x6 ++ [35]) x7 (wrap64 (x8 + 1))) else (none)) else (if x6.length < 140737488355328 then (spec_l04Text.l1 k x3 x4 x5 (x6 ++ [46]) x7 (wrap64 (x8 + 1))) else (none)))) else (spec_l04Text.l0 k x3 x4 x5 x6 (wrap64 (x7 + 1)))
end
def spec_l04Text.f (k : Nat) (l0 : List (S43)) : Option (ByteArray) := (spec_l04Size.f k l0).bind fun bt342 => ((spec_l02Normal.f k l0).bind fun t344 => (spec_l04Text.l0 k bt342.1 bt342.2 t344 (([] : List Int)) 0))
theorem spec_l04Text.mono_l : ∀ k, (∀ y0 y1 y2 y3 y4, LeO (spec_l04Text.l0 k y0 y1 y2 y3 y4) (spec_l04Text.l0 (k + 1) y0 y1 y2 y3 y4)) ∧ (∀ y0 y1 y2 y3 y4, LeO (spec_l04Text.j1 k y0 y1 y2 y3 y4) (spec_l04Text.j1 (k + 1) y0 y1 y2 y3 y4)) ∧ (∀ y0 y1 y2 y3 y4 y5, LeO (spec_l04Text.l1 k y0 y1 y2 y3 y4 y5) (spec_l04Text.l1 (k + 1) y0 y1 y2 y3 y4 y5))
 | 0 => ⟨fun _ _ _ _ _ r h => by simp [spec_l04Text.l0] at h, fun _ _ _ _ _ r h => by simp [spec_l04Text.j1] at h, fun _ _ _ _ _ _ r h => by simp [spec_l04Text.l1] at h⟩
 | k + 1 => by
  obtain ⟨ih0, ih1, ih2⟩ := spec_l04Text.mono_l k
  refine ⟨?_, ?_, ?_⟩
  ·intro y0 y1 y2 y3 y4
   unfold spec_l04Text.l0
   repeat' first
   | (with_reducible exact ih0 _ _ _ _ _)
   | (with_reducible exact ih1 _ _ _ _ _)
   | (with_reducible exact ih2 _ _ _ _ _ _)
   | (with_reducible exact spec_l02Index.mono _ _ _ _)
   | (with_reducible exact spec_l02Normal.mono _ _)
   | (with_reducible exact spec_l04Size.mono _ _)
   | (with_reducible exact LeO.refl _)
   | (with_reducible exact LeO.none _)
   | (with_reducible refine LeO.ite ?_ ?_)
   | (with_reducible refine LeO.bind ?_ (fun _ => ?_))
   | exact ih0 _ _ _ _ _
   | exact ih1 _ _ _ _ _
   | exact ih2 _ _ _ _ _ _
   | exact spec_l02Index.mono _ _ _ _
   | exact spec_l02Normal.mono _ _
   | exact spec_l04Size.mono _ _
   | exact LeO.none _
   | refine LeO.ite ?_ ?_
   | refine LeO.bind ?_ (fun _ => ?_)
  ·intro y0 y1 y2 y3 y4
   unfold spec_l04Text.j1
   repeat' first
   | (with_reducible exact ih0 _ _ _ _ _)
   | (with_reducible exact ih1 _ _ _ _ _)
   | (with_reducible exact ih2 _ _ _ _ _ _)
   | (with_reducible exact spec_l02Index.mono _ _ _ _)
   | (with_reducible exact spec_l02Normal.mono _ _)
   | (with_reducible exact spec_l04Size.mono _ _)
   | (with_reducible exact LeO.refl _)
   | (with_reducible exact LeO.none _)
   | (with_reducible refine LeO.ite ?_ ?_)
   | (with_reducible refine LeO.bind ?_ (fun _ => ?_))
   | exact ih0 _ _ _ _ _
   | exact ih1 _ _ _ _ _
   | exact ih2 _ _ _ _ _ _
   | exact spec_l02Index.mono _ _ _ _
   | exact spec_l02Normal.mono _ _
   | exact spec_l04Size.mono _ _
   | exact LeO.none _
   | refine LeO.ite ?_ ?_
   | refine LeO.bind ?_ (fun _ => ?_)
  ·intro y0 y1 y2 y3 y4 y5
   unfold spec_l04Text.l1
   repeat' first
   | (with_reducible exact ih0 _ _ _ _ _)
   | (with_reducible exact ih1 _ _ _ _ _)
   | (with_reducible exact ih2 _ _ _ _ _ _)
   | (with_reducible exact spec_l02Index.mono _ _ _ _)
   | (with_reducible exact spec_l02Normal.mono _ _)
   | (with_reducible exact spec_l04Size.mono _ _)
   | (with_reducible exact LeO.refl _)
   | (with_reducible exact LeO.none _)
   | (with_reducible refine LeO.ite ?_ ?_)
   | (with_reducible refine LeO.bind ?_ (fun _ => ?_))
   | exact ih0 _ _ _ _ _
   | exact ih1 _ _ _ _ _
   | exact ih2 _ _ _ _ _ _
   | exact spec_l02Index.mono _ _ _ _
   | exact spec_l02Normal.mono _ _
   | exact spec_l04Size.mono _ _
   | exact LeO.none _
   | refine LeO.ite ?_ ?_
   | refine LeO.bind ?_ (fun _ => ?_)
theorem spec_l04Text.mono : ∀ a0 k, LeO (spec_l04Text.f k a0) (spec_l04Text.f (k + 1) a0) := by
 intro a0 k
 obtain ⟨ih0, ih1, ih2⟩ := spec_l04Text.mono_l k
 unfold spec_l04Text.f
 repeat' first
   | (with_reducible exact ih0 _ _ _ _ _)
   | (with_reducible exact ih1 _ _ _ _ _)
   | (with_reducible exact ih2 _ _ _ _ _ _)
   | (with_reducible exact spec_l02Index.mono _ _ _ _)
   | (with_reducible exact spec_l02Normal.mono _ _)
   | (with_reducible exact spec_l04Size.mono _ _)
   | (with_reducible exact LeO.refl _)
   | (with_reducible exact LeO.none _)
   | (with_reducible refine LeO.ite ?_ ?_)
   | (with_reducible refine LeO.bind ?_ (fun _ => ?_))
   | exact ih0 _ _ _ _ _
   | exact ih1 _ _ _ _ _
   | exact ih2 _ _ _ _ _ _
   | exact spec_l02Index.mono _ _ _ _
   | exact spec_l02Normal.mono _ _
   | exact spec_l04Size.mono _ _
   | exact LeO.none _
   | refine LeO.ite ?_ ?_
   | refine LeO.bind ?_ (fun _ => ?_)
set_option maxHeartbeats 8000000 in
set_option maxRecDepth 100000 in
theorem spec_l04Text.calls (k : Nat) (A0 : Option Addr) (c0 : Nat) (l0 : List (S43)) (r : ByteArray) (w : World) (hr0 : Kd.C k43 w A0 l0.length l0) (hc0 : l0.length ≤ c0) (h : spec_l04Text.f k l0 = some r) :
  Calls Tryd.prog 17 #[.slice A0 l0.length c0] w fun e w' => e = .returned (.string r) ∧ Below w.heap.size w w' := by
 have hu43 := Tryd.underlying43
 have HR0 := Aside0.mk hr0
 have HC0 := Aside0.mk hc0
 clear hr0 hc0
 have HB := Aside0.mk (Below.refl w.heap.size w)
 have H : ((spec_l04Size.f k l0).bind fun bt342 => ((spec_l02Normal.f k l0).bind fun t344 => (spec_l04Text.l0 k bt342.1 bt342.2 t344 (([] : List Int)) 0))) = some r := h
 clear h
 replace H := Option.bind_eq_some_iff.mp H
 obtain ⟨⟨t342, t343⟩, A20, H⟩ := H
 try dsimp only at H
 have A2 := Aside0.mk A20
 clear A20
 replace H := Option.bind_eq_some_iff.mp H
 obtain ⟨t344, A30, H⟩ := H
 try dsimp only at H
 have A3 := Aside0.mk A30
 clear A30
 obtain ⟨y347, hY_⟩ : ∃ y_ : List Int, y_ = (([] : List Int)) := ⟨_, rfl⟩
 replace H : (spec_l04Text.l0 k t342 t343 t344 y347 0) = some r := yY_
 have Ny347 := Aside0.mk hY_
 clear hY_
 have H' := Aside0.mk H
 clear H
 go_enter Tryd.func17, Tryd.ntmps17
 go_wp2_with (first | ((with_reducible refine gate_callee (f := 31) rfl ?_); refine gL_ (some 11) Tryd.func31 #[.slice A0 l0.length c0] ?_; (with_reducible refine (spec_l04Size.calls k _ _ l0 t342 t343 _ ?side1 ?side2 A2.out).mono ?_); (case side1 => exact cS_ HR0.out); (case side2 => exact HC0.out); rintro e w4 ⟨rfl, hb⟩; refine ⟨_, rfl, ?_⟩; replace HB := Aside0.mk (below_step bB_ hb); (try clear hb)) | ((with_reducible refine gate_callee (f := 30) rfl ?_); refine gL_ (some 15) Tryd.func30 #[.slice A0 l0.length c0] ?_; (with_reducible refine (spec_l02Normal.calls k _ _ l0 t344 _ ?side1 ?side2 A3.out).mono ?_); (case side1 => exact cS_ (Kd.C_below HR0.out HB.out)); (case side2 => exact HC0.out); rintro e w5 ⟨v345, rfl, ho0, hb⟩; refine ⟨_, rfl, ?_⟩; have HO346 := Aside0.mk (Kd.R_lower ho0 (below_size bB_)); replace HB := Aside0.mk (below_step bB_ hb); (try clear hb ho0)) | ((with_reducible refine gate_dst (N := 16) rfl ?_); refine Kd.R_lit (Kd.int .u8) _ 5 ?hg (N := 16) ?hd (xs := ([] : List Int)) (inner := []) (ok := fun _ => True) (okp := fun _ => True) ?hr ?hp (fun _ hk => hk) trivial (Below.refl _ _) (Nat.le_refl _) (by simp) ?_; (case hd => rfl); (case hg => rfl); (case hr => first | (go_simp; done) | (go_simp; rfl)); (case hp => exact (Reps.none _ _)); intro v348 w6 ho7 hb hg_ hnew_; clear hg_ hnew_; (first | rw [← Ny347.out] at ho7 | (simp only [Int.reduceToNat] at ho7; rw [← Ny347.out] at ho7)); replace HO346 := Aside0.mk (Kd.R_below (rS_ HO346.out) hb); have HO349 := Aside0.mk (Kd.R_lower ho7 (below_size bB_)); replace HB := Aside0.mk (below_step bB_ hb); clear hb ho7))
 go_loopg [6, 7] k (fun kq v6 v7 w' => ∃ (x6_1 : List Int) (x7_1 : Int), v7 = .int .i64 x7_1 ∧ Aside0 (spec_l04Text.l0 kq t342 t343 t344 x6_1 x7_1 = some r) ∧ Aside0 (kq ≤ k) ∧ Aside0 (Kd.R k43 43 w' w.heap.size (fun _ => True) v345 t344) ∧ Aside0 (Kd.R (Kd.int .u8) 5 w' w.heap.size (fun _ => True) v6 x6_1) ∧ Aside0 (Below w.heap.size w w'))
 case atStart => exact ⟨(y347), (0), r3_, H', ⟨Nat.le_refl _⟩, ⟨rS_ HO346.out⟩, ⟨rS_ HO349.out⟩, ⟨bB_⟩⟩
 case round =>
  clear H'
  try clear c1
  try clear p2
  try clear c3
  obtain ⟨x6_1, x7_1, rfl, HA, HK1, HO_5, HO_6, HB⟩ := hrel
  cases gk with
  | zero => exact absurd HA.out (by simp [spec_l04Text.l0])
  | succ k1 =>
   have H := HA.out
   clear HA
   simp only [spec_l04Text.l0] at H
   by_cases c8 : x7_1 < t343
   ·rw [if_pos c8] at H
    have c8b0 : decide (x7_1 < t343) = true := decide_eq_true c8
    clear c8
    have HC9 := Aside0.mk H
    clear H
    go_upto_if 23 with (fail)
    go_cut [6] (fun v6 wc => ∃ (kq : Nat) (x6_8 : List Int), Aside0 (spec_l04Text.j1 kq t342 t343 t344 x6_8 x7_1 = some r) ∧ Aside0 (kq ≤ k1) ∧ Aside0 (Kd.R k43 43 wc w.heap.size (fun _ => True) v345 t344) ∧ Aside0 (Kd.R (Kd.int .u8) 5 wc w.heap.size (fun _ => True) v6 x6_8) ∧ Aside0 (Below w.heap.size w wc))
    case first =>
     have H := HC9.out
     clear HC9
     by_cases c10 : x7_1 > 0
     ·rw [if_pos c10] at H
      have c10b0 : decide (0 < x7_1) = true := decide_eq_true c10
      clear c10
      (first | rw [c10b0] | (simp only [i64_w, i32_w]; rw [c10b0]) | skip)
      by_cases c11 : x6_1.length < 140737488355328
      ·rw [if_pos c11] at H
       have LMc11 := Aside0.mk c11
       clear c11
       obtain ⟨y350, hY_⟩ : ∃ y_ : List Int, y_ = (x6_1 ++ [47]) := ⟨_, rfl⟩
       replace H : (spec_l04Text.j1 k1 t342 t343 t344 y350 x7_1) = some r := yY_
       have Ny350 := Aside0.mk hY_
       clear hY_
       have H' := Aside0.mk H
       clear H
       go_wp2_with (first | ((with_reducible refine gate_builtin (b := .append) (xs := #[.tmp 24, .tmp 25]) rfl ?_); at_builtin; refine Kd.R_append (Kd.int .u8) (w0 := w) w.heap.size rfl (.tmp 24) (.tmp 25) 22 5 (.int .u8 0) 1 rfl Tryd.underlying22 info5 rfl (by decide) (by omega) u6 x6_1 47 [.int .u8 47] (fun _ => True) (fun _ => False) rfl rfl ?aP (fun _ hk => hk.elim) ?aF ?aO ?aB ?aS ?aL ?_; (case aP => exact rfl); (case aB => exact bB_); (case aF => exact (fun _ _ => trivial)); (case aO => exact (rS_ HO_6.out)); (case aS => exact (below_size bB_)); (case aL => have := LMc11.out; omega); intro v351 w12 ho hb hg hat; rw [← Ny350.out] at ho; replace HO_5 := Aside0.mk (Kd.R_over' (rS_ HO_5.out) (Kd.R_typed (rS_ HO_6.out)) (by decide) hg); replace HB := Aside0.mk (hb); have HO352 := Aside0.mk (ho); clear HO_6; clear ho hb hg hat))
       go_meet
       case rel => exact ⟨_, (y350), H', ⟨by have := HK1.out; first | omega | exact Nat.le_refl _⟩, ⟨rS_ HO_5.out⟩, ⟨rS_ HO352.out⟩, ⟨bB_⟩⟩
      ·rw [if_neg c11] at H
       exact absurd H (by simp)
     ·rw [if_neg c10] at H
      have c10b0 : decide (0 < x7_1) = false := decide_eq_false c10
      clear c10
      (first | rw [c10b0] | (simp only [i64_w, i32_w]; rw [c10b0]) | skip)
      have H' := Aside0.mk H
      clear H
      go_wp2
      go_meet
      case rel => exact ⟨_, (x6_1), H', ⟨by have := HK1.out; first | omega | exact Nat.le_refl _⟩, ⟨rS_ HO_5.out⟩, ⟨rS_ HO_6.out⟩, ⟨bB_⟩⟩
    case rest =>
     clear HC9
     try clear c1
     try clear p2
     try clear c3
     try clear c8
     try clear c8b0
     try clear c10
     try clear c10b0
     try clear c11
     try clear p2
     obtain ⟨kq, x6_8, HA, HJ8, HO_5, HO_6, HB⟩ := hcut
     cases kq with
     | zero => exact absurd HA.out (by simp [spec_l04Text.j1])
     | succ kj8 =>
      have H := HA.out
      clear HA
      simp only [spec_l04Text.j1] at H
      have H' := Aside0.mk H
      clear H
      go_wp2
      go_loopg [6, 8] kj8 (fun kq v6 v8 w' => ∃ (x6_3 : List Int) (x8_3 : Int), v8 = .int .i64 x8_3 ∧ Aside0 (spec_l04Text.l1 kq t342 t343 t344 x6_3 x7_1 x8_3 = some r) ∧ Aside0 (kq ≤ kj8) ∧ Aside0 (Kd.R k43 43 w' w.heap.size (fun _ => True) v345 t344) ∧ Aside0 (Kd.R (Kd.int .u8) 5 w' w.heap.size (fun _ => True) v6 x6_3) ∧ Aside0 (Below w.heap.size w w'))
      case atStart => exact ⟨(x6_8), (0), r3_, H', ⟨Nat.le_refl _⟩, ⟨rS_ HO_5.out⟩, ⟨rS_ HO_6.out⟩, ⟨bB_⟩⟩
      case round =>
       clear H'
       try clear c1
       try clear p2
       try clear c3
       try clear c8
       try clear c8b0
       try clear c10
       try clear c10b0
       try clear c11
       try clear p2
       obtain ⟨x6_3, x8_3, rfl, HA, HK3, HO_5, HO_6, HB⟩ := hrel
       cases gk with
       | zero => exact absurd HA.out (by simp [spec_l04Text.l1])
       | succ k3 =>
        have H := HA.out
        clear HA
        simp only [spec_l04Text.l1] at H
        by_cases c13 : x8_3 < t342
        ·rw [if_pos c13] at H
         have c13b0 : decide (x8_3 < t342) = true := decide_eq_true c13
         clear c13
         replace H := Option.bind_eq_some_iff.mp H
         obtain ⟨t353, A140, H⟩ := H
         try dsimp only at H
         have A14 := Aside0.mk A140
         clear A140
         by_cases c15 : t353 ≥ 0
         ·rw [if_pos c15] at H
          have c15b0 : decide (0 ≤ t353) = true := decide_eq_true c15
          clear c15
          by_cases c16 : x6_3.length < 140737488355328
          ·rw [if_pos c16] at H
           have LMc16 := Aside0.mk c16
           clear c16
           obtain ⟨y354, hY_⟩ : ∃ y_ : List Int, y_ = (x6_3 ++ [35]) := ⟨_, rfl⟩
           replace H : (spec_l04Text.l1 k3 t342 t343 t344 y354 x7_1 (wrap64 (x8_3 + 1))) = some r := yY_
           have Ny354 := Aside0.mk hY_
           clear hY_
           have H' := Aside0.mk H
           clear H
           obtain ⟨Ao17, co17, eo17⟩ := Kd.R_slice HO_5.out
           subst eo17
           go_wp2_with (first | ((with_reducible refine gate_callee (f := 32) rfl ?_); refine gL_ (some 36) Tryd.func32 #[.slice Ao17 t344.length co17, .agg #[.int .i64 x8_3, .int .i64 x7_1]] ?_; (with_reducible refine (spec_l02Index.calls k3 _ _ t344 x8_3 x7_1 t353 _ ?side1 ?side2 A14.out).mono ?_); (case side1 => exact cS_ ((Kd.R_reads' HO_5.out).2.2)); (case side2 => exact (Kd.R_reads' HO_5.out).2.1); rintro e w18 ⟨rfl, hb⟩; refine ⟨_, rfl, ?_⟩; replace HO_5 := Aside0.mk (Kd.R_below (rS_ HO_5.out) hb); replace HO_6 := Aside0.mk (Kd.R_below (rS_ HO_6.out) hb); replace HB := Aside0.mk (below_step bB_ hb); (try clear hb)) | ((with_reducible refine gate_builtin (b := .append) (xs := #[.tmp 38, .tmp 39]) rfl ?_); at_builtin; refine Kd.R_append (Kd.int .u8) (w0 := w) w.heap.size rfl (.tmp 38) (.tmp 39) 22 5 (.int .u8 0) 1 rfl Tryd.underlying22 info5 rfl (by decide) (by omega) u6 x6_3 35 [.int .u8 35] (fun _ => True) (fun _ => False) rfl rfl ?aP (fun _ hk => hk.elim) ?aF ?aO ?aB ?aS ?aL ?_; (case aP => exact rfl); (case aB => exact bB_); (case aF => exact (fun _ _ => trivial)); (case aO => exact (rS_ HO_6.out)); (case aS => exact (below_size bB_)); (case aL => have := LMc16.out; omega); intro v355 w19 ho hb hg hat; rw [← Ny354.out] at ho; replace HO_5 := Aside0.mk (Kd.R_over' (rS_ HO_5.out) (Kd.R_typed (rS_ HO_6.out)) (by decide) hg); replace HB := Aside0.mk (hb); have HO356 := Aside0.mk (ho); clear HO_6; clear ho hb hg hat))
           go_roundg k3
           case measure => have := HK1.out; have := HJ8.out; have := HK3.out; omega
           case rel => exact ⟨(y354), (wrap64 (x8_3 + 1)), r3_, H', ⟨by have := HK1.out; have := HJ8.out; have := HK3.out; omega⟩, ⟨rS_ HO_5.out⟩, ⟨rS_ HO356.out⟩, ⟨bB_⟩⟩
          ·rw [if_neg c16] at H
           exact absurd H (by simp)
         ·rw [if_neg c15] at H
          have c15b0 : decide (0 ≤ t353) = false := decide_eq_false c15
          clear c15
          by_cases c20 : x6_3.length < 140737488355328
          ·rw [if_pos c20] at H
           have LMc20 := Aside0.mk c20
           clear c20
           obtain ⟨y357, hY_⟩ : ∃ y_ : List Int, y_ = (x6_3 ++ [46]) := ⟨_, rfl⟩
           replace H : (spec_l04Text.l1 k3 t342 t343 t344 y357 x7_1 (wrap64 (x8_3 + 1))) = some r := yY_
           have Ny357 := Aside0.mk hY_
           clear hY_
           have H' := Aside0.mk H
           clear H
           obtain ⟨Ao21, co21, eo21⟩ := Kd.R_slice HO_5.out
           subst eo21
           go_wp2_with (first | ((with_reducible refine gate_callee (f := 32) rfl ?_); refine gL_ (some 36) Tryd.func32 #[.slice Ao21 t344.length co21, .agg #[.int .i64 x8_3, .int .i64 x7_1]] ?_; (with_reducible refine (spec_l02Index.calls k3 _ _ t344 x8_3 x7_1 t353 _ ?side1 ?side2 A14.out).mono ?_); (case side1 => exact cS_ ((Kd.R_reads' HO_5.out).2.2)); (case side2 => exact (Kd.R_reads' HO_5.out).2.1); rintro e w22 ⟨rfl, hb⟩; refine ⟨_, rfl, ?_⟩; replace HO_5 := Aside0.mk (Kd.R_below (rS_ HO_5.out) hb); replace HO_6 := Aside0.mk (Kd.R_below (rS_ HO_6.out) hb); replace HB := Aside0.mk (below_step bB_ hb); (try clear hb)) | ((with_reducible refine gate_builtin (b := .append) (xs := #[.tmp 41, .tmp 42]) rfl ?_); at_builtin; refine Kd.R_append (Kd.int .u8) (w0 := w) w.heap.size rfl (.tmp 41) (.tmp 42) 22 5 (.int .u8 0) 1 rfl Tryd.underlying22 info5 rfl (by decide) (by omega) u6 x6_3 46 [.int .u8 46] (fun _ => True) (fun _ => False) rfl rfl ?aP (fun _ hk => hk.elim) ?aF ?aO ?aB ?aS ?aL ?_; (case aP => exact rfl); (case aB => exact bB_); (case aF => exact (fun _ _ => trivial)); (case aO => exact (rS_ HO_6.out)); (case aS => exact (below_size bB_)); (case aL => have := LMc20.out; omega); intro v358 w23 ho hb hg hat; rw [← Ny357.out] at ho; replace HO_5 := Aside0.mk (Kd.R_over' (rS_ HO_5.out) (Kd.R_typed (rS_ HO_6.out)) (by decide) hg); replace HB := Aside0.mk (hb); have HO359 := Aside0.mk (ho); clear HO_6; clear ho hb hg hat))
           go_roundg k3
           case measure => have := HK1.out; have := HJ8.out; have := HK3.out; omega
           case rel => exact ⟨(y357), (wrap64 (x8_3 + 1)), r3_, H', ⟨by have := HK1.out; have := HJ8.out; have := HK3.out; omega⟩, ⟨rS_ HO_5.out⟩, ⟨rS_ HO359.out⟩, ⟨bB_⟩⟩
          ·rw [if_neg c20] at H
           exact absurd H (by simp)
        ·rw [if_neg c13] at H
         have c13b0 : decide (x8_3 < t342) = false := decide_eq_false c13
         clear c13
         have H' := Aside0.mk H
         clear H
         go_wp2
         go_roundg k3
         case measure => have := HK1.out; have := HJ8.out; have := HK3.out; omega
         case rel => exact ⟨(x6_3), (wrap64 (x7_1 + 1)), r3_, H', ⟨by have := HK1.out; have := HJ8.out; have := HK3.out; omega⟩, ⟨rS_ HO_5.out⟩, ⟨rS_ HO_6.out⟩, ⟨bB_⟩⟩
   ·rw [if_neg c8] at H
    have c8b0 : decide (x7_1 < t343) = false := decide_eq_false c8
    clear c8
    obtain rfl := Option.some.inj H
    have hcv24 := own_string (P := Tryd.prog) Tryd.underlying22 Tryd.underlying5 Tryd.underlying9 (Kd.own_of_R HO_6.out)
    go_wp2
    go_ret
    exact ⟨r2_, bB_⟩

/-! ### spec_ShapeText: function 7 -/
def spec_ShapeText.f (k : Nat) (l0 : List (S43)) : Option (ByteArray × Int) := (spec_l03Code.f k l0).bind fun t360 => (if t360 = 0 then ((spec_l04Text.f k l0).bind fun t361 => (some (t361, 0))) else (some ((⟨#[]⟩ : ByteArray), t360)))
theorem spec_ShapeText.mono : ∀ a0 k, LeO (spec_ShapeText.f k a0) (spec_ShapeText.f (k + 1) a0) := by
 intro a0 k
 unfold spec_ShapeText.f
 repeat' first
   | (with_reducible exact spec_l03Code.mono _ _)
   | (with_reducible exact spec_l04Text.mono _ _)
   | (with_reducible exact LeO.refl _)
   | (with_reducible exact LeO.none _)
   | (with_reducible refine LeO.ite ?_ ?_)
   | (with_reducible refine LeO.bind ?_ (fun _ => ?_))
   | exact spec_l03Code.mono _ _
   | exact spec_l04Text.mono _ _
   | exact LeO.none _
   | refine LeO.ite ?_ ?_
   | refine LeO.bind ?_ (fun _ => ?_)
set_option maxHeartbeats 8000000 in
set_option maxRecDepth 100000 in
theorem spec_ShapeText.calls (k : Nat) (A0 : Option Addr) (c0 : Nat) (l0 : List (S43)) (r1 : ByteArray) (r2 : Int) (w : World) (hr0 : Kd.C k43 w A0 l0.length l0) (hc0 : l0.length ≤ c0) (h : spec_ShapeText.f k l0 = some (r1, r2)) :
  Calls Tryd.prog 7 #[.slice A0 l0.length c0] w fun e w' => e = .returned (.tuple #[.string r1, .int .i64 r2]) ∧ Below w.heap.size w w' := by
 have HR0 := Aside0.mk hr0
 have HC0 := Aside0.mk hc0
 clear hr0 hc0
 have HB := Aside0.mk (Below.refl w.heap.size w)
 have H : ((spec_l03Code.f k l0).bind fun t360 => (if t360 = 0 then ((spec_l04Text.f k l0).bind fun t361 => (some (t361, 0))) else (some ((⟨#[]⟩ : ByteArray), t360)))) = some (r1, r2) := h
 clear h
 replace H := Option.bind_eq_some_iff.mp H
 obtain ⟨t360, A20, H⟩ := H
 try dsimp only at H
 have A2 := Aside0.mk A20
 clear A20
 by_cases c3 : t360 = 0
 ·rw [if_pos c3] at H
  have c3b0 : (t360 == 0) = true := beq_iff_eq.mpr c3
  have c3b1 : (t360 != 0) = false := bne_eq_false_iff_eq.mpr c3
  clear c3
  replace H := Option.bind_eq_some_iff.mp H
  obtain ⟨t361, A40, H⟩ := H
  try dsimp only at H
  have A4 := Aside0.mk A40
  clear A40
  simp only [Option.some.injEq, Prod.mk.injEq] at H
  obtain ⟨rfl, rfl⟩ := H
  go_enter Tryd.func7, Tryd.ntmps7
  go_wp2_with (first | ((with_reducible refine gate_callee (f := 16) rfl ?_); refine gL_ (some 6) Tryd.func16 #[.slice A0 l0.length c0] ?_; (with_reducible refine (spec_l03Code.calls k _ _ l0 t360 _ ?side1 ?side2 A2.out).mono ?_); (case side1 => exact cS_ HR0.out); (case side2 => exact HC0.out); rintro e w5 ⟨rfl, hb⟩; refine ⟨_, rfl, ?_⟩; replace HB := Aside0.mk (below_step bB_ hb); (try clear hb)) | ((with_reducible refine gate_callee (f := 17) rfl ?_); refine gL_ (some 11) Tryd.func17 #[.slice A0 l0.length c0] ?_; (with_reducible refine (spec_l04Text.calls k _ _ l0 t361 _ ?side1 ?side2 A4.out).mono ?_); (case side1 => exact cS_ (Kd.C_below HR0.out HB.out)); (case side2 => exact HC0.out); rintro e w6 ⟨rfl, hb⟩; refine ⟨_, rfl, ?_⟩; replace HB := Aside0.mk (below_step bB_ hb); (try clear hb)))
  go_ret2
  exact ⟨r2_, bB_⟩
 ·rw [if_neg c3] at H
  have c3b0 : (t360 == 0) = false := beq_eq_false_iff_ne.mpr c3
  have c3b1 : (t360 != 0) = true := bne_iff_ne.mpr c3
  simp only [Option.some.injEq, Prod.mk.injEq] at H
  obtain ⟨rfl, rfl⟩ := H
  go_enter Tryd.func7, Tryd.ntmps7
  go_wp2_with (first | ((with_reducible refine gate_callee (f := 16) rfl ?_); refine gL_ (some 6) Tryd.func16 #[.slice A0 l0.length c0] ?_; (with_reducible refine (spec_l03Code.calls k _ _ l0 t360 _ ?side1 ?side2 A2.out).mono ?_); (case side1 => exact cS_ HR0.out); (case side2 => exact HC0.out); rintro e w7 ⟨rfl, hb⟩; refine ⟨_, rfl, ?_⟩; replace HB := Aside0.mk (below_step bB_ hb); (try clear hb)))
  go_ret2
  exact ⟨r2_, bB_⟩

/-! ### spec_l01Damage: function 21 -/
def spec_l01Damage.f (s0_0 : List Int) (s0_1 : Int) (s0_2 : Int) (a1 : ByteArray) : Option (ByteArray × Int × Int) := (spec_l01Next.f s0_0 s0_1 s0_2 (wrap64 ((a1.size : Int) + 1))).bind fun bt362 => ((spec_l01Next.f s0_0 bt362.2.1 bt362.2.2 8).bind fun bt365 => (if bt365.1 = 0 then (if 0 ≤ bt362.1 then (if bt362.1 ≤ (a1.size : Int) then (some (a1.extract 0 (bt362.1 : Int).toNat, bt365.2.1, bt365.2.2)) else (none)) else (none)) else (if bt365.1 = 1 then (if 0 ≤ bt362.1 then (if bt362.1 ≤ (a1.size : Int) then ((some (([(⟨#[48]⟩ : ByteArray), (⟨#[35]⟩ : ByteArray), (⟨#[46]⟩ : ByteArray), (⟨#[47]⟩ : ByteArray), (⟨#[32]⟩ : ByteArray), (⟨#[97]⟩ : ByteArray), (⟨#[45]⟩ : ByteArray), (⟨#[10]⟩ : ByteArray)] : List ByteArray) : List ByteArray)).bind fun y368 => ((spec_l01Next.f s0_0 bt365.2.1 bt365.2.2 8).bind fun bt371 => (if 0 ≤ bt371.1 then (if bt371.1 < (y368.length : Int) then (if (a1.extract 0 (bt362.1 : Int).toNat).size + (rdOf ByteArray.empty y368 bt371.1).size ≤ 9223372036854775807 then (if ((a1.extract 0 (bt362.1 : Int).toNat) ++ (rdOf ByteArray.empty y368 bt371.1)).size + (a1.extract (bt362.1 : Int).toNat a1.size).size ≤ 9223372036854775807 then (some (((a1.extract 0 (bt362.1 : Int).toNat) ++ (rdOf ByteArray.empty y368 bt371.1)) ++ (a1.extract (bt362.1 : Int).toNat a1.size), bt371.2.1, bt371.2.2)) else (none)) else (none)) else (none)) else (none)))) else (none)) else (none)) else (if bt365.1 = 2 then (if bt362.1 < (a1.size : Int) then (if 0 ≤ bt362.1 then (if bt362.1 ≤ (a1.size : Int) then (if 0 ≤ (wrap64 (bt362.1 + 1)) then (if (wrap64 (bt362.1 + 1)) ≤ (a1.size : Int) then (if (a1.extract 0 (bt362.1 : Int).toNat).size + (a1.extract ((wrap64 (bt362.1 + 1)) : Int).toNat a1.size).size ≤ 9223372036854775807 then (some ((a1.extract 0 (bt362.1 : Int).toNat) ++ (a1.extract ((wrap64 (bt362.1 + 1)) : Int).toNat a1.size), bt365.2.1, bt365.2.2)) else (none)) else (none)) else (none)) else (none)) else (none)) else (some (a1, bt365.2.1, bt365.2.2))) else (some (a1, bt365.2.1, bt365.2.2))))))
def spec_l01Damage.T6 : Bool × List (List Nat × List Nat) := (true, [([], []), ([], []), ([0, 1], [0, 1]), ([], []), ([], []), ([4], [4]), ([3, 5], [3, 5]), ([6], [6]), ([2, 7], [2, 7]), ([], []), ([], []), ([9, 10], [9, 10]), ([8, 11], [8, 11]), ([12, 5, 0, 1, 2, 3, 4, 5, 6, 7, 8, 9, 10, 11, 12], [12])])
def spec_l01Damage.B6 : List Nat := [0, 0, 3, 0, 0, 16, 56, 120, 255, 0, 0, 1536, 4095, 8191]
theorem spec_l01Damage.tab6 : rtab .any (opsOf Tryd.f21 6) = spec_l01Damage.T6 := by kernel_rfl
theorem spec_l01Damage.bits6 : waitsOk spec_l01Damage.T6.2 spec_l01Damage.B6 = true := by kernel_rfl
def spec_l01Damage.T9 : Bool × List (List Nat × List Nat) := (true, [([], []), ([], []), ([0, 1], [0, 1]), ([], []), ([], []), ([4], [4]), ([3, 5], [3, 5]), ([2, 6], [2, 6]), ([7, 0, 1, 2, 3, 4, 5, 6, 7], [7])])
def spec_l01Damage.B9 : List Nat := [0, 0, 3, 0, 0, 16, 56, 127, 255]
theorem spec_l01Damage.tab9 : rtab .any (opsOf Tryd.f21 9) = spec_l01Damage.T9 := by kernel_rfl
theorem spec_l01Damage.bits9 : waitsOk spec_l01Damage.T9.2 spec_l01Damage.B9 = true := by kernel_rfl
set_option maxHeartbeats 8000000 in
set_option maxRecDepth 100000 in
theorem spec_l01Damage.calls (g : Nat) (s0_0 : List Int) (s0_1 : Int) (s0_2 : Int) (a1 : ByteArray) (r1 : ByteArray) (r2 : Int) (r3 : Int) (w0 w : World) (hI : IsS55 w0 w g s0_0 s0_1 s0_2) (hB : Below w0.heap.size w0 w) (h : spec_l01Damage.f s0_0 s0_1 s0_2 a1 = some (r1, r2, r3)) :
  Calls Tryd.prog 21 #[.pointer (some ⟨g, 0, none⟩), .string a1] w fun e w' => e = .returned (.string r1) ∧ IsS55 w0 w' g s0_0 r2 r3 ∧ Below w0.heap.size w0 w' ∧ KeepBut w w' g none := by
 have HI0 := Aside0.mk hI
 have HK := Aside0.mk (KeepBut.refl w g none)
 have HL := Aside0.mk hB.size
 clear hI
 have HW0 := Aside0.mk hB.size
 have HB := Aside0.mk hB
 clear hB
 have H : ((spec_l01Next.f s0_0 s0_1 s0_2 (wrap64 ((a1.size : Int) + 1))).bind fun bt362 => ((spec_l01Next.f s0_0 bt362.2.1 bt362.2.2 8).bind fun bt365 => (if bt365.1 = 0 then (if 0 ≤ bt362.1 then (if bt362.1 ≤ (a1.size : Int) then (some (a1.extract 0 (bt362.1 : Int).toNat, bt365.2.1, bt365.2.2)) else (none)) else (none)) else (if bt365.1 = 1 then (if 0 ≤ bt362.1 then (if bt362.1 ≤ (a1.size : Int) then ((some (([(⟨#[48]⟩ : ByteArray), (⟨#[35]⟩ : ByteArray), (⟨#[46]⟩ : ByteArray), (⟨#[47]⟩ : ByteArray), (⟨#[32]⟩ : ByteArray), (⟨#[97]⟩ : ByteArray), (⟨#[45]⟩ : ByteArray), (⟨#[10]⟩ : ByteArray)] : List ByteArray) : List ByteArray)).bind fun y368 => ((spec_l01Next.f s0_0 bt365.2.1 bt365.2.2 8).bind fun bt371 => (if 0 ≤ bt371.1 then (if bt371.1 < (y368.length : Int) then (if (a1.extract 0 (bt362.1 : Int).toNat).size + (rdOf ByteArray.empty y368 bt371.1).size ≤ 9223372036854775807 then (if ((a1.extract 0 (bt362.1 : Int).toNat) ++ (rdOf ByteArray.empty y368 bt371.1)).size + (a1.extract (bt362.1 : Int).toNat a1.size).size ≤ 9223372036854775807 then (some (((a1.extract 0 (bt362.1 : Int).toNat) ++ (rdOf ByteArray.empty y368 bt371.1)) ++ (a1.extract (bt362.1 : Int).toNat a1.size), bt371.2.1, bt371.2.2)) else (none)) else (none)) else (none)) else (none)))) else (none)) else (none)) else (if bt365.1 = 2 then (if bt362.1 < (a1.size : Int) then (if 0 ≤ bt362.1 then (if bt362.1 ≤ (a1.size : Int) then (if 0 ≤ (wrap64 (bt362.1 + 1)) then (if (wrap64 (bt362.1 + 1)) ≤ (a1.size : Int) then (if (a1.extract 0 (bt362.1 : Int).toNat).size + (a1.extract ((wrap64 (bt362.1 + 1)) : Int).toNat a1.size).size ≤ 9223372036854775807 then (some ((a1.extract 0 (bt362.1 : Int).toNat) ++ (a1.extract ((wrap64 (bt362.1 + 1)) : Int).toNat a1.size), bt365.2.1, bt365.2.2)) else (none)) else (none)) else (none)) else (none)) else (none)) else (some (a1, bt365.2.1, bt365.2.2))) else (some (a1, bt365.2.1, bt365.2.2))))))) = some (r1, r2, r3) := h
 clear h
 replace H := Option.bind_eq_some_iff.mp H
 obtain ⟨⟨t362, t363, t364⟩, A30, H⟩ := H
 try dsimp only at H
 have A3 := Aside0.mk A30
 clear A30
 replace H := Option.bind_eq_some_iff.mp H
 obtain ⟨⟨t365, t366, t367⟩, A40, H⟩ := H
 try dsimp only at H
 have A4 := Aside0.mk A40
 clear A40
 by_cases c5 : t365 = 0
 ·rw [if_pos c5] at H
  have c5b0 : (t365 == 0) = true := beq_iff_eq.mpr c5
  have c5b1 : (t365 != 0) = false := bne_eq_false_iff_eq.mpr c5
  clear c5
  by_cases c6 : 0 ≤ t362
  ·rw [if_pos c6] at H
   have c6b0 := eq_true c6
   have c6b1 : decide (0 ≤ t362) = true := decide_eq_true c6
   clear c6
   by_cases c7 : t362 ≤ (a1.size : Int)
   ·rw [if_pos c7] at H
    have c7b0 := eq_true c7
    have c7b1 : decide (t362 ≤ (a1.size : Int)) = true := decide_eq_true c7
    clear c7
    simp only [Option.some.injEq, Prod.mk.injEq] at H
    obtain ⟨rfl, rfl, rfl⟩ := H
    go_enter Tryd.func21, Tryd.ntmps21
    go_wp2_with (first | ((with_reducible refine gate_callee (f := 19) rfl ?_); refine gL_ (some 10) Tryd.func19 #[.pointer (some ⟨g, 0, none⟩), .int .i64 (wrap64 ((a1.size : Int) + 1))] ?_; (with_reducible refine (spec_l01Next.calls g s0_0 s0_1 s0_2 (wrap64 ((a1.size : Int) + 1)) t362 t363 t364 w0 _ ?side1 ?side2 A3.out).mono ?_); (case side1 => exact iS55_); (case side2 => exact bS55_); rintro e w8 ⟨rfl, hi, hb, hk⟩; refine ⟨_, rfl, ?_⟩; replace HK := Aside0.mk (KeepBut.trans kK_ hk (.inl rfl)); replace HB := Aside0.mk (hb); replace HI0 := Aside0.mk (hi); (try clear hb hk hi)) | ((with_reducible refine gate_callee (f := 19) rfl ?_); refine gL_ (some 12) Tryd.func19 #[.pointer (some ⟨g, 0, none⟩), .int .i64 8] ?_; (with_reducible refine (spec_l01Next.calls g s0_0 t363 t364 8 t365 t366 t367 w0 _ ?side1 ?side2 A4.out).mono ?_); (case side1 => exact iS55_); (case side2 => exact bS55_); rintro e w9 ⟨rfl, hi, hb, hk⟩; refine ⟨_, rfl, ?_⟩; replace HK := Aside0.mk (KeepBut.trans kK_ hk (.inl rfl)); replace HB := Aside0.mk (hb); replace HI0 := Aside0.mk (hi); (try clear hb hk hi)))
    go_ret
    exact ⟨r2_, iS55_, bS55_, kK_⟩
   ·rw [if_neg c7] at H
    exact absurd H (by simp)
  ·rw [if_neg c6] at H
   exact absurd H (by simp)
 ·rw [if_neg c5] at H
  have c5b0 : (t365 == 0) = false := beq_eq_false_iff_ne.mpr c5
  have c5b1 : (t365 != 0) = true := bne_iff_ne.mpr c5
  by_cases c10 : t365 = 1
  ·rw [if_pos c10] at H
   have c10b0 : (t365 == 1) = true := beq_iff_eq.mpr c10
   have c10b1 : (t365 != 1) = false := bne_eq_false_iff_eq.mpr c10
   clear c10
   by_cases c11 : 0 ≤ t362
   ·rw [if_pos c11] at H
    have c11b0 := eq_true c11
    have c11b1 : decide (0 ≤ t362) = true := decide_eq_true c11
    clear c11
    by_cases c12 : t362 ≤ (a1.size : Int)
    ·rw [if_pos c12] at H
     have c12b0 := eq_true c12
     have c12b1 : decide (t362 ≤ (a1.size : Int)) = true := decide_eq_true c12
     clear c12
     obtain ⟨y368, hY_⟩ : ∃ y_ : List ByteArray, y_ = (([(⟨#[48]⟩ : ByteArray), (⟨#[35]⟩ : ByteArray), (⟨#[46]⟩ : ByteArray), (⟨#[47]⟩ : ByteArray), (⟨#[32]⟩ : ByteArray), (⟨#[97]⟩ : ByteArray), (⟨#[45]⟩ : ByteArray), (⟨#[10]⟩ : ByteArray)] : List ByteArray)) := ⟨_, rfl⟩
     replace H : ((spec_l01Next.f s0_0 t366 t367 8).bind fun bt371 => (if 0 ≤ bt371.1 then (if bt371.1 < (y368.length : Int) then (if (a1.extract 0 (t362 : Int).toNat).size + (rdOf ByteArray.empty y368 bt371.1).size ≤ 9223372036854775807 then (if ((a1.extract 0 (t362 : Int).toNat) ++ (rdOf ByteArray.empty y368 bt371.1)).size + (a1.extract (t362 : Int).toNat a1.size).size ≤ 9223372036854775807 then (some (((a1.extract 0 (t362 : Int).toNat) ++ (rdOf ByteArray.empty y368 bt371.1)) ++ (a1.extract (t362 : Int).toNat a1.size), bt371.2.1, bt371.2.2)) else (none)) else (none)) else (none)) else (none))) = some (r1, r2, r3) := yY_
     have Ny368 := Aside0.mk hY_
     clear hY_
     replace H := Option.bind_eq_some_iff.mp H
     obtain ⟨⟨t371, t372, t373⟩, A130, H⟩ := H
     try dsimp only at H
     have A13 := Aside0.mk A130
     clear A130
     by_cases c14 : 0 ≤ t371
     ·rw [if_pos c14] at H
      have c14b0 : decide (0 ≤ t371) = true := decide_eq_true c14
      clear c14
      by_cases c15 : t371 < (y368.length : Int)
      ·rw [if_pos c15] at H
       have c15b0 : decide (t371 < (y368.length : Int)) = true := decide_eq_true c15
       clear c15
       by_cases c16 : (a1.extract 0 (t362 : Int).toNat).size + (rdOf ByteArray.empty y368 t371).size ≤ 9223372036854775807
       ·rw [if_pos c16] at H
        have c16b0 := eq_true c16
        have c16b1 : decide ((a1.extract 0 (t362 : Int).toNat).size + (rdOf ByteArray.empty y368 t371).size ≤ 9223372036854775807) = true := decide_eq_true c16
        try have c16b2 : (9223372036854775807 < (a1.extract 0 (t362 : Int).toNat).size + (rdOf ByteArray.empty y368 t371).size) = False := eq_false (Nat.not_lt.2 c16)
        have c16b3 : (9223372036854775807 < (t362 : Int).toNat + (rdOf ByteArray.empty y368 t371).size) = False := eq_false (Nat.not_lt.2 (by have hE0_ : (t362 : Int) ≤ (a1.size : Int) := of_decide_eq_true (by assumption); have h_ := c16; simp only [ByteArray.size_append, ByteArray.size_extract] at h_; omega))
        have c17b0 := eq_true (of_decide_eq_true aS_ : 0 ≤ t362)
        have c18b0 := eq_true (of_decide_eq_true aS_ : t362 ≤ (a1.size : Int))
        by_cases c19 : ((a1.extract 0 (t362 : Int).toNat) ++ (rdOf ByteArray.empty y368 t371)).size + (a1.extract (t362 : Int).toNat a1.size).size ≤ 9223372036854775807
        ·rw [if_pos c19] at H
         have c19b0 := eq_true c19
         have c19b1 : decide (((a1.extract 0 (t362 : Int).toNat) ++ (rdOf ByteArray.empty y368 t371)).size + (a1.extract (t362 : Int).toNat a1.size).size ≤ 9223372036854775807) = true := decide_eq_true c19
         try have c19b2 : (9223372036854775807 < ((a1.extract 0 (t362 : Int).toNat) ++ (rdOf ByteArray.empty y368 t371)).size + (a1.extract (t362 : Int).toNat a1.size).size) = False := eq_false (Nat.not_lt.2 c19)
         have c19b3 : (9223372036854775807 < (t362 : Int).toNat + (rdOf ByteArray.empty y368 t371).size + (a1.size - (t362 : Int).toNat)) = False := eq_false (Nat.not_lt.2 (by have hE0_ : (t362 : Int) ≤ (a1.size : Int) := of_decide_eq_true (by assumption); have h_ := c19; simp only [ByteArray.size_append, ByteArray.size_extract] at h_; omega))
         simp only [Option.some.injEq, Prod.mk.injEq] at H
         obtain ⟨rfl, rfl, rfl⟩ := H
         go_enter Tryd.func21, Tryd.ntmps21
         try go_wp2_with (first | ((with_reducible refine gate_callee (f := 19) rfl ?_); refine gL_ (some 10) Tryd.func19 #[.pointer (some ⟨g, 0, none⟩), .int .i64 (wrap64 ((a1.size : Int) + 1))] ?_; (with_reducible refine (spec_l01Next.calls g s0_0 s0_1 s0_2 (wrap64 ((a1.size : Int) + 1)) t362 t363 t364 w0 _ ?side1 ?side2 A3.out).mono ?_); (case side1 => exact iS55_); (case side2 => exact bS55_); rintro e w20 ⟨rfl, hi, hb, hk⟩; refine ⟨_, rfl, ?_⟩; replace HK := Aside0.mk (KeepBut.trans kK_ hk (.inl rfl)); replace HB := Aside0.mk (hb); replace HI0 := Aside0.mk (hi); (try clear hb hk hi)) | ((with_reducible refine gate_callee (f := 19) rfl ?_); refine gL_ (some 12) Tryd.func19 #[.pointer (some ⟨g, 0, none⟩), .int .i64 8] ?_; (with_reducible refine (spec_l01Next.calls g s0_0 t363 t364 8 t365 t366 t367 w0 _ ?side1 ?side2 A4.out).mono ?_); (case side1 => exact iS55_); (case side2 => exact bS55_); rintro e w21 ⟨rfl, hi, hb, hk⟩; refine ⟨_, rfl, ?_⟩; replace HK := Aside0.mk (KeepBut.trans kK_ hk (.inl rfl)); replace HB := Aside0.mk (hb); replace HI0 := Aside0.mk (hi); (try clear hb hk hi)))
         have pi374 : (0 ≤ (t371 : Int)) = True := eq_true (of_decide_eq_true aS_)
         have qi374 : (t371 < (y368.length : Int)) = True := eq_true (of_decide_eq_true aS_)
         replace HI0 := Aside0.mk (IsS55.drew HI0.out)
         replace HK := Aside0.mk (keep_drew HK.out)
         replace HB := Aside0.mk (below_drew1 HB.out)
         refine start_ (n := 14) (S := fun w' => True) (ds := []) #[F, F, F, F, F, F, F, F, F, F, F, F, F, F] (by kernel_rfl) rfl rfl trivial (fun hHeld => ?_); refine with_tabW spec_l01Damage.tab6 spec_l01Damage.bits6 (fun HT_ HW_ => ?_)
         generalize w21.drew = w22 at HI0 HK HB hHeld ⊢
         refine pu_ HT_ 0 (some 20) #[T,F,F,F,F,F,F,F,F,F,F,F,F,F] ?_
         refine pu_ HT_ 1 (some 21) #[T,T,F,F,F,F,F,F,F,F,F,F,F,F] ?_
         refine pu_ HT_ 2 (some 22) #[T,T,T,F,F,F,F,F,F,F,F,F,F,F] ?_
         refine pu_ HT_ 4 (some 24) #[T,T,T,F,T,F,F,F,F,F,F,F,F,F] ?_
         refine pu_ HT_ 9 (some 29) #[T,T,T,F,T,F,F,F,F,T,F,F,F,F] ?_
         refine pu_ HT_ 10 (some 30) #[T,T,T,F,T,F,F,F,F,T,T,F,F,F] ?_
         refine pu_ HT_ 11 (some 31) #[T,T,T,F,T,F,F,F,F,T,T,T,F,F] ?_
         refine join_ (σ := Value × Addr) 5 #[T, T, T, T, T, T, F, F, F, T, T, T, F, F] (fun s_ => [(23, s_.1), (25, .int .i64 t371)]) (fun s_ w' => (Kd.R Kd.string 9 w' w.heap.size (fun _ => True) s_.1 y368) ∧ (∃ c_, (s_.1 : Value) = .slice (some s_.2) y368.length c_) ∧ (IsS55 w0 w' g s0_0 t372 t373) ∧ (KeepBut w w' g none) ∧ (Below w0.heap.size w0 w')) ?_ ?_
         rotate_left
         ·intro hCont
          refine two_ (i := 3) (j := 5) (Ni := some 23) (Nj := some 25) #[T, T, T, T, T, F, F, F, F, T, T, T, F, F] #[T, T, T, F, T, T, F, F, F, T, T, T, F, F] rfl rfl rfl rfl (two_of HT_.out (by kernel_rfl)) (by decide) (by decide) (fun K hK => ?_) (fun K hK => ?_)
          ·skip
           refine Kd.R_lit_step Kd.string _ 9 ?hg (N := 23) ?hd (xs := ([(⟨#[48]⟩ : ByteArray), (⟨#[35]⟩ : ByteArray), (⟨#[46]⟩ : ByteArray), (⟨#[47]⟩ : ByteArray), (⟨#[32]⟩ : ByteArray), (⟨#[97]⟩ : ByteArray), (⟨#[45]⟩ : ByteArray), (⟨#[10]⟩ : ByteArray)] : List ByteArray)) (inner := [.string (⟨#[48]⟩ : ByteArray), .string (⟨#[35]⟩ : ByteArray), .string (⟨#[46]⟩ : ByteArray), .string (⟨#[47]⟩ : ByteArray), .string (⟨#[32]⟩ : ByteArray), .string (⟨#[97]⟩ : ByteArray), .string (⟨#[45]⟩ : ByteArray), .string (⟨#[10]⟩ : ByteArray)]) (ok := fun _ => True) (okp := fun _ => True) ?hr ?hp (fun _ hk => hk) trivial (Below.refl _ _) (Nat.le_refl _) (by simp) ?_; (case hd => rfl); (case hg => rfl); (case hr => first | (go_simp; done) | (go_simp; rfl)); (case hp => exact (Reps.one (show Kd.M Kd.string _ _ _ (⟨#[48]⟩ : ByteArray) [.string (⟨#[48]⟩ : ByteArray)] from rfl) (Reps.one (show Kd.M Kd.string _ _ _ (⟨#[35]⟩ : ByteArray) [.string (⟨#[35]⟩ : ByteArray)] from rfl) (Reps.one (show Kd.M Kd.string _ _ _ (⟨#[46]⟩ : ByteArray) [.string (⟨#[46]⟩ : ByteArray)] from rfl) (Reps.one (show Kd.M Kd.string _ _ _ (⟨#[47]⟩ : ByteArray) [.string (⟨#[47]⟩ : ByteArray)] from rfl) (Reps.one (show Kd.M Kd.string _ _ _ (⟨#[32]⟩ : ByteArray) [.string (⟨#[32]⟩ : ByteArray)] from rfl) (Reps.one (show Kd.M Kd.string _ _ _ (⟨#[97]⟩ : ByteArray) [.string (⟨#[97]⟩ : ByteArray)] from rfl) (Reps.one (show Kd.M Kd.string _ _ _ (⟨#[45]⟩ : ByteArray) [.string (⟨#[45]⟩ : ByteArray)] from rfl) (Reps.one (show Kd.M Kd.string _ _ _ (⟨#[10]⟩ : ByteArray) [.string (⟨#[10]⟩ : ByteArray)] from rfl) (Reps.none _ _))))))))))
           intro v369 w23 ho24 hb hg_ hnew_
           clear hg_ hnew_
           (first | rw [← Ny368.out] at ho24 | (simp only [Int.reduceToNat] at ho24; rw [← Ny368.out] at ho24))
           have HO370 := Aside0.mk (Kd.R_lower ho24 (keep_size (w := w) (g := g) (row := none) kK_))
           replace HK := Aside0.mk (KeepBut.trans kK_ (KeepBut.of_below hb g none) (.inl rfl))
           replace HB := Aside0.mk (below_step bS55_ hb)
           replace HI0 := Aside0.mk (IsS55.below iS55_ hb)
           clear hb ho24
           obtain ⟨Ao25, co25, eo25⟩ := Kd.R_slice HO370.out
           subst eo25
           obtain ⟨ado25, fo25, _⟩ := Kd.at_string (Kd.R_reads' HO370.out).2.2 0 (by decide) (by rw [Ny368.out]; simp)
           cases fo25
           refine hK.out _ _ trivial (fun hHeld => ?_)
           clear hK K
           refine no_ (some 23) ?_
           refine one_ (i := 5) (N := some 25) #[T, T, T, T, T, T, F, F, F, T, T, T, F, F] rfl rfl (one_of HT_.out (by kernel_rfl)) (by decide) (fun K hK => ?_)
           refine goes_ Tryd.func19 (by kernel_rfl) rfl #[.pointer (some ⟨g, 0, none⟩), .int .i64 8] (by rfl) rfl rfl mA_ ?_
           with_reducible refine (spec_l01Next.calls g s0_0 t366 t367 8 t371 t372 t373 w0 _ ?side1 ?side2 A13.out).mono ?_
           (case side1 => exact iS55_)
           (case side2 => exact bS55_)
           rintro e w26 ⟨rfl, hi, hb, hk⟩
           refine ⟨_, rfl, ?_⟩
           replace HO370 := Aside0.mk (Kd.R_mono (Kd.R_keep (IsS55.apart (show IsS55 w0 _ g s0_0 t366 t367 from iS55_) (rS_ HO370.out) (by decide)) hk (fun _ h => h.2)) (fun _ h => h.1))
           replace HK := Aside0.mk (KeepBut.trans kK_ hk (.inl rfl))
           replace HB := Aside0.mk (hb)
           replace HI0 := Aside0.mk (hi)
           (try clear hb)
           (try clear hk)
           (try clear hi)
           refine hK.out _ _ trivial (fun hHeld => ?_)
           clear hK K
           refine no_ (some 25) ?_
           exact norm_ (by simp only [putAll, Act.put, List.setIfInBounds_toArray, List.set_cons_zero, List.set_cons_succ]) (hCont (.slice (some ado25) y368.length co25, ado25) _ ⟨(rS_ HO370.out), ⟨_, rfl⟩, iS55_, kK_, bS55_⟩)
          ·skip
           refine goes_ Tryd.func19 (by kernel_rfl) rfl #[.pointer (some ⟨g, 0, none⟩), .int .i64 8] (by rfl) rfl rfl mA_ ?_
           with_reducible refine (spec_l01Next.calls g s0_0 t366 t367 8 t371 t372 t373 w0 _ ?side1 ?side2 A13.out).mono ?_
           (case side1 => exact iS55_)
           (case side2 => exact bS55_)
           rintro e w23 ⟨rfl, hi, hb, hk⟩
           refine ⟨_, rfl, ?_⟩
           replace HK := Aside0.mk (KeepBut.trans kK_ hk (.inl rfl))
           replace HB := Aside0.mk (hb)
           replace HI0 := Aside0.mk (hi)
           (try clear hb)
           (try clear hk)
           (try clear hi)
           refine hK.out _ _ trivial (fun hHeld => ?_)
           clear hK K
           refine no_ (some 25) ?_
           refine one_ (i := 3) (N := some 23) #[T, T, T, T, T, T, F, F, F, T, T, T, F, F] rfl rfl (one_of HT_.out (by kernel_rfl)) (by decide) (fun K hK => ?_)
           refine Kd.R_lit_step Kd.string _ 9 ?hg (N := 23) ?hd (xs := ([(⟨#[48]⟩ : ByteArray), (⟨#[35]⟩ : ByteArray), (⟨#[46]⟩ : ByteArray), (⟨#[47]⟩ : ByteArray), (⟨#[32]⟩ : ByteArray), (⟨#[97]⟩ : ByteArray), (⟨#[45]⟩ : ByteArray), (⟨#[10]⟩ : ByteArray)] : List ByteArray)) (inner := [.string (⟨#[48]⟩ : ByteArray), .string (⟨#[35]⟩ : ByteArray), .string (⟨#[46]⟩ : ByteArray), .string (⟨#[47]⟩ : ByteArray), .string (⟨#[32]⟩ : ByteArray), .string (⟨#[97]⟩ : ByteArray), .string (⟨#[45]⟩ : ByteArray), .string (⟨#[10]⟩ : ByteArray)]) (ok := fun _ => True) (okp := fun _ => True) ?hr ?hp (fun _ hk => hk) trivial (Below.refl _ _) (Nat.le_refl _) (by simp) ?_; (case hd => rfl); (case hg => rfl); (case hr => first | (go_simp; done) | (go_simp; rfl)); (case hp => exact (Reps.one (show Kd.M Kd.string _ _ _ (⟨#[48]⟩ : ByteArray) [.string (⟨#[48]⟩ : ByteArray)] from rfl) (Reps.one (show Kd.M Kd.string _ _ _ (⟨#[35]⟩ : ByteArray) [.string (⟨#[35]⟩ : ByteArray)] from rfl) (Reps.one (show Kd.M Kd.string _ _ _ (⟨#[46]⟩ : ByteArray) [.string (⟨#[46]⟩ : ByteArray)] from rfl) (Reps.one (show Kd.M Kd.string _ _ _ (⟨#[47]⟩ : ByteArray) [.string (⟨#[47]⟩ : ByteArray)] from rfl) (Reps.one (show Kd.M Kd.string _ _ _ (⟨#[32]⟩ : ByteArray) [.string (⟨#[32]⟩ : ByteArray)] from rfl) (Reps.one (show Kd.M Kd.string _ _ _ (⟨#[97]⟩ : ByteArray) [.string (⟨#[97]⟩ : ByteArray)] from rfl) (Reps.one (show Kd.M Kd.string _ _ _ (⟨#[45]⟩ : ByteArray) [.string (⟨#[45]⟩ : ByteArray)] from rfl) (Reps.one (show Kd.M Kd.string _ _ _ (⟨#[10]⟩ : ByteArray) [.string (⟨#[10]⟩ : ByteArray)] from rfl) (Reps.none _ _))))))))))
           intro v369 w24 ho25 hb hg_ hnew_
           clear hg_ hnew_
           (first | rw [← Ny368.out] at ho25 | (simp only [Int.reduceToNat] at ho25; rw [← Ny368.out] at ho25))
           have HO370 := Aside0.mk (Kd.R_lower ho25 (keep_size (w := w) (g := g) (row := none) kK_))
           replace HK := Aside0.mk (KeepBut.trans kK_ (KeepBut.of_below hb g none) (.inl rfl))
           replace HB := Aside0.mk (below_step bS55_ hb)
           replace HI0 := Aside0.mk (IsS55.below iS55_ hb)
           clear hb ho25
           obtain ⟨Ao26, co26, eo26⟩ := Kd.R_slice HO370.out
           subst eo26
           obtain ⟨ado26, fo26, _⟩ := Kd.at_string (Kd.R_reads' HO370.out).2.2 0 (by decide) (by rw [Ny368.out]; simp)
           cases fo26
           refine hK.out _ _ trivial (fun hHeld => ?_)
           clear hK K
           refine no_ (some 23) ?_
           exact norm_ (by simp only [putAll, Act.put, List.setIfInBounds_toArray, List.set_cons_zero, List.set_cons_succ]) (hCont (.slice (some ado26) y368.length co26, ado26) _ ⟨(rS_ HO370.out), ⟨_, rfl⟩, iS55_, kK_, bS55_⟩)
         rintro ⟨v369, adz_v369⟩ w27 ⟨h0_, h1_, h2_, h3_, h4_⟩
         have n0_ : Aside0 (Kd.R Kd.string 9 w27 w.heap.size (fun _ => True) v369 y368) := ⟨h0_⟩
         have n1_ : Aside0 (∃ c_, (v369 : Value) = .slice (some adz_v369) y368.length c_) := ⟨h1_⟩
         have n2_ : Aside0 (IsS55 w0 w27 g s0_0 t372 t373) := ⟨h2_⟩
         have n3_ : Aside0 (KeepBut w w27 g none) := ⟨h3_⟩
         have n4_ : Aside0 (Below w0.heap.size w0 w27) := ⟨h4_⟩
         clear HI0
         clear HK
         clear HB
         clear h0_ h1_ h2_ h3_ h4_
         have HO370 := n0_
         have HA_HO370 := n1_
         have HI0 := n2_
         have HK := n3_
         have HB := n4_
         clear n0_ n1_ n2_ n3_ n4_
         have hHeld := trivial
         obtain ⟨co28, eo28⟩ := HA_HO370.out
         clear HA_HO370
         subst eo28
         refine norm_ (a' := ?_) ?_ ?_
         rotate_left
         ·simp only [putAll, Act.put, List.setIfInBounds_toArray, List.set_cons_zero, List.set_cons_succ]
          rfl
         refine pu_ HT_ 6 (some 26) #[T,T,T,T,T,T,T,F,F,T,T,T,F,F] ?_
         refine one_ (i := 7) (N := some 27) #[T, T, T, T, T, T, T, T, F, T, T, T, F, F] rfl rfl (one_of HT_.out (by kernel_rfl)) (by decide) (fun K hK => ?_)
         (have p374 : 0 ≤ (t371 : Int) := of_decide_eq_true aS_; have q374 : t371 < (y368.length : Int) := of_decide_eq_true aS_; obtain ⟨ad374, e374, hx374_0⟩ := Kd.at_string (Kd.R_reads' HO370.out).2.2 t371 p374 q374; obtain rfl : adz_v369 = ad374 := (by injection e374))
         refine value_ (w1 := ?_) (v := ?_) (by rfl) rfl ?_ ?_
         rotate_left 2
         ·go_simp
          constructor
          ·rfl
          ·rfl
         clear hx374_0
         refine hK.out _ _ trivial (fun hHeld => ?_)
         clear hK K
         refine no_ (some 27) ?_
         refine pu_ HT_ 8 (some 28) #[T,T,T,T,T,T,T,T,T,T,T,T,F,F] ?_
         refine pu_ HT_ 12 (some 32) #[T,T,T,T,T,T,T,T,T,T,T,T,T,F] ?_
         refine pu_ HT_ 13 (some 4) #[T,T,T,T,T,T,T,T,T,T,T,T,T,T] ?_
         refine done_ (done_of HT_.out (by kernel_rfl)) ?_
         try go_wp2
         go_ret
         exact ⟨r2_, iS55_, bS55_, kK_⟩
        ·rw [if_neg c19] at H
         exact absurd H (by simp)
       ·rw [if_neg c16] at H
        exact absurd H (by simp)
      ·rw [if_neg c15] at H
       exact absurd H (by simp)
     ·rw [if_neg c14] at H
      exact absurd H (by simp)
    ·rw [if_neg c12] at H
     exact absurd H (by simp)
   ·rw [if_neg c11] at H
    exact absurd H (by simp)
  ·rw [if_neg c10] at H
   have c10b0 : (t365 == 1) = false := beq_eq_false_iff_ne.mpr c10
   have c10b1 : (t365 != 1) = true := bne_iff_ne.mpr c10
   by_cases c29 : t365 = 2
   ·rw [if_pos c29] at H
    have c29b0 : (t365 == 2) = true := beq_iff_eq.mpr c29
    have c29b1 : (t365 != 2) = false := bne_eq_false_iff_eq.mpr c29
    clear c29
    by_cases c30 : t362 < (a1.size : Int)
    ·rw [if_pos c30] at H
     have c30b0 : decide (t362 < (a1.size : Int)) = true := decide_eq_true c30
     clear c30
     by_cases c31 : 0 ≤ t362
     ·rw [if_pos c31] at H
      have c31b0 := eq_true c31
      have c31b1 : decide (0 ≤ t362) = true := decide_eq_true c31
      clear c31
      by_cases c32 : t362 ≤ (a1.size : Int)
      ·rw [if_pos c32] at H
       have c32b0 := eq_true c32
       have c32b1 : decide (t362 ≤ (a1.size : Int)) = true := decide_eq_true c32
       clear c32
       obtain ⟨ji33, hji33⟩ : ∃ j_ : Int, (wrap64 (t362 + 1)) = j_ := ⟨_, rfl⟩
       replace H : (if 0 ≤ (ji33) then (if (ji33) ≤ (a1.size : Int) then (if (a1.extract 0 (t362 : Int).toNat).size + (a1.extract ((ji33) : Int).toNat a1.size).size ≤ 9223372036854775807 then (some ((a1.extract 0 (t362 : Int).toNat) ++ (a1.extract ((ji33) : Int).toNat a1.size), t366, t367)) else (none)) else (none)) else (none)) = some (r1, r2, r3) := by first | (rw [hji33] at H; exact H) | (simp only [hji33] at H ⊢; exact H)
       (try rw [hji33] at A3)
       (try rw [hji33] at A4)
       have hji33w : (IntKind.i64.wrap (t362 + 1)) = ji33 := (i64_w _).trans hji33
       by_cases c34 : 0 ≤ (ji33)
       ·rw [if_pos c34] at H
        have c34b0 := eq_true c34
        have c34b1 : decide (0 ≤ (ji33)) = true := decide_eq_true c34
        clear c34
        by_cases c35 : (ji33) ≤ (a1.size : Int)
        ·rw [if_pos c35] at H
         have c35b0 := eq_true c35
         have c35b1 : decide ((ji33) ≤ (a1.size : Int)) = true := decide_eq_true c35
         clear c35
         by_cases c36 : (a1.extract 0 (t362 : Int).toNat).size + (a1.extract ((ji33) : Int).toNat a1.size).size ≤ 9223372036854775807
         ·rw [if_pos c36] at H
          have c36b0 := eq_true c36
          have c36b1 : decide ((a1.extract 0 (t362 : Int).toNat).size + (a1.extract ((ji33) : Int).toNat a1.size).size ≤ 9223372036854775807) = true := decide_eq_true c36
          try have c36b2 : (9223372036854775807 < (a1.extract 0 (t362 : Int).toNat).size + (a1.extract ((ji33) : Int).toNat a1.size).size) = False := eq_false (Nat.not_lt.2 c36)
          have c36b3 : (9223372036854775807 < (t362 : Int).toNat + (a1.size - ((ji33) : Int).toNat)) = False := eq_false (Nat.not_lt.2 (by have hE0_ : ((ji33) : Int) ≤ (a1.size : Int) := of_decide_eq_true (by assumption); have hE1_ : (t362 : Int) ≤ (a1.size : Int) := of_decide_eq_true (by assumption); have h_ := c36; simp only [ByteArray.size_append, ByteArray.size_extract] at h_; omega))
          simp only [Option.some.injEq, Prod.mk.injEq] at H
          obtain ⟨rfl, rfl, rfl⟩ := H
          go_enter Tryd.func21, Tryd.ntmps21
          try go_wp2_with (first | ((with_reducible refine gate_callee (f := 19) rfl ?_); refine gL_ (some 10) Tryd.func19 #[.pointer (some ⟨g, 0, none⟩), .int .i64 (wrap64 ((a1.size : Int) + 1))] ?_; (with_reducible refine (spec_l01Next.calls g s0_0 s0_1 s0_2 (wrap64 ((a1.size : Int) + 1)) t362 t363 t364 w0 _ ?side1 ?side2 A3.out).mono ?_); (case side1 => exact iS55_); (case side2 => exact bS55_); rintro e w37 ⟨rfl, hi, hb, hk⟩; refine ⟨_, rfl, ?_⟩; replace HK := Aside0.mk (KeepBut.trans kK_ hk (.inl rfl)); replace HB := Aside0.mk (hb); replace HI0 := Aside0.mk (hi); (try clear hb hk hi)) | ((with_reducible refine gate_callee (f := 19) rfl ?_); refine gL_ (some 12) Tryd.func19 #[.pointer (some ⟨g, 0, none⟩), .int .i64 8] ?_; (with_reducible refine (spec_l01Next.calls g s0_0 t363 t364 8 t365 t366 t367 w0 _ ?side1 ?side2 A4.out).mono ?_); (case side1 => exact iS55_); (case side2 => exact bS55_); rintro e w38 ⟨rfl, hi, hb, hk⟩; refine ⟨_, rfl, ?_⟩; replace HK := Aside0.mk (KeepBut.trans kK_ hk (.inl rfl)); replace HB := Aside0.mk (hb); replace HI0 := Aside0.mk (hi); (try clear hb hk hi)))
          replace HI0 := Aside0.mk (IsS55.drew HI0.out)
          replace HK := Aside0.mk (keep_drew HK.out)
          replace HB := Aside0.mk (below_drew1 HB.out)
          refine start_ (n := 9) (S := fun w' => True) (ds := []) #[F, F, F, F, F, F, F, F, F] (by kernel_rfl) rfl rfl trivial (fun hHeld => ?_); refine with_tabW spec_l01Damage.tab9 spec_l01Damage.bits9 (fun HT_ HW_ => ?_)
          generalize w38.drew = w39 at HI0 HK HB hHeld ⊢
          refine pu_ HT_ 0 (some 39) #[T,F,F,F,F,F,F,F,F] ?_
          refine pu_ HT_ 1 (some 40) #[T,T,F,F,F,F,F,F,F] ?_
          refine pu_ HT_ 2 (some 41) #[T,T,T,F,F,F,F,F,F] ?_
          refine pu_ HT_ 3 (some 42) #[T,T,T,T,F,F,F,F,F] ?_
          refine pu_ HT_ 4 (some 43) #[T,T,T,T,T,F,F,F,F] ?_
          refine pu_ HT_ 5 (some 44) #[T,T,T,T,T,T,F,F,F] ?_
          refine pu_ HT_ 6 (some 45) #[T,T,T,T,T,T,T,F,F] ?_
          refine pu_ HT_ 7 (some 46) #[T,T,T,T,T,T,T,T,F] ?_
          refine pu_ HT_ 8 (some 4) #[T,T,T,T,T,T,T,T,T] ?_
          refine done_ (done_of HT_.out (by kernel_rfl)) ?_
          try go_wp2
          go_ret
          exact ⟨by first | rfl | (simp [errW_none, errW_some] <;> rfl) | (simp only [← hji33]; first | rfl | (simp [errW_none, errW_some] <;> rfl)) | (simp [*, errW_none, errW_some] <;> rfl), iS55_, bS55_, kK_⟩
         ·rw [if_neg c36] at H
          exact absurd H (by simp)
        ·rw [if_neg c35] at H
         exact absurd H (by simp)
       ·rw [if_neg c34] at H
        exact absurd H (by simp)
      ·rw [if_neg c32] at H
       exact absurd H (by simp)
     ·rw [if_neg c31] at H
      exact absurd H (by simp)
    ·rw [if_neg c30] at H
     have c30b0 : decide (t362 < (a1.size : Int)) = false := decide_eq_false c30
     clear c30
     simp only [Option.some.injEq, Prod.mk.injEq] at H
     obtain ⟨rfl, rfl, rfl⟩ := H
     go_enter Tryd.func21, Tryd.ntmps21
     go_wp2_with (first | ((with_reducible refine gate_callee (f := 19) rfl ?_); refine gL_ (some 10) Tryd.func19 #[.pointer (some ⟨g, 0, none⟩), .int .i64 (wrap64 ((a1.size : Int) + 1))] ?_; (with_reducible refine (spec_l01Next.calls g s0_0 s0_1 s0_2 (wrap64 ((a1.size : Int) + 1)) t362 t363 t364 w0 _ ?side1 ?side2 A3.out).mono ?_); (case side1 => exact iS55_); (case side2 => exact bS55_); rintro e w40 ⟨rfl, hi, hb, hk⟩; refine ⟨_, rfl, ?_⟩; replace HK := Aside0.mk (KeepBut.trans kK_ hk (.inl rfl)); replace HB := Aside0.mk (hb); replace HI0 := Aside0.mk (hi); (try clear hb hk hi)) | ((with_reducible refine gate_callee (f := 19) rfl ?_); refine gL_ (some 12) Tryd.func19 #[.pointer (some ⟨g, 0, none⟩), .int .i64 8] ?_; (with_reducible refine (spec_l01Next.calls g s0_0 t363 t364 8 t365 t366 t367 w0 _ ?side1 ?side2 A4.out).mono ?_); (case side1 => exact iS55_); (case side2 => exact bS55_); rintro e w41 ⟨rfl, hi, hb, hk⟩; refine ⟨_, rfl, ?_⟩; replace HK := Aside0.mk (KeepBut.trans kK_ hk (.inl rfl)); replace HB := Aside0.mk (hb); replace HI0 := Aside0.mk (hi); (try clear hb hk hi)))
     go_ret
     exact ⟨r2_, iS55_, bS55_, kK_⟩
   ·rw [if_neg c29] at H
    have c29b0 : (t365 == 2) = false := beq_eq_false_iff_ne.mpr c29
    have c29b1 : (t365 != 2) = true := bne_iff_ne.mpr c29
    simp only [Option.some.injEq, Prod.mk.injEq] at H
    obtain ⟨rfl, rfl, rfl⟩ := H
    go_enter Tryd.func21, Tryd.ntmps21
    go_wp2_with (first | ((with_reducible refine gate_callee (f := 19) rfl ?_); refine gL_ (some 10) Tryd.func19 #[.pointer (some ⟨g, 0, none⟩), .int .i64 (wrap64 ((a1.size : Int) + 1))] ?_; (with_reducible refine (spec_l01Next.calls g s0_0 s0_1 s0_2 (wrap64 ((a1.size : Int) + 1)) t362 t363 t364 w0 _ ?side1 ?side2 A3.out).mono ?_); (case side1 => exact iS55_); (case side2 => exact bS55_); rintro e w42 ⟨rfl, hi, hb, hk⟩; refine ⟨_, rfl, ?_⟩; replace HK := Aside0.mk (KeepBut.trans kK_ hk (.inl rfl)); replace HB := Aside0.mk (hb); replace HI0 := Aside0.mk (hi); (try clear hb hk hi)) | ((with_reducible refine gate_callee (f := 19) rfl ?_); refine gL_ (some 12) Tryd.func19 #[.pointer (some ⟨g, 0, none⟩), .int .i64 8] ?_; (with_reducible refine (spec_l01Next.calls g s0_0 t363 t364 8 t365 t366 t367 w0 _ ?side1 ?side2 A4.out).mono ?_); (case side1 => exact iS55_); (case side2 => exact bS55_); rintro e w43 ⟨rfl, hi, hb, hk⟩; refine ⟨_, rfl, ?_⟩; replace HK := Aside0.mk (KeepBut.trans kK_ hk (.inl rfl)); replace HB := Aside0.mk (hb); replace HI0 := Aside0.mk (hi); (try clear hb hk hi)))
    go_ret
    exact ⟨r2_, iS55_, bS55_, kK_⟩

/-! ### spec_DrawReadShape: function 8 -/
def spec_DrawReadShape.f (k : Nat) (l0 : List Int) : Option (ByteArray) := (spec_l01From.f k l0).bind fun bt375 => ((spec_l01Next.f bt375.1 bt375.2.1 bt375.2.2 60).bind fun bt379 => (if bt379.1 = 0 then ((spec_l01Next.f bt375.1 bt379.2.1 bt379.2.2 2).bind fun bt382 => (if 0 ≤ (wrap64 (12000 + bt382.1)) then (if (wrap64 (12000 + bt382.1) : Int).toNat ≤ 281474976710656 then (some (strOfNums (List.replicate (wrap64 (12000 + bt382.1) : Int).toNat 0))) else (none)) else (none))) else ((spec_l02DrawPoly.f k bt375.1 bt379.2.1 bt379.2.2 8).bind fun bt388 => ((spec_l04Text.f k bt388.1).bind fun t393 => ((spec_l01Next.f bt375.1 bt388.2.1 bt388.2.2 3).bind fun bt394 => (if bt394.1 = 0 then ((spec_l01Damage.f bt375.1 bt394.2.1 bt394.2.2 t393).bind fun bt397 => (some bt397.1)) else (some t393)))))))
theorem spec_DrawReadShape.mono : ∀ a0 k, LeO (spec_DrawReadShape.f k a0) (spec_DrawReadShape.f (k + 1) a0) := by
 intro a0 k
 unfold spec_DrawReadShape.f
 repeat' first
   | (with_reducible exact spec_l01From.mono _ _)
   | (with_reducible exact spec_l02DrawPoly.mono _ _ _ _ _)
   | (with_reducible exact spec_l04Text.mono _ _)
   | (with_reducible exact LeO.refl _)
   | (with_reducible exact LeO.none _)
   | (with_reducible refine LeO.ite ?_ ?_)
   | (with_reducible refine LeO.bind ?_ (fun _ => ?_))
   | exact spec_l01From.mono _ _
   | exact spec_l02DrawPoly.mono _ _ _ _ _
   | exact spec_l04Text.mono _ _
   | exact LeO.none _
   | refine LeO.ite ?_ ?_
   | refine LeO.bind ?_ (fun _ => ?_)
set_option maxHeartbeats 8000000 in
set_option maxRecDepth 100000 in
theorem spec_DrawReadShape.calls (k : Nat) (A0 : Option Addr) (c0 : Nat) (l0 : List Int) (r : ByteArray) (w : World) (hr0 : Kd.C (Kd.int .u8) w A0 l0.length l0) (hc0 : l0.length ≤ c0) (h : spec_DrawReadShape.f k l0 = some r) :
  Calls Tryd.prog 8 #[.slice A0 l0.length c0] w fun e w' => e = .returned (.string r) ∧ Below w.heap.size w w' := by
 have HR0 := Aside0.mk hr0
 have HC0 := Aside0.mk hc0
 clear hr0 hc0
 have HB := Aside0.mk (Below.refl w.heap.size w)
 have H : ((spec_l01From.f k l0).bind fun bt375 => ((spec_l01Next.f bt375.1 bt375.2.1 bt375.2.2 60).bind fun bt379 => (if bt379.1 = 0 then ((spec_l01Next.f bt375.1 bt379.2.1 bt379.2.2 2).bind fun bt382 => (if 0 ≤ (wrap64 (12000 + bt382.1)) then (if (wrap64 (12000 + bt382.1) : Int).toNat ≤ 281474976710656 then (some (strOfNums (List.replicate (wrap64 (12000 + bt382.1) : Int).toNat 0))) else (none)) else (none))) else ((spec_l02DrawPoly.f k bt375.1 bt379.2.1 bt379.2.2 8).bind fun bt388 => ((spec_l04Text.f k bt388.1).bind fun t393 => ((spec_l01Next.f bt375.1 bt388.2.1 bt388.2.2 3).bind fun bt394 => (if bt394.1 = 0 then ((spec_l01Damage.f bt375.1 bt394.2.1 bt394.2.2 t393).bind fun bt397 => (some bt397.1)) else (some t393)))))))) = some r := h
 clear h
 replace H := Option.bind_eq_some_iff.mp H
 obtain ⟨⟨t375, t376, t377⟩, A20, H⟩ := H
 try dsimp only at H
 have A2 := Aside0.mk A20
 clear A20
 replace H := Option.bind_eq_some_iff.mp H
 obtain ⟨⟨t379, t380, t381⟩, A30, H⟩ := H
 try dsimp only at H
 have A3 := Aside0.mk A30
 clear A30
 by_cases c4 : t379 = 0
 ·rw [if_pos c4] at H
  have c4b0 : (t379 == 0) = true := beq_iff_eq.mpr c4
  have c4b1 : (t379 != 0) = false := bne_eq_false_iff_eq.mpr c4
  clear c4
  replace H := Option.bind_eq_some_iff.mp H
  obtain ⟨⟨t382, t383, t384⟩, A50, H⟩ := H
  try dsimp only at H
  have A5 := Aside0.mk A50
  clear A50
  obtain ⟨ji6, hji6⟩ : ∃ j_ : Int, (wrap64 (12000 + t382)) = j_ := ⟨_, rfl⟩
  replace H : (if 0 ≤ (ji6) then (if (ji6 : Int).toNat ≤ 281474976710656 then (some (strOfNums (List.replicate (ji6 : Int).toNat 0))) else (none)) else (none)) = some r := by first | (rw [hji6] at H; exact H) | (simp only [hji6] at H ⊢; exact H)
  (try rw [hji6] at A2)
  (try rw [hji6] at A3)
  (try rw [hji6] at A5)
  have hji6w : (IntKind.i64.wrap (12000 + t382)) = ji6 := (i64_w _).trans hji6
  by_cases c7 : 0 ≤ (ji6)
  ·rw [if_pos c7] at H
   have c7b0 := eq_true c7
   have c7b1 : decide (0 ≤ (ji6)) = true := decide_eq_true c7
   clear c7
   by_cases c8 : (ji6 : Int).toNat ≤ 281474976710656
   ·rw [if_pos c8] at H
    have c8b0 := eq_true c8
    have c8b1 : decide ((ji6 : Int).toNat ≤ 281474976710656) = true := decide_eq_true c8
    clear c8
    obtain ⟨y385, hY_⟩ : ∃ y_ : List Int, y_ = (List.replicate (ji6 : Int).toNat 0) := ⟨_, rfl⟩
    replace H : (some (strOfNums y385)) = some r := yY_
    have Ny385 := Aside0.mk hY_
    clear hY_
    obtain rfl := Option.some.inj H
    go_enter Tryd.func8, Tryd.ntmps8
    go_wp2_with (first | ((with_reducible refine gate_callee (f := 18) rfl ?_); refine gL_ (some 6) Tryd.func18 #[.slice A0 l0.length c0] ?_; (with_reducible refine (spec_l01From.calls k _ _ l0 t375 t376 t377 w _ ?side1 ?side2 ?side3 A2.out).mono ?_); (case side1 => repeat (first | (with_reducible first | exact HB.out | apply below_alloc | apply pw_below_drewN | apply below_drew1) | exact HB.out)); (case side2 => exact HR0.out); (case side3 => exact HC0.out); rintro e w9 ⟨g378, rfl, hi, hb, hb2⟩; refine ⟨_, rfl, ?_⟩; replace HB := Aside0.mk (hb); have HI378 := Aside0.mk (hi); (try clear hb hb2 hi)) | ((with_reducible refine gate_callee (f := 19) rfl ?_); refine gL_ (some 8) Tryd.func19 #[.pointer (some ⟨g378, 0, none⟩), .int .i64 60] ?_; (with_reducible refine (spec_l01Next.calls g378 t375 t376 t377 60 t379 t380 t381 w _ ?side1 ?side2 A3.out).mono ?_); (case side1 => repeat (first | (with_reducible first | exact HI378.out | apply IsS55.alloc | apply IsS55.drewN | apply IsS55.drew | apply IsS55.set_1 | apply IsS55.set_2) | exact HI378.out)); (case side2 => repeat (first | (with_reducible first | exact HB.out | apply below_alloc | apply pw_below_drewN | apply below_drew1 | refine below_set ?_ (IsS55.ge HI378.out)) | exact HB.out)); rintro e w10 ⟨rfl, hi, hb, hk⟩; refine ⟨_, rfl, ?_⟩; replace HB := Aside0.mk (hb); replace HI378 := Aside0.mk (hi); (try clear hb hk hi)) | ((with_reducible refine gate_callee (f := 19) rfl ?_); refine gL_ (some 11) Tryd.func19 #[.pointer (some ⟨g378, 0, none⟩), .int .i64 2] ?_; (with_reducible refine (spec_l01Next.calls g378 t375 t380 t381 2 t382 t383 t384 w _ ?side1 ?side2 A5.out).mono ?_); (case side1 => repeat (first | (with_reducible first | exact HI378.out | apply IsS55.alloc | apply IsS55.drewN | apply IsS55.drew | apply IsS55.set_1 | apply IsS55.set_2) | exact HI378.out)); (case side2 => repeat (first | (with_reducible first | exact HB.out | apply below_alloc | apply pw_below_drewN | apply below_drew1 | refine below_set ?_ (IsS55.ge HI378.out)) | exact HB.out)); rintro e w11 ⟨rfl, hi, hb, hk⟩; refine ⟨_, rfl, ?_⟩; replace HB := Aside0.mk (hb); replace HI378 := Aside0.mk (hi); (try clear hb hk hi)) | ((with_reducible refine gate_dst (N := 13) rfl ?_); refine Kd.R_make (Kd.int .u8) _ 5 rfl (N := 13) rfl 22 _ _ rfl ji6 rfl rfl Tryd.underlying22 (.int .u8 0) 1 info5 rfl (by decide) (by omega) 0 (ok := fun _ => True) (okp := fun _ => True) rfl (fun _ hk => hk) trivial (of_decide_eq_true aS_) (Nat.le_trans (Nat.mul_le_mul_right _ (of_decide_eq_true aS_ : ji6.toNat ≤ 281474976710656)) (by omega)) (Below.refl _ _) (Nat.le_refl _) ?_; intro v386 w12 ho13 hb hg_ hnew_; clear hg_ hnew_; (first | rw [← Ny385.out] at ho13 | (simp only [Int.reduceToNat] at ho13; rw [← Ny385.out] at ho13)); have HO387 := Aside0.mk (Kd.R_lower ho13 (below_size (by repeat (first | (with_reducible first | exact HB.out | apply below_alloc | apply pw_below_drewN | apply below_drew1 | refine below_set ?_ (IsS55.ge HI378.out)) | exact HB.out)))); replace HB := Aside0.mk (below_step (by repeat (first | (with_reducible first | exact HB.out | apply below_alloc | apply pw_below_drewN | apply below_drew1 | refine below_set ?_ (IsS55.ge HI378.out)) | exact HB.out)) hb); replace HI378 := Aside0.mk (IsS55.below (by repeat (first | (with_reducible first | exact HI378.out | apply IsS55.alloc | apply IsS55.drewN | apply IsS55.drew | apply IsS55.set_1 | apply IsS55.set_2) | exact HI378.out)) hb); clear hb ho13; have hcv14 := own_string (P := Tryd.prog) Tryd.underlying22 Tryd.underlying5 Tryd.underlying9 (Kd.own_of_R HO387.out)))
    go_ret
    exact ⟨by first | rfl | (simp [errW_none, errW_some] <;> rfl) | (simp only [← hji6]; first | rfl | (simp [errW_none, errW_some] <;> rfl)) | (simp [*, errW_none, errW_some] <;> rfl), by repeat (first | (with_reducible first | exact HB.out | apply below_alloc | apply pw_below_drewN | apply below_drew1 | refine below_set ?_ (IsS55.ge HI378.out)) | exact HB.out)⟩
   ·rw [if_neg c8] at H
    exact absurd H (by simp)
  ·rw [if_neg c7] at H
   exact absurd H (by simp)
 ·rw [if_neg c4] at H
  have c4b0 : (t379 == 0) = false := beq_eq_false_iff_ne.mpr c4
  have c4b1 : (t379 != 0) = true := bne_iff_ne.mpr c4
  replace H := Option.bind_eq_some_iff.mp H
  obtain ⟨⟨t388, t391, t392⟩, A150, H⟩ := H
  try dsimp only at H
  have A15 := Aside0.mk A150
  clear A150
  replace H := Option.bind_eq_some_iff.mp H
  obtain ⟨t393, A160, H⟩ := H
  try dsimp only at H
  have A16 := Aside0.mk A160
  clear A160
  replace H := Option.bind_eq_some_iff.mp H
  obtain ⟨⟨t394, t395, t396⟩, A170, H⟩ := H
  try dsimp only at H
  have A17 := Aside0.mk A170
  clear A170
  by_cases c18 : t394 = 0
  ·rw [if_pos c18] at H
   have c18b0 : (t394 == 0) = true := beq_iff_eq.mpr c18
   have c18b1 : (t394 != 0) = false := bne_eq_false_iff_eq.mpr c18
   clear c18
   replace H := Option.bind_eq_some_iff.mp H
   obtain ⟨⟨t397, t398, t399⟩, A190, H⟩ := H
   try dsimp only at H
   have A19 := Aside0.mk A190
   clear A190
   obtain rfl := Option.some.inj H
   go_enter Tryd.func8, Tryd.ntmps8
   go_wp2_with (first | ((with_reducible refine gate_callee (f := 18) rfl ?_); refine gL_ (some 6) Tryd.func18 #[.slice A0 l0.length c0] ?_; (with_reducible refine (spec_l01From.calls k _ _ l0 t375 t376 t377 w _ ?side1 ?side2 ?side3 A2.out).mono ?_); (case side1 => repeat (first | (with_reducible first | exact HB.out | apply below_alloc | apply pw_below_drewN | apply below_drew1) | exact HB.out)); (case side2 => exact HR0.out); (case side3 => exact HC0.out); rintro e w20 ⟨g378, rfl, hi, hb, hb2⟩; refine ⟨_, rfl, ?_⟩; replace HB := Aside0.mk (hb); have HI378 := Aside0.mk (hi); (try clear hb hb2 hi)) | ((with_reducible refine gate_callee (f := 19) rfl ?_); refine gL_ (some 8) Tryd.func19 #[.pointer (some ⟨g378, 0, none⟩), .int .i64 60] ?_; (with_reducible refine (spec_l01Next.calls g378 t375 t376 t377 60 t379 t380 t381 w _ ?side1 ?side2 A3.out).mono ?_); (case side1 => repeat (first | (with_reducible first | exact HI378.out | apply IsS55.alloc | apply IsS55.drewN | apply IsS55.drew | apply IsS55.set_1 | apply IsS55.set_2) | exact HI378.out)); (case side2 => repeat (first | (with_reducible first | exact HB.out | apply below_alloc | apply pw_below_drewN | apply below_drew1 | refine below_set ?_ (IsS55.ge HI378.out)) | exact HB.out)); rintro e w21 ⟨rfl, hi, hb, hk⟩; refine ⟨_, rfl, ?_⟩; replace HB := Aside0.mk (hb); replace HI378 := Aside0.mk (hi); (try clear hb hk hi)) | ((with_reducible refine gate_callee (f := 20) rfl ?_); refine gL_ (some 16) Tryd.func20 #[.pointer (some ⟨g378, 0, none⟩), .int .i64 8] ?_; (with_reducible refine (spec_l02DrawPoly.calls k g378 t375 t380 t381 8 t388 t391 t392 w _ ?side1 ?side2 A15.out).mono ?_); (case side1 => repeat (first | (with_reducible first | exact HI378.out | apply IsS55.alloc | apply IsS55.drewN | apply IsS55.drew | apply IsS55.set_1 | apply IsS55.set_2) | exact HI378.out)); (case side2 => repeat (first | (with_reducible first | exact HB.out | apply below_alloc | apply pw_below_drewN | apply below_drew1 | refine below_set ?_ (IsS55.ge HI378.out)) | exact HB.out)); rintro e w22 ⟨v389, rfl, ho0, hi, hb, hk⟩; refine ⟨_, rfl, ?_⟩; have HO390 := Aside0.mk (Kd.R_lower ho0 (below_size (by repeat (first | (with_reducible first | exact HB.out | apply below_alloc | apply pw_below_drewN | apply below_drew1 | refine below_set ?_ (IsS55.ge HI378.out)) | exact HB.out)))); replace HB := Aside0.mk (hb); replace HI378 := Aside0.mk (hi); (try clear hb hk hi ho0); obtain ⟨Ao23, co23, eo23⟩ := Kd.R_slice HO390.out; subst eo23) | ((with_reducible refine gate_callee (f := 17) rfl ?_); refine gL_ (some 17) Tryd.func17 #[.slice Ao23 t388.length co23] ?_; (with_reducible refine (spec_l04Text.calls k _ _ t388 t393 _ ?side1 ?side2 A16.out).mono ?_); (case side1 => exact cS_ ((Kd.R_reads' HO390.out).2.2)); (case side2 => exact (Kd.R_reads' HO390.out).2.1); rintro e w24 ⟨rfl, hb⟩; refine ⟨_, rfl, ?_⟩; replace HO390 := Aside0.mk (Kd.R_below (rS_ HO390.out) hb); replace HB := Aside0.mk (below_step (by repeat (first | (with_reducible first | exact HB.out | apply below_alloc | apply pw_below_drewN | apply below_drew1 | refine below_set ?_ (IsS55.ge HI378.out)) | exact HB.out)) hb); replace HI378 := Aside0.mk (IsS55.below (by repeat (first | (with_reducible first | exact HI378.out | apply IsS55.alloc | apply IsS55.drewN | apply IsS55.drew | apply IsS55.set_1 | apply IsS55.set_2) | exact HI378.out)) hb); (try clear hb)) | ((with_reducible refine gate_callee (f := 19) rfl ?_); refine gL_ (some 19) Tryd.func19 #[.pointer (some ⟨g378, 0, none⟩), .int .i64 3] ?_; (with_reducible refine (spec_l01Next.calls g378 t375 t391 t392 3 t394 t395 t396 w _ ?side1 ?side2 A17.out).mono ?_); (case side1 => repeat (first | (with_reducible first | exact HI378.out | apply IsS55.alloc | apply IsS55.drewN | apply IsS55.drew | apply IsS55.set_1 | apply IsS55.set_2) | exact HI378.out)); (case side2 => repeat (first | (with_reducible first | exact HB.out | apply below_alloc | apply pw_below_drewN | apply below_drew1 | refine below_set ?_ (IsS55.ge HI378.out)) | exact HB.out)); rintro e w25 ⟨rfl, hi, hb, hk⟩; refine ⟨_, rfl, ?_⟩; replace HO390 := Aside0.mk (Kd.R_mono (Kd.R_keep (IsS55.apart (show IsS55 w _ g378 t375 t391 t392 from by repeat (first | (with_reducible first | exact HI378.out | apply IsS55.alloc | apply IsS55.drewN | apply IsS55.drew | apply IsS55.set_1 | apply IsS55.set_2) | exact HI378.out)) (rS_ HO390.out) (by decide)) hk (fun _ h => h.2)) (fun _ h => h.1)); replace HB := Aside0.mk (hb); replace HI378 := Aside0.mk (hi); (try clear hb hk hi)) | ((with_reducible refine gate_callee (f := 21) rfl ?_); refine gL_ (some 23) Tryd.func21 #[.pointer (some ⟨g378, 0, none⟩), .string t393] ?_; (with_reducible refine (spec_l01Damage.calls g378 t375 t395 t396 t393 t397 t398 t399 w _ ?side1 ?side2 A19.out).mono ?_); (case side1 => repeat (first | (with_reducible first | exact HI378.out | apply IsS55.alloc | apply IsS55.drewN | apply IsS55.drew | apply IsS55.set_1 | apply IsS55.set_2) | exact HI378.out)); (case side2 => repeat (first | (with_reducible first | exact HB.out | apply below_alloc | apply pw_below_drewN | apply below_drew1 | refine below_set ?_ (IsS55.ge HI378.out)) | exact HB.out)); rintro e w26 ⟨rfl, hi, hb, hk⟩; refine ⟨_, rfl, ?_⟩; replace HO390 := Aside0.mk (Kd.R_mono (Kd.R_keep (IsS55.apart (show IsS55 w _ g378 t375 t395 t396 from by repeat (first | (with_reducible first | exact HI378.out | apply IsS55.alloc | apply IsS55.drewN | apply IsS55.drew | apply IsS55.set_1 | apply IsS55.set_2) | exact HI378.out)) (rS_ HO390.out) (by decide)) hk (fun _ h => h.2)) (fun _ h => h.1)); replace HB := Aside0.mk (hb); replace HI378 := Aside0.mk (hi); (try clear hb hk hi)))
   go_ret
   exact ⟨r2_, by repeat (first | (with_reducible first | exact HB.out | apply below_alloc | apply pw_below_drewN | apply below_drew1 | refine below_set ?_ (IsS55.ge HI378.out)) | exact HB.out)⟩
  ·rw [if_neg c18] at H
   have c18b0 : (t394 == 0) = false := beq_eq_false_iff_ne.mpr c18
   have c18b1 : (t394 != 0) = true := bne_iff_ne.mpr c18
   obtain rfl := Option.some.inj H
   go_enter Tryd.func8, Tryd.ntmps8
   go_wp2_with (first | ((with_reducible refine gate_callee (f := 18) rfl ?_); refine gL_ (some 6) Tryd.func18 #[.slice A0 l0.length c0] ?_; (with_reducible refine (spec_l01From.calls k _ _ l0 t375 t376 t377 w _ ?side1 ?side2 ?side3 A2.out).mono ?_); (case side1 => repeat (first | (with_reducible first | exact HB.out | apply below_alloc | apply pw_below_drewN | apply below_drew1) | exact HB.out)); (case side2 => exact HR0.out); (case side3 => exact HC0.out); rintro e w27 ⟨g378, rfl, hi, hb, hb2⟩; refine ⟨_, rfl, ?_⟩; replace HB := Aside0.mk (hb); have HI378 := Aside0.mk (hi); (try clear hb hb2 hi)) | ((with_reducible refine gate_callee (f := 19) rfl ?_); refine gL_ (some 8) Tryd.func19 #[.pointer (some ⟨g378, 0, none⟩), .int .i64 60] ?_; (with_reducible refine (spec_l01Next.calls g378 t375 t376 t377 60 t379 t380 t381 w _ ?side1 ?side2 A3.out).mono ?_); (case side1 => repeat (first | (with_reducible first | exact HI378.out | apply IsS55.alloc | apply IsS55.drewN | apply IsS55.drew | apply IsS55.set_1 | apply IsS55.set_2) | exact HI378.out)); (case side2 => repeat (first | (with_reducible first | exact HB.out | apply below_alloc | apply pw_below_drewN | apply below_drew1 | refine below_set ?_ (IsS55.ge HI378.out)) | exact HB.out)); rintro e w28 ⟨rfl, hi, hb, hk⟩; refine ⟨_, rfl, ?_⟩; replace HB := Aside0.mk (hb); replace HI378 := Aside0.mk (hi); (try clear hb hk hi)) | ((with_reducible refine gate_callee (f := 20) rfl ?_); refine gL_ (some 16) Tryd.func20 #[.pointer (some ⟨g378, 0, none⟩), .int .i64 8] ?_; (with_reducible refine (spec_l02DrawPoly.calls k g378 t375 t380 t381 8 t388 t391 t392 w _ ?side1 ?side2 A15.out).mono ?_); (case side1 => repeat (first | (with_reducible first | exact HI378.out | apply IsS55.alloc | apply IsS55.drewN | apply IsS55.drew | apply IsS55.set_1 | apply IsS55.set_2) | exact HI378.out)); (case side2 => repeat (first | (with_reducible first | exact HB.out | apply below_alloc | apply pw_below_drewN | apply below_drew1 | refine below_set ?_ (IsS55.ge HI378.out)) | exact HB.out)); rintro e w29 ⟨v389, rfl, ho0, hi, hb, hk⟩; refine ⟨_, rfl, ?_⟩; have HO390 := Aside0.mk (Kd.R_lower ho0 (below_size (by repeat (first | (with_reducible first | exact HB.out | apply below_alloc | apply pw_below_drewN | apply below_drew1 | refine below_set ?_ (IsS55.ge HI378.out)) | exact HB.out)))); replace HB := Aside0.mk (hb); replace HI378 := Aside0.mk (hi); (try clear hb hk hi ho0); obtain ⟨Ao30, co30, eo30⟩ := Kd.R_slice HO390.out; subst eo30) | ((with_reducible refine gate_callee (f := 17) rfl ?_); refine gL_ (some 17) Tryd.func17 #[.slice Ao30 t388.length co30] ?_; (with_reducible refine (spec_l04Text.calls k _ _ t388 t393 _ ?side1 ?side2 A16.out).mono ?_); (case side1 => exact cS_ ((Kd.R_reads' HO390.out).2.2)); (case side2 => exact (Kd.R_reads' HO390.out).2.1); rintro e w31 ⟨rfl, hb⟩; refine ⟨_, rfl, ?_⟩; replace HO390 := Aside0.mk (Kd.R_below (rS_ HO390.out) hb); replace HB := Aside0.mk (below_step (by repeat (first | (with_reducible first | exact HB.out | apply below_alloc | apply pw_below_drewN | apply below_drew1 | refine below_set ?_ (IsS55.ge HI378.out)) | exact HB.out)) hb); replace HI378 := Aside0.mk (IsS55.below (by repeat (first | (with_reducible first | exact HI378.out | apply IsS55.alloc | apply IsS55.drewN | apply IsS55.drew | apply IsS55.set_1 | apply IsS55.set_2) | exact HI378.out)) hb); (try clear hb)) | ((with_reducible refine gate_callee (f := 19) rfl ?_); refine gL_ (some 19) Tryd.func19 #[.pointer (some ⟨g378, 0, none⟩), .int .i64 3] ?_; (with_reducible refine (spec_l01Next.calls g378 t375 t391 t392 3 t394 t395 t396 w _ ?side1 ?side2 A17.out).mono ?_); (case side1 => repeat (first | (with_reducible first | exact HI378.out | apply IsS55.alloc | apply IsS55.drewN | apply IsS55.drew | apply IsS55.set_1 | apply IsS55.set_2) | exact HI378.out)); (case side2 => repeat (first | (with_reducible first | exact HB.out | apply below_alloc | apply pw_below_drewN | apply below_drew1 | refine below_set ?_ (IsS55.ge HI378.out)) | exact HB.out)); rintro e w32 ⟨rfl, hi, hb, hk⟩; refine ⟨_, rfl, ?_⟩; replace HO390 := Aside0.mk (Kd.R_mono (Kd.R_keep (IsS55.apart (show IsS55 w _ g378 t375 t391 t392 from by repeat (first | (with_reducible first | exact HI378.out | apply IsS55.alloc | apply IsS55.drewN | apply IsS55.drew | apply IsS55.set_1 | apply IsS55.set_2) | exact HI378.out)) (rS_ HO390.out) (by decide)) hk (fun _ h => h.2)) (fun _ h => h.1)); replace HB := Aside0.mk (hb); replace HI378 := Aside0.mk (hi); (try clear hb hk hi)))
   go_ret
   exact ⟨r2_, by repeat (first | (with_reducible first | exact HB.out | apply below_alloc | apply pw_below_drewN | apply below_drew1 | refine below_set ?_ (IsS55.ge HI378.out)) | exact HB.out)⟩

/-! ### strings_Split: function 22, by hand -/
-- COMMONS none
-- IMPORT Derived.Shelf.Strings.Split
def laySplit__ren : Go.Shelf.Ren := ⟨fun | 146 => 22 | 221 => 35 | 268 => 53 | 138 => 54 | 143 => 55 | 195 => 63 | 197 => 64 | 218 => 65 | 219 => 66 | 260 => 70 | 217 => 71 | 225 => 72 | 224 => 73 | 267 => 74 | 266 => 75 | 314 => 76 | n => n, fun | 9 => 9 | 31 => 40 | 3 => 3 | 4 => 4 | 0 => 0 | 105 => 91 | 21 => 21 | 5 => 5 | 46 => 65 | 119 => 98 | 139 => 101 | 138 => 100 | 146 => 84 | 51 => 83 | n => n, fun | 1 => 0 | 3 => 1 | 4 => 2 | n => n⟩
theorem laySplit_ : Go.Proofs.Lays.n146 Tryd.prog laySplit__ren := {
 mixed := by kernel_rfl,
 f138 := Tryd.func54.trans (congrArg some (by kernel_rfl)),
 f143 := Tryd.func55.trans (congrArg some (by kernel_rfl)),
 f146 := Tryd.func22.trans (congrArg some (by kernel_rfl)),
 f195 := Tryd.func63.trans (congrArg some (by kernel_rfl)),
 f197 := Tryd.func64.trans (congrArg some (by kernel_rfl)),
 f217 := Tryd.func71.trans (congrArg some (by kernel_rfl)),
 f218 := Tryd.func65.trans (congrArg some (by kernel_rfl)),
 f219 := Tryd.func66.trans (congrArg some (by kernel_rfl)),
 f221 := Tryd.func35.trans (congrArg some (by kernel_rfl)),
 f224 := Tryd.func73.trans (congrArg some (by kernel_rfl)),
 f225 := Tryd.func72.trans (congrArg some (by kernel_rfl)),
 f260 := Tryd.func70.trans (congrArg some (by kernel_rfl)),
 f266 := Tryd.func75.trans (congrArg some (by kernel_rfl)),
 f267 := Tryd.func74.trans (congrArg some (by kernel_rfl)),
 f268 := Tryd.func53.trans (congrArg some (by kernel_rfl)),
 f314 := Tryd.func76.trans (congrArg some (by kernel_rfl)),
 t0 := Tryd.underlying0,
 a0 := Tryd.isAgg0,
 z0 := Tryd.sizeOf0,
 v0 := Tryd.zeroValue0,
 t3 := Tryd.underlying3,
 a3 := Tryd.isAgg3,
 z3 := Tryd.sizeOf3,
 v3 := Tryd.zeroValue3,
 t4 := Tryd.underlying4,
 a4 := Tryd.isAgg4,
 z4 := Tryd.sizeOf4,
 v4 := Tryd.zeroValue4,
 t5 := Tryd.underlying5,
 a5 := Tryd.isAgg5,
 z5 := Tryd.sizeOf5,
 v5 := Tryd.zeroValue5,
 t9 := Tryd.underlying9,
 a9 := Tryd.isAgg9,
 z9 := Tryd.sizeOf9,
 v9 := Tryd.zeroValue9,
 t21 := Tryd.underlying21,
 a21 := Tryd.isAgg21,
 z21 := Tryd.sizeOf21,
 v21 := Tryd.zeroValue21,
 t31 := Tryd.underlying40,
 a31 := Tryd.isAgg40,
 z31 := Tryd.sizeOf40,
 v31 := Tryd.zeroValue40,
 t46 := Tryd.underlying65,
 a46 := Tryd.isAgg65,
 z46 := Tryd.sizeOf65,
 v46 := Tryd.zeroValue65,
 t51 := Tryd.underlying83,
 a51 := Tryd.isAgg83,
 z51 := Tryd.sizeOf83,
 v51 := Tryd.zeroValue83,
 t105 := Tryd.underlying91,
 a105 := Tryd.isAgg91,
 z105 := Tryd.sizeOf91,
 v105 := Tryd.zeroValue91,
 t119 := Tryd.underlying98,
 a119 := Tryd.isAgg98,
 z119 := Tryd.sizeOf98,
 t138 := Tryd.underlying100,
 a138 := Tryd.isAgg100,
 z138 := Tryd.sizeOf100,
 v138 := Tryd.zeroValue100,
 t139 := Tryd.underlying101,
 a139 := Tryd.isAgg101,
 z139 := Tryd.sizeOf101,
 v139 := Tryd.zeroValue101,
 t146 := Tryd.underlying84,
 a146 := Tryd.isAgg84,
 z146 := Tryd.sizeOf84,
 v146 := Tryd.zeroValue84,
 g1 := by kernel_rfl,
 g3 := by kernel_rfl,
 g4 := by kernel_rfl }
/-- the pieces of s between slashes -/
def splitSl_ (s : ByteArray) : List ByteArray := Lib.splitB ⟨#[47]⟩ 0 (Lib.countB s ⟨#[47]⟩) s
set_option maxHeartbeats 2000000 in
set_option maxRecDepth 100000 in
theorem split_one_ (s : ByteArray) (w : World) (hs : s.size < 4294967281) :
  Calls Tryd.prog 22 #[.string s, .string ⟨#[47]⟩] w fun e w' => e = .returned (.slice (some ⟨w.heap.size, 0, none⟩) (Lib.countB s ⟨#[47]⟩ + 1) (Lib.countB s ⟨#[47]⟩ + 1)) ∧ w' = w.alloc (.cells ((splitSl_ s).map Value.string).toArray 9) := by
 have L := laySplit_
 have h1 : 1 ≤ (⟨#[47]⟩ : ByteArray).size := Nat.le_refl 1
 have hle := Lib.countB_le ⟨#[47]⟩ h1 s.size s (Nat.le_refl _)
 have hlen := Lib.splitB_all ⟨#[47]⟩ h1 0 _ s rfl
 have hC : Calls Tryd.prog (laySplit__ren.f 138) #[.string s, .string ⟨#[47]⟩] w fun e w' => e = .returned (.int .i64 (Lib.countB s ⟨#[47]⟩)) ∧ w' = w := by
  refine (Any.strings_Count_one { L with } s 47 w).mono fun e w' ⟨he, hw⟩ => ⟨?_, hw⟩
  rw [he]
  show _ = Ending.returned (Value.int .i64 ((Lib.count s.data.toList [47] : Nat) : Int))
  rw [Lib.count_one]
  rfl
 have c := Any.strings_genSplit_core { L with } (by kernel_rfl) s ⟨#[47]⟩ 0 (-1) (Lib.countB s ⟨#[47]⟩ + 1) w hs h1 (Nat.zero_le _)
  (fun x c hx => (Any.strings_Index_one { L with } x 47 _).mono fun e w' ⟨he, hw⟩ => ⟨by rw [he]; show _ = Ending.returned (Value.int .i64 (Lib.index x.data.toList [47])); rw [Lib.index_one], hw⟩)
  hC (by decide) (by decide) (by rw [if_pos (by decide)]; omega)
 rw [Nat.add_sub_cancel, hlen] at c
 have e2 : Lib.cellsOf (Lib.splitB ⟨#[47]⟩ 0 (Lib.countB s ⟨#[47]⟩) s) (Lib.countB s ⟨#[47]⟩ + 1) = ((splitSl_ s).map Value.string).toArray := by rw [← hlen]; exact Lib.cellsOf_full _
 rw [e2] at c
 have c2 : Calls Tryd.prog 35 #[.string s, .string ⟨#[47]⟩, .int .i64 0, .int .i64 (-1)] w fun e w' => e = .returned (.slice (some ⟨w.heap.size, 0, none⟩) (Lib.countB s ⟨#[47]⟩ + 1) (Lib.countB s ⟨#[47]⟩ + 1)) ∧ w' = w.alloc (.cells ((splitSl_ s).map Value.string).toArray 9) := c
 have HC := Aside0.mk c2
 clear c c2 hC e2 hle hlen h1 L
 go_enter Tryd.func22, Tryd.ntmps22
 go_wp2_with fail
 refine HC.out.mono ?_
 rintro e w' ⟨rfl, hw⟩
 rw [hw]
 clear HC hw
 go_wp2_with fail
 go_ret
 exact ⟨rfl, rfl⟩
def strings_Split.f (l0 l1 : ByteArray) : Option (List ByteArray) := if l1.data.toList = [47] ∧ l0.size < 4294967281 then some (splitSl_ l0) else none
theorem strings_Split.calls (l0 l1 : ByteArray) (r : List ByteArray) (w : World) (h : strings_Split.f l0 l1 = some r) :
  Calls Tryd.prog 22 #[.string l0, .string l1] w fun e w' => ∃ v0_ : Value, e = .returned (v0_) ∧ Kd.R Kd.string 9 w' w.heap.size (fun _ => True) v0_ r ∧ Below w.heap.size w w' := by
 unfold strings_Split.f at h
 by_cases c : l1.data.toList = [47] ∧ l0.size < 4294967281
 ·rw [if_pos c] at h
  obtain rfl := Option.some.inj h
  obtain rfl : l1 = ⟨#[47]⟩ := ByteArray.ext (Array.toList_inj.1 c.1)
  refine (split_one_ l0 w c.2).mono ?_
  rintro e w' ⟨rfl, rfl⟩
  have hlen : (splitSl_ l0).length = Lib.countB l0 ⟨#[47]⟩ + 1 := Lib.splitB_all ⟨#[47]⟩ (Nat.le_refl 1) 0 _ l0 rfl
  have hle := Lib.countB_le ⟨#[47]⟩ (Nat.le_refl 1) l0.size l0 (Nat.le_refl _)
  refine ⟨_, rfl, ⟨fun _ _ => trivial, ?_⟩, below_alloc (Below.refl _ _) _⟩
  rw [← hlen]
  exact OwnRow.lit w w.heap.size (inner := (splitSl_ l0).map Value.string) ⟨by rw [List.length_map]; exact (Nat.mul_one _).symm, fun j p hj => by
   show ((List.map Value.string (splitSl_ l0)).drop (j * 1)).take 1 = [Value.string p]
   rw [Nat.mul_one, List.drop_eq_getElem_cons (by rw [List.length_map]; exact (List.getElem?_eq_some_iff.1 hj).1)]
   simp [(List.getElem?_eq_some_iff.1 hj).2]⟩ (Nat.le_refl _) (by omega)
 ·rw [if_neg c] at h
  cases h

/-! ### impl_ReadShape: function 9 -/
mutual
def impl_ReadShape.l0 : Nat → ByteArray → List (S43) → List ByteArray → Int → Int → Option ((List (S43)) × Int)
 | 0, _, _, _, _, _ => none
 | k + 1, x0, x4, x13, x14, x15 => if x15 < x14 then (if 0 ≤ x15 then (if x15 < (x13.length : Int) then (impl_ReadShape.l1 k x0 x4 x15 (rdOf ByteArray.empty x13 x15) 0 x13 x14 x15) else (none)) else (none)) else ((impl_IsShape.f k x4).bind fun t412 => (if t412 = true then ((impl_shapeText.f k x4).bind fun t413 => (if t413.toList = x0.toList then (some (x4, 0)) else (some (([] : List (S43)), 6)))) else (some (([] : List (S43)), 6))))
def impl_ReadShape.l1 : Nat → ByteArray → List (S43) → Int → ByteArray → Int → List ByteArray → Int → Int → Option ((List (S43)) × Int)
 | 0, _, _, _, _, _, _, _, _ => none
 | k + 1, x0, x4, x5, x6, x7, x13, x14, x15 => if x7 < (x6.size : Int) then (if 0 ≤ x7 then (if (bt x6 x7) = 35 then (if x4.length < 8796093022208 then (impl_ReadShape.l1 k x0 (x4 ++ [(⟨x7, x5⟩ : S43)]) x5 x6 (wrap64 (x7 + 1)) x13 x14 x15) else (none)) else (impl_ReadShape.l1 k x0 x4 x5 x6 (wrap64 (x7 + 1)) x13 x14 x15)) else (none)) else (if (x4.length : Int) > 40 then (some (([] : List (S43)), 6)) else (impl_ReadShape.l0 k x0 x4 x13 x14 (wrap64 (x15 + 1))))
end
def impl_ReadShape.f (k : Nat) (a0 : ByteArray) : Option ((List (S43)) × Int) := if (a0.size : Int) > 12000 then (some (([] : List (S43)), 3)) else ((strings_Split.f a0 (⟨#[47]⟩ : ByteArray)).bind fun t405 => (impl_ReadShape.l0 k a0 (([] : List (S43))) t405 (t405.length : Int) 0))
theorem impl_ReadShape.mono_l : ∀ k, (∀ y0 y1 y2 y3 y4, LeO (impl_ReadShape.l0 k y0 y1 y2 y3 y4) (impl_ReadShape.l0 (k + 1) y0 y1 y2 y3 y4)) ∧ (∀ y0 y1 y2 y3 y4 y5 y6 y7, LeO (impl_ReadShape.l1 k y0 y1 y2 y3 y4 y5 y6 y7) (impl_ReadShape.l1 (k + 1) y0 y1 y2 y3 y4 y5 y6 y7))
 | 0 => ⟨fun _ _ _ _ _ r h => by simp [impl_ReadShape.l0] at h, fun _ _ _ _ _ _ _ _ r h => by simp [impl_ReadShape.l1] at h⟩
 | k + 1 => by
  obtain ⟨ih0, ih1⟩ := impl_ReadShape.mono_l k
  refine ⟨?_, ?_⟩
  ·intro y0 y1 y2 y3 y4
   unfold impl_ReadShape.l0
   repeat' first
   | (with_reducible exact ih0 _ _ _ _ _)
   | (with_reducible exact ih1 _ _ _ _ _ _ _ _)
   | (with_reducible exact impl_IsShape.mono _ _)
   | (with_reducible exact impl_shapeText.mono _ _)
   | (with_reducible exact LeO.refl _)
   | (with_reducible exact LeO.none _)
   | (with_reducible refine LeO.ite ?_ ?_)
   | (with_reducible refine LeO.bind ?_ (fun _ => ?_))
   | exact ih0 _ _ _ _ _
   | exact ih1 _ _ _ _ _ _ _ _
   | exact impl_IsShape.mono _ _
   | exact impl_shapeText.mono _ _
   | exact LeO.none _
   | refine LeO.ite ?_ ?_
   | refine LeO.bind ?_ (fun _ => ?_)
  ·intro y0 y1 y2 y3 y4 y5 y6 y7
   unfold impl_ReadShape.l1
   repeat' first
   | (with_reducible exact ih0 _ _ _ _ _)
   | (with_reducible exact ih1 _ _ _ _ _ _ _ _)
   | (with_reducible exact impl_IsShape.mono _ _)
   | (with_reducible exact impl_shapeText.mono _ _)
   | (with_reducible exact LeO.refl _)
   | (with_reducible exact LeO.none _)
   | (with_reducible refine LeO.ite ?_ ?_)
   | (with_reducible refine LeO.bind ?_ (fun _ => ?_))
   | exact ih0 _ _ _ _ _
   | exact ih1 _ _ _ _ _ _ _ _
   | exact impl_IsShape.mono _ _
   | exact impl_shapeText.mono _ _
   | exact LeO.none _
   | refine LeO.ite ?_ ?_
   | refine LeO.bind ?_ (fun _ => ?_)
theorem impl_ReadShape.mono : ∀ a0 k, LeO (impl_ReadShape.f k a0) (impl_ReadShape.f (k + 1) a0) := by
 intro a0 k
 obtain ⟨ih0, ih1⟩ := impl_ReadShape.mono_l k
 unfold impl_ReadShape.f
 repeat' first
   | (with_reducible exact ih0 _ _ _ _ _)
   | (with_reducible exact ih1 _ _ _ _ _ _ _ _)
   | (with_reducible exact impl_IsShape.mono _ _)
   | (with_reducible exact impl_shapeText.mono _ _)
   | (with_reducible exact LeO.refl _)
   | (with_reducible exact LeO.none _)
   | (with_reducible refine LeO.ite ?_ ?_)
   | (with_reducible refine LeO.bind ?_ (fun _ => ?_))
   | exact ih0 _ _ _ _ _
   | exact ih1 _ _ _ _ _ _ _ _
   | exact impl_IsShape.mono _ _
   | exact impl_shapeText.mono _ _
   | exact LeO.none _
   | refine LeO.ite ?_ ?_
   | refine LeO.bind ?_ (fun _ => ?_)
set_option maxHeartbeats 8000000 in
set_option maxRecDepth 100000 in
theorem impl_ReadShape.calls (k : Nat) (a0 : ByteArray) (r1 : List (S43)) (r2 : Int) (w : World) (h : impl_ReadShape.f k a0 = some (r1, r2)) :
  Calls Tryd.prog 9 #[.string a0] w fun e w' => ∃ v0_ : Value, e = .returned (.tuple #[v0_, .int .i64 r2]) ∧ Kd.R k43 43 w' w.heap.size (fun _ => True) v0_ r1 ∧ Below w.heap.size w w' := by
 have hu43 := Tryd.underlying43
 have HB := Aside0.mk (Below.refl w.heap.size w)
 have H : (if (a0.size : Int) > 12000 then (some (([] : List (S43)), 3)) else ((strings_Split.f a0 (⟨#[47]⟩ : ByteArray)).bind fun t405 => (impl_ReadShape.l0 k a0 (([] : List (S43))) t405 (t405.length : Int) 0))) = some (r1, r2) := h
 clear h
 by_cases c2 : (a0.size : Int) > 12000
 ·rw [if_pos c2] at H
  have c2b0 : decide (12000 < (a0.size : Int)) = true := decide_eq_true c2
  have c2b1 : decide (12000 < a0.size) = true := decide_eq_true (by omega)
  clear c2
  simp only [Option.some.injEq, Prod.mk.injEq] at H
  obtain ⟨rfl, rfl⟩ := H
  go_enter Tryd.func9, Tryd.ntmps9
  go_wp2
  go_ret2
  exact ⟨_, r2_, by first | exact Kd.R_nil _ _ _ _ _ | exact Kd.N_nil _ _ _ _ _ | exact Kd.V_nil _ _ _ _ _ | exact Kd.Q_nil _ _ _ _ _ | exact Kd.S_nil _ _ _ _ _, bB_⟩
 ·rw [if_neg c2] at H
  have c2b0 : decide (12000 < (a0.size : Int)) = false := decide_eq_false c2
  have c2b1 : decide (12000 < a0.size) = false := decide_eq_false (by omega)
  clear c2
  obtain ⟨y402, hY_⟩ : ∃ y_ : List (S43), y_ = (([] : List (S43))) := ⟨_, rfl⟩
  replace H : ((strings_Split.f a0 (⟨#[47]⟩ : ByteArray)).bind fun t405 => (impl_ReadShape.l0 k a0 y402 t405 (t405.length : Int) 0)) = some (r1, r2) := yY_
  have Ny402 := Aside0.mk hY_
  clear hY_
  replace H := Option.bind_eq_some_iff.mp H
  obtain ⟨t405, A30, H⟩ := H
  try dsimp only at H
  have A3 := Aside0.mk A30
  clear A30
  have H' := Aside0.mk H
  clear H
  go_enter Tryd.func9, Tryd.ntmps9
  go_wp2_with (first | ((with_reducible refine gate_dst (N := 11) rfl ?_); refine Kd.R_lit k43 _ 43 ?hg (N := 11) ?hd (xs := ([] : List (S43))) (inner := []) (ok := fun _ => True) (okp := fun _ => True) ?hr ?hp (fun _ hk => hk) trivial (Below.refl _ _) (Nat.le_refl _) (by simp) ?_; (case hd => rfl); (case hg => rfl); (case hr => first | (go_simp; done) | (go_simp; rfl)); (case hp => exact (Reps.none _ _)); intro v403 w4 ho5 hb hg_ hnew_; clear hg_ hnew_; (first | rw [← Ny402.out] at ho5 | (simp only [Int.reduceToNat] at ho5; rw [← Ny402.out] at ho5)); have HO404 := Aside0.mk (Kd.R_lower ho5 (below_size bB_)); replace HB := Aside0.mk (below_step bB_ hb); clear hb ho5) | ((with_reducible refine gate_callee (f := 22) rfl ?_); refine gL_ (some 13) Tryd.func22 #[.string a0, .string (⟨#[47]⟩ : ByteArray)] ?_; (with_reducible refine (strings_Split.calls a0 (⟨#[47]⟩ : ByteArray) t405 _ A3.out).mono ?_); rintro e w6 ⟨v406, rfl, ho0, hb⟩; refine ⟨_, rfl, ?_⟩; replace HO404 := Aside0.mk (Kd.R_below (rS_ HO404.out) hb); have HO407 := Aside0.mk (Kd.R_lower ho0 (below_size bB_)); replace HB := Aside0.mk (below_step bB_ hb); (try clear hb ho0); obtain ⟨Ao7, co7, eo7⟩ := Kd.R_slice HO407.out; subst eo7))
  go_loopg [4, 15] k (fun kq v4 v15 w' => ∃ (x4_1 : List (S43)) (x15_1 : Int), v15 = .int .i64 x15_1 ∧ Aside0 (impl_ReadShape.l0 kq a0 x4_1 t405 (t405.length : Int) x15_1 = some (r1, r2)) ∧ Aside0 (kq ≤ k) ∧ Aside0 (Kd.R k43 43 w' w.heap.size (fun _ => True) v4 x4_1) ∧ Aside0 (Kd.R Kd.string 9 w' w.heap.size (fun _ => True) (.slice Ao7 t405.length co7) t405) ∧ Aside0 (Below w.heap.size w w'))
  case atStart => exact ⟨(y402), (0), r3_, H', ⟨Nat.le_refl _⟩, ⟨rS_ HO404.out⟩, ⟨rS_ HO407.out⟩, ⟨bB_⟩⟩
  case round =>
   clear H'
   try clear c2
   try clear c2b0
   try clear c2b1
   try clear p2
   obtain ⟨x4_1, x15_1, rfl, HA, HK1, HO_4, HO_13, HB⟩ := hrel
   cases gk with
   | zero => exact absurd HA.out (by simp [impl_ReadShape.l0])
   | succ k1 =>
    have H := HA.out
    clear HA
    simp only [impl_ReadShape.l0] at H
    by_cases c8 : x15_1 < (t405.length : Int)
    ·rw [if_pos c8] at H
     have c8b0 : decide (x15_1 < (t405.length : Int)) = true := decide_eq_true c8
     clear c8
     by_cases c9 : 0 ≤ x15_1
     ·rw [if_pos c9] at H
      have c9b0 : decide (0 ≤ x15_1) = true := decide_eq_true c9
      clear c9
      by_cases c10 : x15_1 < (t405.length : Int)
      ·rw [if_pos c10] at H
       have c10b0 : decide (x15_1 < (t405.length : Int)) = true := decide_eq_true c10
       clear c10
       have H' := Aside0.mk H
       clear H
       have p408 : 0 ≤ (x15_1 : Int) := of_decide_eq_true aS_
       have q408 : x15_1 < (t405.length : Int) := of_decide_eq_true aS_
       obtain ⟨ad408, e408, hx408_0⟩ := Kd.at_string (Kd.R_reads' HO_13.out).2.2 x15_1 p408 q408
       cases e408
       replace p408 := eq_true p408
       replace q408 := eq_true q408
       go_wp2
       go_loopg [4, 7] k1 (fun kq v4 v7 w' => ∃ (x4_2 : List (S43)) (x7_2 : Int), v7 = .int .i64 x7_2 ∧ Aside0 (impl_ReadShape.l1 kq a0 x4_2 x15_1 (rdOf ByteArray.empty t405 x15_1) x7_2 t405 (t405.length : Int) x15_1 = some (r1, r2)) ∧ Aside0 (kq ≤ k1) ∧ Aside0 (Kd.R k43 43 w' w.heap.size (fun _ => True) v4 x4_2) ∧ Aside0 (Kd.R Kd.string 9 w' w.heap.size (fun _ => True) (.slice (some ad408) t405.length co7) t405) ∧ Aside0 (Below w.heap.size w w'))
       case atStart => exact ⟨(x4_1), (0), r3_, H', ⟨Nat.le_refl _⟩, ⟨rS_ HO_4.out⟩, ⟨rS_ HO_13.out⟩, ⟨bB_⟩⟩
       case round =>
        clear H'
        try clear c1
        try clear c2
        try clear c2b0
        try clear c2b1
        try clear p2
        try clear p4
        try clear q4
        try clear hx4
        try clear c8
        try clear c8b0
        try clear c9
        try clear c9b0
        try clear c10
        try clear c10b0
        try clear hx408_0
        try clear p2
        try clear p408
        try clear q408
        obtain ⟨x4_2, x7_2, rfl, HA, HK2, HO_4, HO_13, HB⟩ := hrel
        cases gk with
        | zero => exact absurd HA.out (by simp [impl_ReadShape.l1])
        | succ k2 =>
         have H := HA.out
         clear HA
         simp only [impl_ReadShape.l1] at H
         by_cases c11 : x7_2 < ((rdOf ByteArray.empty t405 x15_1).size : Int)
         ·rw [if_pos c11] at H
          have c11b0 : decide (x7_2 < ((rdOf ByteArray.empty t405 x15_1).size : Int)) = true := decide_eq_true c11
          clear c11
          by_cases c12 : 0 ≤ x7_2
          ·rw [if_pos c12] at H
           have c12b0 : decide (0 ≤ x7_2) = true := decide_eq_true c12
           clear c12
           by_cases c14 : (bt (rdOf ByteArray.empty t405 x15_1) x7_2) = 35
           ·rw [if_pos c14] at H
            have c14b0 : ((bt (rdOf ByteArray.empty t405 x15_1) x7_2) == 35) = true := beq_iff_eq.mpr c14
            have c14b1 : ((bt (rdOf ByteArray.empty t405 x15_1) x7_2) != 35) = false := bne_eq_false_iff_eq.mpr c14
            clear c14
            by_cases c15 : x4_2.length < 8796093022208
            ·rw [if_pos c15] at H
             have LMc15 := Aside0.mk c15
             clear c15
             obtain ⟨y409, hY_⟩ : ∃ y_ : List (S43), y_ = (x4_2 ++ [(⟨x7_2, x15_1⟩ : S43)]) := ⟨_, rfl⟩
             replace H : (impl_ReadShape.l1 k2 a0 y409 x15_1 (rdOf ByteArray.empty t405 x15_1) (wrap64 (x7_2 + 1)) t405 (t405.length : Int) x15_1) = some (r1, r2) := yY_
             have Ny409 := Aside0.mk hY_
             clear hY_
             have H' := Aside0.mk H
             clear H
             have p13 : 0 ≤ (x7_2 : Int) := of_decide_eq_true aS_
             have q13 : x7_2 < ((rdOf ByteArray.empty t405 x15_1).size : Int) := of_decide_eq_true aS_
             have hx13 := bt_at (rdOf ByteArray.empty t405 x15_1) x7_2
             replace p13 := eq_true p13
             replace q13 := eq_true q13
             go_wp2_with (first | ((with_reducible refine gate_builtin (b := .append) (xs := #[.tmp 30, .tmp 34]) rfl ?_); at_builtin; refine Kd.R_append k43 (w0 := w) w.heap.size rfl (.tmp 30) (.tmp 34) 24 43 (.agg #[(.int .i64 0), (.int .i64 0)]) 16 rfl Tryd.underlying24 info43 rfl (by decide) (by omega) u4 x4_2 (⟨x7_2, x15_1⟩ : S43) [.int .i64 x7_2, .int .i64 x15_1] (fun _ => True) (fun _ => False) rfl rfl ?aP (fun _ hk => hk.elim) ?aF ?aO ?aB ?aS ?aL ?_; (case aP => exact k43_mkM _ _ _ (⟨x7_2, x15_1⟩ : S43)); (case aB => exact bB_); (case aF => exact (fun _ _ => trivial)); (case aO => exact (rS_ HO_4.out)); (case aS => exact (below_size bB_)); (case aL => have := LMc15.out; omega); intro v410 w16 ho hb hg hat; rw [← Ny409.out] at ho; replace HO_13 := Aside0.mk (Kd.R_over' (rS_ HO_13.out) (Kd.R_typed (rS_ HO_4.out)) (by decide) hg); replace HB := Aside0.mk (hb); have HO411 := Aside0.mk (ho); clear HO_4; clear ho hb hg hat))
             go_roundg k2
             case measure => have := HK1.out; have := HK2.out; omega
             case rel => exact ⟨(y409), (wrap64 (x7_2 + 1)), r3_, H', ⟨by have := HK1.out; have := HK2.out; omega⟩, ⟨rS_ HO411.out⟩, ⟨rS_ HO_13.out⟩, ⟨bB_⟩⟩
            ·rw [if_neg c15] at H
             exact absurd H (by simp)
           ·rw [if_neg c14] at H
            have c14b0 : ((bt (rdOf ByteArray.empty t405 x15_1) x7_2) == 35) = false := beq_eq_false_iff_ne.mpr c14
            have c14b1 : ((bt (rdOf ByteArray.empty t405 x15_1) x7_2) != 35) = true := bne_iff_ne.mpr c14
            have H' := Aside0.mk H
            clear H
            have p13 : 0 ≤ (x7_2 : Int) := of_decide_eq_true aS_
            have q13 : x7_2 < ((rdOf ByteArray.empty t405 x15_1).size : Int) := of_decide_eq_true aS_
            have hx13 := bt_at (rdOf ByteArray.empty t405 x15_1) x7_2
            replace p13 := eq_true p13
            replace q13 := eq_true q13
            go_wp2
            go_roundg k2
            case measure => have := HK1.out; have := HK2.out; omega
            case rel => exact ⟨(x4_2), (wrap64 (x7_2 + 1)), r3_, H', ⟨by have := HK1.out; have := HK2.out; omega⟩, ⟨rS_ HO_4.out⟩, ⟨rS_ HO_13.out⟩, ⟨bB_⟩⟩
          ·rw [if_neg c12] at H
           exact absurd H (by simp)
         ·rw [if_neg c11] at H
          have c11b0 : decide (x7_2 < ((rdOf ByteArray.empty t405 x15_1).size : Int)) = false := decide_eq_false c11
          clear c11
          by_cases c17 : (x4_2.length : Int) > 40
          ·rw [if_pos c17] at H
           have c17b0 : decide (40 < (x4_2.length : Int)) = true := decide_eq_true c17
           have c17b1 : decide (40 < x4_2.length) = true := decide_eq_true (by omega)
           clear c17
           simp only [Option.some.injEq, Prod.mk.injEq] at H
           obtain ⟨rfl, rfl⟩ := H
           obtain ⟨Ao18, co18, eo18⟩ := Kd.R_slice HO_4.out
           subst eo18
           go_wp2
           go_ret2
           exact ⟨_, r2_, by first | exact Kd.R_nil _ _ _ _ _ | exact Kd.N_nil _ _ _ _ _ | exact Kd.V_nil _ _ _ _ _ | exact Kd.Q_nil _ _ _ _ _ | exact Kd.S_nil _ _ _ _ _, bB_⟩
          ·rw [if_neg c17] at H
           have c17b0 : decide (40 < (x4_2.length : Int)) = false := decide_eq_false c17
           have c17b1 : decide (40 < x4_2.length) = false := decide_eq_false (by omega)
           clear c17
           have H' := Aside0.mk H
           clear H
           obtain ⟨Ao19, co19, eo19⟩ := Kd.R_slice HO_4.out
           subst eo19
           go_wp2
           go_roundg k2
           case measure => have := HK1.out; have := HK2.out; omega
           case rel => exact ⟨(x4_2), (wrap64 (x15_1 + 1)), r3_, H', ⟨by have := HK1.out; have := HK2.out; omega⟩, ⟨rS_ HO_4.out⟩, ⟨rS_ HO_13.out⟩, ⟨bB_⟩⟩
      ·rw [if_neg c10] at H
       exact absurd H (by simp)
     ·rw [if_neg c9] at H
      exact absurd H (by simp)
    ·rw [if_neg c8] at H
     have c8b0 : decide (x15_1 < (t405.length : Int)) = false := decide_eq_false c8
     clear c8
     replace H := Option.bind_eq_some_iff.mp H
     obtain ⟨t412, A200, H⟩ := H
     try dsimp only at H
     have A20 := Aside0.mk A200
     clear A200
     by_cases c21 : t412 = true
     ·subst c21
      have H1 : ((impl_shapeText.f k1 x4_1).bind fun t413 => (if t413.toList = a0.toList then (some (x4_1, 0)) else (some (([] : List (S43)), 6)))) = some (r1, r2) := by rw [if_pos rfl] at H; exact H
      clear H
      have H := H1
      clear H1
      replace H := Option.bind_eq_some_iff.mp H
      obtain ⟨t413, A220, H⟩ := H
      try dsimp only at H
      have A22 := Aside0.mk A220
      clear A220
      by_cases c23 : t413.toList = a0.toList
      ·rw [if_pos c23] at H
       have c23b0 : (t413.toList == a0.toList) = true := beq_iff_eq.mpr c23
       have c23b1 : (t413.toList != a0.toList) = false := bne_eq_false_iff_eq.mpr c23
       clear c23
       simp only [Option.some.injEq, Prod.mk.injEq] at H
       obtain ⟨rfl, rfl⟩ := H
       obtain ⟨Ao24, co24, eo24⟩ := Kd.R_slice HO_4.out
       subst eo24
       go_wp2_with (first | ((with_reducible refine gate_callee (f := 23) rfl ?_); refine gL_ (some 41) Tryd.func23 #[.slice Ao24 x4_1.length co24] ?_; (with_reducible refine (impl_IsShape.calls k1 _ _ x4_1 true _ ?side1 ?side2 A20.out).mono ?_); (case side1 => exact cS_ ((Kd.R_reads' HO_4.out).2.2)); (case side2 => exact (Kd.R_reads' HO_4.out).2.1); rintro e w25 ⟨rfl, hb⟩; refine ⟨_, rfl, ?_⟩; replace HO_4 := Aside0.mk (Kd.R_below (rS_ HO_4.out) hb); replace HO_13 := Aside0.mk (Kd.R_below (rS_ HO_13.out) hb); replace HB := Aside0.mk (below_step bB_ hb); (try clear hb)) | (go_at_call 15; (with_reducible refine (impl_shapeText.calls k1 _ _ x4_1 t413 _ ?side1 ?side2 A22.out).mono ?_); (case side1 => exact cS_ ((Kd.R_reads' HO_4.out).2.2)); (case side2 => exact (Kd.R_reads' HO_4.out).2.1); rintro e w26 ⟨rfl, hb⟩; replace HO_4 := Aside0.mk (Kd.R_below (rS_ HO_4.out) hb); replace HO_13 := Aside0.mk (Kd.R_below (rS_ HO_13.out) hb); replace HB := Aside0.mk (below_step bB_ hb); (try clear hb)))
       go_ret2
       exact ⟨_, r2_, rS_ HO_4.out, bB_⟩
      ·rw [if_neg c23] at H
       have c23b0 : (t413.toList == a0.toList) = false := beq_eq_false_iff_ne.mpr c23
       have c23b1 : (t413.toList != a0.toList) = true := bne_iff_ne.mpr c23
       simp only [Option.some.injEq, Prod.mk.injEq] at H
       obtain ⟨rfl, rfl⟩ := H
       obtain ⟨Ao27, co27, eo27⟩ := Kd.R_slice HO_4.out
       subst eo27
       go_wp2_with (first | ((with_reducible refine gate_callee (f := 23) rfl ?_); refine gL_ (some 41) Tryd.func23 #[.slice Ao27 x4_1.length co27] ?_; (with_reducible refine (impl_IsShape.calls k1 _ _ x4_1 true _ ?side1 ?side2 A20.out).mono ?_); (case side1 => exact cS_ ((Kd.R_reads' HO_4.out).2.2)); (case side2 => exact (Kd.R_reads' HO_4.out).2.1); rintro e w28 ⟨rfl, hb⟩; refine ⟨_, rfl, ?_⟩; replace HO_4 := Aside0.mk (Kd.R_below (rS_ HO_4.out) hb); replace HO_13 := Aside0.mk (Kd.R_below (rS_ HO_13.out) hb); replace HB := Aside0.mk (below_step bB_ hb); (try clear hb)) | (go_at_call 15; (with_reducible refine (impl_shapeText.calls k1 _ _ x4_1 t413 _ ?side1 ?side2 A22.out).mono ?_); (case side1 => exact cS_ ((Kd.R_reads' HO_4.out).2.2)); (case side2 => exact (Kd.R_reads' HO_4.out).2.1); rintro e w29 ⟨rfl, hb⟩; replace HO_4 := Aside0.mk (Kd.R_below (rS_ HO_4.out) hb); replace HO_13 := Aside0.mk (Kd.R_below (rS_ HO_13.out) hb); replace HB := Aside0.mk (below_step bB_ hb); (try clear hb)))
       go_ret2
       exact ⟨_, r2_, by first | exact Kd.R_nil _ _ _ _ _ | exact Kd.N_nil _ _ _ _ _ | exact Kd.V_nil _ _ _ _ _ | exact Kd.Q_nil _ _ _ _ _ | exact Kd.S_nil _ _ _ _ _, bB_⟩
     ·replace c21 := Bool.eq_false_iff.mpr c21
      subst c21
      have H1 : (some (([] : List (S43)), 6)) = some (r1, r2) := by rw [if_neg (show ¬ (false = true) by decide)] at H; exact H
      clear H
      have H := H1
      clear H1
      simp only [Option.some.injEq, Prod.mk.injEq] at H
      obtain ⟨rfl, rfl⟩ := H
      obtain ⟨Ao30, co30, eo30⟩ := Kd.R_slice HO_4.out
      subst eo30
      go_wp2_with (first | ((with_reducible refine gate_callee (f := 23) rfl ?_); refine gL_ (some 41) Tryd.func23 #[.slice Ao30 x4_1.length co30] ?_; (with_reducible refine (impl_IsShape.calls k1 _ _ x4_1 false _ ?side1 ?side2 A20.out).mono ?_); (case side1 => exact cS_ ((Kd.R_reads' HO_4.out).2.2)); (case side2 => exact (Kd.R_reads' HO_4.out).2.1); rintro e w31 ⟨rfl, hb⟩; refine ⟨_, rfl, ?_⟩; replace HO_4 := Aside0.mk (Kd.R_below (rS_ HO_4.out) hb); replace HO_13 := Aside0.mk (Kd.R_below (rS_ HO_13.out) hb); replace HB := Aside0.mk (below_step bB_ hb); (try clear hb)))
      go_ret2
      exact ⟨_, r2_, by first | exact Kd.R_nil _ _ _ _ _ | exact Kd.N_nil _ _ _ _ _ | exact Kd.V_nil _ _ _ _ _ | exact Kd.Q_nil _ _ _ _ _ | exact Kd.S_nil _ _ _ _ _, bB_⟩

/-! ### spec_ReadShape: function 10 -/
def spec_ReadShape.l0 : Nat → ByteArray → List (S43) → Int → Int → Int → Option ((List (S43)) × Int)
 | 0, _, _, _, _, _ => none
 | k + 1, x0, x4, x6, x418000, x418001 => if x6 < (x0.size : Int) then (if 0 ≤ x6 then (if (bt x0 x6) = 47 then (spec_ReadShape.l0 k x0 x4 (wrap64 (x6 + 1)) 0 (wrap64 (x418001 + 1))) else (if (bt x0 x6) = 35 then (if x4.length < 8796093022208 then (spec_ReadShape.l0 k x0 (x4 ++ [(⟨x418000, x418001⟩ : S43)]) (wrap64 (x6 + 1)) (wrap64 (x418000 + 1)) x418001) else (none)) else (spec_ReadShape.l0 k x0 x4 (wrap64 (x6 + 1)) (wrap64 (x418000 + 1)) x418001))) else (none)) else ((spec_IsShape.f k x4).bind fun t421 => (if t421 = true then ((spec_l04Text.f k x4).bind fun t422 => (if t422.toList = x0.toList then (some (x4, 0)) else (some (([] : List (S43)), 6)))) else (some (([] : List (S43)), 6))))
def spec_ReadShape.f (k : Nat) (a0 : ByteArray) : Option ((List (S43)) × Int) := if (a0.size : Int) > 12000 then (some (([] : List (S43)), 3)) else (spec_ReadShape.l0 k a0 (([] : List (S43))) 0 0 0)
theorem spec_ReadShape.mono_l : ∀ k, (∀ y0 y1 y2 y3 y4, LeO (spec_ReadShape.l0 k y0 y1 y2 y3 y4) (spec_ReadShape.l0 (k + 1) y0 y1 y2 y3 y4))
 | 0 => fun _ _ _ _ _ r h => by simp [spec_ReadShape.l0] at h
 | k + 1 => by
  have ih0 := spec_ReadShape.mono_l k
  ·intro y0 y1 y2 y3 y4
   unfold spec_ReadShape.l0
   repeat' first
   | (with_reducible exact ih0 _ _ _ _ _)
   | (with_reducible exact spec_IsShape.mono _ _)
   | (with_reducible exact spec_l04Text.mono _ _)
   | (with_reducible exact LeO.refl _)
   | (with_reducible exact LeO.none _)
   | (with_reducible refine LeO.ite ?_ ?_)
   | (with_reducible refine LeO.bind ?_ (fun _ => ?_))
   | exact ih0 _ _ _ _ _
   | exact spec_IsShape.mono _ _
   | exact spec_l04Text.mono _ _
   | exact LeO.none _
   | refine LeO.ite ?_ ?_
   | refine LeO.bind ?_ (fun _ => ?_)
theorem spec_ReadShape.mono : ∀ a0 k, LeO (spec_ReadShape.f k a0) (spec_ReadShape.f (k + 1) a0) := by
 intro a0 k
 have ih0 := spec_ReadShape.mono_l k
 unfold spec_ReadShape.f
 repeat' first
   | (with_reducible exact ih0 _ _ _ _ _)
   | (with_reducible exact spec_IsShape.mono _ _)
   | (with_reducible exact spec_l04Text.mono _ _)
   | (with_reducible exact LeO.refl _)
   | (with_reducible exact LeO.none _)
   | (with_reducible refine LeO.ite ?_ ?_)
   | (with_reducible refine LeO.bind ?_ (fun _ => ?_))
   | exact ih0 _ _ _ _ _
   | exact spec_IsShape.mono _ _
   | exact spec_l04Text.mono _ _
   | exact LeO.none _
   | refine LeO.ite ?_ ?_
   | refine LeO.bind ?_ (fun _ => ?_)
set_option maxHeartbeats 8000000 in
set_option maxRecDepth 100000 in
theorem spec_ReadShape.calls (k : Nat) (a0 : ByteArray) (r1 : List (S43)) (r2 : Int) (w : World) (h : spec_ReadShape.f k a0 = some (r1, r2)) :
  Calls Tryd.prog 10 #[.string a0] w fun e w' => ∃ v0_ : Value, e = .returned (.tuple #[v0_, .int .i64 r2]) ∧ Kd.R k43 43 w' w.heap.size (fun _ => True) v0_ r1 ∧ Below w.heap.size w w' := by
 have hu43 := Tryd.underlying43
 have HB := Aside0.mk (Below.refl w.heap.size w)
 have H : (if (a0.size : Int) > 12000 then (some (([] : List (S43)), 3)) else (spec_ReadShape.l0 k a0 (([] : List (S43))) 0 0 0)) = some (r1, r2) := h
 clear h
 by_cases c2 : (a0.size : Int) > 12000
 ·rw [if_pos c2] at H
  have c2b0 : decide (12000 < (a0.size : Int)) = true := decide_eq_true c2
  have c2b1 : decide (12000 < a0.size) = true := decide_eq_true (by omega)
  clear c2
  simp only [Option.some.injEq, Prod.mk.injEq] at H
  obtain ⟨rfl, rfl⟩ := H
  go_enter Tryd.func10, Tryd.ntmps10
  go_wp2
  go_ret2
  exact ⟨_, r2_, by first | exact Kd.R_nil _ _ _ _ _ | exact Kd.N_nil _ _ _ _ _ | exact Kd.V_nil _ _ _ _ _ | exact Kd.Q_nil _ _ _ _ _ | exact Kd.S_nil _ _ _ _ _, bB_⟩
 ·rw [if_neg c2] at H
  have c2b0 : decide (12000 < (a0.size : Int)) = false := decide_eq_false c2
  have c2b1 : decide (12000 < a0.size) = false := decide_eq_false (by omega)
  clear c2
  obtain ⟨y414, hY_⟩ : ∃ y_ : List (S43), y_ = (([] : List (S43))) := ⟨_, rfl⟩
  replace H : (spec_ReadShape.l0 k a0 y414 0 0 0) = some (r1, r2) := yY_
  have Ny414 := Aside0.mk hY_
  clear hY_
  have H' := Aside0.mk H
  clear H
  go_enter Tryd.func10, Tryd.ntmps10
  go_wp2_with (first | ((with_reducible refine gate_dst (N := 10) rfl ?_); refine Kd.R_lit k43 _ 43 ?hg (N := 10) ?hd (xs := ([] : List (S43))) (inner := []) (ok := fun _ => True) (okp := fun _ => True) ?hr ?hp (fun _ hk => hk) trivial (Below.refl _ _) (Nat.le_refl _) (by simp) ?_; (case hd => rfl); (case hg => rfl); (case hr => first | (go_simp; done) | (go_simp; rfl)); (case hp => exact (Reps.none _ _)); intro v415 w3 ho4 hb hg_ hnew_; clear hg_ hnew_; (first | rw [← Ny414.out] at ho4 | (simp only [Int.reduceToNat] at ho4; rw [← Ny414.out] at ho4)); have HO416 := Aside0.mk (Kd.R_lower ho4 (below_size bB_)); replace HB := Aside0.mk (below_step bB_ hb); clear hb ho4) | ((with_reducible refine gate_dst (N := 5) rfl ?_); refine box_event ?hg (N := 5) ?hd (cs := #[.int .i64 0, .int .i64 0]) (t := 43) ?hr ?_; (case hd => rfl); (case hg => rfl); (case hr => first | (go_simp; done) | (go_simp; rfl)); intro gb417 hg w5 hbox hb; replace HO416 := Aside0.mk (Kd.R_below (Kd.R_elderB (rS_ HO416.out) gb417 (Nat.le_of_eq hg.symm)) hb); have BK417 := Aside0.mk (hbox); have GW417 := Aside0.mk ((by rw [hg]; exact (below_size bB_) : w.heap.size ≤ gb417)); have GE417 := Aside0.mk ((by rw [hg]; exact (below_size bB_) : w.heap.size ≤ gb417)); replace HB := Aside0.mk (below_step bB_ hb); clear hb hbox hg; have hcz6_0 : w5.cell? ⟨gb417, 0, none⟩ = some (.int .i64 0) := (blk_cell BK417.out 0).trans rfl; have hcz6_1 : w5.cell? ⟨gb417, 1, none⟩ = some (.int .i64 0) := (blk_cell BK417.out 1).trans rfl; have hfz6_0 := blk_frozen BK417.out 0; have hfz6_1 := blk_frozen BK417.out 1))
  go_loopg [4, 6] k (fun kq v4 v6 w' => ∃ (x4_1 : List (S43)) (x6_1 : Int) (x418000_1 : Int) (x418001_1 : Int), v6 = .int .i64 x6_1 ∧ Aside0 (spec_ReadShape.l0 kq a0 x4_1 x6_1 x418000_1 x418001_1 = some (r1, r2)) ∧ Aside0 (kq ≤ k) ∧ Aside0 (Kd.R k43 43 w' w.heap.size (fun k_ => k_ ≠ gb417) v4 x4_1) ∧ Aside0 (w'.heap[gb417]? = some (.cells #[.int .i64 x418000_1, .int .i64 x418001_1] 43 (0, 0))) ∧ Aside0 (Below w.heap.size w w'))
  case atStart => exact ⟨(y414), (0), (0), (0), r3_, H', ⟨Nat.le_refl _⟩, ⟨rS_ (Kd.R_mono (Kd.R_far (p := ⟨gb417, 1, none⟩) (Kd.R_far (p := ⟨gb417, 0, none⟩) (Kd.R_mono HO416.out (fun k_ hk => (⟨hk, hk.2⟩ : _ ∧ k_ ≠ gb417))) (fun _ hk => hk.2) (.int .i64 0)) (fun _ hk => hk.2) (.int .i64 0)) (fun _ hk => hk.1.2))⟩, ⟨by (with_reducible repeat (first | refine blk_drewN ?_ _ | refine blk_drew ?_ | refine blk_alloc ?_ _)); refine blk_put (cs := #[.int .i64 0, .int .i64 0]) ?_ 1 _ rfl; (with_reducible repeat (first | refine blk_drewN ?_ _ | refine blk_drew ?_ | refine blk_alloc ?_ _)); refine blk_put (cs := #[.int .i64 0, .int .i64 0]) ?_ 0 _ rfl; (with_reducible repeat (first | refine blk_drewN ?_ _ | refine blk_drew ?_ | refine blk_alloc ?_ _)); exact BK417.out⟩, ⟨by repeat (first | (with_reducible first | exact HB.out | apply below_alloc | apply pw_below_drewN | apply below_drew1 | refine below_set ?_ GE417.out) | exact HB.out)⟩⟩
  case round =>
   clear H'
   try clear c1
   try clear c2
   try clear c2b0
   try clear c2b1
   try clear p2
   try clear hcz6_0
   try clear hcz6_1
   try clear hfz6_0
   try clear hfz6_1
   obtain ⟨x4_1, x6_1, x418000_1, x418001_1, rfl, HA, HK1, HO_4, BK417, HB⟩ := hrel
   cases gk with
   | zero => exact absurd HA.out (by simp [spec_ReadShape.l0])
   | succ k1 =>
    have H := HA.out
    clear HA
    simp only [spec_ReadShape.l0] at H
    by_cases c7 : x6_1 < (a0.size : Int)
    ·rw [if_pos c7] at H
     have c7b0 : decide (x6_1 < (a0.size : Int)) = true := decide_eq_true c7
     clear c7
     by_cases c8 : 0 ≤ x6_1
     ·rw [if_pos c8] at H
      have c8b0 : decide (0 ≤ x6_1) = true := decide_eq_true c8
      clear c8
      by_cases c10 : (bt a0 x6_1) = 47
      ·rw [if_pos c10] at H
       have c10b0 : ((bt a0 x6_1) == 47) = true := beq_iff_eq.mpr c10
       have c10b1 : ((bt a0 x6_1) != 47) = false := bne_eq_false_iff_eq.mpr c10
       clear c10
       have H' := Aside0.mk H
       clear H
       have p9 : 0 ≤ (x6_1 : Int) := of_decide_eq_true aS_
       have q9 : x6_1 < (a0.size : Int) := of_decide_eq_true aS_
       have hx9 := bt_at a0 x6_1
       replace p9 := eq_true p9
       replace q9 := eq_true q9
       have hcz11_0 : wr.cell? ⟨gb417, 0, none⟩ = some (.int .i64 x418000_1) := (blk_cell BK417.out 0).trans rfl
       have hcz11_1 : wr.cell? ⟨gb417, 1, none⟩ = some (.int .i64 x418001_1) := (blk_cell BK417.out 1).trans rfl
       have hfz11_0 := blk_frozen BK417.out 0
       have hfz11_1 := blk_frozen BK417.out 1
       go_wp2
       go_roundg k1
       case measure => have := HK1.out; omega
       case rel => exact ⟨(x4_1), (wrap64 (x6_1 + 1)), (0), (wrap64 (x418001_1 + 1)), r3_, H', ⟨by have := HK1.out; omega⟩, ⟨rS_ (Kd.R_mono (Kd.R_far (p := ⟨gb417, 1, none⟩) (Kd.R_far (p := ⟨gb417, 0, none⟩) (Kd.R_mono HO_4.out (fun k_ hk => (⟨hk, hk⟩ : _ ∧ k_ ≠ gb417))) (fun _ hk => hk.2) (.int .i64 0)) (fun _ hk => hk.2) (.int .i64 (wrap64 (x418001_1 + 1)))) (fun _ hk => hk.1))⟩, ⟨by (with_reducible repeat (first | refine blk_drewN ?_ _ | refine blk_drew ?_ | refine blk_alloc ?_ _)); refine blk_put (cs := #[.int .i64 0, .int .i64 x418001_1]) ?_ 1 _ rfl; (with_reducible repeat (first | refine blk_drewN ?_ _ | refine blk_drew ?_ | refine blk_alloc ?_ _)); refine blk_put (cs := #[.int .i64 x418000_1, .int .i64 x418001_1]) ?_ 0 _ rfl; (with_reducible repeat (first | refine blk_drewN ?_ _ | refine blk_drew ?_ | refine blk_alloc ?_ _)); exact BK417.out⟩, ⟨by repeat (first | (with_reducible first | exact HB.out | apply below_alloc | apply pw_below_drewN | apply below_drew1 | refine below_set ?_ GE417.out) | exact HB.out)⟩⟩
      ·rw [if_neg c10] at H
       have c10b0 : ((bt a0 x6_1) == 47) = false := beq_eq_false_iff_ne.mpr c10
       have c10b1 : ((bt a0 x6_1) != 47) = true := bne_iff_ne.mpr c10
       by_cases c12 : (bt a0 x6_1) = 35
       ·rw [if_pos c12] at H
        have c12b0 : ((bt a0 x6_1) == 35) = true := beq_iff_eq.mpr c12
        have c12b1 : ((bt a0 x6_1) != 35) = false := bne_eq_false_iff_eq.mpr c12
        clear c12
        by_cases c13 : x4_1.length < 8796093022208
        ·rw [if_pos c13] at H
         have LMc13 := Aside0.mk c13
         clear c13
         obtain ⟨y418, hY_⟩ : ∃ y_ : List (S43), y_ = (x4_1 ++ [(⟨x418000_1, x418001_1⟩ : S43)]) := ⟨_, rfl⟩
         replace H : (spec_ReadShape.l0 k1 a0 y418 (wrap64 (x6_1 + 1)) (wrap64 (x418000_1 + 1)) x418001_1) = some (r1, r2) := yY_
         have Ny418 := Aside0.mk hY_
         clear hY_
         have H' := Aside0.mk H
         clear H
         have p9 : 0 ≤ (x6_1 : Int) := of_decide_eq_true aS_
         have q9 : x6_1 < (a0.size : Int) := of_decide_eq_true aS_
         have hx9 := bt_at a0 x6_1
         replace p9 := eq_true p9
         replace q9 := eq_true q9
         have hcz14_0 : wr.cell? ⟨gb417, 0, none⟩ = some (.int .i64 x418000_1) := (blk_cell BK417.out 0).trans rfl
         have hcz14_1 : wr.cell? ⟨gb417, 1, none⟩ = some (.int .i64 x418001_1) := (blk_cell BK417.out 1).trans rfl
         have hfz14_0 := blk_frozen BK417.out 0
         have hfz14_1 := blk_frozen BK417.out 1
         go_wp2_with (first | ((with_reducible refine gate_builtin (b := .append) (xs := #[.tmp 29, .tmp 31]) rfl ?_); at_builtin; refine Kd.R_append k43 (w0 := w) w.heap.size rfl (.tmp 29) (.tmp 31) 24 43 (.agg #[(.int .i64 0), (.int .i64 0)]) 16 rfl Tryd.underlying24 info43 rfl (by decide) (by omega) u4 x4_1 (⟨x418000_1, x418001_1⟩ : S43) [.int .i64 x418000_1, .int .i64 x418001_1] (fun k_ => k_ ≠ gb417) (fun _ => False) rfl rfl ?aP (fun _ hk => hk.elim) ?aF ?aO ?aB ?aS ?aL ?_; (case aP => exact k43_mkM _ _ _ (⟨x418000_1, x418001_1⟩ : S43)); (case aB => exact (by repeat (first | (with_reducible first | exact HB.out | apply below_alloc | apply pw_below_drewN | apply below_drew1 | refine below_set ?_ GE417.out) | exact HB.out))); (case aF => exact (fun k_ hk => Kd.freshB (g := gb417) (o := .cells #[.int .i64 x418000_1, .int .i64 x418001_1] 43 (0, 0)) (by (with_reducible repeat (first | refine blk_drewN ?_ _ | refine blk_drew ?_ | refine blk_alloc ?_ _)); exact BK417.out) k_ hk)); (case aO => exact (rS_ HO_4.out)); (case aS => exact (below_size (by repeat (first | (with_reducible first | exact HB.out | apply below_alloc | apply pw_below_drewN | apply below_drew1 | refine below_set ?_ GE417.out) | exact HB.out)))); (case aL => have := LMc13.out; omega); intro v419 w15 ho hb hg hat; rw [← Ny418.out] at ho; replace BK417 := Aside0.mk (blk_grown (g := gb417) (o := .cells #[.int .i64 x418000_1, .int .i64 x418001_1] 43 (0, 0)) (by (with_reducible repeat (first | refine blk_drewN ?_ _ | refine blk_drew ?_ | refine blk_alloc ?_ _)); exact BK417.out) hg (Kd.R_away HO_4.out (fun _ hk => hk))); replace HB := Aside0.mk (hb); have HO420 := Aside0.mk (ho); clear HO_4; clear ho hb hg hat; have hcz16_0 : w15.cell? ⟨gb417, 0, none⟩ = some (.int .i64 x418000_1) := (blk_cell BK417.out 0).trans rfl; have hcz16_1 : w15.cell? ⟨gb417, 1, none⟩ = some (.int .i64 x418001_1) := (blk_cell BK417.out 1).trans rfl; have hfz16_0 := blk_frozen BK417.out 0; have hfz16_1 := blk_frozen BK417.out 1))
         go_roundg k1
         case measure => have := HK1.out; omega
         case rel => exact ⟨(y418), (wrap64 (x6_1 + 1)), (wrap64 (x418000_1 + 1)), (x418001_1), r3_, H', ⟨by have := HK1.out; omega⟩, ⟨rS_ (Kd.R_mono (Kd.R_far (p := ⟨gb417, 1, none⟩) (Kd.R_far (p := ⟨gb417, 0, none⟩) (Kd.R_mono HO420.out (fun k_ hk => (⟨hk, hk⟩ : _ ∧ k_ ≠ gb417))) (fun _ hk => hk.2) (.int .i64 (wrap64 (x418000_1 + 1)))) (fun _ hk => hk.2) (.int .i64 x418001_1)) (fun _ hk => hk.1))⟩, ⟨by (with_reducible repeat (first | refine blk_drewN ?_ _ | refine blk_drew ?_ | refine blk_alloc ?_ _)); refine blk_put (cs := #[.int .i64 (wrap64 (x418000_1 + 1)), .int .i64 x418001_1]) ?_ 1 _ rfl; (with_reducible repeat (first | refine blk_drewN ?_ _ | refine blk_drew ?_ | refine blk_alloc ?_ _)); refine blk_put (cs := #[.int .i64 x418000_1, .int .i64 x418001_1]) ?_ 0 _ rfl; (with_reducible repeat (first | refine blk_drewN ?_ _ | refine blk_drew ?_ | refine blk_alloc ?_ _)); exact BK417.out⟩, ⟨by repeat (first | (with_reducible first | exact HB.out | apply below_alloc | apply pw_below_drewN | apply below_drew1 | refine below_set ?_ GE417.out) | exact HB.out)⟩⟩
        ·rw [if_neg c13] at H
         exact absurd H (by simp)
       ·rw [if_neg c12] at H
        have c12b0 : ((bt a0 x6_1) == 35) = false := beq_eq_false_iff_ne.mpr c12
        have c12b1 : ((bt a0 x6_1) != 35) = true := bne_iff_ne.mpr c12
        have H' := Aside0.mk H
        clear H
        have p9 : 0 ≤ (x6_1 : Int) := of_decide_eq_true aS_
        have q9 : x6_1 < (a0.size : Int) := of_decide_eq_true aS_
        have hx9 := bt_at a0 x6_1
        replace p9 := eq_true p9
        replace q9 := eq_true q9
        have hcz17_0 : wr.cell? ⟨gb417, 0, none⟩ = some (.int .i64 x418000_1) := (blk_cell BK417.out 0).trans rfl
        have hcz17_1 : wr.cell? ⟨gb417, 1, none⟩ = some (.int .i64 x418001_1) := (blk_cell BK417.out 1).trans rfl
        have hfz17_0 := blk_frozen BK417.out 0
        have hfz17_1 := blk_frozen BK417.out 1
        go_wp2
        go_roundg k1
        case measure => have := HK1.out; omega
        case rel => exact ⟨(x4_1), (wrap64 (x6_1 + 1)), (wrap64 (x418000_1 + 1)), (x418001_1), r3_, H', ⟨by have := HK1.out; omega⟩, ⟨rS_ (Kd.R_mono (Kd.R_far (p := ⟨gb417, 1, none⟩) (Kd.R_far (p := ⟨gb417, 0, none⟩) (Kd.R_mono HO_4.out (fun k_ hk => (⟨hk, hk⟩ : _ ∧ k_ ≠ gb417))) (fun _ hk => hk.2) (.int .i64 (wrap64 (x418000_1 + 1)))) (fun _ hk => hk.2) (.int .i64 x418001_1)) (fun _ hk => hk.1))⟩, ⟨by (with_reducible repeat (first | refine blk_drewN ?_ _ | refine blk_drew ?_ | refine blk_alloc ?_ _)); refine blk_put (cs := #[.int .i64 (wrap64 (x418000_1 + 1)), .int .i64 x418001_1]) ?_ 1 _ rfl; (with_reducible repeat (first | refine blk_drewN ?_ _ | refine blk_drew ?_ | refine blk_alloc ?_ _)); refine blk_put (cs := #[.int .i64 x418000_1, .int .i64 x418001_1]) ?_ 0 _ rfl; (with_reducible repeat (first | refine blk_drewN ?_ _ | refine blk_drew ?_ | refine blk_alloc ?_ _)); exact BK417.out⟩, ⟨by repeat (first | (with_reducible first | exact HB.out | apply below_alloc | apply pw_below_drewN | apply below_drew1 | refine below_set ?_ GE417.out) | exact HB.out)⟩⟩
     ·rw [if_neg c8] at H
      exact absurd H (by simp)
    ·rw [if_neg c7] at H
     have c7b0 : decide (x6_1 < (a0.size : Int)) = false := decide_eq_false c7
     clear c7
     replace H := Option.bind_eq_some_iff.mp H
     obtain ⟨t421, A180, H⟩ := H
     try dsimp only at H
     have A18 := Aside0.mk A180
     clear A180
     by_cases c19 : t421 = true
     ·subst c19
      have H1 : ((spec_l04Text.f k1 x4_1).bind fun t422 => (if t422.toList = a0.toList then (some (x4_1, 0)) else (some (([] : List (S43)), 6)))) = some (r1, r2) := by rw [if_pos rfl] at H; exact H
      clear H
      have H := H1
      clear H1
      replace H := Option.bind_eq_some_iff.mp H
      obtain ⟨t422, A200, H⟩ := H
      try dsimp only at H
      have A20 := Aside0.mk A200
      clear A200
      by_cases c21 : t422.toList = a0.toList
      ·rw [if_pos c21] at H
       have c21b0 : (t422.toList == a0.toList) = true := beq_iff_eq.mpr c21
       have c21b1 : (t422.toList != a0.toList) = false := bne_eq_false_iff_eq.mpr c21
       clear c21
       simp only [Option.some.injEq, Prod.mk.injEq] at H
       obtain ⟨rfl, rfl⟩ := H
       obtain ⟨Ao22, co22, eo22⟩ := Kd.R_slice HO_4.out
       subst eo22
       go_wp2_with (first | ((with_reducible refine gate_callee (f := 24) rfl ?_); refine gL_ (some 40) Tryd.func24 #[.slice Ao22 x4_1.length co22] ?_; (with_reducible refine (spec_IsShape.calls k1 _ _ x4_1 true _ ?side1 ?side2 A18.out).mono ?_); (case side1 => exact cS_ ((Kd.R_reads' HO_4.out).2.2)); (case side2 => exact (Kd.R_reads' HO_4.out).2.1); rintro e w23 ⟨rfl, hb⟩; refine ⟨_, rfl, ?_⟩; replace HO_4 := Aside0.mk (Kd.R_below (rS_ HO_4.out) hb); replace BK417 := Aside0.mk (blk_below (g := gb417) (o := .cells #[.int .i64 x418000_1, .int .i64 x418001_1] 43 (0, 0)) (by (with_reducible repeat (first | refine blk_drewN ?_ _ | refine blk_drew ?_ | refine blk_alloc ?_ _)); exact BK417.out) hb); replace HB := Aside0.mk (below_step (by repeat (first | (with_reducible first | exact HB.out | apply below_alloc | apply pw_below_drewN | apply below_drew1 | refine below_set ?_ GE417.out) | exact HB.out)) hb); (try clear hb)) | (go_at_call 17; (with_reducible refine (spec_l04Text.calls k1 _ _ x4_1 t422 _ ?side1 ?side2 A20.out).mono ?_); (case side1 => exact cS_ ((Kd.R_reads' HO_4.out).2.2)); (case side2 => exact (Kd.R_reads' HO_4.out).2.1); rintro e w24 ⟨rfl, hb⟩; replace HO_4 := Aside0.mk (Kd.R_below (rS_ HO_4.out) hb); replace BK417 := Aside0.mk (blk_below (g := gb417) (o := .cells #[.int .i64 x418000_1, .int .i64 x418001_1] 43 (0, 0)) (by (with_reducible repeat (first | refine blk_drewN ?_ _ | refine blk_drew ?_ | refine blk_alloc ?_ _)); exact BK417.out) hb); replace HB := Aside0.mk (below_step (by repeat (first | (with_reducible first | exact HB.out | apply below_alloc | apply pw_below_drewN | apply below_drew1 | refine below_set ?_ GE417.out) | exact HB.out)) hb); (try clear hb)))
       go_ret2
       exact ⟨_, r2_, rS_ (Kd.R_mono HO_4.out (fun _ hk => trivial)), by repeat (first | (with_reducible first | exact HB.out | apply below_alloc | apply pw_below_drewN | apply below_drew1 | refine below_set ?_ GE417.out) | exact HB.out)⟩
      ·rw [if_neg c21] at H
       have c21b0 : (t422.toList == a0.toList) = false := beq_eq_false_iff_ne.mpr c21
       have c21b1 : (t422.toList != a0.toList) = true := bne_iff_ne.mpr c21
       simp only [Option.some.injEq, Prod.mk.injEq] at H
       obtain ⟨rfl, rfl⟩ := H
       obtain ⟨Ao25, co25, eo25⟩ := Kd.R_slice HO_4.out
       subst eo25
       go_wp2_with (first | ((with_reducible refine gate_callee (f := 24) rfl ?_); refine gL_ (some 40) Tryd.func24 #[.slice Ao25 x4_1.length co25] ?_; (with_reducible refine (spec_IsShape.calls k1 _ _ x4_1 true _ ?side1 ?side2 A18.out).mono ?_); (case side1 => exact cS_ ((Kd.R_reads' HO_4.out).2.2)); (case side2 => exact (Kd.R_reads' HO_4.out).2.1); rintro e w26 ⟨rfl, hb⟩; refine ⟨_, rfl, ?_⟩; replace HO_4 := Aside0.mk (Kd.R_below (rS_ HO_4.out) hb); replace BK417 := Aside0.mk (blk_below (g := gb417) (o := .cells #[.int .i64 x418000_1, .int .i64 x418001_1] 43 (0, 0)) (by (with_reducible repeat (first | refine blk_drewN ?_ _ | refine blk_drew ?_ | refine blk_alloc ?_ _)); exact BK417.out) hb); replace HB := Aside0.mk (below_step (by repeat (first | (with_reducible first | exact HB.out | apply below_alloc | apply pw_below_drewN | apply below_drew1 | refine below_set ?_ GE417.out) | exact HB.out)) hb); (try clear hb)) | (go_at_call 17; (with_reducible refine (spec_l04Text.calls k1 _ _ x4_1 t422 _ ?side1 ?side2 A20.out).mono ?_); (case side1 => exact cS_ ((Kd.R_reads' HO_4.out).2.2)); (case side2 => exact (Kd.R_reads' HO_4.out).2.1); rintro e w27 ⟨rfl, hb⟩; replace HO_4 := Aside0.mk (Kd.R_below (rS_ HO_4.out) hb); replace BK417 := Aside0.mk (blk_below (g := gb417) (o := .cells #[.int .i64 x418000_1, .int .i64 x418001_1] 43 (0, 0)) (by (with_reducible repeat (first | refine blk_drewN ?_ _ | refine blk_drew ?_ | refine blk_alloc ?_ _)); exact BK417.out) hb); replace HB := Aside0.mk (below_step (by repeat (first | (with_reducible first | exact HB.out | apply below_alloc | apply pw_below_drewN | apply below_drew1 | refine below_set ?_ GE417.out) | exact HB.out)) hb); (try clear hb)))
       go_ret2
       exact ⟨_, r2_, by first | exact Kd.R_nil _ _ _ _ _ | exact Kd.N_nil _ _ _ _ _ | exact Kd.V_nil _ _ _ _ _ | exact Kd.Q_nil _ _ _ _ _ | exact Kd.S_nil _ _ _ _ _, by repeat (first | (with_reducible first | exact HB.out | apply below_alloc | apply pw_below_drewN | apply below_drew1 | refine below_set ?_ GE417.out) | exact HB.out)⟩
     ·replace c19 := Bool.eq_false_iff.mpr c19
      subst c19
      have H1 : (some (([] : List (S43)), 6)) = some (r1, r2) := by rw [if_neg (show ¬ (false = true) by decide)] at H; exact H
      clear H
      have H := H1
      clear H1
      simp only [Option.some.injEq, Prod.mk.injEq] at H
      obtain ⟨rfl, rfl⟩ := H
      obtain ⟨Ao28, co28, eo28⟩ := Kd.R_slice HO_4.out
      subst eo28
      go_wp2_with (first | ((with_reducible refine gate_callee (f := 24) rfl ?_); refine gL_ (some 40) Tryd.func24 #[.slice Ao28 x4_1.length co28] ?_; (with_reducible refine (spec_IsShape.calls k1 _ _ x4_1 false _ ?side1 ?side2 A18.out).mono ?_); (case side1 => exact cS_ ((Kd.R_reads' HO_4.out).2.2)); (case side2 => exact (Kd.R_reads' HO_4.out).2.1); rintro e w29 ⟨rfl, hb⟩; refine ⟨_, rfl, ?_⟩; replace HO_4 := Aside0.mk (Kd.R_below (rS_ HO_4.out) hb); replace BK417 := Aside0.mk (blk_below (g := gb417) (o := .cells #[.int .i64 x418000_1, .int .i64 x418001_1] 43 (0, 0)) (by (with_reducible repeat (first | refine blk_drewN ?_ _ | refine blk_drew ?_ | refine blk_alloc ?_ _)); exact BK417.out) hb); replace HB := Aside0.mk (below_step (by repeat (first | (with_reducible first | exact HB.out | apply below_alloc | apply pw_below_drewN | apply below_drew1 | refine below_set ?_ GE417.out) | exact HB.out)) hb); (try clear hb)))
      go_ret2
      exact ⟨_, r2_, by first | exact Kd.R_nil _ _ _ _ _ | exact Kd.N_nil _ _ _ _ _ | exact Kd.V_nil _ _ _ _ _ | exact Kd.Q_nil _ _ _ _ _ | exact Kd.S_nil _ _ _ _ _, by repeat (first | (with_reducible first | exact HB.out | apply below_alloc | apply pw_below_drewN | apply below_drew1 | refine below_set ?_ GE417.out) | exact HB.out)⟩

end Go.Proofs.YtpilmhjbgbpbmaaDoor.X
