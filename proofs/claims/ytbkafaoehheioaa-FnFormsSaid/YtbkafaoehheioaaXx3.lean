-- xprint.py
import Derived.Test.YtbkafaoehheioaaXx0
import Derived.Test.YtbkafaoehheioaaXx2
namespace Go.Proofs.Ytbkafaoehheioaa.X
open Go.RowKit Go.Proofs.YtbkafaoehheioaaW.PrintWords Go.Proofs.YtbkafaoehheioaaW.PrintLast Go.Proofs.YtbkafaoehheioaaW.PrintMore
attribute [local go_sem] max2_int min2_int max_two min_two max_three min_three max_four min_four   -- for this text's walks alone
set_option linter.unusedVariables false
set_option linter.unusedSimpArgs false

/-! ### spec_l02Insert: function 79 -/
def spec_l02Insert.l0 : Nat → List (S55) → List (S55) → Bool → Int → Int → Int → Option ((List (S55)))
 | 0, _, _, _, _, _, _ => none
 | k + 1, x0, x5, x6, x7, x179000, x179001 => if x7 < (x0.length : Int) then (if x6 = true then (if 0 ≤ x7 then (if x5.length < 8796093022208 then (spec_l02Insert.l0 k x0 (x5 ++ [(⟨(rd_T55 x0 x7).f0, (rd_T55 x0 x7).f1⟩ : S55)]) x6 (wrap64 (x7 + 1)) x179000 x179001) else (none)) else (none)) else (if 0 ≤ x7 then ((spec_l02Less.f x179000 x179001 ((rd_T55 x0 x7).f0) ((rd_T55 x0 x7).f1)).bind fun t187 => (if t187 = true then (if x5.length < 8796093022208 then ((some (x5 ++ [(⟨x179000, x179001⟩ : S55)] : List (S55))).bind fun y188 => (if y188.length < 8796093022208 then (spec_l02Insert.l0 k x0 (y188 ++ [(⟨(rd_T55 x0 x7).f0, (rd_T55 x0 x7).f1⟩ : S55)]) true (wrap64 (x7 + 1)) x179000 x179001) else (none))) else (none)) else (if x5.length < 8796093022208 then (spec_l02Insert.l0 k x0 (x5 ++ [(⟨(rd_T55 x0 x7).f0, (rd_T55 x0 x7).f1⟩ : S55)]) x6 (wrap64 (x7 + 1)) x179000 x179001) else (none)))) else (none))) else (if x6 = true then (some x5) else (if x5.length < 8796093022208 then (some (x5 ++ [(⟨x179000, x179001⟩ : S55)])) else (none)))
def spec_l02Insert.f (k : Nat) (l0 : List (S55)) (a1_0 : Int) (a1_1 : Int) : Option ((List (S55))) := spec_l02Insert.l0 k l0 (([] : List (S55))) false 0 a1_0 a1_1
theorem spec_l02Insert.mono_l : ∀ k, (∀ y0 y1 y2 y3 y4 y5, LeO (spec_l02Insert.l0 k y0 y1 y2 y3 y4 y5) (spec_l02Insert.l0 (k + 1) y0 y1 y2 y3 y4 y5))
 | 0 => fun _ _ _ _ _ _ r h => by simp [spec_l02Insert.l0] at h
 | k + 1 => by
  have ih0 := spec_l02Insert.mono_l k
  ·intro y0 y1 y2 y3 y4 y5
   unfold spec_l02Insert.l0
   repeat' first
   | (with_reducible exact ih0 _ _ _ _ _ _)
   | (with_reducible exact LeO.refl _)
   | (with_reducible exact LeO.none _)
   | (with_reducible refine LeO.ite ?_ ?_)
   | (with_reducible refine LeO.bind ?_ (fun _ => ?_))
   | exact ih0 _ _ _ _ _ _
   | exact LeO.none _
   | refine LeO.ite ?_ ?_
   | refine LeO.bind ?_ (fun _ => ?_)
theorem spec_l02Insert.mono : ∀ a0 a1 a2 k, LeO (spec_l02Insert.f k a0 a1 a2) (spec_l02Insert.f (k + 1) a0 a1 a2) := by
 intro a0 a1 a2 k
 have ih0 := spec_l02Insert.mono_l k
 unfold spec_l02Insert.f
 repeat' first
   | (with_reducible exact ih0 _ _ _ _ _ _)
   | (with_reducible exact LeO.refl _)
   | (with_reducible exact LeO.none _)
   | (with_reducible refine LeO.ite ?_ ?_)
   | (with_reducible refine LeO.bind ?_ (fun _ => ?_))
   | exact ih0 _ _ _ _ _ _
   | exact LeO.none _
   | refine LeO.ite ?_ ?_
   | refine LeO.bind ?_ (fun _ => ?_)
def spec_l02Insert.T6 : Bool × List (List Nat × List Nat) := (true, [([], []), ([0], [0]), ([1], [1]), ([2], [2]), ([2], [2]), ([2], [2]), ([4, 5, 2], [2, 4, 5]), ([6, 2], [2, 6]), ([3, 7, 2, 2], [2, 3, 7]), ([2, 8], [2, 8])])
def spec_l02Insert.B6 : List Nat := [0, 1, 3, 7, 7, 7, 55, 119, 255, 511]
theorem spec_l02Insert.tab6 : rtab .any (opsOf Try.f79 6) = spec_l02Insert.T6 := by kernel_rfl
theorem spec_l02Insert.bits6 : waitsOk spec_l02Insert.T6.2 spec_l02Insert.B6 = true := by kernel_rfl
set_option maxHeartbeats 8000000 in
set_option maxRecDepth 100000 in
theorem spec_l02Insert.calls (k : Nat) (A0 : Option Addr) (c0 : Nat) (l0 : List (S55)) (a1_0 : Int) (a1_1 : Int) (r : List (S55)) (w : World) (hr0 : Kd.C k55 w A0 l0.length l0) (hc0 : l0.length ≤ c0) (h : spec_l02Insert.f k l0 a1_0 a1_1 = some r) :
  Calls Try.prog 79 #[.slice A0 l0.length c0, .agg #[.int .i64 a1_0, .int .i64 a1_1]] w fun e w' => ∃ v0_ : Value, e = .returned (v0_) ∧ Kd.R k55 55 w' w.heap.size (fun _ => True) v0_ r ∧ Below w.heap.size w w' := by
 have hu55 := Try.underlying55
 have HR0 := Aside0.mk hr0
 have HC0 := Aside0.mk hc0
 clear hr0 hc0
 have HB := Aside0.mk (Below.refl w.heap.size w)
 have H : (spec_l02Insert.l0 k l0 (([] : List (S55))) false 0 a1_0 a1_1) = some r := h
 clear h
 obtain ⟨y179, hY_⟩ : ∃ y_ : List (S55), y_ = (([] : List (S55))) := ⟨_, rfl⟩
 replace H : (spec_l02Insert.l0 k l0 y179 false 0 a1_0 a1_1) = some r := yY_
 have Ny179 := Aside0.mk hY_
 clear hY_
 have H' := Aside0.mk H
 clear H
 go_enter Try.func79, Try.ntmps79
 go_wp2_with (first | ((with_reducible refine gate_dst (N := 3) rfl ?_); refine box_event ?hg (N := 3) ?hd (cs := #[.int .i64 a1_0, .int .i64 a1_1]) (t := 55) ?hr ?_; (case hd => rfl); (case hg => rfl); (case hr => first | (go_simp; done) | (go_simp; rfl)); intro gb178 hg w3 hbox hb; have BK178 := Aside0.mk (hbox); have GW178 := Aside0.mk ((by rw [hg]; exact (below_size bB_) : w.heap.size ≤ gb178)); have GE178 := Aside0.mk ((by rw [hg]; exact (below_size bB_) : w.heap.size ≤ gb178)); replace HB := Aside0.mk (below_step bB_ hb); clear hb hbox hg) | ((with_reducible refine gate_dst (N := 8) rfl ?_); refine Kd.R_lit k55 _ 55 ?hg (N := 8) ?hd (xs := ([] : List (S55))) (inner := []) (ok := fun _ => True) (okp := fun _ => True) ?hr ?hp (fun _ hk => hk) trivial (Below.refl _ _) (Nat.le_refl _) (by simp) ?_; (case hd => rfl); (case hg => rfl); (case hr => first | (go_simp; done) | (go_simp; rfl)); (case hp => exact (Reps.none _ _)); intro v180 w4 ho5 hb hg_ hnew_; clear hg_ hnew_; (first | rw [← Ny179.out] at ho5 | (simp only [Int.reduceToNat] at ho5; rw [← Ny179.out] at ho5)); have HO181 := Aside0.mk (Kd.R_lower (Kd.R_newB ho5 (g := gb178) (o := .cells #[.int .i64 a1_0, .int .i64 a1_1] 55 (0, 0)) (by (with_reducible repeat (first | refine blk_drewN ?_ _ | refine blk_drew ?_ | refine blk_alloc ?_ _)); exact BK178.out)) (below_size (by repeat (first | (with_reducible first | exact HB.out | apply below_alloc | apply pw_below_drewN | apply below_drew1 | refine below_set ?_ GE178.out) | exact HB.out)))); replace BK178 := Aside0.mk (blk_below (g := gb178) (o := .cells #[.int .i64 a1_0, .int .i64 a1_1] 55 (0, 0)) (by (with_reducible repeat (first | refine blk_drewN ?_ _ | refine blk_drew ?_ | refine blk_alloc ?_ _)); exact BK178.out) hb); replace HB := Aside0.mk (below_step (by repeat (first | (with_reducible first | exact HB.out | apply below_alloc | apply pw_below_drewN | apply below_drew1 | refine below_set ?_ GE178.out) | exact HB.out)) hb); clear hb ho5))
 go_loopg [5, 6, 7] k (fun kq v5 v6 v7 w' => ∃ (x5_1 : List (S55)) (x6_1 : Bool) (x7_1 : Int), v6 = .bool x6_1 ∧ v7 = .int .i64 x7_1 ∧ Aside0 (spec_l02Insert.l0 kq l0 x5_1 x6_1 x7_1 a1_0 a1_1 = some r) ∧ Aside0 (kq ≤ k) ∧ Aside0 (Kd.R k55 55 w' w.heap.size (fun k_ => k_ ≠ gb178) v5 x5_1) ∧ Aside0 (w'.heap[gb178]? = some (.cells #[.int .i64 a1_0, .int .i64 a1_1] 55 (0, 0))) ∧ Aside0 (Below w.heap.size w w'))
 case atStart => exact ⟨(y179), (false), (0), r3_, r3_, H', ⟨Nat.le_refl _⟩, ⟨rS_ (Kd.R_mono HO181.out (fun _ hk => hk.2))⟩, ⟨by (with_reducible repeat (first | refine blk_drewN ?_ _ | refine blk_drew ?_ | refine blk_alloc ?_ _)); exact BK178.out⟩, ⟨by repeat (first | (with_reducible first | exact HB.out | apply below_alloc | apply pw_below_drewN | apply below_drew1 | refine below_set ?_ GE178.out) | exact HB.out)⟩⟩
 case round =>
  clear H'
  try clear p2
  obtain ⟨x5_1, x6_1, x7_1, rfl, rfl, HA, HK1, HO_5, BK178, HB⟩ := hrel
  cases gk with
  | zero => exact absurd HA.out (by simp [spec_l02Insert.l0])
  | succ k1 =>
   have H := HA.out
   clear HA
   simp only [spec_l02Insert.l0] at H
   by_cases c6 : x7_1 < (l0.length : Int)
   ·rw [if_pos c6] at H
    have c6b0 : decide (x7_1 < (l0.length : Int)) = true := decide_eq_true c6
    clear c6
    by_cases c7 : x6_1 = true
    ·subst c7
     have H1 : (if 0 ≤ x7_1 then (if x5_1.length < 8796093022208 then (spec_l02Insert.l0 k1 l0 (x5_1 ++ [(⟨(rd_T55 l0 x7_1).f0, (rd_T55 l0 x7_1).f1⟩ : S55)]) true (wrap64 (x7_1 + 1)) a1_0 a1_1) else (none)) else (none)) = some r := by rw [if_pos rfl] at H; exact H
     clear H
     have H := H1
     clear H1
     by_cases c8 : 0 ≤ x7_1
     ·rw [if_pos c8] at H
      have c8b0 : decide (0 ≤ x7_1) = true := decide_eq_true c8
      clear c8
      by_cases c9 : x5_1.length < 8796093022208
      ·rw [if_pos c9] at H
       have LMc9 := Aside0.mk c9
       clear c9
       obtain ⟨y183, hY_⟩ : ∃ y_ : List (S55), y_ = (x5_1 ++ [(⟨(rd_T55 l0 x7_1).f0, (rd_T55 l0 x7_1).f1⟩ : S55)]) := ⟨_, rfl⟩
       replace H : (spec_l02Insert.l0 k1 l0 y183 true (wrap64 (x7_1 + 1)) a1_0 a1_1) = some r := yY_
       have Ny183 := Aside0.mk hY_
       clear hY_
       have H' := Aside0.mk H
       clear H
       try go_wp2
       replace HO_5 := Aside0.mk (Kd.R_drew HO_5.out)
       replace BK178 := Aside0.mk (blk_drew BK178.out)
       replace HB := Aside0.mk (below_drew1 HB.out)
       refine start_ (n := 10) (S := fun w' => True) (ds := []) #[F, F, F, F, F, F, F, F, F, F] (by kernel_rfl) rfl rfl trivial (fun hHeld => ?_); refine with_tabW spec_l02Insert.tab6 spec_l02Insert.bits6 (fun HT_ HW_ => ?_)
       generalize wr.drew = w10 at HO_5 BK178 HB hHeld ⊢
       refine pu_ HT_ 0 (some 15) #[T,F,F,F,F,F,F,F,F,F] ?_
       refine pu_ HT_ 1 (some 16) #[T,T,F,F,F,F,F,F,F,F] ?_
       refine pu_ HT_ 2 (some 17) #[T,T,T,F,F,F,F,F,F,F] ?_
       refine pn_ HT_ 3 (some 18) #[T,T,T,T,F,F,F,F,F,F] ?_
       refine pn_ HT_ 4 (some 19) #[T,T,T,T,T,F,F,F,F,F] ?_
       refine pn_ HT_ 5 (some 20) #[T,T,T,T,T,T,F,F,F,F] ?_
       refine pn_ HT_ 6 (some 21) #[T,T,T,T,T,T,T,F,F,F] ?_
       refine pn_ HT_ 7 (some 22) #[T,T,T,T,T,T,T,T,F,F] ?_
       refine pn_ HT_ 8 (some 23) #[T,T,T,T,T,T,T,T,T,F] ?_
       refine pu_ HT_ 9 (some 24) #[T,T,T,T,T,T,T,T,T,T] ?_
       refine done_ (done_of HT_.out (by kernel_rfl)) ?_
       have p182 : 0 ≤ (x7_1 : Int) := of_decide_eq_true aS_
       have q182 : x7_1 < (l0.length : Int) := of_decide_eq_true aS_
       obtain ⟨ad182, e182, hx182_0, hx182_1⟩ := at_T55 HR0.out x7_1 p182 q182
       cases e182
       replace hx182_0 := (HB.out.cell (World.block_lt_of_cell? w _ hx182_0)).trans hx182_0
       replace hx182_1 := (HB.out.cell (World.block_lt_of_cell? w _ hx182_1)).trans hx182_1
       replace p182 := eq_true p182
       replace q182 := eq_true q182
       try go_wp2_with (first | ((with_reducible refine gate_builtin (b := .append) (xs := #[.tmp 29, .tmp 34]) rfl ?_); at_builtin; refine Kd.R_append k55 (w0 := w) w.heap.size rfl (.tmp 29) (.tmp 34) 27 55 (.agg #[(.int .i64 0), (.int .i64 0)]) 16 rfl Try.underlying27 info55 rfl (by decide) (by omega) u5 x5_1 (⟨(rd_T55 l0 x7_1).f0, (rd_T55 l0 x7_1).f1⟩ : S55) [.int .i64 ((rd_T55 l0 x7_1).f0), .int .i64 ((rd_T55 l0 x7_1).f1)] (fun k_ => k_ ≠ gb178) (fun _ => False) rfl rfl ?aP (fun _ hk => hk.elim) ?aF ?aO ?aB ?aS ?aL ?_; (case aP => exact k55_mkM _ _ _ (⟨(rd_T55 l0 x7_1).f0, (rd_T55 l0 x7_1).f1⟩ : S55)); (case aB => exact (by repeat (first | (with_reducible first | exact HB.out | apply below_alloc | apply pw_below_drewN | apply below_drew1 | refine below_set ?_ GE178.out) | exact HB.out))); (case aF => exact (fun k_ hk => Kd.freshB (g := gb178) (o := .cells #[.int .i64 a1_0, .int .i64 a1_1] 55 (0, 0)) (by (with_reducible repeat (first | refine blk_drewN ?_ _ | refine blk_drew ?_ | refine blk_alloc ?_ _)); exact BK178.out) k_ hk)); (case aO => exact (rS_ HO_5.out)); (case aS => exact (below_size (by repeat (first | (with_reducible first | exact HB.out | apply below_alloc | apply pw_below_drewN | apply below_drew1 | refine below_set ?_ GE178.out) | exact HB.out)))); (case aL => have := LMc9.out; omega); intro v184 w11 ho hb hg hat; rw [← Ny183.out] at ho; replace BK178 := Aside0.mk (blk_grown (g := gb178) (o := .cells #[.int .i64 a1_0, .int .i64 a1_1] 55 (0, 0)) (by (with_reducible repeat (first | refine blk_drewN ?_ _ | refine blk_drew ?_ | refine blk_alloc ?_ _)); exact BK178.out) hg (Kd.R_away HO_5.out (fun _ hk => hk))); replace HB := Aside0.mk (hb); have HO185 := Aside0.mk (ho); clear HO_5; clear ho hb hg hat))
       go_roundg k1
       case measure => have := HK1.out; omega
       case rel => exact ⟨(y183), (true), (wrap64 (x7_1 + 1)), r3_, r3_, H', ⟨by have := HK1.out; omega⟩, ⟨rS_ HO185.out⟩, ⟨by (with_reducible repeat (first | refine blk_drewN ?_ _ | refine blk_drew ?_ | refine blk_alloc ?_ _)); exact BK178.out⟩, ⟨by repeat (first | (with_reducible first | exact HB.out | apply below_alloc | apply pw_below_drewN | apply below_drew1 | refine below_set ?_ GE178.out) | exact HB.out)⟩⟩
      ·rw [if_neg c9] at H
       exact absurd H (by simp)
     ·rw [if_neg c8] at H
      exact absurd H (by simp)
    ·replace c7 := Bool.eq_false_iff.mpr c7
     subst c7
     have H1 : (if 0 ≤ x7_1 then ((spec_l02Less.f a1_0 a1_1 ((rd_T55 l0 x7_1).f0) ((rd_T55 l0 x7_1).f1)).bind fun t187 => (if t187 = true then (if x5_1.length < 8796093022208 then ((some (x5_1 ++ [(⟨a1_0, a1_1⟩ : S55)] : List (S55))).bind fun y188 => (if y188.length < 8796093022208 then (spec_l02Insert.l0 k1 l0 (y188 ++ [(⟨(rd_T55 l0 x7_1).f0, (rd_T55 l0 x7_1).f1⟩ : S55)]) true (wrap64 (x7_1 + 1)) a1_0 a1_1) else (none))) else (none)) else (if x5_1.length < 8796093022208 then (spec_l02Insert.l0 k1 l0 (x5_1 ++ [(⟨(rd_T55 l0 x7_1).f0, (rd_T55 l0 x7_1).f1⟩ : S55)]) false (wrap64 (x7_1 + 1)) a1_0 a1_1) else (none)))) else (none)) = some r := by rw [if_neg (show ¬ (false = true) by decide)] at H; exact H
     clear H
     have H := H1
     clear H1
     by_cases c12 : 0 ≤ x7_1
     ·rw [if_pos c12] at H
      have c12b0 : decide (0 ≤ x7_1) = true := decide_eq_true c12
      clear c12
      replace H := Option.bind_eq_some_iff.mp H
      obtain ⟨t187, A130, H⟩ := H
      try dsimp only at H
      have A13 := Aside0.mk A130
      clear A130
      by_cases c14 : t187 = true
      ·subst c14
       have H1 : (if x5_1.length < 8796093022208 then ((some (x5_1 ++ [(⟨a1_0, a1_1⟩ : S55)] : List (S55))).bind fun y188 => (if y188.length < 8796093022208 then (spec_l02Insert.l0 k1 l0 (y188 ++ [(⟨(rd_T55 l0 x7_1).f0, (rd_T55 l0 x7_1).f1⟩ : S55)]) true (wrap64 (x7_1 + 1)) a1_0 a1_1) else (none))) else (none)) = some r := by rw [if_pos rfl] at H; exact H
       clear H
       have H := H1
       clear H1
       by_cases c15 : x5_1.length < 8796093022208
       ·rw [if_pos c15] at H
        have LMc15 := Aside0.mk c15
        clear c15
        obtain ⟨y188, hY_⟩ : ∃ y_ : List (S55), y_ = (x5_1 ++ [(⟨a1_0, a1_1⟩ : S55)]) := ⟨_, rfl⟩
        replace H : (if y188.length < 8796093022208 then (spec_l02Insert.l0 k1 l0 (y188 ++ [(⟨(rd_T55 l0 x7_1).f0, (rd_T55 l0 x7_1).f1⟩ : S55)]) true (wrap64 (x7_1 + 1)) a1_0 a1_1) else (none)) = some r := yY_
        have Ny188 := Aside0.mk hY_
        clear hY_
        by_cases c16 : y188.length < 8796093022208
        ·rw [if_pos c16] at H
         have LMc16 := Aside0.mk c16
         clear c16
         obtain ⟨y192, hY_⟩ : ∃ y_ : List (S55), y_ = (y188 ++ [(⟨(rd_T55 l0 x7_1).f0, (rd_T55 l0 x7_1).f1⟩ : S55)]) := ⟨_, rfl⟩
         replace H : (spec_l02Insert.l0 k1 l0 y192 true (wrap64 (x7_1 + 1)) a1_0 a1_1) = some r := yY_
         have Ny192 := Aside0.mk hY_
         clear hY_
         have H' := Aside0.mk H
         clear H
         try go_wp2
         replace HO_5 := Aside0.mk (Kd.R_drew HO_5.out)
         replace BK178 := Aside0.mk (blk_drew BK178.out)
         replace HB := Aside0.mk (below_drew1 HB.out)
         have p186 : 0 ≤ (x7_1 : Int) := of_decide_eq_true aS_
         have q186 : x7_1 < (l0.length : Int) := of_decide_eq_true aS_
         obtain ⟨ad186, e186, hx186_0, hx186_1⟩ := at_T55 HR0.out x7_1 p186 q186
         have hw186_1 := hx186_1
         have hw186_0 := hx186_0
         cases e186
         replace hx186_0 := (HB.out.cell (World.block_lt_of_cell? w _ hx186_0)).trans hx186_0
         replace hx186_1 := (HB.out.cell (World.block_lt_of_cell? w _ hx186_1)).trans hx186_1
         replace p186 := eq_true p186
         replace q186 := eq_true q186
         refine start_ (n := 10) (S := fun w' => w'.cell? ⟨gb178, 0, none⟩ = some (.int .i64 a1_0) ∧ w'.cell? ⟨gb178, 1, none⟩ = some (.int .i64 a1_1) ∧ w'.cell? (ad186.add ((x7_1).toNat * 2)) = some (.int .i64 ((rd_T55 l0 x7_1).f0)) ∧ w'.cell? ⟨(ad186.add ((x7_1).toNat * 2)).block, (ad186.add ((x7_1).toNat * 2)).off + 1, none⟩ = some (.int .i64 ((rd_T55 l0 x7_1).f1))) (ds := []) #[F, F, F, F, F, F, F, F, F, F] (by kernel_rfl) rfl rfl ⟨(blk_cell BK178.out 0).trans rfl, (blk_cell BK178.out 1).trans rfl, ((HB.out.cell (World.block_lt_of_cell? w _ hw186_0)).trans hw186_0), ((HB.out.cell (World.block_lt_of_cell? w _ hw186_1)).trans hw186_1)⟩ (fun hHeld => ?_); refine with_tabW spec_l02Insert.tab6 spec_l02Insert.bits6 (fun HT_ HW_ => ?_)
         generalize wr.drew = w17 at HO_5 BK178 HB hx186_0 hx186_1 hHeld ⊢
         refine pu_ HT_ 0 (some 15) #[T,F,F,F,F,F,F,F,F,F] ?_
         refine pu_ HT_ 1 (some 16) #[T,T,F,F,F,F,F,F,F,F] ?_
         refine pu_ HT_ 2 (some 17) #[T,T,T,F,F,F,F,F,F,F] ?_
         refine pu_ HT_ 4 (some 19) #[T,T,T,F,T,F,F,F,F,F] ?_
         refine pu_ HT_ 5 (some 20) #[T,T,T,F,T,T,F,F,F,F] ?_
         refine pu_ HT_ 6 (some 21) #[T,T,T,F,T,T,T,F,F,F] ?_
         refine take_ (i := 3) (N := some 18) (v := ?_) (a' := ?_) #[T, T, T, T, T, T, T, F, F, F] rfl rfl (take_ofW HT_.out HW_.out (by kernel_rfl)) (fun _ _ _ h => h) (Or.inl ⟨by rfl, ?_⟩) hHeld ?_ ?_
         rotate_left
         ·rintro w' ⟨s0, s1, s2, s3⟩
          go_simp
          with_reducible rfl
         rotate_left
         ·simp only [Act.put, List.setIfInBounds_toArray, List.set_cons_zero, List.set_cons_succ, i64_w, i32_w]
          rfl
         refine take_ (i := 7) (N := some 22) (v := ?_) (a' := ?_) #[T, T, T, T, T, T, T, T, F, F] rfl rfl (take_ofW HT_.out HW_.out (by kernel_rfl)) (fun _ _ _ h => h) (Or.inl ⟨by rfl, ?_⟩) hHeld ?_ ?_
         rotate_left
         ·rintro w' ⟨s0, s1, s2, s3⟩
          go_simp
          with_reducible rfl
         rotate_left
         ·simp only [Act.put, List.setIfInBounds_toArray, List.set_cons_zero, List.set_cons_succ, i64_w, i32_w]
          rfl
         refine one_ (i := 8) (N := some 23) #[T, T, T, T, T, T, T, T, T, F] rfl rfl (one_of HT_.out (by kernel_rfl)) (by decide) (fun K hK => ?_)
         refine goes_ Try.func100 (by kernel_rfl) rfl #[.agg #[.int .i64 a1_0, .int .i64 a1_1], .agg #[.int .i64 ((rd_T55 l0 x7_1).f0), .int .i64 ((rd_T55 l0 x7_1).f1)]] (by rfl) rfl rfl mA_ ?_
         with_reducible refine (spec_l02Less.calls a1_0 a1_1 ((rd_T55 l0 x7_1).f0) ((rd_T55 l0 x7_1).f1) true _ A13.out).mono ?_
         rintro e w18 ⟨rfl, hb⟩
         refine ⟨_, rfl, ?_⟩
         replace HO_5 := Aside0.mk (Kd.R_below (rS_ HO_5.out) hb)
         replace BK178 := Aside0.mk (blk_below (g := gb178) (o := .cells #[.int .i64 a1_0, .int .i64 a1_1] 55 (0, 0)) (by (with_reducible repeat (first | refine blk_drewN ?_ _ | refine blk_drew ?_ | refine blk_alloc ?_ _)); exact BK178.out) hb)
         replace HB := Aside0.mk (below_step (by repeat (first | (with_reducible first | exact HB.out | apply below_alloc | apply pw_below_drewN | apply below_drew1 | refine below_set ?_ GE178.out) | exact HB.out)) hb)
         (try clear hb)
         refine hK.out _ _ ⟨(blk_cell BK178.out 0).trans rfl, (blk_cell BK178.out 1).trans rfl, ((HB.out.cell (World.block_lt_of_cell? w _ hw186_0)).trans hw186_0), ((HB.out.cell (World.block_lt_of_cell? w _ hw186_1)).trans hw186_1)⟩ (fun hHeld => ?_)
         clear hK K
         refine no_ (some 23) ?_
         refine pu_ HT_ 9 (some 24) #[T,T,T,T,T,T,T,T,T,T] ?_
         refine done_ (done_of HT_.out (by kernel_rfl)) ?_
         have hcz19_0 : w18.cell? ⟨gb178, 0, none⟩ = some (.int .i64 a1_0) := (blk_cell BK178.out 0).trans rfl
         have hcz19_1 : w18.cell? ⟨gb178, 1, none⟩ = some (.int .i64 a1_1) := (blk_cell BK178.out 1).trans rfl
         have hfz19_0 := blk_frozen BK178.out 0
         have hfz19_1 := blk_frozen BK178.out 1
         try go_wp2_with (first | ((with_reducible refine gate_builtin (b := .append) (xs := #[.tmp 25, .tmp 27]) rfl ?_); at_builtin; refine Kd.R_append k55 (w0 := w) w.heap.size rfl (.tmp 25) (.tmp 27) 27 55 (.agg #[(.int .i64 0), (.int .i64 0)]) 16 rfl Try.underlying27 info55 rfl (by decide) (by omega) u5 x5_1 (⟨a1_0, a1_1⟩ : S55) [.int .i64 a1_0, .int .i64 a1_1] (fun k_ => k_ ≠ gb178) (fun _ => False) rfl rfl ?aP (fun _ hk => hk.elim) ?aF ?aO ?aB ?aS ?aL ?_; (case aP => exact k55_mkM _ _ _ (⟨a1_0, a1_1⟩ : S55)); (case aB => exact (by repeat (first | (with_reducible first | exact HB.out | apply below_alloc | apply pw_below_drewN | apply below_drew1 | refine below_set ?_ GE178.out) | exact HB.out))); (case aF => exact (fun k_ hk => Kd.freshB (g := gb178) (o := .cells #[.int .i64 a1_0, .int .i64 a1_1] 55 (0, 0)) (by (with_reducible repeat (first | refine blk_drewN ?_ _ | refine blk_drew ?_ | refine blk_alloc ?_ _)); exact BK178.out) k_ hk)); (case aO => exact (rS_ HO_5.out)); (case aS => exact (below_size (by repeat (first | (with_reducible first | exact HB.out | apply below_alloc | apply pw_below_drewN | apply below_drew1 | refine below_set ?_ GE178.out) | exact HB.out)))); (case aL => have := LMc15.out; omega); intro v189 w20 ho hb hg hat; rw [← Ny188.out] at ho; replace BK178 := Aside0.mk (blk_grown (g := gb178) (o := .cells #[.int .i64 a1_0, .int .i64 a1_1] 55 (0, 0)) (by (with_reducible repeat (first | refine blk_drewN ?_ _ | refine blk_drew ?_ | refine blk_alloc ?_ _)); exact BK178.out) hg (Kd.R_away HO_5.out (fun _ hk => hk))); replace HB := Aside0.mk (hb); have HO190 := Aside0.mk (ho); clear HO_5; clear ho hb hg hat; have p191 : 0 ≤ (x7_1 : Int) := of_decide_eq_true aS_; have q191 : x7_1 < (l0.length : Int) := of_decide_eq_true aS_; obtain ⟨ad191, e191, hx191_0, hx191_1⟩ := at_T55 HR0.out x7_1 p191 q191; obtain rfl : ad186 = ad191 := (by injection e191); replace hx191_0 := (HB.out.cell (World.block_lt_of_cell? w _ hx191_0)).trans hx191_0; replace hx191_1 := (HB.out.cell (World.block_lt_of_cell? w _ hx191_1)).trans hx191_1; replace p191 := eq_true p191; replace q191 := eq_true q191) | ((with_reducible refine gate_builtin (b := .append) (xs := #[.tmp 29, .tmp 34]) rfl ?_); at_builtin; refine Kd.R_append k55 (w0 := w) w.heap.size rfl (.tmp 29) (.tmp 34) 27 55 (.agg #[(.int .i64 0), (.int .i64 0)]) 16 rfl Try.underlying27 info55 rfl (by decide) (by omega) v189 y188 (⟨(rd_T55 l0 x7_1).f0, (rd_T55 l0 x7_1).f1⟩ : S55) [.int .i64 ((rd_T55 l0 x7_1).f0), .int .i64 ((rd_T55 l0 x7_1).f1)] (fun k_ => k_ ≠ gb178) (fun _ => False) rfl rfl ?aP (fun _ hk => hk.elim) ?aF ?aO ?aB ?aS ?aL ?_; (case aP => exact k55_mkM _ _ _ (⟨(rd_T55 l0 x7_1).f0, (rd_T55 l0 x7_1).f1⟩ : S55)); (case aB => exact (by repeat (first | (with_reducible first | exact HB.out | apply below_alloc | apply pw_below_drewN | apply below_drew1 | refine below_set ?_ GE178.out) | exact HB.out))); (case aF => exact (fun k_ hk => Kd.freshB (g := gb178) (o := .cells #[.int .i64 a1_0, .int .i64 a1_1] 55 (0, 0)) (by (with_reducible repeat (first | refine blk_drewN ?_ _ | refine blk_drew ?_ | refine blk_alloc ?_ _)); exact BK178.out) k_ hk)); (case aO => exact (rS_ HO190.out)); (case aS => exact (below_size (by repeat (first | (with_reducible first | exact HB.out | apply below_alloc | apply pw_below_drewN | apply below_drew1 | refine below_set ?_ GE178.out) | exact HB.out)))); (case aL => have := LMc16.out; omega); intro v193 w21 ho hb hg hat; rw [← Ny192.out] at ho; replace BK178 := Aside0.mk (blk_grown (g := gb178) (o := .cells #[.int .i64 a1_0, .int .i64 a1_1] 55 (0, 0)) (by (with_reducible repeat (first | refine blk_drewN ?_ _ | refine blk_drew ?_ | refine blk_alloc ?_ _)); exact BK178.out) hg (Kd.R_away HO190.out (fun _ hk => hk))); replace HB := Aside0.mk (hb); have HO194 := Aside0.mk (ho); clear HO190; clear ho hb hg hat))
         go_roundg k1
         case measure => have := HK1.out; omega
         case rel => exact ⟨(y192), (true), (wrap64 (x7_1 + 1)), r3_, r3_, H', ⟨by have := HK1.out; omega⟩, ⟨rS_ HO194.out⟩, ⟨by (with_reducible repeat (first | refine blk_drewN ?_ _ | refine blk_drew ?_ | refine blk_alloc ?_ _)); exact BK178.out⟩, ⟨by repeat (first | (with_reducible first | exact HB.out | apply below_alloc | apply pw_below_drewN | apply below_drew1 | refine below_set ?_ GE178.out) | exact HB.out)⟩⟩
        ·rw [if_neg c16] at H
         exact absurd H (by simp)
       ·rw [if_neg c15] at H
        exact absurd H (by simp)
      ·replace c14 := Bool.eq_false_iff.mpr c14
       subst c14
       have H1 : (if x5_1.length < 8796093022208 then (spec_l02Insert.l0 k1 l0 (x5_1 ++ [(⟨(rd_T55 l0 x7_1).f0, (rd_T55 l0 x7_1).f1⟩ : S55)]) false (wrap64 (x7_1 + 1)) a1_0 a1_1) else (none)) = some r := by rw [if_neg (show ¬ (false = true) by decide)] at H; exact H
       clear H
       have H := H1
       clear H1
       by_cases c22 : x5_1.length < 8796093022208
       ·rw [if_pos c22] at H
        have LMc22 := Aside0.mk c22
        clear c22
        obtain ⟨y196, hY_⟩ : ∃ y_ : List (S55), y_ = (x5_1 ++ [(⟨(rd_T55 l0 x7_1).f0, (rd_T55 l0 x7_1).f1⟩ : S55)]) := ⟨_, rfl⟩
        replace H : (spec_l02Insert.l0 k1 l0 y196 false (wrap64 (x7_1 + 1)) a1_0 a1_1) = some r := yY_
        have Ny196 := Aside0.mk hY_
        clear hY_
        have H' := Aside0.mk H
        clear H
        try go_wp2
        replace HO_5 := Aside0.mk (Kd.R_drew HO_5.out)
        replace BK178 := Aside0.mk (blk_drew BK178.out)
        replace HB := Aside0.mk (below_drew1 HB.out)
        have p186 : 0 ≤ (x7_1 : Int) := of_decide_eq_true aS_
        have q186 : x7_1 < (l0.length : Int) := of_decide_eq_true aS_
        obtain ⟨ad186, e186, hx186_0, hx186_1⟩ := at_T55 HR0.out x7_1 p186 q186
        have hw186_1 := hx186_1
        have hw186_0 := hx186_0
        cases e186
        replace hx186_0 := (HB.out.cell (World.block_lt_of_cell? w _ hx186_0)).trans hx186_0
        replace hx186_1 := (HB.out.cell (World.block_lt_of_cell? w _ hx186_1)).trans hx186_1
        replace p186 := eq_true p186
        replace q186 := eq_true q186
        refine start_ (n := 10) (S := fun w' => w'.cell? ⟨gb178, 0, none⟩ = some (.int .i64 a1_0) ∧ w'.cell? ⟨gb178, 1, none⟩ = some (.int .i64 a1_1) ∧ w'.cell? (ad186.add ((x7_1).toNat * 2)) = some (.int .i64 ((rd_T55 l0 x7_1).f0)) ∧ w'.cell? ⟨(ad186.add ((x7_1).toNat * 2)).block, (ad186.add ((x7_1).toNat * 2)).off + 1, none⟩ = some (.int .i64 ((rd_T55 l0 x7_1).f1))) (ds := []) #[F, F, F, F, F, F, F, F, F, F] (by kernel_rfl) rfl rfl ⟨(blk_cell BK178.out 0).trans rfl, (blk_cell BK178.out 1).trans rfl, ((HB.out.cell (World.block_lt_of_cell? w _ hw186_0)).trans hw186_0), ((HB.out.cell (World.block_lt_of_cell? w _ hw186_1)).trans hw186_1)⟩ (fun hHeld => ?_); refine with_tabW spec_l02Insert.tab6 spec_l02Insert.bits6 (fun HT_ HW_ => ?_)
        generalize wr.drew = w23 at HO_5 BK178 HB hx186_0 hx186_1 hHeld ⊢
        refine pu_ HT_ 0 (some 15) #[T,F,F,F,F,F,F,F,F,F] ?_
        refine pu_ HT_ 1 (some 16) #[T,T,F,F,F,F,F,F,F,F] ?_
        refine pu_ HT_ 2 (some 17) #[T,T,T,F,F,F,F,F,F,F] ?_
        refine pu_ HT_ 4 (some 19) #[T,T,T,F,T,F,F,F,F,F] ?_
        refine pu_ HT_ 5 (some 20) #[T,T,T,F,T,T,F,F,F,F] ?_
        refine pu_ HT_ 6 (some 21) #[T,T,T,F,T,T,T,F,F,F] ?_
        refine take_ (i := 3) (N := some 18) (v := ?_) (a' := ?_) #[T, T, T, T, T, T, T, F, F, F] rfl rfl (take_ofW HT_.out HW_.out (by kernel_rfl)) (fun _ _ _ h => h) (Or.inl ⟨by rfl, ?_⟩) hHeld ?_ ?_
        rotate_left
        ·rintro w' ⟨s0, s1, s2, s3⟩
         go_simp
         with_reducible rfl
        rotate_left
        ·simp only [Act.put, List.setIfInBounds_toArray, List.set_cons_zero, List.set_cons_succ, i64_w, i32_w]
         rfl
        refine take_ (i := 7) (N := some 22) (v := ?_) (a' := ?_) #[T, T, T, T, T, T, T, T, F, F] rfl rfl (take_ofW HT_.out HW_.out (by kernel_rfl)) (fun _ _ _ h => h) (Or.inl ⟨by rfl, ?_⟩) hHeld ?_ ?_
        rotate_left
        ·rintro w' ⟨s0, s1, s2, s3⟩
         go_simp
         with_reducible rfl
        rotate_left
        ·simp only [Act.put, List.setIfInBounds_toArray, List.set_cons_zero, List.set_cons_succ, i64_w, i32_w]
         rfl
        refine one_ (i := 8) (N := some 23) #[T, T, T, T, T, T, T, T, T, F] rfl rfl (one_of HT_.out (by kernel_rfl)) (by decide) (fun K hK => ?_)
        refine goes_ Try.func100 (by kernel_rfl) rfl #[.agg #[.int .i64 a1_0, .int .i64 a1_1], .agg #[.int .i64 ((rd_T55 l0 x7_1).f0), .int .i64 ((rd_T55 l0 x7_1).f1)]] (by rfl) rfl rfl mA_ ?_
        with_reducible refine (spec_l02Less.calls a1_0 a1_1 ((rd_T55 l0 x7_1).f0) ((rd_T55 l0 x7_1).f1) false _ A13.out).mono ?_
        rintro e w24 ⟨rfl, hb⟩
        refine ⟨_, rfl, ?_⟩
        replace HO_5 := Aside0.mk (Kd.R_below (rS_ HO_5.out) hb)
        replace BK178 := Aside0.mk (blk_below (g := gb178) (o := .cells #[.int .i64 a1_0, .int .i64 a1_1] 55 (0, 0)) (by (with_reducible repeat (first | refine blk_drewN ?_ _ | refine blk_drew ?_ | refine blk_alloc ?_ _)); exact BK178.out) hb)
        replace HB := Aside0.mk (below_step (by repeat (first | (with_reducible first | exact HB.out | apply below_alloc | apply pw_below_drewN | apply below_drew1 | refine below_set ?_ GE178.out) | exact HB.out)) hb)
        (try clear hb)
        refine hK.out _ _ ⟨(blk_cell BK178.out 0).trans rfl, (blk_cell BK178.out 1).trans rfl, ((HB.out.cell (World.block_lt_of_cell? w _ hw186_0)).trans hw186_0), ((HB.out.cell (World.block_lt_of_cell? w _ hw186_1)).trans hw186_1)⟩ (fun hHeld => ?_)
        clear hK K
        refine no_ (some 23) ?_
        refine pu_ HT_ 9 (some 24) #[T,T,T,T,T,T,T,T,T,T] ?_
        refine done_ (done_of HT_.out (by kernel_rfl)) ?_
        have p195 : 0 ≤ (x7_1 : Int) := of_decide_eq_true aS_
        have q195 : x7_1 < (l0.length : Int) := of_decide_eq_true aS_
        obtain ⟨ad195, e195, hx195_0, hx195_1⟩ := at_T55 HR0.out x7_1 p195 q195
        obtain rfl : ad186 = ad195 := (by injection e195)
        replace hx195_0 := (HB.out.cell (World.block_lt_of_cell? w _ hx195_0)).trans hx195_0
        replace hx195_1 := (HB.out.cell (World.block_lt_of_cell? w _ hx195_1)).trans hx195_1
        replace p195 := eq_true p195
        replace q195 := eq_true q195
        try go_wp2_with (first | ((with_reducible refine gate_builtin (b := .append) (xs := #[.tmp 29, .tmp 34]) rfl ?_); at_builtin; refine Kd.R_append k55 (w0 := w) w.heap.size rfl (.tmp 29) (.tmp 34) 27 55 (.agg #[(.int .i64 0), (.int .i64 0)]) 16 rfl Try.underlying27 info55 rfl (by decide) (by omega) u5 x5_1 (⟨(rd_T55 l0 x7_1).f0, (rd_T55 l0 x7_1).f1⟩ : S55) [.int .i64 ((rd_T55 l0 x7_1).f0), .int .i64 ((rd_T55 l0 x7_1).f1)] (fun k_ => k_ ≠ gb178) (fun _ => False) rfl rfl ?aP (fun _ hk => hk.elim) ?aF ?aO ?aB ?aS ?aL ?_; (case aP => exact k55_mkM _ _ _ (⟨(rd_T55 l0 x7_1).f0, (rd_T55 l0 x7_1).f1⟩ : S55)); (case aB => exact (by repeat (first | (with_reducible first | exact HB.out | apply below_alloc | apply pw_below_drewN | apply below_drew1 | refine below_set ?_ GE178.out) | exact HB.out))); (case aF => exact (fun k_ hk => Kd.freshB (g := gb178) (o := .cells #[.int .i64 a1_0, .int .i64 a1_1] 55 (0, 0)) (by (with_reducible repeat (first | refine blk_drewN ?_ _ | refine blk_drew ?_ | refine blk_alloc ?_ _)); exact BK178.out) k_ hk)); (case aO => exact (rS_ HO_5.out)); (case aS => exact (below_size (by repeat (first | (with_reducible first | exact HB.out | apply below_alloc | apply pw_below_drewN | apply below_drew1 | refine below_set ?_ GE178.out) | exact HB.out)))); (case aL => have := LMc22.out; omega); intro v197 w25 ho hb hg hat; rw [← Ny196.out] at ho; replace BK178 := Aside0.mk (blk_grown (g := gb178) (o := .cells #[.int .i64 a1_0, .int .i64 a1_1] 55 (0, 0)) (by (with_reducible repeat (first | refine blk_drewN ?_ _ | refine blk_drew ?_ | refine blk_alloc ?_ _)); exact BK178.out) hg (Kd.R_away HO_5.out (fun _ hk => hk))); replace HB := Aside0.mk (hb); have HO198 := Aside0.mk (ho); clear HO_5; clear ho hb hg hat))
        go_roundg k1
        case measure => have := HK1.out; omega
        case rel => exact ⟨(y196), (false), (wrap64 (x7_1 + 1)), r3_, r3_, H', ⟨by have := HK1.out; omega⟩, ⟨rS_ HO198.out⟩, ⟨by (with_reducible repeat (first | refine blk_drewN ?_ _ | refine blk_drew ?_ | refine blk_alloc ?_ _)); exact BK178.out⟩, ⟨by repeat (first | (with_reducible first | exact HB.out | apply below_alloc | apply pw_below_drewN | apply below_drew1 | refine below_set ?_ GE178.out) | exact HB.out)⟩⟩
       ·rw [if_neg c22] at H
        exact absurd H (by simp)
     ·rw [if_neg c12] at H
      exact absurd H (by simp)
   ·rw [if_neg c6] at H
    have c6b0 : decide (x7_1 < (l0.length : Int)) = false := decide_eq_false c6
    clear c6
    by_cases c26 : x6_1 = true
    ·subst c26
     have H1 : (some x5_1) = some r := by rw [if_pos rfl] at H; exact H
     clear H
     have H := H1
     clear H1
     obtain rfl := Option.some.inj H
     go_wp2
     go_ret
     exact ⟨_, r2_, rS_ (Kd.R_mono HO_5.out (fun _ hk => trivial)), by repeat (first | (with_reducible first | exact HB.out | apply below_alloc | apply pw_below_drewN | apply below_drew1 | refine below_set ?_ GE178.out) | exact HB.out)⟩
    ·replace c26 := Bool.eq_false_iff.mpr c26
     subst c26
     have H1 : (if x5_1.length < 8796093022208 then (some (x5_1 ++ [(⟨a1_0, a1_1⟩ : S55)])) else (none)) = some r := by rw [if_neg (show ¬ (false = true) by decide)] at H; exact H
     clear H
     have H := H1
     clear H1
     by_cases c27 : x5_1.length < 8796093022208
     ·rw [if_pos c27] at H
      have LMc27 := Aside0.mk c27
      clear c27
      obtain ⟨y199, hY_⟩ : ∃ y_ : List (S55), y_ = (x5_1 ++ [(⟨a1_0, a1_1⟩ : S55)]) := ⟨_, rfl⟩
      replace H : (some y199) = some r := yY_
      have Ny199 := Aside0.mk hY_
      clear hY_
      obtain rfl := Option.some.inj H
      have hcz28_0 : wr.cell? ⟨gb178, 0, none⟩ = some (.int .i64 a1_0) := (blk_cell BK178.out 0).trans rfl
      have hcz28_1 : wr.cell? ⟨gb178, 1, none⟩ = some (.int .i64 a1_1) := (blk_cell BK178.out 1).trans rfl
      have hfz28_0 := blk_frozen BK178.out 0
      have hfz28_1 := blk_frozen BK178.out 1
      go_wp2_with (first | ((with_reducible refine gate_builtin (b := .append) (xs := #[.tmp 38, .tmp 40]) rfl ?_); at_builtin; refine Kd.R_append k55 (w0 := w) w.heap.size rfl (.tmp 38) (.tmp 40) 27 55 (.agg #[(.int .i64 0), (.int .i64 0)]) 16 rfl Try.underlying27 info55 rfl (by decide) (by omega) u5 x5_1 (⟨a1_0, a1_1⟩ : S55) [.int .i64 a1_0, .int .i64 a1_1] (fun k_ => k_ ≠ gb178) (fun _ => False) rfl rfl ?aP (fun _ hk => hk.elim) ?aF ?aO ?aB ?aS ?aL ?_; (case aP => exact k55_mkM _ _ _ (⟨a1_0, a1_1⟩ : S55)); (case aB => exact (by repeat (first | (with_reducible first | exact HB.out | apply below_alloc | apply pw_below_drewN | apply below_drew1 | refine below_set ?_ GE178.out) | exact HB.out))); (case aF => exact (fun k_ hk => Kd.freshB (g := gb178) (o := .cells #[.int .i64 a1_0, .int .i64 a1_1] 55 (0, 0)) (by (with_reducible repeat (first | refine blk_drewN ?_ _ | refine blk_drew ?_ | refine blk_alloc ?_ _)); exact BK178.out) k_ hk)); (case aO => exact (rS_ HO_5.out)); (case aS => exact (below_size (by repeat (first | (with_reducible first | exact HB.out | apply below_alloc | apply pw_below_drewN | apply below_drew1 | refine below_set ?_ GE178.out) | exact HB.out)))); (case aL => have := LMc27.out; omega); intro v200 w29 ho hb hg hat; rw [← Ny199.out] at ho; replace BK178 := Aside0.mk (blk_grown (g := gb178) (o := .cells #[.int .i64 a1_0, .int .i64 a1_1] 55 (0, 0)) (by (with_reducible repeat (first | refine blk_drewN ?_ _ | refine blk_drew ?_ | refine blk_alloc ?_ _)); exact BK178.out) hg (Kd.R_away HO_5.out (fun _ hk => hk))); replace HB := Aside0.mk (hb); have HO201 := Aside0.mk (ho); clear HO_5; clear ho hb hg hat))
      go_ret
      exact ⟨_, r2_, rS_ (Kd.R_mono HO201.out (fun _ hk => trivial)), by repeat (first | (with_reducible first | exact HB.out | apply below_alloc | apply pw_below_drewN | apply below_drew1 | refine below_set ?_ GE178.out) | exact HB.out)⟩
     ·rw [if_neg c27] at H
      exact absurd H (by simp)

/-! ### spec_l02Neighbours: function 77 -/
mutual
def spec_l02Neighbours.l0 : Nat → List (S55) → List (S55) → Int → Option ((List (S55)))
 | 0, _, _, _ => none
 | k + 1, x0, x3, x4 => if x4 < (x0.length : Int) then (if 0 ≤ x4 then ((spec_l02Around.f ((rd_T55 x0 x4).f0) ((rd_T55 x0 x4).f1)).bind fun t206 => (spec_l02Neighbours.l1 k x0 x3 x4 t206 0)) else (none)) else (some x3)
def spec_l02Neighbours.l1 : Nat → List (S55) → List (S55) → Int → List (S55) → Int → Option ((List (S55)))
 | 0, _, _, _, _, _ => none
 | k + 1, x0, x3, x4, x5, x6 => if x6 < 4 then (if 0 ≤ x6 then (if x6 < (x5.length : Int) then ((spec_l02Index.f k x0 ((rd_T55 x5 x6).f0) ((rd_T55 x5 x6).f1)).bind fun t210 => (if t210 < 0 then ((spec_l02Index.f k x3 ((rd_T55 x5 x6).f0) ((rd_T55 x5 x6).f1)).bind fun t212 => (if t212 < 0 then ((spec_l02Insert.f k x3 ((rd_T55 x5 x6).f0) ((rd_T55 x5 x6).f1)).bind fun t214 => (spec_l02Neighbours.l1 k x0 t214 x4 x5 (wrap64 (x6 + 1)))) else (spec_l02Neighbours.l1 k x0 x3 x4 x5 (wrap64 (x6 + 1))))) else (spec_l02Neighbours.l1 k x0 x3 x4 x5 (wrap64 (x6 + 1))))) else (none)) else (none)) else (spec_l02Neighbours.l0 k x0 x3 (wrap64 (x4 + 1)))
end
def spec_l02Neighbours.f (k : Nat) (l0 : List (S55)) : Option ((List (S55))) := spec_l02Neighbours.l0 k l0 (([] : List (S55))) 0
theorem spec_l02Neighbours.mono_l : ∀ k, (∀ y0 y1 y2, LeO (spec_l02Neighbours.l0 k y0 y1 y2) (spec_l02Neighbours.l0 (k + 1) y0 y1 y2)) ∧ (∀ y0 y1 y2 y3 y4, LeO (spec_l02Neighbours.l1 k y0 y1 y2 y3 y4) (spec_l02Neighbours.l1 (k + 1) y0 y1 y2 y3 y4))
 | 0 => ⟨fun _ _ _ r h => by simp [spec_l02Neighbours.l0] at h, fun _ _ _ _ _ r h => by simp [spec_l02Neighbours.l1] at h⟩
 | k + 1 => by
  obtain ⟨ih0, ih1⟩ := spec_l02Neighbours.mono_l k
  refine ⟨?_, ?_⟩
  ·intro y0 y1 y2
   unfold spec_l02Neighbours.l0
   repeat' first
   | (with_reducible exact ih0 _ _ _)
   | (with_reducible exact ih1 _ _ _ _ _)
   | (with_reducible exact spec_l02Index.mono _ _ _ _)
   | (with_reducible exact spec_l02Insert.mono _ _ _ _)
   | (with_reducible exact LeO.refl _)
   | (with_reducible exact LeO.none _)
   | (with_reducible refine LeO.ite ?_ ?_)
   | (with_reducible refine LeO.bind ?_ (fun _ => ?_))
   | exact ih0 _ _ _
   | exact ih1 _ _ _ _ _
   | exact spec_l02Index.mono _ _ _ _
   | exact spec_l02Insert.mono _ _ _ _
   | exact LeO.none _
   | refine LeO.ite ?_ ?_
   | refine LeO.bind ?_ (fun _ => ?_)
  ·intro y0 y1 y2 y3 y4
   unfold spec_l02Neighbours.l1
   repeat' first
   | (with_reducible exact ih0 _ _ _)
   | (with_reducible exact ih1 _ _ _ _ _)
   | (with_reducible exact spec_l02Index.mono _ _ _ _)
   | (with_reducible exact spec_l02Insert.mono _ _ _ _)
   | (with_reducible exact LeO.refl _)
   | (with_reducible exact LeO.none _)
   | (with_reducible refine LeO.ite ?_ ?_)
   | (with_reducible refine LeO.bind ?_ (fun _ => ?_))
   | exact ih0 _ _ _
   | exact ih1 _ _ _ _ _
   | exact spec_l02Index.mono _ _ _ _
   | exact spec_l02Insert.mono _ _ _ _
   | exact LeO.none _
   | refine LeO.ite ?_ ?_
   | refine LeO.bind ?_ (fun _ => ?_)
theorem spec_l02Neighbours.mono : ∀ a0 k, LeO (spec_l02Neighbours.f k a0) (spec_l02Neighbours.f (k + 1) a0) := by
 intro a0 k
 obtain ⟨ih0, ih1⟩ := spec_l02Neighbours.mono_l k
 unfold spec_l02Neighbours.f
 repeat' first
   | (with_reducible exact ih0 _ _ _)
   | (with_reducible exact ih1 _ _ _ _ _)
   | (with_reducible exact spec_l02Index.mono _ _ _ _)
   | (with_reducible exact spec_l02Insert.mono _ _ _ _)
   | (with_reducible exact LeO.refl _)
   | (with_reducible exact LeO.none _)
   | (with_reducible refine LeO.ite ?_ ?_)
   | (with_reducible refine LeO.bind ?_ (fun _ => ?_))
   | exact ih0 _ _ _
   | exact ih1 _ _ _ _ _
   | exact spec_l02Index.mono _ _ _ _
   | exact spec_l02Insert.mono _ _ _ _
   | exact LeO.none _
   | refine LeO.ite ?_ ?_
   | refine LeO.bind ?_ (fun _ => ?_)
set_option maxHeartbeats 8000000 in
set_option maxRecDepth 100000 in
theorem spec_l02Neighbours.calls (k : Nat) (A0 : Option Addr) (c0 : Nat) (l0 : List (S55)) (r : List (S55)) (w : World) (hr0 : Kd.C k55 w A0 l0.length l0) (hc0 : l0.length ≤ c0) (h : spec_l02Neighbours.f k l0 = some r) :
  Calls Try.prog 77 #[.slice A0 l0.length c0] w fun e w' => ∃ v0_ : Value, e = .returned (v0_) ∧ Kd.R k55 55 w' w.heap.size (fun _ => True) v0_ r ∧ Below w.heap.size w w' := by
 have hu55 := Try.underlying55
 have HR0 := Aside0.mk hr0
 have HC0 := Aside0.mk hc0
 clear hr0 hc0
 have HB := Aside0.mk (Below.refl w.heap.size w)
 have H : (spec_l02Neighbours.l0 k l0 (([] : List (S55))) 0) = some r := h
 clear h
 obtain ⟨y202, hY_⟩ : ∃ y_ : List (S55), y_ = (([] : List (S55))) := ⟨_, rfl⟩
 replace H : (spec_l02Neighbours.l0 k l0 y202 0) = some r := yY_
 have Ny202 := Aside0.mk hY_
 clear hY_
 have H' := Aside0.mk H
 clear H
 go_enter Try.func77, Try.ntmps77
 go_wp2_with (first | ((with_reducible refine gate_dst (N := 7) rfl ?_); refine Kd.R_lit k55 _ 55 ?hg (N := 7) ?hd (xs := ([] : List (S55))) (inner := []) (ok := fun _ => True) (okp := fun _ => True) ?hr ?hp (fun _ hk => hk) trivial (Below.refl _ _) (Nat.le_refl _) (by simp) ?_; (case hd => rfl); (case hg => rfl); (case hr => first | (go_simp; done) | (go_simp; rfl)); (case hp => exact (Reps.none _ _)); intro v203 w2 ho3 hb hg_ hnew_; clear hg_ hnew_; (first | rw [← Ny202.out] at ho3 | (simp only [Int.reduceToNat] at ho3; rw [← Ny202.out] at ho3)); have HO204 := Aside0.mk (Kd.R_lower ho3 (below_size bB_)); replace HB := Aside0.mk (below_step bB_ hb); clear hb ho3))
 go_loopg [3, 4] k (fun kq v3 v4 w' => ∃ (x3_1 : List (S55)) (x4_1 : Int), v4 = .int .i64 x4_1 ∧ Aside0 (spec_l02Neighbours.l0 kq l0 x3_1 x4_1 = some r) ∧ Aside0 (kq ≤ k) ∧ Aside0 (Kd.R k55 55 w' w.heap.size (fun _ => True) v3 x3_1) ∧ Aside0 (Below w.heap.size w w'))
 case atStart => exact ⟨(y202), (0), r3_, H', ⟨Nat.le_refl _⟩, ⟨rS_ HO204.out⟩, ⟨bB_⟩⟩
 case round =>
  clear H'
  try clear p2
  obtain ⟨x3_1, x4_1, rfl, HA, HK1, HO_3, HB⟩ := hrel
  cases gk with
  | zero => exact absurd HA.out (by simp [spec_l02Neighbours.l0])
  | succ k1 =>
   have H := HA.out
   clear HA
   simp only [spec_l02Neighbours.l0] at H
   by_cases c4 : x4_1 < (l0.length : Int)
   ·rw [if_pos c4] at H
    have c4b0 : decide (x4_1 < (l0.length : Int)) = true := decide_eq_true c4
    clear c4
    by_cases c5 : 0 ≤ x4_1
    ·rw [if_pos c5] at H
     have c5b0 : decide (0 ≤ x4_1) = true := decide_eq_true c5
     clear c5
     replace H := Option.bind_eq_some_iff.mp H
     obtain ⟨t206, A60, H⟩ := H
     try dsimp only at H
     have A6 := Aside0.mk A60
     clear A60
     have H' := Aside0.mk H
     clear H
     have p205 : 0 ≤ (x4_1 : Int) := of_decide_eq_true aS_
     have q205 : x4_1 < (l0.length : Int) := of_decide_eq_true aS_
     obtain ⟨ad205, e205, hx205_0, hx205_1⟩ := at_T55 HR0.out x4_1 p205 q205
     cases e205
     replace hx205_0 := (HB.out.cell (World.block_lt_of_cell? w _ hx205_0)).trans hx205_0
     replace hx205_1 := (HB.out.cell (World.block_lt_of_cell? w _ hx205_1)).trans hx205_1
     replace p205 := eq_true p205
     replace q205 := eq_true q205
     go_wp2_with (first | ((with_reducible refine gate_callee (f := 112) rfl ?_); refine gL_ (some 18) Try.func112 #[.agg #[.int .i64 ((rd_T55 l0 x4_1).f0), .int .i64 ((rd_T55 l0 x4_1).f1)]] ?_; (with_reducible refine (spec_l02Around.calls ((rd_T55 l0 x4_1).f0) ((rd_T55 l0 x4_1).f1) t206 _ A6.out).mono ?_); rintro e w7 ⟨v207, rfl, ho0, hb⟩; refine ⟨_, rfl, ?_⟩; have HO208 := Aside0.mk (Kd.R_lower (Kd.R_new' ho0 (Kd.R_lt (rS_ HO_3.out))) (below_size bB_)); replace HO_3 := Aside0.mk (Kd.R_elder' (rS_ HO_3.out) (Kd.R_base ho0) hb); replace HB := Aside0.mk (below_step bB_ hb); (try clear hb ho0)))
     go_loopg [3, 6] k1 (fun kq v3 v6 w' => ∃ (x3_2 : List (S55)) (x6_2 : Int), v6 = .int .i64 x6_2 ∧ Aside0 (spec_l02Neighbours.l1 kq l0 x3_2 x4_1 t206 x6_2 = some r) ∧ Aside0 (kq ≤ k1) ∧ Aside0 (Kd.R k55 55 w' w.heap.size (fun k_ => some k_ ≠ (v207 : Value).ownBlock) v3 x3_2) ∧ Aside0 (Kd.R k55 55 w' w.heap.size (fun k_ => some k_ ≠ (v3 : Value).ownBlock) v207 t206) ∧ Aside0 (Below w.heap.size w w'))
     case atStart => exact ⟨(x3_1), (0), r3_, H', ⟨Nat.le_refl _⟩, ⟨rS_ (Kd.R_mono HO_3.out (fun _ hk => hk.2))⟩, ⟨rS_ (Kd.R_mono HO208.out (fun _ hk => hk.2))⟩, ⟨bB_⟩⟩
     case round =>
      clear H'
      try clear c1
      try clear p2
      try clear q2
      try clear hx2
      try clear c4
      try clear c4b0
      try clear c5
      try clear c5b0
      try clear c7
      try clear hx205_0
      try clear hx205_1
      try clear p2
      try clear p205
      try clear q205
      obtain ⟨x3_2, x6_2, rfl, HA, HK2, HO_3, HO_5, HB⟩ := hrel
      cases gk with
      | zero => exact absurd HA.out (by simp [spec_l02Neighbours.l1])
      | succ k2 =>
       have H := HA.out
       clear HA
       simp only [spec_l02Neighbours.l1] at H
       by_cases c8 : x6_2 < 4
       ·rw [if_pos c8] at H
        have c8b0 : decide (x6_2 < 4) = true := decide_eq_true c8
        clear c8
        by_cases c9 : 0 ≤ x6_2
        ·rw [if_pos c9] at H
         have c9b0 : decide (0 ≤ x6_2) = true := decide_eq_true c9
         clear c9
         by_cases c10 : x6_2 < (t206.length : Int)
         ·rw [if_pos c10] at H
          have c10b0 : decide (x6_2 < (t206.length : Int)) = true := decide_eq_true c10
          clear c10
          replace H := Option.bind_eq_some_iff.mp H
          obtain ⟨t210, A110, H⟩ := H
          try dsimp only at H
          have A11 := Aside0.mk A110
          clear A110
          by_cases c12 : t210 < 0
          ·rw [if_pos c12] at H
           have c12b0 : decide (t210 < 0) = true := decide_eq_true c12
           clear c12
           replace H := Option.bind_eq_some_iff.mp H
           obtain ⟨t212, A130, H⟩ := H
           try dsimp only at H
           have A13 := Aside0.mk A130
           clear A130
           by_cases c14 : t212 < 0
           ·rw [if_pos c14] at H
            have c14b0 : decide (t212 < 0) = true := decide_eq_true c14
            clear c14
            replace H := Option.bind_eq_some_iff.mp H
            obtain ⟨t214, A150, H⟩ := H
            try dsimp only at H
            have A15 := Aside0.mk A150
            clear A150
            have H' := Aside0.mk H
            clear H
            obtain ⟨Ao16, co16, eo16⟩ := Kd.R_slice HO_5.out
            subst eo16
            have p209 : 0 ≤ (x6_2 : Int) := of_decide_eq_true aS_
            have q209 : x6_2 < (t206.length : Int) := of_decide_eq_true aS_
            obtain ⟨ad209, e209, hx209_0, hx209_1⟩ := at_T55 (Kd.R_reads' HO_5.out).2.2 x6_2 p209 q209
            cases e209
            replace p209 := eq_true p209
            replace q209 := eq_true q209
            go_wp2_with (first | ((with_reducible refine gate_callee (f := 88) rfl ?_); refine gL_ (some 28) Try.func88 #[.slice (some ad205) l0.length c0, .agg #[.int .i64 ((rd_T55 t206 x6_2).f0), .int .i64 ((rd_T55 t206 x6_2).f1)]] ?_; (with_reducible refine (spec_l02Index.calls k2 _ _ l0 ((rd_T55 t206 x6_2).f0) ((rd_T55 t206 x6_2).f1) t210 _ ?side1 ?side2 A11.out).mono ?_); (case side1 => exact cS_ (Kd.C_below HR0.out HB.out)); (case side2 => exact HC0.out); rintro e w17 ⟨rfl, hb⟩; refine ⟨_, rfl, ?_⟩; replace HO_3 := Aside0.mk (Kd.R_below (rS_ HO_3.out) hb); replace HO_5 := Aside0.mk (Kd.R_below (rS_ HO_5.out) hb); replace HB := Aside0.mk (below_step bB_ hb); (try clear hb); have p211 : 0 ≤ (x6_2 : Int) := of_decide_eq_true aS_; have q211 : x6_2 < (t206.length : Int) := of_decide_eq_true aS_; obtain ⟨ad211, e211, hx211_0, hx211_1⟩ := at_T55 (Kd.R_reads' HO_5.out).2.2 x6_2 p211 q211; obtain rfl : ad209 = ad211 := (by injection e211); replace p211 := eq_true p211; replace q211 := eq_true q211; obtain ⟨Ao18, co18, eo18⟩ := Kd.R_slice HO_3.out; subst eo18) | (go_at_call 88; (with_reducible refine (spec_l02Index.calls k2 _ _ x3_2 ((rd_T55 t206 x6_2).f0) ((rd_T55 t206 x6_2).f1) t212 _ ?side1 ?side2 A13.out).mono ?_); (case side1 => exact cS_ ((Kd.R_reads' HO_3.out).2.2)); (case side2 => exact (Kd.R_reads' HO_3.out).2.1); rintro e w19 ⟨rfl, hb⟩; replace HO_3 := Aside0.mk (Kd.R_below (rS_ HO_3.out) hb); replace HO_5 := Aside0.mk (Kd.R_below (rS_ HO_5.out) hb); replace HB := Aside0.mk (below_step bB_ hb); (try clear hb); have p213 : 0 ≤ (x6_2 : Int) := of_decide_eq_true aS_; have q213 : x6_2 < (t206.length : Int) := of_decide_eq_true aS_; obtain ⟨ad213, e213, hx213_0, hx213_1⟩ := at_T55 (Kd.R_reads' HO_5.out).2.2 x6_2 p213 q213; obtain rfl : ad209 = ad213 := (by injection e213); replace p213 := eq_true p213; replace q213 := eq_true q213) | ((with_reducible refine gate_callee (f := 79) rfl ?_); refine gL_ (some 44) Try.func79 #[.slice Ao18 x3_2.length co18, .agg #[.int .i64 ((rd_T55 t206 x6_2).f0), .int .i64 ((rd_T55 t206 x6_2).f1)]] ?_; (with_reducible refine (spec_l02Insert.calls k2 _ _ x3_2 ((rd_T55 t206 x6_2).f0) ((rd_T55 t206 x6_2).f1) t214 _ ?side1 ?side2 A15.out).mono ?_); (case side1 => exact cS_ ((Kd.R_reads' HO_3.out).2.2)); (case side2 => exact (Kd.R_reads' HO_3.out).2.1); rintro e w20 ⟨v215, rfl, ho0, hb⟩; refine ⟨_, rfl, ?_⟩; have HO216 := Aside0.mk (Kd.R_lower (Kd.R_new' (Kd.R_new' ho0 (Kd.R_lt (rS_ HO_3.out))) (Kd.R_lt (rS_ HO_5.out))) (below_size bB_)); replace HO_3 := Aside0.mk (Kd.R_elder' (rS_ HO_3.out) (Kd.R_base ho0) hb); replace HO_5 := Aside0.mk (Kd.R_elder' (rS_ HO_5.out) (Kd.R_base ho0) hb); replace HB := Aside0.mk (below_step bB_ hb); (try clear hb ho0)))
            go_roundg k2
            case measure => have := HK1.out; have := HK2.out; omega
            case rel => exact ⟨(t214), (wrap64 (x6_2 + 1)), r3_, H', ⟨by have := HK1.out; have := HK2.out; omega⟩, ⟨rS_ (Kd.R_mono HO216.out (fun _ hk => hk.2))⟩, ⟨rS_ (Kd.R_mono HO_5.out (fun _ hk => hk.2))⟩, ⟨bB_⟩⟩
           ·rw [if_neg c14] at H
            have c14b0 : decide (t212 < 0) = false := decide_eq_false c14
            clear c14
            have H' := Aside0.mk H
            clear H
            obtain ⟨Ao21, co21, eo21⟩ := Kd.R_slice HO_5.out
            subst eo21
            have p209 : 0 ≤ (x6_2 : Int) := of_decide_eq_true aS_
            have q209 : x6_2 < (t206.length : Int) := of_decide_eq_true aS_
            obtain ⟨ad209, e209, hx209_0, hx209_1⟩ := at_T55 (Kd.R_reads' HO_5.out).2.2 x6_2 p209 q209
            cases e209
            replace p209 := eq_true p209
            replace q209 := eq_true q209
            go_wp2_with (first | ((with_reducible refine gate_callee (f := 88) rfl ?_); refine gL_ (some 28) Try.func88 #[.slice (some ad205) l0.length c0, .agg #[.int .i64 ((rd_T55 t206 x6_2).f0), .int .i64 ((rd_T55 t206 x6_2).f1)]] ?_; (with_reducible refine (spec_l02Index.calls k2 _ _ l0 ((rd_T55 t206 x6_2).f0) ((rd_T55 t206 x6_2).f1) t210 _ ?side1 ?side2 A11.out).mono ?_); (case side1 => exact cS_ (Kd.C_below HR0.out HB.out)); (case side2 => exact HC0.out); rintro e w22 ⟨rfl, hb⟩; refine ⟨_, rfl, ?_⟩; replace HO_3 := Aside0.mk (Kd.R_below (rS_ HO_3.out) hb); replace HO_5 := Aside0.mk (Kd.R_below (rS_ HO_5.out) hb); replace HB := Aside0.mk (below_step bB_ hb); (try clear hb); have p211 : 0 ≤ (x6_2 : Int) := of_decide_eq_true aS_; have q211 : x6_2 < (t206.length : Int) := of_decide_eq_true aS_; obtain ⟨ad211, e211, hx211_0, hx211_1⟩ := at_T55 (Kd.R_reads' HO_5.out).2.2 x6_2 p211 q211; obtain rfl : ad209 = ad211 := (by injection e211); replace p211 := eq_true p211; replace q211 := eq_true q211; obtain ⟨Ao23, co23, eo23⟩ := Kd.R_slice HO_3.out; subst eo23) | (go_at_call 88; (with_reducible refine (spec_l02Index.calls k2 _ _ x3_2 ((rd_T55 t206 x6_2).f0) ((rd_T55 t206 x6_2).f1) t212 _ ?side1 ?side2 A13.out).mono ?_); (case side1 => exact cS_ ((Kd.R_reads' HO_3.out).2.2)); (case side2 => exact (Kd.R_reads' HO_3.out).2.1); rintro e w24 ⟨rfl, hb⟩; replace HO_3 := Aside0.mk (Kd.R_below (rS_ HO_3.out) hb); replace HO_5 := Aside0.mk (Kd.R_below (rS_ HO_5.out) hb); replace HB := Aside0.mk (below_step bB_ hb); (try clear hb)))
            go_roundg k2
            case measure => have := HK1.out; have := HK2.out; omega
            case rel => exact ⟨(x3_2), (wrap64 (x6_2 + 1)), r3_, H', ⟨by have := HK1.out; have := HK2.out; omega⟩, ⟨rS_ HO_3.out⟩, ⟨rS_ HO_5.out⟩, ⟨bB_⟩⟩
          ·rw [if_neg c12] at H
           have c12b0 : decide (t210 < 0) = false := decide_eq_false c12
           clear c12
           have H' := Aside0.mk H
           clear H
           obtain ⟨Ao25, co25, eo25⟩ := Kd.R_slice HO_5.out
           subst eo25
           have p209 : 0 ≤ (x6_2 : Int) := of_decide_eq_true aS_
           have q209 : x6_2 < (t206.length : Int) := of_decide_eq_true aS_
           obtain ⟨ad209, e209, hx209_0, hx209_1⟩ := at_T55 (Kd.R_reads' HO_5.out).2.2 x6_2 p209 q209
           cases e209
           replace p209 := eq_true p209
           replace q209 := eq_true q209
           go_wp2_with (first | ((with_reducible refine gate_callee (f := 88) rfl ?_); refine gL_ (some 28) Try.func88 #[.slice (some ad205) l0.length c0, .agg #[.int .i64 ((rd_T55 t206 x6_2).f0), .int .i64 ((rd_T55 t206 x6_2).f1)]] ?_; (with_reducible refine (spec_l02Index.calls k2 _ _ l0 ((rd_T55 t206 x6_2).f0) ((rd_T55 t206 x6_2).f1) t210 _ ?side1 ?side2 A11.out).mono ?_); (case side1 => exact cS_ (Kd.C_below HR0.out HB.out)); (case side2 => exact HC0.out); rintro e w26 ⟨rfl, hb⟩; refine ⟨_, rfl, ?_⟩; replace HO_3 := Aside0.mk (Kd.R_below (rS_ HO_3.out) hb); replace HO_5 := Aside0.mk (Kd.R_below (rS_ HO_5.out) hb); replace HB := Aside0.mk (below_step bB_ hb); (try clear hb)))
           go_roundg k2
           case measure => have := HK1.out; have := HK2.out; omega
           case rel => exact ⟨(x3_2), (wrap64 (x6_2 + 1)), r3_, H', ⟨by have := HK1.out; have := HK2.out; omega⟩, ⟨rS_ HO_3.out⟩, ⟨rS_ HO_5.out⟩, ⟨bB_⟩⟩
         ·rw [if_neg c10] at H
          exact absurd H (by simp)
        ·rw [if_neg c9] at H
         exact absurd H (by simp)
       ·rw [if_neg c8] at H
        have c8b0 : decide (x6_2 < 4) = false := decide_eq_false c8
        clear c8
        have H' := Aside0.mk H
        clear H
        go_wp2
        go_roundg k2
        case measure => have := HK1.out; have := HK2.out; omega
        case rel => exact ⟨(x3_2), (wrap64 (x4_1 + 1)), r3_, H', ⟨by have := HK1.out; have := HK2.out; omega⟩, ⟨rS_ (Kd.R_mono HO_3.out (fun _ hk => trivial))⟩, ⟨bB_⟩⟩
    ·rw [if_neg c5] at H
     exact absurd H (by simp)
   ·rw [if_neg c4] at H
    have c4b0 : decide (x4_1 < (l0.length : Int)) = false := decide_eq_false c4
    clear c4
    obtain rfl := Option.some.inj H
    go_wp2
    go_ret
    exact ⟨_, r2_, rS_ HO_3.out, bB_⟩

/-! ### spec_CompareShapes: function 61 -/
def spec_CompareShapes.l0 : Nat → List (S55) → List (S55) → Int → Option (Int)
 | 0, _, _, _ => none
 | k + 1, x0, x1, x5 => if x5 < (x0.length : Int) then (if 0 ≤ x5 then (if x5 < (x1.length : Int) then ((spec_l02Less.f ((rd_T55 x0 x5).f0) ((rd_T55 x0 x5).f1) ((rd_T55 x1 x5).f0) ((rd_T55 x1 x5).f1)).bind fun t219 => (if t219 = true then (some (-1)) else ((spec_l02Less.f ((rd_T55 x1 x5).f0) ((rd_T55 x1 x5).f1) ((rd_T55 x0 x5).f0) ((rd_T55 x0 x5).f1)).bind fun t222 => (if t222 = true then (some 1) else (spec_CompareShapes.l0 k x0 x1 (wrap64 (x5 + 1))))))) else (none)) else (none)) else (some 0)
def spec_CompareShapes.f (k : Nat) (l0 : List (S55)) (l1 : List (S55)) : Option (Int) := if (l0.length : Int) = (l1.length : Int) then (spec_CompareShapes.l0 k l0 l1 0) else (if (l0.length : Int) < (l1.length : Int) then (some (-1)) else (some 1))
theorem spec_CompareShapes.mono_l : ∀ k, (∀ y0 y1 y2, LeO (spec_CompareShapes.l0 k y0 y1 y2) (spec_CompareShapes.l0 (k + 1) y0 y1 y2))
 | 0 => fun _ _ _ r h => by simp [spec_CompareShapes.l0] at h
 | k + 1 => by
  have ih0 := spec_CompareShapes.mono_l k
  ·intro y0 y1 y2
   unfold spec_CompareShapes.l0
   repeat' first
   | (with_reducible exact ih0 _ _ _)
   | (with_reducible exact LeO.refl _)
   | (with_reducible exact LeO.none _)
   | (with_reducible refine LeO.ite ?_ ?_)
   | (with_reducible refine LeO.bind ?_ (fun _ => ?_))
   | exact ih0 _ _ _
   | exact LeO.none _
   | refine LeO.ite ?_ ?_
   | refine LeO.bind ?_ (fun _ => ?_)
theorem spec_CompareShapes.mono : ∀ a0 a1 k, LeO (spec_CompareShapes.f k a0 a1) (spec_CompareShapes.f (k + 1) a0 a1) := by
 intro a0 a1 k
 have ih0 := spec_CompareShapes.mono_l k
 unfold spec_CompareShapes.f
 repeat' first
   | (with_reducible exact ih0 _ _ _)
   | (with_reducible exact LeO.refl _)
   | (with_reducible exact LeO.none _)
   | (with_reducible refine LeO.ite ?_ ?_)
   | (with_reducible refine LeO.bind ?_ (fun _ => ?_))
   | exact ih0 _ _ _
   | exact LeO.none _
   | refine LeO.ite ?_ ?_
   | refine LeO.bind ?_ (fun _ => ?_)
def spec_CompareShapes.T8 : Bool × List (List Nat × List Nat) := (true, [([], []), ([], []), ([0, 1], [0, 1]), ([2], [2]), ([], []), ([], []), ([4, 5], [4, 5]), ([6], [6]), ([3, 7], [3, 7])])
def spec_CompareShapes.B8 : List Nat := [0, 0, 3, 7, 0, 0, 48, 112, 255]
theorem spec_CompareShapes.tab8 : rtab .any (opsOf Try.f61 8) = spec_CompareShapes.T8 := by kernel_rfl
theorem spec_CompareShapes.bits8 : waitsOk spec_CompareShapes.T8.2 spec_CompareShapes.B8 = true := by kernel_rfl
def spec_CompareShapes.T10 : Bool × List (List Nat × List Nat) := (true, [([], []), ([], []), ([0, 1], [0, 1]), ([2], [2]), ([], []), ([], []), ([4, 5], [4, 5]), ([6], [6]), ([3, 7], [3, 7])])
def spec_CompareShapes.B10 : List Nat := [0, 0, 3, 7, 0, 0, 48, 112, 255]
theorem spec_CompareShapes.tab10 : rtab .any (opsOf Try.f61 10) = spec_CompareShapes.T10 := by kernel_rfl
theorem spec_CompareShapes.bits10 : waitsOk spec_CompareShapes.T10.2 spec_CompareShapes.B10 = true := by kernel_rfl
set_option maxHeartbeats 8000000 in
set_option maxRecDepth 100000 in
theorem spec_CompareShapes.calls (k : Nat) (A0 : Option Addr) (c0 : Nat) (l0 : List (S55)) (A1 : Option Addr) (c1 : Nat) (l1 : List (S55)) (r : Int) (w : World) (hr0 : Kd.C k55 w A0 l0.length l0) (hc0 : l0.length ≤ c0) (hr1 : Kd.C k55 w A1 l1.length l1) (hc1 : l1.length ≤ c1) (h : spec_CompareShapes.f k l0 l1 = some r) :
  Calls Try.prog 61 #[.slice A0 l0.length c0, .slice A1 l1.length c1] w fun e w' => e = .returned (.int .i64 r) ∧ Below w.heap.size w w' := by
 have hu55 := Try.underlying55
 have HR0 := Aside0.mk hr0
 have HC0 := Aside0.mk hc0
 clear hr0 hc0
 have HR1 := Aside0.mk hr1
 have HC1 := Aside0.mk hc1
 clear hr1 hc1
 have HB := Aside0.mk (Below.refl w.heap.size w)
 have H : (if (l0.length : Int) = (l1.length : Int) then (spec_CompareShapes.l0 k l0 l1 0) else (if (l0.length : Int) < (l1.length : Int) then (some (-1)) else (some 1))) = some r := h
 clear h
 by_cases c3 : (l0.length : Int) = (l1.length : Int)
 ·rw [if_pos c3] at H
  have c3b0 : ((l0.length : Int) == (l1.length : Int)) = true := beq_iff_eq.mpr c3
  have c3b1 : ((l0.length : Int) != (l1.length : Int)) = false := bne_eq_false_iff_eq.mpr c3
  have c3b2 : (l0.length == l1.length) = true := by first | simpa using c3 | (simp at c3 ⊢; omega)
  clear c3
  have H' := Aside0.mk H
  clear H
  go_enter Try.func61, Try.ntmps61
  go_wp2
  go_loopg [5] k (fun kq v5 w' => ∃ (x5_1 : Int), v5 = .int .i64 x5_1 ∧ Aside0 (spec_CompareShapes.l0 kq l0 l1 x5_1 = some r) ∧ Aside0 (kq ≤ k) ∧ Aside0 (Below w.heap.size w w'))
  case atStart => exact ⟨(0), r3_, H', ⟨Nat.le_refl _⟩, ⟨bB_⟩⟩
  case round =>
   clear H'
   try clear c1
   try clear p2
   try clear c3
   try clear c3b0
   try clear c3b1
   try clear c3b2
   obtain ⟨x5_1, rfl, HA, HK1, HB⟩ := hrel
   cases gk with
   | zero => exact absurd HA.out (by simp [spec_CompareShapes.l0])
   | succ k1 =>
    have H := HA.out
    clear HA
    simp only [spec_CompareShapes.l0] at H
    by_cases c4 : x5_1 < (l0.length : Int)
    ·rw [if_pos c4] at H
     have c4b0 : decide (x5_1 < (l0.length : Int)) = true := decide_eq_true c4
     clear c4
     by_cases c5 : 0 ≤ x5_1
     ·rw [if_pos c5] at H
      have c5b0 : decide (0 ≤ x5_1) = true := decide_eq_true c5
      clear c5
      by_cases c6 : x5_1 < (l1.length : Int)
      ·rw [if_pos c6] at H
       have c6b0 : decide (x5_1 < (l1.length : Int)) = true := decide_eq_true c6
       clear c6
       replace H := Option.bind_eq_some_iff.mp H
       obtain ⟨t219, A70, H⟩ := H
       try dsimp only at H
       have A7 := Aside0.mk A70
       clear A70
       by_cases c8 : t219 = true
       ·subst c8
        have H1 : (some (-1)) = some r := by rw [if_pos rfl] at H; exact H
        clear H
        have H := H1
        clear H1
        obtain rfl := Option.some.inj H
        try go_wp2
        replace HB := Aside0.mk (below_drew1 HB.out)
        have p217 : 0 ≤ (x5_1 : Int) := of_decide_eq_true aS_
        have q217 : x5_1 < (l0.length : Int) := of_decide_eq_true aS_
        obtain ⟨ad217, e217, hx217_0, hx217_1⟩ := at_T55 HR0.out x5_1 p217 q217
        have hw217_1 := hx217_1
        have hw217_0 := hx217_0
        cases e217
        replace hx217_0 := (HB.out.cell (World.block_lt_of_cell? w _ hx217_0)).trans hx217_0
        replace hx217_1 := (HB.out.cell (World.block_lt_of_cell? w _ hx217_1)).trans hx217_1
        replace p217 := eq_true p217
        replace q217 := eq_true q217
        have p218 : 0 ≤ (x5_1 : Int) := of_decide_eq_true aS_
        have q218 : x5_1 < (l1.length : Int) := of_decide_eq_true aS_
        obtain ⟨ad218, e218, hx218_0, hx218_1⟩ := at_T55 HR1.out x5_1 p218 q218
        have hw218_1 := hx218_1
        have hw218_0 := hx218_0
        cases e218
        replace hx218_0 := (HB.out.cell (World.block_lt_of_cell? w _ hx218_0)).trans hx218_0
        replace hx218_1 := (HB.out.cell (World.block_lt_of_cell? w _ hx218_1)).trans hx218_1
        replace p218 := eq_true p218
        replace q218 := eq_true q218
        refine start_ (n := 9) (S := fun w' => w'.cell? (ad217.add ((x5_1).toNat * 2)) = some (.int .i64 ((rd_T55 l0 x5_1).f0)) ∧ w'.cell? ⟨(ad217.add ((x5_1).toNat * 2)).block, (ad217.add ((x5_1).toNat * 2)).off + 1, none⟩ = some (.int .i64 ((rd_T55 l0 x5_1).f1)) ∧ w'.cell? (ad218.add ((x5_1).toNat * 2)) = some (.int .i64 ((rd_T55 l1 x5_1).f0)) ∧ w'.cell? ⟨(ad218.add ((x5_1).toNat * 2)).block, (ad218.add ((x5_1).toNat * 2)).off + 1, none⟩ = some (.int .i64 ((rd_T55 l1 x5_1).f1))) (ds := []) #[F, F, F, F, F, F, F, F, F] (by kernel_rfl) rfl rfl ⟨((HB.out.cell (World.block_lt_of_cell? w _ hw217_0)).trans hw217_0), ((HB.out.cell (World.block_lt_of_cell? w _ hw217_1)).trans hw217_1), ((HB.out.cell (World.block_lt_of_cell? w _ hw218_0)).trans hw218_0), ((HB.out.cell (World.block_lt_of_cell? w _ hw218_1)).trans hw218_1)⟩ (fun hHeld => ?_); refine with_tabW spec_CompareShapes.tab8 spec_CompareShapes.bits8 (fun HT_ HW_ => ?_)
        generalize wr.drew = w9 at HB hx217_0 hx217_1 hx218_0 hx218_1 hHeld ⊢
        refine pu_ HT_ 0 (some 22) #[T,F,F,F,F,F,F,F,F] ?_
        refine pu_ HT_ 1 (some 23) #[T,T,F,F,F,F,F,F,F] ?_
        refine pu_ HT_ 2 (some 24) #[T,T,T,F,F,F,F,F,F] ?_
        refine pu_ HT_ 4 (some 26) #[T,T,T,F,T,F,F,F,F] ?_
        refine pu_ HT_ 5 (some 27) #[T,T,T,F,T,T,F,F,F] ?_
        refine pu_ HT_ 6 (some 28) #[T,T,T,F,T,T,T,F,F] ?_
        refine take_ (i := 3) (N := some 25) (v := ?_) (a' := ?_) #[T, T, T, T, T, T, T, F, F] rfl rfl (take_ofW HT_.out HW_.out (by kernel_rfl)) (fun _ _ _ h => h) (Or.inl ⟨by rfl, ?_⟩) hHeld ?_ ?_
        rotate_left
        ·rintro w' ⟨s0, s1, s2, s3⟩
         go_simp
         with_reducible rfl
        rotate_left
        ·simp only [Act.put, List.setIfInBounds_toArray, List.set_cons_zero, List.set_cons_succ, i64_w, i32_w]
         rfl
        refine take_ (i := 7) (N := some 29) (v := ?_) (a' := ?_) #[T, T, T, T, T, T, T, T, F] rfl rfl (take_ofW HT_.out HW_.out (by kernel_rfl)) (fun _ _ _ h => h) (Or.inl ⟨by rfl, ?_⟩) hHeld ?_ ?_
        rotate_left
        ·rintro w' ⟨s0, s1, s2, s3⟩
         go_simp
         with_reducible rfl
        rotate_left
        ·simp only [Act.put, List.setIfInBounds_toArray, List.set_cons_zero, List.set_cons_succ, i64_w, i32_w]
         rfl
        refine one_ (i := 8) (N := some 30) #[T, T, T, T, T, T, T, T, T] rfl rfl (one_of HT_.out (by kernel_rfl)) (by decide) (fun K hK => ?_)
        refine goes_ Try.func100 (by kernel_rfl) rfl #[.agg #[.int .i64 ((rd_T55 l0 x5_1).f0), .int .i64 ((rd_T55 l0 x5_1).f1)], .agg #[.int .i64 ((rd_T55 l1 x5_1).f0), .int .i64 ((rd_T55 l1 x5_1).f1)]] (by rfl) rfl rfl mA_ ?_
        with_reducible refine (spec_l02Less.calls ((rd_T55 l0 x5_1).f0) ((rd_T55 l0 x5_1).f1) ((rd_T55 l1 x5_1).f0) ((rd_T55 l1 x5_1).f1) true _ A7.out).mono ?_
        rintro e w10 ⟨rfl, hb⟩
        refine ⟨_, rfl, ?_⟩
        replace HB := Aside0.mk (below_step bB_ hb)
        (try clear hb)
        refine hK.out _ _ ⟨((HB.out.cell (World.block_lt_of_cell? w _ hw217_0)).trans hw217_0), ((HB.out.cell (World.block_lt_of_cell? w _ hw217_1)).trans hw217_1), ((HB.out.cell (World.block_lt_of_cell? w _ hw218_0)).trans hw218_0), ((HB.out.cell (World.block_lt_of_cell? w _ hw218_1)).trans hw218_1)⟩ (fun hHeld => ?_)
        clear hK K
        refine no_ (some 30) ?_
        refine done_ (done_of HT_.out (by kernel_rfl)) ?_
        try go_wp2
        go_ret
        exact ⟨r2_, bB_⟩
       ·replace c8 := Bool.eq_false_iff.mpr c8
        subst c8
        have H1 : ((spec_l02Less.f ((rd_T55 l1 x5_1).f0) ((rd_T55 l1 x5_1).f1) ((rd_T55 l0 x5_1).f0) ((rd_T55 l0 x5_1).f1)).bind fun t222 => (if t222 = true then (some 1) else (spec_CompareShapes.l0 k1 l0 l1 (wrap64 (x5_1 + 1))))) = some r := by rw [if_neg (show ¬ (false = true) by decide)] at H; exact H
        clear H
        have H := H1
        clear H1
        replace H := Option.bind_eq_some_iff.mp H
        obtain ⟨t222, A110, H⟩ := H
        try dsimp only at H
        have A11 := Aside0.mk A110
        clear A110
        by_cases c12 : t222 = true
        ·subst c12
         have H1 : (some 1) = some r := by rw [if_pos rfl] at H; exact H
         clear H
         have H := H1
         clear H1
         obtain rfl := Option.some.inj H
         try go_wp2
         replace HB := Aside0.mk (below_drew1 HB.out)
         have p217 : 0 ≤ (x5_1 : Int) := of_decide_eq_true aS_
         have q217 : x5_1 < (l0.length : Int) := of_decide_eq_true aS_
         obtain ⟨ad217, e217, hx217_0, hx217_1⟩ := at_T55 HR0.out x5_1 p217 q217
         have hw217_1 := hx217_1
         have hw217_0 := hx217_0
         cases e217
         replace hx217_0 := (HB.out.cell (World.block_lt_of_cell? w _ hx217_0)).trans hx217_0
         replace hx217_1 := (HB.out.cell (World.block_lt_of_cell? w _ hx217_1)).trans hx217_1
         replace p217 := eq_true p217
         replace q217 := eq_true q217
         have p218 : 0 ≤ (x5_1 : Int) := of_decide_eq_true aS_
         have q218 : x5_1 < (l1.length : Int) := of_decide_eq_true aS_
         obtain ⟨ad218, e218, hx218_0, hx218_1⟩ := at_T55 HR1.out x5_1 p218 q218
         have hw218_1 := hx218_1
         have hw218_0 := hx218_0
         cases e218
         replace hx218_0 := (HB.out.cell (World.block_lt_of_cell? w _ hx218_0)).trans hx218_0
         replace hx218_1 := (HB.out.cell (World.block_lt_of_cell? w _ hx218_1)).trans hx218_1
         replace p218 := eq_true p218
         replace q218 := eq_true q218
         refine start_ (n := 9) (S := fun w' => w'.cell? (ad217.add ((x5_1).toNat * 2)) = some (.int .i64 ((rd_T55 l0 x5_1).f0)) ∧ w'.cell? ⟨(ad217.add ((x5_1).toNat * 2)).block, (ad217.add ((x5_1).toNat * 2)).off + 1, none⟩ = some (.int .i64 ((rd_T55 l0 x5_1).f1)) ∧ w'.cell? (ad218.add ((x5_1).toNat * 2)) = some (.int .i64 ((rd_T55 l1 x5_1).f0)) ∧ w'.cell? ⟨(ad218.add ((x5_1).toNat * 2)).block, (ad218.add ((x5_1).toNat * 2)).off + 1, none⟩ = some (.int .i64 ((rd_T55 l1 x5_1).f1))) (ds := []) #[F, F, F, F, F, F, F, F, F] (by kernel_rfl) rfl rfl ⟨((HB.out.cell (World.block_lt_of_cell? w _ hw217_0)).trans hw217_0), ((HB.out.cell (World.block_lt_of_cell? w _ hw217_1)).trans hw217_1), ((HB.out.cell (World.block_lt_of_cell? w _ hw218_0)).trans hw218_0), ((HB.out.cell (World.block_lt_of_cell? w _ hw218_1)).trans hw218_1)⟩ (fun hHeld => ?_); refine with_tabW spec_CompareShapes.tab8 spec_CompareShapes.bits8 (fun HT_ HW_ => ?_)
         generalize wr.drew = w13 at HB hx217_0 hx217_1 hx218_0 hx218_1 hHeld ⊢
         refine pu_ HT_ 0 (some 22) #[T,F,F,F,F,F,F,F,F] ?_
         refine pu_ HT_ 1 (some 23) #[T,T,F,F,F,F,F,F,F] ?_
         refine pu_ HT_ 2 (some 24) #[T,T,T,F,F,F,F,F,F] ?_
         refine pu_ HT_ 4 (some 26) #[T,T,T,F,T,F,F,F,F] ?_
         refine pu_ HT_ 5 (some 27) #[T,T,T,F,T,T,F,F,F] ?_
         refine pu_ HT_ 6 (some 28) #[T,T,T,F,T,T,T,F,F] ?_
         refine take_ (i := 3) (N := some 25) (v := ?_) (a' := ?_) #[T, T, T, T, T, T, T, F, F] rfl rfl (take_ofW HT_.out HW_.out (by kernel_rfl)) (fun _ _ _ h => h) (Or.inl ⟨by rfl, ?_⟩) hHeld ?_ ?_
         rotate_left
         ·rintro w' ⟨s0, s1, s2, s3⟩
          go_simp
          with_reducible rfl
         rotate_left
         ·simp only [Act.put, List.setIfInBounds_toArray, List.set_cons_zero, List.set_cons_succ, i64_w, i32_w]
          rfl
         refine take_ (i := 7) (N := some 29) (v := ?_) (a' := ?_) #[T, T, T, T, T, T, T, T, F] rfl rfl (take_ofW HT_.out HW_.out (by kernel_rfl)) (fun _ _ _ h => h) (Or.inl ⟨by rfl, ?_⟩) hHeld ?_ ?_
         rotate_left
         ·rintro w' ⟨s0, s1, s2, s3⟩
          go_simp
          with_reducible rfl
         rotate_left
         ·simp only [Act.put, List.setIfInBounds_toArray, List.set_cons_zero, List.set_cons_succ, i64_w, i32_w]
          rfl
         refine one_ (i := 8) (N := some 30) #[T, T, T, T, T, T, T, T, T] rfl rfl (one_of HT_.out (by kernel_rfl)) (by decide) (fun K hK => ?_)
         refine goes_ Try.func100 (by kernel_rfl) rfl #[.agg #[.int .i64 ((rd_T55 l0 x5_1).f0), .int .i64 ((rd_T55 l0 x5_1).f1)], .agg #[.int .i64 ((rd_T55 l1 x5_1).f0), .int .i64 ((rd_T55 l1 x5_1).f1)]] (by rfl) rfl rfl mA_ ?_
         with_reducible refine (spec_l02Less.calls ((rd_T55 l0 x5_1).f0) ((rd_T55 l0 x5_1).f1) ((rd_T55 l1 x5_1).f0) ((rd_T55 l1 x5_1).f1) false _ A7.out).mono ?_
         rintro e w14 ⟨rfl, hb⟩
         refine ⟨_, rfl, ?_⟩
         replace HB := Aside0.mk (below_step bB_ hb)
         (try clear hb)
         refine hK.out _ _ ⟨((HB.out.cell (World.block_lt_of_cell? w _ hw217_0)).trans hw217_0), ((HB.out.cell (World.block_lt_of_cell? w _ hw217_1)).trans hw217_1), ((HB.out.cell (World.block_lt_of_cell? w _ hw218_0)).trans hw218_0), ((HB.out.cell (World.block_lt_of_cell? w _ hw218_1)).trans hw218_1)⟩ (fun hHeld => ?_)
         clear hK K
         refine no_ (some 30) ?_
         refine done_ (done_of HT_.out (by kernel_rfl)) ?_
         try go_wp2
         replace HB := Aside0.mk (below_drew1 HB.out)
         have p220 : 0 ≤ (x5_1 : Int) := of_decide_eq_true aS_
         have q220 : x5_1 < (l1.length : Int) := of_decide_eq_true aS_
         obtain ⟨ad220, e220, hx220_0, hx220_1⟩ := at_T55 HR1.out x5_1 p220 q220
         have hw220_1 := hx220_1
         have hw220_0 := hx220_0
         obtain rfl : ad218 = ad220 := (by injection e220)
         replace hx220_0 := (HB.out.cell (World.block_lt_of_cell? w _ hx220_0)).trans hx220_0
         replace hx220_1 := (HB.out.cell (World.block_lt_of_cell? w _ hx220_1)).trans hx220_1
         replace p220 := eq_true p220
         replace q220 := eq_true q220
         have p221 : 0 ≤ (x5_1 : Int) := of_decide_eq_true aS_
         have q221 : x5_1 < (l0.length : Int) := of_decide_eq_true aS_
         obtain ⟨ad221, e221, hx221_0, hx221_1⟩ := at_T55 HR0.out x5_1 p221 q221
         have hw221_1 := hx221_1
         have hw221_0 := hx221_0
         obtain rfl : ad217 = ad221 := (by injection e221)
         replace hx221_0 := (HB.out.cell (World.block_lt_of_cell? w _ hx221_0)).trans hx221_0
         replace hx221_1 := (HB.out.cell (World.block_lt_of_cell? w _ hx221_1)).trans hx221_1
         replace p221 := eq_true p221
         replace q221 := eq_true q221
         refine start_ (n := 9) (S := fun w' => w'.cell? (ad218.add ((x5_1).toNat * 2)) = some (.int .i64 ((rd_T55 l1 x5_1).f0)) ∧ w'.cell? ⟨(ad218.add ((x5_1).toNat * 2)).block, (ad218.add ((x5_1).toNat * 2)).off + 1, none⟩ = some (.int .i64 ((rd_T55 l1 x5_1).f1)) ∧ w'.cell? (ad217.add ((x5_1).toNat * 2)) = some (.int .i64 ((rd_T55 l0 x5_1).f0)) ∧ w'.cell? ⟨(ad217.add ((x5_1).toNat * 2)).block, (ad217.add ((x5_1).toNat * 2)).off + 1, none⟩ = some (.int .i64 ((rd_T55 l0 x5_1).f1))) (ds := []) #[F, F, F, F, F, F, F, F, F] (by kernel_rfl) rfl rfl ⟨((HB.out.cell (World.block_lt_of_cell? w _ hw220_0)).trans hw220_0), ((HB.out.cell (World.block_lt_of_cell? w _ hw220_1)).trans hw220_1), ((HB.out.cell (World.block_lt_of_cell? w _ hw221_0)).trans hw221_0), ((HB.out.cell (World.block_lt_of_cell? w _ hw221_1)).trans hw221_1)⟩ (fun hHeld => ?_); refine with_tabW spec_CompareShapes.tab10 spec_CompareShapes.bits10 (fun HT_ HW_ => ?_)
         generalize w14.drew = w15 at HB hx220_0 hx220_1 hx221_0 hx221_1 hHeld ⊢
         refine pu_ HT_ 0 (some 31) #[T,F,F,F,F,F,F,F,F] ?_
         refine pu_ HT_ 1 (some 32) #[T,T,F,F,F,F,F,F,F] ?_
         refine pu_ HT_ 2 (some 33) #[T,T,T,F,F,F,F,F,F] ?_
         refine pu_ HT_ 4 (some 35) #[T,T,T,F,T,F,F,F,F] ?_
         refine pu_ HT_ 5 (some 36) #[T,T,T,F,T,T,F,F,F] ?_
         refine pu_ HT_ 6 (some 37) #[T,T,T,F,T,T,T,F,F] ?_
         refine take_ (i := 3) (N := some 34) (v := ?_) (a' := ?_) #[T, T, T, T, T, T, T, F, F] rfl rfl (take_ofW HT_.out HW_.out (by kernel_rfl)) (fun _ _ _ h => h) (Or.inl ⟨by rfl, ?_⟩) hHeld ?_ ?_
         rotate_left
         ·rintro w' ⟨s0, s1, s2, s3⟩
          go_simp
          with_reducible rfl
         rotate_left
         ·simp only [Act.put, List.setIfInBounds_toArray, List.set_cons_zero, List.set_cons_succ, i64_w, i32_w]
          rfl
         refine take_ (i := 7) (N := some 38) (v := ?_) (a' := ?_) #[T, T, T, T, T, T, T, T, F] rfl rfl (take_ofW HT_.out HW_.out (by kernel_rfl)) (fun _ _ _ h => h) (Or.inl ⟨by rfl, ?_⟩) hHeld ?_ ?_
         rotate_left
         ·rintro w' ⟨s0, s1, s2, s3⟩
          go_simp
          with_reducible rfl
         rotate_left
         ·simp only [Act.put, List.setIfInBounds_toArray, List.set_cons_zero, List.set_cons_succ, i64_w, i32_w]
          rfl
         refine one_ (i := 8) (N := some 39) #[T, T, T, T, T, T, T, T, T] rfl rfl (one_of HT_.out (by kernel_rfl)) (by decide) (fun K hK => ?_)
         refine goes_ Try.func100 (by kernel_rfl) rfl #[.agg #[.int .i64 ((rd_T55 l1 x5_1).f0), .int .i64 ((rd_T55 l1 x5_1).f1)], .agg #[.int .i64 ((rd_T55 l0 x5_1).f0), .int .i64 ((rd_T55 l0 x5_1).f1)]] (by rfl) rfl rfl mA_ ?_
         with_reducible refine (spec_l02Less.calls ((rd_T55 l1 x5_1).f0) ((rd_T55 l1 x5_1).f1) ((rd_T55 l0 x5_1).f0) ((rd_T55 l0 x5_1).f1) true _ A11.out).mono ?_
         rintro e w16 ⟨rfl, hb⟩
         refine ⟨_, rfl, ?_⟩
         replace HB := Aside0.mk (below_step bB_ hb)
         (try clear hb)
         refine hK.out _ _ ⟨((HB.out.cell (World.block_lt_of_cell? w _ hw220_0)).trans hw220_0), ((HB.out.cell (World.block_lt_of_cell? w _ hw220_1)).trans hw220_1), ((HB.out.cell (World.block_lt_of_cell? w _ hw221_0)).trans hw221_0), ((HB.out.cell (World.block_lt_of_cell? w _ hw221_1)).trans hw221_1)⟩ (fun hHeld => ?_)
         clear hK K
         refine no_ (some 39) ?_
         refine done_ (done_of HT_.out (by kernel_rfl)) ?_
         try go_wp2
         go_ret
         exact ⟨r2_, bB_⟩
        ·replace c12 := Bool.eq_false_iff.mpr c12
         subst c12
         have H1 : (spec_CompareShapes.l0 k1 l0 l1 (wrap64 (x5_1 + 1))) = some r := by rw [if_neg (show ¬ (false = true) by decide)] at H; exact H
         clear H
         have H := H1
         clear H1
         have H' := Aside0.mk H
         clear H
         try go_wp2
         replace HB := Aside0.mk (below_drew1 HB.out)
         have p217 : 0 ≤ (x5_1 : Int) := of_decide_eq_true aS_
         have q217 : x5_1 < (l0.length : Int) := of_decide_eq_true aS_
         obtain ⟨ad217, e217, hx217_0, hx217_1⟩ := at_T55 HR0.out x5_1 p217 q217
         have hw217_1 := hx217_1
         have hw217_0 := hx217_0
         cases e217
         replace hx217_0 := (HB.out.cell (World.block_lt_of_cell? w _ hx217_0)).trans hx217_0
         replace hx217_1 := (HB.out.cell (World.block_lt_of_cell? w _ hx217_1)).trans hx217_1
         replace p217 := eq_true p217
         replace q217 := eq_true q217
         have p218 : 0 ≤ (x5_1 : Int) := of_decide_eq_true aS_
         have q218 : x5_1 < (l1.length : Int) := of_decide_eq_true aS_
         obtain ⟨ad218, e218, hx218_0, hx218_1⟩ := at_T55 HR1.out x5_1 p218 q218
         have hw218_1 := hx218_1
         have hw218_0 := hx218_0
         cases e218
         replace hx218_0 := (HB.out.cell (World.block_lt_of_cell? w _ hx218_0)).trans hx218_0
         replace hx218_1 := (HB.out.cell (World.block_lt_of_cell? w _ hx218_1)).trans hx218_1
         replace p218 := eq_true p218
         replace q218 := eq_true q218
         refine start_ (n := 9) (S := fun w' => w'.cell? (ad217.add ((x5_1).toNat * 2)) = some (.int .i64 ((rd_T55 l0 x5_1).f0)) ∧ w'.cell? ⟨(ad217.add ((x5_1).toNat * 2)).block, (ad217.add ((x5_1).toNat * 2)).off + 1, none⟩ = some (.int .i64 ((rd_T55 l0 x5_1).f1)) ∧ w'.cell? (ad218.add ((x5_1).toNat * 2)) = some (.int .i64 ((rd_T55 l1 x5_1).f0)) ∧ w'.cell? ⟨(ad218.add ((x5_1).toNat * 2)).block, (ad218.add ((x5_1).toNat * 2)).off + 1, none⟩ = some (.int .i64 ((rd_T55 l1 x5_1).f1))) (ds := []) #[F, F, F, F, F, F, F, F, F] (by kernel_rfl) rfl rfl ⟨((HB.out.cell (World.block_lt_of_cell? w _ hw217_0)).trans hw217_0), ((HB.out.cell (World.block_lt_of_cell? w _ hw217_1)).trans hw217_1), ((HB.out.cell (World.block_lt_of_cell? w _ hw218_0)).trans hw218_0), ((HB.out.cell (World.block_lt_of_cell? w _ hw218_1)).trans hw218_1)⟩ (fun hHeld => ?_); refine with_tabW spec_CompareShapes.tab8 spec_CompareShapes.bits8 (fun HT_ HW_ => ?_)
         generalize wr.drew = w17 at HB hx217_0 hx217_1 hx218_0 hx218_1 hHeld ⊢
         refine pu_ HT_ 0 (some 22) #[T,F,F,F,F,F,F,F,F] ?_
         refine pu_ HT_ 1 (some 23) #[T,T,F,F,F,F,F,F,F] ?_
         refine pu_ HT_ 2 (some 24) #[T,T,T,F,F,F,F,F,F] ?_
         refine pu_ HT_ 4 (some 26) #[T,T,T,F,T,F,F,F,F] ?_
         refine pu_ HT_ 5 (some 27) #[T,T,T,F,T,T,F,F,F] ?_
         refine pu_ HT_ 6 (some 28) #[T,T,T,F,T,T,T,F,F] ?_
         refine take_ (i := 3) (N := some 25) (v := ?_) (a' := ?_) #[T, T, T, T, T, T, T, F, F] rfl rfl (take_ofW HT_.out HW_.out (by kernel_rfl)) (fun _ _ _ h => h) (Or.inl ⟨by rfl, ?_⟩) hHeld ?_ ?_
         rotate_left
         ·rintro w' ⟨s0, s1, s2, s3⟩
          go_simp
          with_reducible rfl
         rotate_left
         ·simp only [Act.put, List.setIfInBounds_toArray, List.set_cons_zero, List.set_cons_succ, i64_w, i32_w]
          rfl
         refine take_ (i := 7) (N := some 29) (v := ?_) (a' := ?_) #[T, T, T, T, T, T, T, T, F] rfl rfl (take_ofW HT_.out HW_.out (by kernel_rfl)) (fun _ _ _ h => h) (Or.inl ⟨by rfl, ?_⟩) hHeld ?_ ?_
         rotate_left
         ·rintro w' ⟨s0, s1, s2, s3⟩
          go_simp
          with_reducible rfl
         rotate_left
         ·simp only [Act.put, List.setIfInBounds_toArray, List.set_cons_zero, List.set_cons_succ, i64_w, i32_w]
          rfl
         refine one_ (i := 8) (N := some 30) #[T, T, T, T, T, T, T, T, T] rfl rfl (one_of HT_.out (by kernel_rfl)) (by decide) (fun K hK => ?_)
         refine goes_ Try.func100 (by kernel_rfl) rfl #[.agg #[.int .i64 ((rd_T55 l0 x5_1).f0), .int .i64 ((rd_T55 l0 x5_1).f1)], .agg #[.int .i64 ((rd_T55 l1 x5_1).f0), .int .i64 ((rd_T55 l1 x5_1).f1)]] (by rfl) rfl rfl mA_ ?_
         with_reducible refine (spec_l02Less.calls ((rd_T55 l0 x5_1).f0) ((rd_T55 l0 x5_1).f1) ((rd_T55 l1 x5_1).f0) ((rd_T55 l1 x5_1).f1) false _ A7.out).mono ?_
         rintro e w18 ⟨rfl, hb⟩
         refine ⟨_, rfl, ?_⟩
         replace HB := Aside0.mk (below_step bB_ hb)
         (try clear hb)
         refine hK.out _ _ ⟨((HB.out.cell (World.block_lt_of_cell? w _ hw217_0)).trans hw217_0), ((HB.out.cell (World.block_lt_of_cell? w _ hw217_1)).trans hw217_1), ((HB.out.cell (World.block_lt_of_cell? w _ hw218_0)).trans hw218_0), ((HB.out.cell (World.block_lt_of_cell? w _ hw218_1)).trans hw218_1)⟩ (fun hHeld => ?_)
         clear hK K
         refine no_ (some 30) ?_
         refine done_ (done_of HT_.out (by kernel_rfl)) ?_
         try go_wp2
         replace HB := Aside0.mk (below_drew1 HB.out)
         have p220 : 0 ≤ (x5_1 : Int) := of_decide_eq_true aS_
         have q220 : x5_1 < (l1.length : Int) := of_decide_eq_true aS_
         obtain ⟨ad220, e220, hx220_0, hx220_1⟩ := at_T55 HR1.out x5_1 p220 q220
         have hw220_1 := hx220_1
         have hw220_0 := hx220_0
         obtain rfl : ad218 = ad220 := (by injection e220)
         replace hx220_0 := (HB.out.cell (World.block_lt_of_cell? w _ hx220_0)).trans hx220_0
         replace hx220_1 := (HB.out.cell (World.block_lt_of_cell? w _ hx220_1)).trans hx220_1
         replace p220 := eq_true p220
         replace q220 := eq_true q220
         have p221 : 0 ≤ (x5_1 : Int) := of_decide_eq_true aS_
         have q221 : x5_1 < (l0.length : Int) := of_decide_eq_true aS_
         obtain ⟨ad221, e221, hx221_0, hx221_1⟩ := at_T55 HR0.out x5_1 p221 q221
         have hw221_1 := hx221_1
         have hw221_0 := hx221_0
         obtain rfl : ad217 = ad221 := (by injection e221)
         replace hx221_0 := (HB.out.cell (World.block_lt_of_cell? w _ hx221_0)).trans hx221_0
         replace hx221_1 := (HB.out.cell (World.block_lt_of_cell? w _ hx221_1)).trans hx221_1
         replace p221 := eq_true p221
         replace q221 := eq_true q221
         refine start_ (n := 9) (S := fun w' => w'.cell? (ad218.add ((x5_1).toNat * 2)) = some (.int .i64 ((rd_T55 l1 x5_1).f0)) ∧ w'.cell? ⟨(ad218.add ((x5_1).toNat * 2)).block, (ad218.add ((x5_1).toNat * 2)).off + 1, none⟩ = some (.int .i64 ((rd_T55 l1 x5_1).f1)) ∧ w'.cell? (ad217.add ((x5_1).toNat * 2)) = some (.int .i64 ((rd_T55 l0 x5_1).f0)) ∧ w'.cell? ⟨(ad217.add ((x5_1).toNat * 2)).block, (ad217.add ((x5_1).toNat * 2)).off + 1, none⟩ = some (.int .i64 ((rd_T55 l0 x5_1).f1))) (ds := []) #[F, F, F, F, F, F, F, F, F] (by kernel_rfl) rfl rfl ⟨((HB.out.cell (World.block_lt_of_cell? w _ hw220_0)).trans hw220_0), ((HB.out.cell (World.block_lt_of_cell? w _ hw220_1)).trans hw220_1), ((HB.out.cell (World.block_lt_of_cell? w _ hw221_0)).trans hw221_0), ((HB.out.cell (World.block_lt_of_cell? w _ hw221_1)).trans hw221_1)⟩ (fun hHeld => ?_); refine with_tabW spec_CompareShapes.tab10 spec_CompareShapes.bits10 (fun HT_ HW_ => ?_)
         generalize w18.drew = w19 at HB hx220_0 hx220_1 hx221_0 hx221_1 hHeld ⊢
         refine pu_ HT_ 0 (some 31) #[T,F,F,F,F,F,F,F,F] ?_
         refine pu_ HT_ 1 (some 32) #[T,T,F,F,F,F,F,F,F] ?_
         refine pu_ HT_ 2 (some 33) #[T,T,T,F,F,F,F,F,F] ?_
         refine pu_ HT_ 4 (some 35) #[T,T,T,F,T,F,F,F,F] ?_
         refine pu_ HT_ 5 (some 36) #[T,T,T,F,T,T,F,F,F] ?_
         refine pu_ HT_ 6 (some 37) #[T,T,T,F,T,T,T,F,F] ?_
         refine take_ (i := 3) (N := some 34) (v := ?_) (a' := ?_) #[T, T, T, T, T, T, T, F, F] rfl rfl (take_ofW HT_.out HW_.out (by kernel_rfl)) (fun _ _ _ h => h) (Or.inl ⟨by rfl, ?_⟩) hHeld ?_ ?_
         rotate_left
         ·rintro w' ⟨s0, s1, s2, s3⟩
          go_simp
          with_reducible rfl
         rotate_left
         ·simp only [Act.put, List.setIfInBounds_toArray, List.set_cons_zero, List.set_cons_succ, i64_w, i32_w]
          rfl
         refine take_ (i := 7) (N := some 38) (v := ?_) (a' := ?_) #[T, T, T, T, T, T, T, T, F] rfl rfl (take_ofW HT_.out HW_.out (by kernel_rfl)) (fun _ _ _ h => h) (Or.inl ⟨by rfl, ?_⟩) hHeld ?_ ?_
         rotate_left
         ·rintro w' ⟨s0, s1, s2, s3⟩
          go_simp
          with_reducible rfl
         rotate_left
         ·simp only [Act.put, List.setIfInBounds_toArray, List.set_cons_zero, List.set_cons_succ, i64_w, i32_w]
          rfl
         refine one_ (i := 8) (N := some 39) #[T, T, T, T, T, T, T, T, T] rfl rfl (one_of HT_.out (by kernel_rfl)) (by decide) (fun K hK => ?_)
         refine goes_ Try.func100 (by kernel_rfl) rfl #[.agg #[.int .i64 ((rd_T55 l1 x5_1).f0), .int .i64 ((rd_T55 l1 x5_1).f1)], .agg #[.int .i64 ((rd_T55 l0 x5_1).f0), .int .i64 ((rd_T55 l0 x5_1).f1)]] (by rfl) rfl rfl mA_ ?_
         with_reducible refine (spec_l02Less.calls ((rd_T55 l1 x5_1).f0) ((rd_T55 l1 x5_1).f1) ((rd_T55 l0 x5_1).f0) ((rd_T55 l0 x5_1).f1) false _ A11.out).mono ?_
         rintro e w20 ⟨rfl, hb⟩
         refine ⟨_, rfl, ?_⟩
         replace HB := Aside0.mk (below_step bB_ hb)
         (try clear hb)
         refine hK.out _ _ ⟨((HB.out.cell (World.block_lt_of_cell? w _ hw220_0)).trans hw220_0), ((HB.out.cell (World.block_lt_of_cell? w _ hw220_1)).trans hw220_1), ((HB.out.cell (World.block_lt_of_cell? w _ hw221_0)).trans hw221_0), ((HB.out.cell (World.block_lt_of_cell? w _ hw221_1)).trans hw221_1)⟩ (fun hHeld => ?_)
         clear hK K
         refine no_ (some 39) ?_
         refine done_ (done_of HT_.out (by kernel_rfl)) ?_
         try go_wp2
         go_roundg k1
         case measure => have := HK1.out; omega
         case rel => exact ⟨(wrap64 (x5_1 + 1)), r3_, H', ⟨by have := HK1.out; omega⟩, ⟨bB_⟩⟩
      ·rw [if_neg c6] at H
       exact absurd H (by simp)
     ·rw [if_neg c5] at H
      exact absurd H (by simp)
    ·rw [if_neg c4] at H
     have c4b0 : decide (x5_1 < (l0.length : Int)) = false := decide_eq_false c4
     clear c4
     obtain rfl := Option.some.inj H
     go_wp2
     go_ret
     exact ⟨r2_, bB_⟩
 ·rw [if_neg c3] at H
  have c3b0 : ((l0.length : Int) == (l1.length : Int)) = false := beq_eq_false_iff_ne.mpr c3
  have c3b1 : ((l0.length : Int) != (l1.length : Int)) = true := bne_iff_ne.mpr c3
  have c3b2 : (l0.length == l1.length) = false := by first | simpa using c3 | (simp at c3 ⊢; omega)
  by_cases c21 : (l0.length : Int) < (l1.length : Int)
  ·rw [if_pos c21] at H
   have c21b0 : decide ((l0.length : Int) < (l1.length : Int)) = true := decide_eq_true c21
   have c21b1 : decide (l0.length < l1.length) = true := decide_eq_true (Int.ofNat_lt.mp c21)
   clear c21
   obtain rfl := Option.some.inj H
   go_enter Try.func61, Try.ntmps61
   go_wp2
   go_ret
   exact ⟨r2_, bB_⟩
  ·rw [if_neg c21] at H
   have c21b0 : decide ((l0.length : Int) < (l1.length : Int)) = false := decide_eq_false c21
   have c21b1 : decide (l0.length < l1.length) = false := decide_eq_false (fun h => c21 (Int.ofNat_lt.mpr h))
   clear c21
   obtain rfl := Option.some.inj H
   go_enter Try.func61, Try.ntmps61
   go_wp2
   go_ret
   exact ⟨r2_, bB_⟩

/-! ### spec_l03Add: function 78 -/
def spec_l03Add.l0 : Nat → List (List (S55)) → List (S55) → List (List (S55)) → Bool → Int → Option ((List (List (S55))))
 | 0, _, _, _, _, _ => none
 | k + 1, x0, x1, x5, x6, x7 => if x7 < (x0.length : Int) then (if 0 ≤ x7 then ((spec_CompareShapes.f k x1 (rd_L3 x0 x7)).bind fun t230 => (if t230 = 0 then (some x0) else (if t230 < 0 then (if x6 = true then (if x5.length < 5864062014805 then (spec_l03Add.l0 k x0 x1 (x5 ++ [rd_L3 x0 x7]) x6 (wrap64 (x7 + 1))) else (none)) else (if x5.length < 5864062014805 then ((some (x5 ++ [x1] : List (List (S55)))).bind fun y235 => (if y235.length < 5864062014805 then (spec_l03Add.l0 k x0 x1 (y235 ++ [rd_L3 x0 x7]) true (wrap64 (x7 + 1))) else (none))) else (none))) else (if x5.length < 5864062014805 then (spec_l03Add.l0 k x0 x1 (x5 ++ [rd_L3 x0 x7]) x6 (wrap64 (x7 + 1))) else (none))))) else (none)) else (if x6 = true then (some x5) else (if x5.length < 5864062014805 then (some (x5 ++ [x1])) else (none)))
def spec_l03Add.f (k : Nat) (l0 : List (List (S55))) (l1 : List (S55)) : Option ((List (List (S55)))) := spec_l03Add.l0 k l0 l1 (([] : List (List (S55)))) false 0
theorem spec_l03Add.mono_l : ∀ k, (∀ y0 y1 y2 y3 y4, LeO (spec_l03Add.l0 k y0 y1 y2 y3 y4) (spec_l03Add.l0 (k + 1) y0 y1 y2 y3 y4))
 | 0 => fun _ _ _ _ _ r h => by simp [spec_l03Add.l0] at h
 | k + 1 => by
  have ih0 := spec_l03Add.mono_l k
  ·intro y0 y1 y2 y3 y4
   unfold spec_l03Add.l0
   repeat' first
   | (with_reducible exact ih0 _ _ _ _ _)
   | (with_reducible exact spec_CompareShapes.mono _ _ _)
   | (with_reducible exact LeO.refl _)
   | (with_reducible exact LeO.none _)
   | (with_reducible refine LeO.ite ?_ ?_)
   | (with_reducible refine LeO.bind ?_ (fun _ => ?_))
   | exact ih0 _ _ _ _ _
   | exact spec_CompareShapes.mono _ _ _
   | exact LeO.none _
   | refine LeO.ite ?_ ?_
   | refine LeO.bind ?_ (fun _ => ?_)
theorem spec_l03Add.mono : ∀ a0 a1 k, LeO (spec_l03Add.f k a0 a1) (spec_l03Add.f (k + 1) a0 a1) := by
 intro a0 a1 k
 have ih0 := spec_l03Add.mono_l k
 unfold spec_l03Add.f
 repeat' first
   | (with_reducible exact ih0 _ _ _ _ _)
   | (with_reducible exact spec_CompareShapes.mono _ _ _)
   | (with_reducible exact LeO.refl _)
   | (with_reducible exact LeO.none _)
   | (with_reducible refine LeO.ite ?_ ?_)
   | (with_reducible refine LeO.bind ?_ (fun _ => ?_))
   | exact ih0 _ _ _ _ _
   | exact spec_CompareShapes.mono _ _ _
   | exact LeO.none _
   | refine LeO.ite ?_ ?_
   | refine LeO.bind ?_ (fun _ => ?_)
set_option maxHeartbeats 8000000 in
set_option maxRecDepth 100000 in
theorem spec_l03Add.calls (k : Nat) (P0_ : Nat → Prop) (A0 : Option Addr) (c0 : Nat) (l0 : List (List (S55))) (P1_ : Nat → Prop) (A1 : Option Addr) (c1 : Nat) (l1 : List (S55)) (r : List (List (S55))) (w : World) (hs0 : Kd.V (Kd.slice 55 k55) 27 w w.heap.size (fun k_ => P0_ k_) (.slice A0 l0.length c0) l0) (hs1 : Kd.V k55 55 w w.heap.size (fun k_ => P1_ k_) (.slice A1 l1.length c1) l1) (h : spec_l03Add.f k l0 l1 = some r) :
  Calls Try.prog 78 #[.slice A0 l0.length c0, .slice A1 l1.length c1] w fun e w' => ∃ v0_ : Value, e = .returned (v0_) ∧ Kd.V (Kd.slice 55 k55) 27 w' w.heap.size (fun k_ => ((P0_ k_ ∨ P1_ k_) ∨ w.heap.size ≤ k_)) v0_ r ∧ Below w.heap.size w w' := by
 have HO0 := Aside0.mk (show Kd.V (Kd.slice 55 k55) 27 w w.heap.size (fun k_ => ((P0_ k_ ∨ P1_ k_) ∨ w.heap.size ≤ k_)) (.slice A0 l0.length c0) l0 from Kd.V_mono hs0 (fun k_ hk => .inl (.inl hk)))
 have HO1 := Aside0.mk (show Kd.V k55 55 w w.heap.size (fun k_ => ((P0_ k_ ∨ P1_ k_) ∨ w.heap.size ≤ k_)) (.slice A1 l1.length c1) l1 from Kd.V_mono hs1 (fun k_ hk => .inl (.inr hk)))
 have HB := Aside0.mk (Below.refl w.heap.size w)
 have H : (spec_l03Add.l0 k l0 l1 (([] : List (List (S55)))) false 0) = some r := h
 clear h
 obtain ⟨y223, hY_⟩ : ∃ y_ : List (List (S55)), y_ = (([] : List (List (S55)))) := ⟨_, rfl⟩
 replace H : (spec_l03Add.l0 k l0 l1 y223 false 0) = some r := yY_
 have Ny223 := Aside0.mk hY_
 clear hY_
 have H' := Aside0.mk H
 clear H
 go_enter Try.func78, Try.ntmps78
 go_wp2_with (first | ((with_reducible refine gate_dst (N := 9) rfl ?_); refine Kd.N_lit (Kd.slice 55 k55) _ 27 ?hg (N' := 9) ?hd (xs := ([] : List (List (S55)))) (inner := []) (ok := (fun k_ => ((P0_ k_ ∨ P1_ k_) ∨ w.heap.size ≤ k_))) (okp := (fun k_ => ((P0_ k_ ∨ P1_ k_) ∨ w.heap.size ≤ k_))) ?hr ?hp (fun _ hk => hk) ((show ∀ k_, w.heap.size ≤ k_ → (fun k_ => ((P0_ k_ ∨ P1_ k_) ∨ w.heap.size ≤ k_)) k_ from fun k_ hk => (.inr (Nat.le_trans (below_size bB_) hk))) _ (Nat.le_refl _)) (Below.refl _ _) (Nat.le_refl _) (by simp) ?_; (case hd => rfl); (case hg => rfl); (case hr => first | (go_simp; done) | (go_simp; rfl)); (case hp => exact (Reps.none _ _)); intro v224 w3 ho4 hb hg_ hnew_; clear hg_ hnew_; (first | rw [← Ny223.out] at ho4 | (simp only [Int.reduceToNat] at ho4; rw [← Ny223.out] at ho4)); replace HO0 := Aside0.mk (Kd.V_elder' (by (with_reducible repeat (first | apply Kd.V_alloc | apply Kd.V_drewN | apply Kd.V_drew)); exact HO0.out) (Kd.N_base ho4) hb); replace HO1 := Aside0.mk (Kd.V_elder' (by (with_reducible repeat (first | apply Kd.V_alloc | apply Kd.V_drewN | apply Kd.V_drew)); exact HO1.out) (Kd.N_base ho4) hb); have HO225 := Aside0.mk (Kd.N_lower ho4 (below_size bB_)); replace HB := Aside0.mk (below_step bB_ hb); clear hb ho4))
 go_loopg [5, 6, 7] k (fun kq v5 v6 v7 w' => ∃ (x5_1 : List (List (S55))) (x6_1 : Bool) (x7_1 : Int), v6 = .bool x6_1 ∧ v7 = .int .i64 x7_1 ∧ Aside0 (spec_l03Add.l0 kq l0 l1 x5_1 x6_1 x7_1 = some r) ∧ Aside0 (kq ≤ k) ∧ Aside0 (Kd.V (Kd.slice 55 k55) 27 w' w.heap.size (fun k_ => ((P0_ k_ ∨ P1_ k_) ∨ w.heap.size ≤ k_) ∧ some k_ ≠ (v5 : Value).ownBlock) (.slice A0 l0.length c0) l0) ∧ Aside0 (Kd.V k55 55 w' w.heap.size (fun k_ => ((P0_ k_ ∨ P1_ k_) ∨ w.heap.size ≤ k_) ∧ some k_ ≠ (v5 : Value).ownBlock) (.slice A1 l1.length c1) l1) ∧ Aside0 (Kd.N (Kd.slice 55 k55) 27 w' w.heap.size (fun k_ => ((P0_ k_ ∨ P1_ k_) ∨ w.heap.size ≤ k_)) v5 x5_1) ∧ Aside0 (Below w.heap.size w w'))
 case atStart => exact ⟨(y223), (false), (0), r3_, r3_, H', ⟨Nat.le_refl _⟩, ⟨by (with_reducible repeat (first | apply Kd.V_alloc | apply Kd.V_drewN | apply Kd.V_drew)); exact HO0.out⟩, ⟨by (with_reducible repeat (first | apply Kd.V_alloc | apply Kd.V_drewN | apply Kd.V_drew)); exact HO1.out⟩, ⟨by (with_reducible repeat (first | apply Kd.N_alloc | apply Kd.N_drewN | apply Kd.N_drew)); exact HO225.out⟩, ⟨bB_⟩⟩
 case round =>
  clear H'
  try clear c1
  try clear p2
  obtain ⟨x5_1, x6_1, x7_1, rfl, rfl, HA, HK1, HO_0, HO_1, HO_5, HB⟩ := hrel
  cases gk with
  | zero => exact absurd HA.out (by simp [spec_l03Add.l0])
  | succ k1 =>
   have H := HA.out
   clear HA
   simp only [spec_l03Add.l0] at H
   by_cases c5 : x7_1 < (l0.length : Int)
   ·rw [if_pos c5] at H
    have c5b0 : decide (x7_1 < (l0.length : Int)) = true := decide_eq_true c5
    clear c5
    by_cases c6 : 0 ≤ x7_1
    ·rw [if_pos c6] at H
     have c6b0 : decide (0 ≤ x7_1) = true := decide_eq_true c6
     clear c6
     replace H := Option.bind_eq_some_iff.mp H
     obtain ⟨t230, A70, H⟩ := H
     try dsimp only at H
     have A7 := Aside0.mk A70
     clear A70
     by_cases c8 : t230 = 0
     ·rw [if_pos c8] at H
      have c8b0 : (t230 == 0) = true := beq_iff_eq.mpr c8
      have c8b1 : (t230 != 0) = false := bne_eq_false_iff_eq.mpr c8
      clear c8
      obtain rfl := Option.some.inj H
      have p229 : 0 ≤ (x7_1 : Int) := of_decide_eq_true aS_
      have q229 : x7_1 < (l0.length : Int) := of_decide_eq_true aS_
      obtain ⟨ad229, A229_0, c229_0, e229, hx229_0, hl229_0, hi229_0⟩ := at_L3 (Kd.V_reads' HO_0.out).2.2 x7_1 p229 q229
      cases e229
      obtain ⟨ce229, hce229, hMe229, hcc229⟩ := Kd.V_get HO_0.out [] x7_1 p229 (by first | exact q229 | exact of_decide_eq_true aS_ | (have e_ := (Kd.V_reads' HO_0.out).1; omega))
      obtain ⟨ua229_0, uc229_0, rfl, ul229_0, ge229_0⟩ := Kd.FK_slice_open hMe229
      have hv229_0 := hcc229 0 _ rfl
      rw [Nat.add_zero, show ((Kd.slice 55 k55)).sz = 1 from rfl, Nat.mul_one] at hv229_0
      replace hv229_0 := Option.some.inj (hv229_0.symm.trans hx229_0)
      injection hv229_0 with hva_ hvn_ hvc_
      rw [hva_] at ge229_0
      rw [hvc_] at ul229_0
      have HL229_0 := Aside0.mk (show Kd.V k55 55 _ w.heap.size _ _ (rd_L3 l0 x7_1) from Kd.V_mk ul229_0 ge229_0)
      clear hva_ hvn_ hvc_ ge229_0 ul229_0
      clear hcc229 hce229
      have HR229_0 := Aside0.mk hi229_0
      have HC229_0 := Aside0.mk hl229_0
      clear hi229_0 hl229_0
      replace p229 := eq_true p229
      replace q229 := eq_true q229
      go_wp2_with (first | ((with_reducible refine gate_callee (f := 61) rfl ?_); refine gL_ (some 21) Try.func61 #[.slice A1 l1.length c1, .slice A229_0 (rd_L3 l0 x7_1).length c229_0] ?_; (with_reducible refine (spec_CompareShapes.calls k1 _ _ l1 _ _ (rd_L3 l0 x7_1) t230 _ ?side1 ?side2 ?side3 ?side4 A7.out).mono ?_); (case side1 => exact cS_ ((Kd.V_reads' HO_1.out).2.2)); (case side2 => exact (Kd.V_reads' HO_1.out).2.1); (case side3 => exact cS_ (by repeat (first | (with_reducible exact HR229_0.out) | (with_reducible refine Kd.C_alloc ?_ _) | (with_reducible refine Kd.C_drewN ?_ _) | (with_reducible refine Kd.C_drew ?_) | exact HR229_0.out))); (case side4 => exact HC229_0.out); rintro e w9 ⟨rfl, hb⟩; refine ⟨_, rfl, ?_⟩; replace HO_0 := Aside0.mk (Kd.V_below (by (with_reducible repeat (first | apply Kd.V_alloc | apply Kd.V_drewN | apply Kd.V_drew)); exact HO_0.out) hb); replace HO_1 := Aside0.mk (Kd.V_below (by (with_reducible repeat (first | apply Kd.V_alloc | apply Kd.V_drewN | apply Kd.V_drew)); exact HO_1.out) hb); replace HO_5 := Aside0.mk (Kd.N_below (by (with_reducible repeat (first | apply Kd.N_alloc | apply Kd.N_drewN | apply Kd.N_drew)); exact HO_5.out) hb); replace HL229_0 := Aside0.mk (Kd.V_below (by (with_reducible repeat (first | apply Kd.V_alloc | apply Kd.V_drewN | apply Kd.V_drew)); exact HL229_0.out) hb); replace HR229_0 := Aside0.mk (Kd.C_below (by repeat (first | (with_reducible exact HR229_0.out) | (with_reducible refine Kd.C_alloc ?_ _) | (with_reducible refine Kd.C_drewN ?_ _) | (with_reducible refine Kd.C_drew ?_) | exact HR229_0.out)) hb); replace HB := Aside0.mk (below_step bB_ hb); (try clear hb)))
      go_ret
      exact ⟨_, r2_, by (with_reducible repeat (first | apply Kd.V_alloc | apply Kd.V_drewN | apply Kd.V_drew)); exact Kd.V_mono HO_0.out (fun _ hk => hk.1), bB_⟩
     ·rw [if_neg c8] at H
      have c8b0 : (t230 == 0) = false := beq_eq_false_iff_ne.mpr c8
      have c8b1 : (t230 != 0) = true := bne_iff_ne.mpr c8
      by_cases c10 : t230 < 0
      ·rw [if_pos c10] at H
       have c10b0 : decide (t230 < 0) = true := decide_eq_true c10
       clear c10
       by_cases c11 : x6_1 = true
       ·subst c11
        have H1 : (if x5_1.length < 5864062014805 then (spec_l03Add.l0 k1 l0 l1 (x5_1 ++ [rd_L3 l0 x7_1]) true (wrap64 (x7_1 + 1))) else (none)) = some r := by rw [if_pos rfl] at H; exact H
        clear H
        have H := H1
        clear H1
        by_cases c12 : x5_1.length < 5864062014805
        ·rw [if_pos c12] at H
         have LMc12 := Aside0.mk c12
         clear c12
         obtain ⟨y232, hY_⟩ : ∃ y_ : List (List (S55)), y_ = (x5_1 ++ [rd_L3 l0 x7_1]) := ⟨_, rfl⟩
         replace H : (spec_l03Add.l0 k1 l0 l1 y232 true (wrap64 (x7_1 + 1))) = some r := yY_
         have Ny232 := Aside0.mk hY_
         clear hY_
         have H' := Aside0.mk H
         clear H
         have p229 : 0 ≤ (x7_1 : Int) := of_decide_eq_true aS_
         have q229 : x7_1 < (l0.length : Int) := of_decide_eq_true aS_
         obtain ⟨ad229, A229_0, c229_0, e229, hx229_0, hl229_0, hi229_0⟩ := at_L3 (Kd.V_reads' HO_0.out).2.2 x7_1 p229 q229
         cases e229
         obtain ⟨ce229, hce229, hMe229, hcc229⟩ := Kd.V_get HO_0.out [] x7_1 p229 (by first | exact q229 | exact of_decide_eq_true aS_ | (have e_ := (Kd.V_reads' HO_0.out).1; omega))
         obtain ⟨ua229_0, uc229_0, rfl, ul229_0, ge229_0⟩ := Kd.FK_slice_open hMe229
         have hv229_0 := hcc229 0 _ rfl
         rw [Nat.add_zero, show ((Kd.slice 55 k55)).sz = 1 from rfl, Nat.mul_one] at hv229_0
         replace hv229_0 := Option.some.inj (hv229_0.symm.trans hx229_0)
         injection hv229_0 with hva_ hvn_ hvc_
         rw [hva_] at ge229_0
         rw [hvc_] at ul229_0
         have HL229_0 := Aside0.mk (show Kd.V k55 55 _ w.heap.size _ _ (rd_L3 l0 x7_1) from Kd.V_mk ul229_0 ge229_0)
         clear hva_ hvn_ hvc_ ge229_0 ul229_0
         clear hcc229 hce229
         have HR229_0 := Aside0.mk hi229_0
         have HC229_0 := Aside0.mk hl229_0
         clear hi229_0 hl229_0
         replace p229 := eq_true p229
         replace q229 := eq_true q229
         go_wp2_with (first | ((with_reducible refine gate_callee (f := 61) rfl ?_); refine gL_ (some 21) Try.func61 #[.slice A1 l1.length c1, .slice A229_0 (rd_L3 l0 x7_1).length c229_0] ?_; (with_reducible refine (spec_CompareShapes.calls k1 _ _ l1 _ _ (rd_L3 l0 x7_1) t230 _ ?side1 ?side2 ?side3 ?side4 A7.out).mono ?_); (case side1 => exact cS_ ((Kd.V_reads' HO_1.out).2.2)); (case side2 => exact (Kd.V_reads' HO_1.out).2.1); (case side3 => exact cS_ (by repeat (first | (with_reducible exact HR229_0.out) | (with_reducible refine Kd.C_alloc ?_ _) | (with_reducible refine Kd.C_drewN ?_ _) | (with_reducible refine Kd.C_drew ?_) | exact HR229_0.out))); (case side4 => exact HC229_0.out); rintro e w13 ⟨rfl, hb⟩; refine ⟨_, rfl, ?_⟩; replace HO_0 := Aside0.mk (Kd.V_below (by (with_reducible repeat (first | apply Kd.V_alloc | apply Kd.V_drewN | apply Kd.V_drew)); exact HO_0.out) hb); replace HO_1 := Aside0.mk (Kd.V_below (by (with_reducible repeat (first | apply Kd.V_alloc | apply Kd.V_drewN | apply Kd.V_drew)); exact HO_1.out) hb); replace HO_5 := Aside0.mk (Kd.N_below (by (with_reducible repeat (first | apply Kd.N_alloc | apply Kd.N_drewN | apply Kd.N_drew)); exact HO_5.out) hb); replace HL229_0 := Aside0.mk (Kd.V_below (by (with_reducible repeat (first | apply Kd.V_alloc | apply Kd.V_drewN | apply Kd.V_drew)); exact HL229_0.out) hb); replace HR229_0 := Aside0.mk (Kd.C_below (by repeat (first | (with_reducible exact HR229_0.out) | (with_reducible refine Kd.C_alloc ?_ _) | (with_reducible refine Kd.C_drewN ?_ _) | (with_reducible refine Kd.C_drew ?_) | exact HR229_0.out)) hb); replace HB := Aside0.mk (below_step bB_ hb); (try clear hb); have p231 : 0 ≤ (x7_1 : Int) := of_decide_eq_true aS_; have q231 : x7_1 < (l0.length : Int) := of_decide_eq_true aS_; obtain ⟨ad231, A231_0, c231_0, e231, hx231_0, hl231_0, hi231_0⟩ := at_L3 (Kd.V_reads' HO_0.out).2.2 x7_1 p231 q231; obtain rfl : ad229 = ad231 := (by injection e231); obtain ⟨ce231, hce231, hMe231, hcc231⟩ := Kd.V_get HO_0.out [] x7_1 p231 (by first | exact q231 | exact of_decide_eq_true aS_ | (have e_ := (Kd.V_reads' HO_0.out).1; omega)); obtain ⟨ua231_0, uc231_0, rfl, ul231_0, ge231_0⟩ := Kd.FK_slice_open hMe231; have hv231_0 := hcc231 0 _ rfl; rw [Nat.add_zero, show ((Kd.slice 55 k55)).sz = 1 from rfl, Nat.mul_one] at hv231_0; replace hv231_0 := Option.some.inj (hv231_0.symm.trans hx231_0); injection hv231_0 with hva_ hvn_ hvc_; rw [hva_] at ge231_0; rw [hvc_] at ul231_0; have HL231_0 := Aside0.mk (show Kd.V k55 55 _ w.heap.size _ _ (rd_L3 l0 x7_1) from Kd.V_mk ul231_0 ge231_0); clear hva_ hvn_ hvc_ ge231_0 ul231_0; clear hcc231 hce231; have HR231_0 := Aside0.mk hi231_0; have HC231_0 := Aside0.mk hl231_0; clear hi231_0 hl231_0; replace p231 := eq_true p231; replace q231 := eq_true q231) | ((with_reducible refine gate_builtin (b := .append) (xs := #[.tmp 35, .tmp 40]) rfl ?_); at_builtin; refine Kd.N_append (Kd.slice 55 k55) (w0 := w) w.heap.size rfl (.tmp 35) (.tmp 40) 24 27 (.slice none 0 0) 24 rfl Try.underlying24 info27 rfl (by decide) (by omega) u5 x5_1 (rd_L3 l0 x7_1) [.slice A231_0 (rd_L3 l0 x7_1).length c231_0] (fun k_ => ((P0_ k_ ∨ P1_ k_) ∨ w.heap.size ≤ k_)) (fun k_ => ((fun k_ => ((P0_ k_ ∨ P1_ k_) ∨ w.heap.size ≤ k_))) k_ ∧ some k_ ≠ (u5 : Value).ownBlock) rfl rfl ?aP (fun _ hk => hk) ?aF ?aO ?aB ?aS ?aL ?_; (case aP => exact (Kd.FK_slice_mk (Kd.V_reads' (Kd.V_mono (ok' := (fun k_ => ((fun k_ => ((P0_ k_ ∨ P1_ k_) ∨ w.heap.size ≤ k_))) k_ ∧ some k_ ≠ (u5 : Value).ownBlock)) (HL231_0.out) (fun k_ hk => ⟨hk.1, hk.2⟩))).2.1 (Kd.V_F (Kd.V_mono (ok' := (fun k_ => ((fun k_ => ((P0_ k_ ∨ P1_ k_) ∨ w.heap.size ≤ k_))) k_ ∧ some k_ ≠ (u5 : Value).ownBlock)) (HL231_0.out) (fun k_ hk => ⟨hk.1, hk.2⟩))))); (case aB => exact bB_); (case aF => exact (fun k_ hk => (.inr (Nat.le_trans (below_size bB_) hk)))); (case aO => exact (by (with_reducible repeat (first | apply Kd.N_alloc | apply Kd.N_drewN | apply Kd.N_drew)); exact HO_5.out)); (case aS => exact (below_size bB_)); (case aL => have := LMc12.out; omega); intro v233 w14 ho hb hg hat; rw [← Ny232.out] at ho; replace HO_0 := Aside0.mk (Kd.V_afterv (ok := (fun k_ => ((P0_ k_ ∨ P1_ k_) ∨ w.heap.size ≤ k_))) (by (with_reducible repeat (first | apply Kd.V_alloc | apply Kd.V_drewN | apply Kd.V_drew)); exact HO_0.out) hg hat); replace HO_1 := Aside0.mk (Kd.V_afterv (ok := (fun k_ => ((P0_ k_ ∨ P1_ k_) ∨ w.heap.size ≤ k_))) (by (with_reducible repeat (first | apply Kd.V_alloc | apply Kd.V_drewN | apply Kd.V_drew)); exact HO_1.out) hg hat); replace HL229_0 := Aside0.mk (Kd.V_afterv (ok := (fun k_ => ((P0_ k_ ∨ P1_ k_) ∨ w.heap.size ≤ k_))) (by (with_reducible repeat (first | apply Kd.V_alloc | apply Kd.V_drewN | apply Kd.V_drew)); exact HL229_0.out) hg hat); replace HL231_0 := Aside0.mk (Kd.V_afterv (ok := (fun k_ => ((P0_ k_ ∨ P1_ k_) ∨ w.heap.size ≤ k_))) (by (with_reducible repeat (first | apply Kd.V_alloc | apply Kd.V_drewN | apply Kd.V_drew)); exact HL231_0.out) hg hat); replace HB := Aside0.mk (hb); have HO234 := Aside0.mk (ho); clear HO_5; clear ho hb hg hat))
         go_roundg k1
         case measure => have := HK1.out; omega
         case rel => exact ⟨(y232), (true), (wrap64 (x7_1 + 1)), r3_, r3_, H', ⟨by have := HK1.out; omega⟩, ⟨by (with_reducible repeat (first | apply Kd.V_alloc | apply Kd.V_drewN | apply Kd.V_drew)); exact HO_0.out⟩, ⟨by (with_reducible repeat (first | apply Kd.V_alloc | apply Kd.V_drewN | apply Kd.V_drew)); exact HO_1.out⟩, ⟨by (with_reducible repeat (first | apply Kd.N_alloc | apply Kd.N_drewN | apply Kd.N_drew)); exact HO234.out⟩, ⟨bB_⟩⟩
        ·rw [if_neg c12] at H
         exact absurd H (by simp)
       ·replace c11 := Bool.eq_false_iff.mpr c11
        subst c11
        have H1 : (if x5_1.length < 5864062014805 then ((some (x5_1 ++ [l1] : List (List (S55)))).bind fun y235 => (if y235.length < 5864062014805 then (spec_l03Add.l0 k1 l0 l1 (y235 ++ [rd_L3 l0 x7_1]) true (wrap64 (x7_1 + 1))) else (none))) else (none)) = some r := by rw [if_neg (show ¬ (false = true) by decide)] at H; exact H
        clear H
        have H := H1
        clear H1
        by_cases c15 : x5_1.length < 5864062014805
        ·rw [if_pos c15] at H
         have LMc15 := Aside0.mk c15
         clear c15
         obtain ⟨y235, hY_⟩ : ∃ y_ : List (List (S55)), y_ = (x5_1 ++ [l1]) := ⟨_, rfl⟩
         replace H : (if y235.length < 5864062014805 then (spec_l03Add.l0 k1 l0 l1 (y235 ++ [rd_L3 l0 x7_1]) true (wrap64 (x7_1 + 1))) else (none)) = some r := yY_
         have Ny235 := Aside0.mk hY_
         clear hY_
         by_cases c16 : y235.length < 5864062014805
         ·rw [if_pos c16] at H
          have LMc16 := Aside0.mk c16
          clear c16
          obtain ⟨y239, hY_⟩ : ∃ y_ : List (List (S55)), y_ = (y235 ++ [rd_L3 l0 x7_1]) := ⟨_, rfl⟩
          replace H : (spec_l03Add.l0 k1 l0 l1 y239 true (wrap64 (x7_1 + 1))) = some r := yY_
          have Ny239 := Aside0.mk hY_
          clear hY_
          have H' := Aside0.mk H
          clear H
          have p229 : 0 ≤ (x7_1 : Int) := of_decide_eq_true aS_
          have q229 : x7_1 < (l0.length : Int) := of_decide_eq_true aS_
          obtain ⟨ad229, A229_0, c229_0, e229, hx229_0, hl229_0, hi229_0⟩ := at_L3 (Kd.V_reads' HO_0.out).2.2 x7_1 p229 q229
          cases e229
          obtain ⟨ce229, hce229, hMe229, hcc229⟩ := Kd.V_get HO_0.out [] x7_1 p229 (by first | exact q229 | exact of_decide_eq_true aS_ | (have e_ := (Kd.V_reads' HO_0.out).1; omega))
          obtain ⟨ua229_0, uc229_0, rfl, ul229_0, ge229_0⟩ := Kd.FK_slice_open hMe229
          have hv229_0 := hcc229 0 _ rfl
          rw [Nat.add_zero, show ((Kd.slice 55 k55)).sz = 1 from rfl, Nat.mul_one] at hv229_0
          replace hv229_0 := Option.some.inj (hv229_0.symm.trans hx229_0)
          injection hv229_0 with hva_ hvn_ hvc_
          rw [hva_] at ge229_0
          rw [hvc_] at ul229_0
          have HL229_0 := Aside0.mk (show Kd.V k55 55 _ w.heap.size _ _ (rd_L3 l0 x7_1) from Kd.V_mk ul229_0 ge229_0)
          clear hva_ hvn_ hvc_ ge229_0 ul229_0
          clear hcc229 hce229
          have HR229_0 := Aside0.mk hi229_0
          have HC229_0 := Aside0.mk hl229_0
          clear hi229_0 hl229_0
          replace p229 := eq_true p229
          replace q229 := eq_true q229
          go_wp2_with (first | ((with_reducible refine gate_callee (f := 61) rfl ?_); refine gL_ (some 21) Try.func61 #[.slice A1 l1.length c1, .slice A229_0 (rd_L3 l0 x7_1).length c229_0] ?_; (with_reducible refine (spec_CompareShapes.calls k1 _ _ l1 _ _ (rd_L3 l0 x7_1) t230 _ ?side1 ?side2 ?side3 ?side4 A7.out).mono ?_); (case side1 => exact cS_ ((Kd.V_reads' HO_1.out).2.2)); (case side2 => exact (Kd.V_reads' HO_1.out).2.1); (case side3 => exact cS_ (by repeat (first | (with_reducible exact HR229_0.out) | (with_reducible refine Kd.C_alloc ?_ _) | (with_reducible refine Kd.C_drewN ?_ _) | (with_reducible refine Kd.C_drew ?_) | exact HR229_0.out))); (case side4 => exact HC229_0.out); rintro e w17 ⟨rfl, hb⟩; refine ⟨_, rfl, ?_⟩; replace HO_0 := Aside0.mk (Kd.V_below (by (with_reducible repeat (first | apply Kd.V_alloc | apply Kd.V_drewN | apply Kd.V_drew)); exact HO_0.out) hb); replace HO_1 := Aside0.mk (Kd.V_below (by (with_reducible repeat (first | apply Kd.V_alloc | apply Kd.V_drewN | apply Kd.V_drew)); exact HO_1.out) hb); replace HO_5 := Aside0.mk (Kd.N_below (by (with_reducible repeat (first | apply Kd.N_alloc | apply Kd.N_drewN | apply Kd.N_drew)); exact HO_5.out) hb); replace HL229_0 := Aside0.mk (Kd.V_below (by (with_reducible repeat (first | apply Kd.V_alloc | apply Kd.V_drewN | apply Kd.V_drew)); exact HL229_0.out) hb); replace HR229_0 := Aside0.mk (Kd.C_below (by repeat (first | (with_reducible exact HR229_0.out) | (with_reducible refine Kd.C_alloc ?_ _) | (with_reducible refine Kd.C_drewN ?_ _) | (with_reducible refine Kd.C_drew ?_) | exact HR229_0.out)) hb); replace HB := Aside0.mk (below_step bB_ hb); (try clear hb)) | ((with_reducible refine gate_builtin (b := .append) (xs := #[.tmp 31, .tmp 33]) rfl ?_); at_builtin; refine Kd.N_append (Kd.slice 55 k55) (w0 := w) w.heap.size rfl (.tmp 31) (.tmp 33) 24 27 (.slice none 0 0) 24 rfl Try.underlying24 info27 rfl (by decide) (by omega) u5 x5_1 l1 [.slice A1 l1.length c1] (fun k_ => ((P0_ k_ ∨ P1_ k_) ∨ w.heap.size ≤ k_)) (fun k_ => ((fun k_ => ((P0_ k_ ∨ P1_ k_) ∨ w.heap.size ≤ k_))) k_ ∧ some k_ ≠ (u5 : Value).ownBlock) rfl rfl ?aP (fun _ hk => hk) ?aF ?aO ?aB ?aS ?aL ?_; (case aP => exact (Kd.FK_slice_mk (Kd.V_reads' (Kd.V_mono (ok' := (fun k_ => ((fun k_ => ((P0_ k_ ∨ P1_ k_) ∨ w.heap.size ≤ k_))) k_ ∧ some k_ ≠ (u5 : Value).ownBlock)) (HO_1.out) (fun k_ hk => ⟨hk.1, hk.2⟩))).2.1 (Kd.V_F (Kd.V_mono (ok' := (fun k_ => ((fun k_ => ((P0_ k_ ∨ P1_ k_) ∨ w.heap.size ≤ k_))) k_ ∧ some k_ ≠ (u5 : Value).ownBlock)) (HO_1.out) (fun k_ hk => ⟨hk.1, hk.2⟩))))); (case aB => exact bB_); (case aF => exact (fun k_ hk => (.inr (Nat.le_trans (below_size bB_) hk)))); (case aO => exact (by (with_reducible repeat (first | apply Kd.N_alloc | apply Kd.N_drewN | apply Kd.N_drew)); exact HO_5.out)); (case aS => exact (below_size bB_)); (case aL => have := LMc15.out; omega); intro v236 w18 ho hb hg hat; rw [← Ny235.out] at ho; replace HO_0 := Aside0.mk (Kd.V_afterv (ok := (fun k_ => ((P0_ k_ ∨ P1_ k_) ∨ w.heap.size ≤ k_))) (by (with_reducible repeat (first | apply Kd.V_alloc | apply Kd.V_drewN | apply Kd.V_drew)); exact HO_0.out) hg hat); replace HO_1 := Aside0.mk (Kd.V_afterv (ok := (fun k_ => ((P0_ k_ ∨ P1_ k_) ∨ w.heap.size ≤ k_))) (by (with_reducible repeat (first | apply Kd.V_alloc | apply Kd.V_drewN | apply Kd.V_drew)); exact HO_1.out) hg hat); replace HL229_0 := Aside0.mk (Kd.V_afterv (ok := (fun k_ => ((P0_ k_ ∨ P1_ k_) ∨ w.heap.size ≤ k_))) (by (with_reducible repeat (first | apply Kd.V_alloc | apply Kd.V_drewN | apply Kd.V_drew)); exact HL229_0.out) hg hat); replace HB := Aside0.mk (hb); have HO237 := Aside0.mk (ho); clear HO_5; clear ho hb hg hat; have p238 : 0 ≤ (x7_1 : Int) := of_decide_eq_true aS_; have q238 : x7_1 < (l0.length : Int) := of_decide_eq_true aS_; obtain ⟨ad238, A238_0, c238_0, e238, hx238_0, hl238_0, hi238_0⟩ := at_L3 (Kd.V_reads' HO_0.out).2.2 x7_1 p238 q238; obtain rfl : ad229 = ad238 := (by injection e238); obtain ⟨ce238, hce238, hMe238, hcc238⟩ := Kd.V_get HO_0.out [] x7_1 p238 (by first | exact q238 | exact of_decide_eq_true aS_ | (have e_ := (Kd.V_reads' HO_0.out).1; omega)); obtain ⟨ua238_0, uc238_0, rfl, ul238_0, ge238_0⟩ := Kd.FK_slice_open hMe238; have hv238_0 := hcc238 0 _ rfl; rw [Nat.add_zero, show ((Kd.slice 55 k55)).sz = 1 from rfl, Nat.mul_one] at hv238_0; replace hv238_0 := Option.some.inj (hv238_0.symm.trans hx238_0); injection hv238_0 with hva_ hvn_ hvc_; rw [hva_] at ge238_0; rw [hvc_] at ul238_0; have HL238_0 := Aside0.mk (show Kd.V k55 55 _ w.heap.size _ _ (rd_L3 l0 x7_1) from Kd.V_mk ul238_0 ge238_0); clear hva_ hvn_ hvc_ ge238_0 ul238_0; clear hcc238 hce238; have HR238_0 := Aside0.mk hi238_0; have HC238_0 := Aside0.mk hl238_0; clear hi238_0 hl238_0; replace p238 := eq_true p238; replace q238 := eq_true q238) | ((with_reducible refine gate_builtin (b := .append) (xs := #[.tmp 35, .tmp 40]) rfl ?_); at_builtin; refine Kd.N_append (Kd.slice 55 k55) (w0 := w) w.heap.size rfl (.tmp 35) (.tmp 40) 24 27 (.slice none 0 0) 24 rfl Try.underlying24 info27 rfl (by decide) (by omega) v236 y235 (rd_L3 l0 x7_1) [.slice A238_0 (rd_L3 l0 x7_1).length c238_0] (fun k_ => ((P0_ k_ ∨ P1_ k_) ∨ w.heap.size ≤ k_)) (fun k_ => ((fun k_ => ((P0_ k_ ∨ P1_ k_) ∨ w.heap.size ≤ k_))) k_ ∧ some k_ ≠ (v236 : Value).ownBlock) rfl rfl ?aP (fun _ hk => hk) ?aF ?aO ?aB ?aS ?aL ?_; (case aP => exact (Kd.FK_slice_mk (Kd.V_reads' (Kd.V_mono (ok' := (fun k_ => ((fun k_ => ((P0_ k_ ∨ P1_ k_) ∨ w.heap.size ≤ k_))) k_ ∧ some k_ ≠ (v236 : Value).ownBlock)) (HL238_0.out) (fun k_ hk => ⟨hk.1, hk.2⟩))).2.1 (Kd.V_F (Kd.V_mono (ok' := (fun k_ => ((fun k_ => ((P0_ k_ ∨ P1_ k_) ∨ w.heap.size ≤ k_))) k_ ∧ some k_ ≠ (v236 : Value).ownBlock)) (HL238_0.out) (fun k_ hk => ⟨hk.1, hk.2⟩))))); (case aB => exact bB_); (case aF => exact (fun k_ hk => (.inr (Nat.le_trans (below_size bB_) hk)))); (case aO => exact (by (with_reducible repeat (first | apply Kd.N_alloc | apply Kd.N_drewN | apply Kd.N_drew)); exact HO237.out)); (case aS => exact (below_size bB_)); (case aL => have := LMc16.out; omega); intro v240 w19 ho hb hg hat; rw [← Ny239.out] at ho; replace HO_0 := Aside0.mk (Kd.V_afterv (ok := (fun k_ => ((P0_ k_ ∨ P1_ k_) ∨ w.heap.size ≤ k_))) (by (with_reducible repeat (first | apply Kd.V_alloc | apply Kd.V_drewN | apply Kd.V_drew)); exact HO_0.out) hg hat); replace HO_1 := Aside0.mk (Kd.V_afterv (ok := (fun k_ => ((P0_ k_ ∨ P1_ k_) ∨ w.heap.size ≤ k_))) (by (with_reducible repeat (first | apply Kd.V_alloc | apply Kd.V_drewN | apply Kd.V_drew)); exact HO_1.out) hg hat); replace HL229_0 := Aside0.mk (Kd.V_afterv (ok := (fun k_ => ((P0_ k_ ∨ P1_ k_) ∨ w.heap.size ≤ k_))) (by (with_reducible repeat (first | apply Kd.V_alloc | apply Kd.V_drewN | apply Kd.V_drew)); exact HL229_0.out) hg hat); replace HL238_0 := Aside0.mk (Kd.V_afterv (ok := (fun k_ => ((P0_ k_ ∨ P1_ k_) ∨ w.heap.size ≤ k_))) (by (with_reducible repeat (first | apply Kd.V_alloc | apply Kd.V_drewN | apply Kd.V_drew)); exact HL238_0.out) hg hat); replace HB := Aside0.mk (hb); have HO241 := Aside0.mk (ho); clear HO237; clear ho hb hg hat))
          go_roundg k1
          case measure => have := HK1.out; omega
          case rel => exact ⟨(y239), (true), (wrap64 (x7_1 + 1)), r3_, r3_, H', ⟨by have := HK1.out; omega⟩, ⟨by (with_reducible repeat (first | apply Kd.V_alloc | apply Kd.V_drewN | apply Kd.V_drew)); exact HO_0.out⟩, ⟨by (with_reducible repeat (first | apply Kd.V_alloc | apply Kd.V_drewN | apply Kd.V_drew)); exact HO_1.out⟩, ⟨by (with_reducible repeat (first | apply Kd.N_alloc | apply Kd.N_drewN | apply Kd.N_drew)); exact HO241.out⟩, ⟨bB_⟩⟩
         ·rw [if_neg c16] at H
          exact absurd H (by simp)
        ·rw [if_neg c15] at H
         exact absurd H (by simp)
      ·rw [if_neg c10] at H
       have c10b0 : decide (t230 < 0) = false := decide_eq_false c10
       clear c10
       by_cases c20 : x5_1.length < 5864062014805
       ·rw [if_pos c20] at H
        have LMc20 := Aside0.mk c20
        clear c20
        obtain ⟨y243, hY_⟩ : ∃ y_ : List (List (S55)), y_ = (x5_1 ++ [rd_L3 l0 x7_1]) := ⟨_, rfl⟩
        replace H : (spec_l03Add.l0 k1 l0 l1 y243 x6_1 (wrap64 (x7_1 + 1))) = some r := yY_
        have Ny243 := Aside0.mk hY_
        clear hY_
        have H' := Aside0.mk H
        clear H
        have p229 : 0 ≤ (x7_1 : Int) := of_decide_eq_true aS_
        have q229 : x7_1 < (l0.length : Int) := of_decide_eq_true aS_
        obtain ⟨ad229, A229_0, c229_0, e229, hx229_0, hl229_0, hi229_0⟩ := at_L3 (Kd.V_reads' HO_0.out).2.2 x7_1 p229 q229
        cases e229
        obtain ⟨ce229, hce229, hMe229, hcc229⟩ := Kd.V_get HO_0.out [] x7_1 p229 (by first | exact q229 | exact of_decide_eq_true aS_ | (have e_ := (Kd.V_reads' HO_0.out).1; omega))
        obtain ⟨ua229_0, uc229_0, rfl, ul229_0, ge229_0⟩ := Kd.FK_slice_open hMe229
        have hv229_0 := hcc229 0 _ rfl
        rw [Nat.add_zero, show ((Kd.slice 55 k55)).sz = 1 from rfl, Nat.mul_one] at hv229_0
        replace hv229_0 := Option.some.inj (hv229_0.symm.trans hx229_0)
        injection hv229_0 with hva_ hvn_ hvc_
        rw [hva_] at ge229_0
        rw [hvc_] at ul229_0
        have HL229_0 := Aside0.mk (show Kd.V k55 55 _ w.heap.size _ _ (rd_L3 l0 x7_1) from Kd.V_mk ul229_0 ge229_0)
        clear hva_ hvn_ hvc_ ge229_0 ul229_0
        clear hcc229 hce229
        have HR229_0 := Aside0.mk hi229_0
        have HC229_0 := Aside0.mk hl229_0
        clear hi229_0 hl229_0
        replace p229 := eq_true p229
        replace q229 := eq_true q229
        go_wp2_with (first | ((with_reducible refine gate_callee (f := 61) rfl ?_); refine gL_ (some 21) Try.func61 #[.slice A1 l1.length c1, .slice A229_0 (rd_L3 l0 x7_1).length c229_0] ?_; (with_reducible refine (spec_CompareShapes.calls k1 _ _ l1 _ _ (rd_L3 l0 x7_1) t230 _ ?side1 ?side2 ?side3 ?side4 A7.out).mono ?_); (case side1 => exact cS_ ((Kd.V_reads' HO_1.out).2.2)); (case side2 => exact (Kd.V_reads' HO_1.out).2.1); (case side3 => exact cS_ (by repeat (first | (with_reducible exact HR229_0.out) | (with_reducible refine Kd.C_alloc ?_ _) | (with_reducible refine Kd.C_drewN ?_ _) | (with_reducible refine Kd.C_drew ?_) | exact HR229_0.out))); (case side4 => exact HC229_0.out); rintro e w21 ⟨rfl, hb⟩; refine ⟨_, rfl, ?_⟩; replace HO_0 := Aside0.mk (Kd.V_below (by (with_reducible repeat (first | apply Kd.V_alloc | apply Kd.V_drewN | apply Kd.V_drew)); exact HO_0.out) hb); replace HO_1 := Aside0.mk (Kd.V_below (by (with_reducible repeat (first | apply Kd.V_alloc | apply Kd.V_drewN | apply Kd.V_drew)); exact HO_1.out) hb); replace HO_5 := Aside0.mk (Kd.N_below (by (with_reducible repeat (first | apply Kd.N_alloc | apply Kd.N_drewN | apply Kd.N_drew)); exact HO_5.out) hb); replace HL229_0 := Aside0.mk (Kd.V_below (by (with_reducible repeat (first | apply Kd.V_alloc | apply Kd.V_drewN | apply Kd.V_drew)); exact HL229_0.out) hb); replace HR229_0 := Aside0.mk (Kd.C_below (by repeat (first | (with_reducible exact HR229_0.out) | (with_reducible refine Kd.C_alloc ?_ _) | (with_reducible refine Kd.C_drewN ?_ _) | (with_reducible refine Kd.C_drew ?_) | exact HR229_0.out)) hb); replace HB := Aside0.mk (below_step bB_ hb); (try clear hb); have p242 : 0 ≤ (x7_1 : Int) := of_decide_eq_true aS_; have q242 : x7_1 < (l0.length : Int) := of_decide_eq_true aS_; obtain ⟨ad242, A242_0, c242_0, e242, hx242_0, hl242_0, hi242_0⟩ := at_L3 (Kd.V_reads' HO_0.out).2.2 x7_1 p242 q242; obtain rfl : ad229 = ad242 := (by injection e242); obtain ⟨ce242, hce242, hMe242, hcc242⟩ := Kd.V_get HO_0.out [] x7_1 p242 (by first | exact q242 | exact of_decide_eq_true aS_ | (have e_ := (Kd.V_reads' HO_0.out).1; omega)); obtain ⟨ua242_0, uc242_0, rfl, ul242_0, ge242_0⟩ := Kd.FK_slice_open hMe242; have hv242_0 := hcc242 0 _ rfl; rw [Nat.add_zero, show ((Kd.slice 55 k55)).sz = 1 from rfl, Nat.mul_one] at hv242_0; replace hv242_0 := Option.some.inj (hv242_0.symm.trans hx242_0); injection hv242_0 with hva_ hvn_ hvc_; rw [hva_] at ge242_0; rw [hvc_] at ul242_0; have HL242_0 := Aside0.mk (show Kd.V k55 55 _ w.heap.size _ _ (rd_L3 l0 x7_1) from Kd.V_mk ul242_0 ge242_0); clear hva_ hvn_ hvc_ ge242_0 ul242_0; clear hcc242 hce242; have HR242_0 := Aside0.mk hi242_0; have HC242_0 := Aside0.mk hl242_0; clear hi242_0 hl242_0; replace p242 := eq_true p242; replace q242 := eq_true q242) | ((with_reducible refine gate_builtin (b := .append) (xs := #[.tmp 35, .tmp 40]) rfl ?_); at_builtin; refine Kd.N_append (Kd.slice 55 k55) (w0 := w) w.heap.size rfl (.tmp 35) (.tmp 40) 24 27 (.slice none 0 0) 24 rfl Try.underlying24 info27 rfl (by decide) (by omega) u5 x5_1 (rd_L3 l0 x7_1) [.slice A242_0 (rd_L3 l0 x7_1).length c242_0] (fun k_ => ((P0_ k_ ∨ P1_ k_) ∨ w.heap.size ≤ k_)) (fun k_ => ((fun k_ => ((P0_ k_ ∨ P1_ k_) ∨ w.heap.size ≤ k_))) k_ ∧ some k_ ≠ (u5 : Value).ownBlock) rfl rfl ?aP (fun _ hk => hk) ?aF ?aO ?aB ?aS ?aL ?_; (case aP => exact (Kd.FK_slice_mk (Kd.V_reads' (Kd.V_mono (ok' := (fun k_ => ((fun k_ => ((P0_ k_ ∨ P1_ k_) ∨ w.heap.size ≤ k_))) k_ ∧ some k_ ≠ (u5 : Value).ownBlock)) (HL242_0.out) (fun k_ hk => ⟨hk.1, hk.2⟩))).2.1 (Kd.V_F (Kd.V_mono (ok' := (fun k_ => ((fun k_ => ((P0_ k_ ∨ P1_ k_) ∨ w.heap.size ≤ k_))) k_ ∧ some k_ ≠ (u5 : Value).ownBlock)) (HL242_0.out) (fun k_ hk => ⟨hk.1, hk.2⟩))))); (case aB => exact bB_); (case aF => exact (fun k_ hk => (.inr (Nat.le_trans (below_size bB_) hk)))); (case aO => exact (by (with_reducible repeat (first | apply Kd.N_alloc | apply Kd.N_drewN | apply Kd.N_drew)); exact HO_5.out)); (case aS => exact (below_size bB_)); (case aL => have := LMc20.out; omega); intro v244 w22 ho hb hg hat; rw [← Ny243.out] at ho; replace HO_0 := Aside0.mk (Kd.V_afterv (ok := (fun k_ => ((P0_ k_ ∨ P1_ k_) ∨ w.heap.size ≤ k_))) (by (with_reducible repeat (first | apply Kd.V_alloc | apply Kd.V_drewN | apply Kd.V_drew)); exact HO_0.out) hg hat); replace HO_1 := Aside0.mk (Kd.V_afterv (ok := (fun k_ => ((P0_ k_ ∨ P1_ k_) ∨ w.heap.size ≤ k_))) (by (with_reducible repeat (first | apply Kd.V_alloc | apply Kd.V_drewN | apply Kd.V_drew)); exact HO_1.out) hg hat); replace HL229_0 := Aside0.mk (Kd.V_afterv (ok := (fun k_ => ((P0_ k_ ∨ P1_ k_) ∨ w.heap.size ≤ k_))) (by (with_reducible repeat (first | apply Kd.V_alloc | apply Kd.V_drewN | apply Kd.V_drew)); exact HL229_0.out) hg hat); replace HL242_0 := Aside0.mk (Kd.V_afterv (ok := (fun k_ => ((P0_ k_ ∨ P1_ k_) ∨ w.heap.size ≤ k_))) (by (with_reducible repeat (first | apply Kd.V_alloc | apply Kd.V_drewN | apply Kd.V_drew)); exact HL242_0.out) hg hat); replace HB := Aside0.mk (hb); have HO245 := Aside0.mk (ho); clear HO_5; clear ho hb hg hat))
        go_roundg k1
        case measure => have := HK1.out; omega
        case rel => exact ⟨(y243), (x6_1), (wrap64 (x7_1 + 1)), r3_, r3_, H', ⟨by have := HK1.out; omega⟩, ⟨by (with_reducible repeat (first | apply Kd.V_alloc | apply Kd.V_drewN | apply Kd.V_drew)); exact HO_0.out⟩, ⟨by (with_reducible repeat (first | apply Kd.V_alloc | apply Kd.V_drewN | apply Kd.V_drew)); exact HO_1.out⟩, ⟨by (with_reducible repeat (first | apply Kd.N_alloc | apply Kd.N_drewN | apply Kd.N_drew)); exact HO245.out⟩, ⟨bB_⟩⟩
       ·rw [if_neg c20] at H
        exact absurd H (by simp)
    ·rw [if_neg c6] at H
     exact absurd H (by simp)
   ·rw [if_neg c5] at H
    have c5b0 : decide (x7_1 < (l0.length : Int)) = false := decide_eq_false c5
    clear c5
    by_cases c23 : x6_1 = true
    ·subst c23
     have H1 : (some x5_1) = some r := by rw [if_pos rfl] at H; exact H
     clear H
     have H := H1
     clear H1
     obtain rfl := Option.some.inj H
     go_wp2
     go_ret
     exact ⟨_, r2_, Kd.N_V (by (with_reducible repeat (first | apply Kd.N_alloc | apply Kd.N_drewN | apply Kd.N_drew)); exact HO_5.out), bB_⟩
    ·replace c23 := Bool.eq_false_iff.mpr c23
     subst c23
     have H1 : (if x5_1.length < 5864062014805 then (some (x5_1 ++ [l1])) else (none)) = some r := by rw [if_neg (show ¬ (false = true) by decide)] at H; exact H
     clear H
     have H := H1
     clear H1
     by_cases c24 : x5_1.length < 5864062014805
     ·rw [if_pos c24] at H
      have LMc24 := Aside0.mk c24
      clear c24
      obtain ⟨y226, hY_⟩ : ∃ y_ : List (List (S55)), y_ = (x5_1 ++ [l1]) := ⟨_, rfl⟩
      replace H : (some y226) = some r := yY_
      have Ny226 := Aside0.mk hY_
      clear hY_
      obtain rfl := Option.some.inj H
      go_wp2_with (first | ((with_reducible refine gate_builtin (b := .append) (xs := #[.tmp 44, .tmp 46]) rfl ?_); at_builtin; refine Kd.N_append (Kd.slice 55 k55) (w0 := w) w.heap.size rfl (.tmp 44) (.tmp 46) 24 27 (.slice none 0 0) 24 rfl Try.underlying24 info27 rfl (by decide) (by omega) u5 x5_1 l1 [.slice A1 l1.length c1] (fun k_ => ((P0_ k_ ∨ P1_ k_) ∨ w.heap.size ≤ k_)) (fun k_ => ((fun k_ => ((P0_ k_ ∨ P1_ k_) ∨ w.heap.size ≤ k_))) k_ ∧ some k_ ≠ (u5 : Value).ownBlock) rfl rfl ?aP (fun _ hk => hk) ?aF ?aO ?aB ?aS ?aL ?_; (case aP => exact (Kd.FK_slice_mk (Kd.V_reads' (Kd.V_mono (ok' := (fun k_ => ((fun k_ => ((P0_ k_ ∨ P1_ k_) ∨ w.heap.size ≤ k_))) k_ ∧ some k_ ≠ (u5 : Value).ownBlock)) (HO_1.out) (fun k_ hk => ⟨hk.1, hk.2⟩))).2.1 (Kd.V_F (Kd.V_mono (ok' := (fun k_ => ((fun k_ => ((P0_ k_ ∨ P1_ k_) ∨ w.heap.size ≤ k_))) k_ ∧ some k_ ≠ (u5 : Value).ownBlock)) (HO_1.out) (fun k_ hk => ⟨hk.1, hk.2⟩))))); (case aB => exact bB_); (case aF => exact (fun k_ hk => (.inr (Nat.le_trans (below_size bB_) hk)))); (case aO => exact (by (with_reducible repeat (first | apply Kd.N_alloc | apply Kd.N_drewN | apply Kd.N_drew)); exact HO_5.out)); (case aS => exact (below_size bB_)); (case aL => have := LMc24.out; omega); intro v227 w25 ho hb hg hat; rw [← Ny226.out] at ho; replace HO_0 := Aside0.mk (Kd.V_afterv (ok := (fun k_ => ((P0_ k_ ∨ P1_ k_) ∨ w.heap.size ≤ k_))) (by (with_reducible repeat (first | apply Kd.V_alloc | apply Kd.V_drewN | apply Kd.V_drew)); exact HO_0.out) hg hat); replace HO_1 := Aside0.mk (Kd.V_afterv (ok := (fun k_ => ((P0_ k_ ∨ P1_ k_) ∨ w.heap.size ≤ k_))) (by (with_reducible repeat (first | apply Kd.V_alloc | apply Kd.V_drewN | apply Kd.V_drew)); exact HO_1.out) hg hat); replace HB := Aside0.mk (hb); have HO228 := Aside0.mk (ho); clear HO_5; clear ho hb hg hat))
      go_ret
      exact ⟨_, r2_, Kd.N_V (by (with_reducible repeat (first | apply Kd.N_alloc | apply Kd.N_drewN | apply Kd.N_drew)); exact HO228.out), bB_⟩
     ·rw [if_neg c24] at H
      exact absurd H (by simp)

end Go.Proofs.Ytbkafaoehheioaa.X
