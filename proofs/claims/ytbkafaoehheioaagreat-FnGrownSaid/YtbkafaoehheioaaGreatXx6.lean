-- xprint.py
import Derived.Lib.SliceRun
import Derived.Lib.Walk
import Derived.Shelf.SlSortCmp.NoneTotal
import Derived.Test.YtbkafaoehheioaaGreatXx0
import Derived.Test.YtbkafaoehheioaaGreatXx1
import Derived.Test.YtbkafaoehheioaaGreatXx2
import Derived.Test.YtbkafaoehheioaaGreatXx5
namespace Go.Proofs.YtbkafaoehheioaaGreat.X
open Go.RowKit Go.Proofs.YtbkafaoehheioaaGreatW.PrintWords Go.Proofs.YtbkafaoehheioaaGreatW.PrintLast Go.Proofs.YtbkafaoehheioaaGreatW.PrintMore
attribute [local go_sem] max2_int min2_int max_two min_two max_three min_three max_four min_four   -- for this text's walks alone
set_option linter.unusedVariables false
set_option linter.unusedSimpArgs false

attribute [local go_sem high] eqA39
/-! ### impl_moved: function 43 -/
def impl_moved.l0 : Nat → Int → Int → List (S39) → List (S39) → Int → Int → Option ((List (S39)))
 | 0, _, _, _, _, _, _ => none
 | k + 1, x1, x2, x7, x13, x14, x15 => if x15 < x14 then (if 0 ≤ x15 then (if x15 < (x13.length : Int) then (if x7.length < 8796093022208 then (impl_moved.l0 k x1 x2 (x7 ++ [(⟨wrap64 (((rd_T39 x13 x15).f0) + x1), wrap64 (((rd_T39 x13 x15).f1) + x2)⟩ : S39)]) x13 x14 (wrap64 (x15 + 1))) else (none)) else (none)) else (none)) else (some x7)
def impl_moved.f (k : Nat) (l0 : List (S39)) (a1 : Int) (a2 : Int) : Option ((List (S39))) := if 0 ≤ (l0.length : Int) then (if ((l0.length : Int) : Int).toNat ≤ 17592186044416 then (impl_moved.l0 k a1 a2 (([] : List (S39))) l0 (l0.length : Int) 0) else (none)) else (none)
theorem impl_moved.mono_l : ∀ k, (∀ y0 y1 y2 y3 y4 y5, LeO (impl_moved.l0 k y0 y1 y2 y3 y4 y5) (impl_moved.l0 (k + 1) y0 y1 y2 y3 y4 y5))
 | 0 => fun _ _ _ _ _ _ r h => by simp [impl_moved.l0] at h
 | k + 1 => by
  have ih0 := impl_moved.mono_l k
  ·intro y0 y1 y2 y3 y4 y5
   unfold impl_moved.l0
   repeat' first
   | (with_reducible exact ih0 _ _ _ _ _ _)
   | (with_reducible exact LeO.refl _)
   | (with_reducible exact LeO.none _)
   | (with_reducible refine LeO.ite ?_ ?_)
   | (with_reducible refine LeO.bind ?_ (fun _ => ?_))
   | exact ih0 _ _ _ _ _ _
   | exact LeO.none _
   | refine LeO.ite ?_ ?_
   | refine LeO.bind ?_ (fun _ => ?_)
theorem impl_moved.mono : ∀ a0 a1 a2 k, LeO (impl_moved.f k a0 a1 a2) (impl_moved.f (k + 1) a0 a1 a2) := by
 intro a0 a1 a2 k
 have ih0 := impl_moved.mono_l k
 unfold impl_moved.f
 repeat' first
   | (with_reducible exact ih0 _ _ _ _ _ _)
   | (with_reducible exact LeO.refl _)
   | (with_reducible exact LeO.none _)
   | (with_reducible refine LeO.ite ?_ ?_)
   | (with_reducible refine LeO.bind ?_ (fun _ => ?_))
   | exact ih0 _ _ _ _ _ _
   | exact LeO.none _
   | refine LeO.ite ?_ ?_
   | refine LeO.bind ?_ (fun _ => ?_)
set_option maxHeartbeats 8000000 in
set_option maxRecDepth 100000 in
theorem impl_moved.calls (k : Nat) (A0 : Option Addr) (c0 : Nat) (l0 : List (S39)) (a1 : Int) (a2 : Int) (r : List (S39)) (w : World) (hr0 : Kd.C k39 w A0 l0.length l0) (hc0 : l0.length ≤ c0) (h : impl_moved.f k l0 a1 a2 = some r) :
  Calls Tryz.prog 43 #[.slice A0 l0.length c0, .int .i64 a1, .int .i64 a2] w fun e w' => ∃ v0_ : Value, e = .returned (v0_) ∧ Kd.R k39 39 w' w.heap.size (fun _ => True) v0_ r ∧ Below w.heap.size w w' := by
 have hu39 := Tryz.underlying39
 have HR0 := Aside0.mk hr0
 have HC0 := Aside0.mk hc0
 clear hr0 hc0
 have HB := Aside0.mk (Below.refl w.heap.size w)
 have H : (if 0 ≤ (l0.length : Int) then (if ((l0.length : Int) : Int).toNat ≤ 17592186044416 then (impl_moved.l0 k a1 a2 (([] : List (S39))) l0 (l0.length : Int) 0) else (none)) else (none)) = some r := h
 clear h
 by_cases c4 : 0 ≤ (l0.length : Int)
 ·rw [if_pos c4] at H
  have c4b0 := eq_true c4
  have c4b1 : decide (0 ≤ (l0.length : Int)) = true := decide_eq_true c4
  clear c4
  by_cases c5 : ((l0.length : Int) : Int).toNat ≤ 17592186044416
  ·rw [if_pos c5] at H
   have c5b0 := eq_true c5
   have c5b1 : decide (((l0.length : Int) : Int).toNat ≤ 17592186044416) = true := decide_eq_true c5
   clear c5
   obtain ⟨y286, hY_⟩ : ∃ y_ : List (S39), y_ = (([] : List (S39))) := ⟨_, rfl⟩
   replace H : (impl_moved.l0 k a1 a2 y286 l0 (l0.length : Int) 0) = some r := yY_
   have Ny286 := Aside0.mk hY_
   clear hY_
   have H' := Aside0.mk H
   clear H
   go_enter Tryz.func43, Tryz.ntmps43
   go_wp2_with (first | ((with_reducible refine gate_dst (N := 12) rfl ?_); refine R_makecap k39 _ 39 rfl (N := 12) rfl 24 _ _ rfl (l0.length : Int) rfl rfl Tryz.underlying24 (.agg #[(.int .i64 0), (.int .i64 0)]) 16 info39 (by omega) (ok := fun _ => True) trivial (of_decide_eq_true aS_) (Nat.le_trans (Nat.mul_le_mul_right _ (of_decide_eq_true aS_ : (l0.length : Int).toNat ≤ 17592186044416)) (by omega)) (Below.refl _ _) (Nat.le_refl _) ?_; intro v287 w6 ho7 hb hg_ hnew_; clear hg_ hnew_; (first | rw [← Ny286.out] at ho7 | (simp only [Int.reduceToNat] at ho7; rw [← Ny286.out] at ho7)); have HO288 := Aside0.mk (Kd.R_lower ho7 (below_size bB_)); replace HB := Aside0.mk (below_step bB_ hb); clear hb ho7))
   go_loopg [7, 15] k (fun kq v7 v15 w' => ∃ (x7_1 : List (S39)) (x15_1 : Int), v15 = .int .i64 x15_1 ∧ Aside0 (impl_moved.l0 kq a1 a2 x7_1 l0 (l0.length : Int) x15_1 = some r) ∧ Aside0 (kq ≤ k) ∧ Aside0 (Kd.R k39 39 w' w.heap.size (fun _ => True) v7 x7_1) ∧ Aside0 (Below w.heap.size w w'))
   case atStart => exact ⟨(y286), (0), r3_, H', ⟨Nat.le_refl _⟩, ⟨rS_ HO288.out⟩, ⟨bB_⟩⟩
   case round =>
    clear H'
    try clear p2
    try clear c4
    try clear c4b0
    try clear c4b1
    try clear c5
    try clear c5b0
    try clear c5b1
    obtain ⟨x7_1, x15_1, rfl, HA, HK1, HO_7, HB⟩ := hrel
    cases gk with
    | zero => exact absurd HA.out (by simp [impl_moved.l0])
    | succ k1 =>
     have H := HA.out
     clear HA
     simp only [impl_moved.l0] at H
     by_cases c8 : x15_1 < (l0.length : Int)
     ·rw [if_pos c8] at H
      have c8b0 : decide (x15_1 < (l0.length : Int)) = true := decide_eq_true c8
      clear c8
      by_cases c9 : 0 ≤ x15_1
      ·rw [if_pos c9] at H
       have c9b0 : decide (0 ≤ x15_1) = true := decide_eq_true c9
       clear c9
       by_cases c10 : x15_1 < (l0.length : Int)
       ·rw [if_pos c10] at H
        have c10b0 : decide (x15_1 < (l0.length : Int)) = true := decide_eq_true c10
        clear c10
        by_cases c11 : x7_1.length < 8796093022208
        ·rw [if_pos c11] at H
         have LMc11 := Aside0.mk c11
         clear c11
         obtain ⟨y291, hY_⟩ : ∃ y_ : List (S39), y_ = (x7_1 ++ [(⟨wrap64 (((rd_T39 l0 x15_1).f0) + a1), wrap64 (((rd_T39 l0 x15_1).f1) + a2)⟩ : S39)]) := ⟨_, rfl⟩
         replace H : (impl_moved.l0 k1 a1 a2 y291 l0 (l0.length : Int) (wrap64 (x15_1 + 1))) = some r := yY_
         have Ny291 := Aside0.mk hY_
         clear hY_
         have H' := Aside0.mk H
         clear H
         have p289 : 0 ≤ (x15_1 : Int) := of_decide_eq_true aS_
         have q289 : x15_1 < (l0.length : Int) := of_decide_eq_true aS_
         obtain ⟨ad289, e289, hx289_0, hx289_1⟩ := at_T39 HR0.out x15_1 p289 q289
         cases e289
         replace hx289_0 := (HB.out.cell (World.block_lt_of_cell? w _ hx289_0)).trans hx289_0
         replace hx289_1 := (HB.out.cell (World.block_lt_of_cell? w _ hx289_1)).trans hx289_1
         replace p289 := eq_true p289
         replace q289 := eq_true q289
         go_wp2_with (first | ((with_reducible refine gate_dst (N := 9) rfl ?_); refine box_event ?hg (N := 9) ?hd (cs := #[.int .i64 0, .int .i64 0]) (t := 39) ?hr ?_; (case hd => rfl); (case hg => rfl); (case hr => first | (go_simp; done) | (go_simp; rfl)); intro gb290 hg w12 hbox hb; replace HO_7 := Aside0.mk (Kd.R_below (Kd.R_elderB (rS_ HO_7.out) gb290 (Nat.le_of_eq hg.symm)) hb); have BK290 := Aside0.mk (hbox); have GW290 := Aside0.mk ((by rw [hg]; exact (below_size bB_) : w.heap.size ≤ gb290)); have GE290 := Aside0.mk ((by rw [hg]; exact (below_size bB_) : w.heap.size ≤ gb290)); replace HB := Aside0.mk (below_step bB_ hb); clear hb hbox hg; have hcz13_0 : w12.cell? ⟨gb290, 0, none⟩ = some (.int .i64 0) := (blk_cell BK290.out 0).trans rfl; have hcz13_1 : w12.cell? ⟨gb290, 1, none⟩ = some (.int .i64 0) := (blk_cell BK290.out 1).trans rfl; have hfz13_0 := blk_frozen BK290.out 0; have hfz13_1 := blk_frozen BK290.out 1) | ((with_reducible refine gate_builtin (b := .append) (xs := #[.tmp 19, .tmp 29]) rfl ?_); at_builtin; refine Kd.R_append k39 (w0 := w) w.heap.size rfl (.tmp 19) (.tmp 29) 24 39 (.agg #[(.int .i64 0), (.int .i64 0)]) 16 rfl Tryz.underlying24 info39 rfl (by decide) (by omega) u7 x7_1 (⟨wrap64 (((rd_T39 l0 x15_1).f0) + a1), wrap64 (((rd_T39 l0 x15_1).f1) + a2)⟩ : S39) [.int .i64 (wrap64 (((rd_T39 l0 x15_1).f0) + a1)), .int .i64 (wrap64 (((rd_T39 l0 x15_1).f1) + a2))] (fun k_ => k_ ≠ gb290) (fun _ => False) rfl (by first | (go_simp; done) | (go_simp; rfl)) ?aP (fun _ hk => hk.elim) ?aF ?aO ?aB ?aS ?aL ?_; (case aP => exact k39_mkM _ _ _ (⟨wrap64 (((rd_T39 l0 x15_1).f0) + a1), wrap64 (((rd_T39 l0 x15_1).f1) + a2)⟩ : S39)); (case aB => exact (by repeat (first | (with_reducible first | exact HB.out | apply below_alloc | apply pw_below_drewN | apply below_drew1 | refine below_set ?_ GE290.out) | exact HB.out))); (case aF => exact (fun k_ hk => Kd.freshB (g := gb290) (o := .cells #[.int .i64 ((rd_T39 l0 x15_1).f0), .int .i64 ((rd_T39 l0 x15_1).f1)] 39 (0, 0)) (by (with_reducible repeat (first | refine blk_drewN ?_ _ | refine blk_drew ?_ | refine blk_alloc ?_ _)); refine blk_put (cs := #[.int .i64 ((rd_T39 l0 x15_1).f0), .int .i64 0]) ?_ 1 _ rfl; (with_reducible repeat (first | refine blk_drewN ?_ _ | refine blk_drew ?_ | refine blk_alloc ?_ _)); refine blk_put (cs := #[.int .i64 0, .int .i64 0]) ?_ 0 _ rfl; (with_reducible repeat (first | refine blk_drewN ?_ _ | refine blk_drew ?_ | refine blk_alloc ?_ _)); exact BK290.out) k_ hk)); (case aO => exact (rS_ (Kd.R_mono (Kd.R_far (p := ⟨gb290, 1, none⟩) (Kd.R_far (p := ⟨gb290, 0, none⟩) (Kd.R_mono HO_7.out (fun k_ hk => (⟨hk, hk.2⟩ : _ ∧ k_ ≠ gb290))) (fun _ hk => hk.2) (.int .i64 ((rd_T39 l0 x15_1).f0))) (fun _ hk => hk.2) (.int .i64 ((rd_T39 l0 x15_1).f1))) (fun _ hk => hk.1.2)))); (case aS => exact (below_size (by repeat (first | (with_reducible first | exact HB.out | apply below_alloc | apply pw_below_drewN | apply below_drew1 | refine below_set ?_ GE290.out) | exact HB.out)))); (case aL => have := LMc11.out; omega); intro v292 w14 ho hb hg hat; rw [← Ny291.out] at ho; replace BK290 := Aside0.mk (blk_grown (g := gb290) (o := .cells #[.int .i64 ((rd_T39 l0 x15_1).f0), .int .i64 ((rd_T39 l0 x15_1).f1)] 39 (0, 0)) (by (with_reducible repeat (first | refine blk_drewN ?_ _ | refine blk_drew ?_ | refine blk_alloc ?_ _)); refine blk_put (cs := #[.int .i64 ((rd_T39 l0 x15_1).f0), .int .i64 0]) ?_ 1 _ rfl; (with_reducible repeat (first | refine blk_drewN ?_ _ | refine blk_drew ?_ | refine blk_alloc ?_ _)); refine blk_put (cs := #[.int .i64 0, .int .i64 0]) ?_ 0 _ rfl; (with_reducible repeat (first | refine blk_drewN ?_ _ | refine blk_drew ?_ | refine blk_alloc ?_ _)); exact BK290.out) hg (Kd.R_away HO_7.out (fun _ hk => hk.2))); replace HB := Aside0.mk (hb); have HO293 := Aside0.mk (ho); clear HO_7; clear ho hb hg hat))
         go_roundg k1
         case measure => have := HK1.out; omega
         case rel => exact ⟨(y291), (wrap64 (x15_1 + 1)), r3_, H', ⟨by have := HK1.out; omega⟩, ⟨rS_ (Kd.R_mono HO293.out (fun _ hk => trivial))⟩, ⟨by repeat (first | (with_reducible first | exact HB.out | apply below_alloc | apply pw_below_drewN | apply below_drew1 | refine below_set ?_ GE290.out) | exact HB.out)⟩⟩
        ·rw [if_neg c11] at H
         exact absurd H (by simp)
       ·rw [if_neg c10] at H
        exact absurd H (by simp)
      ·rw [if_neg c9] at H
       exact absurd H (by simp)
     ·rw [if_neg c8] at H
      have c8b0 : decide (x15_1 < (l0.length : Int)) = false := decide_eq_false c8
      clear c8
      obtain rfl := Option.some.inj H
      go_wp2
      go_ret
      exact ⟨_, r2_, rS_ HO_7.out, bB_⟩
  ·rw [if_neg c5] at H
   exact absurd H (by simp)
 ·rw [if_neg c4] at H
  exact absurd H (by simp)

/-! ### impl_normal: function 21 -/
def impl_normal.f (k : Nat) (l0 : List (S39)) : Option ((List (S39))) := (impl_corner.f k l0).bind fun bt294 => ((impl_moved.f k l0 (wrap64 (-bt294.1)) (wrap64 (-bt294.2))).bind fun t297 => (some t297))
theorem impl_normal.mono : ∀ a0 k, LeO (impl_normal.f k a0) (impl_normal.f (k + 1) a0) := by
 intro a0 k
 unfold impl_normal.f
 repeat' first
   | (with_reducible exact impl_corner.mono _ _)
   | (with_reducible exact impl_moved.mono _ _ _ _)
   | (with_reducible exact LeO.refl _)
   | (with_reducible exact LeO.none _)
   | (with_reducible refine LeO.ite ?_ ?_)
   | (with_reducible refine LeO.bind ?_ (fun _ => ?_))
   | exact impl_corner.mono _ _
   | exact impl_moved.mono _ _ _ _
   | exact LeO.none _
   | refine LeO.ite ?_ ?_
   | refine LeO.bind ?_ (fun _ => ?_)
set_option maxHeartbeats 8000000 in
set_option maxRecDepth 100000 in
theorem impl_normal.calls (k : Nat) (A0 : Option Addr) (c0 : Nat) (l0 : List (S39)) (r : List (S39)) (w : World) (hr0 : Kd.C k39 w A0 l0.length l0) (hc0 : l0.length ≤ c0) (h : impl_normal.f k l0 = some r) :
  Calls Tryz.prog 21 #[.slice A0 l0.length c0] w fun e w' => ∃ v0_ : Value, e = .returned (v0_) ∧ Kd.R k39 39 w' w.heap.size (fun _ => True) v0_ r ∧ Below w.heap.size w w' := by
 have hu39 := Tryz.underlying39
 have HR0 := Aside0.mk hr0
 have HC0 := Aside0.mk hc0
 clear hr0 hc0
 have HB := Aside0.mk (Below.refl w.heap.size w)
 have H : ((impl_corner.f k l0).bind fun bt294 => ((impl_moved.f k l0 (wrap64 (-bt294.1)) (wrap64 (-bt294.2))).bind fun t297 => (some t297))) = some r := h
 clear h
 replace H := Option.bind_eq_some_iff.mp H
 obtain ⟨⟨t294, t295⟩, A20, H⟩ := H
 try dsimp only at H
 have A2 := Aside0.mk A20
 clear A20
 replace H := Option.bind_eq_some_iff.mp H
 obtain ⟨t297, A30, H⟩ := H
 try dsimp only at H
 have A3 := Aside0.mk A30
 clear A30
 obtain rfl := Option.some.inj H
 go_enter Tryz.func21, Tryz.ntmps21
 go_wp2_with (first | ((with_reducible refine gate_callee (f := 42) rfl ?_); refine gL_ (some 5) Tryz.func42 #[.slice A0 l0.length c0] ?_; (with_reducible refine (impl_corner.calls k _ _ l0 t294 t295 _ ?side1 ?side2 A2.out).mono ?_); (case side1 => exact cS_ HR0.out); (case side2 => exact HC0.out); rintro e w4 ⟨rfl, hb⟩; refine ⟨_, rfl, ?_⟩; replace HB := Aside0.mk (below_step bB_ hb); (try clear hb)) | ((with_reducible refine gate_dst (N := 3) rfl ?_); refine box_event ?hg (N := 3) ?hd (cs := #[.int .i64 0, .int .i64 0]) (t := 39) ?hr ?_; (case hd => rfl); (case hg => rfl); (case hr => first | (go_simp; done) | (go_simp; rfl)); intro gb296 hg w5 hbox hb; have BK296 := Aside0.mk (hbox); have GW296 := Aside0.mk ((by rw [hg]; exact (below_size bB_) : w.heap.size ≤ gb296)); have GE296 := Aside0.mk ((by rw [hg]; exact (below_size bB_) : w.heap.size ≤ gb296)); replace HB := Aside0.mk (below_step bB_ hb); clear hb hbox hg; have hcz6_0 : w5.cell? ⟨gb296, 0, none⟩ = some (.int .i64 0) := (blk_cell BK296.out 0).trans rfl; have hcz6_1 : w5.cell? ⟨gb296, 1, none⟩ = some (.int .i64 0) := (blk_cell BK296.out 1).trans rfl; have hfz6_0 := blk_frozen BK296.out 0; have hfz6_1 := blk_frozen BK296.out 1) | ((with_reducible refine gate_callee (f := 43) rfl ?_); refine gL_ (some 13) Tryz.func43 #[.slice A0 l0.length c0, .int .i64 (wrap64 (-t294)), .int .i64 (wrap64 (-t295))] ?_; (with_reducible refine (impl_moved.calls k _ _ l0 (wrap64 (-t294)) (wrap64 (-t295)) t297 _ ?side1 ?side2 A3.out).mono ?_); (case side1 => exact Kd.C_below HR0.out (by repeat (first | (with_reducible first | exact HB.out | apply below_alloc | apply pw_below_drewN | apply below_drew1 | refine below_set ?_ GE296.out) | exact HB.out))); (case side2 => exact HC0.out); rintro e w7 ⟨v298, rfl, ho0, hb⟩; refine ⟨_, rfl, ?_⟩; have HO299 := Aside0.mk (Kd.R_lower (Kd.R_newB ho0 (g := gb296) (o := .cells #[.int .i64 t294, .int .i64 t295] 39 (0, 0)) (by (with_reducible repeat (first | refine blk_drewN ?_ _ | refine blk_drew ?_ | refine blk_alloc ?_ _)); refine blk_put (cs := #[.int .i64 t294, .int .i64 0]) ?_ 1 _ rfl; (with_reducible repeat (first | refine blk_drewN ?_ _ | refine blk_drew ?_ | refine blk_alloc ?_ _)); refine blk_put (cs := #[.int .i64 0, .int .i64 0]) ?_ 0 _ rfl; (with_reducible repeat (first | refine blk_drewN ?_ _ | refine blk_drew ?_ | refine blk_alloc ?_ _)); exact BK296.out)) (below_size (by repeat (first | (with_reducible first | exact HB.out | apply below_alloc | apply pw_below_drewN | apply below_drew1 | refine below_set ?_ GE296.out) | exact HB.out)))); replace BK296 := Aside0.mk (blk_below (g := gb296) (o := .cells #[.int .i64 t294, .int .i64 t295] 39 (0, 0)) (by (with_reducible repeat (first | refine blk_drewN ?_ _ | refine blk_drew ?_ | refine blk_alloc ?_ _)); refine blk_put (cs := #[.int .i64 t294, .int .i64 0]) ?_ 1 _ rfl; (with_reducible repeat (first | refine blk_drewN ?_ _ | refine blk_drew ?_ | refine blk_alloc ?_ _)); refine blk_put (cs := #[.int .i64 0, .int .i64 0]) ?_ 0 _ rfl; (with_reducible repeat (first | refine blk_drewN ?_ _ | refine blk_drew ?_ | refine blk_alloc ?_ _)); exact BK296.out) hb); replace HB := Aside0.mk (below_step (by repeat (first | (with_reducible first | exact HB.out | apply below_alloc | apply pw_below_drewN | apply below_drew1 | refine below_set ?_ GE296.out) | exact HB.out)) hb); (try clear hb ho0)))
 go_ret
 exact ⟨_, r2_, rS_ (Kd.R_mono HO299.out (fun _ hk => trivial)), by repeat (first | (with_reducible first | exact HB.out | apply below_alloc | apply pw_below_drewN | apply below_drew1 | refine below_set ?_ GE296.out) | exact HB.out)⟩

/-! ### impl_shapeCode: function 39 -/
def impl_shapeCode.f (k : Nat) (l0 : List (S39)) : Option (Int) := (impl_IsShape.f k l0).bind fun t300 => (if t300 = true then ((impl_normal.f k l0).bind fun t301 => ((impl_IsShape.f k t301).bind fun t304 => (if t304 = true then (some 0) else (some 3)))) else (some 1))
theorem impl_shapeCode.mono : ∀ a0 k, LeO (impl_shapeCode.f k a0) (impl_shapeCode.f (k + 1) a0) := by
 intro a0 k
 unfold impl_shapeCode.f
 repeat' first
   | (with_reducible exact impl_IsShape.mono _ _)
   | (with_reducible exact impl_normal.mono _ _)
   | (with_reducible exact LeO.refl _)
   | (with_reducible exact LeO.none _)
   | (with_reducible refine LeO.ite ?_ ?_)
   | (with_reducible refine LeO.bind ?_ (fun _ => ?_))
   | exact impl_IsShape.mono _ _
   | exact impl_normal.mono _ _
   | exact LeO.none _
   | refine LeO.ite ?_ ?_
   | refine LeO.bind ?_ (fun _ => ?_)
set_option maxHeartbeats 8000000 in
set_option maxRecDepth 100000 in
theorem impl_shapeCode.calls (k : Nat) (A0 : Option Addr) (c0 : Nat) (l0 : List (S39)) (r : Int) (w : World) (hr0 : Kd.C k39 w A0 l0.length l0) (hc0 : l0.length ≤ c0) (h : impl_shapeCode.f k l0 = some r) :
  Calls Tryz.prog 39 #[.slice A0 l0.length c0] w fun e w' => e = .returned (.int .i64 r) ∧ Below w.heap.size w w' := by
 have HR0 := Aside0.mk hr0
 have HC0 := Aside0.mk hc0
 clear hr0 hc0
 have HB := Aside0.mk (Below.refl w.heap.size w)
 have H : ((impl_IsShape.f k l0).bind fun t300 => (if t300 = true then ((impl_normal.f k l0).bind fun t301 => ((impl_IsShape.f k t301).bind fun t304 => (if t304 = true then (some 0) else (some 3)))) else (some 1))) = some r := h
 clear h
 replace H := Option.bind_eq_some_iff.mp H
 obtain ⟨t300, A20, H⟩ := H
 try dsimp only at H
 have A2 := Aside0.mk A20
 clear A20
 by_cases c3 : t300 = true
 ·subst c3
  have H1 : ((impl_normal.f k l0).bind fun t301 => ((impl_IsShape.f k t301).bind fun t304 => (if t304 = true then (some 0) else (some 3)))) = some r := by rw [if_pos rfl] at H; exact H
  clear H
  have H := H1
  clear H1
  replace H := Option.bind_eq_some_iff.mp H
  obtain ⟨t301, A40, H⟩ := H
  try dsimp only at H
  have A4 := Aside0.mk A40
  clear A40
  replace H := Option.bind_eq_some_iff.mp H
  obtain ⟨t304, A50, H⟩ := H
  try dsimp only at H
  have A5 := Aside0.mk A50
  clear A50
  by_cases c6 : t304 = true
  ·subst c6
   have H1 : (some 0) = some r := by rw [if_pos rfl] at H; exact H
   clear H
   have H := H1
   clear H1
   obtain rfl := Option.some.inj H
   go_enter Tryz.func39, Tryz.ntmps39
   go_wp2_with (first | ((with_reducible refine gate_callee (f := 33) rfl ?_); refine gL_ (some 4) Tryz.func33 #[.slice A0 l0.length c0] ?_; (with_reducible refine (impl_IsShape.calls k _ _ l0 true _ ?side1 ?side2 A2.out).mono ?_); (case side1 => exact cS_ HR0.out); (case side2 => exact HC0.out); rintro e w7 ⟨rfl, hb⟩; refine ⟨_, rfl, ?_⟩; replace HB := Aside0.mk (below_step bB_ hb); (try clear hb)) | ((with_reducible refine gate_callee (f := 21) rfl ?_); refine gL_ (some 7) Tryz.func21 #[.slice A0 l0.length c0] ?_; (with_reducible refine (impl_normal.calls k _ _ l0 t301 _ ?side1 ?side2 A4.out).mono ?_); (case side1 => exact cS_ (Kd.C_below HR0.out HB.out)); (case side2 => exact HC0.out); rintro e w8 ⟨v302, rfl, ho0, hb⟩; refine ⟨_, rfl, ?_⟩; have HO303 := Aside0.mk (Kd.R_lower ho0 (below_size bB_)); replace HB := Aside0.mk (below_step bB_ hb); (try clear hb ho0); obtain ⟨Ao9, co9, eo9⟩ := Kd.R_slice HO303.out; subst eo9) | ((with_reducible refine gate_callee (f := 33) rfl ?_); refine gL_ (some 8) Tryz.func33 #[.slice Ao9 t301.length co9] ?_; (with_reducible refine (impl_IsShape.calls k _ _ t301 true _ ?side1 ?side2 A5.out).mono ?_); (case side1 => exact cS_ ((Kd.R_reads' HO303.out).2.2)); (case side2 => exact (Kd.R_reads' HO303.out).2.1); rintro e w10 ⟨rfl, hb⟩; refine ⟨_, rfl, ?_⟩; replace HO303 := Aside0.mk (Kd.R_below (rS_ HO303.out) hb); replace HB := Aside0.mk (below_step bB_ hb); (try clear hb)))
   go_ret
   exact ⟨r2_, bB_⟩
  ·replace c6 := Bool.eq_false_iff.mpr c6
   subst c6
   have H1 : (some 3) = some r := by rw [if_neg (show ¬ (false = true) by decide)] at H; exact H
   clear H
   have H := H1
   clear H1
   obtain rfl := Option.some.inj H
   go_enter Tryz.func39, Tryz.ntmps39
   go_wp2_with (first | ((with_reducible refine gate_callee (f := 33) rfl ?_); refine gL_ (some 4) Tryz.func33 #[.slice A0 l0.length c0] ?_; (with_reducible refine (impl_IsShape.calls k _ _ l0 true _ ?side1 ?side2 A2.out).mono ?_); (case side1 => exact cS_ HR0.out); (case side2 => exact HC0.out); rintro e w11 ⟨rfl, hb⟩; refine ⟨_, rfl, ?_⟩; replace HB := Aside0.mk (below_step bB_ hb); (try clear hb)) | ((with_reducible refine gate_callee (f := 21) rfl ?_); refine gL_ (some 7) Tryz.func21 #[.slice A0 l0.length c0] ?_; (with_reducible refine (impl_normal.calls k _ _ l0 t301 _ ?side1 ?side2 A4.out).mono ?_); (case side1 => exact cS_ (Kd.C_below HR0.out HB.out)); (case side2 => exact HC0.out); rintro e w12 ⟨v302, rfl, ho0, hb⟩; refine ⟨_, rfl, ?_⟩; have HO303 := Aside0.mk (Kd.R_lower ho0 (below_size bB_)); replace HB := Aside0.mk (below_step bB_ hb); (try clear hb ho0); obtain ⟨Ao13, co13, eo13⟩ := Kd.R_slice HO303.out; subst eo13) | ((with_reducible refine gate_callee (f := 33) rfl ?_); refine gL_ (some 8) Tryz.func33 #[.slice Ao13 t301.length co13] ?_; (with_reducible refine (impl_IsShape.calls k _ _ t301 false _ ?side1 ?side2 A5.out).mono ?_); (case side1 => exact cS_ ((Kd.R_reads' HO303.out).2.2)); (case side2 => exact (Kd.R_reads' HO303.out).2.1); rintro e w14 ⟨rfl, hb⟩; refine ⟨_, rfl, ?_⟩; replace HO303 := Aside0.mk (Kd.R_below (rS_ HO303.out) hb); replace HB := Aside0.mk (below_step bB_ hb); (try clear hb)))
   go_ret
   exact ⟨r2_, bB_⟩
 ·replace c3 := Bool.eq_false_iff.mpr c3
  subst c3
  have H1 : (some 1) = some r := by rw [if_neg (show ¬ (false = true) by decide)] at H; exact H
  clear H
  have H := H1
  clear H1
  obtain rfl := Option.some.inj H
  go_enter Tryz.func39, Tryz.ntmps39
  go_wp2_with (first | ((with_reducible refine gate_callee (f := 33) rfl ?_); refine gL_ (some 4) Tryz.func33 #[.slice A0 l0.length c0] ?_; (with_reducible refine (impl_IsShape.calls k _ _ l0 false _ ?side1 ?side2 A2.out).mono ?_); (case side1 => exact cS_ HR0.out); (case side2 => exact HC0.out); rintro e w15 ⟨rfl, hb⟩; refine ⟨_, rfl, ?_⟩; replace HB := Aside0.mk (below_step bB_ hb); (try clear hb)))
  go_ret
  exact ⟨r2_, bB_⟩

/-! ### impl_connectedCode: function 16 -/
def impl_connectedCode.f (k : Nat) (l0 : List (S39)) : Option (Int) := (impl_IsConnected.f k l0).bind fun t305 => (if t305 = true then ((impl_shapeCode.f k l0).bind fun t306 => (some t306)) else (some 1))
theorem impl_connectedCode.mono : ∀ a0 k, LeO (impl_connectedCode.f k a0) (impl_connectedCode.f (k + 1) a0) := by
 intro a0 k
 unfold impl_connectedCode.f
 repeat' first
   | (with_reducible exact impl_IsConnected.mono _ _)
   | (with_reducible exact impl_shapeCode.mono _ _)
   | (with_reducible exact LeO.refl _)
   | (with_reducible exact LeO.none _)
   | (with_reducible refine LeO.ite ?_ ?_)
   | (with_reducible refine LeO.bind ?_ (fun _ => ?_))
   | exact impl_IsConnected.mono _ _
   | exact impl_shapeCode.mono _ _
   | exact LeO.none _
   | refine LeO.ite ?_ ?_
   | refine LeO.bind ?_ (fun _ => ?_)
set_option maxHeartbeats 8000000 in
set_option maxRecDepth 100000 in
theorem impl_connectedCode.calls (k : Nat) (A0 : Option Addr) (c0 : Nat) (l0 : List (S39)) (r : Int) (w : World) (hr0 : Kd.C k39 w A0 l0.length l0) (hc0 : l0.length ≤ c0) (h : impl_connectedCode.f k l0 = some r) :
  Calls Tryz.prog 16 #[.slice A0 l0.length c0] w fun e w' => e = .returned (.int .i64 r) ∧ Below w.heap.size w w' := by
 have HR0 := Aside0.mk hr0
 have HC0 := Aside0.mk hc0
 clear hr0 hc0
 have HB := Aside0.mk (Below.refl w.heap.size w)
 have H : ((impl_IsConnected.f k l0).bind fun t305 => (if t305 = true then ((impl_shapeCode.f k l0).bind fun t306 => (some t306)) else (some 1))) = some r := h
 clear h
 replace H := Option.bind_eq_some_iff.mp H
 obtain ⟨t305, A20, H⟩ := H
 try dsimp only at H
 have A2 := Aside0.mk A20
 clear A20
 by_cases c3 : t305 = true
 ·subst c3
  have H1 : ((impl_shapeCode.f k l0).bind fun t306 => (some t306)) = some r := by rw [if_pos rfl] at H; exact H
  clear H
  have H := H1
  clear H1
  replace H := Option.bind_eq_some_iff.mp H
  obtain ⟨t306, A40, H⟩ := H
  try dsimp only at H
  have A4 := Aside0.mk A40
  clear A40
  obtain rfl := Option.some.inj H
  go_enter Tryz.func16, Tryz.ntmps16
  go_wp2_with (first | ((with_reducible refine gate_callee (f := 38) rfl ?_); refine gL_ (some 4) Tryz.func38 #[.slice A0 l0.length c0] ?_; (with_reducible refine (impl_IsConnected.calls k _ _ l0 true _ ?side1 ?side2 A2.out).mono ?_); (case side1 => exact cS_ HR0.out); (case side2 => exact HC0.out); rintro e w5 ⟨rfl, hb⟩; refine ⟨_, rfl, ?_⟩; replace HB := Aside0.mk (below_step bB_ hb); (try clear hb)) | ((with_reducible refine gate_callee (f := 39) rfl ?_); refine gL_ (some 7) Tryz.func39 #[.slice A0 l0.length c0] ?_; (with_reducible refine (impl_shapeCode.calls k _ _ l0 t306 _ ?side1 ?side2 A4.out).mono ?_); (case side1 => exact cS_ (Kd.C_below HR0.out HB.out)); (case side2 => exact HC0.out); rintro e w6 ⟨rfl, hb⟩; refine ⟨_, rfl, ?_⟩; replace HB := Aside0.mk (below_step bB_ hb); (try clear hb)))
  go_ret
  exact ⟨r2_, bB_⟩
 ·replace c3 := Bool.eq_false_iff.mpr c3
  subst c3
  have H1 : (some 1) = some r := by rw [if_neg (show ¬ (false = true) by decide)] at H; exact H
  clear H
  have H := H1
  clear H1
  obtain rfl := Option.some.inj H
  go_enter Tryz.func16, Tryz.ntmps16
  go_wp2_with (first | ((with_reducible refine gate_callee (f := 38) rfl ?_); refine gL_ (some 4) Tryz.func38 #[.slice A0 l0.length c0] ?_; (with_reducible refine (impl_IsConnected.calls k _ _ l0 false _ ?side1 ?side2 A2.out).mono ?_); (case side1 => exact cS_ HR0.out); (case side2 => exact HC0.out); rintro e w7 ⟨rfl, hb⟩; refine ⟨_, rfl, ?_⟩; replace HB := Aside0.mk (below_step bB_ hb); (try clear hb)))
  go_ret
  exact ⟨r2_, bB_⟩

/-! ### slices_Compact_Cell: function 69, by hand -/
-- IMPORT Derived.Lib.SliceRun
section
attribute [local go_sem high] eqA39
def sameC_ (a b : S39) : Bool := a.f0 == b.f0 && (a.f1 == b.f1)
/-- the first n cells without those that come again one behind the other -/
def ddN_ (l : List S39) : Nat → List S39
 | 0 => []
 | i + 1 => if i ≠ 0 ∧ sameC_ (rd_T39 l (i : Nat)) (rd_T39 l ((i - 1 : Nat) : Int)) = true then ddN_ l i else ddN_ l i ++ [rd_T39 l (i : Nat)]
def slices_Compact_Cell.f (l0 : List S39) : Option (List S39) := some (ddN_ l0 l0.length)
/-- the row's block in a world: what the first cells are -/
structure RowAt_ (w : World) (g cap n : Nat) (m : List S39) (wr : World) : Prop where
 blk : ∃ cur, wr.heap[g]? = some (.cells cur 39 (0, 0)) ∧ cur.size = cap * 2 ∧ cur.toList.take (n * 2) = flatC_ m
 len : m.length = n
 grown : w.grownBy wr (some g)
theorem RowAt_.cell {w wr : World} {g cap n : Nat} {m : List S39} (h : RowAt_ w g cap n m wr) (p : Nat) (hp : p < n) (x : S39) (hx : m[p]? = some x) :
  wr.cell? ⟨g, p * 2, none⟩ = some (.int .i64 x.f0) ∧ wr.cell? ⟨g, p * 2 + 1, none⟩ = some (.int .i64 x.f1) ∧ wr.frozen? ⟨g, p * 2, none⟩ = false ∧ wr.frozen? ⟨g, p * 2 + 1, none⟩ = false := by
 obtain ⟨cur, hb, hs, ht⟩ := h.blk
 obtain ⟨g0, g1⟩ := flatC_get m p x hx
 rw [← ht, List.getElem?_take, if_pos (by omega), Array.getElem?_toList] at g0 g1
 refine ⟨(blk_cell hb _).trans ?_, (blk_cell hb _).trans ?_, blk_frozen hb _, blk_frozen hb _⟩
 ·rw [show p * 2 = 2 * p by omega]; exact g0
 ·rw [show p * 2 + 1 = 2 * p + 1 by omega]; exact g1
theorem RowAt_.drew {w wr : World} {g cap n : Nat} {m : List S39} (h : RowAt_ w g cap n m wr) (k : Nat) : RowAt_ w g cap n m (wr.drewN k) :=
 ⟨h.blk, h.len, ⟨h.grown.os, h.grown.tape, h.grown.output, h.grown.size, h.grown.block⟩⟩
theorem flatC_set : ∀ (m : List S39) (p : Nat) (x : S39), flatC_ (m.set p x) = ((flatC_ m).set (p * 2) (.int .i64 x.f0)).set (p * 2 + 1) (.int .i64 x.f1) := by
 intro m
 induction m with
 | nil => intro p x; rfl
 | cons c r ih =>
  intro p x
  cases p with
  | zero => rfl
  | succ p =>
   show encC_ c ++ flatC_ (r.set p x) = _
   rw [ih p x]
   show _ = ((encC_ c ++ flatC_ r).set ((p + 1) * 2) _).set ((p + 1) * 2 + 1) _
   rw [show (p + 1) * 2 = p * 2 + 2 from by omega]
   rfl
theorem RowAt_.set {w wr : World} {g cap n : Nat} {m : List S39} (h : RowAt_ w g cap n m wr) (hn : n ≤ cap) (p : Nat) (hp : p < n) (x : S39) :
  RowAt_ w g cap n (m.set p x) ((wr.setCell ⟨g, p * 2, none⟩ (.int .i64 x.f0)).setCell ⟨g, p * 2 + 1, none⟩ (.int .i64 x.f1)) := by
 obtain ⟨cur, hb, hs, ht⟩ := h.blk
 refine ⟨⟨_, blk_set (blk_set hb _ _) _ _, by simp [hs], ?_⟩, by rw [List.length_set]; exact h.len, ?_⟩
 ·rw [flatC_set, ← ht]
  simp only [Array.toList_setIfInBounds, List.take_set]
 ·refine ⟨h.grown.os, h.grown.tape, h.grown.output, ?_, fun k hk hne => ?_⟩
  ·have := h.grown.size; simpa [World.setCell] using this
  ·have hkg : k ≠ g := fun e => hne (by rw [e])
   rw [Below.heap_setCell _ _ _ k hkg, Below.heap_setCell _ _ _ k hkg]; exact h.grown.block k hk hne
theorem setCells_blk {e : TypeId} (g : Nat) : ∀ (vs : List Value) (o : Nat) (wr : World) (cur : Array Value), wr.heap[g]? = some (.cells cur e (0, 0)) → ∃ cur', (wr.setCells g o vs).heap[g]? = some (.cells cur' e (0, 0)) ∧ cur'.size = cur.size ∧ (∀ j, j < o → cur'[j]? = cur[j]?) ∧ (∀ k, k ≠ g → (wr.setCells g o vs).heap[k]? = wr.heap[k]?) ∧ (wr.setCells g o vs).heap.size = wr.heap.size ∧ (wr.setCells g o vs).os = wr.os ∧ (wr.setCells g o vs).tape = wr.tape ∧ (wr.setCells g o vs).output = wr.output := by
 intro vs
 induction vs with
 | nil => intro o wr cur h; exact ⟨cur, h, rfl, fun _ _ => rfl, fun _ _ => rfl, rfl, rfl, rfl, rfl⟩
 | cons v r ih =>
  intro o wr cur h
  obtain ⟨c', h1, h2, h3, h4, h5, h6, h7, h8⟩ := ih (o + 1) (wr.setCell ⟨g, o, none⟩ v) _ (blk_set h o v)
  refine ⟨c', h1, by rw [h2]; simp, fun j hj => ?_, fun k hk => ?_, ?_, h6, h7, h8⟩
  ·rw [h3 j (by omega), Array.getElem?_setIfInBounds_ne (by omega)]
  ·exact (h4 k hk).trans (Below.heap_setCell _ _ _ k hk)
  ·refine h5.trans ?_; simp [World.setCell]
theorem ddN_length (l : List S39) : ∀ i, (ddN_ l i).length ≤ i := by
 intro i
 induction i with
 | zero => exact Nat.le_refl _
 | succ i ih =>
  unfold ddN_
  split
  ·omega
  ·rw [List.length_append]; simp; omega
theorem zeroCells_cell (n : Nat) : (Builtin.zeroCells (Value.agg #[.int .i64 0, .int .i64 0]).cells n).toList = List.replicate (n * 2) (.int .i64 0) := by
 apply List.ext_getElem
 ·simp [Builtin.zeroCells, Value.cells]
 ·intro i h1 h2
  simp [Builtin.zeroCells, Value.cells]
  have : i % 2 = 0 ∨ i % 2 = 1 := by omega
  rcases this with h | h <;> simp [h]
theorem clear_cells (w : World) (ty : TypeId) (b o n c : Nat) (hn : 0 < n) (hc : ∀ j, j < n * 2 → (w.cell? ⟨b, o + j, none⟩).isSome = true) (hf : ∀ j, j < n * 2 → w.frozen? ⟨b, o + j, none⟩ = false) :
  (Builtin.clear_ #[24] ty #[.slice (some ⟨b, o, none⟩) n c]).run Tryz.prog w = .ok (.tuple #[]) (w.setCells b o (List.replicate (n * 2) (.int .i64 0))) := by
 have hst := run_storeCells_cells (P := Tryz.prog) b o (List.replicate (n * 2) (.int .i64 0)) 0 w (by simpa using hc) (by simpa using hf) (by intro v hv'; rw [List.eq_of_mem_replicate hv']; rfl)
 simp only [Nat.add_zero] at hst
 obtain ⟨m, rfl⟩ : ∃ m, n = m + 1 := ⟨n - 1, by omega⟩
 have hz := zeroCells_cell (m + 1)
 simp [Builtin.clear_, run_underlying Tryz.underlying24, Tryz.zeroValue39, hz, hst]
theorem w64_ {x : Int} (h1 : -9223372036854775808 ≤ x) (h2 : x ≤ 9223372036854775807) : wrap64 x = x := by unfold wrap64; omega
theorem flatC_take : ∀ (m : List S39) (k : Nat), flatC_ (m.take k) = (flatC_ m).take (k * 2) := by
 intro m
 induction m with
 | nil => intro k; simp [flatC_]
 | cons c r ih =>
  intro k
  cases k with
  | zero => rfl
  | succ k =>
   rw [List.take_succ_cons]
   show encC_ c ++ flatC_ (r.take k) = (encC_ c ++ flatC_ r).take ((k + 1) * 2)
   rw [ih k, show (k + 1) * 2 = k * 2 + 2 by omega]; rfl
theorem rdC_get (l : List S39) (p : Nat) (hp : p < l.length) : l[p]? = some (rd_T39 l (p : Nat)) := by
 unfold rd_T39; rw [List.getD_eq_getElem?_getD, Int.toNat_natCast, List.getElem?_eq_getElem hp]; rfl
set_option maxHeartbeats 4000000 in
set_option maxRecDepth 100000 in
theorem compact_walk (g cap : Nat) (l : List S39) (w : World) (h2 : 2 ≤ l.length) (hn : l.length ≤ cap) (hmax : cap ≤ maxLen) (h : RowAt_ w g cap l.length l w) :
  Calls Tryz.prog 69 #[.slice (some ⟨g, 0, none⟩) l.length cap] w fun e w' => e = .returned (.slice (some ⟨g, 0, none⟩) (ddN_ l l.length).length cap) ∧ RowAt_ w g cap (ddN_ l l.length).length (ddN_ l l.length) w' := by
 have hu1 := Tryz.underlying24
 simp only [maxLen] at hmax
 have HN := Aside0.mk hn
 have HR := Aside0.mk h
 clear h
 go_enter Tryz.func69, Tryz.ntmps69
 have z1 : decide ((l.length : Int) < 2) = false := decide_eq_false (by omega)
 have z2 : decide (l.length < 2) = false := decide_eq_false (by omega)
 go_wp2_with fail
 go_loopg [3] l.length (fun gk v3 wr => ∃ (kx : Int) (q : Nat), v3 = .int .i64 kx ∧ wr = w.drewN q ∧ Aside0 (1 ≤ kx ∧ kx ≤ l.length ∧ gk + kx = l.length + 1) ∧ Aside0 (ddN_ l kx.toNat = l.take kx.toNat))
 case atStart => exact ⟨1, 0, rfl, rfl, ⟨by omega⟩, ⟨by
  cases l with
  | nil => simp at h2
  | cons c r => rfl⟩⟩
 case round =>
  obtain ⟨kx, q, rfl, rfl, HK, HD⟩ := hrel
  cases gk with
  | zero => exact absurd HK.out (by omega)
  | succ gk2 =>
   by_cases hlt : kx < (l.length : Int)
   ·have hk1 := HK.out.1
    obtain ⟨x0, x1, _, _⟩ := HR.out.cell kx.toNat (by omega) _ (rdC_get l kx.toNat (by omega))
    obtain ⟨y0, y1, _, _⟩ := HR.out.cell (kx.toNat - 1) (by omega) _ (rdC_get l (kx.toNat - 1) (by omega))
    have hdd : ddN_ l (kx.toNat + 1) = if sameC_ (rd_T39 l (kx.toNat : Nat)) (rd_T39 l ((kx.toNat - 1) : Nat)) = true then ddN_ l kx.toNat else ddN_ l kx.toNat ++ [rd_T39 l (kx.toNat : Nat)] := by
     show (if kx.toNat ≠ 0 ∧ sameC_ (rd_T39 l (kx.toNat : Nat)) (rd_T39 l ((kx.toNat - 1 : Nat) : Int)) = true then _ else _) = _
     simp only [show kx.toNat ≠ 0 by omega, true_and, ne_eq, not_false_eq_true]
    have HDD := Aside0.mk hdd
    clear hdd
    have HX := Aside0.mk (rdC_get l kx.toNat (by omega))
    generalize rd_T39 l (kx.toNat : Nat) = x at *
    generalize rd_T39 l ((kx.toNat - 1) : Nat) = y at *
    have c1 : decide (kx < (l.length : Int)) = true := decide_eq_true hlt
    have p0 : 0 ≤ kx := by omega
    have p1 : 0 ≤ kx - 1 := by omega
    have q1 : kx - 1 < (l.length : Int) := by omega
    clear hk1
    by_cases hs : sameC_ x y = true
    ·have hs' : (x.f0 == y.f0 && (x.f1 == y.f1)) = true := hs
     have HS := Aside0.mk hs
     clear hs
     go_wp2_with fail
     go_region
     go_wp2_with fail
     have hK1 : 1 ≤ kx.toNat := by omega
     have hKn : kx.toNat < l.length := by omega
     have hgk : kx = (kx.toNat : Int) := by omega
     have hD := HD.out
     have hDD := HDD.out
     rw [if_pos HS.out] at hDD
     clear x0 x1 y0 y1 HX HDD HD HS hs' c1 p0 p1 q1 hlt HK
     generalize kx.toNat = K at *
     subst hgk
     obtain ⟨L2, hL2⟩ : ∃ L2, L2 = l.length - K := ⟨_, rfl⟩
     obtain ⟨C2, hC2⟩ : ∃ C2, C2 = cap - K := ⟨_, rfl⟩
     rw [← hL2, ← hC2]
     have hL2m : L2 ≤ 9223372036854775807 := by omega
     have HL2 := Aside0.mk hL2
     have HC2 := Aside0.mk hC2
     have HKK := Aside0.mk (⟨hK1, hKn⟩ : 1 ≤ K ∧ K < l.length)
     have HD0 := Aside0.mk (⟨hD, hDD⟩ : ddN_ l K = l.take K ∧ ddN_ l (K + 1) = ddN_ l K)
     clear hL2 hC2 hK1 hKn hD hDD
     go_loopg [3, 5] l.length (fun gk v3 v5 wr => ∃ (kv k2 : Int) (m : List S39), v3 = .int .i64 kv ∧ v5 = .int .i64 k2 ∧ Aside0 (1 ≤ k2 ∧ k2 ≤ L2 ∧ gk + (K + k2) = l.length + K + 1) ∧ Aside0 (RowAt_ w g cap l.length m wr) ∧ Aside0 (kv = (ddN_ l (K + k2.toNat)).length) ∧ Aside0 (m.take kv.toNat = ddN_ l (K + k2.toNat)) ∧ Aside0 (∀ p, K + k2.toNat ≤ p + 1 → m[p]? = l[p]?) ∧ Aside0 (kv < K + k2))
     case atStart =>
      have e : (ddN_ l (K + (1 : Int).toNat)) = l.take K := by rw [show (1 : Int).toNat = 1 from rfl, HD0.out.2, HD0.out.1]
      have el : (l.take K).length = K := by rw [List.length_take]; have := HKK.out; omega
      exact ⟨K, 1, l, rfl, rfl, ⟨by have := HKK.out; have := HL2.out; omega⟩, ⟨HR.out.drew _⟩, ⟨by rw [e, el]⟩, ⟨by rw [e]; rfl⟩, ⟨fun p _ => rfl⟩, ⟨by omega⟩⟩
     case round =>
      clear HD0
      obtain ⟨kv, k2, m, rfl, rfl, HB2, HRW, HV, HT, HH, HVK⟩ := hrel
      cases gk with
      | zero => exact absurd HB2.out (by have := HKK.out; have := HL2.out; omega)
      | succ gk3 =>
       by_cases hlt2 : k2 < (L2 : Int)
       ·have hb := HB2.out
        have hkk := HKK.out
        have hl2 := HL2.out
        have hvk := HVK.out
        have hi : K + k2.toNat < l.length := by omega
        have hm : ∀ p, K + k2.toNat ≤ p + 1 → p < l.length → m[p]? = some (rd_T39 l (p : Nat)) := fun p h1 h2 => by rw [HH.out p h1]; exact rdC_get l p h2
        obtain ⟨x0, x1, _, _⟩ := HRW.out.cell (K + k2.toNat) hi _ (hm _ (by omega) hi)
        obtain ⟨y0, y1, _, _⟩ := HRW.out.cell (K + (k2.toNat - 1)) (by omega) _ (hm _ (by omega) (by omega))
        have hml := HRW.out.len
        have hv0 : 0 ≤ kv := by rw [HV.out]; omega
        obtain ⟨_, _, s0, s1⟩ := HRW.out.cell kv.toNat (by omega) _ (rdC_get m kv.toNat (by omega))
        have hc0 := HRW.out.cell kv.toNat (by omega) _ (rdC_get m kv.toNat (by omega))
        obtain ⟨o0, o1, _, _⟩ := hc0
        have hdd : ddN_ l (K + k2.toNat + 1) = if sameC_ (rd_T39 l ((K + k2.toNat : Nat) : Int)) (rd_T39 l ((K + (k2.toNat - 1) : Nat) : Int)) = true then ddN_ l (K + k2.toNat) else ddN_ l (K + k2.toNat) ++ [rd_T39 l ((K + k2.toNat : Nat) : Int)] := by
         show (if K + k2.toNat ≠ 0 ∧ sameC_ (rd_T39 l ((K + k2.toNat : Nat) : Int)) (rd_T39 l ((K + k2.toNat - 1 : Nat) : Int)) = true then _ else _) = _
         rw [show K + k2.toNat - 1 = K + (k2.toNat - 1) by omega]
         simp only [show K + k2.toNat ≠ 0 by omega, true_and, ne_eq, not_false_eq_true]
        have HDD := Aside0.mk hdd
        clear hdd
        have HX := Aside0.mk (hm _ (by omega) hi)
        generalize rd_T39 l ((K + k2.toNat : Nat) : Int) = x at *
        generalize rd_T39 l ((K + (k2.toNat - 1) : Nat) : Int) = y at *
        generalize rd_T39 m ((kv.toNat : Nat) : Int) = old at *
        rw [show (K + k2.toNat) * 2 = K * 2 + k2.toNat * 2 by omega] at x0 x1
        rw [show (K + (k2.toNat - 1)) * 2 = K * 2 + (k2.toNat - 1) * 2 by omega] at y0 y1
        have c1 : decide (k2 < (L2 : Int)) = true := decide_eq_true hlt2
        have p0 : 0 ≤ k2 := by omega
        have p1 : 0 ≤ k2 - 1 := by omega
        have q1 : k2 - 1 < (L2 : Int) := by omega
        have pv : 0 ≤ kv := hv0
        have qv : kv < (l.length : Int) := by omega
        have HI := Aside0.mk hi
        clear hm hi hl2 hkk hb hvk hml hv0
        by_cases hs : sameC_ x y = true
        ·have hs' : (x.f0 == y.f0 && (x.f1 == y.f1)) = true := hs
         have HS := Aside0.mk hs
         clear hs
         have hsn : (!(x.f0 == y.f0 && (x.f1 == y.f1))) = false := by rw [hs']; rfl
         go_wp2_with fail
         go_region
         go_wp2_with fail
         go_roundg gk3
         case measure => omega
         case rel =>
          have hdd := HDD.out
          rw [if_pos HS.out] at hdd
          have ek : K + (k2 + 1).toNat = K + k2.toNat + 1 := by omega
          exact ⟨kv, k2 + 1, m, rfl, rfl, ⟨by have := HB2.out; omega⟩, ⟨HRW.out.drew 1⟩, ⟨by rw [ek, hdd]; exact HV.out⟩, ⟨by rw [ek, hdd]; exact HT.out⟩, ⟨fun p hp => HH.out p (by omega)⟩, ⟨by have := HVK.out; omega⟩⟩
        ·replace hs : (x.f0 == y.f0 && (x.f1 == y.f1)) = false := Bool.eq_false_iff.mpr hs
         have HS := Aside0.mk hs
         have hsn : (!(x.f0 == y.f0 && (x.f1 == y.f1))) = true := by rw [hs]; rfl
         go_wp2_with fail
         go_region
         go_wp2_with fail
         go_roundg gk3
         case measure => omega
         case rel =>
          have hdd := HDD.out
          rw [if_neg (by unfold sameC_; rw [HS.out]; simp)] at hdd
          have ek : K + (k2 + 1).toNat = K + k2.toNat + 1 := by omega
          have ev : (kv + 1).toNat = kv.toNat + 1 := by omega
          have hml := HRW.out.len
          refine ⟨kv + 1, k2 + 1, m.set kv.toNat x, rfl, rfl, ⟨by have := HB2.out; omega⟩, ⟨(HRW.out.drew 1).set HN.out kv.toNat (by omega) x⟩, ⟨?_⟩, ⟨?_⟩, ⟨fun p hp => ?_⟩, ⟨by have := HVK.out; omega⟩⟩
          ·rw [ek, hdd, List.length_append]; have := HV.out; simp; omega
          ·rw [ek, hdd, ev, List.take_add_one, List.take_set_of_le (Nat.le_refl _), HT.out, List.getElem?_set_self (by omega)]; rfl
          ·have := HVK.out
           rw [List.getElem?_set_ne (by omega)]; exact HH.out p (by omega)
       ·have hb := HB2.out
        have hkk := HKK.out
        have hl2 := HL2.out
        have hvk := HVK.out
        have hv0 : 0 ≤ kv := by rw [HV.out]; omega
        have hek : K + k2.toNat = l.length := by omega
        have hvn : kv.toNat < l.length := by omega
        obtain ⟨cur, hcb, hcs, hct⟩ := HRW.out.blk
        have hcl : ∀ ty, (Builtin.clear_ #[24] ty #[.slice (some ⟨g, kv.toNat * 2, none⟩) (l.length - kv.toNat) (cap - kv.toNat)]).run Tryz.prog wr = .ok (.tuple #[]) (wr.setCells g (kv.toNat * 2) (List.replicate ((l.length - kv.toNat) * 2) (.int .i64 0))) := by
         intro ty
         refine clear_cells wr ty g _ _ _ (by omega) (fun j hj => ?_) (fun j hj => blk_frozen hcb _)
         rw [blk_cell hcb, Array.getElem?_eq_getElem (by have := HN.out; omega)]; rfl
        have c1 : decide (k2 < (L2 : Int)) = false := decide_eq_false hlt2
        have pv : 0 ≤ kv := hv0
        have qv : kv ≤ (l.length : Int) := by omega
        have HVN := Aside0.mk hvn
        have HEK := Aside0.mk hek
        have HCB := Aside0.mk hcb
        have HCS := Aside0.mk hcs
        have HCT := Aside0.mk hct
        clear hvn hek hcb hcs hct hv0 hvk hl2 hkk hb
        go_wp2_with fail
        ·exact absurd HVN.out (by have := HN.out; omega)
        go_ret
        obtain ⟨cur', d1, d2, d3, d4, d5, d6, d7, d8⟩ := setCells_blk g (List.replicate ((l.length - kv.toNat) * 2) (.int .i64 0)) (kv.toNat * 2) wr cur HCB.out
        have hG := HRW.out.grown
        have hVt := HV.out
        have hTt := HT.out
        have hml := HRW.out.len
        rw [HEK.out] at hVt hTt
        have hvt : kv.toNat = (ddN_ l l.length).length := by omega
        have hnc := HN.out
        have hvn := HVN.out
        have hcs := HCS.out
        have hct := HCT.out
        refine ⟨congrArg (fun n => Ending.returned (Value.slice (some ⟨g, 0, none⟩) n cap)) hvt, ⟨⟨cur', d1, by rw [d2]; exact hcs, ?_⟩, rfl, ⟨by rw [d6]; exact hG.os, by rw [d7]; exact hG.tape, by rw [d8]; exact hG.output, by rw [d5]; exact hG.size, fun k hk hne => (d4 k (fun e => hne (by rw [e]))).trans (hG.block k hk hne)⟩⟩⟩
        rw [← hTt, flatC_take, ← hct, List.take_take, hTt, ← hvt, Nat.min_eq_left (by omega)]
        apply List.ext_getElem?
        intro j
        rw [List.getElem?_take, List.getElem?_take]
        by_cases hj : j < kv.toNat * 2
        ·rw [if_pos hj, if_pos hj, Array.getElem?_toList, Array.getElem?_toList]; exact d3 j hj
        ·rw [if_neg hj, if_neg hj]
    ·replace hs : (x.f0 == y.f0 && (x.f1 == y.f1)) = false := Bool.eq_false_iff.mpr hs
     have HS := Aside0.mk hs
     go_wp2_with fail
     go_region
     go_wp2_with fail
     go_roundg gk2
     case measure => omega
     case rel =>
      refine ⟨kx + 1, q + 1, rfl, rfl, ⟨by have := HK.out; omega⟩, ⟨?_⟩⟩
      have hDD := HDD.out
      rw [if_neg (by unfold sameC_; rw [HS.out]; simp), HD.out] at hDD
      rw [show (kx + 1).toNat = kx.toNat + 1 by omega, hDD, List.take_add_one, HX.out]; rfl
   ·have hk : kx = l.length := by have := HK.out; omega
    subst hk
    have e : ddN_ l l.length = l := by have := HD.out; rw [Int.toNat_natCast] at this; rw [this, List.take_length]
    have E := Aside0.mk e
    clear e HD
    go_wp2_with fail
    go_ret
    rw [E.out]
    exact ⟨rfl, HR.out.drew q⟩
set_option maxHeartbeats 1000000 in
theorem compact_short (A : Option Addr) (n cap : Nat) (hn : n < 2) (w : World) : Calls Tryz.prog 69 #[.slice A n cap] w fun e w' => e = .returned (.slice A n cap) ∧ w' = w := by
 have z1 : decide ((n : Int) < 2) = true := decide_eq_true (by omega)
 have z2 : decide (n < 2) = true := decide_eq_true hn
 go_enter Tryz.func69, Tryz.ntmps69
 go_wp2
 go_ret
 exact ⟨rfl, rfl⟩
theorem ddN_short (l : List S39) (h : l.length < 2) : ddN_ l l.length = l := by
 match l, h with
 | [], _ => rfl
 | [c], _ => rfl
 | _ :: _ :: _, h => exact absurd h (by simp only [List.length_cons]; omega)
theorem slices_Compact_Cell.calls (P0_ : Nat → Prop) (u9000_ : Value) (l0 : List (S39)) (r : List (S39)) (w0 w : World) (hB : Below w0.heap.size w0 w) (ho0 : Kd.R k39 39 w w0.heap.size P0_ u9000_ l0) (h : slices_Compact_Cell.f l0 = some r) :
  Calls Tryz.prog 69 #[u9000_] w fun e w' => ∃ v0_ : Value, e = .returned v0_ ∧ Kd.R k39 39 w' w0.heap.size (fun k_ => (P0_ k_ ∨ w.heap.size ≤ k_)) v0_ r ∧ Below w0.heap.size w0 w' ∧ Kept w w' (fun k_ => P0_ k_) := by
 obtain rfl := Option.some.inj h
 by_cases h2 : l0.length < 2
 ·obtain ⟨hok, inner, ⟨hlen, hv⟩, hreps⟩ := ho0
  rw [ddN_short l0 h2]
  have hR : Kd.R k39 39 w w0.heap.size (fun k_ => (P0_ k_ ∨ w.heap.size ≤ k_)) u9000_ l0 := Kd.R_mono ⟨hok, inner, ⟨hlen, hv⟩, hreps⟩ (fun _ hk => Or.inl hk)
  rcases hv with ⟨rfl, hn⟩ | ⟨g, cap, cur, rfl, _⟩
  ·refine (compact_short none 0 0 (by omega) w).mono ?_
   rintro e w' ⟨rfl, rfl⟩
   exact ⟨_, rfl, hR, hB, Kept.refl _ _⟩
  ·refine (compact_short _ l0.length cap h2 w).mono ?_
   rintro e w' ⟨rfl, rfl⟩
   exact ⟨_, rfl, hR, hB, Kept.refl _ _⟩
 ·obtain ⟨hok, inner, ⟨hlen, hv⟩, hreps⟩ := ho0
  have hin : inner = flatC_ l0 := flatC_of_reps (fun x cs hx => kC_M_inv hx) l0 inner hreps
  rcases hv with ⟨_, hn⟩ | ⟨g, cap, cur, rfl, hge, hblk, hcap, hmax, hcur, htake⟩
  ·exact absurd hn (by omega)
  ·have hrow : RowAt_ w g cap l0.length l0 w := ⟨⟨cur, hblk, hcur, by rw [← hin, ← htake]; rfl⟩, rfl, ⟨rfl, rfl, rfl, Nat.le_refl _, fun _ _ _ => rfl⟩⟩
   refine (compact_walk g cap l0 w (by omega) hcap hmax hrow).mono ?_
   rintro e w' ⟨rfl, hr⟩
   obtain ⟨cur2, b1, b2, b3⟩ := hr.blk
   have hg1 := hr.grown
   have hle := ddN_length l0 l0.length
   exact ⟨_, rfl, ownC_R ⟨by rw [flatC_length], Or.inr ⟨g, cap, cur2, rfl, hge, b1, by omega, hmax, b2, b3⟩⟩ (fun k hk => Or.inl (hok k hk)), hB.grown hg1 hB.size (fun k hk => by cases hk; exact hge), ⟨hg1.size, fun i hi hn => hg1.block i hi (fun he => hn (by cases he; exact hok g rfl))⟩⟩
end

/-! ### slices_Delete_Cell: function 17, by hand -/
-- IMPORT Derived.Lib.SliceRun
-- COMMONS none
def slices_Delete_Cell.f (l0 : List S39) (a1 a2 : Int) : Option (List S39) := if (0 ≤ a1 ∧ a1 < (l0.length : Int)) ∧ a2 = a1 + 1 ∧ l0.length ≤ 8796093022208 then some (l0.eraseIdx a1.toNat) else none
def slices_Delete_Cell.T5 : Bool × List (List Nat × List Nat) := (true, [([], []), ([], []), ([0, 1], [0, 1]), ([], []), ([], []), ([3, 4], [3, 4]), ([2, 5], [2, 5]), ([6, 6, 0, 1, 2, 3, 4, 5, 6], [0, 3, 6])])
def slices_Delete_Cell.B5 : List Nat := [0, 0, 3, 0, 0, 24, 63, 127]
theorem slices_Delete_Cell.tab5 : rtab .any (opsOf Tryz.f17 5) = slices_Delete_Cell.T5 := by kernel_rfl
theorem slices_Delete_Cell.bits5 : waitsOk slices_Delete_Cell.T5.2 slices_Delete_Cell.B5 = true := by kernel_rfl
section
variable {P : Program} {ops : Array Oper} {o : Oper} {a : Act} {Q : Exit → Act → World → Prop} {Kc : Act → World → Prop}
theorem append_run_step {W w1 : World} {v u v1 : Value} (hw : Region.wanted o (yielded ops a.tmps) = true) (s x : Operand) (t : TypeId) (ho : o.op = .call { callee := .builtin .append, args := #[s, x], argTypes := #[t, t] }) (hs : a.eval s = v) (hx : a.eval x = u)
  (hrun : (Builtin.append_ #[t, t] o.type #[v, u]).run P W = .ok v1 w1) (h : Kc (a.put o.dst v1) w1) : if Region.wanted o (yielded ops a.tmps) = true then Oper.wp P o a W Kc Q else Kc (a.put o.dst undef) W :=
 by
 rw [if_pos hw]
 unfold Oper.wp execOp
 simp only [ho, resolve, invoke, builtin, Sem.run_bind, Sem.run_pure, Result.andThen_ok, List.map_toArray, List.map_cons, List.map_nil, hs, hx, hrun]
 exact h
end
theorem flatC_drop : ∀ (m : List S39) (k : Nat), flatC_ (m.drop k) = (flatC_ m).drop (k * 2) := by
 intro m
 induction m with
 | nil => intro k; simp [flatC_]
 | cons c r ih =>
  intro k
  cases k with
  | zero => rfl
  | succ k =>
   rw [List.drop_succ_cons, ih k, show (k + 1) * 2 = k * 2 + 2 by omega]; rfl
/-- the row's block, the cells behind i one place lower -/
theorem RowAt_.shift {w wr : World} {g cap : Nat} {l : List S39} (h : RowAt_ w g cap l.length l wr) (hn : l.length ≤ cap) (i : Nat) (hi : i < l.length) {cur : Array Value} (hb : wr.heap[g]? = some (.cells cur 39 (0, 0))) :
  RowAt_ w g cap (l.length - 1) (l.eraseIdx i) (wr.setRow g (cur.toList.take (i * 2) ++ flatC_ (l.drop (i + 1)) ++ cur.toList.drop (i * 2 + (flatC_ (l.drop (i + 1))).length)).toArray) := by
 obtain ⟨cur', hb', hs, ht⟩ := h.blk
 rw [hb] at hb'
 injection hb' with e
 injection e with e
 subst e
 have hfl : (flatC_ (l.drop (i + 1))).length = (l.length - (i + 1)) * 2 := by rw [flatC_length, List.length_drop]
 refine ⟨⟨_, setRow_heap _ _ _ _ _ _ hb, ?_, ?_⟩, by rw [List.length_eraseIdx]; simp only [hi, if_true], ?_⟩
 ·simp only [List.size_toArray, List.length_append, List.length_take, List.length_drop, hfl, Array.length_toList]; omega
 ·have e1 : l.eraseIdx i = l.take i ++ l.drop (i + 1) := List.eraseIdx_eq_take_drop_succ ..
  have e2 : flatC_ (l.take i ++ l.drop (i + 1)) = flatC_ (l.take i) ++ flatC_ (l.drop (i + 1)) := by unfold flatC_; rw [List.map_append, List.flatten_append]
  have e3 : cur.toList.take (i * 2) = flatC_ (l.take i) := by
   rw [flatC_take, ← ht, List.take_take]; congr 1; omega
  rw [e1, e2, e3]
  simp only [List.toList_toArray]
  rw [List.take_append_of_le_length (by rw [List.length_append, hfl, flatC_length, List.length_take]; omega), List.take_of_length_le (by rw [List.length_append, hfl, flatC_length, List.length_take]; omega)]
 ·refine ⟨h.grown.os, h.grown.tape, h.grown.output, ?_, fun k hk hne => ?_⟩
  ·have := h.grown.size; simpa [World.setRow] using this
  ·have hkg : k ≠ g := fun e => hne (by rw [e])
   rw [← h.grown.block k hk hne]
   simp [World.setRow, Array.getElem?_modify, Ne.symm hkg]
set_option maxHeartbeats 4000000 in
set_option maxRecDepth 100000 in
theorem delete_walk (g cap i : Nat) (l : List S39) (w : World) (hi : i < l.length) (hn : l.length ≤ cap) (hl : l.length ≤ 8796093022208) (hmax : cap ≤ maxLen) (h : RowAt_ w g cap l.length l w) :
  Calls Tryz.prog 17 #[.slice (some ⟨g, 0, none⟩) l.length cap, .int .i64 i, .int .i64 ((i : Int) + 1)] w fun e w' => e = .returned (.slice (some ⟨g, 0, none⟩) (l.length - 1) cap) ∧ RowAt_ w g cap (l.length - 1) (l.eraseIdx i) w' := by
 have hu1 := Tryz.underlying24
 simp only [maxLen] at hmax
 have p1 : 0 ≤ (i : Int) := by omega
 have p2 : (i : Int) ≤ (i : Int) + 1 := by omega
 have p3 : (i : Int) + 1 ≤ (l.length : Int) := by omega
 have p4 : (l.length : Int) ≤ (cap : Int) := by omega
 have p5 : 0 ≤ (i : Int) + 1 := by omega
 have p6 : (i : Int) ≤ (cap : Int) := by omega
 have z1 : ((i : Int) == (i : Int) + 1) = false := beq_eq_false_iff_ne.2 (by omega)
 have HR := Aside0.mk h
 have HI := Aside0.mk hi
 clear h
 go_enter Tryz.func17, Tryz.ntmps17
 go_wp2_with fail
 obtain ⟨cur, hcur, hcs, hct⟩ := HR.out.blk
 obtain ⟨i0, hi0, hz0, hsz0, hby0⟩ := info_parts info39
 have hcut1 := cut_to (P := Tryz.prog) 24 39 .i64 hu1 hi0 (some ⟨g, 0, none⟩) l.length cap (i : Int) p1 (by omega) hn
 have hcut2 := cut_from (P := Tryz.prog) 24 39 .i64 hu1 hi0 2 hsz0 (some ⟨g, 0, none⟩) l.length cap ((i : Int) + 1) p5 p3
 rw [show ((i : Int)).toNat = i from Int.toNat_natCast i] at hcut1
 rw [show ((i : Int) + 1).toNat = i + 1 by omega] at hcut2
 obtain ⟨A2, hA2⟩ : ∃ A2 : Addr, (if cap = i + 1 then some (⟨g, 0, none⟩ : Addr) else (some (⟨g, 0, none⟩ : Addr)).map (·.add ((i + 1) * 2))) = some A2 ∧ (cap ≠ i + 1 → A2 = ⟨g, (i + 1) * 2, none⟩) := by
  by_cases hc : cap = i + 1
  ·exact ⟨⟨g, 0, none⟩, by rw [if_pos hc], fun h => absurd hc h⟩
  ·exact ⟨⟨g, (i + 1) * 2, none⟩, by rw [if_neg hc]; simp [Addr.add], fun _ => rfl⟩
 rw [hA2.1] at hcut2
 have HA2 := Aside0.mk hA2.2
 have HCUR := Aside0.mk hcur
 have HCS := Aside0.mk hcs
 have HCT := Aside0.mk hct
 have HI0 := Aside0.mk hi0
 clear hA2 hcur hcs hct hz0 hby0
 refine start_ (n := 8) (S := fun w' => True) (ds := []) #[F, F, F, F, F, F, F, F] (by kernel_rfl) rfl rfl trivial (fun hHeld => ?_); refine with_tabW slices_Delete_Cell.tab5 slices_Delete_Cell.bits5 (fun HT_ HW_ => ?_)
 refine pure_ (i := 0) (N := some 20) (v := ?_) (a' := ?_) #[T, F, F, F, F, F, F, F] rfl rfl (any_of HT_.out (by kernel_rfl)) (fun _ _ _ h => h) (Or.inl ⟨by rfl, ?_⟩) ?_ ?_
 rotate_left
 ·intro w'
  go_simp
  with_reducible rfl
 rotate_left
 ·simp only [Act.put, List.setIfInBounds_toArray, List.set_cons_zero, List.set_cons_succ, i64_w, i32_w]
  rfl
 refine pure_ (i := 1) (N := some 21) (v := ?_) (a' := ?_) #[T, T, F, F, F, F, F, F] rfl rfl (any_of HT_.out (by kernel_rfl)) (fun _ _ _ h => h) (Or.inl ⟨by rfl, ?_⟩) ?_ ?_
 rotate_left
 ·intro w'
  go_simp
  with_reducible rfl
 rotate_left
 ·simp only [Act.put, List.setIfInBounds_toArray, List.set_cons_zero, List.set_cons_succ, i64_w, i32_w]
  rfl
 refine pure_ (i := 2) (N := some 22) (v := ?_) (a' := ?_) #[T, T, T, F, F, F, F, F] rfl rfl (any_of HT_.out (by kernel_rfl)) (fun _ _ _ h => h) (Or.inl ⟨by rfl, ?_⟩) ?_ ?_
 rotate_left
 ·intro w'
  go_simp
  with_reducible rfl
 rotate_left
 ·simp only [Act.put, List.setIfInBounds_toArray, List.set_cons_zero, List.set_cons_succ, i64_w, i32_w]
  rfl
 refine pure_ (i := 3) (N := some 23) (v := ?_) (a' := ?_) #[T, T, T, T, F, F, F, F] rfl rfl (any_of HT_.out (by kernel_rfl)) (fun _ _ _ h => h) (Or.inl ⟨by rfl, ?_⟩) ?_ ?_
 rotate_left
 ·intro w'
  go_simp
  with_reducible rfl
 rotate_left
 ·simp only [Act.put, List.setIfInBounds_toArray, List.set_cons_zero, List.set_cons_succ, i64_w, i32_w]
  rfl
 refine pure_ (i := 4) (N := some 24) (v := ?_) (a' := ?_) #[T, T, T, T, T, F, F, F] rfl rfl (any_of HT_.out (by kernel_rfl)) (fun _ _ _ h => h) (Or.inl ⟨by rfl, ?_⟩) ?_ ?_
 rotate_left
 ·intro w'
  go_simp
  with_reducible rfl
 rotate_left
 ·simp only [Act.put, List.setIfInBounds_toArray, List.set_cons_zero, List.set_cons_succ, i64_w, i32_w]
  rfl
 refine pure_ (i := 5) (N := some 25) (v := ?_) (a' := ?_) #[T, T, T, T, T, T, F, F] rfl rfl (any_of HT_.out (by kernel_rfl)) (fun _ _ _ h => h) (Or.inl ⟨by rfl, ?_⟩) ?_ ?_
 rotate_left
 ·intro w'
  go_simp
  with_reducible rfl
 rotate_left
 ·simp only [Act.put, List.setIfInBounds_toArray, List.set_cons_zero, List.set_cons_succ, i64_w, i32_w]
  rfl
 obtain ⟨m, hm⟩ : ∃ m, m = l.length - 1 := ⟨_, rfl⟩
 obtain ⟨w1, hw1⟩ : ∃ w1, w1 = w.drew.setRow g (cur.toList.take (i * 2) ++ flatC_ (l.drop (i + 1)) ++ cur.toList.drop (i * 2 + (flatC_ (l.drop (i + 1))).length)).toArray := ⟨_, rfl⟩
 have hrow : RowAt_ w g cap m (l.eraseIdx i) w1 := by
  rw [hw1, hm]
  exact RowAt_.shift (HR.out.drew 1) hn i hi HCUR.out
 have hfl : (flatC_ (l.drop (i + 1))).length = (l.length - (i + 1)) * 2 := by rw [flatC_length, List.length_drop]
 have hrun : ∀ ty, (Builtin.append_ #[24, 24] ty #[.slice (some ⟨g, 0, none⟩) i cap, .slice (some A2) (l.length - (i + 1)) (cap - (i + 1))]).run Tryz.prog w.drew = .ok (.slice (some ⟨g, 0, none⟩) m cap) w1 := by
  intro ty
  have h := run_append_room (P := Tryz.prog) w.drew 24 ty 39 i0 hu1 HI0.out g i cap cur HCUR.out A2 (l.length - (i + 1)) (cap - (i + 1)) (flatC_ (l.drop (i + 1))) (by rw [hfl, hsz0]) (fun j u hj => ?_) (flatC_one _) (by omega) (by rw [hfl, hsz0, HCS.out]; omega)
  ·rw [h, hsz0, ← hw1, show i + (l.length - (i + 1)) = m by omega]
  ·have hjl : j < (l.length - (i + 1)) * 2 := by rw [← hfl]; exact (List.getElem?_eq_some_iff.1 hj).1
   rw [HA2.out (by omega)]
   have e : (⟨g, (i + 1) * 2, none⟩ : Addr).add j = ⟨g, (i + 1) * 2 + j, none⟩ := by simp [Addr.add]
   rw [e]
   refine (blk_cell (w := w.drew) HCUR.out _).trans ?_
   have e2 := flatC_drop l (i + 1)
   rw [e2, List.getElem?_drop, ← HCT.out, List.getElem?_take, if_pos (by omega), Array.getElem?_toList] at hj
   exact hj
 have HRUN := Aside0.mk hrun
 have HROW := Aside0.mk hrow
 have HM := Aside0.mk (show m + 1 = l.length by omega)
 clear hrun hrow hm hfl hw1
 refine one_ (i := 6) (N := some 26) #[T, T, T, T, T, T, T, F] rfl rfl (one_of HT_.out (by kernel_rfl)) (by decide) (fun K hK => ?_)
 refine append_run_step (by rfl) (.tmp 22) (.tmp 25) 24 rfl rfl rfl (HRUN.out _) ?_
 refine hK.out _ _ trivial (fun hHeld => ?_)
 clear hK K
 refine norm_ (a' := ?_) ?_ ?_
 rotate_left
 ·show Act.put _ (some 26) _ = _
  simp only [Act.put, List.setIfInBounds_toArray, List.set_cons_zero, List.set_cons_succ, i64_w, i32_w]
  rfl
 refine pure_ (i := 7) (N := some 0) (v := ?_) (a' := ?_) #[T, T, T, T, T, T, T, T] rfl rfl (any_of HT_.out (by kernel_rfl)) (fun _ _ _ h => h) (Or.inl ⟨by rfl, ?_⟩) ?_ ?_
 rotate_left
 ·intro w'
  go_simp
  with_reducible rfl
 rotate_left
 ·simp only [Act.put, List.setIfInBounds_toArray, List.set_cons_zero, List.set_cons_succ, i64_w, i32_w]
  rfl
 refine done_ (done_of HT_.out (by kernel_rfl)) ?_
 obtain ⟨cur1, hc1, hs1, ht1⟩ := HROW.out.blk
 have hcl : ∀ ty, (Builtin.clear_ #[24] ty #[.slice (some ⟨g, m * 2, none⟩) (l.length - m) (cap - m)]).run Tryz.prog w1 = .ok (.tuple #[]) (w1.setCells g (m * 2) (List.replicate ((l.length - m) * 2) (.int .i64 0))) := by
  intro ty
  refine clear_cells w1 ty g _ _ _ (by have := HM.out; omega) (fun j hj => ?_) (fun j hj => blk_frozen hc1 _)
  rw [blk_cell hc1, Array.getElem?_eq_getElem (by have := HM.out; omega)]; rfl
 have hmc : ¬ cap = m := by have := HM.out; omega
 have pm : 0 ≤ (m : Int) := by omega
 have qm : (m : Int) ≤ (l.length : Int) := by have := HM.out; omega
 have HC1 := Aside0.mk hc1
 have HS1 := Aside0.mk hs1
 have HT1 := Aside0.mk ht1
 clear hcut1 hcut2 hc1 hs1 ht1 hHeld HT_ HW_ HRUN HCUR HCS HCT HA2
 go_wp2_with fail
 go_ret
 obtain ⟨cur2, d1, d2, d3, d4, d5, d6, d7, d8⟩ := setCells_blk g (List.replicate ((l.length - m) * 2) (.int .i64 0)) (m * 2) w1 cur1 HC1.out
 have hG := HROW.out.grown
 have hm1 : l.length - 1 = m := by have := HM.out; omega
 rw [hm1]
 refine ⟨rfl, ⟨⟨cur2, d1, by rw [d2]; exact HS1.out, ?_⟩, HROW.out.len, ⟨by rw [d6]; exact hG.os, by rw [d7]; exact hG.tape, by rw [d8]; exact hG.output, by rw [d5]; exact hG.size, fun k hk hne => (d4 k (fun e => hne (by rw [e]))).trans (hG.block k hk hne)⟩⟩⟩
 rw [← HT1.out]
 apply List.ext_getElem?
 intro j
 rw [List.getElem?_take, List.getElem?_take]
 by_cases hj : j < m * 2
 ·rw [if_pos hj, if_pos hj, Array.getElem?_toList, Array.getElem?_toList]; exact d3 j hj
 ·rw [if_neg hj, if_neg hj]
theorem slices_Delete_Cell.calls (P0_ : Nat → Prop) (u9000_ : Value) (l0 : List (S39)) (a1 a2 : Int) (r : List (S39)) (w0 w : World) (hB : Below w0.heap.size w0 w) (ho0 : Kd.R k39 39 w w0.heap.size P0_ u9000_ l0) (h : slices_Delete_Cell.f l0 a1 a2 = some r) :
  Calls Tryz.prog 17 #[u9000_, .int .i64 a1, .int .i64 a2] w fun e w' => ∃ v0_ : Value, e = .returned v0_ ∧ Kd.R k39 39 w' w0.heap.size (fun k_ => (P0_ k_ ∨ w.heap.size ≤ k_)) v0_ r ∧ Below w0.heap.size w0 w' ∧ Kept w w' (fun k_ => P0_ k_) := by
 unfold slices_Delete_Cell.f at h
 by_cases c : (0 ≤ a1 ∧ a1 < (l0.length : Int)) ∧ a2 = a1 + 1 ∧ l0.length ≤ 8796093022208
 rotate_left
 ·rw [if_neg c] at h; exact absurd h (by simp)
 rw [if_pos c] at h
 obtain rfl := Option.some.inj h
 obtain ⟨⟨c1, c2⟩, rfl, c3⟩ := c
 obtain ⟨i, rfl⟩ : ∃ i : Nat, a1 = (i : Int) := ⟨a1.toNat, by omega⟩
 rw [Int.toNat_natCast]
 have hi : i < l0.length := by omega
 obtain ⟨hok, inner, ⟨hlen, hv⟩, hreps⟩ := ho0
 have hin : inner = flatC_ l0 := flatC_of_reps (fun x cs hx => kC_M_inv hx) l0 inner hreps
 rcases hv with ⟨_, hn⟩ | ⟨g, cap, cur, rfl, hge, hblk, hcap, hmax, hcur, htake⟩
 ·exact absurd hn (by omega)
 ·have hrow : RowAt_ w g cap l0.length l0 w := ⟨⟨cur, hblk, hcur, by rw [← hin, ← htake]; rfl⟩, rfl, ⟨rfl, rfl, rfl, Nat.le_refl _, fun _ _ _ => rfl⟩⟩
  refine (delete_walk g cap i l0 w hi hcap c3 hmax hrow).mono ?_
  rintro e w' ⟨rfl, hr⟩
  obtain ⟨cur2, b1, b2, b3⟩ := hr.blk
  have hg1 := hr.grown
  have hle : (l0.eraseIdx i).length = l0.length - 1 := hr.len
  rw [← hle] at b3 ⊢
  exact ⟨_, rfl, ownC_R ⟨by rw [flatC_length], Or.inr ⟨g, cap, cur2, rfl, hge, b1, by omega, hmax, b2, b3⟩⟩ (fun k hk => Or.inl (hok k hk)), hB.grown hg1 hB.size (fun k hk => by cases hk; exact hge), ⟨hg1.size, fun i hi hn => hg1.block i hi (fun he => hn (by cases he; exact hok g rfl))⟩⟩

/-! ### slices_Clone_Cell: function 18, by hand -/
-- IMPORT Derived.Lib.SliceRun
-- IMPORT Derived.Lib.Walk
def slices_Clone_Cell.f (l0 : List S39) : Option (List S39) := if l0.length ≤ 8796093022208 then some l0 else none
set_option maxHeartbeats 2000000 in
set_option maxRecDepth 100000 in
theorem slices_Clone_Cell.calls (A0 : Option Addr) (c0 : Nat) (l0 : List S39) (r : List S39) (w : World) (hr0 : Kd.C k39 w A0 l0.length l0) (hc0 : l0.length ≤ c0) (h : slices_Clone_Cell.f l0 = some r) :
  Calls Tryz.prog 18 #[.slice A0 l0.length c0] w fun e w' => ∃ v0_ : Value, e = .returned (v0_) ∧ Kd.R k39 39 w' w.heap.size (fun _ => True) v0_ r ∧ Below w.heap.size w w' := by
 have hu1 := Tryz.underlying24
 have q1 : ∀ (w : World) (a : Option Addr) (n c n' c' : Nat), (binOp .eql 24 (.slice a n c) (.slice none n' c')).run Tryz.prog w = .ok (.bool a.isNone) w := fun w a n c n' c' => Lib.run_eql_slice_nil w _ _ a n c n' c' Tryz.underlying24
 unfold slices_Clone_Cell.f at h
 by_cases hb : l0.length ≤ 8796093022208
 ·rw [if_pos hb] at h
  obtain rfl := Option.some.inj h
  cases A0 with
  | none =>
   have hl : l0 = [] := by
    rcases Nat.eq_zero_or_pos l0.length with e | e
    ·exact List.length_eq_zero_iff.1 e
    ·obtain ⟨ad, e1, _⟩ := hr0.2.2 e; exact absurd e1 (by simp)
   subst hl
   go_enter Tryz.func18, Tryz.ntmps18
   go_wp2
   go_ret
   exact ⟨_, rfl, Kd.R_nil _ _ _ _ _, Below.refl _ _⟩
  | some ad =>
   obtain ⟨i0, hi, hz⟩ := Option.map_eq_some_iff.1 info39
   simp only [Prod.mk.injEq] at hz
   obtain ⟨hz0, hz1, hz2⟩ := hz
   have hcell : ∀ j u, (flatC_ l0)[j]? = some u → w.cell? (ad.add j) = some u := by
    intro j u hj
    have hlt : j < l0.length * 2 := by rw [← flatC_length]; exact (List.getElem?_eq_some_iff.1 hj).1
    obtain ⟨ad', e1, hc⟩ := hr0.2.2 (by omega)
    cases e1
    have hx : l0[j / 2]? = some (l0[j / 2]'(by omega)) := List.getElem?_eq_getElem (by omega)
    obtain ⟨c, hcl, hR, hcc⟩ := hc (j / 2) _ hx
    have e := kC_M_inv (w := w) (base := 0) (ok := fun _ => True) (x := l0[j / 2]'(by omega)) (cs := c) hR
    obtain ⟨g0, g1⟩ := flatC_get l0 (j / 2) _ hx
    have h2 : j % 2 = 0 ∨ j % 2 = 1 := by omega
    have ej : j = j / 2 * 2 + j % 2 := by omega
    have hs : k39.sz = 2 := rfl
    rw [hs] at hcc
    rcases h2 with h2 | h2
    ·have : j = 2 * (j / 2) := by omega
     rw [this, g0] at hj
     rw [ej, h2]
     exact (hcc 0 _ (by rw [e]; rfl)).trans hj
    ·have : j = 2 * (j / 2) + 1 := by omega
     rw [this, g1] at hj
     rw [ej, h2]
     exact (hcc 1 _ (by rw [e]; rfl)).trans hj
   have HCL := Aside0.mk hcell
   clear hcell
   have hmax : l0.length ≤ maxLen := by simp only [maxLen]; omega
   go_enter Tryz.func18, Tryz.ntmps18
   go_wp2_with (at_builtin; refine wpList_append_own _ rfl _ _ 24 rfl w.heap.size 39 i0 (.agg #[(.int .i64 0), (.int .i64 0)]) 2 16 hu1 hi hz0 hz1 hz2 rfl (by omega) _ _ _ rfl (World.ownsRow_made w #[] 0 (Nat.le_refl _) (Nat.zero_le _) (by simp)) ad l0.length c0 (flatC_ l0) rfl ?qc1 ?qc2 ?qc3 ?qc4 ?qc5 ?qc6 ?_)
   case qc1 => exact flatC_length l0
   case qc2 =>
    intro j u hj
    exact Lib.cell?_alloc_some _ (HCL.out j u hj)
   case qc3 => exact flatC_one l0
   case qc5 => omega
   intro v' w1 hown hgrow hnil
   go_wp2
   go_ret
   refine ⟨v', rfl, ownC_R (by simpa using hown) (fun _ _ => trivial), ?_⟩
   exact ((Below.refl _ w).alloc (Nat.le_refl _) _).grown hgrow (by simp) (by intro k hk; simp [Value.ownBlock] at hk; omega)
 ·rw [if_neg hb] at h; exact absurd h (by simp)

/-! ### slices_Equal_Cell: function 64 -/
def slices_Equal_Cell.l0 : Nat → List (S39) → List (S39) → Int → Int → Option (Bool)
 | 0, _, _, _, _ => none
 | k + 1, x0, x1, x12, x13 => if x13 < x12 then (if 0 ≤ x13 then (if x13 < (x0.length : Int) then (if x13 < (x1.length : Int) then (if (!(((rd_T39 x0 x13).f0) == ((rd_T39 x1 x13).f0)) || (!(((rd_T39 x0 x13).f1) == ((rd_T39 x1 x13).f1)))) = true then (some false) else (slices_Equal_Cell.l0 k x0 x1 x12 (wrap64 (x13 + 1)))) else (none)) else (none)) else (none)) else (some true)
def slices_Equal_Cell.f (k : Nat) (l0 : List (S39)) (l1 : List (S39)) : Option (Bool) := if (l0.length : Int) = (l1.length : Int) then (slices_Equal_Cell.l0 k l0 l1 (l0.length : Int) 0) else (some false)
theorem slices_Equal_Cell.mono_l : ∀ k, (∀ y0 y1 y2 y3, LeO (slices_Equal_Cell.l0 k y0 y1 y2 y3) (slices_Equal_Cell.l0 (k + 1) y0 y1 y2 y3))
 | 0 => fun _ _ _ _ r h => by simp [slices_Equal_Cell.l0] at h
 | k + 1 => by
  have ih0 := slices_Equal_Cell.mono_l k
  ·intro y0 y1 y2 y3
   unfold slices_Equal_Cell.l0
   repeat' first
   | (with_reducible exact ih0 _ _ _ _)
   | (with_reducible exact LeO.refl _)
   | (with_reducible exact LeO.none _)
   | (with_reducible refine LeO.ite ?_ ?_)
   | (with_reducible refine LeO.bind ?_ (fun _ => ?_))
   | exact ih0 _ _ _ _
   | exact LeO.none _
   | refine LeO.ite ?_ ?_
   | refine LeO.bind ?_ (fun _ => ?_)
theorem slices_Equal_Cell.mono : ∀ a0 a1 k, LeO (slices_Equal_Cell.f k a0 a1) (slices_Equal_Cell.f (k + 1) a0 a1) := by
 intro a0 a1 k
 have ih0 := slices_Equal_Cell.mono_l k
 unfold slices_Equal_Cell.f
 repeat' first
   | (with_reducible exact ih0 _ _ _ _)
   | (with_reducible exact LeO.refl _)
   | (with_reducible exact LeO.none _)
   | (with_reducible refine LeO.ite ?_ ?_)
   | (with_reducible refine LeO.bind ?_ (fun _ => ?_))
   | exact ih0 _ _ _ _
   | exact LeO.none _
   | refine LeO.ite ?_ ?_
   | refine LeO.bind ?_ (fun _ => ?_)
set_option maxHeartbeats 8000000 in
set_option maxRecDepth 100000 in
theorem slices_Equal_Cell.calls (k : Nat) (A0 : Option Addr) (c0 : Nat) (l0 : List (S39)) (A1 : Option Addr) (c1 : Nat) (l1 : List (S39)) (r : Bool) (w : World) (hr0 : Kd.C k39 w A0 l0.length l0) (hc0 : l0.length ≤ c0) (hr1 : Kd.C k39 w A1 l1.length l1) (hc1 : l1.length ≤ c1) (h : slices_Equal_Cell.f k l0 l1 = some r) :
  Calls Tryz.prog 64 #[.slice A0 l0.length c0, .slice A1 l1.length c1] w fun e w' => e = .returned (.bool r) ∧ Drawn0 w w' := by
 have hu39 := Tryz.underlying39
 have HR0 := Aside0.mk hr0
 have HC0 := Aside0.mk hc0
 clear hr0 hc0
 have HR1 := Aside0.mk hr1
 have HC1 := Aside0.mk hc1
 clear hr1 hc1
 have H : (if (l0.length : Int) = (l1.length : Int) then (slices_Equal_Cell.l0 k l0 l1 (l0.length : Int) 0) else (some false)) = some r := h
 clear h
 by_cases c3 : (l0.length : Int) = (l1.length : Int)
 ·rw [if_pos c3] at H
  have c3b0 : ((l0.length : Int) == (l1.length : Int)) = true := beq_iff_eq.mpr c3
  have c3b1 : ((l0.length : Int) != (l1.length : Int)) = false := bne_eq_false_iff_eq.mpr c3
  have c3b2 : (l0.length == l1.length) = true := by first | simpa using c3 | (simp at c3 ⊢; omega)
  clear c3
  have H' := Aside0.mk H
  clear H
  go_enter Tryz.func64, Tryz.ntmps64
  go_wp2
  repeat (go_quiet (fail); try go_wp2)
  go_loopg [13] k (fun kq v13 w' => ∃ (x13_1 : Int), v13 = .int .i64 x13_1 ∧ Aside0 (slices_Equal_Cell.l0 kq l0 l1 (l0.length : Int) x13_1 = some r) ∧ Aside0 (kq ≤ k) ∧ Drawn0 w w')
  case atStart => exact ⟨(0), r3_, H', ⟨Nat.le_refl _⟩, by repeat (first | exact Drawn0.refl _ | apply Drawn0.step)⟩
  case round =>
   clear H'
   try clear c1
   try clear p2
   try clear c3
   try clear c3b0
   try clear c3b1
   try clear c3b2
   obtain ⟨x13_1, rfl, HA, HK1, ⟨m1, rfl⟩⟩ := hrel
   cases gk with
   | zero => exact absurd HA.out (by simp [slices_Equal_Cell.l0])
   | succ k1 =>
    have H := HA.out
    clear HA
    simp only [slices_Equal_Cell.l0] at H
    by_cases c4 : x13_1 < (l0.length : Int)
    ·rw [if_pos c4] at H
     have c4b0 : decide (x13_1 < (l0.length : Int)) = true := decide_eq_true c4
     clear c4
     by_cases c5 : 0 ≤ x13_1
     ·rw [if_pos c5] at H
      have c5b0 : decide (0 ≤ x13_1) = true := decide_eq_true c5
      clear c5
      by_cases c6 : x13_1 < (l0.length : Int)
      ·rw [if_pos c6] at H
       have c6b0 : decide (x13_1 < (l0.length : Int)) = true := decide_eq_true c6
       clear c6
       by_cases c7 : x13_1 < (l1.length : Int)
       ·rw [if_pos c7] at H
        have c7b0 : decide (x13_1 < (l1.length : Int)) = true := decide_eq_true c7
        clear c7
        by_cases c8 : (!(((rd_T39 l0 x13_1).f0) == ((rd_T39 l1 x13_1).f0)) || (!(((rd_T39 l0 x13_1).f1) == ((rd_T39 l1 x13_1).f1)))) = true
        ·rw [if_pos c8] at H
         have c8b0 : (!(((rd_T39 l0 x13_1).f0) == ((rd_T39 l1 x13_1).f0)) || (!(((rd_T39 l0 x13_1).f1) == ((rd_T39 l1 x13_1).f1)))) = true := c8
         clear c8
         obtain rfl := Option.some.inj H
         have p339 : 0 ≤ (x13_1 : Int) := of_decide_eq_true aS_
         have q339 : x13_1 < (l0.length : Int) := of_decide_eq_true aS_
         obtain ⟨ad339, e339, hx339_0, hx339_1⟩ := at_T39 HR0.out x13_1 p339 q339
         cases e339
         replace p339 := eq_true p339
         replace q339 := eq_true q339
         have p340 : 0 ≤ (x13_1 : Int) := of_decide_eq_true aS_
         have q340 : x13_1 < (l1.length : Int) := of_decide_eq_true aS_
         obtain ⟨ad340, e340, hx340_0, hx340_1⟩ := at_T39 HR1.out x13_1 p340 q340
         cases e340
         replace p340 := eq_true p340
         replace q340 := eq_true q340
         go_wp2
         repeat (go_quiet (fail); try go_wp2)
         go_ret
         exact ⟨r3_, by repeat (first | exact Drawn0.refl _ | apply Drawn0.step)⟩
        ·rw [if_neg c8] at H
         have c8b0 : (!(((rd_T39 l0 x13_1).f0) == ((rd_T39 l1 x13_1).f0)) || (!(((rd_T39 l0 x13_1).f1) == ((rd_T39 l1 x13_1).f1)))) = false := by simpa using c8
         clear c8
         have H' := Aside0.mk H
         clear H
         have p339 : 0 ≤ (x13_1 : Int) := of_decide_eq_true aS_
         have q339 : x13_1 < (l0.length : Int) := of_decide_eq_true aS_
         obtain ⟨ad339, e339, hx339_0, hx339_1⟩ := at_T39 HR0.out x13_1 p339 q339
         cases e339
         replace p339 := eq_true p339
         replace q339 := eq_true q339
         have p340 : 0 ≤ (x13_1 : Int) := of_decide_eq_true aS_
         have q340 : x13_1 < (l1.length : Int) := of_decide_eq_true aS_
         obtain ⟨ad340, e340, hx340_0, hx340_1⟩ := at_T39 HR1.out x13_1 p340 q340
         cases e340
         replace p340 := eq_true p340
         replace q340 := eq_true q340
         go_wp2
         repeat (go_quiet (fail); try go_wp2)
         go_roundg k1
         case measure => have := HK1.out; omega
         case rel => exact ⟨(wrap64 (x13_1 + 1)), r3_, H', ⟨by have := HK1.out; omega⟩, by repeat (first | exact Drawn0.refl _ | apply Drawn0.step)⟩
       ·rw [if_neg c7] at H
        exact absurd H (by simp)
      ·rw [if_neg c6] at H
       exact absurd H (by simp)
     ·rw [if_neg c5] at H
      exact absurd H (by simp)
    ·rw [if_neg c4] at H
     have c4b0 : decide (x13_1 < (l0.length : Int)) = false := decide_eq_false c4
     clear c4
     obtain rfl := Option.some.inj H
     go_wp2
     repeat (go_quiet (fail); try go_wp2)
     go_ret
     exact ⟨r3_, by repeat (first | exact Drawn0.refl _ | apply Drawn0.step)⟩
 ·rw [if_neg c3] at H
  have c3b0 : ((l0.length : Int) == (l1.length : Int)) = false := beq_eq_false_iff_ne.mpr c3
  have c3b1 : ((l0.length : Int) != (l1.length : Int)) = true := bne_iff_ne.mpr c3
  have c3b2 : (l0.length == l1.length) = false := by first | simpa using c3 | (simp at c3 ⊢; omega)
  obtain rfl := Option.some.inj H
  go_enter Tryz.func64, Tryz.ntmps64
  go_wp2
  repeat (go_quiet (fail); try go_wp2)
  go_ret
  exact ⟨r3_, by repeat (first | exact Drawn0.refl _ | apply Drawn0.step)⟩

/-! ### impl_tidyShapes: function 22, by hand -/
-- IMPORT Derived.Shelf.SlSortCmp.NoneTotal
-- IMPORT Derived.Lib.SliceRun
-- COMMONS none

def laySortShape_ren : Go.Shelf.Ren := ⟨fun | 6 => 44 | 15 => 62 | 14 => 61 | 28 => 80 | 29 => 81 | 20 => 72 | 21 => 73 | 22 => 74 | 23 => 75 | 24 => 76 | 25 => 77 | 26 => 78 | 27 => 79 | 46 => 87 | 47 => 88 | 48 => 89 | 49 => 90 | 50 => 91 | 57 => 100 | n => n, fun | 22 => 26 | 24 => 24 | 25 => 62 | 3 => 3 | 39 => 75 | 0 => 0 | 53 => 90 | 55 => 92 | 4 => 4 | 46 => 84 | 45 => 83 | 50 => 72 | 5 => 5 | 9 => 9 | 66 => 96 | 70 => 100 | 76 => 107 | 77 => 108 | n => n, fun | n => n⟩
theorem laySortShape : Go.Proofs.SlLaysF.n6 Tryz.prog laySortShape_ren := {
 mixed := by kernel_rfl
 f6 := ⟨Tryz.f44.name, by decide, Tryz.func44.trans (congrArg some (by kernel_rfl))⟩
 f14 := ⟨Tryz.f61.name, by decide, Tryz.func61.trans (congrArg some (by kernel_rfl))⟩
 f15 := Tryz.func62.trans (congrArg some (by kernel_rfl))
 f20 := ⟨Tryz.f72.name, by decide, Tryz.func72.trans (congrArg some (by kernel_rfl))⟩
 f21 := ⟨Tryz.f73.name, by decide, Tryz.func73.trans (congrArg some (by kernel_rfl))⟩
 f22 := ⟨Tryz.f74.name, by decide, Tryz.func74.trans (congrArg some (by kernel_rfl))⟩
 f23 := ⟨Tryz.f75.name, by decide, Tryz.func75.trans (congrArg some (by kernel_rfl))⟩
 f24 := ⟨Tryz.f76.name, by decide, Tryz.func76.trans (congrArg some (by kernel_rfl))⟩
 f25 := ⟨Tryz.f77.name, by decide, Tryz.func77.trans (congrArg some (by kernel_rfl))⟩
 f26 := ⟨Tryz.f78.name, by decide, Tryz.func78.trans (congrArg some (by kernel_rfl))⟩
 f27 := ⟨Tryz.f79.name, by decide, Tryz.func79.trans (congrArg some (by kernel_rfl))⟩
 f28 := Tryz.func80.trans (congrArg some (by kernel_rfl))
 f29 := Tryz.func81.trans (congrArg some (by kernel_rfl))
 f46 := ⟨Tryz.f87.name, by decide, Tryz.func87.trans (congrArg some (by kernel_rfl))⟩
 f47 := Tryz.func88.trans (congrArg some (by kernel_rfl))
 f48 := Tryz.func89.trans (congrArg some (by kernel_rfl))
 f49 := ⟨Tryz.f90.name, by decide, Tryz.func90.trans (congrArg some (by kernel_rfl))⟩
 f50 := ⟨Tryz.f91.name, by decide, Tryz.func91.trans (congrArg some (by kernel_rfl))⟩
 f57 := ⟨Tryz.f100.name, by decide, Tryz.func100.trans (congrArg some (by kernel_rfl))⟩
 t0 := Tryz.underlying0
 a0 := Tryz.isAgg0
 z0 := Tryz.sizeOf0
 v0 := Tryz.zeroValue0
 t3 := Tryz.underlying3
 a3 := Tryz.isAgg3
 z3 := Tryz.sizeOf3
 v3 := Tryz.zeroValue3
 t4 := Tryz.underlying4
 a4 := Tryz.isAgg4
 z4 := Tryz.sizeOf4
 v4 := Tryz.zeroValue4
 t5 := Tryz.underlying5
 a5 := Tryz.isAgg5
 z5 := Tryz.sizeOf5
 v5 := Tryz.zeroValue5
 t9 := Tryz.underlying9
 a9 := Tryz.isAgg9
 z9 := Tryz.sizeOf9
 v9 := Tryz.zeroValue9
 t22 := Tryz.underlying26
 a22 := Tryz.isAgg26
 z22 := Tryz.sizeOf26
 v22 := Tryz.zeroValue26
 a24 := Tryz.isAgg24
 z24 := Tryz.sizeOf24
 t25 := Tryz.underlying62
 a25 := Tryz.isAgg62
 z25 := Tryz.sizeOf62
 v25 := Tryz.zeroValue62
 t39 := Tryz.underlying75
 a39 := Tryz.isAgg75
 z39 := Tryz.sizeOf75
 v39 := Tryz.zeroValue75
 t45 := Tryz.underlying83
 a45 := Tryz.isAgg83
 z45 := Tryz.sizeOf83
 v45 := Tryz.zeroValue83
 t46 := Tryz.underlying84
 a46 := Tryz.isAgg84
 z46 := Tryz.sizeOf84
 v46 := Tryz.zeroValue84
 t50 := Tryz.underlying72
 a50 := Tryz.isAgg72
 z50 := Tryz.sizeOf72
 v50 := Tryz.zeroValue72
 t53 := Tryz.underlying90
 a53 := Tryz.isAgg90
 z53 := Tryz.sizeOf90
 v53 := Tryz.zeroValue90
 t55 := Tryz.underlying92
 a55 := Tryz.isAgg92
 z55 := Tryz.sizeOf92
 v55 := Tryz.zeroValue92
 t66 := Tryz.underlying96
 a66 := Tryz.isAgg96
 z66 := Tryz.sizeOf96
 v66 := Tryz.zeroValue96
 t70 := Tryz.underlying100
 a70 := Tryz.isAgg100
 z70 := Tryz.sizeOf100
 v70 := Tryz.zeroValue100
 t76 := Tryz.underlying107
 a76 := Tryz.isAgg107
 z76 := Tryz.sizeOf107
 v76 := Tryz.zeroValue107
 t77 := Tryz.underlying108
 a77 := Tryz.isAgg108
 z77 := Tryz.sizeOf108
 v77 := Tryz.zeroValue108 }
theorem sortW_block {α : Type} [Inhabited α] (enc : α → Value) {w : World} {g : Nat} {cur : Array Value} {e : TypeId} (hblk : w.heap[g]? = some (.cells cur e (0, 0))) (n : Nat) (d : Array α) (os : Array Obj) :
  (sortWorld enc w g 0 n d os).heap[g]? = some (.cells (Go.Sort.putCells enc 0 d cur) e (0, 0)) ∧ w.grownBy (sortWorld enc w g 0 n d os) (some g) := by
 have hlt : g < w.heap.size := by
  rcases Nat.lt_or_ge g w.heap.size with h | h
  ·exact h
  ·rw [Array.getElem?_eq_none h] at hblk; exact absurd hblk (by simp)
 have hb : ∀ k, k < w.heap.size → (sortWorld enc w g 0 n d os).heap[k]? = (w.heap.modify g (Go.Sort.onCells (Go.Sort.putCells enc 0 d)))[k]? := by
  intro k hk
  unfold sortWorld
  rw [Go.Sort.heap_grow_old]
  ·rfl
  ·rw [Go.Sort.size_putRow]; exact hk
 refine ⟨?_, ⟨rfl, rfl, rfl, ?_, ?_⟩⟩
 ·rw [hb g hlt, Array.getElem?_modify, if_pos rfl, hblk]; rfl
 ·unfold sortWorld Go.Sort.grow; simp only [Array.size_append]; rw [Go.Sort.size_putRow]; show w.heap.size ≤ w.heap.size + _; omega
 ·intro k hk hne
  rw [hb k hk, Array.getElem?_modify, if_neg (fun h => hne (by rw [h]))]
/-- an element of a row of rows, with what is known of it -/
structure El_ (w : World) (base g : Nat) : Type where
 v : Value
 l : List S39
 h : Kd.R k39 39 w base (fun k => some k ≠ some g) v l
def elP_ {w : World} {base g : Nat} (x : El_ w base g) : Value × List S39 := (x.v, x.l)
set_option maxHeartbeats 2000000 in
set_option maxRecDepth 100000 in
theorem sort_rows (g cap : Nat) (es : List (Value × List S39)) (w0 w : World) (hB : Below w0.heap.size w0 w) (hown : w.ownsRow w0.heap.size 24 1 (.slice (some ⟨g, 0, none⟩) es.length cap) es.length (es.map Prod.fst)) (hPR : PR_ w w0.heap.size (some g) es) (hn : 0 < es.length) (hsz : es.length ≤ 1000000) :
  Calls Tryz.prog 44 #[.slice (some ⟨g, 0, none⟩) es.length cap, .func (.func 45) #[] #[]] w fun e w' => e = .returned (.tuple #[]) ∧
   ∃ es' : List (Value × List S39), es'.Perm es ∧ (es'.map Prod.snd).Pairwise (fun a b => ¬ cfS_ b a < 0) ∧ w'.ownsRow w0.heap.size 24 1 (.slice (some ⟨g, 0, none⟩) es.length cap) es.length (es'.map Prod.fst) ∧ PR_ w' w0.heap.size (some g) es' ∧ Below w0.heap.size w0 w' := by
 obtain ⟨ho1, hv⟩ := hown
 rcases hv with ⟨hv, _⟩ | ⟨g', cap', cur, hv, hge, hblk, hcap, hmax, hcur, htake⟩
 ·exact absurd hv (by simp)
 obtain ⟨rfl, rfl⟩ : g' = g ∧ cap' = cap := by
  injection hv with a b c
  injection a with a
  injection a with a
  exact ⟨a.symm, c.symm⟩
 have hlt : g' < w.heap.size := blk_lt hblk
 obtain ⟨d, hd⟩ : ∃ d : Array (El_ w w0.heap.size g'), d.toList.map elP_ = es := by
  have key : ∀ l : List (Value × List S39), (∀ e ∈ l, e ∈ es) → ∃ d : List (El_ w w0.heap.size g'), d.map elP_ = l := by
   intro l
   induction l with
   | nil => intro _; exact ⟨[], rfl⟩
   | cons e r ih =>
    intro h
    obtain ⟨d, hd⟩ := ih (fun x hx => h x (List.mem_cons_of_mem _ hx))
    exact ⟨⟨e.1, e.2, hPR.own e (h e List.mem_cons_self)⟩ :: d, by rw [List.map_cons, hd]; rfl⟩
  obtain ⟨d, hd⟩ := key es (fun _ h => h)
  exact ⟨d.toArray, hd⟩
 have hds : d.size = es.length := by rw [← hd, List.length_map, Array.length_toList]
 have e0 : El_ w w0.heap.size g' := d[0]'(by omega)
 letI : Inhabited (El_ w w0.heap.size g') := ⟨e0⟩
 obtain ⟨enc, henc⟩ : ∃ enc : El_ w w0.heap.size g' → Value, enc = El_.v := ⟨_, rfl⟩
 have h1 : ∀ x, (enc x).oneCell' = true := fun x => by
  obtain ⟨A, c, hx⟩ := Kd.R_slice x.h
  rw [henc, hx]; rfl
 have hfst : es.map Prod.fst = d.toList.map enc := by rw [← hd, List.map_map, henc]; rfl
 have hH : Go.Sort.Holds enc w g' 0 d := by
  intro j hj
  refine ⟨(blk_cell hblk (0 + j)).trans ?_, blk_frozen hblk _⟩
  have e := congrArg (fun z => z[j]?) htake
  simp only [List.getElem?_take, Nat.mul_one] at e
  rw [if_pos (by omega), hfst, List.getElem?_map, Array.getElem?_toList, Array.getElem?_toList, Array.getElem?_eq_getElem hj] at e
  rw [Nat.zero_add, e, getElem!_pos d j hj]; rfl
 have swo : Go.Sort.SWO (Go.Proofs.ltOf fun x y : El_ w w0.heap.size g' => cfS_ x.l y.l) := by
  refine ⟨fun x => ?_, fun x y z a b => ?_, fun x y z a b => ?_⟩
  ·show decide (cfS_ x.l x.l < 0) = false; rw [cfS_self]; decide
  ·unfold Go.Proofs.ltOf at *; exact decide_eq_true (cfS_trans (of_decide_eq_true a) (of_decide_eq_true b))
  ·unfold Go.Proofs.ltOf at *; exact decide_eq_false (cfS_ntrans (of_decide_eq_false a) (of_decide_eq_false b))
 have hcmp : CmpLays1 Tryz.prog 45 #[] enc (fun x y => cfS_ x.l y.l) g' 0 d.size w := by
  intro m os dk hs x y
  have hg := (sortW_block enc hblk m dk os).2
  obtain ⟨A, c, hx, _, hCx⟩ := Kd.R_reads (Kd.R_step x.h (fun k hk hlt => hg.block k hlt hk))
  obtain ⟨B, c', hy, _, hCy⟩ := Kd.R_reads (Kd.R_step y.h (fun k hk hlt => hg.block k hlt hk))
  have := compareShapes_grow A c x.l B c' y.l _ hCx hCy
  rw [← hx, ← hy] at this
  rw [henc]
  rw [henc] at this
  exact this
 have hcon := Any.slices_SortFunc laySortShape enc h1 (fun x y => cfS_ x.l y.l) swo 45 #[] g' 0 cap' d w (enters_of Tryz.func45 (by kernel_rfl) rfl) hcmp hH hlt (by omega)
 change Calls Tryz.prog 44 _ _ _ at hcon
 rw [hds] at hcon
 refine hcon.mono ?_
 rintro e w' ⟨rfl, d', n, os, hp, hs, rfl⟩
 obtain ⟨hb1, hg1⟩ := sortW_block enc hblk n d' os
 have hd's : d'.size = es.length := hp.1.trans hds
 have hperm : d'.toList.Perm d.toList := by
  have := hp.2.2
  rw [← hds] at this
  rw [show d'.extract 0 d.size = d' by rw [← hp.1]; simp, show d.extract 0 d.size = d by simp] at this
  exact this
 have hpe : (d'.toList.map elP_).Perm es := by rw [← hd]; exact hperm.map _
 refine ⟨rfl, d'.toList.map elP_, hpe, ?_, ⟨?_, Or.inr ⟨g', cap', _, rfl, hge, hb1, hcap, hmax, ?_, ?_⟩⟩, (hPR.move (fun k hk hlt => hg1.block k hlt (fun h => hk (by injection h)))).perm hpe, hB.grown hg1 hB.size (fun k hk => by cases hk; exact hge)⟩
 ·rw [List.map_map, List.pairwise_map, List.pairwise_iff_getElem]
  intro i j hi hj hij
  rw [Array.length_toList] at hi hj
  have h3 := hs i j (Nat.zero_le _) hij (by omega)
  rw [getElem!_pos d' i hi, getElem!_pos d' j hj] at h3
  exact of_decide_eq_false h3
 ·rw [List.length_map, hpe.length_eq]; exact (Nat.mul_one _).symm
 ·unfold Go.Sort.putCells; rw [Array.size_mapIdx]; exact hcur
 ·apply List.ext_getElem?
  intro j
  rw [List.getElem?_take, Array.getElem?_toList]
  unfold Go.Sort.putCells
  by_cases hj : j < d'.size
  ·rw [if_pos (by omega), Array.getElem?_mapIdx, Array.getElem?_eq_getElem (by rw [hcur]; omega)]
   simp only [Option.map_some, Nat.zero_le, true_and, Nat.zero_add, Nat.sub_zero]
   rw [if_pos hj, List.map_map, List.getElem?_map, Array.getElem?_toList, Array.getElem?_eq_getElem hj, getElem!_pos d' j hj, henc]; rfl
  ·rw [if_neg (by omega), List.getElem?_eq_none (by simp; omega)]
theorem cfC_zero {a b : S39} (h : cfC_ a b = 0) : a = b := by
 rcases cfC_cases a b with ⟨_, c⟩ | ⟨_, _, c⟩ | ⟨e, _⟩
 ·rw [c] at h; simp at h
 ·rw [c] at h; simp at h
 ·exact e
theorem dropC2_cons (l : List S39) (j : Nat) (hj : j < l.length) : l.drop j = rd_T39 l (j : Nat) :: l.drop (j + 1) := by
 rw [List.drop_eq_getElem_cons hj]; congr 1
 unfold rd_T39; rw [List.getD_eq_getElem?_getD, Int.toNat_natCast, List.getElem?_eq_getElem hj]; rfl
theorem equal_l0 (xs ys : List S39) (hl : xs.length = ys.length) (hb : xs.length ≤ 9223372036854775807) : ∀ d j : Nat, j + d = xs.length → slices_Equal_Cell.l0 (d + 1) xs ys (xs.length : Int) (j : Nat) = some (decide (cfL_ (xs.drop j) (ys.drop j) = 0)) := by
 intro d
 induction d with
 | zero =>
  intro j hj
  simp only [slices_Equal_Cell.l0]
  rw [if_neg (by omega), List.drop_eq_nil_of_le (by omega)]; rfl
 | succ d ih =>
  intro j hj
  have ih2 := ih (j + 1) (by omega)
  rw [slices_Equal_Cell.l0, if_pos (by omega), if_pos (by omega), if_pos (by omega), if_pos (by omega), dropC2_cons xs j (by omega), dropC2_cons ys j (by omega)]
  have hw : wrap64 ((j : Int) + 1) = ((j + 1 : Nat) : Int) := by unfold wrap64; omega
  rw [hw, ih2]
  generalize rd_T39 xs (j : Int) = x
  generalize rd_T39 ys (j : Int) = y
  by_cases h : cfC_ x y = 0
  ·have e := cfC_zero h
   subst e
   have e0 : cfL_ (x :: xs.drop (j + 1)) (x :: ys.drop (j + 1)) = cfL_ (xs.drop (j + 1)) (ys.drop (j + 1)) := by
    show (if cfC_ x x = 0 then _ else _) = _
    rw [if_pos h]
   rw [e0]; simp
  ·have e0 : cfL_ (x :: xs.drop (j + 1)) (y :: ys.drop (j + 1)) = cfC_ x y := by
    show (if cfC_ x y = 0 then _ else _) = _
    rw [if_neg h]
   have e1 : decide (cfL_ (x :: xs.drop (j + 1)) (y :: ys.drop (j + 1)) = 0) = false := decide_eq_false (by rw [e0]; exact h)
   rw [e1, if_pos]
   have hne : ¬ (x.f0 = y.f0 ∧ x.f1 = y.f1) := fun g => h (by
    have : x = y := by cases x; cases y; cases g.1; cases g.2; rfl
    rw [this]; exact cfC_self y)
   by_cases h0 : x.f0 = y.f0
   ·have h1 : ¬ x.f1 = y.f1 := fun g => hne ⟨h0, g⟩
    simp [h0, h1]
   ·simp [h0]
theorem equal_some (xs ys : List S39) (hb : xs.length ≤ 9223372036854775807) : ∃ k, slices_Equal_Cell.f k xs ys = some (decide (cfS_ xs ys = 0)) := by
 by_cases h : xs.length = ys.length
 ·refine ⟨xs.length + 1, ?_⟩
  have e := equal_l0 xs ys h hb xs.length 0 (by omega)
  rw [List.drop_zero, List.drop_zero] at e
  have e2 : ((0 : Nat) : Int) = 0 := rfl
  rw [e2] at e
  unfold slices_Equal_Cell.f cfS_
  rw [if_pos (by omega), e, if_pos h]
 ·refine ⟨0, ?_⟩
  unfold slices_Equal_Cell.f cfS_
  rw [if_neg (by omega), if_neg h]
  by_cases g : xs.length < ys.length
  ·rw [if_pos g]; rfl
  ·rw [if_neg g]; rfl
set_option maxHeartbeats 1000000 in
theorem equalShapes_walk (k : Nat) (A : Option Addr) (c : Nat) (xs : List S39) (B : Option Addr) (c' : Nat) (ys : List S39) (b : Bool) (W : World) (hA : Kd.C k39 W A xs.length xs) (hc : xs.length ≤ c) (hB : Kd.C k39 W B ys.length ys) (hc' : ys.length ≤ c') (h : slices_Equal_Cell.f k xs ys = some b) :
  Calls Tryz.prog 47 #[.slice A xs.length c, .slice B ys.length c'] W fun e w' => e = .returned (.bool b) ∧ Drawn0 W w' := by
 go_enter Tryz.func47, Tryz.ntmps47
 go_wp2_with fail
 refine (slices_Equal_Cell.calls k A c xs B c' ys b W hA hc hB hc' h).mono ?_
 rintro e w1 ⟨rfl, hd⟩
 go_wp2_with fail
 go_ret
 exact ⟨rfl, hd⟩
theorem equal_rows {w : World} {base g : Nat} {es : List (Value × List S39)} (h : PR_ w base (some g) es) {x y : Value × List S39} (hx : x ∈ es) (hy : y ∈ es) (W : World) (hW : ∀ k, k ≠ g → k < w.heap.size → W.heap[k]? = w.heap[k]?) :
  Calls Tryz.prog 47 #[x.1, y.1] W fun e w' => e = .returned (.bool (decide (cfS_ x.2 y.2 = 0))) ∧ ∃ m, w' = W.drewN m := by
 have mv : ∀ z ∈ es, Kd.R k39 39 W base (fun k => some k ≠ some g) z.1 z.2 := fun z hz => Kd.R_step (h.own z hz) (fun k hk hlt => hW k (fun e => hk (by rw [e])) hlt)
 obtain ⟨A, c, ha, hc, hA⟩ := Kd.R_reads (mv x hx)
 obtain ⟨B, c', hb, hc', hB⟩ := Kd.R_reads (mv y hy)
 obtain ⟨k, hk⟩ := equal_some x.2 y.2 hA.2.1
 rw [ha, hb]
 exact (equalShapes_walk k A c x.2 B c' y.2 _ W hA hc hB hc' hk).mono fun e w' ⟨he, hd⟩ => ⟨he, hd.out⟩
def ddE_ (l : List (Value × List S39)) : Nat → List (Value × List S39)
 | 0 => []
 | i + 1 => if i ≠ 0 ∧ cfS_ (gE_ l i).2 (gE_ l (i - 1)).2 = 0 then ddE_ l i else ddE_ l i ++ [gE_ l i]
theorem ddE_sub (l : List (Value × List S39)) : ∀ i, i ≤ l.length → (ddE_ l i).Sublist (l.take i) := by
 intro i
 induction i with
 | zero => intro _; exact List.nil_sublist _
 | succ i ih =>
  intro h
  have e : l.take (i + 1) = l.take i ++ [gE_ l i] := by rw [List.take_add_one, gE_get l i (by omega)]; rfl
  unfold ddE_
  rw [e]
  split
  ·exact (ih (by omega)).trans (List.sublist_append_left _ _)
  ·exact (ih (by omega)).append (List.Sublist.refl _)
/-- the row's block in a world: what the first cells are -/
structure RowE_ (w : World) (g cap n : Nat) (m : List (Value × List S39)) (wr : World) : Prop where
 blk : ∃ cur, wr.heap[g]? = some (.cells cur 24 (0, 0)) ∧ cur.size = cap ∧ cur.toList.take n = m.map Prod.fst
 len : m.length = n
 grown : w.grownBy wr (some g)
theorem RowE_.cell {w wr : World} {g cap n : Nat} {m : List (Value × List S39)} (h : RowE_ w g cap n m wr) (p : Nat) (hp : p < n) (x : Value × List S39) (hx : m[p]? = some x) :
  wr.cell? ⟨g, p, none⟩ = some x.1 ∧ wr.frozen? ⟨g, p, none⟩ = false := by
 obtain ⟨cur, hb, hs, ht⟩ := h.blk
 refine ⟨(blk_cell hb _).trans ?_, blk_frozen hb _⟩
 have e := congrArg (fun z => z[p]?) ht
 simp only [List.getElem?_take, Array.getElem?_toList, List.getElem?_map] at e
 rw [if_pos hp, hx] at e
 exact e
theorem RowE_.drewN {w wr : World} {g cap n : Nat} {m : List (Value × List S39)} (h : RowE_ w g cap n m wr) (k : Nat) : RowE_ w g cap n m (wr.drewN k) :=
 ⟨h.blk, h.len, ⟨h.grown.os, h.grown.tape, h.grown.output, h.grown.size, h.grown.block⟩⟩
theorem RowE_.set {w wr : World} {g cap n : Nat} {m : List (Value × List S39)} (h : RowE_ w g cap n m wr) (p : Nat) (x : Value × List S39) : RowE_ w g cap n (m.set p x) (wr.setCell ⟨g, p, none⟩ x.1) := by
 obtain ⟨cur, hb, hs, ht⟩ := h.blk
 refine ⟨⟨_, blk_set hb _ _, by simp [hs], ?_⟩, by rw [List.length_set]; exact h.len, ?_⟩
 ·rw [List.map_set, ← ht, Array.toList_setIfInBounds, List.take_set]
 ·refine ⟨h.grown.os, h.grown.tape, h.grown.output, ?_, fun k hk hne => ?_⟩
  ·have := h.grown.size; simpa [World.setCell] using this
  ·have hkg : k ≠ g := fun e => hne (by rw [e])
   rw [Below.heap_setCell _ _ _ k hkg]; exact h.grown.block k hk hne
theorem clear_rows (w : World) (ty : TypeId) (b o n c : Nat) (hn : 0 < n) (hc : ∀ j, j < n → (w.cell? ⟨b, o + j, none⟩).isSome = true) (hf : ∀ j, j < n → w.frozen? ⟨b, o + j, none⟩ = false) :
  (Builtin.clear_ #[26] ty #[.slice (some ⟨b, o, none⟩) n c]).run Tryz.prog w = .ok (.tuple #[]) (w.setCells b o (List.replicate n (.slice none 0 0))) := by
 have hst := run_storeCells_cells (P := Tryz.prog) b o (List.replicate n (.slice none 0 0)) 0 w (by simpa using hc) (by simpa using hf) (by intro v hv'; rw [List.eq_of_mem_replicate hv']; rfl)
 simp only [Nat.add_zero] at hst
 obtain ⟨m, rfl⟩ : ∃ m, n = m + 1 := ⟨n - 1, by omega⟩
 have hz : (Builtin.zeroCells (Value.slice none 0 0).cells (m + 1)).toList = List.replicate (m + 1) (.slice none 0 0) := by
  apply List.ext_getElem
  ·simp [Builtin.zeroCells, Value.cells]
  ·intro i h1 h2
   simp [Builtin.zeroCells, Value.cells, Nat.mod_one]
 have hzv : ∀ W, (zeroValue 24).run Tryz.prog W = .ok (.slice none 0 0) W := fun W => by kernel_rfl
 simp [Builtin.clear_, run_underlying Tryz.underlying26, hzv, hz, hst]
theorem setRows_blk {e : TypeId} (g : Nat) : ∀ (vs : List Value) (o : Nat) (wr : World) (cur : Array Value), wr.heap[g]? = some (.cells cur e (0, 0)) → ∃ cur', (wr.setCells g o vs).heap[g]? = some (.cells cur' e (0, 0)) ∧ cur'.size = cur.size ∧ (∀ j, j < o → cur'[j]? = cur[j]?) ∧ (∀ k, k ≠ g → (wr.setCells g o vs).heap[k]? = wr.heap[k]?) ∧ (wr.setCells g o vs).heap.size = wr.heap.size ∧ (wr.setCells g o vs).os = wr.os ∧ (wr.setCells g o vs).tape = wr.tape ∧ (wr.setCells g o vs).output = wr.output := by
 intro vs
 induction vs with
 | nil => intro o wr cur h; exact ⟨cur, h, rfl, fun _ _ => rfl, fun _ _ => rfl, rfl, rfl, rfl, rfl⟩
 | cons v r ih =>
  intro o wr cur h
  obtain ⟨c', h1, h2, h3, h4, h5, h6, h7, h8⟩ := ih (o + 1) (wr.setCell ⟨g, o, none⟩ v) _ (blk_set h o v)
  refine ⟨c', h1, by rw [h2]; simp, fun j hj => ?_, fun k hk => ?_, ?_, h6, h7, h8⟩
  ·rw [h3 j (by omega), Array.getElem?_setIfInBounds_ne (by omega)]
  ·exact (h4 k hk).trans (Below.heap_setCell _ _ _ k hk)
  ·refine h5.trans ?_; simp [World.setCell]
set_option maxHeartbeats 4000000 in
set_option maxRecDepth 100000 in
theorem compact_rows (base g cap : Nat) (l : List (Value × List S39)) (w : World) (h2 : 2 ≤ l.length) (hn : l.length ≤ cap) (hmax : cap ≤ maxLen) (h : RowE_ w g cap l.length l w) (hPR : PR_ w base (some g) l) :
  Calls Tryz.prog 46 #[.slice (some ⟨g, 0, none⟩) l.length cap, .func (.func 47) #[] #[]] w fun e w' => e = .returned (.slice (some ⟨g, 0, none⟩) (ddE_ l l.length).length cap) ∧ RowE_ w g cap (ddE_ l l.length).length (ddE_ l l.length) w' := by
 have hu1 := Tryz.underlying26
 simp only [maxLen] at hmax
 have HN := Aside0.mk hn
 have HR := Aside0.mk h
 have hEq : ∀ (p q : Nat) (W : World), p < l.length → q < l.length → (∃ wr, w.grownBy wr (some g) ∧ ∃ n, W = wr.drewN n) → Calls Tryz.prog 47 #[(gE_ l p).1, (gE_ l q).1] W fun e w' => e = .returned (.bool (decide (cfS_ (gE_ l p).2 (gE_ l q).2 = 0))) ∧ ∃ m, w' = W.drewN m := by
  intro p q W hp hq ⟨wr, hg, n, hW⟩
  exact equal_rows hPR (gE_mem l p hp) (gE_mem l q hq) W (fun k hk hlt => by rw [hW]; exact hg.block k hlt (fun e => hk (by injection e)))
 have HEQ := Aside0.mk hEq
 have HSL : Aside0 (∀ p, p < l.length → ∃ A n c, (gE_ l p).1 = .slice A n c) := ⟨fun p hp => by
  obtain ⟨A, c, e⟩ := Kd.R_slice (hPR.own _ (gE_mem l p hp))
  exact ⟨A, _, c, e⟩⟩
 clear h hEq hPR
 go_enter Tryz.func46, Tryz.ntmps46
 have z1 : decide ((l.length : Int) < 2) = false := decide_eq_false (by omega)
 have z2 : decide (l.length < 2) = false := decide_eq_false (by omega)
 go_wp2_with fail
 go_loopg [5] l.length (fun gk v5 wr => ∃ (kx : Int), v5 = .int .i64 kx ∧ Aside0 (RowE_ w g cap l.length l wr) ∧ Aside0 (1 ≤ kx ∧ kx ≤ l.length ∧ gk + kx = l.length + 1) ∧ Aside0 (ddE_ l kx.toNat = l.take kx.toNat))
 case atStart => exact ⟨1, rfl, HR, ⟨by omega⟩, ⟨by
  cases l with
  | nil => simp at h2
  | cons c r => rfl⟩⟩
 case round =>
  clear HR
  obtain ⟨kx, rfl, HR, HK, HD⟩ := hrel
  cases gk with
  | zero => exact absurd HK.out (by omega)
  | succ gk2 =>
   by_cases hlt : kx < (l.length : Int)
   ·have hk1 := HK.out.1
    obtain ⟨x0, _⟩ := HR.out.cell kx.toNat (by omega) _ (gE_get l kx.toNat (by omega))
    obtain ⟨y0, _⟩ := HR.out.cell (kx.toNat - 1) (by omega) _ (gE_get l (kx.toNat - 1) (by omega))
    have hc := fun n => HEQ.out kx.toNat (kx.toNat - 1) (wr.drewN n) (by omega) (by omega) ⟨wr, HR.out.grown, n, rfl⟩
    have hdd : ddE_ l (kx.toNat + 1) = if cfS_ (gE_ l kx.toNat).2 (gE_ l (kx.toNat - 1)).2 = 0 then ddE_ l kx.toNat else ddE_ l kx.toNat ++ [gE_ l kx.toNat] := by
     show (if kx.toNat ≠ 0 ∧ cfS_ (gE_ l kx.toNat).2 (gE_ l (kx.toNat - 1)).2 = 0 then _ else _) = _
     simp only [show kx.toNat ≠ 0 by omega, true_and, ne_eq, not_false_eq_true]
    have HDD := Aside0.mk hdd
    clear hdd
    have HX := Aside0.mk (gE_get l kx.toNat (by omega))
    generalize gE_ l kx.toNat = x at *
    generalize gE_ l (kx.toNat - 1) = y at *
    have c1 : decide (kx < (l.length : Int)) = true := decide_eq_true hlt
    have p0 : 0 ≤ kx := by omega
    have p1 : 0 ≤ kx - 1 := by omega
    have q1 : kx - 1 < (l.length : Int) := by omega
    have wv : IntKind.i64.wrap (kx - 1) = kx - 1 := by rw [IntKind.wrap_i64]; omega
    have HC := Aside0.mk hc
    clear hc
    by_cases hs : cfS_ x.2 y.2 = 0
    ·have HS := Aside0.mk hs
     have hc2 := HC.out
     simp only [decide_eq_true hs] at hc2
     have HC := Aside0.mk hc2
     clear hs hc2
     go_wp2_with fail
     go_quiet ((go_at_call 47; exact Calls.quiet_of (HC.out _)))
     have HRW1 := Aside0.mk (HR.out.drewN nq)
     go_wp2_with fail
     have hK1 : 1 ≤ kx.toNat := by omega
     have hKn : kx.toNat < l.length := by omega
     have hgk : kx = (kx.toNat : Int) := by omega
     have hD := HD.out
     have hDD := HDD.out
     rw [if_pos HS.out] at hDD
     clear x0 y0 HX HDD HD HS c1 p0 p1 q1 hlt HK hk1 wv HC
     generalize kx.toNat = K at *
     subst hgk
     obtain ⟨L2, hL2⟩ : ∃ L2, L2 = l.length - K := ⟨_, rfl⟩
     obtain ⟨C2, hC2⟩ : ∃ C2, C2 = cap - K := ⟨_, rfl⟩
     rw [← hL2, ← hC2]
     have hL2m : L2 ≤ 9223372036854775807 := by omega
     have HL2 := Aside0.mk hL2
     have HC2 := Aside0.mk hC2
     have HKK := Aside0.mk (⟨hK1, hKn⟩ : 1 ≤ K ∧ K < l.length)
     have HD0 := Aside0.mk (⟨hD, hDD⟩ : ddE_ l K = l.take K ∧ ddE_ l (K + 1) = ddE_ l K)
     clear hL2 hC2 hK1 hKn hD hDD
     go_loopg [5, 7] l.length (fun gk v5 v7 wr => ∃ (kv k2 : Int) (m : List (Value × List S39)), v5 = .int .i64 kv ∧ v7 = .int .i64 k2 ∧ Aside0 (1 ≤ k2 ∧ k2 ≤ L2 ∧ gk + (K + k2) = l.length + K + 1) ∧ Aside0 (RowE_ w g cap l.length m wr) ∧ Aside0 (kv = (ddE_ l (K + k2.toNat)).length) ∧ Aside0 (m.take kv.toNat = ddE_ l (K + k2.toNat)) ∧ Aside0 (∀ p, K + k2.toNat ≤ p + 1 → m[p]? = l[p]?) ∧ Aside0 (kv < K + k2))
     case atStart =>
      have e : (ddE_ l (K + (1 : Int).toNat)) = l.take K := by rw [show (1 : Int).toNat = 1 from rfl, HD0.out.2, HD0.out.1]
      have el : (l.take K).length = K := by rw [List.length_take]; have := HKK.out; omega
      exact ⟨K, 1, l, rfl, rfl, ⟨by have := HKK.out; have := HL2.out; omega⟩, HRW1, ⟨by rw [e, el]⟩, ⟨by rw [e]; rfl⟩, ⟨fun p _ => rfl⟩, ⟨by omega⟩⟩
     case round =>
      clear HD0 HRW1
      obtain ⟨kv, k2, m, rfl, rfl, HB2, HRW, HV, HT, HH, HVK⟩ := hrel
      cases gk with
      | zero => exact absurd HB2.out (by have := HKK.out; have := HL2.out; omega)
      | succ gk3 =>
       by_cases hlt2 : k2 < (L2 : Int)
       ·have hb := HB2.out
        have hkk := HKK.out
        have hl2 := HL2.out
        have hvk := HVK.out
        have hk21 : 1 ≤ k2 := hb.1
        have hi : K + k2.toNat < l.length := by omega
        have hm : ∀ p, K + k2.toNat ≤ p + 1 → p < l.length → m[p]? = some (gE_ l p) := fun p h1 h2 => by rw [HH.out p h1]; exact gE_get l p h2
        obtain ⟨x0, _⟩ := HRW.out.cell (K + k2.toNat) hi _ (hm _ (by omega) hi)
        obtain ⟨y0, _⟩ := HRW.out.cell (K + (k2.toNat - 1)) (by omega) _ (hm _ (by omega) (by omega))
        have hml := HRW.out.len
        have hv0 : 0 ≤ kv := by rw [HV.out]; omega
        obtain ⟨o0, s0⟩ := HRW.out.cell kv.toNat (by omega) _ (gE_get m kv.toNat (by omega))
        have hc := fun n => HEQ.out (K + k2.toNat) (K + (k2.toNat - 1)) (wr.drewN n) hi (by omega) ⟨wr, HRW.out.grown, n, rfl⟩
        have hdd : ddE_ l (K + k2.toNat + 1) = if cfS_ (gE_ l (K + k2.toNat)).2 (gE_ l (K + (k2.toNat - 1))).2 = 0 then ddE_ l (K + k2.toNat) else ddE_ l (K + k2.toNat) ++ [gE_ l (K + k2.toNat)] := by
         show (if K + k2.toNat ≠ 0 ∧ cfS_ (gE_ l (K + k2.toNat)).2 (gE_ l (K + k2.toNat - 1)).2 = 0 then _ else _) = _
         rw [show K + k2.toNat - 1 = K + (k2.toNat - 1) by omega]
         simp only [show K + k2.toNat ≠ 0 by omega, true_and, ne_eq, not_false_eq_true]
        have HDD := Aside0.mk hdd
        clear hdd
        have HX := Aside0.mk (hm _ (by omega) hi)
        obtain ⟨Ax, nx, cx, hxs⟩ := HSL.out (K + k2.toNat) hi
        have HXS := Aside0.mk hxs
        clear hxs
        generalize gE_ l (K + k2.toNat) = x at *
        generalize gE_ l (K + (k2.toNat - 1)) = y at *
        generalize gE_ m kv.toNat = old at *
        have HC := Aside0.mk hc
        have c1 : decide (k2 < (L2 : Int)) = true := decide_eq_true hlt2
        have p0 : 0 ≤ k2 := by omega
        have p1 : 0 ≤ k2 - 1 := by omega
        have q1 : k2 - 1 < (L2 : Int) := by omega
        have pv : 0 ≤ kv := hv0
        have qv : kv < (l.length : Int) := by omega
        have wv : IntKind.i64.wrap (k2 - 1) = k2 - 1 := by rw [IntKind.wrap_i64]; omega
        have HI := Aside0.mk hi
        clear hm hi hl2 hkk hb hvk hml hv0 hc
        by_cases hs : cfS_ x.2 y.2 = 0
        ·have HS := Aside0.mk hs
         have hc2 := HC.out
         simp only [decide_eq_true hs] at hc2
         have HC := Aside0.mk hc2
         clear hs hc2
         go_wp2_with fail
         go_quiet ((go_at_call 47; exact Calls.quiet_of (HC.out _)))
         go_wp2_with fail
         go_roundg gk3
         case measure => omega
         case rel =>
          have hdd := HDD.out
          rw [if_pos HS.out] at hdd
          have ek : K + (k2 + 1).toNat = K + k2.toNat + 1 := by omega
          exact ⟨kv, k2 + 1, m, rfl, rfl, ⟨by have := HB2.out; omega⟩, ⟨HRW.out.drewN _⟩, ⟨by rw [ek, hdd]; exact HV.out⟩, ⟨by rw [ek, hdd]; exact HT.out⟩, ⟨fun p hp => HH.out p (by omega)⟩, ⟨by have := HVK.out; omega⟩⟩
        ·have HS := Aside0.mk hs
         have hc2 := HC.out
         simp only [decide_eq_false hs] at hc2
         have HC := Aside0.mk hc2
         clear hs hc2
         have hxs := HXS.out
         clear HXS
         obtain ⟨vx, lx⟩ := x
         dsimp only at *
         subst hxs
         go_wp2_with fail
         go_quiet ((go_at_call 47; exact Calls.quiet_of (HC.out _)))
         go_wp2_with fail
         go_roundg gk3
         case measure => omega
         case rel =>
          have hdd := HDD.out
          rw [if_neg HS.out] at hdd
          have ek : K + (k2 + 1).toNat = K + k2.toNat + 1 := by omega
          have ev : (kv + 1).toNat = kv.toNat + 1 := by omega
          have hml := HRW.out.len
          refine ⟨kv + 1, k2 + 1, m.set kv.toNat (.slice Ax nx cx, lx), rfl, rfl, ⟨by have := HB2.out; omega⟩, ⟨(HRW.out.drewN _).set kv.toNat (.slice Ax nx cx, lx)⟩, ⟨?_⟩, ⟨?_⟩, ⟨fun p hp => ?_⟩, ⟨by have := HVK.out; omega⟩⟩
          ·rw [ek, hdd, List.length_append]; have := HV.out; simp; omega
          ·rw [ek, hdd, ev, List.take_add_one, List.take_set_of_le (Nat.le_refl _), HT.out, List.getElem?_set_self (by omega)]; rfl
          ·have := HVK.out
           rw [List.getElem?_set_ne (by omega)]; exact HH.out p (by omega)
       ·have hb := HB2.out
        have hkk := HKK.out
        have hl2 := HL2.out
        have hvk := HVK.out
        have hv0 : 0 ≤ kv := by rw [HV.out]; omega
        have hek : K + k2.toNat = l.length := by omega
        have hvn : kv.toNat < l.length := by omega
        obtain ⟨cur, hcb, hcs, hct⟩ := HRW.out.blk
        have hcl : ∀ ty, (Builtin.clear_ #[26] ty #[.slice (some ⟨g, kv.toNat, none⟩) (l.length - kv.toNat) (cap - kv.toNat)]).run Tryz.prog wr = .ok (.tuple #[]) (wr.setCells g kv.toNat (List.replicate (l.length - kv.toNat) (.slice none 0 0))) := by
         intro ty
         refine clear_rows wr ty g _ _ _ (by omega) (fun j hj => ?_) (fun j hj => blk_frozen hcb _)
         rw [blk_cell hcb, Array.getElem?_eq_getElem (by have := HN.out; omega)]; rfl
        have c1 : decide (k2 < (L2 : Int)) = false := decide_eq_false hlt2
        have pv : 0 ≤ kv := hv0
        have qv : kv ≤ (l.length : Int) := by omega
        have HVN := Aside0.mk hvn
        have HEK := Aside0.mk hek
        have HCB := Aside0.mk hcb
        have HCS := Aside0.mk hcs
        have HCT := Aside0.mk hct
        clear hvn hek hcb hcs hct hv0 hvk hl2 hkk hb
        go_wp2_with fail
        ·exact absurd HVN.out (by have := HN.out; omega)
        go_ret
        obtain ⟨cur', d1, d2, d3, d4, d5, d6, d7, d8⟩ := setRows_blk g (List.replicate (l.length - kv.toNat) (.slice none 0 0)) kv.toNat wr cur HCB.out
        have hG := HRW.out.grown
        have hVt := HV.out
        have hTt := HT.out
        have hml := HRW.out.len
        rw [HEK.out] at hVt hTt
        have hvt : kv.toNat = (ddE_ l l.length).length := by omega
        have hnc := HN.out
        have hvn := HVN.out
        have hcs := HCS.out
        have hct := HCT.out
        refine ⟨congrArg (fun n => Ending.returned (Value.slice (some ⟨g, 0, none⟩) n cap)) hvt, ⟨⟨cur', d1, by rw [d2]; exact hcs, ?_⟩, rfl, ⟨by rw [d6]; exact hG.os, by rw [d7]; exact hG.tape, by rw [d8]; exact hG.output, by rw [d5]; exact hG.size, fun k hk hne => (d4 k (fun e => hne (by rw [e]))).trans (hG.block k hk hne)⟩⟩⟩
        rw [← hTt, List.map_take, ← hct, List.take_take, hTt, ← hvt, Nat.min_eq_left (by omega)]
        apply List.ext_getElem?
        intro j
        rw [List.getElem?_take, List.getElem?_take]
        by_cases hj : j < kv.toNat
        ·rw [if_pos hj, if_pos hj, Array.getElem?_toList, Array.getElem?_toList]; exact d3 j hj
        ·rw [if_neg hj, if_neg hj]
    ·have HS := Aside0.mk hs
     have hc2 := HC.out
     simp only [decide_eq_false hs] at hc2
     have HC := Aside0.mk hc2
     clear hs hc2
     go_wp2_with fail
     go_quiet ((go_at_call 47; exact Calls.quiet_of (HC.out _)))
     go_wp2_with fail
     go_roundg gk2
     case measure => omega
     case rel =>
      refine ⟨kx + 1, rfl, ⟨HR.out.drewN _⟩, ⟨by have := HK.out; omega⟩, ⟨?_⟩⟩
      have hDD := HDD.out
      rw [if_neg HS.out, HD.out] at hDD
      rw [show (kx + 1).toNat = kx.toNat + 1 by omega, hDD, List.take_add_one, HX.out]; rfl
   ·have hk : kx = l.length := by have := HK.out; omega
    subst hk
    have e : ddE_ l l.length = l := by have := HD.out; rw [Int.toNat_natCast] at this; rw [this, List.take_length]
    have E := Aside0.mk e
    clear e HD
    go_wp2_with fail
    go_ret
    rw [E.out]
    exact ⟨rfl, HR.out⟩
def ddS_ (s : List (List S39)) : Nat → List (List S39)
 | 0 => []
 | i + 1 => if i ≠ 0 ∧ cfS_ (s.getD i []) (s.getD (i - 1) []) = 0 then ddS_ s i else ddS_ s i ++ [s.getD i []]
def sortS_ (l : List (List S39)) : List (List S39) := l.mergeSort fun x y => !decide (cfS_ y x < 0)
/-- in order, none twice -/
def impl_tidyShapes.f (k : Nat) (l : List (List S39)) : Option (List (List S39)) := if l.length ≤ 1000000 then some (ddS_ (sortS_ l) l.length) else none
theorem impl_tidyShapes.mono : ∀ a0 k, LeO (impl_tidyShapes.f k a0) (impl_tidyShapes.f (k + 1) a0) := fun _ _ => LeO.refl _
theorem gE_snd (l : List (Value × List S39)) (i : Nat) : (gE_ l i).2 = (l.map Prod.snd).getD i [] := by
 unfold gE_
 rw [List.getD_eq_getElem?_getD, List.getD_eq_getElem?_getD, List.getElem?_map]
 cases l[i]? <;> rfl
theorem ddE_snd (l : List (Value × List S39)) : ∀ i, (ddE_ l i).map Prod.snd = ddS_ (l.map Prod.snd) i := by
 intro i
 induction i with
 | zero => rfl
 | succ i ih =>
  unfold ddE_ ddS_
  rw [gE_snd, gE_snd]
  split
  ·exact ih
  ·rw [List.map_append, ih]
   show _ ++ [(gE_ l i).2] = _
   rw [gE_snd]
theorem sortS_unique {s l : List (List S39)} (hp : s.Perm l) (hs : s.Pairwise fun a b => ¬ cfS_ b a < 0) : s = sortS_ l := by
 refine List.Perm.eq_of_pairwise (le := fun a b => ¬ cfS_ b a < 0) (fun a b _ _ h1 h2 => ?_) hs ?_ (hp.trans (List.mergeSort_perm _ _).symm)
 ·refine (cfS_eq (a := a) (b := b) ?_)
  rw [cfS_neg a b] at h1
  omega
 ·have h := List.pairwise_mergeSort (le := fun x y : List S39 => !decide (cfS_ y x < 0)) (fun a b c h1 h2 => by
   simp only [Bool.not_eq_true', decide_eq_false_iff_not] at *
   exact cfS_ntrans h2 h1) (fun a b => by
   by_cases h : cfS_ b a < 0
   ·have : ¬ cfS_ a b < 0 := by rw [cfS_neg b a]; omega
    simp [this]
   ·simp [h]) l
  exact h.imp fun g => by simpa using g
theorem ddS_short (s : List (List S39)) (h : s.length < 2) : ddS_ s s.length = s := by
 match s, h with
 | [], _ => rfl
 | [c], _ => rfl
 | _ :: _ :: _, h => exact absurd h (by simp only [List.length_cons]; omega)
set_option maxHeartbeats 1000000 in
theorem compactS_short (A : Option Addr) (n cap : Nat) (hn : n < 2) (w : World) : Calls Tryz.prog 46 #[.slice A n cap, .func (.func 47) #[] #[]] w fun e w' => e = .returned (.slice A n cap) ∧ w' = w := by
 have z1 : decide ((n : Int) < 2) = true := decide_eq_true (by omega)
 have z2 : decide (n < 2) = true := decide_eq_true hn
 go_enter Tryz.func46, Tryz.ntmps46
 go_wp2
 go_ret
 exact ⟨rfl, rfl⟩
set_option maxHeartbeats 2000000 in
set_option maxRecDepth 100000 in
theorem tidy_none (A : Option Addr) (cap : Nat) (w : World) : Calls Tryz.prog 22 #[.slice A 0 cap] w fun e w' => e = .returned (.slice A 0 cap) ∧ w' = w := by
 have hs : ∀ W, Calls Tryz.prog 44 #[.slice A 0 cap, .func (.func 45) #[] #[]] W fun e w' => e = .returned (.tuple #[]) ∧ w' = W := fun W => AnyF.slices_SortFunc_none (P := Tryz.prog) { laySortShape with } A cap (.func (.func 45) #[] #[]) W
 go_enter Tryz.func22, Tryz.ntmps22
 go_wp2_with fail
 refine (hs _).mono ?_
 rintro e w1 ⟨rfl, rfl⟩
 go_wp2_with fail
 refine (compactS_short A 0 cap (by omega) _).mono ?_
 rintro e w1 ⟨rfl, rfl⟩
 go_wp2_with fail
 go_ret
 exact ⟨rfl, rfl⟩
set_option maxHeartbeats 4000000 in
set_option maxRecDepth 100000 in
/-- tidyShapes: a row of the call's own whose rows lie apart, sorted, without repeats -/
theorem tidy_walk (u : Value) (l r : List (List S39)) (w0 w : World) (hB : Below w0.heap.size w0 w) (ho : Kd.S (Kd.slice 39 k39) 24 w w0.heap.size (fun _ => True) u l) (k : Nat) (h : impl_tidyShapes.f k l = some r) :
  Calls Tryz.prog 22 #[u] w fun e w' => ∃ v, e = .returned v ∧ Kd.S (Kd.slice 39 k39) 24 w' w0.heap.size (fun _ => True) v r ∧ Below w0.heap.size w0 w' := by
 unfold impl_tidyShapes.f at h
 by_cases hb : l.length ≤ 1000000
 rotate_left
 ·rw [if_neg hb] at h; exact absurd h (by simp)
 rw [if_pos hb] at h
 obtain rfl := Option.some.inj h
 clear h
 obtain ⟨es, hes, hown, hPR⟩ := S_split ho
 have hlen : es.length = l.length := by rw [← hes, List.length_map]
 rcases Nat.eq_zero_or_pos l.length with h0 | h0
 ·have hl : l = [] := List.length_eq_zero_iff.1 h0
  subst hl
  obtain ⟨A, c, hu⟩ := Kd.S_slice ho
  have e : ddS_ (sortS_ ([] : List (List S39))) ([] : List (List S39)).length = [] := rfl
  rw [e]
  subst hu
  refine (tidy_none A c w).mono ?_
  rintro e w' ⟨rfl, rfl⟩
  exact ⟨_, rfl, ho, hB⟩
 ·obtain ⟨g, cap, hu, hge⟩ : ∃ g cap, u = .slice (some ⟨g, 0, none⟩) es.length cap ∧ es.length ≤ cap := by
   rcases hown.2 with ⟨_, hn⟩ | ⟨g, cap, cur, hu, _, _, hc, _⟩
   ·omega
   ·exact ⟨g, cap, hu, hc⟩
  subst hu
  have hob : (Value.slice (some ⟨g, 0, none⟩) es.length cap).ownBlock = some g := by simp [Value.ownBlock]
  rw [hob] at hPR
  have HS := Aside0.mk (sort_rows g cap es w0 w hB hown hPR (by omega) (by omega))
  have HES := Aside0.mk hes
  have HLE := Aside0.mk hlen
  have HL0 := Aside0.mk h0
  clear hown hPR hes hB ho hlen h0 hob
  go_enter Tryz.func22, Tryz.ntmps22
  go_wp2_with fail
  refine HS.out.mono ?_
  rintro e w1 ⟨rfl, es', hp, hsrt, hown1, hPR1, hB1⟩
  have hl' : es'.length = es.length := hp.length_eq
  have hsn : es'.map Prod.snd = sortS_ l := by
   refine sortS_unique ?_ (hsrt.imp fun g => by omega)
   rw [← HES.out]; exact hp.map _
  rw [← hl'] at hown1
  have HO1 := Aside0.mk hown1
  have HP1 := Aside0.mk hPR1
  have HB1 := Aside0.mk hB1
  have HSN := Aside0.mk hsn
  have HL' := Aside0.mk hl'
  clear hown1 hPR1 hB1 hsn hsrt hp hl'
  go_wp2_with fail
  have hlL : es.length = es'.length := HL'.out.symm
  rw [hlL]
  by_cases h2 : es'.length < 2
  ·refine (compactS_short _ es'.length cap h2 _).mono ?_
   rintro e w2 ⟨rfl, rfl⟩
   have hfin : Kd.S (Kd.slice 39 k39) 24 w2 w0.heap.size (fun _ => True) (.slice (some ⟨g, 0, none⟩) es'.length cap) (ddS_ (sortS_ l) l.length) := by
    have e1 : ddS_ (sortS_ l) l.length = es'.map Prod.snd := by
     rw [← HSN.out]
     have e2 : l.length = (es'.map Prod.snd).length := by rw [List.length_map, HL'.out, HLE.out]
     rw [e2]
     exact ddS_short _ (by rw [List.length_map]; exact h2)
    rw [e1]
    exact S_join HO1.out (by rw [show (Value.slice (some ⟨g, 0, none⟩) es'.length cap).ownBlock = some g by simp [Value.ownBlock]]; exact HP1.out)
   have HF := Aside0.mk hfin
   clear hfin h2 hlL
   go_wp2_with fail
   go_ret
   exact ⟨_, rfl, HF.out, HB1.out⟩
  ·have hrow : RowE_ w1 g cap es'.length es' w1 := by
    obtain ⟨h1, hv⟩ := HO1.out
    rcases hv with ⟨hv, _⟩ | ⟨g', cap', cur, hv, _, hblk, _, _, hcur, htake⟩
    ·exact absurd hv (by simp)
    ·obtain ⟨rfl, rfl⟩ : g' = g ∧ cap' = cap := by
      injection hv with a b c
      injection a with a
      injection a with a
      exact ⟨a.symm, c.symm⟩
     exact ⟨⟨cur, hblk, by rw [hcur]; exact Nat.mul_one _, by rw [Nat.mul_one] at htake; exact htake⟩, rfl, ⟨rfl, rfl, rfl, Nat.le_refl _, fun _ _ _ => rfl⟩⟩
   obtain ⟨hcap, hmax, hge0⟩ : es'.length ≤ cap ∧ cap ≤ maxLen ∧ w0.heap.size ≤ g := by
    rcases HO1.out.2 with ⟨hv, _⟩ | ⟨g', cap', cur, hv, hg0, _, hc, hm, _⟩
    ·exact absurd hv (by simp)
    ·injection hv with a b c
     injection a with a
     injection a with a
     exact ⟨by omega, by rw [c]; exact hm, by rw [a]; exact hg0⟩
   refine (compact_rows w0.heap.size g cap es' w1 (by omega) hcap hmax hrow HP1.out).mono ?_
   rintro e w2 ⟨rfl, hr⟩
   have hsub := ddE_sub es' es'.length (Nat.le_refl _)
   rw [List.take_length] at hsub
   have hdl := hsub.length_le
   obtain ⟨cur2, b1, b2, b3⟩ := hr.blk
   have hg1 := hr.grown
   have hfin : Kd.S (Kd.slice 39 k39) 24 w2 w0.heap.size (fun _ => True) (.slice (some ⟨g, 0, none⟩) (ddE_ es' es'.length).length cap) (ddS_ (sortS_ l) l.length) := by
    have e1 : ddS_ (sortS_ l) l.length = (ddE_ es' es'.length).map Prod.snd := by
     rw [ddE_snd, HSN.out, HL'.out, HLE.out]
    rw [e1]
    refine S_join ⟨by rw [List.length_map]; exact (Nat.mul_one _).symm, Or.inr ⟨g, cap, cur2, rfl, hge0, b1, by omega, hmax, by rw [b2]; exact (Nat.mul_one _).symm, by rw [Nat.mul_one]; exact b3⟩⟩ ?_
    rw [show (Value.slice (some ⟨g, 0, none⟩) (ddE_ es' es'.length).length cap).ownBlock = some g by simp [Value.ownBlock]]
    exact (HP1.out.move (fun k hk hlt => hg1.block k hlt (fun e => hk (by injection e)))).sub hsub
   have HF := Aside0.mk hfin
   have HB2 := Aside0.mk (HB1.out.grown hg1 HB1.out.size (fun k hk => by cases hk; exact hge0))
   clear hfin h2 hlL hrow hcap hmax hge0 hr hsub hdl b1 b2 b3 hg1
   go_wp2_with fail
   go_ret
   exact ⟨_, rfl, HF.out, HB2.out⟩

/-! ### impl_ShrinkShape: function 6, by hand -/
-- COMMONS none
def impl_ShrinkShape.go (k : Nat) (l0 : List S39) : Nat → Nat → Option (List (List S39))
 | 0, _ => some []
 | d + 1, i => (impl_connected.f k (l0.eraseIdx i)).bind fun b => if b = true then ((impl_normal.f k (l0.eraseIdx i)).bind fun s => (impl_ShrinkShape.go k l0 d (i + 1)).bind fun r => some (s :: r)) else impl_ShrinkShape.go k l0 d (i + 1)
def impl_ShrinkShape.f (k : Nat) (l0 : List S39) : Option (List (List S39) × Int) :=
 (impl_connectedCode.f k l0).bind fun t => if t = 0 then (if (l0.length : Int) = 1 then some (([] : List (List S39)), 5) else if l0.length ≤ 1000000 then ((impl_ShrinkShape.go k l0 l0.length 0).bind fun o => (impl_tidyShapes.f k o).bind fun q => some (q, 0)) else none) else some (([] : List (List S39)), t)
theorem impl_ShrinkShape.go_mono (k : Nat) (l0 : List S39) : ∀ d i, LeO (impl_ShrinkShape.go k l0 d i) (impl_ShrinkShape.go (k + 1) l0 d i) := by
 intro d
 induction d with
 | zero => intro i; exact LeO.refl _
 | succ d ih => intro i; exact LeO.bind (impl_connected.mono _ _) fun b => LeO.ite (LeO.bind (impl_normal.mono _ _) fun s => LeO.bind (ih _) fun _ => LeO.refl _) (ih _)
theorem impl_ShrinkShape.mono : ∀ a0 k, LeO (impl_ShrinkShape.f k a0) (impl_ShrinkShape.f (k + 1) a0) := by
 intro a0 k
 unfold impl_ShrinkShape.f
 exact LeO.bind (impl_connectedCode.mono _ _) fun t => LeO.ite (LeO.ite (LeO.refl _) (LeO.ite (LeO.bind (impl_ShrinkShape.go_mono k a0 _ _) fun o => LeO.bind (impl_tidyShapes.mono _ _) fun _ => LeO.refl _) (LeO.refl _))) (LeO.refl _)
set_option maxHeartbeats 8000000 in
set_option maxRecDepth 100000 in
theorem impl_ShrinkShape.calls (k : Nat) (A0 : Option Addr) (c0 : Nat) (l0 : List S39) (r1 : List (List S39)) (r2 : Int) (w : World) (hr0 : Kd.C k39 w A0 l0.length l0) (hc0 : l0.length ≤ c0) (h : impl_ShrinkShape.f k l0 = some (r1, r2)) :
  Calls Tryz.prog 6 #[.slice A0 l0.length c0] w fun e w' => ∃ v0_ : Value, e = .returned (.tuple #[v0_, .int .i64 r2]) ∧ Kd.S (Kd.slice 39 k39) 24 w' w.heap.size (fun _ => True) v0_ r1 ∧ Below w.heap.size w w' := by
 have HR0 := Aside0.mk hr0
 have HC0 := Aside0.mk hc0
 clear hr0 hc0
 obtain ⟨t, ht, h⟩ := Option.bind_eq_some_iff.mp h
 have HT := Aside0.mk ht
 clear ht
 by_cases c : t = 0
 rotate_left
 ·rw [if_neg c] at h
  simp only [Option.some.injEq, Prod.mk.injEq] at h
  obtain ⟨rfl, rfl⟩ := h
  have c3b0 : (t == 0) = false := beq_eq_false_iff_ne.mpr c
  have c3b1 : (t != 0) = true := bne_iff_ne.mpr c
  go_enter Tryz.func6, Tryz.ntmps6
  go_wp2_with fail
  refine (impl_connectedCode.calls k A0 c0 l0 t _ HR0.out HC0.out HT.out).mono ?_
  rintro e w1 ⟨rfl, hb⟩
  have HB1 := Aside0.mk hb
  clear hb
  go_wp2_with fail
  go_ret2
  exact ⟨_, rfl, Kd.S_nil _ _ _ _ _, HB1.out⟩
 rw [if_pos c] at h
 subst c
 have HL := Aside0.mk (show l0.length ≤ 9223372036854775807 from HR0.out.2.1)
 by_cases c1 : (l0.length : Int) = 1
 ·rw [if_pos c1] at h
  simp only [Option.some.injEq, Prod.mk.injEq] at h
  obtain ⟨rfl, rfl⟩ := h
  have b1 : ((l0.length : Int) == 1) = true := beq_iff_eq.2 c1
  have b2 : ((l0.length : Int) != 1) = false := by simp [bne, b1]
  have b3 : (l0.length == 1) = true := beq_iff_eq.2 (by omega)
  have b4 : (l0.length != 1) = false := by simp [bne, b3]
  clear c1
  go_enter Tryz.func6, Tryz.ntmps6
  go_wp2_with fail
  refine (impl_connectedCode.calls k A0 c0 l0 0 _ HR0.out HC0.out HT.out).mono ?_
  rintro e w1 ⟨rfl, hb⟩
  have HB1 := Aside0.mk hb
  clear hb
  go_wp2_with fail
  go_ret2
  exact ⟨_, rfl, Kd.S_nil _ _ _ _ _, HB1.out⟩
 have b1 : ((l0.length : Int) == 1) = false := beq_eq_false_iff_ne.2 c1
 have b2 : ((l0.length : Int) != 1) = true := by simp [bne, b1]
 have b3 : (l0.length == 1) = false := beq_eq_false_iff_ne.2 (by omega)
 have b4 : (l0.length != 1) = true := by simp [bne, b3]
 rw [if_neg c1] at h
 clear c1
 by_cases c2 : l0.length ≤ 1000000
 rotate_left
 ·rw [if_neg c2] at h; exact absurd h (by simp)
 rw [if_pos c2] at h
 obtain ⟨o, ho, h⟩ := Option.bind_eq_some_iff.mp h
 obtain ⟨q, hq, h⟩ := Option.bind_eq_some_iff.mp h
 simp only [Option.some.injEq, Prod.mk.injEq] at h
 obtain ⟨rfl, rfl⟩ := h
 have HGO := Aside0.mk ho
 have HQ := Aside0.mk hq
 have HX := Aside0.mk c2
 have hu1 := Tryz.underlying26
 clear ho hq c2
 go_enter Tryz.func6, Tryz.ntmps6
 go_wp2_with fail
 refine (impl_connectedCode.calls k A0 c0 l0 0 _ HR0.out HC0.out HT.out).mono ?_
 rintro e w1 ⟨rfl, hb⟩
 have HB1 := Aside0.mk hb
 clear hb
 go_wp2_with ((with_reducible refine gate_dst (N := 16) rfl ?_); refine Kd.S_lit (Kd.slice 39 k39) _ 24 ?hg (N := 16) ?hd (xs := ([] : List (List S39))) (inner := []) (ok := fun _ => True) (okp := fun _ => True) ?hr ?hp (fun _ hk => hk) trivial (Below.refl _ _) (Nat.le_refl _) (by simp) ?_; (case hd => rfl); (case hg => rfl); (case hr => first | (go_simp; done) | (go_simp; rfl)); (case hp => exact (Reps.none _ _)); intro v16 w16 ho16 hb16 hg_ hnew_; clear hg_ hnew_; have HO := Aside0.mk (Kd.S_lower ho16 (below_size HB1.out)); have HB := Aside0.mk (below_step HB1.out hb16); clear ho16 hb16 HB1)
 go_loopg [5, 19] l0.length (fun gk v5 v19 wr => ∃ (i : Nat) (acc rest : List (List S39)), v19 = .int .i64 i ∧ Aside0 (gk + i = l0.length) ∧ Aside0 (impl_ShrinkShape.go k l0 gk i = some rest) ∧ Aside0 (acc ++ rest = o) ∧ Aside0 (acc.length ≤ i) ∧ Aside0 (Kd.S (Kd.slice 39 k39) 24 wr w.heap.size (fun _ => True) v5 acc) ∧ Aside0 (Below w.heap.size w wr))
 case atStart => exact ⟨0, [], o, rfl, ⟨rfl⟩, HGO, ⟨rfl⟩, ⟨Nat.zero_le _⟩, HO, HB⟩
 case round =>
  clear HGO HO HB
  obtain ⟨i, acc, rest, rfl, HI, HGO, HA, HAL, HO, HB⟩ := hrel
  obtain ⟨A5, c5, e5⟩ := Kd.S_slice HO.out
  subst e5
  cases gk with
  | zero =>
   have hi : i = l0.length := by have := HI.out; omega
   have d3 : decide ((i : Int) < (l0.length : Int)) = false := decide_eq_false (by omega)
   have d4 : decide (i < l0.length) = false := decide_eq_false (by omega)
   have hs2 : some [] = some rest := HGO.out
   obtain rfl := Option.some.inj hs2
   have ha := HA.out
   rw [List.append_nil] at ha
   subst ha
   clear hi hs2 HGO HA
   go_wp2_with fail
   refine (tidy_walk _ acc q w _ HB.out HO.out k HQ.out).mono ?_
   rintro e w3 ⟨v3, rfl, hS3, hb3⟩
   have HS3 := Aside0.mk hS3
   have HB3 := Aside0.mk hb3
   clear hS3 hb3
   go_wp2_with fail
   go_ret2
   exact ⟨_, rfl, HS3.out, HB3.out⟩
  | succ gi =>
   have hi : i < l0.length := by have := HI.out; omega
   have hbig : l0.length ≤ 1000000 := HX.out
   have p1 : 0 ≤ (i : Int) := by omega
   have d3 : decide ((i : Int) < (l0.length : Int)) = true := decide_eq_true (by omega)
   have d4 : decide (i < l0.length) = true := decide_eq_true hi
   have hg := HGO.out
   obtain ⟨b, hb, hg2⟩ := Option.bind_eq_some_iff.mp hg
   have HCN := Aside0.mk hb
   have hclone : slices_Clone_Cell.f l0 = some l0 := by unfold slices_Clone_Cell.f; rw [if_pos (by omega)]
   have hdel : slices_Delete_Cell.f l0 (i : Int) ((i : Int) + 1) = some (l0.eraseIdx i) := by unfold slices_Delete_Cell.f; rw [if_pos ⟨⟨by omega, by omega⟩, rfl, by omega⟩, Int.toNat_natCast]
   have HCL := Aside0.mk hclone
   have HDL := Aside0.mk hdel
   have hacc : acc.length ≤ 1000000 := by have := HAL.out; omega
   have HACC := Aside0.mk hacc
   have HG2 := Aside0.mk hg2
   clear hg hb hg2 hclone hdel hacc HGO
   go_wp2_with fail
   refine (slices_Clone_Cell.calls A0 c0 l0 l0 _ (Kd.C_below HR0.out HB.out) HC0.out HCL.out).mono ?_
   rintro e w2 ⟨v23, rfl, hR, hb⟩
   have HR2 := Aside0.mk hR
   have HB2 := Aside0.mk hb
   clear hR hb
   go_wp2_with fail
   refine (slices_Delete_Cell.calls (fun _ => True) v23 l0 (i : Int) ((i : Int) + 1) (l0.eraseIdx i) _ w2 HB2.out HR2.out HDL.out).mono ?_
   rintro e w3 ⟨v27, rfl, hR, hb, _⟩
   obtain ⟨A27, c27, e27, hl27, hC27⟩ := Kd.R_reads hR
   subst e27
   have HC27 := Aside0.mk hC27
   have HL27 := Aside0.mk hl27
   have HB3 := Aside0.mk hb
   clear hR hb hC27 hl27 HR2 HB2
   generalize l0.eraseIdx i = less at *
   go_wp2_with fail
   refine (impl_connected.calls k A27 c27 less b _ HC27.out HL27.out HCN.out).mono ?_
   rintro e w4 ⟨rfl, hb⟩
   have HC4 := Aside0.mk (Kd.C_below HC27.out hb)
   have HB4 := Aside0.mk (below_step HB3.out hb)
   clear hb HC27 HB3
   cases b with
   | false =>
    have hg := HG2.out
    rw [if_neg (by simp)] at hg
    have HGO := Aside0.mk hg
    have HO4 := Aside0.mk (Kd.S_below HO.out HB4.out)
    have HB5 := Aside0.mk (below_step HB.out HB4.out)
    clear hg HG2 HO HB HB4 HC4
    go_wp2_with fail
    go_roundg gi
    case measure => omega
    case rel => exact ⟨i + 1, acc, rest, by go_num, ⟨by have := HI.out; omega⟩, HGO, HA, ⟨by have := HAL.out; omega⟩, HO4, HB5⟩
   | true =>
    have hg := HG2.out
    rw [if_pos rfl] at hg
    obtain ⟨s, hs, hg2⟩ := Option.bind_eq_some_iff.mp hg
    obtain ⟨r, hr, hg3⟩ := Option.bind_eq_some_iff.mp hg2
    obtain rfl := Option.some.inj hg3
    have HS := Aside0.mk hs
    have HGO := Aside0.mk hr
    have HA2 := Aside0.mk (show (acc ++ [s]) ++ r = o by rw [List.append_assoc]; exact HA.out)
    clear hg hs hg2 hr hg3 HG2 HA
    go_wp2_with fail
    refine (impl_normal.calls k A27 c27 less s _ HC4.out HL27.out HS.out).mono ?_
    rintro e w5 ⟨v32, rfl, hR, hb⟩
    have HB5 := Aside0.mk (below_step HB4.out hb)
    have HB6 := Aside0.mk (below_step HB.out HB5.out)
    have HO5 := Aside0.mk (Kd.S_elder' HO.out (fun k hk => Nat.le_trans (below_size HB4.out) (Kd.R_base hR k hk)) HB5.out)
    have HR5 := Aside0.mk (Kd.R_lower hR (Nat.le_trans (below_size HB.out) (below_size HB4.out)))
    obtain ⟨A32, c32, e32⟩ := Kd.R_slice hR
    subst e32
    clear hR hb HC4 HB4 HB HO HB5
    go_wp2_with ((with_reducible refine gate_builtin (b := .append) (xs := #[.tmp 30, .tmp 33]) rfl ?_); at_builtin; refine Kd.S_append (Kd.slice 39 k39) (w0 := w) w.heap.size rfl (.tmp 30) (.tmp 33) 26 24 (.slice none 0 0) 24 rfl Tryz.underlying26 info24 rfl (by decide) (by omega) (.slice A5 acc.length c5) acc s [.slice A32 s.length c32] (fun _ => True) (fun k_ => some k_ = (.slice A32 s.length c32 : Value).ownBlock) rfl rfl ?aP (fun k_ hk_ => ((Kd.R_mono (ok' := fun k_ => ((fun _ => True)) k_ ∧ some k_ ≠ (.slice A5 acc.length c5 : Value).ownBlock) (Kd.R_apart' (HR5.out) (Kd.S_typed HO5.out) (by decide)) (fun k_ hk => ⟨trivial, hk.2⟩))).1 k_ hk_.symm) ?aF ?aO ?aB ?aS ?aL ?_; (case aP => exact Kd.M_row (Kd.R_mono (Kd.R_tight rfl (Kd.R_mono (ok' := fun k_ => ((fun _ => True)) k_ ∧ some k_ ≠ (.slice A5 acc.length c5 : Value).ownBlock) (Kd.R_apart' (HR5.out) (Kd.S_typed HO5.out) (by decide)) (fun k_ hk => ⟨trivial, hk.2⟩))) (fun _ h_ => h_))); (case aB => exact (by repeat (with_reducible first | exact HB6.out | apply below_alloc | apply pw_below_drewN | apply below_drew1))); (case aF => exact (fun _ _ => trivial)); (case aO => exact (by (with_reducible repeat (first | apply Kd.S_alloc | apply Kd.S_drewN | apply Kd.S_drew)); exact Kd.S_mono HO5.out (fun k_ hk => ⟨trivial, fun e_ => hk.2 e_⟩))); (case aS => exact (below_size (by repeat (with_reducible first | exact HB6.out | apply below_alloc | apply pw_below_drewN | apply below_drew1)))); (case aL => have := HACC.out; omega); intro v34 w34 ho hb hg hat; have HO7 := Aside0.mk ho; have HB7 := Aside0.mk hb; clear ho hb hg hat HO5 HR5 HB6)
    go_roundg gi
    case measure => omega
    case rel => exact ⟨i + 1, acc ++ [s], r, by go_num, ⟨by have := HI.out; omega⟩, HGO, HA2, ⟨by rw [List.length_append, List.length_singleton]; have := HAL.out; omega⟩, HO7, HB7⟩

end Go.Proofs.YtbkafaoehheioaaGreat.X
