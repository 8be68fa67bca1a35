-- xprint.py
import Derived.Test.YtbkafaoehheioaaGreatXx0
import Derived.Test.YtbkafaoehheioaaGreatXx1
import Derived.Test.YtbkafaoehheioaaGreatXx2
import Derived.Test.YtbkafaoehheioaaGreatXx3
import Derived.Test.YtbkafaoehheioaaGreatXx4
import Derived.Test.YtbkafaoehheioaaGreatXx6
import Derived.Test.YtbkafaoehheioaaGreatXx8
namespace Go.Proofs.YtbkafaoehheioaaGreat.X
open Go.RowKit Go.Proofs.YtbkafaoehheioaaGreatW.PrintWords Go.Proofs.YtbkafaoehheioaaGreatW.PrintLast Go.Proofs.YtbkafaoehheioaaGreatW.PrintMore
attribute [local go_sem] max2_int min2_int max_two min_two max_three min_three max_four min_four   -- for this text's walks alone
set_option linter.unusedVariables false
set_option linter.unusedSimpArgs false

attribute [local go_sem high] eqA39
/-! ### slices_Index_Cell: function 84 -/
def slices_Index_Cell.l0 : Nat → List (S39) → Int → Int → Int → Int → Option (Int)
 | 0, _, _, _, _, _ => none
 | k + 1, x0, x7, x8, x485000, x485001 => if x8 < x7 then (if 0 ≤ x8 then (if x8 < (x0.length : Int) then (if (x485000 == ((rd_T39 x0 x8).f0) && (x485001 == ((rd_T39 x0 x8).f1))) = true then (some x8) else (slices_Index_Cell.l0 k x0 x7 (wrap64 (x8 + 1)) x485000 x485001)) else (none)) else (none)) else (some (-1))
def slices_Index_Cell.f (k : Nat) (l0 : List (S39)) (a1_0 : Int) (a1_1 : Int) : Option (Int) := slices_Index_Cell.l0 k l0 (l0.length : Int) 0 a1_0 a1_1
theorem slices_Index_Cell.mono_l : ∀ k, (∀ y0 y1 y2 y3 y4, LeO (slices_Index_Cell.l0 k y0 y1 y2 y3 y4) (slices_Index_Cell.l0 (k + 1) y0 y1 y2 y3 y4))
 | 0 => fun _ _ _ _ _ r h => by simp [slices_Index_Cell.l0] at h
 | k + 1 => by
  have ih0 := slices_Index_Cell.mono_l k
  ·intro y0 y1 y2 y3 y4
   unfold slices_Index_Cell.l0
   repeat' first
   | (with_reducible exact ih0 _ _ _ _ _)
   | (with_reducible exact LeO.refl _)
   | (with_reducible exact LeO.none _)
   | (with_reducible refine LeO.ite ?_ ?_)
   | (with_reducible refine LeO.bind ?_ (fun _ => ?_))
   | exact ih0 _ _ _ _ _
   | exact LeO.none _
   | refine LeO.ite ?_ ?_
   | refine LeO.bind ?_ (fun _ => ?_)
theorem slices_Index_Cell.mono : ∀ a0 a1 a2 k, LeO (slices_Index_Cell.f k a0 a1 a2) (slices_Index_Cell.f (k + 1) a0 a1 a2) := by
 intro a0 a1 a2 k
 have ih0 := slices_Index_Cell.mono_l k
 unfold slices_Index_Cell.f
 repeat' first
   | (with_reducible exact ih0 _ _ _ _ _)
   | (with_reducible exact LeO.refl _)
   | (with_reducible exact LeO.none _)
   | (with_reducible refine LeO.ite ?_ ?_)
   | (with_reducible refine LeO.bind ?_ (fun _ => ?_))
   | exact ih0 _ _ _ _ _
   | exact LeO.none _
   | refine LeO.ite ?_ ?_
   | refine LeO.bind ?_ (fun _ => ?_)
set_option maxHeartbeats 8000000 in
set_option maxRecDepth 100000 in
theorem slices_Index_Cell.calls (k : Nat) (A0 : Option Addr) (c0 : Nat) (l0 : List (S39)) (a1_0 : Int) (a1_1 : Int) (r : Int) (w : World) (hr0 : Kd.C k39 w A0 l0.length l0) (hc0 : l0.length ≤ c0) (h : slices_Index_Cell.f k l0 a1_0 a1_1 = some r) :
  Calls Tryz.prog 84 #[.slice A0 l0.length c0, .agg #[.int .i64 a1_0, .int .i64 a1_1]] w fun e w' => e = .returned (.int .i64 r) ∧ Below w.heap.size w w' := by
 have hu39 := Tryz.underlying39
 have HR0 := Aside0.mk hr0
 have HC0 := Aside0.mk hc0
 clear hr0 hc0
 have HB := Aside0.mk (Below.refl w.heap.size w)
 have H : (slices_Index_Cell.l0 k l0 (l0.length : Int) 0 a1_0 a1_1) = some r := h
 clear h
 have H' := Aside0.mk H
 clear H
 go_enter Tryz.func84, Tryz.ntmps84
 go_wp2_with (first | ((with_reducible refine gate_dst (N := 3) rfl ?_); refine box_event ?hg (N := 3) ?hd (cs := #[.int .i64 a1_0, .int .i64 a1_1]) (t := 39) ?hr ?_; (case hd => rfl); (case hg => rfl); (case hr => first | (go_simp; done) | (go_simp; rfl)); intro gb484 hg w3 hbox hb; have BK484 := Aside0.mk (hbox); have GW484 := Aside0.mk ((by rw [hg]; exact (below_size bB_) : w.heap.size ≤ gb484)); have GE484 := Aside0.mk ((by rw [hg]; exact (below_size bB_) : w.heap.size ≤ gb484)); replace HB := Aside0.mk (below_step bB_ hb); clear hb hbox hg))
 repeat (go_quiet (first | ((with_reducible refine gate_dst (N := 3) rfl ?_); refine box_event ?hg (N := 3) ?hd (cs := #[.int .i64 a1_0, .int .i64 a1_1]) (t := 39) ?hr ?_; (case hd => rfl); (case hg => rfl); (case hr => first | (go_simp; done) | (go_simp; rfl)); intro gb484 hg w3 hbox hb; have BK484 := Aside0.mk (hbox); have GW484 := Aside0.mk ((by rw [hg]; exact (below_size bB_) : w.heap.size ≤ gb484)); have GE484 := Aside0.mk ((by rw [hg]; exact (below_size bB_) : w.heap.size ≤ gb484)); replace HB := Aside0.mk (below_step bB_ hb); clear hb hbox hg)); try go_wp2_with (first | ((with_reducible refine gate_dst (N := 3) rfl ?_); refine box_event ?hg (N := 3) ?hd (cs := #[.int .i64 a1_0, .int .i64 a1_1]) (t := 39) ?hr ?_; (case hd => rfl); (case hg => rfl); (case hr => first | (go_simp; done) | (go_simp; rfl)); intro gb484 hg w3 hbox hb; have BK484 := Aside0.mk (hbox); have GW484 := Aside0.mk ((by rw [hg]; exact (below_size bB_) : w.heap.size ≤ gb484)); have GE484 := Aside0.mk ((by rw [hg]; exact (below_size bB_) : w.heap.size ≤ gb484)); replace HB := Aside0.mk (below_step bB_ hb); clear hb hbox hg)))
 go_loopg [8] k (fun kq v8 w' => ∃ (x8_1 : Int), v8 = .int .i64 x8_1 ∧ Aside0 (slices_Index_Cell.l0 kq l0 (l0.length : Int) x8_1 a1_0 a1_1 = some r) ∧ Aside0 (kq ≤ k) ∧ Aside0 (w'.heap[gb484]? = some (.cells #[.int .i64 a1_0, .int .i64 a1_1] 39 (0, 0))) ∧ Aside0 (Below w.heap.size w w'))
 case atStart => exact ⟨(0), r3_, H', ⟨Nat.le_refl _⟩, ⟨by (with_reducible repeat (first | refine blk_drewN ?_ _ | refine blk_drew ?_ | refine blk_alloc ?_ _)); exact BK484.out⟩, ⟨by repeat (first | (with_reducible first | exact HB.out | apply below_alloc | apply pw_below_drewN | apply below_drew1 | refine below_set ?_ GE484.out) | exact HB.out)⟩⟩
 case round =>
  clear H'
  try clear p2
  obtain ⟨x8_1, rfl, HA, HK1, BK484, HB⟩ := hrel
  cases gk with
  | zero => exact absurd HA.out (by simp [slices_Index_Cell.l0])
  | succ k1 =>
   have H := HA.out
   clear HA
   simp only [slices_Index_Cell.l0] at H
   by_cases c4 : x8_1 < (l0.length : Int)
   ·rw [if_pos c4] at H
    have c4b0 : decide (x8_1 < (l0.length : Int)) = true := decide_eq_true c4
    clear c4
    by_cases c5 : 0 ≤ x8_1
    ·rw [if_pos c5] at H
     have c5b0 : decide (0 ≤ x8_1) = true := decide_eq_true c5
     clear c5
     by_cases c6 : x8_1 < (l0.length : Int)
     ·rw [if_pos c6] at H
      have c6b0 : decide (x8_1 < (l0.length : Int)) = true := decide_eq_true c6
      clear c6
      by_cases c7 : (a1_0 == ((rd_T39 l0 x8_1).f0) && (a1_1 == ((rd_T39 l0 x8_1).f1))) = true
      ·rw [if_pos c7] at H
       have c7b0 : (a1_0 == ((rd_T39 l0 x8_1).f0) && (a1_1 == ((rd_T39 l0 x8_1).f1))) = true := c7
       (try (have c7b1 : decide (a1_0 = ((rd_T39 l0 x8_1).f0) && (a1_1 == ((rd_T39 l0 x8_1).f1))) = true := by simpa using c7))
       (try (have c7b2 : (a1_0 == ((rd_T39 l0 x8_1).f0) && (a1_1 == ((rd_T39 l0 x8_1).f1))) = true := by simpa using c7))
       clear c7
       obtain rfl := Option.some.inj H
       have hcz8_0 : wr.cell? ⟨gb484, 0, none⟩ = some (.int .i64 a1_0) := (blk_cell BK484.out 0).trans rfl
       have hcz8_1 : wr.cell? ⟨gb484, 1, none⟩ = some (.int .i64 a1_1) := (blk_cell BK484.out 1).trans rfl
       have hfz8_0 := blk_frozen BK484.out 0
       have hfz8_1 := blk_frozen BK484.out 1
       have p485 : 0 ≤ (x8_1 : Int) := of_decide_eq_true aS_
       have q485 : x8_1 < (l0.length : Int) := of_decide_eq_true aS_
       obtain ⟨ad485, e485, hx485_0, hx485_1⟩ := at_T39 HR0.out x8_1 p485 q485
       cases e485
       replace hx485_0 := (HB.out.cell (World.block_lt_of_cell? w _ hx485_0)).trans hx485_0
       replace hx485_1 := (HB.out.cell (World.block_lt_of_cell? w _ hx485_1)).trans hx485_1
       replace p485 := eq_true p485
       replace q485 := eq_true q485
       go_wp2
       repeat (go_quiet (fail); try go_wp2)
       go_ret
       exact ⟨r2_, by repeat (first | (with_reducible first | exact HB.out | apply below_alloc | apply pw_below_drewN | apply below_drew1 | refine below_set ?_ GE484.out) | exact HB.out)⟩
      ·rw [if_neg c7] at H
       have c7b0 : (a1_0 == ((rd_T39 l0 x8_1).f0) && (a1_1 == ((rd_T39 l0 x8_1).f1))) = false := by simpa using c7
       (try (have c7b1 : decide (a1_0 = ((rd_T39 l0 x8_1).f0) && (a1_1 == ((rd_T39 l0 x8_1).f1))) = false := by simpa using c7))
       (try (have c7b2 : (a1_0 == ((rd_T39 l0 x8_1).f0) && (a1_1 == ((rd_T39 l0 x8_1).f1))) = false := by simpa using c7))
       (try (have c7b3 : ¬ (a1_0 = ((rd_T39 l0 x8_1).f0) && (a1_1 == ((rd_T39 l0 x8_1).f1))) := by simpa using c7))
       clear c7
       have H' := Aside0.mk H
       clear H
       have hcz9_0 : wr.cell? ⟨gb484, 0, none⟩ = some (.int .i64 a1_0) := (blk_cell BK484.out 0).trans rfl
       have hcz9_1 : wr.cell? ⟨gb484, 1, none⟩ = some (.int .i64 a1_1) := (blk_cell BK484.out 1).trans rfl
       have hfz9_0 := blk_frozen BK484.out 0
       have hfz9_1 := blk_frozen BK484.out 1
       have p485 : 0 ≤ (x8_1 : Int) := of_decide_eq_true aS_
       have q485 : x8_1 < (l0.length : Int) := of_decide_eq_true aS_
       obtain ⟨ad485, e485, hx485_0, hx485_1⟩ := at_T39 HR0.out x8_1 p485 q485
       cases e485
       replace hx485_0 := (HB.out.cell (World.block_lt_of_cell? w _ hx485_0)).trans hx485_0
       replace hx485_1 := (HB.out.cell (World.block_lt_of_cell? w _ hx485_1)).trans hx485_1
       replace p485 := eq_true p485
       replace q485 := eq_true q485
       go_wp2
       repeat (go_quiet (fail); try go_wp2)
       go_roundg k1
       case measure => have := HK1.out; omega
       case rel => exact ⟨(wrap64 (x8_1 + 1)), r3_, H', ⟨by have := HK1.out; omega⟩, ⟨by (with_reducible repeat (first | refine blk_drewN ?_ _ | refine blk_drew ?_ | refine blk_alloc ?_ _)); exact BK484.out⟩, ⟨by repeat (first | (with_reducible first | exact HB.out | apply below_alloc | apply pw_below_drewN | apply below_drew1 | refine below_set ?_ GE484.out) | exact HB.out)⟩⟩
     ·rw [if_neg c6] at H
      exact absurd H (by simp)
    ·rw [if_neg c5] at H
     exact absurd H (by simp)
   ·rw [if_neg c4] at H
    have c4b0 : decide (x8_1 < (l0.length : Int)) = false := decide_eq_false c4
    clear c4
    obtain rfl := Option.some.inj H
    go_wp2
    repeat (go_quiet (fail); try go_wp2)
    go_ret
    exact ⟨r2_, by repeat (first | (with_reducible first | exact HB.out | apply below_alloc | apply pw_below_drewN | apply below_drew1 | refine below_set ?_ GE484.out) | exact HB.out)⟩

/-! ### slices_Contains_Cell: function 67 -/
def slices_Contains_Cell.f (k : Nat) (l0 : List (S39)) (a1_0 : Int) (a1_1 : Int) : Option (Bool) := (slices_Index_Cell.f k l0 a1_0 a1_1).bind fun t487 => (some (decide (t487 ≥ 0)))
theorem slices_Contains_Cell.mono : ∀ a0 a1 a2 k, LeO (slices_Contains_Cell.f k a0 a1 a2) (slices_Contains_Cell.f (k + 1) a0 a1 a2) := by
 intro a0 a1 a2 k
 unfold slices_Contains_Cell.f
 repeat' first
   | (with_reducible exact slices_Index_Cell.mono _ _ _ _)
   | (with_reducible exact LeO.refl _)
   | (with_reducible exact LeO.none _)
   | (with_reducible refine LeO.ite ?_ ?_)
   | (with_reducible refine LeO.bind ?_ (fun _ => ?_))
   | exact slices_Index_Cell.mono _ _ _ _
   | exact LeO.none _
   | refine LeO.ite ?_ ?_
   | refine LeO.bind ?_ (fun _ => ?_)
set_option maxHeartbeats 8000000 in
set_option maxRecDepth 100000 in
theorem slices_Contains_Cell.calls (k : Nat) (A0 : Option Addr) (c0 : Nat) (l0 : List (S39)) (a1_0 : Int) (a1_1 : Int) (r : Bool) (w : World) (hr0 : Kd.C k39 w A0 l0.length l0) (hc0 : l0.length ≤ c0) (h : slices_Contains_Cell.f k l0 a1_0 a1_1 = some r) :
  Calls Tryz.prog 67 #[.slice A0 l0.length c0, .agg #[.int .i64 a1_0, .int .i64 a1_1]] w fun e w' => e = .returned (.bool r) ∧ Below w.heap.size w w' := by
 have hu39 := Tryz.underlying39
 have HR0 := Aside0.mk hr0
 have HC0 := Aside0.mk hc0
 clear hr0 hc0
 have HB := Aside0.mk (Below.refl w.heap.size w)
 have H : ((slices_Index_Cell.f k l0 a1_0 a1_1).bind fun t487 => (some (decide (t487 ≥ 0)))) = some r := h
 clear h
 replace H := Option.bind_eq_some_iff.mp H
 obtain ⟨t487, A30, H⟩ := H
 try dsimp only at H
 have A3 := Aside0.mk A30
 clear A30
 obtain rfl := Option.some.inj H
 go_enter Tryz.func67, Tryz.ntmps67
 go_wp2_with (first | ((with_reducible refine gate_dst (N := 3) rfl ?_); refine box_event ?hg (N := 3) ?hd (cs := #[.int .i64 a1_0, .int .i64 a1_1]) (t := 39) ?hr ?_; (case hd => rfl); (case hg => rfl); (case hr => first | (go_simp; done) | (go_simp; rfl)); intro gb486 hg w4 hbox hb; have BK486 := Aside0.mk (hbox); have GW486 := Aside0.mk ((by rw [hg]; exact (below_size bB_) : w.heap.size ≤ gb486)); have GE486 := Aside0.mk ((by rw [hg]; exact (below_size bB_) : w.heap.size ≤ gb486)); replace HB := Aside0.mk (below_step bB_ hb); clear hb hbox hg; have hcz5_0 : w4.cell? ⟨gb486, 0, none⟩ = some (.int .i64 a1_0) := (blk_cell BK486.out 0).trans rfl; have hcz5_1 : w4.cell? ⟨gb486, 1, none⟩ = some (.int .i64 a1_1) := (blk_cell BK486.out 1).trans rfl; have hfz5_0 := blk_frozen BK486.out 0; have hfz5_1 := blk_frozen BK486.out 1) | ((with_reducible refine gate_callee (f := 84) rfl ?_); refine gL_ (some 7) Tryz.func84 #[.slice A0 l0.length c0, .agg #[.int .i64 a1_0, .int .i64 a1_1]] ?_; (with_reducible refine (slices_Index_Cell.calls k _ _ l0 a1_0 a1_1 t487 _ ?side1 ?side2 A3.out).mono ?_); (case side1 => exact cS_ (Kd.C_below HR0.out HB.out)); (case side2 => exact HC0.out); rintro e w6 ⟨rfl, hb⟩; refine ⟨_, rfl, ?_⟩; replace BK486 := Aside0.mk (blk_below (g := gb486) (o := .cells #[.int .i64 a1_0, .int .i64 a1_1] 39 (0, 0)) (by (with_reducible repeat (first | refine blk_drewN ?_ _ | refine blk_drew ?_ | refine blk_alloc ?_ _)); exact BK486.out) hb); replace HB := Aside0.mk (below_step (by repeat (first | (with_reducible first | exact HB.out | apply below_alloc | apply pw_below_drewN | apply below_drew1 | refine below_set ?_ GE486.out) | exact HB.out)) hb); (try clear hb)))
 go_ret
 exact ⟨r2_, by repeat (first | (with_reducible first | exact HB.out | apply below_alloc | apply pw_below_drewN | apply below_drew1 | refine below_set ?_ GE486.out) | exact HB.out)⟩

/-! ### impl_beside: function 55 -/
mutual
def impl_beside.l0 : Nat → List (S39) → List (S39) → List (S39) → Int → Int → Option ((List (S39)))
 | 0, _, _, _, _, _ => none
 | k + 1, x0, x5, x11, x12, x13 => if x13 < x12 then (if 0 ≤ x13 then (if x13 < (x11.length : Int) then ((impl_around.f ((rd_T39 x11 x13).f0) ((rd_T39 x11 x13).f1)).bind fun t612 => (impl_beside.l1 k x0 x5 x11 x12 x13 t612 (t612.length : Int) 0)) else (none)) else (none)) else ((slices_SortFunc_Cell.f x5).bind fun t606 => ((slices_Compact_Cell.f t606).bind fun t607 => (some t607)))
def impl_beside.l1 : Nat → List (S39) → List (S39) → List (S39) → Int → Int → List (S39) → Int → Int → Option ((List (S39)))
 | 0, _, _, _, _, _, _, _, _ => none
 | k + 1, x0, x5, x11, x12, x13, x19, x20, x21 => if x21 < x20 then (if 0 ≤ x21 then (if x21 < (x19.length : Int) then ((slices_Contains_Cell.f k x0 ((rd_T39 x19 x21).f0) ((rd_T39 x19 x21).f1)).bind fun t617 => (if t617 = true then (impl_beside.l1 k x0 x5 x11 x12 x13 x19 x20 (wrap64 (x21 + 1))) else (if x5.length < 8796093022208 then (impl_beside.l1 k x0 (x5 ++ [(⟨(rd_T39 x19 x21).f0, (rd_T39 x19 x21).f1⟩ : S39)]) x11 x12 x13 x19 x20 (wrap64 (x21 + 1))) else (none)))) else (none)) else (none)) else (impl_beside.l0 k x0 x5 x11 x12 (wrap64 (x13 + 1)))
end
def impl_beside.f (k : Nat) (l0 : List (S39))  : Option ((List (S39))) := impl_beside.l0 k l0 (([] : List (S39))) l0 (l0.length : Int) 0
theorem impl_beside.mono_l : ∀ k, (∀ y0 y1 y2 y3 y4, LeO (impl_beside.l0 k y0 y1 y2 y3 y4) (impl_beside.l0 (k + 1) y0 y1 y2 y3 y4)) ∧ (∀ y0 y1 y2 y3 y4 y5 y6 y7, LeO (impl_beside.l1 k y0 y1 y2 y3 y4 y5 y6 y7) (impl_beside.l1 (k + 1) y0 y1 y2 y3 y4 y5 y6 y7))
 | 0 => ⟨fun _ _ _ _ _ r h => by simp [impl_beside.l0] at h, fun _ _ _ _ _ _ _ _ r h => by simp [impl_beside.l1] at h⟩
 | k + 1 => by
  obtain ⟨ih0, ih1⟩ := impl_beside.mono_l k
  refine ⟨?_, ?_⟩
  ·intro y0 y1 y2 y3 y4
   unfold impl_beside.l0
   repeat' first
   | (with_reducible exact ih0 _ _ _ _ _)
   | (with_reducible exact ih1 _ _ _ _ _ _ _ _)
   | (with_reducible exact slices_Contains_Cell.mono _ _ _ _)
   | (with_reducible exact LeO.refl _)
   | (with_reducible exact LeO.none _)
   | (with_reducible refine LeO.ite ?_ ?_)
   | (with_reducible refine LeO.bind ?_ (fun _ => ?_))
   | exact ih0 _ _ _ _ _
   | exact ih1 _ _ _ _ _ _ _ _
   | exact slices_Contains_Cell.mono _ _ _ _
   | exact LeO.none _
   | refine LeO.ite ?_ ?_
   | refine LeO.bind ?_ (fun _ => ?_)
  ·intro y0 y1 y2 y3 y4 y5 y6 y7
   unfold impl_beside.l1
   repeat' first
   | (with_reducible exact ih0 _ _ _ _ _)
   | (with_reducible exact ih1 _ _ _ _ _ _ _ _)
   | (with_reducible exact slices_Contains_Cell.mono _ _ _ _)
   | (with_reducible exact LeO.refl _)
   | (with_reducible exact LeO.none _)
   | (with_reducible refine LeO.ite ?_ ?_)
   | (with_reducible refine LeO.bind ?_ (fun _ => ?_))
   | exact ih0 _ _ _ _ _
   | exact ih1 _ _ _ _ _ _ _ _
   | exact slices_Contains_Cell.mono _ _ _ _
   | exact LeO.none _
   | refine LeO.ite ?_ ?_
   | refine LeO.bind ?_ (fun _ => ?_)
theorem impl_beside.mono : ∀ a0 k, LeO (impl_beside.f k a0) (impl_beside.f (k + 1) a0) := by
 intro a0 k
 obtain ⟨ih0, ih1⟩ := impl_beside.mono_l k
 unfold impl_beside.f
 repeat' first
   | (with_reducible exact ih0 _ _ _ _ _)
   | (with_reducible exact ih1 _ _ _ _ _ _ _ _)
   | (with_reducible exact slices_Contains_Cell.mono _ _ _ _)
   | (with_reducible exact LeO.refl _)
   | (with_reducible exact LeO.none _)
   | (with_reducible refine LeO.ite ?_ ?_)
   | (with_reducible refine LeO.bind ?_ (fun _ => ?_))
   | exact ih0 _ _ _ _ _
   | exact ih1 _ _ _ _ _ _ _ _
   | exact slices_Contains_Cell.mono _ _ _ _
   | exact LeO.none _
   | refine LeO.ite ?_ ?_
   | refine LeO.bind ?_ (fun _ => ?_)
set_option maxHeartbeats 8000000 in
set_option maxRecDepth 100000 in
theorem impl_beside.calls (k : Nat) (A0 : Option Addr) (c0 : Nat) (l0 : List (S39))  (r : List (S39)) (w : World) (hr0 : Kd.C k39 w A0 l0.length l0) (hc0 : l0.length ≤ c0) (h : impl_beside.f k l0 = some r) :
  Calls Tryz.prog 55 #[.slice A0 l0.length c0, .func (.func 20) #[] #[]] w fun e w' => ∃ v0_ : Value, e = .returned (v0_) ∧ Kd.R k39 39 w' w.heap.size (fun _ => True) v0_ r ∧ Below w.heap.size w w' := by
 have hu39 := Tryz.underlying39
 have HR0 := Aside0.mk hr0
 have HC0 := Aside0.mk hc0
 clear hr0 hc0
 have HB := Aside0.mk (Below.refl w.heap.size w)
 have H : (impl_beside.l0 k l0 (([] : List (S39))) l0 (l0.length : Int) 0) = some r := h
 clear h
 obtain ⟨y603, hY_⟩ : ∃ y_ : List (S39), y_ = (([] : List (S39))) := ⟨_, rfl⟩
 replace H : (impl_beside.l0 k l0 y603 l0 (l0.length : Int) 0) = some r := yY_
 have Ny603 := Aside0.mk hY_
 clear hY_
 have H' := Aside0.mk H
 clear H
 go_enter Tryz.func55, Tryz.ntmps55
 go_wp2_with (first | ((with_reducible refine gate_dst (N := 10) rfl ?_); refine Kd.R_lit k39 _ 39 ?hg (N := 10) ?hd (xs := ([] : List (S39))) (inner := []) (ok := fun _ => True) (okp := fun _ => True) ?hr ?hp (fun _ hk => hk) trivial (Below.refl _ _) (Nat.le_refl _) (by simp) ?_; (case hd => rfl); (case hg => rfl); (case hr => first | (go_simp; done) | (go_simp; rfl)); (case hp => exact (Reps.none _ _)); intro v604 w3 ho4 hb hg_ hnew_; clear hg_ hnew_; (first | rw [← Ny603.out] at ho4 | (simp only [Int.reduceToNat] at ho4; rw [← Ny603.out] at ho4)); have HO605 := Aside0.mk (Kd.R_lower ho4 (below_size bB_)); replace HB := Aside0.mk (below_step bB_ hb); clear hb ho4))
 go_loopg [5, 13] k (fun kq v5 v13 w' => ∃ (x5_1 : List (S39)) (x13_1 : Int), v13 = .int .i64 x13_1 ∧ Aside0 (impl_beside.l0 kq l0 x5_1 l0 (l0.length : Int) x13_1 = some r) ∧ Aside0 (kq ≤ k) ∧ Aside0 (Kd.R k39 39 w' w.heap.size (fun _ => True) v5 x5_1) ∧ Aside0 (Below w.heap.size w w'))
 case atStart => exact ⟨(y603), (0), r3_, H', ⟨Nat.le_refl _⟩, ⟨rS_ HO605.out⟩, ⟨bB_⟩⟩
 case round =>
  clear H'
  try clear p2
  obtain ⟨x5_1, x13_1, rfl, HA, HK1, HO_5, HB⟩ := hrel
  cases gk with
  | zero => exact absurd HA.out (by simp [impl_beside.l0])
  | succ k1 =>
   have H := HA.out
   clear HA
   simp only [impl_beside.l0] at H
   by_cases c5 : x13_1 < (l0.length : Int)
   ·rw [if_pos c5] at H
    have c5b0 : decide (x13_1 < (l0.length : Int)) = true := decide_eq_true c5
    clear c5
    by_cases c6 : 0 ≤ x13_1
    ·rw [if_pos c6] at H
     have c6b0 : decide (0 ≤ x13_1) = true := decide_eq_true c6
     clear c6
     by_cases c7 : x13_1 < (l0.length : Int)
     ·rw [if_pos c7] at H
      have c7b0 : decide (x13_1 < (l0.length : Int)) = true := decide_eq_true c7
      clear c7
      replace H := Option.bind_eq_some_iff.mp H
      obtain ⟨t612, A80, H⟩ := H
      try dsimp only at H
      have A8 := Aside0.mk A80
      clear A80
      have H' := Aside0.mk H
      clear H
      have p610 : 0 ≤ (x13_1 : Int) := of_decide_eq_true aS_
      have q610 : x13_1 < (l0.length : Int) := of_decide_eq_true aS_
      obtain ⟨ad610, e610, hx610_0, hx610_1⟩ := at_T39 HR0.out x13_1 p610 q610
      cases e610
      replace hx610_0 := (HB.out.cell (World.block_lt_of_cell? w _ hx610_0)).trans hx610_0
      replace hx610_1 := (HB.out.cell (World.block_lt_of_cell? w _ hx610_1)).trans hx610_1
      replace p610 := eq_true p610
      replace q610 := eq_true q610
      go_wp2_with (first | ((with_reducible refine gate_dst (N := 7) rfl ?_); refine box_event ?hg (N := 7) ?hd (cs := #[.int .i64 0, .int .i64 0]) (t := 39) ?hr ?_; (case hd => rfl); (case hg => rfl); (case hr => first | (go_simp; done) | (go_simp; rfl)); intro gb611 hg w9 hbox hb; replace HO_5 := Aside0.mk (Kd.R_below (Kd.R_elderB (rS_ HO_5.out) gb611 (Nat.le_of_eq hg.symm)) hb); have BK611 := Aside0.mk (hbox); have GW611 := Aside0.mk ((by rw [hg]; exact (below_size bB_) : w.heap.size ≤ gb611)); have GE611 := Aside0.mk ((by rw [hg]; exact (below_size bB_) : w.heap.size ≤ gb611)); replace HB := Aside0.mk (below_step bB_ hb); clear hb hbox hg; have hcz10_0 : w9.cell? ⟨gb611, 0, none⟩ = some (.int .i64 0) := (blk_cell BK611.out 0).trans rfl; have hcz10_1 : w9.cell? ⟨gb611, 1, none⟩ = some (.int .i64 0) := (blk_cell BK611.out 1).trans rfl; have hfz10_0 := blk_frozen BK611.out 0; have hfz10_1 := blk_frozen BK611.out 1) | (go_at_call 20; (with_reducible refine (impl_around.calls ((rd_T39 l0 x13_1).f0) ((rd_T39 l0 x13_1).f1) t612 _ A8.out).mono ?_); rintro e w11 ⟨v613, rfl, ho0, hb⟩; have HO614 := Aside0.mk (Kd.R_lower (Kd.R_newB (Kd.R_new' ho0 (Kd.R_lt (rS_ (Kd.R_mono (Kd.R_far (p := ⟨gb611, 1, none⟩) (Kd.R_far (p := ⟨gb611, 0, none⟩) (Kd.R_mono HO_5.out (fun k_ hk => (⟨hk, hk.2⟩ : _ ∧ k_ ≠ gb611))) (fun _ hk => hk.2) (.int .i64 ((rd_T39 l0 x13_1).f0))) (fun _ hk => hk.2) (.int .i64 ((rd_T39 l0 x13_1).f1))) (fun _ h_ => h_.1))))) (g := gb611) (o := .cells #[.int .i64 ((rd_T39 l0 x13_1).f0), .int .i64 ((rd_T39 l0 x13_1).f1)] 39 (0, 0)) (by (with_reducible repeat (first | refine blk_drewN ?_ _ | refine blk_drew ?_ | refine blk_alloc ?_ _)); refine blk_put (cs := #[.int .i64 ((rd_T39 l0 x13_1).f0), .int .i64 0]) ?_ 1 _ rfl; (with_reducible repeat (first | refine blk_drewN ?_ _ | refine blk_drew ?_ | refine blk_alloc ?_ _)); refine blk_put (cs := #[.int .i64 0, .int .i64 0]) ?_ 0 _ rfl; (with_reducible repeat (first | refine blk_drewN ?_ _ | refine blk_drew ?_ | refine blk_alloc ?_ _)); exact BK611.out)) (below_size (by repeat (first | (with_reducible first | exact HB.out | apply below_alloc | apply pw_below_drewN | apply below_drew1 | refine below_set ?_ GE611.out) | exact HB.out)))); replace HO_5 := Aside0.mk (Kd.R_elder' (rS_ (Kd.R_mono (Kd.R_far (p := ⟨gb611, 1, none⟩) (Kd.R_far (p := ⟨gb611, 0, none⟩) (Kd.R_mono HO_5.out (fun k_ hk => (⟨hk, hk.2⟩ : _ ∧ k_ ≠ gb611))) (fun _ hk => hk.2) (.int .i64 ((rd_T39 l0 x13_1).f0))) (fun _ hk => hk.2) (.int .i64 ((rd_T39 l0 x13_1).f1))) (fun _ h_ => h_.1))) (Kd.R_base ho0) hb); replace BK611 := Aside0.mk (blk_below (g := gb611) (o := .cells #[.int .i64 ((rd_T39 l0 x13_1).f0), .int .i64 ((rd_T39 l0 x13_1).f1)] 39 (0, 0)) (by (with_reducible repeat (first | refine blk_drewN ?_ _ | refine blk_drew ?_ | refine blk_alloc ?_ _)); refine blk_put (cs := #[.int .i64 ((rd_T39 l0 x13_1).f0), .int .i64 0]) ?_ 1 _ rfl; (with_reducible repeat (first | refine blk_drewN ?_ _ | refine blk_drew ?_ | refine blk_alloc ?_ _)); refine blk_put (cs := #[.int .i64 0, .int .i64 0]) ?_ 0 _ rfl; (with_reducible repeat (first | refine blk_drewN ?_ _ | refine blk_drew ?_ | refine blk_alloc ?_ _)); exact BK611.out) hb); replace HB := Aside0.mk (below_step (by repeat (first | (with_reducible first | exact HB.out | apply below_alloc | apply pw_below_drewN | apply below_drew1 | refine below_set ?_ GE611.out) | exact HB.out)) hb); (try clear hb ho0); obtain ⟨Ao12, co12, eo12⟩ := Kd.R_slice HO614.out; subst eo12))
      go_loopg [5, 21] k1 (fun kq v5 v21 w' => ∃ (x5_2 : List (S39)) (x21_2 : Int), v21 = .int .i64 x21_2 ∧ Aside0 (impl_beside.l1 kq l0 x5_2 l0 (l0.length : Int) x13_1 t612 (t612.length : Int) x21_2 = some r) ∧ Aside0 (kq ≤ k1) ∧ Aside0 (Kd.R k39 39 w' w.heap.size (fun k_ => some k_ ≠ ((.slice Ao12 t612.length co12) : Value).ownBlock ∧ k_ ≠ gb611) v5 x5_2) ∧ Aside0 (Kd.R k39 39 w' w.heap.size (fun k_ => some k_ ≠ (v5 : Value).ownBlock ∧ k_ ≠ gb611) (.slice Ao12 t612.length co12) t612) ∧ Aside0 (w'.heap[gb611]? = some (.cells #[.int .i64 ((rd_T39 l0 x13_1).f0), .int .i64 ((rd_T39 l0 x13_1).f1)] 39 (0, 0))) ∧ Aside0 (Below w.heap.size w w'))
      case atStart => exact ⟨(x5_1), (0), r3_, H', ⟨Nat.le_refl _⟩, ⟨rS_ (Kd.R_mono HO_5.out (fun _ hk => ⟨hk.2, hk.1.2⟩))⟩, ⟨rS_ (Kd.R_mono HO614.out (fun _ hk => ⟨hk.1.2, hk.2⟩))⟩, ⟨by (with_reducible repeat (first | refine blk_drewN ?_ _ | refine blk_drew ?_ | refine blk_alloc ?_ _)); exact BK611.out⟩, ⟨by repeat (first | (with_reducible first | exact HB.out | apply below_alloc | apply pw_below_drewN | apply below_drew1 | refine below_set ?_ GE611.out) | exact HB.out)⟩⟩
      case round =>
       clear H'
       try clear p2
       try clear c5
       try clear c5b0
       try clear c6
       try clear c6b0
       try clear p6
       try clear q6
       try clear hx6
       try clear c7
       try clear c7b0
       try clear hcz10_0
       try clear hcz10_1
       try clear hfz10_0
       try clear hfz10_1
       try clear hx610_0
       try clear hx610_1
       try clear p2
       try clear p610
       try clear q610
       obtain ⟨x5_2, x21_2, rfl, HA, HK2, HO_5, HO_19, BK611, HB⟩ := hrel
       cases gk with
       | zero => exact absurd HA.out (by simp [impl_beside.l1])
       | succ k2 =>
        have H := HA.out
        clear HA
        simp only [impl_beside.l1] at H
        by_cases c13 : x21_2 < (t612.length : Int)
        ·rw [if_pos c13] at H
         have c13b0 : decide (x21_2 < (t612.length : Int)) = true := decide_eq_true c13
         clear c13
         by_cases c14 : 0 ≤ x21_2
         ·rw [if_pos c14] at H
          have c14b0 : decide (0 ≤ x21_2) = true := decide_eq_true c14
          clear c14
          by_cases c15 : x21_2 < (t612.length : Int)
          ·rw [if_pos c15] at H
           have c15b0 : decide (x21_2 < (t612.length : Int)) = true := decide_eq_true c15
           clear c15
           replace H := Option.bind_eq_some_iff.mp H
           obtain ⟨t617, A160, H⟩ := H
           try dsimp only at H
           have A16 := Aside0.mk A160
           clear A160
           by_cases c17 : t617 = true
           ·subst c17
            have H1 : (impl_beside.l1 k2 l0 x5_2 l0 (l0.length : Int) x13_1 t612 (t612.length : Int) (wrap64 (x21_2 + 1))) = some r := by rw [if_pos rfl] at H; exact H
            clear H
            have H := H1
            clear H1
            have H' := Aside0.mk H
            clear H
            have p615 : 0 ≤ (x21_2 : Int) := of_decide_eq_true aS_
            have q615 : x21_2 < (t612.length : Int) := of_decide_eq_true aS_
            obtain ⟨ad615, e615, hx615_0, hx615_1⟩ := at_T39 (Kd.R_reads' HO_19.out).2.2 x21_2 p615 q615
            cases e615
            replace p615 := eq_true p615
            replace q615 := eq_true q615
            go_wp2_with (first | ((with_reducible refine gate_dst (N := 9) rfl ?_); refine box_event ?hg (N := 9) ?hd (cs := #[.int .i64 0, .int .i64 0]) (t := 39) ?hr ?_; (case hd => rfl); (case hg => rfl); (case hr => first | (go_simp; done) | (go_simp; rfl)); intro gb616 hg w18 hbox hb; replace HO_5 := Aside0.mk (Kd.R_below (Kd.R_elderB (rS_ HO_5.out) gb616 (Nat.le_of_eq hg.symm)) hb); replace HO_19 := Aside0.mk (Kd.R_below (Kd.R_elderB (rS_ HO_19.out) gb616 (Nat.le_of_eq hg.symm)) hb); have BK616 := Aside0.mk (hbox); have GW616 := Aside0.mk ((by rw [hg]; exact (below_size (by repeat (first | (with_reducible first | exact HB.out | apply below_alloc | apply pw_below_drewN | apply below_drew1 | refine below_set ?_ GE611.out) | exact HB.out))) : w.heap.size ≤ gb616)); have GE616 := Aside0.mk ((by rw [hg]; exact (below_size (by repeat (first | (with_reducible first | exact HB.out | apply below_alloc | apply pw_below_drewN | apply below_drew1 | refine below_set ?_ GE611.out) | exact HB.out))) : w.heap.size ≤ gb616)); replace HB := Aside0.mk (below_step (by repeat (first | (with_reducible first | exact HB.out | apply below_alloc | apply pw_below_drewN | apply below_drew1 | refine below_set ?_ GE611.out) | exact HB.out)) hb); have NB611_616 := Aside0.mk ((by rw [hg]; exact Nat.ne_of_lt (blk_lt (g := gb611) (o := .cells #[.int .i64 ((rd_T39 l0 x13_1).f0), .int .i64 ((rd_T39 l0 x13_1).f1)] 39 (0, 0)) (by (with_reducible repeat (first | refine blk_drewN ?_ _ | refine blk_drew ?_ | refine blk_alloc ?_ _)); exact BK611.out)) : gb611 ≠ gb616)); have NB616_611 := Aside0.mk ((by rw [hg]; exact Nat.ne_of_gt (blk_lt (g := gb611) (o := .cells #[.int .i64 ((rd_T39 l0 x13_1).f0), .int .i64 ((rd_T39 l0 x13_1).f1)] 39 (0, 0)) (by (with_reducible repeat (first | refine blk_drewN ?_ _ | refine blk_drew ?_ | refine blk_alloc ?_ _)); exact BK611.out)) : gb616 ≠ gb611)); replace BK611 := Aside0.mk (blk_below (g := gb611) (o := .cells #[.int .i64 ((rd_T39 l0 x13_1).f0), .int .i64 ((rd_T39 l0 x13_1).f1)] 39 (0, 0)) (by (with_reducible repeat (first | refine blk_drewN ?_ _ | refine blk_drew ?_ | refine blk_alloc ?_ _)); exact BK611.out) hb); clear hb hbox hg; have hnb19 := NB616_611.out; have hnc19 := NB611_616.out; have hcz20_0 : w18.cell? ⟨gb616, 0, none⟩ = some (.int .i64 0) := (blk_cell BK616.out 0).trans rfl; have hcz20_1 : w18.cell? ⟨gb616, 1, none⟩ = some (.int .i64 0) := (blk_cell BK616.out 1).trans rfl; have hfz20_0 := blk_frozen BK616.out 0; have hfz20_1 := blk_frozen BK616.out 1) | ((with_reducible refine gate_callee (f := 67) rfl ?_); refine gL_ (some 27) Tryz.func67 #[.slice (some ad610) l0.length c0, .agg #[.int .i64 ((rd_T39 t612 x21_2).f0), .int .i64 ((rd_T39 t612 x21_2).f1)]] ?_; (with_reducible refine (slices_Contains_Cell.calls k2 _ _ l0 ((rd_T39 t612 x21_2).f0) ((rd_T39 t612 x21_2).f1) true _ ?side1 ?side2 A16.out).mono ?_); (case side1 => exact Kd.C_below HR0.out (by repeat (first | (with_reducible first | exact HB.out | apply below_alloc | apply pw_below_drewN | apply below_drew1 | refine below_set ?_ GE611.out | refine below_set ?_ GE616.out) | exact HB.out))); (case side2 => exact HC0.out); rintro e w21 ⟨rfl, hb⟩; refine ⟨_, rfl, ?_⟩; replace HO_5 := Aside0.mk (Kd.R_below (rS_ (Kd.R_mono (Kd.R_far (p := ⟨gb616, 1, none⟩) (Kd.R_far (p := ⟨gb616, 0, none⟩) (Kd.R_mono HO_5.out (fun k_ hk => (⟨hk, hk.2⟩ : _ ∧ k_ ≠ gb616))) (fun _ hk => hk.2) (.int .i64 ((rd_T39 t612 x21_2).f0))) (fun _ hk => hk.2) (.int .i64 ((rd_T39 t612 x21_2).f1))) (fun _ h_ => h_.1))) hb); replace HO_19 := Aside0.mk (Kd.R_below (rS_ (Kd.R_mono (Kd.R_far (p := ⟨gb616, 1, none⟩) (Kd.R_far (p := ⟨gb616, 0, none⟩) (Kd.R_mono HO_19.out (fun k_ hk => (⟨hk, hk.2⟩ : _ ∧ k_ ≠ gb616))) (fun _ hk => hk.2) (.int .i64 ((rd_T39 t612 x21_2).f0))) (fun _ hk => hk.2) (.int .i64 ((rd_T39 t612 x21_2).f1))) (fun _ h_ => h_.1))) hb); replace BK611 := Aside0.mk (blk_below (g := gb611) (o := .cells #[.int .i64 ((rd_T39 l0 x13_1).f0), .int .i64 ((rd_T39 l0 x13_1).f1)] 39 (0, 0)) (by (with_reducible repeat (first | refine blk_drewN ?_ _ | refine blk_drew ?_ | refine blk_alloc ?_ _)); refine blk_far ?_ NB611_616.out _; (with_reducible repeat (first | refine blk_drewN ?_ _ | refine blk_drew ?_ | refine blk_alloc ?_ _)); refine blk_far ?_ NB611_616.out _; (with_reducible repeat (first | refine blk_drewN ?_ _ | refine blk_drew ?_ | refine blk_alloc ?_ _)); exact BK611.out) hb); replace BK616 := Aside0.mk (blk_below (g := gb616) (o := .cells #[.int .i64 ((rd_T39 t612 x21_2).f0), .int .i64 ((rd_T39 t612 x21_2).f1)] 39 (0, 0)) (by (with_reducible repeat (first | refine blk_drewN ?_ _ | refine blk_drew ?_ | refine blk_alloc ?_ _)); refine blk_put (cs := #[.int .i64 ((rd_T39 t612 x21_2).f0), .int .i64 0]) ?_ 1 _ rfl; (with_reducible repeat (first | refine blk_drewN ?_ _ | refine blk_drew ?_ | refine blk_alloc ?_ _)); refine blk_put (cs := #[.int .i64 0, .int .i64 0]) ?_ 0 _ rfl; (with_reducible repeat (first | refine blk_drewN ?_ _ | refine blk_drew ?_ | refine blk_alloc ?_ _)); exact BK616.out) hb); replace HB := Aside0.mk (below_step (by repeat (first | (with_reducible first | exact HB.out | apply below_alloc | apply pw_below_drewN | apply below_drew1 | refine below_set ?_ GE611.out | refine below_set ?_ GE616.out) | exact HB.out)) hb); (try clear hb)))
            go_roundg k2
            case measure => have := HK1.out; have := HK2.out; omega
            case rel => exact ⟨(x5_2), (wrap64 (x21_2 + 1)), r3_, H', ⟨by have := HK1.out; have := HK2.out; omega⟩, ⟨rS_ (Kd.R_mono HO_5.out (fun _ hk => ⟨hk.1.1, hk.1.2⟩))⟩, ⟨rS_ (Kd.R_mono HO_19.out (fun _ hk => ⟨hk.1.1, hk.1.2⟩))⟩, ⟨by (with_reducible repeat (first | refine blk_drewN ?_ _ | refine blk_drew ?_ | refine blk_alloc ?_ _)); exact BK611.out⟩, ⟨by repeat (first | (with_reducible first | exact HB.out | apply below_alloc | apply pw_below_drewN | apply below_drew1 | refine below_set ?_ GE611.out | refine below_set ?_ GE616.out) | exact HB.out)⟩⟩
           ·replace c17 := Bool.eq_false_iff.mpr c17
            subst c17
            have H1 : (if x5_2.length < 8796093022208 then (impl_beside.l1 k2 l0 (x5_2 ++ [(⟨(rd_T39 t612 x21_2).f0, (rd_T39 t612 x21_2).f1⟩ : S39)]) l0 (l0.length : Int) x13_1 t612 (t612.length : Int) (wrap64 (x21_2 + 1))) else (none)) = some r := by rw [if_neg (show ¬ (false = true) by decide)] at H; exact H
            clear H
            have H := H1
            clear H1
            by_cases c22 : x5_2.length < 8796093022208
            ·rw [if_pos c22] at H
             have LMc22 := Aside0.mk c22
             clear c22
             obtain ⟨y618, hY_⟩ : ∃ y_ : List (S39), y_ = (x5_2 ++ [(⟨(rd_T39 t612 x21_2).f0, (rd_T39 t612 x21_2).f1⟩ : S39)]) := ⟨_, rfl⟩
             replace H : (impl_beside.l1 k2 l0 y618 l0 (l0.length : Int) x13_1 t612 (t612.length : Int) (wrap64 (x21_2 + 1))) = some r := yY_
             have Ny618 := Aside0.mk hY_
             clear hY_
             have H' := Aside0.mk H
             clear H
             have p615 : 0 ≤ (x21_2 : Int) := of_decide_eq_true aS_
             have q615 : x21_2 < (t612.length : Int) := of_decide_eq_true aS_
             obtain ⟨ad615, e615, hx615_0, hx615_1⟩ := at_T39 (Kd.R_reads' HO_19.out).2.2 x21_2 p615 q615
             cases e615
             replace p615 := eq_true p615
             replace q615 := eq_true q615
             go_wp2_with (first | ((with_reducible refine gate_dst (N := 9) rfl ?_); refine box_event ?hg (N := 9) ?hd (cs := #[.int .i64 0, .int .i64 0]) (t := 39) ?hr ?_; (case hd => rfl); (case hg => rfl); (case hr => first | (go_simp; done) | (go_simp; rfl)); intro gb616 hg w23 hbox hb; replace HO_5 := Aside0.mk (Kd.R_below (Kd.R_elderB (rS_ HO_5.out) gb616 (Nat.le_of_eq hg.symm)) hb); replace HO_19 := Aside0.mk (Kd.R_below (Kd.R_elderB (rS_ HO_19.out) gb616 (Nat.le_of_eq hg.symm)) hb); have BK616 := Aside0.mk (hbox); have GW616 := Aside0.mk ((by rw [hg]; exact (below_size (by repeat (first | (with_reducible first | exact HB.out | apply below_alloc | apply pw_below_drewN | apply below_drew1 | refine below_set ?_ GE611.out) | exact HB.out))) : w.heap.size ≤ gb616)); have GE616 := Aside0.mk ((by rw [hg]; exact (below_size (by repeat (first | (with_reducible first | exact HB.out | apply below_alloc | apply pw_below_drewN | apply below_drew1 | refine below_set ?_ GE611.out) | exact HB.out))) : w.heap.size ≤ gb616)); replace HB := Aside0.mk (below_step (by repeat (first | (with_reducible first | exact HB.out | apply below_alloc | apply pw_below_drewN | apply below_drew1 | refine below_set ?_ GE611.out) | exact HB.out)) hb); have NB611_616 := Aside0.mk ((by rw [hg]; exact Nat.ne_of_lt (blk_lt (g := gb611) (o := .cells #[.int .i64 ((rd_T39 l0 x13_1).f0), .int .i64 ((rd_T39 l0 x13_1).f1)] 39 (0, 0)) (by (with_reducible repeat (first | refine blk_drewN ?_ _ | refine blk_drew ?_ | refine blk_alloc ?_ _)); exact BK611.out)) : gb611 ≠ gb616)); have NB616_611 := Aside0.mk ((by rw [hg]; exact Nat.ne_of_gt (blk_lt (g := gb611) (o := .cells #[.int .i64 ((rd_T39 l0 x13_1).f0), .int .i64 ((rd_T39 l0 x13_1).f1)] 39 (0, 0)) (by (with_reducible repeat (first | refine blk_drewN ?_ _ | refine blk_drew ?_ | refine blk_alloc ?_ _)); exact BK611.out)) : gb616 ≠ gb611)); replace BK611 := Aside0.mk (blk_below (g := gb611) (o := .cells #[.int .i64 ((rd_T39 l0 x13_1).f0), .int .i64 ((rd_T39 l0 x13_1).f1)] 39 (0, 0)) (by (with_reducible repeat (first | refine blk_drewN ?_ _ | refine blk_drew ?_ | refine blk_alloc ?_ _)); exact BK611.out) hb); clear hb hbox hg; have hnb24 := NB616_611.out; have hnc24 := NB611_616.out; have hcz25_0 : w23.cell? ⟨gb616, 0, none⟩ = some (.int .i64 0) := (blk_cell BK616.out 0).trans rfl; have hcz25_1 : w23.cell? ⟨gb616, 1, none⟩ = some (.int .i64 0) := (blk_cell BK616.out 1).trans rfl; have hfz25_0 := blk_frozen BK616.out 0; have hfz25_1 := blk_frozen BK616.out 1) | ((with_reducible refine gate_callee (f := 67) rfl ?_); refine gL_ (some 27) Tryz.func67 #[.slice (some ad610) l0.length c0, .agg #[.int .i64 ((rd_T39 t612 x21_2).f0), .int .i64 ((rd_T39 t612 x21_2).f1)]] ?_; (with_reducible refine (slices_Contains_Cell.calls k2 _ _ l0 ((rd_T39 t612 x21_2).f0) ((rd_T39 t612 x21_2).f1) false _ ?side1 ?side2 A16.out).mono ?_); (case side1 => exact Kd.C_below HR0.out (by repeat (first | (with_reducible first | exact HB.out | apply below_alloc | apply pw_below_drewN | apply below_drew1 | refine below_set ?_ GE611.out | refine below_set ?_ GE616.out) | exact HB.out))); (case side2 => exact HC0.out); rintro e w26 ⟨rfl, hb⟩; refine ⟨_, rfl, ?_⟩; replace HO_5 := Aside0.mk (Kd.R_below (rS_ (Kd.R_mono (Kd.R_far (p := ⟨gb616, 1, none⟩) (Kd.R_far (p := ⟨gb616, 0, none⟩) (Kd.R_mono HO_5.out (fun k_ hk => (⟨hk, hk.2⟩ : _ ∧ k_ ≠ gb616))) (fun _ hk => hk.2) (.int .i64 ((rd_T39 t612 x21_2).f0))) (fun _ hk => hk.2) (.int .i64 ((rd_T39 t612 x21_2).f1))) (fun _ h_ => h_.1))) hb); replace HO_19 := Aside0.mk (Kd.R_below (rS_ (Kd.R_mono (Kd.R_far (p := ⟨gb616, 1, none⟩) (Kd.R_far (p := ⟨gb616, 0, none⟩) (Kd.R_mono HO_19.out (fun k_ hk => (⟨hk, hk.2⟩ : _ ∧ k_ ≠ gb616))) (fun _ hk => hk.2) (.int .i64 ((rd_T39 t612 x21_2).f0))) (fun _ hk => hk.2) (.int .i64 ((rd_T39 t612 x21_2).f1))) (fun _ h_ => h_.1))) hb); replace BK611 := Aside0.mk (blk_below (g := gb611) (o := .cells #[.int .i64 ((rd_T39 l0 x13_1).f0), .int .i64 ((rd_T39 l0 x13_1).f1)] 39 (0, 0)) (by (with_reducible repeat (first | refine blk_drewN ?_ _ | refine blk_drew ?_ | refine blk_alloc ?_ _)); refine blk_far ?_ NB611_616.out _; (with_reducible repeat (first | refine blk_drewN ?_ _ | refine blk_drew ?_ | refine blk_alloc ?_ _)); refine blk_far ?_ NB611_616.out _; (with_reducible repeat (first | refine blk_drewN ?_ _ | refine blk_drew ?_ | refine blk_alloc ?_ _)); exact BK611.out) hb); replace BK616 := Aside0.mk (blk_below (g := gb616) (o := .cells #[.int .i64 ((rd_T39 t612 x21_2).f0), .int .i64 ((rd_T39 t612 x21_2).f1)] 39 (0, 0)) (by (with_reducible repeat (first | refine blk_drewN ?_ _ | refine blk_drew ?_ | refine blk_alloc ?_ _)); refine blk_put (cs := #[.int .i64 ((rd_T39 t612 x21_2).f0), .int .i64 0]) ?_ 1 _ rfl; (with_reducible repeat (first | refine blk_drewN ?_ _ | refine blk_drew ?_ | refine blk_alloc ?_ _)); refine blk_put (cs := #[.int .i64 0, .int .i64 0]) ?_ 0 _ rfl; (with_reducible repeat (first | refine blk_drewN ?_ _ | refine blk_drew ?_ | refine blk_alloc ?_ _)); exact BK616.out) hb); replace HB := Aside0.mk (below_step (by repeat (first | (with_reducible first | exact HB.out | apply below_alloc | apply pw_below_drewN | apply below_drew1 | refine below_set ?_ GE611.out | refine below_set ?_ GE616.out) | exact HB.out)) hb); (try clear hb); have hcz27_0 : w26.cell? ⟨gb616, 0, none⟩ = some (.int .i64 ((rd_T39 t612 x21_2).f0)) := (blk_cell BK616.out 0).trans rfl; have hcz27_1 : w26.cell? ⟨gb616, 1, none⟩ = some (.int .i64 ((rd_T39 t612 x21_2).f1)) := (blk_cell BK616.out 1).trans rfl; have hfz27_0 := blk_frozen BK616.out 0; have hfz27_1 := blk_frozen BK616.out 1) | ((with_reducible refine gate_builtin (b := .append) (xs := #[.tmp 29, .tmp 31]) rfl ?_); at_builtin; refine Kd.R_append k39 (w0 := w) w.heap.size rfl (.tmp 29) (.tmp 31) 24 39 (.agg #[(.int .i64 0), (.int .i64 0)]) 16 rfl Tryz.underlying24 info39 rfl (by decide) (by omega) u5 x5_2 (⟨(rd_T39 t612 x21_2).f0, (rd_T39 t612 x21_2).f1⟩ : S39) [.int .i64 ((rd_T39 t612 x21_2).f0), .int .i64 ((rd_T39 t612 x21_2).f1)] (fun k_ => some k_ ≠ (.slice (some ad615) t612.length co12 : Value).ownBlock ∧ k_ ≠ gb611 ∧ k_ ≠ gb616) (fun _ => False) rfl rfl ?aP (fun _ hk => hk.elim) ?aF ?aO ?aB ?aS ?aL ?_; (case aP => exact k39_mkM _ _ _ (⟨(rd_T39 t612 x21_2).f0, (rd_T39 t612 x21_2).f1⟩ : S39)); (case aB => exact (by repeat (first | (with_reducible first | exact HB.out | apply below_alloc | apply pw_below_drewN | apply below_drew1 | refine below_set ?_ GE611.out | refine below_set ?_ GE616.out) | exact HB.out))); (case aF => exact (fun k_ hk => ⟨Kd.fresh' (Kd.R_lt (rS_ HO_19.out)) k_ hk, Kd.freshB (g := gb611) (o := .cells #[.int .i64 ((rd_T39 l0 x13_1).f0), .int .i64 ((rd_T39 l0 x13_1).f1)] 39 (0, 0)) (by (with_reducible repeat (first | refine blk_drewN ?_ _ | refine blk_drew ?_ | refine blk_alloc ?_ _)); exact BK611.out) k_ hk, Kd.freshB (g := gb616) (o := .cells #[.int .i64 ((rd_T39 t612 x21_2).f0), .int .i64 ((rd_T39 t612 x21_2).f1)] 39 (0, 0)) (by (with_reducible repeat (first | refine blk_drewN ?_ _ | refine blk_drew ?_ | refine blk_alloc ?_ _)); exact BK616.out) k_ hk⟩)); (case aO => exact (rS_ (Kd.R_mono HO_5.out (fun _ hk => ⟨hk.1.1, ⟨hk.1.2, hk.2⟩⟩)))); (case aS => exact (below_size (by repeat (first | (with_reducible first | exact HB.out | apply below_alloc | apply pw_below_drewN | apply below_drew1 | refine below_set ?_ GE611.out | refine below_set ?_ GE616.out) | exact HB.out)))); (case aL => have := LMc22.out; omega); intro v619 w28 ho hb hg hat; rw [← Ny618.out] at ho; replace HO_19 := Aside0.mk (Kd.R_after (ok := (fun k_ => k_ ≠ gb611 ∧ k_ ≠ gb616)) (rS_ (Kd.R_mono HO_19.out (fun _ hk => ⟨⟨hk.1.2, hk.2⟩, hk.1.1⟩))) hg hat); replace BK611 := Aside0.mk (blk_grown (g := gb611) (o := .cells #[.int .i64 ((rd_T39 l0 x13_1).f0), .int .i64 ((rd_T39 l0 x13_1).f1)] 39 (0, 0)) (by (with_reducible repeat (first | refine blk_drewN ?_ _ | refine blk_drew ?_ | refine blk_alloc ?_ _)); exact BK611.out) hg (Kd.R_away HO_5.out (fun _ hk => hk.1.2))); replace BK616 := Aside0.mk (blk_grown (g := gb616) (o := .cells #[.int .i64 ((rd_T39 t612 x21_2).f0), .int .i64 ((rd_T39 t612 x21_2).f1)] 39 (0, 0)) (by (with_reducible repeat (first | refine blk_drewN ?_ _ | refine blk_drew ?_ | refine blk_alloc ?_ _)); exact BK616.out) hg (Kd.R_away HO_5.out (fun _ hk => hk.2))); replace HB := Aside0.mk (hb); have HO620 := Aside0.mk (ho); clear HO_5; clear ho hb hg hat))
             go_roundg k2
             case measure => have := HK1.out; have := HK2.out; omega
             case rel => exact ⟨(y618), (wrap64 (x21_2 + 1)), r3_, H', ⟨by have := HK1.out; have := HK2.out; omega⟩, ⟨rS_ (Kd.R_mono HO620.out (fun _ hk => ⟨hk.1, hk.2.1⟩))⟩, ⟨rS_ (Kd.R_mono HO_19.out (fun _ hk => ⟨hk.2, hk.1.1⟩))⟩, ⟨by (with_reducible repeat (first | refine blk_drewN ?_ _ | refine blk_drew ?_ | refine blk_alloc ?_ _)); exact BK611.out⟩, ⟨by repeat (first | (with_reducible first | exact HB.out | apply below_alloc | apply pw_below_drewN | apply below_drew1 | refine below_set ?_ GE611.out | refine below_set ?_ GE616.out) | exact HB.out)⟩⟩
            ·rw [if_neg c22] at H
             exact absurd H (by simp)
          ·rw [if_neg c15] at H
           exact absurd H (by simp)
         ·rw [if_neg c14] at H
          exact absurd H (by simp)
        ·rw [if_neg c13] at H
         have c13b0 : decide (x21_2 < (t612.length : Int)) = false := decide_eq_false c13
         clear c13
         have H' := Aside0.mk H
         clear H
         go_wp2
         go_roundg k2
         case measure => have := HK1.out; have := HK2.out; omega
         case rel => exact ⟨(x5_2), (wrap64 (x13_1 + 1)), r3_, H', ⟨by have := HK1.out; have := HK2.out; omega⟩, ⟨rS_ (Kd.R_mono HO_5.out (fun _ hk => trivial))⟩, ⟨by repeat (first | (with_reducible first | exact HB.out | apply below_alloc | apply pw_below_drewN | apply below_drew1 | refine below_set ?_ GE611.out) | exact HB.out)⟩⟩
     ·rw [if_neg c7] at H
      exact absurd H (by simp)
    ·rw [if_neg c6] at H
     exact absurd H (by simp)
   ·rw [if_neg c5] at H
    have c5b0 : decide (x13_1 < (l0.length : Int)) = false := decide_eq_false c5
    clear c5
    replace H := Option.bind_eq_some_iff.mp H
    obtain ⟨t606, A290, H⟩ := H
    try dsimp only at H
    have A29 := Aside0.mk A290
    clear A290
    replace H := Option.bind_eq_some_iff.mp H
    obtain ⟨t607, A300, H⟩ := H
    try dsimp only at H
    have A30 := Aside0.mk A300
    clear A300
    obtain rfl := Option.some.inj H
    obtain ⟨Ao31, co31, eo31⟩ := Kd.R_slice HO_5.out
    subst eo31
    go_wp2_with (first | ((with_reducible refine gate_callee (f := 68) rfl ?_); refine gL_ (some 36) Tryz.func68 #[.slice Ao31 x5_1.length co31, .func (.func 60) #[] #[]] ?_; (with_reducible refine (slices_SortFunc_Cell.calls (fun k_ => some k_ = (.slice Ao31 x5_1.length co31 : Value).ownBlock) (.slice Ao31 x5_1.length co31) x5_1  t606 w _ ?side1 ?side2 A29.out).mono ?_); (case side1 => repeat (first | (with_reducible first | exact HB.out | apply below_alloc | apply pw_below_drewN | apply below_drew1) | exact HB.out)); (case side2 => exact Kd.R_tight rfl HO_5.out); rintro e w32 ⟨rfl, hy0, hb, hkp⟩; refine ⟨_, rfl, ?_⟩; replace HO_5 := Aside0.mk (Kd.R_reok rfl hy0 (fun k_ e_ => HO_5.out.1 k_ e_)); replace HB := Aside0.mk (hb); (try clear hb hkp hy0)) | ((with_reducible refine gate_callee (f := 69) rfl ?_); refine gL_ (some 38) Tryz.func69 #[.slice Ao31 x5_1.length co31] ?_; (with_reducible refine (slices_Compact_Cell.calls (fun k_ => some k_ = (.slice Ao31 x5_1.length co31 : Value).ownBlock) (.slice Ao31 x5_1.length co31) t606 t607 w _ ?side1 ?side2 A30.out).mono ?_); (case side1 => repeat (first | (with_reducible first | exact HB.out | apply below_alloc | apply pw_below_drewN | apply below_drew1) | exact HB.out)); (case side2 => exact Kd.R_tight rfl HO_5.out); rintro e w33 ⟨v608, rfl, ho0, hb, hkp⟩; refine ⟨_, rfl, ?_⟩; have HO609 := Aside0.mk (Kd.R_mono (ok' := fun k_ => True) ho0 (fun k_ hk_ => trivial)); replace HB := Aside0.mk (hb); clear HO_5; (try clear hb hkp ho0)))
    go_ret
    exact ⟨_, r2_, rS_ HO609.out, bB_⟩

/-! ### impl_sorted: function 56 -/
def impl_sorted.f (l0 : List (S39)) : Option ((List (S39))) := (slices_Clone_Cell.f l0).bind fun t621 => ((slices_SortFunc_Cell.f t621).bind fun t624 => (some t624))
set_option maxHeartbeats 8000000 in
set_option maxRecDepth 100000 in
theorem impl_sorted.calls (A0 : Option Addr) (c0 : Nat) (l0 : List (S39)) (r : List (S39)) (w : World) (hr0 : Kd.C k39 w A0 l0.length l0) (hc0 : l0.length ≤ c0) (h : impl_sorted.f l0 = some r) :
  Calls Tryz.prog 56 #[.slice A0 l0.length c0] w fun e w' => ∃ v0_ : Value, e = .returned (v0_) ∧ Kd.R k39 39 w' w.heap.size (fun _ => True) v0_ r ∧ Below w.heap.size w w' := by
 have HR0 := Aside0.mk hr0
 have HC0 := Aside0.mk hc0
 clear hr0 hc0
 have HB := Aside0.mk (Below.refl w.heap.size w)
 have H : ((slices_Clone_Cell.f l0).bind fun t621 => ((slices_SortFunc_Cell.f t621).bind fun t624 => (some t624))) = some r := h
 clear h
 replace H := Option.bind_eq_some_iff.mp H
 obtain ⟨t621, A20, H⟩ := H
 try dsimp only at H
 have A2 := Aside0.mk A20
 clear A20
 replace H := Option.bind_eq_some_iff.mp H
 obtain ⟨t624, A30, H⟩ := H
 try dsimp only at H
 have A3 := Aside0.mk A30
 clear A30
 obtain rfl := Option.some.inj H
 go_enter Tryz.func56, Tryz.ntmps56
 go_wp2_with (first | ((with_reducible refine gate_callee (f := 18) rfl ?_); refine gL_ (some 5) Tryz.func18 #[.slice A0 l0.length c0] ?_; (with_reducible refine (slices_Clone_Cell.calls _ _ l0 t621 _ ?side1 ?side2 A2.out).mono ?_); (case side1 => exact cS_ HR0.out); (case side2 => exact HC0.out); rintro e w4 ⟨v622, rfl, ho0, hb⟩; refine ⟨_, rfl, ?_⟩; have HO623 := Aside0.mk (Kd.R_lower ho0 (below_size bB_)); replace HB := Aside0.mk (below_step bB_ hb); (try clear hb ho0); obtain ⟨Ao5, co5, eo5⟩ := Kd.R_slice HO623.out; subst eo5) | ((with_reducible refine gate_callee (f := 68) rfl ?_); refine gL_ (some 7) Tryz.func68 #[.slice Ao5 t621.length co5, .func (.func 60) #[] #[]] ?_; (with_reducible refine (slices_SortFunc_Cell.calls (fun k_ => some k_ = (.slice Ao5 t621.length co5 : Value).ownBlock) (.slice Ao5 t621.length co5) t621  t624 w _ ?side1 ?side2 A3.out).mono ?_); (case side1 => repeat (first | (with_reducible first | exact HB.out | apply below_alloc | apply pw_below_drewN | apply below_drew1) | exact HB.out)); (case side2 => exact Kd.R_tight rfl HO623.out); rintro e w6 ⟨rfl, hy0, hb, hkp⟩; refine ⟨_, rfl, ?_⟩; replace HO623 := Aside0.mk (Kd.R_reok rfl hy0 (fun k_ e_ => HO623.out.1 k_ e_)); replace HB := Aside0.mk (hb); (try clear hb hkp hy0)))
 go_ret
 exact ⟨_, r2_, rS_ HO623.out, bB_⟩

/-! ### impl_grown: function 30 -/
/-- a call through a variable's function -/
theorem goesV_ {P : Program} {ops : Array Oper} {Q : Exit → Act → World → Prop} {oi : Oper} {N : Option Tmp} {a : Act} {w : World} {K : Act → World → Prop} {f : FuncId} {fn : Func} {x : Operand} {as_ : Array Operand} {ts : Array TypeId} (hf : P.funcs[f]? = some fn) (hname : (fn.name == "runtime.NumGoroutine") = false) (hb : fn.body.isSome = true) (args : Array Value)
  (hw : Region.wanted oi (yielded ops a.tmps) = true) (hN : oi.dst = N) (hop : oi.op = .call { callee := .value x, args := as_, argTypes := ts }) (hx : a.eval x = .func (.func f) #[] #[]) (hargs : as_.map a.eval = args)
  (h : Calls P f args w fun e w' => ∃ v, e = .returned v ∧ K (a.put N v) w') : if Region.wanted oi (yielded ops a.tmps) = true then Oper.wp P oi a w K Q else K (a.put N undef) w := by
 refine call_ f args hw hN ?_ h
 have he := enters_ hf hname hb args w
 unfold execOp
 simp [hop, hx, resolve, Deferred.ofValue, invoke, hargs, he]
def impl_grown.l0 : Nat → List (S39) → List (List (S39)) → List (S39) → Int → Int → Option ((List (List (S39))))
 | 0, _, _, _, _, _ => none
 | k + 1, x0, x7, x13, x14, x15 => if x15 < x14 then (if 0 ≤ x15 then (if x15 < (x13.length : Int) then ((slices_Clone_Cell.f x0).bind fun t633 => ((some (([(⟨(rd_T39 x13 x15).f0, (rd_T39 x13 x15).f1⟩ : S39)] : List (S39)) : List (S39))).bind fun y636 => (if t633.length + y636.length < 8796093022208 then ((impl_sorted.f (t633 ++ y636)).bind fun t642 => ((impl_normal.f k t642).bind fun t645 => ((some (([t645] : List (List (S39))) : List (List (S39)))).bind fun y648 => (if x7.length + y648.length < 5864062014805 then (impl_grown.l0 k x0 (x7 ++ y648) x13 x14 (wrap64 (x15 + 1))) else (none))))) else (none)))) else (none)) else (none)) else ((impl_tidyShapes.f k x7).bind fun t654 => (some t654))
def impl_grown.f (k : Nat) (l0 : List (S39))   : Option ((List (List (S39)))) := (impl_beside.f k l0).bind fun t628 => (impl_grown.l0 k l0 (([] : List (List (S39)))) t628 (t628.length : Int) 0)
theorem impl_grown.mono_l : ∀ k, (∀ y0 y1 y2 y3 y4, LeO (impl_grown.l0 k y0 y1 y2 y3 y4) (impl_grown.l0 (k + 1) y0 y1 y2 y3 y4))
 | 0 => fun _ _ _ _ _ r h => by simp [impl_grown.l0] at h
 | k + 1 => by
  have ih0 := impl_grown.mono_l k
  ·intro y0 y1 y2 y3 y4
   unfold impl_grown.l0
   repeat' first
   | (with_reducible exact ih0 _ _ _ _ _)
   | (with_reducible exact impl_beside.mono _ _)
   | (with_reducible exact impl_normal.mono _ _)
   | (with_reducible exact impl_tidyShapes.mono _ _)
   | (with_reducible exact LeO.refl _)
   | (with_reducible exact LeO.none _)
   | (with_reducible refine LeO.ite ?_ ?_)
   | (with_reducible refine LeO.bind ?_ (fun _ => ?_))
   | exact ih0 _ _ _ _ _
   | exact impl_beside.mono _ _
   | exact impl_normal.mono _ _
   | exact impl_tidyShapes.mono _ _
   | exact LeO.none _
   | refine LeO.ite ?_ ?_
   | refine LeO.bind ?_ (fun _ => ?_)
theorem impl_grown.mono : ∀ a0 k, LeO (impl_grown.f k a0) (impl_grown.f (k + 1) a0) := by
 intro a0 k
 have ih0 := impl_grown.mono_l k
 unfold impl_grown.f
 repeat' first
   | (with_reducible exact ih0 _ _ _ _ _)
   | (with_reducible exact impl_beside.mono _ _)
   | (with_reducible exact impl_normal.mono _ _)
   | (with_reducible exact impl_tidyShapes.mono _ _)
   | (with_reducible exact LeO.refl _)
   | (with_reducible exact LeO.none _)
   | (with_reducible refine LeO.ite ?_ ?_)
   | (with_reducible refine LeO.bind ?_ (fun _ => ?_))
   | exact ih0 _ _ _ _ _
   | exact impl_beside.mono _ _
   | exact impl_normal.mono _ _
   | exact impl_tidyShapes.mono _ _
   | exact LeO.none _
   | refine LeO.ite ?_ ?_
   | refine LeO.bind ?_ (fun _ => ?_)
def impl_grown.T5 : Bool × List (List Nat × List Nat) := (true, [([], []), ([], []), ([], []), ([2], [2]), ([], []), ([4], [4]), ([3, 5, 3], [3, 5]), ([6, 6], [6]), ([1, 7, 7], [1, 7]), ([8], [8]), ([0, 9, 8], [0, 9]), ([10, 10, 0, 1, 2, 3, 4, 5, 6, 7, 8, 9, 10], [0, 10])])
def impl_grown.B5 : List Nat := [0, 0, 0, 4, 0, 16, 60, 124, 254, 510, 1023, 2047]
theorem impl_grown.tab5 : rtab .any (opsOf Tryz.f30 5) = impl_grown.T5 := by kernel_rfl
theorem impl_grown.bits5 : waitsOk impl_grown.T5.2 impl_grown.B5 = true := by kernel_rfl
set_option maxHeartbeats 8000000 in
set_option maxRecDepth 100000 in
theorem impl_grown.calls (k : Nat) (A0 : Option Addr) (c0 : Nat) (l0 : List (S39))   (r : List (List (S39))) (w : World) (hr0 : Kd.C k39 w A0 l0.length l0) (hc0 : l0.length ≤ c0) (h : impl_grown.f k l0 = some r) :
  Calls Tryz.prog 30 #[.slice A0 l0.length c0, .func (.func 20) #[] #[], .func (.func 21) #[] #[]] w fun e w' => ∃ v0_ : Value, e = .returned (v0_) ∧ Kd.S (Kd.slice 39 k39) 24 w' w.heap.size (fun _ => True) v0_ r ∧ Below w.heap.size w w' := by
 have hu39 := Tryz.underlying39
 have HR0 := Aside0.mk hr0
 have HC0 := Aside0.mk hc0
 clear hr0 hc0
 have HB := Aside0.mk (Below.refl w.heap.size w)
 have H : ((impl_beside.f k l0).bind fun t628 => (impl_grown.l0 k l0 (([] : List (List (S39)))) t628 (t628.length : Int) 0)) = some r := h
 clear h
 obtain ⟨y625, hY_⟩ : ∃ y_ : List (List (S39)), y_ = (([] : List (List (S39)))) := ⟨_, rfl⟩
 replace H : ((impl_beside.f k l0).bind fun t628 => (impl_grown.l0 k l0 y625 t628 (t628.length : Int) 0)) = some r := yY_
 have Ny625 := Aside0.mk hY_
 clear hY_
 replace H := Option.bind_eq_some_iff.mp H
 obtain ⟨t628, A40, H⟩ := H
 try dsimp only at H
 have A4 := Aside0.mk A40
 clear A40
 have H' := Aside0.mk H
 clear H
 go_enter Tryz.func30, Tryz.ntmps30
 go_wp2_with (first | ((with_reducible refine gate_dst (N := 10) rfl ?_); refine Kd.S_lit (Kd.slice 39 k39) _ 24 ?hg (N := 10) ?hd (xs := ([] : List (List (S39)))) (inner := []) (ok := (fun k_ => (w.heap.size ≤ k_))) (okp := (fun k_ => (w.heap.size ≤ k_))) ?hr ?hp (fun _ hk => hk) ((show ∀ k_, w.heap.size ≤ k_ → (fun k_ => (w.heap.size ≤ k_)) k_ from fun k_ hk => (Nat.le_trans (below_size bB_) hk)) _ (Nat.le_refl _)) (Below.refl _ _) (Nat.le_refl _) (by simp) ?_; (case hd => rfl); (case hg => rfl); (case hr => first | (go_simp; done) | (go_simp; rfl)); (case hp => exact (Reps.none _ _)); intro v626 w5 ho6 hb hg_ hnew_; clear hg_ hnew_; (first | rw [← Ny625.out] at ho6 | (simp only [Int.reduceToNat] at ho6; rw [← Ny625.out] at ho6)); have HO627 := Aside0.mk (Kd.S_lower ho6 (below_size bB_)); replace HB := Aside0.mk (below_step bB_ hb); clear hb ho6) | ((with_reducible refine gate_callee (f := 55) rfl ?_); refine gL_ (some 13) Tryz.func55 #[.slice A0 l0.length c0, .func (.func 20) #[] #[]] ?_; (with_reducible refine (impl_beside.calls k _ _ l0  t628 _ ?side1 ?side2 A4.out).mono ?_); (case side1 => exact cS_ (Kd.C_below HR0.out HB.out)); (case side2 => exact HC0.out); rintro e w7 ⟨v629, rfl, ho0, hb⟩; refine ⟨_, rfl, ?_⟩; replace HO627 := Aside0.mk (Kd.S_elder' (sS_ HO627.out) (Kd.R_base ho0) hb); have HO630 := Aside0.mk (Kd.R_lower (Kd.R_newM (M := fun k_ => (w.heap.size ≤ k_)) ho0 (below_size bB_) (fun k_ h_ => h_)) (below_size bB_)); replace HB := Aside0.mk (below_step bB_ hb); (try clear hb ho0); obtain ⟨Ao8, co8, eo8⟩ := Kd.R_slice HO630.out; subst eo8))
 go_loopg [7, 15] k (fun kq v7 v15 w' => ∃ (x7_1 : List (List (S39))) (x15_1 : Int), v15 = .int .i64 x15_1 ∧ Aside0 (impl_grown.l0 kq l0 x7_1 t628 (t628.length : Int) x15_1 = some r) ∧ Aside0 (kq ≤ k) ∧ Aside0 (Kd.S (Kd.slice 39 k39) 24 w' w.heap.size (fun k_ => (w.heap.size ≤ k_) ∧ some k_ ≠ ((.slice Ao8 t628.length co8) : Value).ownBlock) v7 x7_1) ∧ Aside0 (Kd.R k39 39 w' w.heap.size (fun k_ => (w.heap.size ≤ k_)) (.slice Ao8 t628.length co8) t628) ∧ Aside0 (Below w.heap.size w w'))
 case atStart => exact ⟨(y625), (0), r3_, H', ⟨Nat.le_refl _⟩, ⟨sS_ HO627.out⟩, ⟨rS_ (Kd.R_mono HO630.out (fun _ hk => hk.1))⟩, ⟨bB_⟩⟩
 case round =>
  clear H'
  try clear p2
  try clear c3
  try clear c5
  obtain ⟨x7_1, x15_1, rfl, HA, HK1, HO_7, HO_13, HB⟩ := hrel
  cases gk with
  | zero => exact absurd HA.out (by simp [impl_grown.l0])
  | succ k1 =>
   have H := HA.out
   clear HA
   simp only [impl_grown.l0] at H
   by_cases c9 : x15_1 < (t628.length : Int)
   ·rw [if_pos c9] at H
    have c9b0 : decide (x15_1 < (t628.length : Int)) = true := decide_eq_true c9
    clear c9
    by_cases c10 : 0 ≤ x15_1
    ·rw [if_pos c10] at H
     have c10b0 : decide (0 ≤ x15_1) = true := decide_eq_true c10
     clear c10
     by_cases c11 : x15_1 < (t628.length : Int)
     ·rw [if_pos c11] at H
      have c11b0 : decide (x15_1 < (t628.length : Int)) = true := decide_eq_true c11
      clear c11
      replace H := Option.bind_eq_some_iff.mp H
      obtain ⟨t633, A120, H⟩ := H
      try dsimp only at H
      have A12 := Aside0.mk A120
      clear A120
      obtain ⟨y636, hY_⟩ : ∃ y_ : List (S39), y_ = (([(⟨(rd_T39 t628 x15_1).f0, (rd_T39 t628 x15_1).f1⟩ : S39)] : List (S39))) := ⟨_, rfl⟩
      replace H : (if t633.length + y636.length < 8796093022208 then ((impl_sorted.f (t633 ++ y636)).bind fun t642 => ((impl_normal.f k1 t642).bind fun t645 => ((some (([t645] : List (List (S39))) : List (List (S39)))).bind fun y648 => (if x7_1.length + y648.length < 5864062014805 then (impl_grown.l0 k1 l0 (x7_1 ++ y648) t628 (t628.length : Int) (wrap64 (x15_1 + 1))) else (none))))) else (none)) = some r := yY_
      have Ny636 := Aside0.mk hY_
      clear hY_
      by_cases c13 : t633.length + y636.length < 8796093022208
      ·rw [if_pos c13] at H
       have LMc13 := Aside0.mk c13
       clear c13
       obtain ⟨y639, hY_⟩ : ∃ y_ : List (S39), y_ = (t633 ++ y636) := ⟨_, rfl⟩
       replace H : ((impl_sorted.f y639).bind fun t642 => ((impl_normal.f k1 t642).bind fun t645 => ((some (([t645] : List (List (S39))) : List (List (S39)))).bind fun y648 => (if x7_1.length + y648.length < 5864062014805 then (impl_grown.l0 k1 l0 (x7_1 ++ y648) t628 (t628.length : Int) (wrap64 (x15_1 + 1))) else (none))))) = some r := yY_
       have Ny639 := Aside0.mk hY_
       clear hY_
       replace H := Option.bind_eq_some_iff.mp H
       obtain ⟨t642, A140, H⟩ := H
       try dsimp only at H
       have A14 := Aside0.mk A140
       clear A140
       replace H := Option.bind_eq_some_iff.mp H
       obtain ⟨t645, A150, H⟩ := H
       try dsimp only at H
       have A15 := Aside0.mk A150
       clear A150
       obtain ⟨y648, hY_⟩ : ∃ y_ : List (List (S39)), y_ = (([t645] : List (List (S39)))) := ⟨_, rfl⟩
       replace H : (if x7_1.length + y648.length < 5864062014805 then (impl_grown.l0 k1 l0 (x7_1 ++ y648) t628 (t628.length : Int) (wrap64 (x15_1 + 1))) else (none)) = some r := yY_
       have Ny648 := Aside0.mk hY_
       clear hY_
       by_cases c16 : x7_1.length + y648.length < 5864062014805
       ·rw [if_pos c16] at H
        have LMc16 := Aside0.mk c16
        clear c16
        obtain ⟨y651, hY_⟩ : ∃ y_ : List (List (S39)), y_ = (x7_1 ++ y648) := ⟨_, rfl⟩
        replace H : (impl_grown.l0 k1 l0 y651 t628 (t628.length : Int) (wrap64 (x15_1 + 1))) = some r := yY_
        have Ny651 := Aside0.mk hY_
        clear hY_
        have H' := Aside0.mk H
        clear H
        have p631 : 0 ≤ (x15_1 : Int) := of_decide_eq_true aS_
        have q631 : x15_1 < (t628.length : Int) := of_decide_eq_true aS_
        obtain ⟨ad631, e631, hx631_0, hx631_1⟩ := at_T39 (Kd.R_reads' HO_13.out).2.2 x15_1 p631 q631
        cases e631
        replace p631 := eq_true p631
        replace q631 := eq_true q631
        try go_wp2_with (first | ((with_reducible refine gate_dst (N := 9) rfl ?_); refine box_event ?hg (N := 9) ?hd (cs := #[.int .i64 0, .int .i64 0]) (t := 39) ?hr ?_; (case hd => rfl); (case hg => rfl); (case hr => first | (go_simp; done) | (go_simp; rfl)); intro gb632 hg w17 hbox hb; replace HO_7 := Aside0.mk (Kd.S_below (Kd.S_elderB (sS_ HO_7.out) gb632 (Nat.le_of_eq hg.symm)) hb); replace HO_13 := Aside0.mk (Kd.R_below (Kd.R_elderB (rS_ HO_13.out) gb632 (Nat.le_of_eq hg.symm)) hb); have BK632 := Aside0.mk (hbox); have GW632 := Aside0.mk ((by rw [hg]; exact (below_size bB_) : w.heap.size ≤ gb632)); have GE632 := Aside0.mk ((by rw [hg]; exact (below_size bB_) : w.heap.size ≤ gb632)); replace HB := Aside0.mk (below_step bB_ hb); clear hb hbox hg; have hcz18_0 : w17.cell? ⟨gb632, 0, none⟩ = some (.int .i64 0) := (blk_cell BK632.out 0).trans rfl; have hcz18_1 : w17.cell? ⟨gb632, 1, none⟩ = some (.int .i64 0) := (blk_cell BK632.out 1).trans rfl; have hfz18_0 := blk_frozen BK632.out 0; have hfz18_1 := blk_frozen BK632.out 1; obtain ⟨Ao19, co19, eo19⟩ := Kd.S_slice HO_7.out; subst eo19))
        have n0_ : Aside0 (Kd.S (Kd.slice 39 k39) 24 ((w17.setCell ⟨gb632, 0, none⟩ (.int .i64 ((rd_T39 t628 x15_1).f0))).setCell ⟨gb632, 1, none⟩ (.int .i64 ((rd_T39 t628 x15_1).f1))) w.heap.size (fun k_ => (w.heap.size ≤ k_) ∧ some k_ ≠ (.slice (some ad631) t628.length co8 : Value).ownBlock ∧ k_ ≠ gb632) (.slice Ao19 x7_1.length co19) x7_1) := ⟨sS_ (Kd.S_mono (Kd.S_far (p := ⟨gb632, 1, none⟩) (Kd.S_far (p := ⟨gb632, 0, none⟩) (Kd.S_mono HO_7.out (fun k_ hk => (⟨hk, hk.2⟩ : _ ∧ k_ ≠ gb632))) (fun _ hk => hk.2) (.int .i64 ((rd_T39 t628 x15_1).f0))) (fun _ hk => hk.2) (.int .i64 ((rd_T39 t628 x15_1).f1))) (fun _ hk => ⟨hk.1.1.1, ⟨hk.1.1.2, hk.1.2⟩⟩))⟩
        have n1_ : Aside0 (Kd.R k39 39 ((w17.setCell ⟨gb632, 0, none⟩ (.int .i64 ((rd_T39 t628 x15_1).f0))).setCell ⟨gb632, 1, none⟩ (.int .i64 ((rd_T39 t628 x15_1).f1))) w.heap.size (fun k_ => (w.heap.size ≤ k_) ∧ k_ ≠ gb632) (.slice (some ad631) t628.length co8) t628) := ⟨rS_ (Kd.R_mono (Kd.R_far (p := ⟨gb632, 1, none⟩) (Kd.R_far (p := ⟨gb632, 0, none⟩) (Kd.R_mono HO_13.out (fun k_ hk => (⟨hk, hk.2⟩ : _ ∧ k_ ≠ gb632))) (fun _ hk => hk.2) (.int .i64 ((rd_T39 t628 x15_1).f0))) (fun _ hk => hk.2) (.int .i64 ((rd_T39 t628 x15_1).f1))) (fun _ hk => ⟨hk.1.1, hk.1.2⟩))⟩
        have n2_ : Aside0 (((w17.setCell ⟨gb632, 0, none⟩ (.int .i64 ((rd_T39 t628 x15_1).f0))).setCell ⟨gb632, 1, none⟩ (.int .i64 ((rd_T39 t628 x15_1).f1))).heap[gb632]? = some (.cells #[.int .i64 ((rd_T39 t628 x15_1).f0), .int .i64 ((rd_T39 t628 x15_1).f1)] 39 (0, 0))) := ⟨by (with_reducible repeat (first | refine blk_drewN ?_ _ | refine blk_drew ?_ | refine blk_alloc ?_ _)); refine blk_put (cs := #[.int .i64 ((rd_T39 t628 x15_1).f0), .int .i64 0]) ?_ 1 _ rfl; (with_reducible repeat (first | refine blk_drewN ?_ _ | refine blk_drew ?_ | refine blk_alloc ?_ _)); refine blk_put (cs := #[.int .i64 0, .int .i64 0]) ?_ 0 _ rfl; (with_reducible repeat (first | refine blk_drewN ?_ _ | refine blk_drew ?_ | refine blk_alloc ?_ _)); exact BK632.out⟩
        have n3_ : Aside0 (Below w.heap.size w ((w17.setCell ⟨gb632, 0, none⟩ (.int .i64 ((rd_T39 t628 x15_1).f0))).setCell ⟨gb632, 1, none⟩ (.int .i64 ((rd_T39 t628 x15_1).f1)))) := ⟨by repeat (first | (with_reducible first | exact HB.out | apply below_alloc | apply pw_below_drewN | apply below_drew1 | refine below_set ?_ GE632.out) | exact HB.out)⟩
        (try clear HO_7)
        (try clear HO_13)
        (try clear BK632)
        (try clear HB)
        generalize ((w17.setCell ⟨gb632, 0, none⟩ (.int .i64 ((rd_T39 t628 x15_1).f0))).setCell ⟨gb632, 1, none⟩ (.int .i64 ((rd_T39 t628 x15_1).f1))) = w20 at n0_ n1_ n2_ n3_ ⊢
        have HO_7 := n0_
        have HO_13 := n1_
        have BK632 := n2_
        have HB := n3_
        clear n0_ n1_ n2_ n3_
        replace HO_7 := Aside0.mk (Kd.S_drew HO_7.out)
        replace HO_13 := Aside0.mk (Kd.R_drew HO_13.out)
        replace BK632 := Aside0.mk (blk_drew BK632.out)
        replace HB := Aside0.mk (below_drew1 HB.out)
        refine start_ (n := 12) (S := fun w' => w'.cell? ⟨gb632, 0, none⟩ = some (.int .i64 ((rd_T39 t628 x15_1).f0)) ∧ w'.cell? ⟨gb632, 1, none⟩ = some (.int .i64 ((rd_T39 t628 x15_1).f1))) (ds := []) #[F, F, F, F, F, F, F, F, F, F, F, F] (by kernel_rfl) rfl rfl ⟨(blk_cell BK632.out 0).trans rfl, (blk_cell BK632.out 1).trans rfl⟩ (fun hHeld => ?_); refine with_tabW impl_grown.tab5 impl_grown.bits5 (fun HT_ HW_ => ?_)
        generalize w20.drew = w21 at HO_7 HO_13 BK632 HB hHeld ⊢
        refine pu_ HT_ 0 (some 19) #[T,F,F,F,F,F,F,F,F,F,F,F] ?_
        refine pu_ HT_ 1 (some 20) #[T,T,F,F,F,F,F,F,F,F,F,F] ?_
        refine pu_ HT_ 2 (some 21) #[T,T,T,F,F,F,F,F,F,F,F,F] ?_
        refine take_ (i := 4) (N := some 23) (v := ?_) (a' := ?_) #[T, T, T, F, T, F, F, F, F, F, F, F] rfl rfl (take_ofW HT_.out HW_.out (by kernel_rfl)) (fun _ _ _ h => h) (Or.inl ⟨by rfl, ?_⟩) hHeld ?_ ?_
        rotate_left
        ·rintro w' ⟨s0, s1⟩
         go_simp
         with_reducible rfl
        rotate_left
        ·simp only [Act.put, List.setIfInBounds_toArray, List.set_cons_zero, List.set_cons_succ, i64_w, i32_w]
         rfl
        refine join_ (σ := Value × Value) 6 #[T, T, T, T, T, T, F, F, F, F, F, F] (fun s_ => [(22, s_.1), (24, s_.2)]) (fun s_ w' => (w'.cell? ⟨gb632, 0, none⟩ = some (.int .i64 ((rd_T39 t628 x15_1).f0)) ∧ w'.cell? ⟨gb632, 1, none⟩ = some (.int .i64 ((rd_T39 t628 x15_1).f1))) ∧ (Kd.R k39 39 w' w.heap.size (fun k_ => (w.heap.size ≤ k_) ∧ some k_ ≠ (s_.2 : Value).ownBlock ∧ some k_ ≠ (.slice (some ad631) t628.length co8 : Value).ownBlock ∧ k_ ≠ gb632) s_.1 t633) ∧ (Kd.R k39 39 w' w.heap.size (fun k_ => (w.heap.size ≤ k_) ∧ some k_ ≠ (s_.1 : Value).ownBlock ∧ some k_ ≠ (.slice (some ad631) t628.length co8 : Value).ownBlock ∧ k_ ≠ gb632) s_.2 y636) ∧ (Kd.R k39 39 w' w.heap.size (fun k_ => (w.heap.size ≤ k_) ∧ some k_ ≠ (s_.1 : Value).ownBlock ∧ some k_ ≠ (s_.2 : Value).ownBlock ∧ k_ ≠ gb632) (.slice (some ad631) t628.length co8) t628) ∧ (Kd.S (Kd.slice 39 k39) 24 w' w.heap.size (fun k_ => (w.heap.size ≤ k_) ∧ some k_ ≠ (s_.1 : Value).ownBlock ∧ some k_ ≠ (s_.2 : Value).ownBlock ∧ some k_ ≠ (.slice (some ad631) t628.length co8 : Value).ownBlock ∧ k_ ≠ gb632) (.slice Ao19 x7_1.length co19) x7_1) ∧ (w'.heap[gb632]? = some (.cells #[.int .i64 ((rd_T39 t628 x15_1).f0), .int .i64 ((rd_T39 t628 x15_1).f1)] 39 (0, 0))) ∧ (Below w.heap.size w w')) ?_ ?_
        rotate_left
        ·intro hCont
         refine two_ (i := 3) (j := 5) (Ni := some 22) (Nj := some 24) #[T, T, T, T, T, F, F, F, F, F, F, F] #[T, T, T, F, T, T, F, F, F, F, F, F] rfl rfl rfl rfl (two_of HT_.out (by kernel_rfl)) (by decide) (by decide) (fun K hK => ?_) (fun K hK => ?_)
         ·skip
          refine goes_ Tryz.func18 (by kernel_rfl) rfl #[.slice A0 l0.length c0] (by rfl) rfl rfl mA_ ?_
          with_reducible refine (slices_Clone_Cell.calls _ _ l0 t633 _ ?side1 ?side2 A12.out).mono ?_
          (case side1 => exact cS_ (Kd.C_below HR0.out HB.out))
          (case side2 => exact HC0.out)
          rintro e w22 ⟨v634, rfl, ho0, hb⟩
          refine ⟨_, rfl, ?_⟩
          replace HO_7 := Aside0.mk (Kd.S_elder' (sS_ HO_7.out) (Kd.R_base ho0) hb)
          have HO635 := Aside0.mk (Kd.R_lower (Kd.R_newB (Kd.R_new' (Kd.R_newM (M := fun k_ => (w.heap.size ≤ k_)) ho0 (below_size (by repeat (first | (with_reducible first | exact HB.out | apply below_alloc | apply pw_below_drewN | apply below_drew1 | refine below_set ?_ GE632.out) | exact HB.out))) (fun k_ h_ => h_)) (Kd.R_lt (rS_ HO_13.out))) (g := gb632) (o := .cells #[.int .i64 ((rd_T39 t628 x15_1).f0), .int .i64 ((rd_T39 t628 x15_1).f1)] 39 (0, 0)) (by (with_reducible repeat (first | refine blk_drewN ?_ _ | refine blk_drew ?_ | refine blk_alloc ?_ _)); exact BK632.out)) (below_size (by repeat (first | (with_reducible first | exact HB.out | apply below_alloc | apply pw_below_drewN | apply below_drew1 | refine below_set ?_ GE632.out) | exact HB.out))))
          replace HO_13 := Aside0.mk (Kd.R_elder' (rS_ HO_13.out) (Kd.R_base ho0) hb)
          replace BK632 := Aside0.mk (blk_below (g := gb632) (o := .cells #[.int .i64 ((rd_T39 t628 x15_1).f0), .int .i64 ((rd_T39 t628 x15_1).f1)] 39 (0, 0)) (by (with_reducible repeat (first | refine blk_drewN ?_ _ | refine blk_drew ?_ | refine blk_alloc ?_ _)); exact BK632.out) hb)
          replace HB := Aside0.mk (below_step (by repeat (first | (with_reducible first | exact HB.out | apply below_alloc | apply pw_below_drewN | apply below_drew1 | refine below_set ?_ GE632.out) | exact HB.out)) hb)
          (try clear hb)
          (try clear ho0)
          refine hK.out _ _ ⟨(blk_cell BK632.out 0).trans rfl, (blk_cell BK632.out 1).trans rfl⟩ (fun hHeld => ?_)
          clear hK K
          refine no_ (some 22) ?_
          refine one_ (i := 5) (N := some 24) #[T, T, T, T, T, T, F, F, F, F, F, F] rfl rfl (one_of HT_.out (by kernel_rfl)) (by decide) (fun K hK => ?_)
          refine Kd.R_lit_step k39 _ 39 ?hg (N := 24) ?hd (xs := ([(⟨(rd_T39 t628 x15_1).f0, (rd_T39 t628 x15_1).f1⟩ : S39)] : List (S39))) (inner := [.int .i64 ((rd_T39 t628 x15_1).f0), .int .i64 ((rd_T39 t628 x15_1).f1)]) (ok := fun _ => True) (okp := fun _ => True) ?hr ?hp (fun _ hk => hk) trivial (Below.refl _ _) (Nat.le_refl _) (by simp) ?_; (case hd => rfl); (case hg => rfl); (case hr => first | (go_simp; done) | (go_simp; rfl)); (case hp => exact (Reps.c2 (show Kd.M k39 _ _ _ (⟨(rd_T39 t628 x15_1).f0, (rd_T39 t628 x15_1).f1⟩ : S39) [.int .i64 ((rd_T39 t628 x15_1).f0), .int .i64 ((rd_T39 t628 x15_1).f1)] from (k39_mkM _ _ _ (⟨(rd_T39 t628 x15_1).f0, (rd_T39 t628 x15_1).f1⟩ : S39) )) (Reps.none _ _)))
          intro v637 w23 ho24 hb hg_ hnew_
          clear hg_ hnew_
          (first | rw [← Ny636.out] at ho24 | (simp only [Int.reduceToNat] at ho24; rw [← Ny636.out] at ho24))
          replace HO_7 := Aside0.mk (Kd.S_elder' (sS_ HO_7.out) (Kd.R_base ho24) hb)
          have HO638 := Aside0.mk (Kd.R_lower (Kd.R_newB (Kd.R_new' (Kd.R_new' (Kd.R_newM (M := fun k_ => (w.heap.size ≤ k_)) ho24 (below_size (by repeat (first | (with_reducible first | exact HB.out | apply below_alloc | apply pw_below_drewN | apply below_drew1 | refine below_set ?_ GE632.out) | exact HB.out))) (fun k_ h_ => h_)) (Kd.R_lt (rS_ HO_13.out))) (Kd.R_lt (rS_ HO635.out))) (g := gb632) (o := .cells #[.int .i64 ((rd_T39 t628 x15_1).f0), .int .i64 ((rd_T39 t628 x15_1).f1)] 39 (0, 0)) (by (with_reducible repeat (first | refine blk_drewN ?_ _ | refine blk_drew ?_ | refine blk_alloc ?_ _)); exact BK632.out)) (below_size (by repeat (first | (with_reducible first | exact HB.out | apply below_alloc | apply pw_below_drewN | apply below_drew1 | refine below_set ?_ GE632.out) | exact HB.out))))
          replace HO_13 := Aside0.mk (Kd.R_elder' (rS_ HO_13.out) (Kd.R_base ho24) hb)
          replace HO635 := Aside0.mk (Kd.R_elder' (rS_ HO635.out) (Kd.R_base ho24) hb)
          replace BK632 := Aside0.mk (blk_below (g := gb632) (o := .cells #[.int .i64 ((rd_T39 t628 x15_1).f0), .int .i64 ((rd_T39 t628 x15_1).f1)] 39 (0, 0)) (by (with_reducible repeat (first | refine blk_drewN ?_ _ | refine blk_drew ?_ | refine blk_alloc ?_ _)); exact BK632.out) hb)
          replace HB := Aside0.mk (below_step (by repeat (first | (with_reducible first | exact HB.out | apply below_alloc | apply pw_below_drewN | apply below_drew1 | refine below_set ?_ GE632.out) | exact HB.out)) hb)
          clear hb ho24
          refine hK.out _ _ ⟨(blk_cell BK632.out 0).trans rfl, (blk_cell BK632.out 1).trans rfl⟩ (fun hHeld => ?_)
          clear hK K
          refine no_ (some 24) ?_
          exact norm_ (by simp only [putAll, Act.put, List.setIfInBounds_toArray, List.set_cons_zero, List.set_cons_succ]) (hCont (v634, v637) _ ⟨hHeld, (rS_ (Kd.R_mono HO635.out (fun _ hk => ⟨hk.1.1.1.1, ⟨hk.2, ⟨hk.1.1.2, hk.1.2⟩⟩⟩))), (rS_ (Kd.R_mono HO638.out (fun _ hk => ⟨hk.1.1.1.1, ⟨hk.1.2, ⟨hk.1.1.2, hk.2⟩⟩⟩))), (rS_ (Kd.R_mono HO_13.out (fun _ hk => ⟨hk.1.1.1, ⟨hk.1.2, ⟨hk.2, hk.1.1.2⟩⟩⟩))), (sS_ (Kd.S_mono HO_7.out (fun _ hk => ⟨hk.1.1.1, ⟨hk.1.2, ⟨hk.2, ⟨hk.1.1.2.1, hk.1.1.2.2⟩⟩⟩⟩))), (by (with_reducible repeat (first | refine blk_drewN ?_ _ | refine blk_drew ?_ | refine blk_alloc ?_ _)); exact BK632.out), (by repeat (first | (with_reducible first | exact HB.out | apply below_alloc | apply pw_below_drewN | apply below_drew1 | refine below_set ?_ GE632.out) | exact HB.out))⟩)
         ·skip
          refine Kd.R_lit_step k39 _ 39 ?hg (N := 24) ?hd (xs := ([(⟨(rd_T39 t628 x15_1).f0, (rd_T39 t628 x15_1).f1⟩ : S39)] : List (S39))) (inner := [.int .i64 ((rd_T39 t628 x15_1).f0), .int .i64 ((rd_T39 t628 x15_1).f1)]) (ok := fun _ => True) (okp := fun _ => True) ?hr ?hp (fun _ hk => hk) trivial (Below.refl _ _) (Nat.le_refl _) (by simp) ?_; (case hd => rfl); (case hg => rfl); (case hr => first | (go_simp; done) | (go_simp; rfl)); (case hp => exact (Reps.c2 (show Kd.M k39 _ _ _ (⟨(rd_T39 t628 x15_1).f0, (rd_T39 t628 x15_1).f1⟩ : S39) [.int .i64 ((rd_T39 t628 x15_1).f0), .int .i64 ((rd_T39 t628 x15_1).f1)] from (k39_mkM _ _ _ (⟨(rd_T39 t628 x15_1).f0, (rd_T39 t628 x15_1).f1⟩ : S39) )) (Reps.none _ _)))
          intro v637 w22 ho23 hb hg_ hnew_
          clear hg_ hnew_
          (first | rw [← Ny636.out] at ho23 | (simp only [Int.reduceToNat] at ho23; rw [← Ny636.out] at ho23))
          replace HO_7 := Aside0.mk (Kd.S_elder' (sS_ HO_7.out) (Kd.R_base ho23) hb)
          have HO638 := Aside0.mk (Kd.R_lower (Kd.R_newB (Kd.R_new' (Kd.R_newM (M := fun k_ => (w.heap.size ≤ k_)) ho23 (below_size (by repeat (first | (with_reducible first | exact HB.out | apply below_alloc | apply pw_below_drewN | apply below_drew1 | refine below_set ?_ GE632.out) | exact HB.out))) (fun k_ h_ => h_)) (Kd.R_lt (rS_ HO_13.out))) (g := gb632) (o := .cells #[.int .i64 ((rd_T39 t628 x15_1).f0), .int .i64 ((rd_T39 t628 x15_1).f1)] 39 (0, 0)) (by (with_reducible repeat (first | refine blk_drewN ?_ _ | refine blk_drew ?_ | refine blk_alloc ?_ _)); exact BK632.out)) (below_size (by repeat (first | (with_reducible first | exact HB.out | apply below_alloc | apply pw_below_drewN | apply below_drew1 | refine below_set ?_ GE632.out) | exact HB.out))))
          replace HO_13 := Aside0.mk (Kd.R_elder' (rS_ HO_13.out) (Kd.R_base ho23) hb)
          replace BK632 := Aside0.mk (blk_below (g := gb632) (o := .cells #[.int .i64 ((rd_T39 t628 x15_1).f0), .int .i64 ((rd_T39 t628 x15_1).f1)] 39 (0, 0)) (by (with_reducible repeat (first | refine blk_drewN ?_ _ | refine blk_drew ?_ | refine blk_alloc ?_ _)); exact BK632.out) hb)
          replace HB := Aside0.mk (below_step (by repeat (first | (with_reducible first | exact HB.out | apply below_alloc | apply pw_below_drewN | apply below_drew1 | refine below_set ?_ GE632.out) | exact HB.out)) hb)
          clear hb ho23
          refine hK.out _ _ ⟨(blk_cell BK632.out 0).trans rfl, (blk_cell BK632.out 1).trans rfl⟩ (fun hHeld => ?_)
          clear hK K
          refine no_ (some 24) ?_
          refine one_ (i := 3) (N := some 22) #[T, T, T, T, T, T, F, F, F, F, F, F] rfl rfl (one_of HT_.out (by kernel_rfl)) (by decide) (fun K hK => ?_)
          refine goes_ Tryz.func18 (by kernel_rfl) rfl #[.slice A0 l0.length c0] (by rfl) rfl rfl mA_ ?_
          with_reducible refine (slices_Clone_Cell.calls _ _ l0 t633 _ ?side1 ?side2 A12.out).mono ?_
          (case side1 => exact cS_ (Kd.C_below HR0.out HB.out))
          (case side2 => exact HC0.out)
          rintro e w24 ⟨v634, rfl, ho0, hb⟩
          refine ⟨_, rfl, ?_⟩
          replace HO_7 := Aside0.mk (Kd.S_elder' (sS_ HO_7.out) (Kd.R_base ho0) hb)
          have HO635 := Aside0.mk (Kd.R_lower (Kd.R_newB (Kd.R_new' (Kd.R_new' (Kd.R_newM (M := fun k_ => (w.heap.size ≤ k_)) ho0 (below_size (by repeat (first | (with_reducible first | exact HB.out | apply below_alloc | apply pw_below_drewN | apply below_drew1 | refine below_set ?_ GE632.out) | exact HB.out))) (fun k_ h_ => h_)) (Kd.R_lt (rS_ HO_13.out))) (Kd.R_lt (rS_ HO638.out))) (g := gb632) (o := .cells #[.int .i64 ((rd_T39 t628 x15_1).f0), .int .i64 ((rd_T39 t628 x15_1).f1)] 39 (0, 0)) (by (with_reducible repeat (first | refine blk_drewN ?_ _ | refine blk_drew ?_ | refine blk_alloc ?_ _)); exact BK632.out)) (below_size (by repeat (first | (with_reducible first | exact HB.out | apply below_alloc | apply pw_below_drewN | apply below_drew1 | refine below_set ?_ GE632.out) | exact HB.out))))
          replace HO_13 := Aside0.mk (Kd.R_elder' (rS_ HO_13.out) (Kd.R_base ho0) hb)
          replace HO638 := Aside0.mk (Kd.R_elder' (rS_ HO638.out) (Kd.R_base ho0) hb)
          replace BK632 := Aside0.mk (blk_below (g := gb632) (o := .cells #[.int .i64 ((rd_T39 t628 x15_1).f0), .int .i64 ((rd_T39 t628 x15_1).f1)] 39 (0, 0)) (by (with_reducible repeat (first | refine blk_drewN ?_ _ | refine blk_drew ?_ | refine blk_alloc ?_ _)); exact BK632.out) hb)
          replace HB := Aside0.mk (below_step (by repeat (first | (with_reducible first | exact HB.out | apply below_alloc | apply pw_below_drewN | apply below_drew1 | refine below_set ?_ GE632.out) | exact HB.out)) hb)
          (try clear hb)
          (try clear ho0)
          refine hK.out _ _ ⟨(blk_cell BK632.out 0).trans rfl, (blk_cell BK632.out 1).trans rfl⟩ (fun hHeld => ?_)
          clear hK K
          refine no_ (some 22) ?_
          exact norm_ (by simp only [putAll, Act.put, List.setIfInBounds_toArray, List.set_cons_zero, List.set_cons_succ]) (hCont (v634, v637) _ ⟨hHeld, (rS_ (Kd.R_mono HO635.out (fun _ hk => ⟨hk.1.1.1.1, ⟨hk.1.2, ⟨hk.1.1.2, hk.2⟩⟩⟩))), (rS_ (Kd.R_mono HO638.out (fun _ hk => ⟨hk.1.1.1.1, ⟨hk.2, ⟨hk.1.1.2, hk.1.2⟩⟩⟩))), (rS_ (Kd.R_mono HO_13.out (fun _ hk => ⟨hk.1.1.1, ⟨hk.2, ⟨hk.1.2, hk.1.1.2⟩⟩⟩))), (sS_ (Kd.S_mono HO_7.out (fun _ hk => ⟨hk.1.1.1, ⟨hk.2, ⟨hk.1.2, ⟨hk.1.1.2.1, hk.1.1.2.2⟩⟩⟩⟩))), (by (with_reducible repeat (first | refine blk_drewN ?_ _ | refine blk_drew ?_ | refine blk_alloc ?_ _)); exact BK632.out), (by repeat (first | (with_reducible first | exact HB.out | apply below_alloc | apply pw_below_drewN | apply below_drew1 | refine below_set ?_ GE632.out) | exact HB.out))⟩)
        rintro ⟨v634, v637⟩ w25 ⟨hS_, h0_, h1_, h2_, h3_, h4_, h5_⟩
        have n0_ : Aside0 (Kd.R k39 39 w25 w.heap.size (fun k_ => (w.heap.size ≤ k_) ∧ some k_ ≠ (v637 : Value).ownBlock ∧ some k_ ≠ (.slice (some ad631) t628.length co8 : Value).ownBlock ∧ k_ ≠ gb632) v634 t633) := ⟨h0_⟩
        have n1_ : Aside0 (Kd.R k39 39 w25 w.heap.size (fun k_ => (w.heap.size ≤ k_) ∧ some k_ ≠ (v634 : Value).ownBlock ∧ some k_ ≠ (.slice (some ad631) t628.length co8 : Value).ownBlock ∧ k_ ≠ gb632) v637 y636) := ⟨h1_⟩
        have n2_ : Aside0 (Kd.R k39 39 w25 w.heap.size (fun k_ => (w.heap.size ≤ k_) ∧ some k_ ≠ (v634 : Value).ownBlock ∧ some k_ ≠ (v637 : Value).ownBlock ∧ k_ ≠ gb632) (.slice (some ad631) t628.length co8) t628) := ⟨h2_⟩
        have n3_ : Aside0 (Kd.S (Kd.slice 39 k39) 24 w25 w.heap.size (fun k_ => (w.heap.size ≤ k_) ∧ some k_ ≠ (v634 : Value).ownBlock ∧ some k_ ≠ (v637 : Value).ownBlock ∧ some k_ ≠ (.slice (some ad631) t628.length co8 : Value).ownBlock ∧ k_ ≠ gb632) (.slice Ao19 x7_1.length co19) x7_1) := ⟨h3_⟩
        have n4_ : Aside0 (w25.heap[gb632]? = some (.cells #[.int .i64 ((rd_T39 t628 x15_1).f0), .int .i64 ((rd_T39 t628 x15_1).f1)] 39 (0, 0))) := ⟨h4_⟩
        have n5_ : Aside0 (Below w.heap.size w w25) := ⟨h5_⟩
        clear HO_7
        clear HO_13
        clear BK632
        clear HB
        clear h0_ h1_ h2_ h3_ h4_ h5_
        have HO635 := n0_
        have HO638 := n1_
        have HO_13 := n2_
        have HO_7 := n3_
        have BK632 := n4_
        have HB := n5_
        clear n0_ n1_ n2_ n3_ n4_ n5_
        have hHeld : w25.cell? ⟨gb632, 0, none⟩ = some (.int .i64 ((rd_T39 t628 x15_1).f0)) ∧ w25.cell? ⟨gb632, 1, none⟩ = some (.int .i64 ((rd_T39 t628 x15_1).f1)) := hS_
        obtain ⟨Ao27, co27, eo27⟩ := Kd.R_slice HO638.out
        (first | subst eo27 | (injection eo27 with f1_ f2_ f3_; have f4_ := f1_.symm; have f5_ := f3_.symm; clear f1_ f2_ f3_; subst f4_; subst f5_))
        refine norm_ (a' := ?_) ?_ ?_
        rotate_left
        ·simp only [putAll, Act.put, List.setIfInBounds_toArray, List.set_cons_zero, List.set_cons_succ]
         rfl
        refine one_ (i := 6) (N := some 25) #[T, T, T, T, T, T, T, F, F, F, F, F] rfl rfl (one_of HT_.out (by kernel_rfl)) (by decide) (fun K hK => ?_)
        refine Kd.R_append_rows_step k39 (w0 := w) w.heap.size (by rfl) (.tmp 22) (.tmp 24) 24 39 (.agg #[(.int .i64 0), (.int .i64 0)]) 16 rfl Tryz.underlying24 info39 rfl (by decide) (by omega) v634 t633 y636 _ _ _ (fun k_ => (w.heap.size ≤ k_) ∧ some k_ ≠ (.slice (some ad631) t628.length co8 : Value).ownBlock ∧ some k_ ≠ (.slice Ao27 y636.length co27 : Value).ownBlock ∧ k_ ≠ gb632) (fun _ => False) rfl rfl ?aO ?aR (fun _ _ h => h) (fun _ h => h.elim) ?aF ?aB ?aS ?aL ?_
        (case aR => exact cS_ ((Kd.R_reads' HO638.out).2.2))
        (case aB => exact (by repeat (first | (with_reducible first | exact HB.out | apply below_alloc | apply pw_below_drewN | apply below_drew1 | refine below_set ?_ GE632.out) | exact HB.out)))
        (case aF => exact (fun k_ hk => ⟨(Nat.le_trans (below_size (by repeat (first | (with_reducible first | exact HB.out | apply below_alloc | apply pw_below_drewN | apply below_drew1 | refine below_set ?_ GE632.out) | exact HB.out))) hk), Kd.fresh' (Kd.R_lt (rS_ HO_13.out)) k_ hk, Kd.fresh' (Kd.R_lt (rS_ HO638.out)) k_ hk, Kd.freshB (g := gb632) (o := .cells #[.int .i64 ((rd_T39 t628 x15_1).f0), .int .i64 ((rd_T39 t628 x15_1).f1)] 39 (0, 0)) (by (with_reducible repeat (first | refine blk_drewN ?_ _ | refine blk_drew ?_ | refine blk_alloc ?_ _)); exact BK632.out) k_ hk⟩))
        (case aO => exact (rS_ (Kd.R_mono HO635.out (fun _ hk => ⟨hk.1, ⟨hk.2.2.1, ⟨hk.2.1, hk.2.2.2⟩⟩⟩))))
        (case aS => exact (below_size (by repeat (first | (with_reducible first | exact HB.out | apply below_alloc | apply pw_below_drewN | apply below_drew1 | refine below_set ?_ GE632.out) | exact HB.out))))
        (case aL => have := LMc13.out; omega)
        intro v640 w26 ho hb hg hat
        rw [← Ny639.out] at ho
        replace HO_7 := Aside0.mk (Kd.S_after (ok := (fun k_ => (w.heap.size ≤ k_) ∧ some k_ ≠ (.slice (some ad631) t628.length co8 : Value).ownBlock ∧ some k_ ≠ (.slice Ao27 y636.length co27 : Value).ownBlock ∧ k_ ≠ gb632)) (sS_ (Kd.S_mono HO_7.out (fun _ hk => ⟨⟨hk.1, ⟨hk.2.2.2.1, ⟨hk.2.2.1, hk.2.2.2.2⟩⟩⟩, hk.2.1⟩))) hg hat)
        replace HO_13 := Aside0.mk (Kd.R_after (ok := (fun k_ => (w.heap.size ≤ k_) ∧ some k_ ≠ (.slice Ao27 y636.length co27 : Value).ownBlock ∧ k_ ≠ gb632)) (rS_ (Kd.R_mono HO_13.out (fun _ hk => ⟨⟨hk.1, ⟨hk.2.2.1, hk.2.2.2⟩⟩, hk.2.1⟩))) hg hat)
        replace BK632 := Aside0.mk (blk_grown (g := gb632) (o := .cells #[.int .i64 ((rd_T39 t628 x15_1).f0), .int .i64 ((rd_T39 t628 x15_1).f1)] 39 (0, 0)) (by (with_reducible repeat (first | refine blk_drewN ?_ _ | refine blk_drew ?_ | refine blk_alloc ?_ _)); exact BK632.out) hg (Kd.R_away HO635.out (fun _ hk => hk.2.2.2)))
        replace HO638 := Aside0.mk (Kd.R_after (ok := (fun k_ => (w.heap.size ≤ k_) ∧ some k_ ≠ (.slice (some ad631) t628.length co8 : Value).ownBlock ∧ k_ ≠ gb632)) (rS_ (Kd.R_mono HO638.out (fun _ hk => ⟨⟨hk.1, ⟨hk.2.2.1, hk.2.2.2⟩⟩, hk.2.1⟩))) hg hat)
        replace HB := Aside0.mk (hb)
        have HO641 := Aside0.mk (ho)
        clear HO635
        clear ho hb hg hat
        obtain ⟨Ao28, co28, eo28⟩ := Kd.R_slice HO641.out
        (first | subst eo28 | (injection eo28 with f1_ f2_ f3_; have f4_ := f1_.symm; have f5_ := f3_.symm; clear f1_ f2_ f3_; subst f4_; subst f5_))
        refine hK.out _ _ ⟨(blk_cell BK632.out 0).trans rfl, (blk_cell BK632.out 1).trans rfl⟩ (fun hHeld => ?_)
        clear hK K
        refine no_ (some 25) ?_
        refine one_ (i := 7) (N := some 26) #[T, T, T, T, T, T, T, T, F, F, F, F] rfl rfl (one_of HT_.out (by kernel_rfl)) (by decide) (fun K hK => ?_)
        refine goes_ Tryz.func56 (by kernel_rfl) rfl #[.slice Ao28 y639.length co28] (by rfl) rfl rfl mA_ ?_
        with_reducible refine (impl_sorted.calls _ _ y639 t642 _ ?side1 ?side2 A14.out).mono ?_
        (case side1 => exact cS_ ((Kd.R_reads' HO641.out).2.2))
        (case side2 => exact (Kd.R_reads' HO641.out).2.1)
        rintro e w29 ⟨v643, rfl, ho0, hb⟩
        refine ⟨_, rfl, ?_⟩
        replace HO_7 := Aside0.mk (Kd.S_elder' (sS_ HO_7.out) (Kd.R_base ho0) hb)
        have HO644 := Aside0.mk (Kd.R_lower (Kd.R_newB (Kd.R_new' (Kd.R_new' (Kd.R_new' (Kd.R_newM (M := fun k_ => (w.heap.size ≤ k_)) ho0 (below_size (by repeat (first | (with_reducible first | exact HB.out | apply below_alloc | apply pw_below_drewN | apply below_drew1 | refine below_set ?_ GE632.out) | exact HB.out))) (fun k_ h_ => h_)) (Kd.R_lt (rS_ HO_13.out))) (Kd.R_lt (rS_ HO638.out))) (Kd.R_lt (rS_ HO641.out))) (g := gb632) (o := .cells #[.int .i64 ((rd_T39 t628 x15_1).f0), .int .i64 ((rd_T39 t628 x15_1).f1)] 39 (0, 0)) (by (with_reducible repeat (first | refine blk_drewN ?_ _ | refine blk_drew ?_ | refine blk_alloc ?_ _)); exact BK632.out)) (below_size (by repeat (first | (with_reducible first | exact HB.out | apply below_alloc | apply pw_below_drewN | apply below_drew1 | refine below_set ?_ GE632.out) | exact HB.out))))
        replace HO_13 := Aside0.mk (Kd.R_elder' (rS_ HO_13.out) (Kd.R_base ho0) hb)
        replace HO638 := Aside0.mk (Kd.R_elder' (rS_ HO638.out) (Kd.R_base ho0) hb)
        replace HO641 := Aside0.mk (Kd.R_elder' (rS_ HO641.out) (Kd.R_base ho0) hb)
        replace BK632 := Aside0.mk (blk_below (g := gb632) (o := .cells #[.int .i64 ((rd_T39 t628 x15_1).f0), .int .i64 ((rd_T39 t628 x15_1).f1)] 39 (0, 0)) (by (with_reducible repeat (first | refine blk_drewN ?_ _ | refine blk_drew ?_ | refine blk_alloc ?_ _)); exact BK632.out) hb)
        replace HB := Aside0.mk (below_step (by repeat (first | (with_reducible first | exact HB.out | apply below_alloc | apply pw_below_drewN | apply below_drew1 | refine below_set ?_ GE632.out) | exact HB.out)) hb)
        (try clear hb)
        (try clear ho0)
        obtain ⟨Ao30, co30, eo30⟩ := Kd.R_slice HO644.out
        (first | subst eo30 | (injection eo30 with f1_ f2_ f3_; have f4_ := f1_.symm; have f5_ := f3_.symm; clear f1_ f2_ f3_; subst f4_; subst f5_))
        refine hK.out _ _ ⟨(blk_cell BK632.out 0).trans rfl, (blk_cell BK632.out 1).trans rfl⟩ (fun hHeld => ?_)
        clear hK K
        refine no_ (some 26) ?_
        refine one_ (i := 8) (N := some 27) #[T, T, T, T, T, T, T, T, T, F, F, F] rfl rfl (one_of HT_.out (by kernel_rfl)) (by decide) (fun K hK => ?_)
        refine goesV_ Tryz.func21 (by kernel_rfl) rfl #[.slice Ao30 t642.length co30] (by rfl) rfl rfl rfl mA_ ?_
        with_reducible refine (impl_normal.calls k1 _ _ t642 t645 _ ?side1 ?side2 A15.out).mono ?_
        (case side1 => exact cS_ ((Kd.R_reads' HO644.out).2.2))
        (case side2 => exact (Kd.R_reads' HO644.out).2.1)
        rintro e w31 ⟨v646, rfl, ho0, hb⟩
        refine ⟨_, rfl, ?_⟩
        replace HO_7 := Aside0.mk (Kd.S_elder' (sS_ HO_7.out) (Kd.R_base ho0) hb)
        have HO647 := Aside0.mk (Kd.R_lower (Kd.R_newB (Kd.R_new' (Kd.R_new' (Kd.R_new' (Kd.R_new' (Kd.R_newM (M := fun k_ => (w.heap.size ≤ k_)) ho0 (below_size (by repeat (first | (with_reducible first | exact HB.out | apply below_alloc | apply pw_below_drewN | apply below_drew1 | refine below_set ?_ GE632.out) | exact HB.out))) (fun k_ h_ => h_)) (Kd.R_lt (rS_ HO_13.out))) (Kd.R_lt (rS_ HO638.out))) (Kd.R_lt (rS_ HO641.out))) (Kd.R_lt (rS_ HO644.out))) (g := gb632) (o := .cells #[.int .i64 ((rd_T39 t628 x15_1).f0), .int .i64 ((rd_T39 t628 x15_1).f1)] 39 (0, 0)) (by (with_reducible repeat (first | refine blk_drewN ?_ _ | refine blk_drew ?_ | refine blk_alloc ?_ _)); exact BK632.out)) (below_size (by repeat (first | (with_reducible first | exact HB.out | apply below_alloc | apply pw_below_drewN | apply below_drew1 | refine below_set ?_ GE632.out) | exact HB.out))))
        replace HO_13 := Aside0.mk (Kd.R_elder' (rS_ HO_13.out) (Kd.R_base ho0) hb)
        replace HO638 := Aside0.mk (Kd.R_elder' (rS_ HO638.out) (Kd.R_base ho0) hb)
        replace HO641 := Aside0.mk (Kd.R_elder' (rS_ HO641.out) (Kd.R_base ho0) hb)
        replace HO644 := Aside0.mk (Kd.R_elder' (rS_ HO644.out) (Kd.R_base ho0) hb)
        replace BK632 := Aside0.mk (blk_below (g := gb632) (o := .cells #[.int .i64 ((rd_T39 t628 x15_1).f0), .int .i64 ((rd_T39 t628 x15_1).f1)] 39 (0, 0)) (by (with_reducible repeat (first | refine blk_drewN ?_ _ | refine blk_drew ?_ | refine blk_alloc ?_ _)); exact BK632.out) hb)
        replace HB := Aside0.mk (below_step (by repeat (first | (with_reducible first | exact HB.out | apply below_alloc | apply pw_below_drewN | apply below_drew1 | refine below_set ?_ GE632.out) | exact HB.out)) hb)
        (try clear hb)
        (try clear ho0)
        obtain ⟨Ao32, co32, eo32⟩ := Kd.R_slice HO647.out
        (first | subst eo32 | (injection eo32 with f1_ f2_ f3_; have f4_ := f1_.symm; have f5_ := f3_.symm; clear f1_ f2_ f3_; subst f4_; subst f5_))
        refine hK.out _ _ ⟨(blk_cell BK632.out 0).trans rfl, (blk_cell BK632.out 1).trans rfl⟩ (fun hHeld => ?_)
        clear hK K
        refine no_ (some 27) ?_
        refine one_ (i := 9) (N := some 28) #[T, T, T, T, T, T, T, T, T, T, F, F] rfl rfl (one_of HT_.out (by kernel_rfl)) (by decide) (fun K hK => ?_)
        refine event_step ?hw (v := .slice (some ⟨w31.heap.size, 0, none⟩) 1 1) (w1 := w31.alloc (.cells #[.slice Ao32 t645.length co32] 24)) ?hr ?_
        (case hw => rfl)
        (case hr => first | (go_simp; done) | (go_simp; rfl))
        refine hK.out _ _ ⟨(blk_cell (blk_alloc BK632.out _) 0).trans rfl, (blk_cell (blk_alloc BK632.out _) 1).trans rfl⟩ (fun hHeld => ?_)
        clear hK K
        refine no_ (some 28) ?_
        refine one_ (i := 10) (N := some 29) #[T, T, T, T, T, T, T, T, T, T, T, F] rfl rfl (one_of HT_.out (by kernel_rfl)) (by decide) (fun K hK => ?_)
        refine Kd.S_append_step (Kd.slice 39 k39) (w0 := w) w.heap.size (by rfl) (.tmp 19) (.tmp 28) 26 24 (.slice none 0 0) 24 rfl Tryz.underlying26 info24 rfl (by decide) (by omega) (.slice Ao19 x7_1.length co19) x7_1 t645 [.slice Ao32 t645.length co32] (fun k_ => (w.heap.size ≤ k_) ∧ some k_ ≠ (.slice (some ad631) t628.length co8 : Value).ownBlock) (fun k_ => some k_ = (.slice Ao32 t645.length co32 : Value).ownBlock) rfl rfl ?aP ?aQ ?aF ?aO ?aB ?aS ?aL ?_
        (case aP => exact Kd.M_row (Kd.R_mono (Kd.R_tight rfl HO647.out) (fun _ h_ => h_)))
        (case aQ => exact (fun k_ hq_ => by (have hk_ := (Kd.R_apart' HO647.out (Kd.S_typed HO_7.out) (by decide)).1 k_ hq_.symm); (simp only [and_assoc] at hk_); refine ⟨⟨Kd.R_base HO647.out k_ hq_.symm, ?_⟩, ?_⟩ <;> (first | exact hk_ | exact hk_.1 | exact hk_.2.1 | exact hk_.2.2.1 | exact hk_.2.2.2.1 | exact hk_.2.2.2.2.1 | exact hk_.2.2.2.2.2.1 | exact hk_.2.2.2.2.2.2.1 | exact hk_.2.2.2.2.2.2.2.1 | exact hk_.2.2.2.2.2.2.2.2.1 | exact hk_.2.2.2.2.2.2.2.2.2.1 | exact hk_.2.2.2.2.2.2.2.2.2.2.1 | exact hk_.2.2.2.2.2.2.2.2.2.2.2.1 | exact hk_.2 | exact hk_.2.2 | exact hk_.2.2.2 | exact hk_.2.2.2.2 | exact hk_.2.2.2.2.2 | exact hk_.2.2.2.2.2.2 | exact hk_.2.2.2.2.2.2.2 | exact hk_.2.2.2.2.2.2.2.2 | exact hk_.2.2.2.2.2.2.2.2.2 | exact hk_.2.2.2.2.2.2.2.2.2.2 | exact hk_.2.2.2.2.2.2.2.2.2.2.2)))
        (case aF => exact (fun k_ hk => ⟨Nat.le_trans (below_size (by exact HB.out)) hk, Kd.fresh' (Kd.R_lt HO_13.out) k_ hk⟩))
        (case aO => exact (Kd.S_mono HO_7.out (fun k_ hk_ => by (simp only [and_assoc] at hk_); refine ⟨⟨?_, ?_⟩, ?_⟩ <;> (first | exact hk_ | exact hk_.1 | exact hk_.2.1 | exact hk_.2.2.1 | exact hk_.2.2.2.1 | exact hk_.2.2.2.2.1 | exact hk_.2.2.2.2.2.1 | exact hk_.2.2.2.2.2.2.1 | exact hk_.2.2.2.2.2.2.2.1 | exact hk_.2.2.2.2.2.2.2.2.1 | exact hk_.2.2.2.2.2.2.2.2.2.1 | exact hk_.2.2.2.2.2.2.2.2.2.2.1 | exact hk_.2.2.2.2.2.2.2.2.2.2.2.1 | exact hk_.2 | exact hk_.2.2 | exact hk_.2.2.2 | exact hk_.2.2.2.2 | exact hk_.2.2.2.2.2 | exact hk_.2.2.2.2.2.2 | exact hk_.2.2.2.2.2.2.2 | exact hk_.2.2.2.2.2.2.2.2 | exact hk_.2.2.2.2.2.2.2.2.2 | exact hk_.2.2.2.2.2.2.2.2.2.2 | exact hk_.2.2.2.2.2.2.2.2.2.2.2))))
        (case aB => exact HB.out)
        (case aS => exact below_size HB.out)
        (case aL => have := LMc16.out; have hy_ := congrArg List.length Ny648.out; simp only [List.length_singleton] at hy_; omega)
        intro v652 w35 ho hb hg hat
        rw [← Ny648.out, ← Ny651.out] at ho
        have n0_ := Aside0.mk (Kd.R_over' (HO_13.out) (Kd.S_typed HO_7.out) (by decide) hg)
        have n1_ := Aside0.mk (blk_grown BK632.out hg (Kd.S_ne HO_7.out BK632.out (by decide)))
        have n2_ := Aside0.mk hb
        have n3_ := Aside0.mk ho
        clear HO_13 BK632 HB HO_7
        have HO_13 := n0_
        have BK632 := n1_
        have HB := n2_
        have HO653 := n3_
        clear n0_ n1_ n2_ n3_ ho hb hg hat
        refine hK.out _ _ ⟨(blk_cell BK632.out 0).trans rfl, (blk_cell BK632.out 1).trans rfl⟩ (fun hHeld => ?_)
        clear hK K
        refine no_ (some 29) ?_
        refine pu_ HT_ 11 (some 7) #[T,T,T,T,T,T,T,T,T,T,T,T] ?_
        refine done_ (done_of HT_.out (by kernel_rfl)) ?_
        try go_wp2
        go_roundg k1
        case measure => have := HK1.out; omega
        case rel => exact ⟨(y651), (wrap64 (x15_1 + 1)), r3_, H', ⟨by have := HK1.out; omega⟩, ⟨sS_ HO653.out⟩, ⟨rS_ (Kd.R_mono HO_13.out (fun _ hk_ => by (simp only [and_assoc] at hk_); first | exact hk_ | exact hk_.1 | exact hk_.2.1 | exact hk_.2.2.1 | exact hk_.2.2.2.1 | exact hk_.2.2.2.2.1 | exact hk_.2.2.2.2.2.1 | exact hk_.2.2.2.2.2.2.1 | exact hk_.2.2.2.2.2.2.2.1 | exact hk_.2.2.2.2.2.2.2.2.1 | exact hk_.2.2.2.2.2.2.2.2.2.1 | exact hk_.2.2.2.2.2.2.2.2.2.2.1 | exact hk_.2.2.2.2.2.2.2.2.2.2.2.1 | exact hk_.2 | exact hk_.2.2 | exact hk_.2.2.2 | exact hk_.2.2.2.2 | exact hk_.2.2.2.2.2 | exact hk_.2.2.2.2.2.2 | exact hk_.2.2.2.2.2.2.2 | exact hk_.2.2.2.2.2.2.2.2 | exact hk_.2.2.2.2.2.2.2.2.2 | exact hk_.2.2.2.2.2.2.2.2.2.2 | exact hk_.2.2.2.2.2.2.2.2.2.2.2))⟩, ⟨by repeat (first | (with_reducible first | exact HB.out | apply below_alloc | apply pw_below_drewN | apply below_drew1 | refine below_set ?_ GE632.out) | exact HB.out)⟩⟩
       ·rw [if_neg c16] at H
        exact absurd H (by simp)
      ·rw [if_neg c13] at H
       exact absurd H (by simp)
     ·rw [if_neg c11] at H
      exact absurd H (by simp)
    ·rw [if_neg c10] at H
     exact absurd H (by simp)
   ·rw [if_neg c9] at H
    have c9b0 : decide (x15_1 < (t628.length : Int)) = false := decide_eq_false c9
    clear c9
    replace H := Option.bind_eq_some_iff.mp H
    obtain ⟨t654, A370, H⟩ := H
    try dsimp only at H
    have A37 := Aside0.mk A370
    clear A370
    obtain rfl := Option.some.inj H
    obtain ⟨Ao38, co38, eo38⟩ := Kd.S_slice HO_7.out
    subst eo38
    have HS_ := Aside0.mk (Kd.S_mono HO_7.out (ok' := fun _ => True) (fun _ _ => trivial))
    go_wp2_with fail
    refine (tidy_walk _ x7_1 t654 w _ HB.out HS_.out _ A37.out).mono ?_
    rintro e we_ ⟨ve_, rfl, hs_, hb_⟩
    have HE_ := Aside0.mk hs_
    have HF_ := Aside0.mk hb_
    clear hs_ hb_
    go_wp2_with fail
    go_ret
    exact ⟨_, rfl, HE_.out, HF_.out⟩

/-! ### impl_GrowShape: function 9, by hand -/
-- COMMONS none
def impl_GrowShape.f (k : Nat) (l0 : List S39) : Option (List (List S39) × Int) :=
 (impl_connectedCode.f k l0).bind fun t => if t = 0 then ((impl_sizeOf.f k l0).bind fun z => if (l0.length : Int) = 40 then some (([] : List (List S39)), 5) else if z.1 > 100 then some (([] : List (List S39)), 5) else if z.2 > 100 then some (([] : List (List S39)), 5) else (impl_grown.f k l0).bind fun q => some (q, 0)) else some (([] : List (List S39)), t)
theorem impl_GrowShape.mono : ∀ a0 k, LeO (impl_GrowShape.f k a0) (impl_GrowShape.f (k + 1) a0) := by
 intro a0 k
 unfold impl_GrowShape.f
 exact LeO.bind (impl_connectedCode.mono _ _) fun t => LeO.ite (LeO.bind (impl_sizeOf.mono _ _) fun z => LeO.ite (LeO.refl _) (LeO.ite (LeO.refl _) (LeO.ite (LeO.refl _) (LeO.bind (impl_grown.mono _ _) fun _ => LeO.refl _)))) (LeO.refl _)
set_option maxHeartbeats 4000000 in
set_option maxRecDepth 100000 in
theorem impl_GrowShape.calls (k : Nat) (A0 : Option Addr) (c0 : Nat) (l0 : List S39) (r1 : List (List S39)) (r2 : Int) (w : World) (hr0 : Kd.C k39 w A0 l0.length l0) (hc0 : l0.length ≤ c0) (h : impl_GrowShape.f k l0 = some (r1, r2)) :
  Calls Tryz.prog 9 #[.slice A0 l0.length c0] w fun e w' => ∃ v0_ : Value, e = .returned (.tuple #[v0_, .int .i64 r2]) ∧ Kd.S (Kd.slice 39 k39) 24 w' w.heap.size (fun _ => True) v0_ r1 ∧ Below w.heap.size w w' := by
 have HR0 := Aside0.mk hr0
 have HC0 := Aside0.mk hc0
 clear hr0 hc0
 obtain ⟨t, ht, h⟩ := Option.bind_eq_some_iff.mp h
 have HT := Aside0.mk ht
 clear ht
 by_cases c : t = 0
 rotate_left
 ·rw [if_neg c] at h
  simp only [Option.some.injEq, Prod.mk.injEq] at h
  obtain ⟨rfl, rfl⟩ := h
  have c3b0 : (t == 0) = false := beq_eq_false_iff_ne.mpr c
  have c3b1 : (t != 0) = true := bne_iff_ne.mpr c
  go_enter Tryz.func9, Tryz.ntmps9
  go_wp2_with fail
  refine (impl_connectedCode.calls k A0 c0 l0 t _ HR0.out HC0.out HT.out).mono ?_
  rintro e w1 ⟨rfl, hb⟩
  have HB1 := Aside0.mk hb
  clear hb
  go_wp2_with fail
  go_ret2
  exact ⟨_, rfl, Kd.S_nil _ _ _ _ _, HB1.out⟩
 rw [if_pos c] at h
 subst c
 obtain ⟨⟨z1, z2⟩, hz, h⟩ := Option.bind_eq_some_iff.mp h
 have HZ := Aside0.mk hz
 have HL := Aside0.mk (show l0.length ≤ 9223372036854775807 from HR0.out.2.1)
 clear hz
 simp only at h
 by_cases c1 : (l0.length : Int) = 40
 ·rw [if_pos c1] at h
  simp only [Option.some.injEq, Prod.mk.injEq] at h
  obtain ⟨rfl, rfl⟩ := h
  have b1 : ((l0.length : Int) == 40) = true := beq_iff_eq.2 c1
  have b2 : ((l0.length : Int) != 40) = false := by simp [bne, b1]
  have b3 : (l0.length == 40) = true := beq_iff_eq.2 (by omega)
  have b4 : (l0.length != 40) = false := by simp [bne, b3]
  clear c1
  go_enter Tryz.func9, Tryz.ntmps9
  go_wp2_with fail
  refine (impl_connectedCode.calls k A0 c0 l0 0 _ HR0.out HC0.out HT.out).mono ?_
  rintro e w1 ⟨rfl, hb⟩
  have HB1 := Aside0.mk hb
  clear hb
  go_wp2_with fail
  refine (impl_sizeOf.calls k A0 c0 l0 z1 z2 _ (Kd.C_below HR0.out HB1.out) HC0.out HZ.out).mono ?_
  rintro e w2 ⟨rfl, hb⟩
  have HB2 := Aside0.mk (below_step HB1.out hb)
  clear hb
  go_wp2_with fail
  go_ret2
  exact ⟨_, rfl, Kd.S_nil _ _ _ _ _, HB2.out⟩
 have b1 : ((l0.length : Int) == 40) = false := beq_eq_false_iff_ne.2 c1
 have b2 : ((l0.length : Int) != 40) = true := by simp [bne, b1]
 have b3 : (l0.length == 40) = false := beq_eq_false_iff_ne.2 (by omega)
 have b4 : (l0.length != 40) = true := by simp [bne, b3]
 rw [if_neg c1] at h
 clear c1
 by_cases c2 : z1 > 100
 ·rw [if_pos c2] at h
  simp only [Option.some.injEq, Prod.mk.injEq] at h
  obtain ⟨rfl, rfl⟩ := h
  have b5 : decide (z1 > 100) = true := decide_eq_true c2
  have b6 : decide (100 < z1) = true := decide_eq_true c2
  clear c2
  go_enter Tryz.func9, Tryz.ntmps9
  go_wp2_with fail
  refine (impl_connectedCode.calls k A0 c0 l0 0 _ HR0.out HC0.out HT.out).mono ?_
  rintro e w1 ⟨rfl, hb⟩
  have HB1 := Aside0.mk hb
  clear hb
  go_wp2_with fail
  refine (impl_sizeOf.calls k A0 c0 l0 z1 z2 _ (Kd.C_below HR0.out HB1.out) HC0.out HZ.out).mono ?_
  rintro e w2 ⟨rfl, hb⟩
  have HB2 := Aside0.mk (below_step HB1.out hb)
  clear hb
  go_wp2_with fail
  go_ret2
  exact ⟨_, rfl, Kd.S_nil _ _ _ _ _, HB2.out⟩
 rw [if_neg c2] at h
 have b5 : decide (z1 > 100) = false := decide_eq_false c2
 have b6 : decide (100 < z1) = false := decide_eq_false c2
 clear c2
 by_cases c3 : z2 > 100
 ·rw [if_pos c3] at h
  simp only [Option.some.injEq, Prod.mk.injEq] at h
  obtain ⟨rfl, rfl⟩ := h
  have b7 : decide (z2 > 100) = true := decide_eq_true c3
  have b8 : decide (100 < z2) = true := decide_eq_true c3
  clear c3
  go_enter Tryz.func9, Tryz.ntmps9
  go_wp2_with fail
  refine (impl_connectedCode.calls k A0 c0 l0 0 _ HR0.out HC0.out HT.out).mono ?_
  rintro e w1 ⟨rfl, hb⟩
  have HB1 := Aside0.mk hb
  clear hb
  go_wp2_with fail
  refine (impl_sizeOf.calls k A0 c0 l0 z1 z2 _ (Kd.C_below HR0.out HB1.out) HC0.out HZ.out).mono ?_
  rintro e w2 ⟨rfl, hb⟩
  have HB2 := Aside0.mk (below_step HB1.out hb)
  clear hb
  go_wp2_with fail
  go_ret2
  exact ⟨_, rfl, Kd.S_nil _ _ _ _ _, HB2.out⟩
 rw [if_neg c3] at h
 have b7 : decide (z2 > 100) = false := decide_eq_false c3
 have b8 : decide (100 < z2) = false := decide_eq_false c3
 clear c3
 obtain ⟨q, hq, h⟩ := Option.bind_eq_some_iff.mp h
 simp only [Option.some.injEq, Prod.mk.injEq] at h
 obtain ⟨rfl, rfl⟩ := h
 have HQ := Aside0.mk hq
 clear hq
 go_enter Tryz.func9, Tryz.ntmps9
 go_wp2_with fail
 refine (impl_connectedCode.calls k A0 c0 l0 0 _ HR0.out HC0.out HT.out).mono ?_
 rintro e w1 ⟨rfl, hb⟩
 have HB1 := Aside0.mk hb
 clear hb
 go_wp2_with fail
 refine (impl_sizeOf.calls k A0 c0 l0 z1 z2 _ (Kd.C_below HR0.out HB1.out) HC0.out HZ.out).mono ?_
 rintro e w2 ⟨rfl, hb⟩
 have HB2 := Aside0.mk (below_step HB1.out hb)
 clear hb
 go_wp2_with fail
 refine (impl_grown.calls k A0 c0 l0 q _ (Kd.C_below HR0.out HB2.out) HC0.out HQ.out).mono ?_
 rintro e w3 ⟨v, rfl, hS, hb⟩
 obtain ⟨A, cc, ev⟩ := Kd.S_slice hS
 subst ev
 have HS3 := Aside0.mk (Kd.S_lower hS (below_size HB2.out))
 have HB3 := Aside0.mk (below_step HB2.out hb)
 clear hb hS
 go_wp2_with fail
 go_ret2
 exact ⟨_, rfl, HS3.out, HB3.out⟩

/-! ### spec_l04Size: function 31 -/
def spec_l04Size.l0 : Nat → List (S39) → Int → Int → Int → Int → Int → Option (Int × Int)
 | 0, _, _, _, _, _, _ => none
 | k + 1, x0, x4, x5, x6, x7, x8 => if x8 < (x0.length : Int) then (if 0 ≤ x8 then (spec_l04Size.l0 k x0 x4 x5 (mx x6 (wrap64 ((wrap64 (((rd_T39 x0 x8).f0) - x4)) + 1))) (mx x7 (wrap64 ((wrap64 (((rd_T39 x0 x8).f1) - x5)) + 1))) (wrap64 (x8 + 1))) else (none)) else (some (x6, x7))
def spec_l04Size.f (k : Nat) (l0 : List (S39)) : Option (Int × Int) := (spec_l02Least.f k l0).bind fun bt657 => (spec_l04Size.l0 k l0 bt657.1 bt657.2 0 0 0)
theorem spec_l04Size.mono_l : ∀ k, (∀ y0 y1 y2 y3 y4 y5, LeO (spec_l04Size.l0 k y0 y1 y2 y3 y4 y5) (spec_l04Size.l0 (k + 1) y0 y1 y2 y3 y4 y5))
 | 0 => fun _ _ _ _ _ _ r h => by simp [spec_l04Size.l0] at h
 | k + 1 => by
  have ih0 := spec_l04Size.mono_l k
  ·intro y0 y1 y2 y3 y4 y5
   unfold spec_l04Size.l0
   repeat' first
   | (with_reducible exact ih0 _ _ _ _ _ _)
   | (with_reducible exact spec_l02Least.mono _ _)
   | (with_reducible exact LeO.refl _)
   | (with_reducible exact LeO.none _)
   | (with_reducible refine LeO.ite ?_ ?_)
   | (with_reducible refine LeO.bind ?_ (fun _ => ?_))
   | exact ih0 _ _ _ _ _ _
   | exact spec_l02Least.mono _ _
   | exact LeO.none _
   | refine LeO.ite ?_ ?_
   | refine LeO.bind ?_ (fun _ => ?_)
theorem spec_l04Size.mono : ∀ a0 k, LeO (spec_l04Size.f k a0) (spec_l04Size.f (k + 1) a0) := by
 intro a0 k
 have ih0 := spec_l04Size.mono_l k
 unfold spec_l04Size.f
 repeat' first
   | (with_reducible exact ih0 _ _ _ _ _ _)
   | (with_reducible exact spec_l02Least.mono _ _)
   | (with_reducible exact LeO.refl _)
   | (with_reducible exact LeO.none _)
   | (with_reducible refine LeO.ite ?_ ?_)
   | (with_reducible refine LeO.bind ?_ (fun _ => ?_))
   | exact ih0 _ _ _ _ _ _
   | exact spec_l02Least.mono _ _
   | exact LeO.none _
   | refine LeO.ite ?_ ?_
   | refine LeO.bind ?_ (fun _ => ?_)
set_option maxHeartbeats 8000000 in
set_option maxRecDepth 100000 in
theorem spec_l04Size.calls (k : Nat) (A0 : Option Addr) (c0 : Nat) (l0 : List (S39)) (r1 : Int) (r2 : Int) (w : World) (hr0 : Kd.C k39 w A0 l0.length l0) (hc0 : l0.length ≤ c0) (h : spec_l04Size.f k l0 = some (r1, r2)) :
  Calls Tryz.prog 31 #[.slice A0 l0.length c0] w fun e w' => e = .returned (.tuple #[.int .i64 r1, .int .i64 r2]) ∧ Below w.heap.size w w' := by
 have HR0 := Aside0.mk hr0
 have HC0 := Aside0.mk hc0
 clear hr0 hc0
 have HB := Aside0.mk (Below.refl w.heap.size w)
 have H : ((spec_l02Least.f k l0).bind fun bt657 => (spec_l04Size.l0 k l0 bt657.1 bt657.2 0 0 0)) = some (r1, r2) := h
 clear h
 replace H := Option.bind_eq_some_iff.mp H
 obtain ⟨⟨t657, t658⟩, A20, H⟩ := H
 try dsimp only at H
 have A2 := Aside0.mk A20
 clear A20
 have H' := Aside0.mk H
 clear H
 go_enter Tryz.func31, Tryz.ntmps31
 go_wp2_with (first | ((with_reducible refine gate_callee (f := 53) rfl ?_); refine gL_ (some 11) Tryz.func53 #[.slice A0 l0.length c0] ?_; (with_reducible refine (spec_l02Least.calls k _ _ l0 t657 t658 _ ?side1 ?side2 A2.out).mono ?_); (case side1 => exact cS_ HR0.out); (case side2 => exact HC0.out); rintro e w3 ⟨rfl, hb⟩; refine ⟨_, rfl, ?_⟩; replace HB := Aside0.mk (below_step bB_ hb); (try clear hb)))
 go_loopg [6, 7, 8] k (fun kq v6 v7 v8 w' => ∃ (x6_1 : Int) (x7_1 : Int) (x8_1 : Int), v6 = .int .i64 x6_1 ∧ v7 = .int .i64 x7_1 ∧ v8 = .int .i64 x8_1 ∧ Aside0 (spec_l04Size.l0 kq l0 t657 t658 x6_1 x7_1 x8_1 = some (r1, r2)) ∧ Aside0 (kq ≤ k) ∧ Aside0 (Below w.heap.size w w'))
 case atStart => exact ⟨(0), (0), (0), r3_, r3_, r3_, H', ⟨Nat.le_refl _⟩, ⟨bB_⟩⟩
 case round =>
  clear H'
  try clear p2
  try clear c3
  obtain ⟨x6_1, x7_1, x8_1, rfl, rfl, rfl, HA, HK1, HB⟩ := hrel
  cases gk with
  | zero => exact absurd HA.out (by simp [spec_l04Size.l0])
  | succ k1 =>
   have H := HA.out
   clear HA
   simp only [spec_l04Size.l0] at H
   by_cases c4 : x8_1 < (l0.length : Int)
   ·rw [if_pos c4] at H
    have c4b0 : decide (x8_1 < (l0.length : Int)) = true := decide_eq_true c4
    clear c4
    by_cases c5 : 0 ≤ x8_1
    ·rw [if_pos c5] at H
     have c5b0 : decide (0 ≤ x8_1) = true := decide_eq_true c5
     clear c5
     obtain ⟨ji6, hji6⟩ : ∃ j_ : Int, (mx x6_1 (wrap64 ((wrap64 (((rd_T39 l0 x8_1).f0) - t657)) + 1))) = j_ := ⟨_, rfl⟩
     replace H : (spec_l04Size.l0 k1 l0 t657 t658 ji6 (mx x7_1 (wrap64 ((wrap64 (((rd_T39 l0 x8_1).f1) - t658)) + 1))) (wrap64 (x8_1 + 1))) = some (r1, r2) := by first | (rw [hji6] at H; exact H) | (simp only [hji6] at H ⊢; exact H)
     have hji6_ : (if x6_1 < (wrap64 ((wrap64 (((rd_T39 l0 x8_1).f0) - t657)) + 1)) then (wrap64 ((wrap64 (((rd_T39 l0 x8_1).f0) - t657)) + 1)) else x6_1) = ji6 := hji6
     obtain ⟨ji7, hji7⟩ : ∃ j_ : Int, (mx x7_1 (wrap64 ((wrap64 (((rd_T39 l0 x8_1).f1) - t658)) + 1))) = j_ := ⟨_, rfl⟩
     replace H : (spec_l04Size.l0 k1 l0 t657 t658 ji6 ji7 (wrap64 (x8_1 + 1))) = some (r1, r2) := by first | (rw [hji7] at H; exact H) | (simp only [hji7] at H ⊢; exact H)
     have hji7_ : (if x7_1 < (wrap64 ((wrap64 (((rd_T39 l0 x8_1).f1) - t658)) + 1)) then (wrap64 ((wrap64 (((rd_T39 l0 x8_1).f1) - t658)) + 1)) else x7_1) = ji7 := hji7
     have H' := Aside0.mk H
     clear H
     have p659 : 0 ≤ (x8_1 : Int) := of_decide_eq_true aS_
     have q659 : x8_1 < (l0.length : Int) := of_decide_eq_true aS_
     obtain ⟨ad659, e659, hx659_0, hx659_1⟩ := at_T39 HR0.out x8_1 p659 q659
     cases e659
     replace hx659_0 := (HB.out.cell (World.block_lt_of_cell? w _ hx659_0)).trans hx659_0
     replace hx659_1 := (HB.out.cell (World.block_lt_of_cell? w _ hx659_1)).trans hx659_1
     replace p659 := eq_true p659
     replace q659 := eq_true q659
     have p660 : 0 ≤ (x8_1 : Int) := of_decide_eq_true aS_
     have q660 : x8_1 < (l0.length : Int) := of_decide_eq_true aS_
     obtain ⟨ad660, e660, hx660_0, hx660_1⟩ := at_T39 HR0.out x8_1 p660 q660
     obtain rfl : ad659 = ad660 := (by injection e660)
     replace hx660_0 := (HB.out.cell (World.block_lt_of_cell? w _ hx660_0)).trans hx660_0
     replace hx660_1 := (HB.out.cell (World.block_lt_of_cell? w _ hx660_1)).trans hx660_1
     replace p660 := eq_true p660
     replace q660 := eq_true q660
     go_wp2
     go_roundg k1
     case measure => have := HK1.out; omega
     case rel => exact ⟨(ji6), (ji7), (wrap64 (x8_1 + 1)), (by first | rfl | (simp; done) | (simp only [← hji6] <;> (first | rfl | simp)) | (simp [*]; done)), (by first | rfl | (simp; done) | (simp only [← hji7] <;> (first | rfl | simp)) | (simp [*]; done)), r3_, H', ⟨by have := HK1.out; omega⟩, ⟨bB_⟩⟩
    ·rw [if_neg c5] at H
     exact absurd H (by simp)
   ·rw [if_neg c4] at H
    have c4b0 : decide (x8_1 < (l0.length : Int)) = false := decide_eq_false c4
    clear c4
    simp only [Option.some.injEq, Prod.mk.injEq] at H
    obtain ⟨rfl, rfl⟩ := H
    go_wp2
    go_ret2
    exact ⟨r2_, bB_⟩

/-! ### spec_l05Grow: function 32 -/
def spec_l05Grow.l0 : Nat → List (List (S39)) → List (S39) → List (S39) → Int → Option ((List (List (S39))))
 | 0, _, _, _, _ => none
 | k + 1, x0, x1, x5, x6 => if x6 < (x5.length : Int) then (if 0 ≤ x6 then ((spec_l02Insert.f k x1 ((rd_T39 x5 x6).f0) ((rd_T39 x5 x6).f1)).bind fun t665 => ((spec_l02Normal.f k t665).bind fun t668 => ((spec_l03Add.f k x0 t668).bind fun t671 => (spec_l05Grow.l0 k t671 x1 x5 (wrap64 (x6 + 1)))))) else (none)) else (some x0)
def spec_l05Grow.f (k : Nat) (l0 : List (List (S39))) (l1 : List (S39)) : Option ((List (List (S39)))) := (spec_l02Neighbours.f k l1).bind fun t661 => (spec_l05Grow.l0 k l0 l1 t661 0)
theorem spec_l05Grow.mono_l : ∀ k, (∀ y0 y1 y2 y3, LeO (spec_l05Grow.l0 k y0 y1 y2 y3) (spec_l05Grow.l0 (k + 1) y0 y1 y2 y3))
 | 0 => fun _ _ _ _ r h => by simp [spec_l05Grow.l0] at h
 | k + 1 => by
  have ih0 := spec_l05Grow.mono_l k
  ·intro y0 y1 y2 y3
   unfold spec_l05Grow.l0
   repeat' first
   | (with_reducible exact ih0 _ _ _ _)
   | (with_reducible exact spec_l02Insert.mono _ _ _ _)
   | (with_reducible exact spec_l02Neighbours.mono _ _)
   | (with_reducible exact spec_l02Normal.mono _ _)
   | (with_reducible exact spec_l03Add.mono _ _ _)
   | (with_reducible exact LeO.refl _)
   | (with_reducible exact LeO.none _)
   | (with_reducible refine LeO.ite ?_ ?_)
   | (with_reducible refine LeO.bind ?_ (fun _ => ?_))
   | exact ih0 _ _ _ _
   | exact spec_l02Insert.mono _ _ _ _
   | exact spec_l02Neighbours.mono _ _
   | exact spec_l02Normal.mono _ _
   | exact spec_l03Add.mono _ _ _
   | exact LeO.none _
   | refine LeO.ite ?_ ?_
   | refine LeO.bind ?_ (fun _ => ?_)
theorem spec_l05Grow.mono : ∀ a0 a1 k, LeO (spec_l05Grow.f k a0 a1) (spec_l05Grow.f (k + 1) a0 a1) := by
 intro a0 a1 k
 have ih0 := spec_l05Grow.mono_l k
 unfold spec_l05Grow.f
 repeat' first
   | (with_reducible exact ih0 _ _ _ _)
   | (with_reducible exact spec_l02Insert.mono _ _ _ _)
   | (with_reducible exact spec_l02Neighbours.mono _ _)
   | (with_reducible exact spec_l02Normal.mono _ _)
   | (with_reducible exact spec_l03Add.mono _ _ _)
   | (with_reducible exact LeO.refl _)
   | (with_reducible exact LeO.none _)
   | (with_reducible refine LeO.ite ?_ ?_)
   | (with_reducible refine LeO.bind ?_ (fun _ => ?_))
   | exact ih0 _ _ _ _
   | exact spec_l02Insert.mono _ _ _ _
   | exact spec_l02Neighbours.mono _ _
   | exact spec_l02Normal.mono _ _
   | exact spec_l03Add.mono _ _ _
   | exact LeO.none _
   | refine LeO.ite ?_ ?_
   | refine LeO.bind ?_ (fun _ => ?_)
set_option maxHeartbeats 8000000 in
set_option maxRecDepth 100000 in
theorem spec_l05Grow.calls (k : Nat) (P0_ : Nat → Prop) (A0 : Option Addr) (c0 : Nat) (l0 : List (List (S39))) (A1 : Option Addr) (c1 : Nat) (l1 : List (S39)) (r : List (List (S39))) (w : World) (hs0 : Kd.V (Kd.slice 39 k39) 24 w w.heap.size (fun k_ => P0_ k_) (.slice A0 l0.length c0) l0) (hr1 : Kd.C k39 w A1 l1.length l1) (hc1 : l1.length ≤ c1) (h : spec_l05Grow.f k l0 l1 = some r) :
  Calls Tryz.prog 32 #[.slice A0 l0.length c0, .slice A1 l1.length c1] w fun e w' => ∃ v0_ : Value, e = .returned (v0_) ∧ Kd.V (Kd.slice 39 k39) 24 w' w.heap.size (fun k_ => (P0_ k_ ∨ w.heap.size ≤ k_)) v0_ r ∧ Below w.heap.size w w' := by
 have hu39 := Tryz.underlying39
 have HO0 := Aside0.mk (show Kd.V (Kd.slice 39 k39) 24 w w.heap.size (fun k_ => (P0_ k_ ∨ w.heap.size ≤ k_)) (.slice A0 l0.length c0) l0 from Kd.V_mono hs0 (fun k_ hk => .inl hk))
 have HR1 := Aside0.mk hr1
 have HC1 := Aside0.mk hc1
 clear hr1 hc1
 have HB := Aside0.mk (Below.refl w.heap.size w)
 have H : ((spec_l02Neighbours.f k l1).bind fun t661 => (spec_l05Grow.l0 k l0 l1 t661 0)) = some r := h
 clear h
 replace H := Option.bind_eq_some_iff.mp H
 obtain ⟨t661, A30, H⟩ := H
 try dsimp only at H
 have A3 := Aside0.mk A30
 clear A30
 have H' := Aside0.mk H
 clear H
 go_enter Tryz.func32, Tryz.ntmps32
 go_wp2_with (first | ((with_reducible refine gate_callee (f := 57) rfl ?_); refine gL_ (some 8) Tryz.func57 #[.slice A1 l1.length c1] ?_; (with_reducible refine (spec_l02Neighbours.calls k _ _ l1 t661 _ ?side1 ?side2 A3.out).mono ?_); (case side1 => exact cS_ HR1.out); (case side2 => exact HC1.out); rintro e w4 ⟨v662, rfl, ho0, hb⟩; refine ⟨_, rfl, ?_⟩; replace HO0 := Aside0.mk (Kd.V_elder' (by (with_reducible repeat (first | apply Kd.V_alloc | apply Kd.V_drewN | apply Kd.V_drew)); exact HO0.out) (Kd.R_base ho0) hb); have HO663 := Aside0.mk (Kd.R_lower (Kd.R_newM (M := fun k_ => (w.heap.size ≤ k_)) ho0 (below_size bB_) (fun k_ h_ => h_)) (below_size bB_)); replace HB := Aside0.mk (below_step bB_ hb); (try clear hb ho0)))
 go_loopg [0, 6] k (fun kq v0 v6 w' => ∃ (x0_1 : List (List (S39))) (x6_1 : Int), v6 = .int .i64 x6_1 ∧ Aside0 (spec_l05Grow.l0 kq x0_1 l1 t661 x6_1 = some r) ∧ Aside0 (kq ≤ k) ∧ Aside0 (Kd.V (Kd.slice 39 k39) 24 w' w.heap.size (fun k_ => (P0_ k_ ∨ w.heap.size ≤ k_) ∧ some k_ ≠ (v662 : Value).ownBlock) v0 x0_1) ∧ Aside0 (Kd.R k39 39 w' w.heap.size (fun k_ => (w.heap.size ≤ k_)) v662 t661) ∧ Aside0 (Below w.heap.size w w'))
 case atStart => exact ⟨(l0), (0), r3_, H', ⟨Nat.le_refl _⟩, ⟨by (with_reducible repeat (first | apply Kd.V_alloc | apply Kd.V_drewN | apply Kd.V_drew)); exact HO0.out⟩, ⟨rS_ (Kd.R_mono HO663.out (fun _ hk => hk.1))⟩, ⟨bB_⟩⟩
 case round =>
  clear H'
  try clear c1
  try clear p2
  try clear c3
  obtain ⟨x0_1, x6_1, rfl, HA, HK1, HO_0, HO_5, HB⟩ := hrel
  cases gk with
  | zero => exact absurd HA.out (by simp [spec_l05Grow.l0])
  | succ k1 =>
   have H := HA.out
   clear HA
   simp only [spec_l05Grow.l0] at H
   by_cases c5 : x6_1 < (t661.length : Int)
   ·rw [if_pos c5] at H
    have c5b0 : decide (x6_1 < (t661.length : Int)) = true := decide_eq_true c5
    clear c5
    by_cases c6 : 0 ≤ x6_1
    ·rw [if_pos c6] at H
     have c6b0 : decide (0 ≤ x6_1) = true := decide_eq_true c6
     clear c6
     replace H := Option.bind_eq_some_iff.mp H
     obtain ⟨t665, A70, H⟩ := H
     try dsimp only at H
     have A7 := Aside0.mk A70
     clear A70
     replace H := Option.bind_eq_some_iff.mp H
     obtain ⟨t668, A80, H⟩ := H
     try dsimp only at H
     have A8 := Aside0.mk A80
     clear A80
     replace H := Option.bind_eq_some_iff.mp H
     obtain ⟨t671, A90, H⟩ := H
     try dsimp only at H
     have A9 := Aside0.mk A90
     clear A90
     have H' := Aside0.mk H
     clear H
     obtain ⟨Ao10, co10, eo10⟩ := Kd.R_slice HO_5.out
     subst eo10
     have p664 : 0 ≤ (x6_1 : Int) := of_decide_eq_true aS_
     have q664 : x6_1 < (t661.length : Int) := of_decide_eq_true aS_
     obtain ⟨ad664, e664, hx664_0, hx664_1⟩ := at_T39 (Kd.R_reads' HO_5.out).2.2 x6_1 p664 q664
     cases e664
     replace p664 := eq_true p664
     replace q664 := eq_true q664
     go_wp2_with (first | ((with_reducible refine gate_callee (f := 58) rfl ?_); refine gL_ (some 21) Tryz.func58 #[.slice A1 l1.length c1, .agg #[.int .i64 ((rd_T39 t661 x6_1).f0), .int .i64 ((rd_T39 t661 x6_1).f1)]] ?_; (with_reducible refine (spec_l02Insert.calls k1 _ _ l1 ((rd_T39 t661 x6_1).f0) ((rd_T39 t661 x6_1).f1) t665 _ ?side1 ?side2 A7.out).mono ?_); (case side1 => exact cS_ (Kd.C_below HR1.out HB.out)); (case side2 => exact HC1.out); rintro e w11 ⟨v666, rfl, ho0, hb⟩; refine ⟨_, rfl, ?_⟩; replace HO_0 := Aside0.mk (Kd.V_elder' (by (with_reducible repeat (first | apply Kd.V_alloc | apply Kd.V_drewN | apply Kd.V_drew)); exact HO_0.out) (Kd.R_base ho0) hb); have HO667 := Aside0.mk (Kd.R_lower (Kd.R_new' (Kd.R_newM (M := fun k_ => (w.heap.size ≤ k_)) ho0 (below_size bB_) (fun k_ h_ => h_)) (Kd.R_lt (rS_ HO_5.out))) (below_size bB_)); replace HO_5 := Aside0.mk (Kd.R_elder' (rS_ HO_5.out) (Kd.R_base ho0) hb); replace HB := Aside0.mk (below_step bB_ hb); (try clear hb ho0); obtain ⟨Ao12, co12, eo12⟩ := Kd.R_slice HO667.out; subst eo12) | ((with_reducible refine gate_callee (f := 28) rfl ?_); refine gL_ (some 22) Tryz.func28 #[.slice Ao12 t665.length co12] ?_; (with_reducible refine (spec_l02Normal.calls k1 _ _ t665 t668 _ ?side1 ?side2 A8.out).mono ?_); (case side1 => exact cS_ ((Kd.R_reads' HO667.out).2.2)); (case side2 => exact (Kd.R_reads' HO667.out).2.1); rintro e w13 ⟨v669, rfl, ho0, hb⟩; refine ⟨_, rfl, ?_⟩; replace HO_0 := Aside0.mk (Kd.V_elder' (by (with_reducible repeat (first | apply Kd.V_alloc | apply Kd.V_drewN | apply Kd.V_drew)); exact HO_0.out) (Kd.R_base ho0) hb); have HO670 := Aside0.mk (Kd.R_lower (Kd.R_new' (Kd.R_new' (Kd.R_newM (M := fun k_ => (w.heap.size ≤ k_)) ho0 (below_size bB_) (fun k_ h_ => h_)) (Kd.R_lt (rS_ HO_5.out))) (Kd.R_lt (rS_ HO667.out))) (below_size bB_)); replace HO_5 := Aside0.mk (Kd.R_elder' (rS_ HO_5.out) (Kd.R_base ho0) hb); replace HO667 := Aside0.mk (Kd.R_elder' (rS_ HO667.out) (Kd.R_base ho0) hb); replace HB := Aside0.mk (below_step bB_ hb); (try clear hb ho0); obtain ⟨Ao14, co14, eo14⟩ := Kd.V_slice HO_0.out; subst eo14; obtain ⟨Ao15, co15, eo15⟩ := Kd.R_slice HO670.out; subst eo15) | ((with_reducible refine gate_callee (f := 27) rfl ?_); refine gL_ (some 23) Tryz.func27 #[.slice Ao14 x0_1.length co14, .slice Ao15 t668.length co15] ?_; (with_reducible refine (spec_l03Add.calls k1 (fun k_ => ((((P0_ k_ ∨ w.heap.size ≤ k_) ∧ some k_ ≠ (.slice (some ad664) t661.length co10 : Value).ownBlock) ∧ some k_ ≠ (.slice Ao12 t665.length co12 : Value).ownBlock) ∧ some k_ ≠ (.slice Ao15 t668.length co15 : Value).ownBlock)) _ _ x0_1 (fun k_ => some k_ = (.slice Ao15 t668.length co15 : Value).ownBlock) _ _ t668 t671 _ ?side1 ?side2 A9.out).mono ?_); (case side1 => exact HO_0.out); (case side2 => exact Kd.R_V (Kd.R_tight rfl (HO670.out))); rintro e w16 ⟨v672, rfl, ho0, hb⟩; refine ⟨_, rfl, ?_⟩; replace HO_0 := Aside0.mk (Kd.V_below (by (with_reducible repeat (first | apply Kd.V_alloc | apply Kd.V_drewN | apply Kd.V_drew)); exact HO_0.out) hb); have HO673 := Aside0.mk (Kd.V_lower (Kd.V_mono (ok' := fun k_ => (P0_ k_ ∨ w.heap.size ≤ k_) ∧ some k_ ≠ (.slice (some ad664) t661.length co10 : Value).ownBlock ∧ some k_ ≠ (.slice Ao12 t665.length co12 : Value).ownBlock) ho0 (fun k_ hk_ => ⟨Or.elim hk_ (fun hs_ => Or.elim hs_ (fun hs_ => hs_.1.1.1) (fun hs_ => (.inr (((HO670.out).1 k_ hs_.symm).1.1.1)))) (fun hn_ => (.inr (Nat.le_trans (below_size bB_) hn_))), Or.elim hk_ (fun hs_ => Or.elim hs_ (fun hs_ => hs_.1.1.2) (fun hs_ => ((HO670.out).1 k_ hs_.symm).1.2)) (fun hn_ => (Kd.fresh' (Kd.R_lt (rS_ HO_5.out)) k_ hn_)), Or.elim hk_ (fun hs_ => Or.elim hs_ (fun hs_ => hs_.1.2) (fun hs_ => ((HO670.out).1 k_ hs_.symm).2)) (fun hn_ => (Kd.fresh' (Kd.R_lt (rS_ HO667.out)) k_ hn_))⟩)) (below_size bB_)); replace HO_5 := Aside0.mk (Kd.R_below (rS_ HO_5.out) hb); replace HO667 := Aside0.mk (Kd.R_below (rS_ HO667.out) hb); replace HO670 := Aside0.mk (Kd.R_below (rS_ HO670.out) hb); replace HB := Aside0.mk (below_step bB_ hb); (try clear hb ho0)))
     go_roundg k1
     case measure => have := HK1.out; omega
     case rel => exact ⟨(t671), (wrap64 (x6_1 + 1)), r3_, H', ⟨by have := HK1.out; omega⟩, ⟨by (with_reducible repeat (first | apply Kd.V_alloc | apply Kd.V_drewN | apply Kd.V_drew)); exact Kd.V_mono HO673.out (fun _ hk => ⟨hk.1, hk.2.1⟩)⟩, ⟨rS_ (Kd.R_mono HO_5.out (fun _ hk => hk.1.1))⟩, ⟨bB_⟩⟩
    ·rw [if_neg c6] at H
     exact absurd H (by simp)
   ·rw [if_neg c5] at H
    have c5b0 : decide (x6_1 < (t661.length : Int)) = false := decide_eq_false c5
    clear c5
    obtain rfl := Option.some.inj H
    obtain ⟨Ao17, co17, eo17⟩ := Kd.R_slice HO_5.out
    subst eo17
    go_wp2
    go_ret
    exact ⟨_, r2_, by (with_reducible repeat (first | apply Kd.V_alloc | apply Kd.V_drewN | apply Kd.V_drew)); exact Kd.V_mono HO_0.out (fun _ hk => hk.1), bB_⟩

end Go.Proofs.YtbkafaoehheioaaGreat.X
