-- xprint.py
import Derived.Lib.ConvBytes
import Derived.Shelf.Strings.OnBuilder
import Derived.Shelf.Strings.Repeat
import Derived.Test.YtpilmhjbgbpbmaaDoorXx0
namespace Go.Proofs.YtpilmhjbgbpbmaaDoor.X
open Go.RowKit Go.Proofs.YtpilmhjbgbpbmaaDoorW.PrintWords Go.Proofs.YtpilmhjbgbpbmaaDoorW.PrintLast Go.Proofs.YtpilmhjbgbpbmaaDoorW.PrintMore
attribute [local go_sem] max2_int min2_int max_two min_two max_three min_three max_four min_four   -- for this text's walks alone
set_option linter.unusedVariables false
set_option linter.unusedSimpArgs false

/-! ### impl_corner: function 41 -/
def impl_corner.l0 : Nat → List (S43) → Int → Int → Int → Int → Option (Int × Int)
 | 0, _, _, _, _, _ => none
 | k + 1, x9, x10, x11, x284000, x284001 => if x11 < x10 then (if 0 ≤ x11 then (if x11 < (x9.length : Int) then (impl_corner.l0 k x9 x10 (wrap64 (x11 + 1)) (mn x284000 ((rd_T43 x9 x11).f0)) (mn x284001 ((rd_T43 x9 x11).f1))) else (none)) else (none)) else (some (x284000, x284001))
def impl_corner.f (k : Nat) (l0 : List (S43)) : Option (Int × Int) := if 0 < (l0.length : Int) then (impl_corner.l0 k l0 (l0.length : Int) 0 ((rd_T43 l0 0).f0) ((rd_T43 l0 0).f1)) else (none)
theorem impl_corner.mono_l : ∀ k, (∀ y0 y1 y2 y3 y4, LeO (impl_corner.l0 k y0 y1 y2 y3 y4) (impl_corner.l0 (k + 1) y0 y1 y2 y3 y4))
 | 0 => fun _ _ _ _ _ r h => by simp [impl_corner.l0] at h
 | k + 1 => by
  have ih0 := impl_corner.mono_l k
  ·intro y0 y1 y2 y3 y4
   unfold impl_corner.l0
   repeat' first
   | (with_reducible exact ih0 _ _ _ _ _)
   | (with_reducible exact LeO.refl _)
   | (with_reducible exact LeO.none _)
   | (with_reducible refine LeO.ite ?_ ?_)
   | (with_reducible refine LeO.bind ?_ (fun _ => ?_))
   | exact ih0 _ _ _ _ _
   | exact LeO.none _
   | refine LeO.ite ?_ ?_
   | refine LeO.bind ?_ (fun _ => ?_)
theorem impl_corner.mono : ∀ a0 k, LeO (impl_corner.f k a0) (impl_corner.f (k + 1) a0) := by
 intro a0 k
 have ih0 := impl_corner.mono_l k
 unfold impl_corner.f
 repeat' first
   | (with_reducible exact ih0 _ _ _ _ _)
   | (with_reducible exact LeO.refl _)
   | (with_reducible exact LeO.none _)
   | (with_reducible refine LeO.ite ?_ ?_)
   | (with_reducible refine LeO.bind ?_ (fun _ => ?_))
   | exact ih0 _ _ _ _ _
   | exact LeO.none _
   | refine LeO.ite ?_ ?_
   | refine LeO.bind ?_ (fun _ => ?_)
set_option maxHeartbeats 8000000 in
set_option maxRecDepth 100000 in
theorem impl_corner.calls (k : Nat) (A0 : Option Addr) (c0 : Nat) (l0 : List (S43)) (r1 : Int) (r2 : Int) (w : World) (hr0 : Kd.C k43 w A0 l0.length l0) (hc0 : l0.length ≤ c0) (h : impl_corner.f k l0 = some (r1, r2)) :
  Calls Tryd.prog 41 #[.slice A0 l0.length c0] w fun e w' => e = .returned (.agg #[.int .i64 r1, .int .i64 r2]) ∧ Below w.heap.size w w' := by
 have hu43 := Tryd.underlying43
 have HR0 := Aside0.mk hr0
 have HC0 := Aside0.mk hc0
 clear hr0 hc0
 have HB := Aside0.mk (Below.refl w.heap.size w)
 have H : (if 0 < (l0.length : Int) then (impl_corner.l0 k l0 (l0.length : Int) 0 ((rd_T43 l0 0).f0) ((rd_T43 l0 0).f1)) else (none)) = some (r1, r2) := h
 clear h
 by_cases c2 : 0 < (l0.length : Int)
 ·rw [if_pos c2] at H
  have c2b0 : decide (0 < (l0.length : Int)) = true := decide_eq_true c2
  have c2b1 : decide (0 < l0.length) = true := decide_eq_true (by omega)
  clear c2
  have H' := Aside0.mk H
  clear H
  go_enter Tryd.func41, Tryd.ntmps41
  go_wp2_with (first | ((with_reducible refine gate_dst (N := 2) rfl ?_); refine box_event ?hg (N := 2) ?hd (cs := #[.int .i64 0, .int .i64 0]) (t := 43) ?hr ?_; (case hd => rfl); (case hg => rfl); (case hr => first | (go_simp; done) | (go_simp; rfl)); intro gb281 hg w3 hbox hb; have BK281 := Aside0.mk (hbox); have GW281 := Aside0.mk ((by rw [hg]; exact (below_size bB_) : w.heap.size ≤ gb281)); have GE281 := Aside0.mk ((by rw [hg]; exact (below_size bB_) : w.heap.size ≤ gb281)); replace HB := Aside0.mk (below_step bB_ hb); clear hb hbox hg; have p282 : 0 ≤ (0 : Int) := (by omega); have q282 : 0 < (l0.length : Int) := of_decide_eq_true aS_; obtain ⟨ad282, e282, hx282_0, hx282_1⟩ := at_T43 HR0.out 0 p282 q282; cases e282; have qi282 : (0 < l0.length) = True := eq_true (by omega); (try rw [show ((0 : Int)).toNat = 0 from rfl] at hx282_0); (try rw [show 0 * 2 = 0 from rfl] at hx282_0); (try rw [Addr.add_zero'] at hx282_0); (try rw [show ((0 : Int)).toNat = 0 from rfl] at hx282_1); (try rw [show 0 * 2 = 0 from rfl] at hx282_1); (try rw [Addr.add_zero'] at hx282_1); replace hx282_0 := (HB.out.cell (World.block_lt_of_cell? w _ hx282_0)).trans hx282_0; replace hx282_1 := (HB.out.cell (World.block_lt_of_cell? w _ hx282_1)).trans hx282_1; replace p282 := eq_true p282; replace q282 := eq_true q282) | ((with_reducible refine gate_dst (N := 3) rfl ?_); refine box_event ?hg (N := 3) ?hd (cs := #[.int .i64 0, .int .i64 0]) (t := 43) ?hr ?_; (case hd => rfl); (case hg => rfl); (case hr => first | (go_simp; done) | (go_simp; rfl)); intro gb283 hg w4 hbox hb; have BK283 := Aside0.mk (hbox); have GW283 := Aside0.mk ((by rw [hg]; exact (below_size (by repeat (first | (with_reducible first | exact HB.out | apply below_alloc | apply pw_below_drewN | apply below_drew1 | refine below_set ?_ GE281.out) | exact HB.out))) : w.heap.size ≤ gb283)); have GE283 := Aside0.mk ((by rw [hg]; exact (below_size (by repeat (first | (with_reducible first | exact HB.out | apply below_alloc | apply pw_below_drewN | apply below_drew1 | refine below_set ?_ GE281.out) | exact HB.out))) : w.heap.size ≤ gb283)); replace HB := Aside0.mk (below_step (by repeat (first | (with_reducible first | exact HB.out | apply below_alloc | apply pw_below_drewN | apply below_drew1 | refine below_set ?_ GE281.out) | exact HB.out)) hb); have NB281_283 := Aside0.mk ((by rw [hg]; exact Nat.ne_of_lt (blk_lt (g := gb281) (o := .cells #[.int .i64 0, .int .i64 0] 43 (0, 0)) (by (with_reducible repeat (first | refine blk_drewN ?_ _ | refine blk_drew ?_ | refine blk_alloc ?_ _)); exact BK281.out)) : gb281 ≠ gb283)); have NB283_281 := Aside0.mk ((by rw [hg]; exact Nat.ne_of_gt (blk_lt (g := gb281) (o := .cells #[.int .i64 0, .int .i64 0] 43 (0, 0)) (by (with_reducible repeat (first | refine blk_drewN ?_ _ | refine blk_drew ?_ | refine blk_alloc ?_ _)); exact BK281.out)) : gb283 ≠ gb281)); replace BK281 := Aside0.mk (blk_below (g := gb281) (o := .cells #[.int .i64 0, .int .i64 0] 43 (0, 0)) (by (with_reducible repeat (first | refine blk_drewN ?_ _ | refine blk_drew ?_ | refine blk_alloc ?_ _)); exact BK281.out) hb); clear hb hbox hg; have hnb5 := NB283_281.out; have hnc5 := NB281_283.out; have hcz6_0 : w4.cell? ⟨gb283, 0, none⟩ = some (.int .i64 0) := (blk_cell BK283.out 0).trans rfl; have hcz6_1 : w4.cell? ⟨gb283, 1, none⟩ = some (.int .i64 0) := (blk_cell BK283.out 1).trans rfl; have hfz6_0 := blk_frozen BK283.out 0; have hfz6_1 := blk_frozen BK283.out 1))
  go_loopg [11] k (fun kq v11 w' => ∃ (x11_1 : Int) (x284000_1 : Int) (x284001_1 : Int), v11 = .int .i64 x11_1 ∧ Aside0 (impl_corner.l0 kq l0 (l0.length : Int) x11_1 x284000_1 x284001_1 = some (r1, r2)) ∧ Aside0 (kq ≤ k) ∧ Aside0 (w'.heap[gb281]? = some (.cells #[.int .i64 0, .int .i64 0] 43 (0, 0))) ∧ Aside0 (w'.heap[gb283]? = some (.cells #[.int .i64 x284000_1, .int .i64 x284001_1] 43 (0, 0))) ∧ Aside0 (Below w.heap.size w w'))
  case atStart => exact ⟨(0), ((rd_T43 l0 0).f0), ((rd_T43 l0 0).f1), r3_, H', ⟨Nat.le_refl _⟩, ⟨by (with_reducible repeat (first | refine blk_drewN ?_ _ | refine blk_drew ?_ | refine blk_alloc ?_ _)); refine blk_far ?_ NB281_283.out _; (with_reducible repeat (first | refine blk_drewN ?_ _ | refine blk_drew ?_ | refine blk_alloc ?_ _)); refine blk_far ?_ NB281_283.out _; (with_reducible repeat (first | refine blk_drewN ?_ _ | refine blk_drew ?_ | refine blk_alloc ?_ _)); exact BK281.out⟩, ⟨by (with_reducible repeat (first | refine blk_drewN ?_ _ | refine blk_drew ?_ | refine blk_alloc ?_ _)); refine blk_put (cs := #[.int .i64 ((rd_T43 l0 0).f0), .int .i64 0]) ?_ 1 _ rfl; (with_reducible repeat (first | refine blk_drewN ?_ _ | refine blk_drew ?_ | refine blk_alloc ?_ _)); refine blk_put (cs := #[.int .i64 0, .int .i64 0]) ?_ 0 _ rfl; (with_reducible repeat (first | refine blk_drewN ?_ _ | refine blk_drew ?_ | refine blk_alloc ?_ _)); exact BK283.out⟩, ⟨by repeat (first | (with_reducible first | exact HB.out | apply below_alloc | apply pw_below_drewN | apply below_drew1 | refine below_set ?_ GE281.out | refine below_set ?_ GE283.out) | exact HB.out)⟩⟩
  case round =>
   clear H'
   try clear c2
   try clear c2b0
   try clear c2b1
   try clear p2
   try clear q2
   try clear hx2
   try clear qi2
   try clear c4
   try clear c5
   try clear hcz6_0
   try clear hcz6_1
   try clear hfz6_0
   try clear hfz6_1
   try clear hx282_0
   try clear hx282_1
   try clear p282
   try clear q282
   obtain ⟨x11_1, x284000_1, x284001_1, rfl, HA, HK1, BK281, BK283, HB⟩ := hrel
   cases gk with
   | zero => exact absurd HA.out (by simp [impl_corner.l0])
   | succ k1 =>
    have H := HA.out
    clear HA
    simp only [impl_corner.l0] at H
    by_cases c7 : x11_1 < (l0.length : Int)
    ·rw [if_pos c7] at H
     have c7b0 : decide (x11_1 < (l0.length : Int)) = true := decide_eq_true c7
     clear c7
     by_cases c8 : 0 ≤ x11_1
     ·rw [if_pos c8] at H
      have c8b0 : decide (0 ≤ x11_1) = true := decide_eq_true c8
      clear c8
      by_cases c9 : x11_1 < (l0.length : Int)
      ·rw [if_pos c9] at H
       have c9b0 : decide (x11_1 < (l0.length : Int)) = true := decide_eq_true c9
       clear c9
       obtain ⟨ji10, hji10⟩ : ∃ j_ : Int, (mn x284000_1 ((rd_T43 l0 x11_1).f0)) = j_ := ⟨_, rfl⟩
       replace H : (impl_corner.l0 k1 l0 (l0.length : Int) (wrap64 (x11_1 + 1)) ji10 (mn x284001_1 ((rd_T43 l0 x11_1).f1))) = some (r1, r2) := by first | (rw [hji10] at H; exact H) | (simp only [hji10] at H ⊢; exact H)
       have hji10_ : (if ((rd_T43 l0 x11_1).f0) < x284000_1 then ((rd_T43 l0 x11_1).f0) else x284000_1) = ji10 := hji10
       obtain ⟨ji11, hji11⟩ : ∃ j_ : Int, (mn x284001_1 ((rd_T43 l0 x11_1).f1)) = j_ := ⟨_, rfl⟩
       replace H : (impl_corner.l0 k1 l0 (l0.length : Int) (wrap64 (x11_1 + 1)) ji10 ji11) = some (r1, r2) := by first | (rw [hji11] at H; exact H) | (simp only [hji11] at H ⊢; exact H)
       have hji11_ : (if ((rd_T43 l0 x11_1).f1) < x284001_1 then ((rd_T43 l0 x11_1).f1) else x284001_1) = ji11 := hji11
       have H' := Aside0.mk H
       clear H
       have p284 : 0 ≤ (x11_1 : Int) := of_decide_eq_true aS_
       have q284 : x11_1 < (l0.length : Int) := of_decide_eq_true aS_
       obtain ⟨ad284, e284, hx284_0, hx284_1⟩ := at_T43 HR0.out x11_1 p284 q284
       obtain rfl : ad282 = ad284 := (by injection e284)
       replace hx284_0 := (HB.out.cell (World.block_lt_of_cell? w _ hx284_0)).trans hx284_0
       replace hx284_1 := (HB.out.cell (World.block_lt_of_cell? w _ hx284_1)).trans hx284_1
       replace p284 := eq_true p284
       replace q284 := eq_true q284
       go_wp2_with (first | ((with_reducible refine gate_dst (N := 5) rfl ?_); refine box_event ?hg (N := 5) ?hd (cs := #[.int .i64 0, .int .i64 0]) (t := 43) ?hr ?_; (case hd => rfl); (case hg => rfl); (case hr => first | (go_simp; done) | (go_simp; rfl)); intro gb285 hg w12 hbox hb; have BK285 := Aside0.mk (hbox); have GW285 := Aside0.mk ((by rw [hg]; exact (below_size (by repeat (first | (with_reducible first | exact HB.out | apply below_alloc | apply pw_below_drewN | apply below_drew1 | refine below_set ?_ GE281.out | refine below_set ?_ GE283.out) | exact HB.out))) : w.heap.size ≤ gb285)); have GE285 := Aside0.mk ((by rw [hg]; exact (below_size (by repeat (first | (with_reducible first | exact HB.out | apply below_alloc | apply pw_below_drewN | apply below_drew1 | refine below_set ?_ GE281.out | refine below_set ?_ GE283.out) | exact HB.out))) : w.heap.size ≤ gb285)); replace HB := Aside0.mk (below_step (by repeat (first | (with_reducible first | exact HB.out | apply below_alloc | apply pw_below_drewN | apply below_drew1 | refine below_set ?_ GE281.out | refine below_set ?_ GE283.out) | exact HB.out)) hb); have NB281_285 := Aside0.mk ((by rw [hg]; exact Nat.ne_of_lt (blk_lt (g := gb281) (o := .cells #[.int .i64 0, .int .i64 0] 43 (0, 0)) (by (with_reducible repeat (first | refine blk_drewN ?_ _ | refine blk_drew ?_ | refine blk_alloc ?_ _)); exact BK281.out)) : gb281 ≠ gb285)); have NB285_281 := Aside0.mk ((by rw [hg]; exact Nat.ne_of_gt (blk_lt (g := gb281) (o := .cells #[.int .i64 0, .int .i64 0] 43 (0, 0)) (by (with_reducible repeat (first | refine blk_drewN ?_ _ | refine blk_drew ?_ | refine blk_alloc ?_ _)); exact BK281.out)) : gb285 ≠ gb281)); replace BK281 := Aside0.mk (blk_below (g := gb281) (o := .cells #[.int .i64 0, .int .i64 0] 43 (0, 0)) (by (with_reducible repeat (first | refine blk_drewN ?_ _ | refine blk_drew ?_ | refine blk_alloc ?_ _)); exact BK281.out) hb); have NB283_285 := Aside0.mk ((by rw [hg]; exact Nat.ne_of_lt (blk_lt (g := gb283) (o := .cells #[.int .i64 x284000_1, .int .i64 x284001_1] 43 (0, 0)) (by (with_reducible repeat (first | refine blk_drewN ?_ _ | refine blk_drew ?_ | refine blk_alloc ?_ _)); exact BK283.out)) : gb283 ≠ gb285)); have NB285_283 := Aside0.mk ((by rw [hg]; exact Nat.ne_of_gt (blk_lt (g := gb283) (o := .cells #[.int .i64 x284000_1, .int .i64 x284001_1] 43 (0, 0)) (by (with_reducible repeat (first | refine blk_drewN ?_ _ | refine blk_drew ?_ | refine blk_alloc ?_ _)); exact BK283.out)) : gb285 ≠ gb283)); replace BK283 := Aside0.mk (blk_below (g := gb283) (o := .cells #[.int .i64 x284000_1, .int .i64 x284001_1] 43 (0, 0)) (by (with_reducible repeat (first | refine blk_drewN ?_ _ | refine blk_drew ?_ | refine blk_alloc ?_ _)); exact BK283.out) hb); clear hb hbox hg; have hnb13 := NB285_281.out; have hnc13 := NB281_285.out; have hnb14 := NB285_283.out; have hnc14 := NB283_285.out; have hcz15_0 : w12.cell? ⟨gb285, 0, none⟩ = some (.int .i64 0) := (blk_cell BK285.out 0).trans rfl; have hcz15_1 : w12.cell? ⟨gb285, 1, none⟩ = some (.int .i64 0) := (blk_cell BK285.out 1).trans rfl; have hfz15_0 := blk_frozen BK285.out 0; have hfz15_1 := blk_frozen BK285.out 1; have hnb16 := NB283_281.out; have hnc16 := NB281_283.out; have hcz17_0 : w12.cell? ⟨gb283, 0, none⟩ = some (.int .i64 x284000_1) := (blk_cell BK283.out 0).trans rfl; have hcz17_1 : w12.cell? ⟨gb283, 1, none⟩ = some (.int .i64 x284001_1) := (blk_cell BK283.out 1).trans rfl; have hfz17_0 := blk_frozen BK283.out 0; have hfz17_1 := blk_frozen BK283.out 1))
       go_roundg k1
       case measure => have := HK1.out; omega
       case rel => exact ⟨(wrap64 (x11_1 + 1)), (ji10), (ji11), r3_, H', ⟨by have := HK1.out; omega⟩, ⟨by (with_reducible repeat (first | refine blk_drewN ?_ _ | refine blk_drew ?_ | refine blk_alloc ?_ _)); refine blk_far ?_ NB281_283.out _; (with_reducible repeat (first | refine blk_drewN ?_ _ | refine blk_drew ?_ | refine blk_alloc ?_ _)); refine blk_far ?_ NB281_283.out _; (with_reducible repeat (first | refine blk_drewN ?_ _ | refine blk_drew ?_ | refine blk_alloc ?_ _)); refine blk_far ?_ NB281_285.out _; (with_reducible repeat (first | refine blk_drewN ?_ _ | refine blk_drew ?_ | refine blk_alloc ?_ _)); refine blk_far ?_ NB281_285.out _; (with_reducible repeat (first | refine blk_drewN ?_ _ | refine blk_drew ?_ | refine blk_alloc ?_ _)); exact BK281.out⟩, ⟨by (with_reducible repeat (first | refine blk_drewN ?_ _ | refine blk_drew ?_ | refine blk_alloc ?_ _)); refine blk_put (cs := #[.int .i64 ji10, .int .i64 x284001_1]) ?_ 1 _ rfl; (with_reducible repeat (first | refine blk_drewN ?_ _ | refine blk_drew ?_ | refine blk_alloc ?_ _)); refine blk_put (cs := #[.int .i64 x284000_1, .int .i64 x284001_1]) ?_ 0 _ rfl; (with_reducible repeat (first | refine blk_drewN ?_ _ | refine blk_drew ?_ | refine blk_alloc ?_ _)); refine blk_far ?_ NB283_285.out _; (with_reducible repeat (first | refine blk_drewN ?_ _ | refine blk_drew ?_ | refine blk_alloc ?_ _)); refine blk_far ?_ NB283_285.out _; (with_reducible repeat (first | refine blk_drewN ?_ _ | refine blk_drew ?_ | refine blk_alloc ?_ _)); exact BK283.out⟩, ⟨by repeat (first | (with_reducible first | exact HB.out | apply below_alloc | apply pw_below_drewN | apply below_drew1 | refine below_set ?_ GE281.out | refine below_set ?_ GE283.out | refine below_set ?_ GE285.out) | exact HB.out)⟩⟩
      ·rw [if_neg c9] at H
       exact absurd H (by simp)
     ·rw [if_neg c8] at H
      exact absurd H (by simp)
    ·rw [if_neg c7] at H
     have c7b0 : decide (x11_1 < (l0.length : Int)) = false := decide_eq_false c7
     clear c7
     simp only [Option.some.injEq, Prod.mk.injEq] at H
     obtain ⟨rfl, rfl⟩ := H
     have hnb18 := NB283_281.out
     have hnc18 := NB281_283.out
     have hcz19_0 : wr.cell? ⟨gb283, 0, none⟩ = some (.int .i64 x284000_1) := (blk_cell BK283.out 0).trans rfl
     have hcz19_1 : wr.cell? ⟨gb283, 1, none⟩ = some (.int .i64 x284001_1) := (blk_cell BK283.out 1).trans rfl
     have hfz19_0 := blk_frozen BK283.out 0
     have hfz19_1 := blk_frozen BK283.out 1
     have hcz20_0 : wr.cell? ⟨gb281, 0, none⟩ = some (.int .i64 0) := (blk_cell BK281.out 0).trans rfl
     have hcz20_1 : wr.cell? ⟨gb281, 1, none⟩ = some (.int .i64 0) := (blk_cell BK281.out 1).trans rfl
     have hfz20_0 := blk_frozen BK281.out 0
     have hfz20_1 := blk_frozen BK281.out 1
     go_wp2
     refine bodyPost_ret (results_cell_row rfl _ _ gb281 43 #[.int .i64 x284000_1, .int .i64 x284001_1] (0, 0) _ rfl (by (with_reducible repeat (first | refine blk_drewN ?_ _ | refine blk_drew ?_ | refine blk_alloc ?_ _)); refine blk_put (cs := #[.int .i64 x284000_1, .int .i64 0]) ?_ 1 _ rfl; (with_reducible repeat (first | refine blk_drewN ?_ _ | refine blk_drew ?_ | refine blk_alloc ?_ _)); refine blk_put (cs := #[.int .i64 0, .int .i64 0]) ?_ 0 _ rfl; (with_reducible repeat (first | refine blk_drewN ?_ _ | refine blk_drew ?_ | refine blk_alloc ?_ _)); exact BK281.out) Tryd.underlying43 rfl (by kernel_rfl)) rfl ?_
     exact ⟨r2_, by repeat (first | (with_reducible first | exact HB.out | apply below_alloc | apply pw_below_drewN | apply below_drew1 | refine below_set ?_ GE281.out | refine below_set ?_ GE283.out) | exact HB.out)⟩
 ·rw [if_neg c2] at H
  exact absurd H (by simp)

/-! ### impl_moved: function 42 -/
def impl_moved.l0 : Nat → Int → Int → List (S43) → List (S43) → Int → Int → Option ((List (S43)))
 | 0, _, _, _, _, _, _ => none
 | k + 1, x1, x2, x7, x13, x14, x15 => if x15 < x14 then (if 0 ≤ x15 then (if x15 < (x13.length : Int) then (if x7.length < 8796093022208 then (impl_moved.l0 k x1 x2 (x7 ++ [(⟨wrap64 (((rd_T43 x13 x15).f0) + x1), wrap64 (((rd_T43 x13 x15).f1) + x2)⟩ : S43)]) x13 x14 (wrap64 (x15 + 1))) else (none)) else (none)) else (none)) else (some x7)
def impl_moved.f (k : Nat) (l0 : List (S43)) (a1 : Int) (a2 : Int) : Option ((List (S43))) := if 0 ≤ (l0.length : Int) then (if ((l0.length : Int) : Int).toNat ≤ 17592186044416 then (impl_moved.l0 k a1 a2 (([] : List (S43))) l0 (l0.length : Int) 0) else (none)) else (none)
theorem impl_moved.mono_l : ∀ k, (∀ y0 y1 y2 y3 y4 y5, LeO (impl_moved.l0 k y0 y1 y2 y3 y4 y5) (impl_moved.l0 (k + 1) y0 y1 y2 y3 y4 y5))
 | 0 => fun _ _ _ _ _ _ r h => by simp [impl_moved.l0] at h
 | k + 1 => by
  have ih0 := impl_moved.mono_l k
  ·intro y0 y1 y2 y3 y4 y5
   unfold impl_moved.l0
   repeat' first
   | (with_reducible exact ih0 _ _ _ _ _ _)
   | (with_reducible exact LeO.refl _)
   | (with_reducible exact LeO.none _)
   | (with_reducible refine LeO.ite ?_ ?_)
   | (with_reducible refine LeO.bind ?_ (fun _ => ?_))
   | exact ih0 _ _ _ _ _ _
   | exact LeO.none _
   | refine LeO.ite ?_ ?_
   | refine LeO.bind ?_ (fun _ => ?_)
theorem impl_moved.mono : ∀ a0 a1 a2 k, LeO (impl_moved.f k a0 a1 a2) (impl_moved.f (k + 1) a0 a1 a2) := by
 intro a0 a1 a2 k
 have ih0 := impl_moved.mono_l k
 unfold impl_moved.f
 repeat' first
   | (with_reducible exact ih0 _ _ _ _ _ _)
   | (with_reducible exact LeO.refl _)
   | (with_reducible exact LeO.none _)
   | (with_reducible refine LeO.ite ?_ ?_)
   | (with_reducible refine LeO.bind ?_ (fun _ => ?_))
   | exact ih0 _ _ _ _ _ _
   | exact LeO.none _
   | refine LeO.ite ?_ ?_
   | refine LeO.bind ?_ (fun _ => ?_)
set_option maxHeartbeats 8000000 in
set_option maxRecDepth 100000 in
theorem impl_moved.calls (k : Nat) (A0 : Option Addr) (c0 : Nat) (l0 : List (S43)) (a1 : Int) (a2 : Int) (r : List (S43)) (w : World) (hr0 : Kd.C k43 w A0 l0.length l0) (hc0 : l0.length ≤ c0) (h : impl_moved.f k l0 a1 a2 = some r) :
  Calls Tryd.prog 42 #[.slice A0 l0.length c0, .int .i64 a1, .int .i64 a2] w fun e w' => ∃ v0_ : Value, e = .returned (v0_) ∧ Kd.R k43 43 w' w.heap.size (fun _ => True) v0_ r ∧ Below w.heap.size w w' := by
 have hu43 := Tryd.underlying43
 have HR0 := Aside0.mk hr0
 have HC0 := Aside0.mk hc0
 clear hr0 hc0
 have HB := Aside0.mk (Below.refl w.heap.size w)
 have H : (if 0 ≤ (l0.length : Int) then (if ((l0.length : Int) : Int).toNat ≤ 17592186044416 then (impl_moved.l0 k a1 a2 (([] : List (S43))) l0 (l0.length : Int) 0) else (none)) else (none)) = some r := h
 clear h
 by_cases c4 : 0 ≤ (l0.length : Int)
 ·rw [if_pos c4] at H
  have c4b0 := eq_true c4
  have c4b1 : decide (0 ≤ (l0.length : Int)) = true := decide_eq_true c4
  clear c4
  by_cases c5 : ((l0.length : Int) : Int).toNat ≤ 17592186044416
  ·rw [if_pos c5] at H
   have c5b0 := eq_true c5
   have c5b1 : decide (((l0.length : Int) : Int).toNat ≤ 17592186044416) = true := decide_eq_true c5
   clear c5
   obtain ⟨y286, hY_⟩ : ∃ y_ : List (S43), y_ = (([] : List (S43))) := ⟨_, rfl⟩
   replace H : (impl_moved.l0 k a1 a2 y286 l0 (l0.length : Int) 0) = some r := yY_
   have Ny286 := Aside0.mk hY_
   clear hY_
   have H' := Aside0.mk H
   clear H
   go_enter Tryd.func42, Tryd.ntmps42
   go_wp2_with (first | ((with_reducible refine gate_dst (N := 12) rfl ?_); refine R_makecap k43 _ 43 rfl (N := 12) rfl 24 _ _ rfl (l0.length : Int) rfl rfl Tryd.underlying24 (.agg #[(.int .i64 0), (.int .i64 0)]) 16 info43 (by omega) (ok := fun _ => True) trivial (of_decide_eq_true aS_) (Nat.le_trans (Nat.mul_le_mul_right _ (of_decide_eq_true aS_ : (l0.length : Int).toNat ≤ 17592186044416)) (by omega)) (Below.refl _ _) (Nat.le_refl _) ?_; intro v287 w6 ho7 hb hg_ hnew_; clear hg_ hnew_; (first | rw [← Ny286.out] at ho7 | (simp only [Int.reduceToNat] at ho7; rw [← Ny286.out] at ho7)); have HO288 := Aside0.mk (Kd.R_lower ho7 (below_size bB_)); replace HB := Aside0.mk (below_step bB_ hb); clear hb ho7))
   go_loopg [7, 15] k (fun kq v7 v15 w' => ∃ (x7_1 : List (S43)) (x15_1 : Int), v15 = .int .i64 x15_1 ∧ Aside0 (impl_moved.l0 kq a1 a2 x7_1 l0 (l0.length : Int) x15_1 = some r) ∧ Aside0 (kq ≤ k) ∧ Aside0 (Kd.R k43 43 w' w.heap.size (fun _ => True) v7 x7_1) ∧ Aside0 (Below w.heap.size w w'))
   case atStart => exact ⟨(y286), (0), r3_, H', ⟨Nat.le_refl _⟩, ⟨rS_ HO288.out⟩, ⟨bB_⟩⟩
   case round =>
    clear H'
    try clear p2
    try clear c4
    try clear c4b0
    try clear c4b1
    try clear c5
    try clear c5b0
    try clear c5b1
    obtain ⟨x7_1, x15_1, rfl, HA, HK1, HO_7, HB⟩ := hrel
    cases gk with
    | zero => exact absurd HA.out (by simp [impl_moved.l0])
    | succ k1 =>
     have H := HA.out
     clear HA
     simp only [impl_moved.l0] at H
     by_cases c8 : x15_1 < (l0.length : Int)
     ·rw [if_pos c8] at H
      have c8b0 : decide (x15_1 < (l0.length : Int)) = true := decide_eq_true c8
      clear c8
      by_cases c9 : 0 ≤ x15_1
      ·rw [if_pos c9] at H
       have c9b0 : decide (0 ≤ x15_1) = true := decide_eq_true c9
       clear c9
       by_cases c10 : x15_1 < (l0.length : Int)
       ·rw [if_pos c10] at H
        have c10b0 : decide (x15_1 < (l0.length : Int)) = true := decide_eq_true c10
        clear c10
        by_cases c11 : x7_1.length < 8796093022208
        ·rw [if_pos c11] at H
         have LMc11 := Aside0.mk c11
         clear c11
         obtain ⟨y291, hY_⟩ : ∃ y_ : List (S43), y_ = (x7_1 ++ [(⟨wrap64 (((rd_T43 l0 x15_1).f0) + a1), wrap64 (((rd_T43 l0 x15_1).f1) + a2)⟩ : S43)]) := ⟨_, rfl⟩
         replace H : (impl_moved.l0 k1 a1 a2 y291 l0 (l0.length : Int) (wrap64 (x15_1 + 1))) = some r := yY_
         have Ny291 := Aside0.mk hY_
         clear hY_
         have H' := Aside0.mk H
         clear H
         have p289 : 0 ≤ (x15_1 : Int) := of_decide_eq_true aS_
         have q289 : x15_1 < (l0.length : Int) := of_decide_eq_true aS_
         obtain ⟨ad289, e289, hx289_0, hx289_1⟩ := at_T43 HR0.out x15_1 p289 q289
         cases e289
         replace hx289_0 := (HB.out.cell (World.block_lt_of_cell? w _ hx289_0)).trans hx289_0
         replace hx289_1 := (HB.out.cell (World.block_lt_of_cell? w _ hx289_1)).trans hx289_1
         replace p289 := eq_true p289
         replace q289 := eq_true q289
         go_wp2_with (first | ((with_reducible refine gate_dst (N := 9) rfl ?_); refine box_event ?hg (N := 9) ?hd (cs := #[.int .i64 0, .int .i64 0]) (t := 43) ?hr ?_; (case hd => rfl); (case hg => rfl); (case hr => first | (go_simp; done) | (go_simp; rfl)); intro gb290 hg w12 hbox hb; replace HO_7 := Aside0.mk (Kd.R_below (Kd.R_elderB (rS_ HO_7.out) gb290 (Nat.le_of_eq hg.symm)) hb); have BK290 := Aside0.mk (hbox); have GW290 := Aside0.mk ((by rw [hg]; exact (below_size bB_) : w.heap.size ≤ gb290)); have GE290 := Aside0.mk ((by rw [hg]; exact (below_size bB_) : w.heap.size ≤ gb290)); replace HB := Aside0.mk (below_step bB_ hb); clear hb hbox hg; have hcz13_0 : w12.cell? ⟨gb290, 0, none⟩ = some (.int .i64 0) := (blk_cell BK290.out 0).trans rfl; have hcz13_1 : w12.cell? ⟨gb290, 1, none⟩ = some (.int .i64 0) := (blk_cell BK290.out 1).trans rfl; have hfz13_0 := blk_frozen BK290.out 0; have hfz13_1 := blk_frozen BK290.out 1) | ((with_reducible refine gate_builtin (b := .append) (xs := #[.tmp 19, .tmp 29]) rfl ?_); at_builtin; refine Kd.R_append k43 (w0 := w) w.heap.size rfl (.tmp 19) (.tmp 29) 24 43 (.agg #[(.int .i64 0), (.int .i64 0)]) 16 rfl Tryd.underlying24 info43 rfl (by decide) (by omega) u7 x7_1 (⟨wrap64 (((rd_T43 l0 x15_1).f0) + a1), wrap64 (((rd_T43 l0 x15_1).f1) + a2)⟩ : S43) [.int .i64 (wrap64 (((rd_T43 l0 x15_1).f0) + a1)), .int .i64 (wrap64 (((rd_T43 l0 x15_1).f1) + a2))] (fun k_ => k_ ≠ gb290) (fun _ => False) rfl (by first | (go_simp; done) | (go_simp; rfl)) ?aP (fun _ hk => hk.elim) ?aF ?aO ?aB ?aS ?aL ?_; (case aP => exact k43_mkM _ _ _ (⟨wrap64 (((rd_T43 l0 x15_1).f0) + a1), wrap64 (((rd_T43 l0 x15_1).f1) + a2)⟩ : S43)); (case aB => exact (by repeat (first | (with_reducible first | exact HB.out | apply below_alloc | apply pw_below_drewN | apply below_drew1 | refine below_set ?_ GE290.out) | exact HB.out))); (case aF => exact (fun k_ hk => Kd.freshB (g := gb290) (o := .cells #[.int .i64 ((rd_T43 l0 x15_1).f0), .int .i64 ((rd_T43 l0 x15_1).f1)] 43 (0, 0)) (by (with_reducible repeat (first | refine blk_drewN ?_ _ | refine blk_drew ?_ | refine blk_alloc ?_ _)); refine blk_put (cs := #[.int .i64 ((rd_T43 l0 x15_1).f0), .int .i64 0]) ?_ 1 _ rfl; (with_reducible repeat (first | refine blk_drewN ?_ _ | refine blk_drew ?_ | refine blk_alloc ?_ _)); refine blk_put (cs := #[.int .i64 0, .int .i64 0]) ?_ 0 _ rfl; (with_reducible repeat (first | refine blk_drewN ?_ _ | refine blk_drew ?_ | refine blk_alloc ?_ _)); exact BK290.out) k_ hk)); (case aO => exact (rS_ (Kd.R_mono (Kd.R_far (p := ⟨gb290, 1, none⟩) (Kd.R_far (p := ⟨gb290, 0, none⟩) (Kd.R_mono HO_7.out (fun k_ hk => (⟨hk, hk.2⟩ : _ ∧ k_ ≠ gb290))) (fun _ hk => hk.2) (.int .i64 ((rd_T43 l0 x15_1).f0))) (fun _ hk => hk.2) (.int .i64 ((rd_T43 l0 x15_1).f1))) (fun _ hk => hk.1.2)))); (case aS => exact (below_size (by repeat (first | (with_reducible first | exact HB.out | apply below_alloc | apply pw_below_drewN | apply below_drew1 | refine below_set ?_ GE290.out) | exact HB.out)))); (case aL => have := LMc11.out; omega); intro v292 w14 ho hb hg hat; rw [← Ny291.out] at ho; replace BK290 := Aside0.mk (blk_grown (g := gb290) (o := .cells #[.int .i64 ((rd_T43 l0 x15_1).f0), .int .i64 ((rd_T43 l0 x15_1).f1)] 43 (0, 0)) (by (with_reducible repeat (first | refine blk_drewN ?_ _ | refine blk_drew ?_ | refine blk_alloc ?_ _)); refine blk_put (cs := #[.int .i64 ((rd_T43 l0 x15_1).f0), .int .i64 0]) ?_ 1 _ rfl; (with_reducible repeat (first | refine blk_drewN ?_ _ | refine blk_drew ?_ | refine blk_alloc ?_ _)); refine blk_put (cs := #[.int .i64 0, .int .i64 0]) ?_ 0 _ rfl; (with_reducible repeat (first | refine blk_drewN ?_ _ | refine blk_drew ?_ | refine blk_alloc ?_ _)); exact BK290.out) hg (Kd.R_away HO_7.out (fun _ hk => hk.2))); replace HB := Aside0.mk (hb); have HO293 := Aside0.mk (ho); clear HO_7; clear ho hb hg hat))
         go_roundg k1
         case measure => have := HK1.out; omega
         case rel => exact ⟨(y291), (wrap64 (x15_1 + 1)), r3_, H', ⟨by have := HK1.out; omega⟩, ⟨rS_ (Kd.R_mono HO293.out (fun _ hk => trivial))⟩, ⟨by repeat (first | (with_reducible first | exact HB.out | apply below_alloc | apply pw_below_drewN | apply below_drew1 | refine below_set ?_ GE290.out) | exact HB.out)⟩⟩
        ·rw [if_neg c11] at H
         exact absurd H (by simp)
       ·rw [if_neg c10] at H
        exact absurd H (by simp)
      ·rw [if_neg c9] at H
       exact absurd H (by simp)
     ·rw [if_neg c8] at H
      have c8b0 : decide (x15_1 < (l0.length : Int)) = false := decide_eq_false c8
      clear c8
      obtain rfl := Option.some.inj H
      go_wp2
      go_ret
      exact ⟨_, r2_, rS_ HO_7.out, bB_⟩
  ·rw [if_neg c5] at H
   exact absurd H (by simp)
 ·rw [if_neg c4] at H
  exact absurd H (by simp)

/-! ### impl_normal: function 25 -/
def impl_normal.f (k : Nat) (l0 : List (S43)) : Option ((List (S43))) := (impl_corner.f k l0).bind fun bt294 => ((impl_moved.f k l0 (wrap64 (-bt294.1)) (wrap64 (-bt294.2))).bind fun t297 => (some t297))
theorem impl_normal.mono : ∀ a0 k, LeO (impl_normal.f k a0) (impl_normal.f (k + 1) a0) := by
 intro a0 k
 unfold impl_normal.f
 repeat' first
   | (with_reducible exact impl_corner.mono _ _)
   | (with_reducible exact impl_moved.mono _ _ _ _)
   | (with_reducible exact LeO.refl _)
   | (with_reducible exact LeO.none _)
   | (with_reducible refine LeO.ite ?_ ?_)
   | (with_reducible refine LeO.bind ?_ (fun _ => ?_))
   | exact impl_corner.mono _ _
   | exact impl_moved.mono _ _ _ _
   | exact LeO.none _
   | refine LeO.ite ?_ ?_
   | refine LeO.bind ?_ (fun _ => ?_)
set_option maxHeartbeats 8000000 in
set_option maxRecDepth 100000 in
theorem impl_normal.calls (k : Nat) (A0 : Option Addr) (c0 : Nat) (l0 : List (S43)) (r : List (S43)) (w : World) (hr0 : Kd.C k43 w A0 l0.length l0) (hc0 : l0.length ≤ c0) (h : impl_normal.f k l0 = some r) :
  Calls Tryd.prog 25 #[.slice A0 l0.length c0] w fun e w' => ∃ v0_ : Value, e = .returned (v0_) ∧ Kd.R k43 43 w' w.heap.size (fun _ => True) v0_ r ∧ Below w.heap.size w w' := by
 have hu43 := Tryd.underlying43
 have HR0 := Aside0.mk hr0
 have HC0 := Aside0.mk hc0
 clear hr0 hc0
 have HB := Aside0.mk (Below.refl w.heap.size w)
 have H : ((impl_corner.f k l0).bind fun bt294 => ((impl_moved.f k l0 (wrap64 (-bt294.1)) (wrap64 (-bt294.2))).bind fun t297 => (some t297))) = some r := h
 clear h
 replace H := Option.bind_eq_some_iff.mp H
 obtain ⟨⟨t294, t295⟩, A20, H⟩ := H
 try dsimp only at H
 have A2 := Aside0.mk A20
 clear A20
 replace H := Option.bind_eq_some_iff.mp H
 obtain ⟨t297, A30, H⟩ := H
 try dsimp only at H
 have A3 := Aside0.mk A30
 clear A30
 obtain rfl := Option.some.inj H
 go_enter Tryd.func25, Tryd.ntmps25
 go_wp2_with (first | ((with_reducible refine gate_callee (f := 41) rfl ?_); refine gL_ (some 5) Tryd.func41 #[.slice A0 l0.length c0] ?_; (with_reducible refine (impl_corner.calls k _ _ l0 t294 t295 _ ?side1 ?side2 A2.out).mono ?_); (case side1 => exact cS_ HR0.out); (case side2 => exact HC0.out); rintro e w4 ⟨rfl, hb⟩; refine ⟨_, rfl, ?_⟩; replace HB := Aside0.mk (below_step bB_ hb); (try clear hb)) | ((with_reducible refine gate_dst (N := 3) rfl ?_); refine box_event ?hg (N := 3) ?hd (cs := #[.int .i64 0, .int .i64 0]) (t := 43) ?hr ?_; (case hd => rfl); (case hg => rfl); (case hr => first | (go_simp; done) | (go_simp; rfl)); intro gb296 hg w5 hbox hb; have BK296 := Aside0.mk (hbox); have GW296 := Aside0.mk ((by rw [hg]; exact (below_size bB_) : w.heap.size ≤ gb296)); have GE296 := Aside0.mk ((by rw [hg]; exact (below_size bB_) : w.heap.size ≤ gb296)); replace HB := Aside0.mk (below_step bB_ hb); clear hb hbox hg; have hcz6_0 : w5.cell? ⟨gb296, 0, none⟩ = some (.int .i64 0) := (blk_cell BK296.out 0).trans rfl; have hcz6_1 : w5.cell? ⟨gb296, 1, none⟩ = some (.int .i64 0) := (blk_cell BK296.out 1).trans rfl; have hfz6_0 := blk_frozen BK296.out 0; have hfz6_1 := blk_frozen BK296.out 1) | ((with_reducible refine gate_callee (f := 42) rfl ?_); refine gL_ (some 13) Tryd.func42 #[.slice A0 l0.length c0, .int .i64 (wrap64 (-t294)), .int .i64 (wrap64 (-t295))] ?_; (with_reducible refine (impl_moved.calls k _ _ l0 (wrap64 (-t294)) (wrap64 (-t295)) t297 _ ?side1 ?side2 A3.out).mono ?_); (case side1 => exact Kd.C_below HR0.out (by repeat (first | (with_reducible first | exact HB.out | apply below_alloc | apply pw_below_drewN | apply below_drew1 | refine below_set ?_ GE296.out) | exact HB.out))); (case side2 => exact HC0.out); rintro e w7 ⟨v298, rfl, ho0, hb⟩; refine ⟨_, rfl, ?_⟩; have HO299 := Aside0.mk (Kd.R_lower (Kd.R_newB ho0 (g := gb296) (o := .cells #[.int .i64 t294, .int .i64 t295] 43 (0, 0)) (by (with_reducible repeat (first | refine blk_drewN ?_ _ | refine blk_drew ?_ | refine blk_alloc ?_ _)); refine blk_put (cs := #[.int .i64 t294, .int .i64 0]) ?_ 1 _ rfl; (with_reducible repeat (first | refine blk_drewN ?_ _ | refine blk_drew ?_ | refine blk_alloc ?_ _)); refine blk_put (cs := #[.int .i64 0, .int .i64 0]) ?_ 0 _ rfl; (with_reducible repeat (first | refine blk_drewN ?_ _ | refine blk_drew ?_ | refine blk_alloc ?_ _)); exact BK296.out)) (below_size (by repeat (first | (with_reducible first | exact HB.out | apply below_alloc | apply pw_below_drewN | apply below_drew1 | refine below_set ?_ GE296.out) | exact HB.out)))); replace BK296 := Aside0.mk (blk_below (g := gb296) (o := .cells #[.int .i64 t294, .int .i64 t295] 43 (0, 0)) (by (with_reducible repeat (first | refine blk_drewN ?_ _ | refine blk_drew ?_ | refine blk_alloc ?_ _)); refine blk_put (cs := #[.int .i64 t294, .int .i64 0]) ?_ 1 _ rfl; (with_reducible repeat (first | refine blk_drewN ?_ _ | refine blk_drew ?_ | refine blk_alloc ?_ _)); refine blk_put (cs := #[.int .i64 0, .int .i64 0]) ?_ 0 _ rfl; (with_reducible repeat (first | refine blk_drewN ?_ _ | refine blk_drew ?_ | refine blk_alloc ?_ _)); exact BK296.out) hb); replace HB := Aside0.mk (below_step (by repeat (first | (with_reducible first | exact HB.out | apply below_alloc | apply pw_below_drewN | apply below_drew1 | refine below_set ?_ GE296.out) | exact HB.out)) hb); (try clear hb ho0)))
 go_ret
 exact ⟨_, r2_, rS_ (Kd.R_mono HO299.out (fun _ hk => trivial)), by repeat (first | (with_reducible first | exact HB.out | apply below_alloc | apply pw_below_drewN | apply below_drew1 | refine below_set ?_ GE296.out) | exact HB.out)⟩

/-! ### impl_reach: function 27 -/
def impl_reach.l0 : Nat → List (S43) → Int → Int → Int → Int → Option (Int × Int)
 | 0, _, _, _, _, _ => none
 | k + 1, x9, x10, x11, x308000, x308001 => if x11 < x10 then (if 0 ≤ x11 then (if x11 < (x9.length : Int) then (impl_reach.l0 k x9 x10 (wrap64 (x11 + 1)) (mx x308000 ((rd_T43 x9 x11).f0)) (mx x308001 ((rd_T43 x9 x11).f1))) else (none)) else (none)) else (some (x308000, x308001))
def impl_reach.f (k : Nat) (l0 : List (S43)) : Option (Int × Int) := if 0 < (l0.length : Int) then (impl_reach.l0 k l0 (l0.length : Int) 0 ((rd_T43 l0 0).f0) ((rd_T43 l0 0).f1)) else (none)
theorem impl_reach.mono_l : ∀ k, (∀ y0 y1 y2 y3 y4, LeO (impl_reach.l0 k y0 y1 y2 y3 y4) (impl_reach.l0 (k + 1) y0 y1 y2 y3 y4))
 | 0 => fun _ _ _ _ _ r h => by simp [impl_reach.l0] at h
 | k + 1 => by
  have ih0 := impl_reach.mono_l k
  ·intro y0 y1 y2 y3 y4
   unfold impl_reach.l0
   repeat' first
   | (with_reducible exact ih0 _ _ _ _ _)
   | (with_reducible exact LeO.refl _)
   | (with_reducible exact LeO.none _)
   | (with_reducible refine LeO.ite ?_ ?_)
   | (with_reducible refine LeO.bind ?_ (fun _ => ?_))
   | exact ih0 _ _ _ _ _
   | exact LeO.none _
   | refine LeO.ite ?_ ?_
   | refine LeO.bind ?_ (fun _ => ?_)
theorem impl_reach.mono : ∀ a0 k, LeO (impl_reach.f k a0) (impl_reach.f (k + 1) a0) := by
 intro a0 k
 have ih0 := impl_reach.mono_l k
 unfold impl_reach.f
 repeat' first
   | (with_reducible exact ih0 _ _ _ _ _)
   | (with_reducible exact LeO.refl _)
   | (with_reducible exact LeO.none _)
   | (with_reducible refine LeO.ite ?_ ?_)
   | (with_reducible refine LeO.bind ?_ (fun _ => ?_))
   | exact ih0 _ _ _ _ _
   | exact LeO.none _
   | refine LeO.ite ?_ ?_
   | refine LeO.bind ?_ (fun _ => ?_)
set_option maxHeartbeats 8000000 in
set_option maxRecDepth 100000 in
theorem impl_reach.calls (k : Nat) (A0 : Option Addr) (c0 : Nat) (l0 : List (S43)) (r1 : Int) (r2 : Int) (w : World) (hr0 : Kd.C k43 w A0 l0.length l0) (hc0 : l0.length ≤ c0) (h : impl_reach.f k l0 = some (r1, r2)) :
  Calls Tryd.prog 27 #[.slice A0 l0.length c0] w fun e w' => e = .returned (.agg #[.int .i64 r1, .int .i64 r2]) ∧ Below w.heap.size w w' := by
 have hu43 := Tryd.underlying43
 have HR0 := Aside0.mk hr0
 have HC0 := Aside0.mk hc0
 clear hr0 hc0
 have HB := Aside0.mk (Below.refl w.heap.size w)
 have H : (if 0 < (l0.length : Int) then (impl_reach.l0 k l0 (l0.length : Int) 0 ((rd_T43 l0 0).f0) ((rd_T43 l0 0).f1)) else (none)) = some (r1, r2) := h
 clear h
 by_cases c2 : 0 < (l0.length : Int)
 ·rw [if_pos c2] at H
  have c2b0 : decide (0 < (l0.length : Int)) = true := decide_eq_true c2
  have c2b1 : decide (0 < l0.length) = true := decide_eq_true (by omega)
  clear c2
  have H' := Aside0.mk H
  clear H
  go_enter Tryd.func27, Tryd.ntmps27
  go_wp2_with (first | ((with_reducible refine gate_dst (N := 2) rfl ?_); refine box_event ?hg (N := 2) ?hd (cs := #[.int .i64 0, .int .i64 0]) (t := 43) ?hr ?_; (case hd => rfl); (case hg => rfl); (case hr => first | (go_simp; done) | (go_simp; rfl)); intro gb305 hg w3 hbox hb; have BK305 := Aside0.mk (hbox); have GW305 := Aside0.mk ((by rw [hg]; exact (below_size bB_) : w.heap.size ≤ gb305)); have GE305 := Aside0.mk ((by rw [hg]; exact (below_size bB_) : w.heap.size ≤ gb305)); replace HB := Aside0.mk (below_step bB_ hb); clear hb hbox hg; have p306 : 0 ≤ (0 : Int) := (by omega); have q306 : 0 < (l0.length : Int) := of_decide_eq_true aS_; obtain ⟨ad306, e306, hx306_0, hx306_1⟩ := at_T43 HR0.out 0 p306 q306; cases e306; have qi306 : (0 < l0.length) = True := eq_true (by omega); (try rw [show ((0 : Int)).toNat = 0 from rfl] at hx306_0); (try rw [show 0 * 2 = 0 from rfl] at hx306_0); (try rw [Addr.add_zero'] at hx306_0); (try rw [show ((0 : Int)).toNat = 0 from rfl] at hx306_1); (try rw [show 0 * 2 = 0 from rfl] at hx306_1); (try rw [Addr.add_zero'] at hx306_1); replace hx306_0 := (HB.out.cell (World.block_lt_of_cell? w _ hx306_0)).trans hx306_0; replace hx306_1 := (HB.out.cell (World.block_lt_of_cell? w _ hx306_1)).trans hx306_1; replace p306 := eq_true p306; replace q306 := eq_true q306) | ((with_reducible refine gate_dst (N := 3) rfl ?_); refine box_event ?hg (N := 3) ?hd (cs := #[.int .i64 0, .int .i64 0]) (t := 43) ?hr ?_; (case hd => rfl); (case hg => rfl); (case hr => first | (go_simp; done) | (go_simp; rfl)); intro gb307 hg w4 hbox hb; have BK307 := Aside0.mk (hbox); have GW307 := Aside0.mk ((by rw [hg]; exact (below_size (by repeat (first | (with_reducible first | exact HB.out | apply below_alloc | apply pw_below_drewN | apply below_drew1 | refine below_set ?_ GE305.out) | exact HB.out))) : w.heap.size ≤ gb307)); have GE307 := Aside0.mk ((by rw [hg]; exact (below_size (by repeat (first | (with_reducible first | exact HB.out | apply below_alloc | apply pw_below_drewN | apply below_drew1 | refine below_set ?_ GE305.out) | exact HB.out))) : w.heap.size ≤ gb307)); replace HB := Aside0.mk (below_step (by repeat (first | (with_reducible first | exact HB.out | apply below_alloc | apply pw_below_drewN | apply below_drew1 | refine below_set ?_ GE305.out) | exact HB.out)) hb); have NB305_307 := Aside0.mk ((by rw [hg]; exact Nat.ne_of_lt (blk_lt (g := gb305) (o := .cells #[.int .i64 0, .int .i64 0] 43 (0, 0)) (by (with_reducible repeat (first | refine blk_drewN ?_ _ | refine blk_drew ?_ | refine blk_alloc ?_ _)); exact BK305.out)) : gb305 ≠ gb307)); have NB307_305 := Aside0.mk ((by rw [hg]; exact Nat.ne_of_gt (blk_lt (g := gb305) (o := .cells #[.int .i64 0, .int .i64 0] 43 (0, 0)) (by (with_reducible repeat (first | refine blk_drewN ?_ _ | refine blk_drew ?_ | refine blk_alloc ?_ _)); exact BK305.out)) : gb307 ≠ gb305)); replace BK305 := Aside0.mk (blk_below (g := gb305) (o := .cells #[.int .i64 0, .int .i64 0] 43 (0, 0)) (by (with_reducible repeat (first | refine blk_drewN ?_ _ | refine blk_drew ?_ | refine blk_alloc ?_ _)); exact BK305.out) hb); clear hb hbox hg; have hnb5 := NB307_305.out; have hnc5 := NB305_307.out; have hcz6_0 : w4.cell? ⟨gb307, 0, none⟩ = some (.int .i64 0) := (blk_cell BK307.out 0).trans rfl; have hcz6_1 : w4.cell? ⟨gb307, 1, none⟩ = some (.int .i64 0) := (blk_cell BK307.out 1).trans rfl; have hfz6_0 := blk_frozen BK307.out 0; have hfz6_1 := blk_frozen BK307.out 1))
  go_loopg [11] k (fun kq v11 w' => ∃ (x11_1 : Int) (x308000_1 : Int) (x308001_1 : Int), v11 = .int .i64 x11_1 ∧ Aside0 (impl_reach.l0 kq l0 (l0.length : Int) x11_1 x308000_1 x308001_1 = some (r1, r2)) ∧ Aside0 (kq ≤ k) ∧ Aside0 (w'.heap[gb305]? = some (.cells #[.int .i64 0, .int .i64 0] 43 (0, 0))) ∧ Aside0 (w'.heap[gb307]? = some (.cells #[.int .i64 x308000_1, .int .i64 x308001_1] 43 (0, 0))) ∧ Aside0 (Below w.heap.size w w'))
  case atStart => exact ⟨(0), ((rd_T43 l0 0).f0), ((rd_T43 l0 0).f1), r3_, H', ⟨Nat.le_refl _⟩, ⟨by (with_reducible repeat (first | refine blk_drewN ?_ _ | refine blk_drew ?_ | refine blk_alloc ?_ _)); refine blk_far ?_ NB305_307.out _; (with_reducible repeat (first | refine blk_drewN ?_ _ | refine blk_drew ?_ | refine blk_alloc ?_ _)); refine blk_far ?_ NB305_307.out _; (with_reducible repeat (first | refine blk_drewN ?_ _ | refine blk_drew ?_ | refine blk_alloc ?_ _)); exact BK305.out⟩, ⟨by (with_reducible repeat (first | refine blk_drewN ?_ _ | refine blk_drew ?_ | refine blk_alloc ?_ _)); refine blk_put (cs := #[.int .i64 ((rd_T43 l0 0).f0), .int .i64 0]) ?_ 1 _ rfl; (with_reducible repeat (first | refine blk_drewN ?_ _ | refine blk_drew ?_ | refine blk_alloc ?_ _)); refine blk_put (cs := #[.int .i64 0, .int .i64 0]) ?_ 0 _ rfl; (with_reducible repeat (first | refine blk_drewN ?_ _ | refine blk_drew ?_ | refine blk_alloc ?_ _)); exact BK307.out⟩, ⟨by repeat (first | (with_reducible first | exact HB.out | apply below_alloc | apply pw_below_drewN | apply below_drew1 | refine below_set ?_ GE305.out | refine below_set ?_ GE307.out) | exact HB.out)⟩⟩
  case round =>
   clear H'
   try clear c2
   try clear c2b0
   try clear c2b1
   try clear p2
   try clear p3
   try clear q3
   try clear hx3
   try clear qi3
   try clear c5
   try clear hcz6_0
   try clear hcz6_1
   try clear hfz6_0
   try clear hfz6_1
   try clear hx306_0
   try clear hx306_1
   try clear p306
   try clear q306
   obtain ⟨x11_1, x308000_1, x308001_1, rfl, HA, HK1, BK305, BK307, HB⟩ := hrel
   cases gk with
   | zero => exact absurd HA.out (by simp [impl_reach.l0])
   | succ k1 =>
    have H := HA.out
    clear HA
    simp only [impl_reach.l0] at H
    by_cases c7 : x11_1 < (l0.length : Int)
    ·rw [if_pos c7] at H
     have c7b0 : decide (x11_1 < (l0.length : Int)) = true := decide_eq_true c7
     clear c7
     by_cases c8 : 0 ≤ x11_1
     ·rw [if_pos c8] at H
      have c8b0 : decide (0 ≤ x11_1) = true := decide_eq_true c8
      clear c8
      by_cases c9 : x11_1 < (l0.length : Int)
      ·rw [if_pos c9] at H
       have c9b0 : decide (x11_1 < (l0.length : Int)) = true := decide_eq_true c9
       clear c9
       obtain ⟨ji10, hji10⟩ : ∃ j_ : Int, (mx x308000_1 ((rd_T43 l0 x11_1).f0)) = j_ := ⟨_, rfl⟩
       replace H : (impl_reach.l0 k1 l0 (l0.length : Int) (wrap64 (x11_1 + 1)) ji10 (mx x308001_1 ((rd_T43 l0 x11_1).f1))) = some (r1, r2) := by first | (rw [hji10] at H; exact H) | (simp only [hji10] at H ⊢; exact H)
       have hji10_ : (if x308000_1 < ((rd_T43 l0 x11_1).f0) then ((rd_T43 l0 x11_1).f0) else x308000_1) = ji10 := hji10
       obtain ⟨ji11, hji11⟩ : ∃ j_ : Int, (mx x308001_1 ((rd_T43 l0 x11_1).f1)) = j_ := ⟨_, rfl⟩
       replace H : (impl_reach.l0 k1 l0 (l0.length : Int) (wrap64 (x11_1 + 1)) ji10 ji11) = some (r1, r2) := by first | (rw [hji11] at H; exact H) | (simp only [hji11] at H ⊢; exact H)
       have hji11_ : (if x308001_1 < ((rd_T43 l0 x11_1).f1) then ((rd_T43 l0 x11_1).f1) else x308001_1) = ji11 := hji11
       have H' := Aside0.mk H
       clear H
       have p308 : 0 ≤ (x11_1 : Int) := of_decide_eq_true aS_
       have q308 : x11_1 < (l0.length : Int) := of_decide_eq_true aS_
       obtain ⟨ad308, e308, hx308_0, hx308_1⟩ := at_T43 HR0.out x11_1 p308 q308
       obtain rfl : ad306 = ad308 := (by injection e308)
       replace hx308_0 := (HB.out.cell (World.block_lt_of_cell? w _ hx308_0)).trans hx308_0
       replace hx308_1 := (HB.out.cell (World.block_lt_of_cell? w _ hx308_1)).trans hx308_1
       replace p308 := eq_true p308
       replace q308 := eq_true q308
       go_wp2_with (first | ((with_reducible refine gate_dst (N := 5) rfl ?_); refine box_event ?hg (N := 5) ?hd (cs := #[.int .i64 0, .int .i64 0]) (t := 43) ?hr ?_; (case hd => rfl); (case hg => rfl); (case hr => first | (go_simp; done) | (go_simp; rfl)); intro gb309 hg w12 hbox hb; have BK309 := Aside0.mk (hbox); have GW309 := Aside0.mk ((by rw [hg]; exact (below_size (by repeat (first | (with_reducible first | exact HB.out | apply below_alloc | apply pw_below_drewN | apply below_drew1 | refine below_set ?_ GE305.out | refine below_set ?_ GE307.out) | exact HB.out))) : w.heap.size ≤ gb309)); have GE309 := Aside0.mk ((by rw [hg]; exact (below_size (by repeat (first | (with_reducible first | exact HB.out | apply below_alloc | apply pw_below_drewN | apply below_drew1 | refine below_set ?_ GE305.out | refine below_set ?_ GE307.out) | exact HB.out))) : w.heap.size ≤ gb309)); replace HB := Aside0.mk (below_step (by repeat (first | (with_reducible first | exact HB.out | apply below_alloc | apply pw_below_drewN | apply below_drew1 | refine below_set ?_ GE305.out | refine below_set ?_ GE307.out) | exact HB.out)) hb); have NB305_309 := Aside0.mk ((by rw [hg]; exact Nat.ne_of_lt (blk_lt (g := gb305) (o := .cells #[.int .i64 0, .int .i64 0] 43 (0, 0)) (by (with_reducible repeat (first | refine blk_drewN ?_ _ | refine blk_drew ?_ | refine blk_alloc ?_ _)); exact BK305.out)) : gb305 ≠ gb309)); have NB309_305 := Aside0.mk ((by rw [hg]; exact Nat.ne_of_gt (blk_lt (g := gb305) (o := .cells #[.int .i64 0, .int .i64 0] 43 (0, 0)) (by (with_reducible repeat (first | refine blk_drewN ?_ _ | refine blk_drew ?_ | refine blk_alloc ?_ _)); exact BK305.out)) : gb309 ≠ gb305)); replace BK305 := Aside0.mk (blk_below (g := gb305) (o := .cells #[.int .i64 0, .int .i64 0] 43 (0, 0)) (by (with_reducible repeat (first | refine blk_drewN ?_ _ | refine blk_drew ?_ | refine blk_alloc ?_ _)); exact BK305.out) hb); have NB307_309 := Aside0.mk ((by rw [hg]; exact Nat.ne_of_lt (blk_lt (g := gb307) (o := .cells #[.int .i64 x308000_1, .int .i64 x308001_1] 43 (0, 0)) (by (with_reducible repeat (first | refine blk_drewN ?_ _ | refine blk_drew ?_ | refine blk_alloc ?_ _)); exact BK307.out)) : gb307 ≠ gb309)); have NB309_307 := Aside0.mk ((by rw [hg]; exact Nat.ne_of_gt (blk_lt (g := gb307) (o := .cells #[.int .i64 x308000_1, .int .i64 x308001_1] 43 (0, 0)) (by (with_reducible repeat (first | refine blk_drewN ?_ _ | refine blk_drew ?_ | refine blk_alloc ?_ _)); exact BK307.out)) : gb309 ≠ gb307)); replace BK307 := Aside0.mk (blk_below (g := gb307) (o := .cells #[.int .i64 x308000_1, .int .i64 x308001_1] 43 (0, 0)) (by (with_reducible repeat (first | refine blk_drewN ?_ _ | refine blk_drew ?_ | refine blk_alloc ?_ _)); exact BK307.out) hb); clear hb hbox hg; have hnb13 := NB309_305.out; have hnc13 := NB305_309.out; have hnb14 := NB309_307.out; have hnc14 := NB307_309.out; have hcz15_0 : w12.cell? ⟨gb309, 0, none⟩ = some (.int .i64 0) := (blk_cell BK309.out 0).trans rfl; have hcz15_1 : w12.cell? ⟨gb309, 1, none⟩ = some (.int .i64 0) := (blk_cell BK309.out 1).trans rfl; have hfz15_0 := blk_frozen BK309.out 0; have hfz15_1 := blk_frozen BK309.out 1; have hnb16 := NB307_305.out; have hnc16 := NB305_307.out; have hcz17_0 : w12.cell? ⟨gb307, 0, none⟩ = some (.int .i64 x308000_1) := (blk_cell BK307.out 0).trans rfl; have hcz17_1 : w12.cell? ⟨gb307, 1, none⟩ = some (.int .i64 x308001_1) := (blk_cell BK307.out 1).trans rfl; have hfz17_0 := blk_frozen BK307.out 0; have hfz17_1 := blk_frozen BK307.out 1))
       go_roundg k1
       case measure => have := HK1.out; omega
       case rel => exact ⟨(wrap64 (x11_1 + 1)), (ji10), (ji11), r3_, H', ⟨by have := HK1.out; omega⟩, ⟨by (with_reducible repeat (first | refine blk_drewN ?_ _ | refine blk_drew ?_ | refine blk_alloc ?_ _)); refine blk_far ?_ NB305_307.out _; (with_reducible repeat (first | refine blk_drewN ?_ _ | refine blk_drew ?_ | refine blk_alloc ?_ _)); refine blk_far ?_ NB305_307.out _; (with_reducible repeat (first | refine blk_drewN ?_ _ | refine blk_drew ?_ | refine blk_alloc ?_ _)); refine blk_far ?_ NB305_309.out _; (with_reducible repeat (first | refine blk_drewN ?_ _ | refine blk_drew ?_ | refine blk_alloc ?_ _)); refine blk_far ?_ NB305_309.out _; (with_reducible repeat (first | refine blk_drewN ?_ _ | refine blk_drew ?_ | refine blk_alloc ?_ _)); exact BK305.out⟩, ⟨by (with_reducible repeat (first | refine blk_drewN ?_ _ | refine blk_drew ?_ | refine blk_alloc ?_ _)); refine blk_put (cs := #[.int .i64 ji10, .int .i64 x308001_1]) ?_ 1 _ rfl; (with_reducible repeat (first | refine blk_drewN ?_ _ | refine blk_drew ?_ | refine blk_alloc ?_ _)); refine blk_put (cs := #[.int .i64 x308000_1, .int .i64 x308001_1]) ?_ 0 _ rfl; (with_reducible repeat (first | refine blk_drewN ?_ _ | refine blk_drew ?_ | refine blk_alloc ?_ _)); refine blk_far ?_ NB307_309.out _; (with_reducible repeat (first | refine blk_drewN ?_ _ | refine blk_drew ?_ | refine blk_alloc ?_ _)); refine blk_far ?_ NB307_309.out _; (with_reducible repeat (first | refine blk_drewN ?_ _ | refine blk_drew ?_ | refine blk_alloc ?_ _)); exact BK307.out⟩, ⟨by repeat (first | (with_reducible first | exact HB.out | apply below_alloc | apply pw_below_drewN | apply below_drew1 | refine below_set ?_ GE305.out | refine below_set ?_ GE307.out | refine below_set ?_ GE309.out) | exact HB.out)⟩⟩
      ·rw [if_neg c9] at H
       exact absurd H (by simp)
     ·rw [if_neg c8] at H
      exact absurd H (by simp)
    ·rw [if_neg c7] at H
     have c7b0 : decide (x11_1 < (l0.length : Int)) = false := decide_eq_false c7
     clear c7
     simp only [Option.some.injEq, Prod.mk.injEq] at H
     obtain ⟨rfl, rfl⟩ := H
     have hnb18 := NB307_305.out
     have hnc18 := NB305_307.out
     have hcz19_0 : wr.cell? ⟨gb307, 0, none⟩ = some (.int .i64 x308000_1) := (blk_cell BK307.out 0).trans rfl
     have hcz19_1 : wr.cell? ⟨gb307, 1, none⟩ = some (.int .i64 x308001_1) := (blk_cell BK307.out 1).trans rfl
     have hfz19_0 := blk_frozen BK307.out 0
     have hfz19_1 := blk_frozen BK307.out 1
     have hcz20_0 : wr.cell? ⟨gb305, 0, none⟩ = some (.int .i64 0) := (blk_cell BK305.out 0).trans rfl
     have hcz20_1 : wr.cell? ⟨gb305, 1, none⟩ = some (.int .i64 0) := (blk_cell BK305.out 1).trans rfl
     have hfz20_0 := blk_frozen BK305.out 0
     have hfz20_1 := blk_frozen BK305.out 1
     go_wp2
     refine bodyPost_ret (results_cell_row rfl _ _ gb305 43 #[.int .i64 x308000_1, .int .i64 x308001_1] (0, 0) _ rfl (by (with_reducible repeat (first | refine blk_drewN ?_ _ | refine blk_drew ?_ | refine blk_alloc ?_ _)); refine blk_put (cs := #[.int .i64 x308000_1, .int .i64 0]) ?_ 1 _ rfl; (with_reducible repeat (first | refine blk_drewN ?_ _ | refine blk_drew ?_ | refine blk_alloc ?_ _)); refine blk_put (cs := #[.int .i64 0, .int .i64 0]) ?_ 0 _ rfl; (with_reducible repeat (first | refine blk_drewN ?_ _ | refine blk_drew ?_ | refine blk_alloc ?_ _)); exact BK305.out) Tryd.underlying43 rfl (by kernel_rfl)) rfl ?_
     exact ⟨r2_, by repeat (first | (with_reducible first | exact HB.out | apply below_alloc | apply pw_below_drewN | apply below_drew1 | refine below_set ?_ GE305.out | refine below_set ?_ GE307.out) | exact HB.out)⟩
 ·rw [if_neg c2] at H
  exact absurd H (by simp)

/-! ### impl_shapeText: function 15, by hand -/
-- COMMONS none
-- IMPORT Derived.Shelf.Strings.Repeat
-- IMPORT Derived.Shelf.Strings.OnBuilder
-- IMPORT Derived.Lib.ConvBytes
def layRep__ren : Go.Shelf.Ren := ⟨fun | 105 => 28 | 212 => 45 | 99 => 46 | 165 => 47 | 166 => 48 | 170 => 49 | 169 => 50 | 263 => 58 | 264 => 59 | 206 => 60 | 240 => 61 | 241 => 62 | 276 => 68 | 277 => 69 | n => n, fun | 9 => 9 | 3 => 3 | 4 => 4 | 20 => 20 | 0 => 0 | 46 => 65 | 109 => 66 | 5 => 5 | 72 => 71 | 76 => 75 | 51 => 83 | 146 => 84 | 53 => 86 | 148 => 87 | 70 => 69 | 37 => 22 | 75 => 74 | 127 => 89 | 164 => 94 | 80 => 78 | n => n, fun | n => n⟩
theorem layRep_ : Go.Proofs.Lays.n105 Tryd.prog layRep__ren := {
 mixed := by kernel_rfl,
 f99 := Tryd.func46.trans (congrArg some (by kernel_rfl)),
 f105 := Tryd.func28.trans (congrArg some (by kernel_rfl)),
 f165 := Tryd.func47.trans (congrArg some (by kernel_rfl)),
 f166 := Tryd.func48.trans (congrArg some (by kernel_rfl)),
 f169 := Tryd.func50.trans (congrArg some (by kernel_rfl)),
 f170 := Tryd.func49.trans (congrArg some (by kernel_rfl)),
 f206 := Tryd.func60.trans (congrArg some (by kernel_rfl)),
 f212 := Tryd.func45.trans (congrArg some (by kernel_rfl)),
 f240 := Tryd.func61.trans (congrArg some (by kernel_rfl)),
 f241 := Tryd.func62.trans (congrArg some (by kernel_rfl)),
 f263 := Tryd.func58.trans (congrArg some (by kernel_rfl)),
 f264 := Tryd.func59.trans (congrArg some (by kernel_rfl)),
 f276 := Tryd.func68.trans (congrArg some (by kernel_rfl)),
 f277 := Tryd.func69.trans (congrArg some (by kernel_rfl)),
 t0 := Tryd.underlying0,
 a0 := Tryd.isAgg0,
 z0 := Tryd.sizeOf0,
 v0 := Tryd.zeroValue0,
 t3 := Tryd.underlying3,
 a3 := Tryd.isAgg3,
 z3 := Tryd.sizeOf3,
 v3 := Tryd.zeroValue3,
 t4 := Tryd.underlying4,
 a4 := Tryd.isAgg4,
 z4 := Tryd.sizeOf4,
 v4 := Tryd.zeroValue4,
 t5 := Tryd.underlying5,
 a5 := Tryd.isAgg5,
 z5 := Tryd.sizeOf5,
 v5 := Tryd.zeroValue5,
 t9 := Tryd.underlying9,
 a9 := Tryd.isAgg9,
 z9 := Tryd.sizeOf9,
 v9 := Tryd.zeroValue9,
 t20 := Tryd.underlying20,
 a20 := Tryd.isAgg20,
 z20 := Tryd.sizeOf20,
 v20 := Tryd.zeroValue20,
 t37 := Tryd.underlying22,
 a37 := Tryd.isAgg22,
 z37 := Tryd.sizeOf22,
 v37 := Tryd.zeroValue22,
 t46 := Tryd.underlying65,
 a46 := Tryd.isAgg65,
 z46 := Tryd.sizeOf65,
 v46 := Tryd.zeroValue65,
 t51 := Tryd.underlying83,
 a51 := Tryd.isAgg83,
 z51 := Tryd.sizeOf83,
 v51 := Tryd.zeroValue83,
 t53 := Tryd.underlying86,
 a53 := Tryd.isAgg86,
 z53 := Tryd.sizeOf86,
 v53 := Tryd.zeroValue86,
 t70 := Tryd.underlying69,
 a70 := Tryd.isAgg69,
 z70 := Tryd.sizeOf69,
 v70 := Tryd.zeroValue69,
 t72 := Tryd.underlying71,
 a72 := Tryd.isAgg71,
 z72 := Tryd.sizeOf71,
 v72 := Tryd.zeroValue71,
 t75 := Tryd.underlying74,
 a75 := Tryd.isAgg74,
 z75 := Tryd.sizeOf74,
 v75 := Tryd.zeroValue74,
 t76 := Tryd.underlying75,
 a76 := Tryd.isAgg75,
 z76 := Tryd.sizeOf75,
 v76 := Tryd.zeroValue75,
 t109 := Tryd.underlying66,
 a109 := Tryd.isAgg66,
 z109 := Tryd.sizeOf66,
 v109 := Tryd.zeroValue66,
 t127 := Tryd.underlying89,
 a127 := Tryd.isAgg89,
 z127 := Tryd.sizeOf89,
 v127 := Tryd.zeroValue89,
 t146 := Tryd.underlying84,
 a146 := Tryd.isAgg84,
 z146 := Tryd.sizeOf84,
 v146 := Tryd.zeroValue84,
 t148 := Tryd.underlying87,
 a148 := Tryd.isAgg87,
 z148 := Tryd.sizeOf87,
 v148 := Tryd.zeroValue87,
 t164 := Tryd.underlying94,
 a164 := Tryd.isAgg94,
 z164 := Tryd.sizeOf94,
 v164 := Tryd.zeroValue94 }
def layJoin__ren : Go.Shelf.Ren := ⟨fun | 156 => 29 | 165 => 47 | 166 => 48 | 169 => 50 | 240 => 61 | 241 => 62 | 276 => 68 | 277 => 69 | n => n, fun | 31 => 40 | 9 => 9 | 3 => 3 | 4 => 4 | 0 => 0 | 20 => 20 | 72 => 71 | 76 => 75 | 70 => 69 | 37 => 22 | 75 => 74 | 127 => 89 | 164 => 94 | 5 => 5 | 80 => 78 | n => n, fun | n => n⟩
theorem layJoin_ : Go.Proofs.Lays.n156 Tryd.prog layJoin__ren := {
 mixed := by kernel_rfl,
 f156 := Tryd.func29.trans (congrArg some (by kernel_rfl)),
 f165 := Tryd.func47.trans (congrArg some (by kernel_rfl)),
 f166 := Tryd.func48.trans (congrArg some (by kernel_rfl)),
 f169 := Tryd.func50.trans (congrArg some (by kernel_rfl)),
 f240 := Tryd.func61.trans (congrArg some (by kernel_rfl)),
 f241 := Tryd.func62.trans (congrArg some (by kernel_rfl)),
 f276 := Tryd.func68.trans (congrArg some (by kernel_rfl)),
 f277 := Tryd.func69.trans (congrArg some (by kernel_rfl)),
 t0 := Tryd.underlying0,
 a0 := Tryd.isAgg0,
 z0 := Tryd.sizeOf0,
 v0 := Tryd.zeroValue0,
 t3 := Tryd.underlying3,
 a3 := Tryd.isAgg3,
 z3 := Tryd.sizeOf3,
 v3 := Tryd.zeroValue3,
 t4 := Tryd.underlying4,
 a4 := Tryd.isAgg4,
 z4 := Tryd.sizeOf4,
 v4 := Tryd.zeroValue4,
 t9 := Tryd.underlying9,
 a9 := Tryd.isAgg9,
 z9 := Tryd.sizeOf9,
 v9 := Tryd.zeroValue9,
 t20 := Tryd.underlying20,
 a20 := Tryd.isAgg20,
 z20 := Tryd.sizeOf20,
 v20 := Tryd.zeroValue20,
 t31 := Tryd.underlying40,
 a31 := Tryd.isAgg40,
 z31 := Tryd.sizeOf40,
 v31 := Tryd.zeroValue40,
 t37 := Tryd.underlying22,
 a37 := Tryd.isAgg22,
 z37 := Tryd.sizeOf22,
 v37 := Tryd.zeroValue22,
 t70 := Tryd.underlying69,
 a70 := Tryd.isAgg69,
 z70 := Tryd.sizeOf69,
 v70 := Tryd.zeroValue69,
 t72 := Tryd.underlying71,
 a72 := Tryd.isAgg71,
 z72 := Tryd.sizeOf71,
 v72 := Tryd.zeroValue71,
 t75 := Tryd.underlying74,
 a75 := Tryd.isAgg74,
 z75 := Tryd.sizeOf74,
 v75 := Tryd.zeroValue74,
 t76 := Tryd.underlying75,
 a76 := Tryd.isAgg75,
 z76 := Tryd.sizeOf75,
 v76 := Tryd.zeroValue75,
 t127 := Tryd.underlying89,
 a127 := Tryd.isAgg89,
 z127 := Tryd.sizeOf89,
 v127 := Tryd.zeroValue89,
 t164 := Tryd.underlying94,
 a164 := Tryd.isAgg94,
 z164 := Tryd.sizeOf94,
 v164 := Tryd.zeroValue94 }
theorem extraRep_ : Go.Proofs.Builder.Extra Tryd.prog layRep__ren := { sizeBuilder := by kernel_rfl, liesBuilder := by kernel_rfl, t5 := Tryd.underlying5, a5 := Tryd.isAgg5, z5 := Tryd.sizeOf5, v5 := Tryd.zeroValue5, infoByte := by kernel_rfl, cellsByte := by kernel_rfl, sizeByte := by kernel_rfl, neB5 := by decide }
theorem extraJoin_ : Go.Proofs.Builder.Extra Tryd.prog layJoin__ren := { sizeBuilder := by kernel_rfl, liesBuilder := by kernel_rfl, t5 := Tryd.underlying5, a5 := Tryd.isAgg5, z5 := Tryd.sizeOf5, v5 := Tryd.zeroValue5, infoByte := by kernel_rfl, cellsByte := by kernel_rfl, sizeByte := by kernel_rfl, neB5 := by decide }
theorem strings_Repeat_ (s : ByteArray) (c : Nat) (w : World) (hc : c ≤ 9223372036854775807) (hlen : s.size * c ≤ 140737488355328) :
  Calls Tryd.prog 28 #[.string s, .int .i64 c] w fun e w' => e = .returned (.string ⟨(Lib.repeatL s.data.toList c).toArray⟩) ∧ Below w.heap.size w w' :=
 Any.strings_Repeat layRep_ extraRep_ s c w hc hlen
theorem strings_Join_ (bk o c : Nat) (xs : List ByteArray) (sep : ByteArray) (w : World) (hcells : ∀ (j : Nat) x, xs[j]? = some x → w.cell? ⟨bk, o + j, none⟩ = some (.string x))
  (hbk : bk < w.heap.size) (hN : xs.length ≤ 140737488355328) (hcap : xs.length ≤ c) (hlen : (Lib.join (xs.map (·.data.toList)) sep.data.toList).length ≤ 140737488355328) :
  Calls Tryd.prog 29 #[.slice (some ⟨bk, o, none⟩) xs.length c, .string sep] w fun e w' => e = .returned (.string ⟨(Lib.join (xs.map (·.data.toList)) sep.data.toList).toArray⟩) ∧ Below w.heap.size w w' :=
 Any.strings_Join layJoin_ extraJoin_ bk o c xs sep w hcells hbk hN hcap hlen
/-- n rows of m bytes, each in a block of its own (bs: the blocks and the rows' capacities), all younger than w3 -/
structure Grid_ (w3 w : World) (g n m : Nat) (bs : List (Nat × Nat)) (rows : List (List Int)) : Prop where
 below : Below w3.heap.size w3 w
 base : w3.heap.size ≤ g
 outer : ∃ cur : Array Value, w.heap[g]? = some (.cells cur 22 (0, 0)) ∧ n ≤ cur.size ∧ ∀ (i : Nat) (b : Nat × Nat), bs[i]? = some b → cur[i]? = some (.slice (some ⟨b.1, 0, none⟩) m b.2)
 len : bs.length = rows.length
 inner : ∀ (i : Nat) (b : Nat × Nat) (row : List Int), bs[i]? = some b → rows[i]? = some row → b.1 ≠ g ∧ w3.heap.size ≤ b.1 ∧ row.length = m ∧ m ≤ b.2 ∧ ∃ cur : Array Value, w.heap[b.1]? = some (.cells cur 5 (cur.size, cur.size + 1)) ∧ m ≤ cur.size ∧ ∀ j, j < m → cur[j]? = some (.int .u8 (row.getD j 0))
 apart : ∀ (i j : Nat) (b c : Nat × Nat), bs[i]? = some b → bs[j]? = some c → b.1 = c.1 → i = j
namespace Grid_
variable {w3 w W : World} {g n m : Nat} {bs : List (Nat × Nat)} {rows : List (List Int)}
theorem later (h : Grid_ w3 w g n m bs rows) (hb : Below w.heap.size w W) : Grid_ w3 W g n m bs rows := by
 refine ⟨below_then h.below h.below.size hb, h.base, ?_, h.len, fun i b row h1 h2 => ?_, h.apart⟩
 ·obtain ⟨cur, h1, h2⟩ := h.outer
  exact ⟨cur, blk_below h1 hb, h2⟩
 ·obtain ⟨q1, q2, q3, q4, cur, q5, q6⟩ := h.inner i b row h1 h2
  exact ⟨q1, q2, q3, q4, cur, blk_below q5 hb, q6⟩
theorem slot (h : Grid_ w3 w g n m bs rows) {i : Nat} (hi : i < n) : (∃ u, w.cell? ⟨g, i, none⟩ = some u) ∧ w.frozen? ⟨g, i, none⟩ = false := by
 obtain ⟨cur, h1, h2, _⟩ := h.outer
 exact ⟨⟨cur[i], by rw [blk_cell h1]; exact Array.getElem?_eq_getElem (by omega)⟩, blk_frozen h1 _⟩
theorem row (h : Grid_ w3 w g n m bs rows) {i : Nat} {b : Nat × Nat} (hb : bs[i]? = some b) : w.cell? ⟨g, i, none⟩ = some (.slice (some ⟨b.1, 0, none⟩) m b.2) := by
 obtain ⟨cur, h1, _, h2⟩ := h.outer
 rw [blk_cell h1]
 exact h2 i b hb
theorem cell (h : Grid_ w3 w g n m bs rows) {i x : Nat} {b : Nat × Nat} {row : List Int} (hb : bs[i]? = some b) (hr : rows[i]? = some row) (hx : x < m) : w.cell? ⟨b.1, x, none⟩ = some (.int .u8 (row.getD x 0)) ∧ w.frozen? ⟨b.1, x, none⟩ = false := by
 obtain ⟨_, _, _, _, cur, h1, h2, h3⟩ := h.inner i b row hb hr
 exact ⟨by rw [← h3 x hx]; simp [World.cell?, h1], by simp [World.frozen?, h1]; omega⟩
theorem push (h : Grid_ w3 w g n m bs rows) (hn : bs.length < n) (hb : Below w.heap.size w W) {b c : Nat} {row : List Int} {cur : Array Value} (hnew : w.heap.size ≤ b)
  (hcur : W.heap[b]? = some (.cells cur 5 (cur.size, cur.size + 1))) (hm : m ≤ cur.size) (hrow : row.length = m) (hc : m ≤ c) (hcell : ∀ j, j < m → cur[j]? = some (.int .u8 (row.getD j 0))) :
  Grid_ w3 (W.setCell ⟨g, bs.length, none⟩ (.slice (some ⟨b, 0, none⟩) m c)) g n m (bs ++ [(b, c)]) (rows ++ [row]) := by
 have h' := h.later hb
 obtain ⟨oc, o1, o2, o3⟩ := h'.outer
 obtain ⟨oc0, o10, _⟩ := h.outer
 have hgb : b ≠ g := by have := blk_lt o10; omega
 have hold : ∀ (i : Nat) (b' : Nat × Nat), bs[i]? = some b' → b'.1 < b := by
  intro i b' hi
  obtain ⟨r', hr'⟩ : ∃ r', rows[i]? = some r' := ⟨_, List.getElem?_eq_getElem (by rw [← h.len]; exact (List.getElem?_eq_some_iff.1 hi).1)⟩
  obtain ⟨_, _, _, _, c1, hc1, _⟩ := h.inner i b' r' hi hr'
  have := blk_lt hc1
  omega
 have hl3 := h.below.size
 refine ⟨below_set h'.below h.base, h.base, ⟨oc.setIfInBounds bs.length (.slice (some ⟨b, 0, none⟩) m c), blk_set o1 _ _, by simpa using o2, fun i b' hi => ?_⟩, by simp [h.len], fun i b' row' hi hr => ?_, fun i j b' c' hi hj he => ?_⟩
 ·rw [Array.getElem?_setIfInBounds]
  rcases Nat.lt_trichotomy i bs.length with hlt | rfl | hgt
  ·rw [List.getElem?_append_left hlt] at hi
   rw [if_neg (by omega)]
   exact o3 i b' hi
  ·rw [List.getElem?_append_right (Nat.le_refl _), Nat.sub_self] at hi
   simp only [List.getElem?_cons_zero, Option.some.injEq] at hi
   subst hi
   rw [if_pos rfl, if_pos (by omega)]
  ·rw [List.getElem?_append_right (by omega)] at hi
   rw [List.getElem?_eq_none (by simp; omega)] at hi
   cases hi
 ·rcases Nat.lt_trichotomy i bs.length with hlt | rfl | hgt
  ·rw [List.getElem?_append_left hlt] at hi
   rw [List.getElem?_append_left (by rw [← h.len]; exact hlt)] at hr
   obtain ⟨q1, q2, q3, q4, c1, q5, q6⟩ := h'.inner i b' row' hi hr
   exact ⟨q1, q2, q3, q4, c1, (Below.heap_setCell _ _ _ _ q1).trans q5, q6⟩
  ·rw [List.getElem?_append_right (Nat.le_refl _), Nat.sub_self] at hi
   rw [List.getElem?_append_right (by rw [h.len]; exact Nat.le_refl _), h.len, Nat.sub_self] at hr
   simp only [List.getElem?_cons_zero, Option.some.injEq] at hi hr
   subst hi
   subst hr
   exact ⟨hgb, by omega, hrow, hc, cur, (Below.heap_setCell _ _ _ _ hgb).trans hcur, hm, hcell⟩
  ·rw [List.getElem?_append_right (by omega)] at hi
   rw [List.getElem?_eq_none (by simp; omega)] at hi
   cases hi
 ·have key : ∀ (i : Nat) (b' : Nat × Nat), (bs ++ [(b, c)])[i]? = some b' → (i < bs.length ∧ bs[i]? = some b') ∨ (i = bs.length ∧ b'.1 = b) := by
   intro i b' hi
   rcases Nat.lt_trichotomy i bs.length with hlt | rfl | hgt
   ·rw [List.getElem?_append_left hlt] at hi
    exact .inl ⟨hlt, hi⟩
   ·rw [List.getElem?_append_right (Nat.le_refl _), Nat.sub_self] at hi
    simp only [List.getElem?_cons_zero, Option.some.injEq] at hi
    subst hi
    exact .inr ⟨rfl, rfl⟩
   ·rw [List.getElem?_append_right (by omega)] at hi
    rw [List.getElem?_eq_none (by simp; omega)] at hi
    cases hi
  rcases key i b' hi with ⟨a1, a2⟩ | ⟨a1, a2⟩ <;> rcases key j c' hj with ⟨e1, e2⟩ | ⟨e1, e2⟩
  ·exact h.apart i j b' c' a2 e2 he
  ·have := hold i b' a2; omega
  ·have := hold j c' e2; omega
  ·omega
theorem mark (h : Grid_ w3 w g n m bs rows) {y x : Nat} {b : Nat × Nat} {row : List Int} (hb : bs[y]? = some b) (hr : rows[y]? = some row) (hx : x < m) (u : Int) :
  Grid_ w3 (w.setCell ⟨b.1, x, none⟩ (.int .u8 u)) g n m bs (rows.set y (row.set x u)) := by
 obtain ⟨p1, p2, p3, p4, pc, p5, p6, p7⟩ := h.inner y b row hb hr
 refine ⟨below_set h.below p2, h.base, ?_, by rw [List.length_set]; exact h.len, fun i b' row' hi hr' => ?_, h.apart⟩
 ·obtain ⟨cur, h1, h2⟩ := h.outer
  exact ⟨cur, (Below.heap_setCell _ _ _ _ (Ne.symm p1)).trans h1, h2⟩
 ·by_cases hiy : i = y
  ·subst hiy
   rw [hb] at hi
   injection hi with hi
   subst hi
   rw [List.getElem?_set_self (List.getElem?_eq_some_iff.1 hr).1] at hr'
   injection hr' with hr'
   subst hr'
   refine ⟨p1, p2, by rw [List.length_set]; exact p3, p4, pc.setIfInBounds x (.int .u8 u), by simp [World.setCell, Array.getElem?_modify, p5], by simpa using p6, fun j hj => ?_⟩
   rw [Array.getElem?_setIfInBounds]
   by_cases hjx : x = j
   ·subst hjx
    rw [if_pos rfl, if_pos (by omega), List.getD_eq_getElem?_getD, List.getElem?_set_self (by omega)]; rfl
   ·rw [if_neg hjx, p7 j hj, List.getD_eq_getElem?_getD, List.getD_eq_getElem?_getD, List.getElem?_set_ne hjx]
  ·rw [List.getElem?_set_ne (Ne.symm hiy)] at hr'
   obtain ⟨q1, q2, q3, q4, c1, q5, q6⟩ := h.inner i b' row' hi hr'
   exact ⟨q1, q2, q3, q4, c1, (Below.heap_setCell _ _ _ _ (fun e => hiy (h.apart i y b' b hi hb e))).trans q5, q6⟩
end Grid_
def markRow_ (g : List (List Int)) (c : S43) : List (List Int) := g.set c.f1.toNat ((g.getD c.f1.toNat []).set c.f0.toNat 35)
def textRows_ (n m : Nat) (o : List S43) : List (List Int) := o.foldl markRow_ (List.replicate n (List.replicate m 46))
def joined_ (rows : List (List Int)) : ByteArray := ⟨(Lib.join (rows.map fun r => (strOfNums r).data.toList) [47]).toArray⟩
def impl_shapeText.f (k : Nat) (l0 : List S43) : Option ByteArray :=
 (impl_normal.f k l0).bind fun o => (impl_reach.f k o).bind fun p => if (0 ≤ p.1 ∧ p.1 < 1000000) ∧ (0 ≤ p.2 ∧ p.2 < 1000000) ∧ ∀ c ∈ o, (0 ≤ c.f0 ∧ c.f0 ≤ p.1) ∧ 0 ≤ c.f1 ∧ c.f1 ≤ p.2 then some (joined_ (textRows_ (p.2.toNat + 1) (p.1.toNat + 1) o)) else none
theorem impl_shapeText.mono : ∀ a0 k, LeO (impl_shapeText.f k a0) (impl_shapeText.f (k + 1) a0) := fun a0 k =>
 LeO.bind (impl_normal.mono _ _) fun _ => LeO.bind (impl_reach.mono _ _) fun _ => LeO.refl _
theorem repeat_46 : ∀ m : Nat, (Lib.repeatL (⟨#[46]⟩ : ByteArray).data.toList m) = List.replicate m 46
 | 0 => rfl
 | m + 1 => by rw [Lib.repeatL, repeat_46 m]; rfl
theorem st_ite_ {c : Prop} [Decidable c] {α : Type} {x : Option α} {r : α} (h : (if c then x else none) = some r) : c ∧ x = some r := by
 by_cases g : c
 ·rw [if_pos g] at h; exact ⟨g, h⟩
 ·rw [if_neg g] at h; cases h
theorem join_le_ (m : Nat) : ∀ (xs : List (List UInt8)), (∀ x ∈ xs, x.length ≤ m) → (Lib.join xs [47]).length ≤ xs.length * (m + 1)
 | [], _ => by rw [Lib.join_nil]; exact Nat.zero_le _
 | x :: r, h => by
  have hx := h x (List.mem_cons_self ..)
  have ht : (Lib.joinTail [47] r).length ≤ r.length * (m + 1) := by
   have : ∀ q : List (List UInt8), (∀ x ∈ q, x.length ≤ m) → (Lib.joinTail [47] q).length ≤ q.length * (m + 1) := by
    intro q
    induction q with
    | nil => intro _; exact Nat.zero_le _
    | cons y q ih =>
     intro hq
     have h1 := ih (fun x hx => hq x (List.mem_cons_of_mem _ hx))
     have h2 := hq y (List.mem_cons_self ..)
     unfold Lib.joinTail at h1 ⊢
     rw [List.map_cons, List.flatten_cons, List.length_append, List.length_append, List.length_cons, List.length_cons, Nat.succ_mul]
     simp only [List.length_nil]
     omega
   exact this r (fun x hx => h x (List.mem_cons_of_mem _ hx))
  rw [Lib.join_cons, List.length_append, List.length_cons, Nat.succ_mul]
  omega
def shapeText_T12_ : Bool × List (List Nat × List Nat) := (true, [([], []), ([], []), ([1], [1]), ([0, 2], [0, 2]), ([3], [3]), ([], []), ([5], [5]), ([4, 6, 0, 1, 2, 3, 4, 5, 6], [4, 6]), ([7, 0, 1, 2, 3, 4, 5, 6], [7])])
def shapeText_B12_ : List Nat := [0, 0, 2, 7, 15, 0, 32, 127, 255]
theorem shapeText_tab12_ : rtab .any (opsOf Tryd.f15 12) = shapeText_T12_ := by kernel_rfl
theorem shapeText_bits12_ : waitsOk shapeText_T12_.2 shapeText_B12_ = true := by kernel_rfl
theorem infoR_ : (Tryd.prog.info? 22).map (fun i => (i.zero, i.size, i.bytes)) = some (some (.slice none 0 0), 1, 24) := by kernel_rfl
theorem infoS_ : (Tryd.prog.info? 9).map (fun i => (i.zero, i.size, i.bytes)) = some (some (.string ⟨#[]⟩), 1, 16) := by kernel_rfl
set_option maxHeartbeats 8000000 in
set_option maxRecDepth 100000 in
theorem impl_shapeText.calls (k : Nat) (A0 : Option Addr) (c0 : Nat) (l0 : List S43) (r : ByteArray) (w : World) (hr0 : Kd.C k43 w A0 l0.length l0) (hc0 : l0.length ≤ c0) (h : impl_shapeText.f k l0 = some r) :
  Calls Tryd.prog 15 #[.slice A0 l0.length c0] w fun e w' => e = .returned (.string r) ∧ Below w.heap.size w w' := by
 have hu1 := Tryd.underlying43
 have hu2 := Tryd.underlying24
 have hu3 := Tryd.underlying48
 have hu4 := Tryd.underlying22
 have hu5 := Tryd.underlying40
 obtain ⟨o, h1, g1⟩ := Option.bind_eq_some_iff.mp h
 obtain ⟨⟨r1, r2⟩, h2, g2⟩ := Option.bind_eq_some_iff.mp g1
 obtain ⟨⟨⟨p1, q1⟩, ⟨p2, q2⟩, hall⟩, g3⟩ := st_ite_ g2
 simp only at p1 q1 p2 q2 hall
 have g4 := Option.some.inj g3
 subst g4
 clear h g1 g2 g3
 obtain ⟨m, hm⟩ : ∃ m : Nat, (m : Int) = r1 + 1 := ⟨(r1 + 1).toNat, by omega⟩
 obtain ⟨n, hn⟩ : ∃ n : Nat, (n : Int) = r2 + 1 := ⟨(r2 + 1).toNat, by omega⟩
 rw [show r2.toNat + 1 = n by omega, show r1.toNat + 1 = m by omega]
 have hw1 : IntKind.i64.wrap (r1 + 1) = (m : Int) := by rw [hm]; exact (i64_w _).trans (by unfold wrap64; omega)
 have hw2 : IntKind.i64.wrap (r2 + 1) = (n : Int) := by rw [hn]; exact (i64_w _).trans (by unfold wrap64; omega)
 have H2 := Aside0.mk h2
 have HALL := Aside0.mk hall
 have HM := Aside0.mk (show (m : Int) = r1 + 1 ∧ m ≤ 1000000 by omega)
 have HN := Aside0.mk (show (n : Int) = r2 + 1 ∧ 0 < n ∧ n ≤ 1000000 by omega)
 clear h2 hall hm hn p1 q1 p2 q2
 go_enter Tryd.func15, Tryd.ntmps15
 go_wp2_with fail
 refine (impl_normal.calls k _ _ l0 o _ hr0 hc0 h1).mono ?_
 rintro e w1 ⟨v0, rfl, hR, hb1⟩
 obtain ⟨Ao, co, rfl⟩ := Kd.R_slice hR
 have HO := Aside0.mk (Kd.R_reads' hR).2.2
 have HOL := Aside0.mk (Kd.R_reads' hR).2.1
 have HOM := Aside0.mk (show o.length ≤ 9223372036854775807 from (Kd.R_reads' hR).2.2.2.1)
 have HB := Aside0.mk hb1
 clear hR hb1 h1 hr0
 go_wp2_with fail
 refine (impl_reach.calls k _ _ o r1 r2 _ HO.out HOL.out H2.out).mono ?_
 rintro e w2 ⟨rfl, hb2⟩
 replace HO := Aside0.mk (Kd.C_below HO.out hb2)
 replace HB := Aside0.mk (below_step HB.out hb2)
 clear hb2 H2
 go_wp2_with (first | ((with_reducible refine gate_dst (N := 19) rfl ?_); generalize hW3 : w2.alloc _ = w3; generalize hL : w2.heap.size = L; have hbL : w3.heap[L]? = some (.cells #[.int .i64 r1, .int .i64 r2] 43 (0, 0)) := (by rw [← hW3, ← hL]; exact blk_new _ _); have hb3 : Below w2.heap.size w2 w3 := (by rw [← hW3]; exact below_alloc (Below.refl _ _) _); clear hW3 hL; replace HO := Aside0.mk (Kd.C_below HO.out hb3); replace HB := Aside0.mk (below_step HB.out hb3); have HBL := Aside0.mk hbL; clear hb3 hbL; refine Kd.R_make (Kd.raw 1) _ 22 rfl (N := 19) rfl 48 _ _ rfl (n : Int) rfl rfl Tryd.underlying48 (.slice none 0 0) 24 infoR_ rfl (by decide) (by omega) ([.slice none 0 0]) (ok := fun _ => True) (okp := fun _ => True) ⟨rfl, rfl, (fun u hu => by simp [Value.cells] at hu; subst hu; rfl)⟩ (fun _ hk => hk) trivial (by omega) (by have := HN.out; omega) (Below.refl _ _) (Nat.le_refl _) ?_; intro v4 w4 ho4 hb4 hg_ hnew_; clear hg_ hnew_))
 obtain ⟨_, inner, hown, _⟩ := ho4
 rw [List.length_replicate, Int.toNat_natCast] at hown
 rcases hown.2 with ⟨_, hz⟩ | ⟨g, cap, cur0, rfl, hg, hblk, hnc, _, hcs, _⟩
 ·exact absurd hz (by have := HN.out; omega)
 have hcs' : cur0.size = cap := by rw [hcs]; exact Nat.mul_one _
 have HG0 := Aside0.mk (show Grid_ w3 w4 g n m [] [] from ⟨hb4, hg, ⟨cur0, hblk, by omega, fun i b hi => by simp at hi⟩, rfl, fun i b row hi => by simp at hi, fun i j b c hi => by simp at hi⟩)
 clear hown hblk hnc hcs hcs' hg hb4
 go_wp2_with fail
 go_loopg [22] n (fun gk v22 wr => ∃ (bs : List (Nat × Nat)) (rows : List (List Int)), v22 = .int .i64 (bs.length : Int) ∧ Aside0 (gk + bs.length = n) ∧ Aside0 (rows = List.replicate bs.length (List.replicate m 46)) ∧ Aside0 (Grid_ w3 wr g n m bs rows))
 case atStart => exact ⟨[], [], rfl, ⟨rfl⟩, ⟨rfl⟩, HG0⟩
 case round =>
  clear HG0
  obtain ⟨bs, rows, rfl, HI, HRO, HG⟩ := hrel
  cases gk with
  | zero =>
   have hi : bs.length = n := by have := HI.out; omega
   have d1 : decide ((bs.length : Int) < (n : Int)) = false := decide_eq_false (by omega)
   have d2 : decide (bs.length < n) = false := decide_eq_false (by omega)
   have HBN := Aside0.mk hi
   clear HI hi
   go_wp2_with fail
   go_loopg [36] o.length (fun gk v36 wr => ∃ (i : Nat) (rows : List (List Int)), v36 = .int .i64 (i : Int) ∧ Aside0 (gk + i = o.length) ∧ Aside0 (rows = (o.take i).foldl markRow_ (List.replicate n (List.replicate m 46))) ∧ Aside0 (Grid_ w3 wr g n m bs rows))
   case atStart => exact ⟨0, rows, rfl, ⟨rfl⟩, ⟨by rw [HRO.out, HBN.out]; rfl⟩, HG⟩
   case round =>
    clear HG HRO
    obtain ⟨i, rows, rfl, HI, HRO, HG⟩ := hrel
    cases gk with
    | zero =>
     have hi : i = o.length := by have := HI.out; omega
     have d1 : decide ((i : Int) < (o.length : Int)) = false := decide_eq_false (by omega)
     have d2 : decide (i < o.length) = false := decide_eq_false (by omega)
     replace HRO := Aside0.mk (show rows = textRows_ n m o by rw [HRO.out, hi, List.take_length]; rfl)
     clear HI hi
     have HB8 := Aside0.mk (below_step HB.out HG.out.below)
     clear HB HO HOL HBL HALL HOM
     generalize wr = w8 at *
     go_wp2_with (first | ((with_reducible refine gate_dst (N := 51) rfl ?_); refine Kd.R_make Kd.string _ 9 rfl (N := 51) rfl 40 _ _ rfl (n : Int) rfl rfl Tryd.underlying40 (.string ⟨#[]⟩) 16 infoS_ rfl (by decide) (by omega) (⟨#[]⟩ : ByteArray) (ok := fun _ => True) (okp := fun _ => True) rfl (fun _ hk => hk) trivial (by omega) (by have := HN.out; omega) (Below.refl _ _) (Nat.le_refl _) ?_; intro v9 w9 ho9 hb9 hg_ hnew_; clear hg_ hnew_))
     rw [Int.toNat_natCast] at ho9
     obtain ⟨g9, c9, e9, hg9, _⟩ := Kd.R_form ho9 (by rw [List.length_replicate]; have := HN.out; omega)
     rw [List.length_replicate] at e9
     subst e9
     go_wp2_with fail
     go_loopg [54] n (fun gk v54 wq => ∃ (i : Nat) (xs : List ByteArray), v54 = .int .i64 (i : Int) ∧ Aside0 (gk + i = n) ∧ Aside0 (xs.length = n) ∧ Aside0 (∀ j, j < i → xs[j]? = (rows[j]?).map strOfNums) ∧ Aside0 (Kd.R Kd.string 9 wq w8.heap.size (fun _ => True) (.slice (some ⟨g9, 0, none⟩) n c9) xs) ∧ Aside0 (Below w8.heap.size w8 wq))
     case atStart => exact ⟨0, _, rfl, ⟨rfl⟩, ⟨List.length_replicate ..⟩, ⟨fun j hj => absurd hj (Nat.not_lt_zero _)⟩, ⟨ho9⟩, ⟨hb9⟩⟩
     case round =>
      clear ho9 hb9
      obtain ⟨i, xs, rfl, HI, HXL, HX, HS, HB9⟩ := hrel
      cases gk with
      | zero =>
       have hi : i = n := by have := HI.out; omega
       have d1 : decide ((i : Int) < (n : Int)) = false := decide_eq_false (by omega)
       have d2 : decide (i < n) = false := decide_eq_false (by omega)
       have hrl : rows.length = n := by rw [← HG.out.len]; exact HBN.out
       have hxs : xs = rows.map strOfNums := by
        apply List.ext_getElem?
        intro j
        rcases Nat.lt_or_ge j n with hj | hj
        ·rw [HX.out j (by omega), List.getElem?_map]
        ·rw [List.getElem?_eq_none (by rw [HXL.out]; exact hj), List.getElem?_eq_none (by rw [List.length_map, hrl]; exact hj)]
       have hrm : ∀ r ∈ rows, r.length = m := by
        intro r hr
        obtain ⟨j, hj⟩ := List.getElem?_of_mem hr
        have hjl := (List.getElem?_eq_some_iff.1 hj).1
        obtain ⟨_, _, h3, _⟩ := HG.out.inner j (bs[j]'(by rw [HG.out.len]; exact hjl)) r (List.getElem?_eq_getElem (by rw [HG.out.len]; exact hjl)) hj
        exact h3
       have hjl : (Lib.join (xs.map (·.data.toList)) (⟨#[47]⟩ : ByteArray).data.toList).length ≤ 140737488355328 := by
        have h1 := join_le_ m (xs.map (·.data.toList)) (fun x hx => by
         rw [hxs, List.map_map] at hx
         obtain ⟨r, hr, rfl⟩ := List.mem_map.1 hx
         show (strOfNums r).data.toList.length ≤ m
         rw [strOfNums_data, List.length_map, hrm r hr]; exact Nat.le_refl _)
        rw [List.length_map, HXL.out] at h1
        have h2 : n * (m + 1) ≤ 1000000 * 1000001 := Nat.mul_le_mul HN.out.2.2 (by have := HM.out; omega)
        exact Nat.le_trans h1 (by omega)
       have hJ := strings_Join_ g9 0 c9 xs ⟨#[47]⟩ wr (fun j x hj => by
        have hjl := (List.getElem?_eq_some_iff.1 hj).1
        have h1 := (Kd.R_celln (⟨#[]⟩ : ByteArray) HS.out (j : Int) (by omega) (by rw [← HXL.out]; omega)).1
        rw [Int.toNat_natCast] at h1
        rw [Nat.zero_add, h1]
        unfold rdOf
        rw [Int.toNat_natCast, List.getD_eq_getElem?_getD, hj]; rfl) (Kd.R_lt HS.out g9 (by simp [Value.ownBlock])) (by rw [HXL.out]; have := HN.out; omega) (by rw [HXL.out]; exact (Kd.R_reads' HS.out).2.1) hjl
       rw [HXL.out] at hJ
       have HJ := Aside0.mk hJ
       have HJE := Aside0.mk (show (⟨(Lib.join (xs.map (·.data.toList)) (⟨#[47]⟩ : ByteArray).data.toList).toArray⟩ : ByteArray) = joined_ (textRows_ n m o) by rw [hxs, ← HRO.out, List.map_map]; rfl)
       have HB10 := Aside0.mk (below_step HB8.out HB9.out)
       clear hJ hxs hrm hjl hrl HI HX HS HB9 HB8 hi HG HRO
       go_wp2_with fail
       refine HJ.out.mono ?_
       rintro e w10 ⟨rfl, hb10⟩
       have HB11 := Aside0.mk (below_step HB10.out hb10)
       rw [HJE.out]
       clear HJ HJE HB10 hb10
       go_wp2_with fail
       go_ret
       exact ⟨rfl, HB11.out⟩
      | succ gk1 =>
       have hi : i < n := by have := HI.out; omega
       have HI2 := Aside0.mk (show gk1 + (i + 1) = n by have := HI.out; omega)
       have p0 : 0 ≤ (i : Int) := by omega
       have q0 : (i : Int) < (n : Int) := by omega
       have d1 : decide ((i : Int) < (n : Int)) = true := decide_eq_true q0
       have d2 : decide (i < n) = true := decide_eq_true hi
       have hib : i < bs.length := by rw [HBN.out]; exact hi
       obtain ⟨b, hb⟩ : ∃ b, bs[i]? = some b := ⟨_, List.getElem?_eq_getElem hib⟩
       obtain ⟨row, hr⟩ : ∃ row, rows[i]? = some row := ⟨_, List.getElem?_eq_getElem (by rw [← HG.out.len]; exact hib)⟩
       have hG := HG.out.later HB9.out
       have s2 := hG.row hb
       obtain ⟨_, _, hrm, hmc, _⟩ := hG.inner i b row hb hr
       have hcv := run_convert_bytes_arg (P := Tryd.prog) wr 22 5 hu4 Tryd.underlying5 b.1 0 m b.2 row hrm (fun j hj => by rw [Nat.zero_add]; exact (hG.cell hb hr hj).1) 9 Tryd.underlying9
       obtain ⟨hx9, hf9⟩ := Kd.R_celln (⟨#[]⟩ : ByteArray) HS.out (i : Int) p0 q0
       obtain ⟨HP1, HP2⟩ := Kd.R_putg HS.out (i : Int) (strOfNums row)
       rw [Int.toNat_natCast] at hx9 hf9 HP1 HP2
       have HS2 := Aside0.mk HP1
       have HB92 := Aside0.mk (below_set (j := i) (v := .string (strOfNums row)) HB9.out hg9)
       have HXL2 := Aside0.mk (show (xs.set i (strOfNums row)).length = n by rw [List.length_set]; exact HXL.out)
       have HX2 := Aside0.mk (show ∀ j, j < i + 1 → (xs.set i (strOfNums row))[j]? = (rows[j]?).map strOfNums by
        intro j hj
        by_cases hji : j = i
        ·subst hji
         rw [List.getElem?_set_self (by rw [HXL.out]; exact hi), hr]; rfl
        ·rw [List.getElem?_set_ne (Ne.symm hji)]
         exact HX.out j (by omega))
       have hwi : wrap64 ((i : Int) + 1) = ((i + 1 : Nat) : Int) := by unfold wrap64; have := HN.out; omega
       clear HP1 HP2 HS HB9 HXL HX HI hG hb hr hrm hib
       go_wp2_with fail
       go_roundg gk1
       case measure => omega
       case rel => exact ⟨i + 1, xs.set i (strOfNums row), by rw [hwi], HI2, HXL2, HX2, HS2, HB92⟩
    | succ gk1 =>
     have hi : i < o.length := by have := HI.out; omega
     have HI2 := Aside0.mk (show gk1 + (i + 1) = o.length by have := HI.out; omega)
     have p0 : 0 ≤ (i : Int) := by omega
     have q0 : (i : Int) < (o.length : Int) := by omega
     have d1 : decide ((i : Int) < (o.length : Int)) = true := decide_eq_true q0
     have d2 : decide (i < o.length) = true := decide_eq_true hi
     have hbig : o.length ≤ co := HOL.out
     obtain ⟨ad, eA, hx0, hx1⟩ := at_T43 (Kd.C_below HO.out HG.out.below) (i : Int) p0 q0
     subst eA
     rw [Int.toNat_natCast] at hx0 hx1
     have hce : rd_T43 o (i : Int) = o[i] := by unfold rd_T43; rw [Int.toNat_natCast, List.getD_eq_getElem?_getD, List.getElem?_eq_getElem hi]; rfl
     obtain ⟨⟨x0, x1⟩, y0, y1⟩ := HALL.out _ (List.getElem_mem hi)
     have htk : (o.take (i + 1)).foldl markRow_ (List.replicate n (List.replicate m 46)) = markRow_ rows o[i] := by
      rw [List.take_add_one, List.foldl_append, ← HRO.out, List.getElem?_eq_getElem hi]; rfl
     rw [← hce] at x0 x1 y0 y1 htk
     clear hce
     generalize rd_T43 o (i : Int) = c at *
     have pY : 0 ≤ c.f1 := y0
     have qY : c.f1 < (n : Int) := by have := HN.out; omega
     have pX : 0 ≤ c.f0 := x0
     have qX : c.f0 < (m : Int) := by have := HM.out; omega
     have hyb : c.f1.toNat < bs.length := by have := HBN.out; omega
     obtain ⟨b, hb⟩ : ∃ b, bs[c.f1.toNat]? = some b := ⟨_, List.getElem?_eq_getElem hyb⟩
     obtain ⟨row, hr⟩ : ∃ row, rows[c.f1.toNat]? = some row := ⟨_, List.getElem?_eq_getElem (by rw [← HG.out.len]; exact hyb)⟩
     have hwi : wrap64 ((i : Int) + 1) = ((i + 1 : Nat) : Int) := by unfold wrap64; have := HOL.out; have := HOM.out; omega
     go_wp2_with fail
     generalize hW : wr.alloc _ = W6
     generalize hL2 : wr.heap.size = L2
     have hbk6 : W6.drew.heap[L2]? = some (.cells #[.int .i64 c.f0, .int .i64 c.f1] 43 (0, 0)) := blk_drew (by rw [← hW, ← hL2]; exact blk_new _ _)
     have hb6 : Below wr.heap.size wr W6.drew := below_drew (by rw [← hW]; exact below_alloc (Below.refl _ _) _)
     have s0 : W6.drew.cell? ⟨L2, 0, none⟩ = some (.int .i64 c.f0) := (blk_cell hbk6 0).trans rfl
     have s1 : W6.drew.cell? ⟨L2, 1, none⟩ = some (.int .i64 c.f1) := (blk_cell hbk6 1).trans rfl
     have hG6 := HG.out.later hb6
     have s2 := hG6.row hb
     have hxm : c.f0.toNat < m := by omega
     obtain ⟨hst, hfr⟩ := hG6.cell hb hr hxm
     have hmk : markRow_ rows c = rows.set c.f1.toNat (row.set c.f0.toNat 35) := by unfold markRow_; rw [List.getD_eq_getElem?_getD, hr]; rfl
     have HG7 := Aside0.mk (hG6.mark hb hr hxm 35)
     rw [← hmk] at HG7
     replace HRO := Aside0.mk htk.symm
     clear hW hL2 hbk6 hb6 hG6 hx0 hx1 hb hr hmk htk HI HG hbig x0 x1 y0 y1
     replace pX := eq_true pX
     replace qX := eq_true qX
     replace pY := eq_true pY
     replace qY := eq_true qY
     refine start_ (n := 9) (S := fun w' => w'.cell? ⟨L2, 0, none⟩ = some (.int .i64 c.f0) ∧ w'.cell? ⟨L2, 1, none⟩ = some (.int .i64 c.f1) ∧ w'.cell? ⟨g, c.f1.toNat, none⟩ = some (.slice (some ⟨b.1, 0, none⟩) m b.2)) (ds := [8]) #[F, F, F, F, F, F, F, F, F] (by kernel_rfl) rfl rfl ⟨s0, s1, s2⟩ (fun hHeld => ?_); refine with_tabW shapeText_tab12_ shapeText_bits12_ (fun HT_ HW_ => ?_)
     generalize W6.drew = w9 at *
     refine pu_ HT_ 0 (some 40) #[T, F, F, F, F, F, F, F, F] ?_
     refine pu_ HT_ 1 (some 41) #[T, T, F, F, F, F, F, F, F] ?_
     refine take_ (i := 2) (N := some 42) (v := ?_) (a' := ?_) #[T, T, T, F, F, F, F, F, F] rfl rfl (take_ofW HT_.out HW_.out (by kernel_rfl)) (fun _ _ _ h => h) (Or.inl ⟨by rfl, ?_⟩) hHeld ?_ ?_
     rotate_left
     ·rintro w' ⟨s0, s1, s2⟩
      go_simp
      with_reducible rfl
     rotate_left
     ·simp only [Act.put, List.setIfInBounds_toArray, List.set_cons_zero, List.set_cons_succ, i64_w, i32_w]
      rfl
     refine pu_ HT_ 3 (some 43) #[T, T, T, T, F, F, F, F, F] ?_
     refine take_ (i := 4) (N := some 44) (v := ?_) (a' := ?_) #[T, T, T, T, T, F, F, F, F] rfl rfl (take_ofW HT_.out HW_.out (by kernel_rfl)) (fun _ _ _ h => h) (Or.inl ⟨by rfl, ?_⟩) hHeld ?_ ?_
     rotate_left
     ·rintro w' ⟨s0, s1, s2⟩
      go_simp
      with_reducible rfl
     rotate_left
     ·simp only [Act.put, List.setIfInBounds_toArray, List.set_cons_zero, List.set_cons_succ, i64_w, i32_w]
      rfl
     refine pu_ HT_ 5 (some 45) #[T, T, T, T, T, T, F, F, F] ?_
     refine take_ (i := 6) (N := some 46) (v := ?_) (a' := ?_) #[T, T, T, T, T, T, T, F, F] rfl rfl (take_ofW HT_.out HW_.out (by kernel_rfl)) (fun _ _ _ h => h) (Or.inl ⟨by rfl, ?_⟩) hHeld ?_ ?_
     rotate_left
     ·rintro w' ⟨s0, s1, s2⟩
      go_simp
      with_reducible rfl
     rotate_left
     ·simp only [Act.put, List.setIfInBounds_toArray, List.set_cons_zero, List.set_cons_succ, i64_w, i32_w]
      rfl
     refine pu_ HT_ 7 (some 47) #[T, T, T, T, T, T, T, T, F] ?_
     refine last_ (i := 8) (N := none) #[T, T, T, T, T, T, T, T, T] rfl rfl (one_of HT_.out (by kernel_rfl)) (by decide) (fun K hK => ?_)
     refine skip_ (w1 := ?_) (by rfl) rfl ?_ ?_
     rotate_left
     ·go_simp
      rfl
     refine hK.out _ _ ?_
     clear hK K
     refine done_ (done_of HT_.out (by kernel_rfl)) ?_
     clear hst hfr s0 s1 s2 hHeld HT_ HW_
     go_wp2_with fail
     go_roundg gk1
     case measure => omega
     case rel => exact ⟨i + 1, markRow_ rows c, by rw [hwi], HI2, HRO, HG7⟩
  | succ gk1 =>
   have hi : bs.length < n := by have := HI.out; omega
   have pn : (bs.length : Int) < (n : Int) := by omega
   have p0 : 0 ≤ (bs.length : Int) := by omega
   have d1 : decide ((bs.length : Int) < (n : Int)) = true := decide_eq_true pn
   have d2 : decide (bs.length < n) = true := decide_eq_true hi
   have hbl : wr.heap[L]? = some (.cells #[.int .i64 r1, .int .i64 r2] 43 (0, 0)) := blk_below HBL.out HG.out.below
   have hx0 : wr.cell? ⟨L, 0, none⟩ = some (.int .i64 r1) := (blk_cell hbl 0).trans rfl
   clear hbl
   go_wp2_with fail
   refine (strings_Repeat_ ⟨#[46]⟩ m _ (by have := HM.out; omega) (by have := HM.out; show 1 * m ≤ _; omega)).mono ?_
   rintro e w5 ⟨rfl, hb5⟩
   generalize hs : (⟨(Lib.repeatL (⟨#[46]⟩ : ByteArray).data.toList m).toArray⟩ : ByteArray) = s
   have hsb : s.data.toList = List.replicate m 46 := by rw [← hs]; exact repeat_46 m
   have hsz : s.size = m := by have := congrArg List.length hsb; simpa using this
   have hcv := Lib.run_convert_string_bytes (P := Tryd.prog) w5 9 22 5 s Tryd.underlying9 hu4 Tryd.underlying5
   have hat := Lib.bytesWorld_at_new w5 5 s
   have hcell : ∀ j, j < m → (Lib.bytesCells w5 5 s)[j]? = some (.int .u8 ((List.replicate m (46 : Int)).getD j 0)) := by
    intro j hj
    have h1 := Lib.bytesWorld_cell w5 5 s j (by omega)
    rw [hsb] at h1
    simp only [World.cell?, hat] at h1
    refine h1.trans ?_
    simp [List.getD_eq_getElem?_getD, List.getElem?_replicate, hj]
   have hsz2 : m ≤ (Lib.bytesCells w5 5 s).size := by
    rcases Nat.lt_or_ge (Lib.bytesCells w5 5 s).size m with h | h
    ·have h1 := hcell _ h
     rw [Array.getElem?_eq_none (Nat.le_refl _)] at h1
     cases h1
    ·exact h
   have hb6 : Below w5.heap.size w5 (Lib.bytesWorld w5 5 s) := by
    refine ⟨rfl, rfl, rfl, by rw [Lib.bytesWorld_size]; omega, fun i hi => Lib.bytesWorld_at_old w5 5 s i hi⟩
   have hcap : m ≤ grownCap w5 s.size 0 5 := by rw [← hsz]; exact grownCap_ge w5 s.size 0 5
   rw [hsz] at hcv hcap
   generalize Lib.bytesWorld w5 5 s = w6 at *
   generalize Lib.bytesCells w5 5 s = cur6 at *
   generalize grownCap w5 m 0 5 = c6 at *
   obtain ⟨⟨u0, hx1⟩, hf1⟩ := (HG.out.later (below_step hb5 hb6)).slot hi
   have HG2 := Aside0.mk (HG.out.push hi (below_step hb5 hb6) (b := w5.heap.size) (c := c6) (row := List.replicate m 46) hb5.size hat hsz2 (List.length_replicate ..) hcap hcell)
   have HRO2 := Aside0.mk (show rows ++ [List.replicate m 46] = List.replicate (bs ++ [(w5.heap.size, c6)]).length (List.replicate m 46) by rw [HRO.out, List.length_append]; exact (List.replicate_succ' ..).symm)
   have HI2 := Aside0.mk (show gk1 + (bs ++ [(w5.heap.size, c6)]).length = n by rw [List.length_append]; have := HI.out; simp; omega)
   have hwb : wrap64 ((bs.length : Int) + 1) = (bs.length : Int) + 1 := by unfold wrap64; have := HN.out; omega
   have hlb : ((bs ++ [(w5.heap.size, c6)]).length : Int) = (bs.length : Int) + 1 := by simp
   clear hat hcell hsz2 hb6 hcap hs hsb hsz hb5 HG HRO HI
   go_wp2_with fail
   go_roundg gk1
   case measure => omega
   case rel => exact ⟨bs ++ [(w5.heap.size, c6)], rows ++ [List.replicate m 46], by rw [hlb, hwb], HI2, HRO2, HG2⟩

/-! ### laws_big: function 4 -/
def laws_big.f (l0 : List Int) : Option (Bool) := some (decide ((l0.length : Int) > 4096))
set_option maxHeartbeats 8000000 in
set_option maxRecDepth 100000 in
theorem laws_big.calls (A0 : Option Addr) (c0 : Nat) (l0 : List Int) (r : Bool) (w : World) (hr0 : Kd.C (Kd.int .u8) w A0 l0.length l0) (hc0 : l0.length ≤ c0) (h : laws_big.f l0 = some r) :
  Calls Tryd.prog 4 #[.slice A0 l0.length c0] w fun e w' => e = .returned (.bool r) ∧ Drawn0 w w' := by
 have HR0 := Aside0.mk hr0
 have HC0 := Aside0.mk hc0
 clear hr0 hc0
 have H : (some (decide ((l0.length : Int) > 4096))) = some r := h
 clear h
 obtain rfl := Option.some.inj H
 go_enter Tryd.func4, Tryd.ntmps4
 go_wp2
 go_ret
 exact ⟨r3_, by repeat (first | exact Drawn0.refl _ | apply Drawn0.step)⟩

/-- A state of type 55 at block g of W; what its slices lead to came in by w0. -/
def IsS55 (w0 W : World) (g : Nat) (f0 : List Int) (f1 : Int) (f2 : Int) : Prop := ∃ A0 c0, W.heap[g]? = some (.cells #[.slice A0 f0.length c0, .int .i64 f1, .int .i64 f2] 55 (0, 0)) ∧ w0.heap.size ≤ g ∧ Kd.C (Kd.int .u8) w0 A0 f0.length f0
theorem IsS55.grown {w0 W : World} {g : Nat} {f0 : List Int} {f1 : Int} {f2 : Int} {W1 : World} {row : Option Nat} (h : IsS55 w0 W g f0 f1 f2) (hw : W.grownBy W1 row) (hne : some g ≠ row) : IsS55 w0 W1 g f0 f1 f2 := by
 obtain ⟨A0, c0, hb, hg, hr0⟩ := h
 exact ⟨A0, c0, blk_grown hb hw hne, hg, hr0⟩
theorem IsS55.own_neN {w0 W : World} {g : Nat} {f0 : List Int} {f1 : Int} {f2 : Int} {α : Type} {d : Kd α} {e : Nat} {base : Nat} {ok : Nat → Prop} {v : Value} {xs : List α} (h : IsS55 w0 W g f0 f1 f2) (ho : Kd.N d e W base ok v xs) (ht : e ≠ 55) : some g ≠ v.ownBlock := by
 obtain ⟨A0, c0, hb, hg, hr0⟩ := h
 exact Kd.N_ne ho hb ht
theorem IsS55.fresh {w0 W : World} {g : Nat} {f0 : List Int} {f1 : Int} {f2 : Int} (h : IsS55 w0 W g f0 f1 f2) : ∀ k, W.heap.size ≤ k → k ≠ g := by
 obtain ⟨A0, c0, hb, hg, hr0⟩ := h
 exact Kd.freshB hb
theorem IsS55.kept {w0 W : World} {g : Nat} {f0 : List Int} {f1 : Int} {f2 : Int} {W1 : World} {S : Nat → Prop} (h : IsS55 w0 W g f0 f1 f2) (hk : Kept W W1 S) (hne : ¬ S g) : IsS55 w0 W1 g f0 f1 f2 := by
 obtain ⟨A0, c0, hb, hg, hr0⟩ := h
 exact ⟨A0, c0, blk_kept hb hk hne, hg, hr0⟩
theorem IsS55.below {w0 W : World} {g : Nat} {f0 : List Int} {f1 : Int} {f2 : Int} {W1 : World} (h : IsS55 w0 W g f0 f1 f2) (hw : Below W.heap.size W W1) : IsS55 w0 W1 g f0 f1 f2 := h.grown (grown_of_below hw none) (by simp)
theorem IsS55.alloc {w0 W : World} {g : Nat} {f0 : List Int} {f1 : Int} {f2 : Int} (h : IsS55 w0 W g f0 f1 f2) (o : Obj) : IsS55 w0 (W.alloc o) g f0 f1 f2 := h.below (below_alloc (Below.refl _ _) o)
theorem IsS55.drewN {w0 W : World} {g : Nat} {f0 : List Int} {f1 : Int} {f2 : Int} (h : IsS55 w0 W g f0 f1 f2) (m : Nat) : IsS55 w0 (W.drewN m) g f0 f1 f2 := h
theorem IsS55.drew {w0 W : World} {g : Nat} {f0 : List Int} {f1 : Int} {f2 : Int} (h : IsS55 w0 W g f0 f1 f2) : IsS55 w0 W.drew g f0 f1 f2 := h
theorem IsS55.at_ {w0 W : World} {g : Nat} {f0 : List Int} {f1 : Int} {f2 : Int} {w' : World} {m : Nat} (hq : W.drewN m = w') (h : IsS55 w0 W g f0 f1 f2) : IsS55 w0 w' g f0 f1 f2 := by subst hq; exact IsS55.drewN h m
theorem IsS55.apart {w0 W : World} {g : Nat} {f0 : List Int} {f1 : Int} {f2 : Int} {α : Type} {d : Kd α} {e : Nat} {base : Nat} {ok : Nat → Prop} {v : Value} {xs : List α} (h : IsS55 w0 W g f0 f1 f2) (ho : d.R e W base ok v xs) (ht : ∀ q, q ∈ e :: d.E → q ≠ 55) : d.R e W base (fun k => ok k ∧ k ≠ g) v xs := by
 obtain ⟨A0, c0, hb, hg, hr0⟩ := h
 exact Kd.R_types ho hb ht
theorem IsS55.own_ne {w0 W : World} {g : Nat} {f0 : List Int} {f1 : Int} {f2 : Int} {α : Type} {d : Kd α} {e : Nat} {base : Nat} {ok : Nat → Prop} {v : Value} {xs : List α} (h : IsS55 w0 W g f0 f1 f2) (ho : d.R e W base ok v xs) (ht : e ≠ 55) : some g ≠ v.ownBlock := by
 obtain ⟨A0, c0, hb, hg, hr0⟩ := h
 exact Kd.R_ne ho hb ht
theorem IsS55.apartQ {w0 W : World} {g : Nat} {f0 : List Int} {f1 : Int} {f2 : Int} {α : Type} {d : Kd α} {e : Nat} {base : Nat} {ok : Nat → Prop} {v : Value} {xs : List α} (h : IsS55 w0 W g f0 f1 f2) (ho : d.Q e W base ok v xs) (ht : ∀ q, q ∈ e :: d.E → q ≠ 55) : d.Q e W base (fun k => ok k ∧ k ≠ g) v xs := by
 obtain ⟨A0, c0, hb, hg, hr0⟩ := h
 exact Kd.Q_types ho hb ht
theorem IsS55.own_neQ {w0 W : World} {g : Nat} {f0 : List Int} {f1 : Int} {f2 : Int} {α : Type} {d : Kd α} {e : Nat} {base : Nat} {ok : Nat → Prop} {v : Value} {xs : List α} (h : IsS55 w0 W g f0 f1 f2) (ho : d.Q e W base ok v xs) (ht : e ≠ 55) : some g ≠ v.ownBlock := by
 obtain ⟨A0, c0, hb, hg, hr0⟩ := h
 exact Kd.Q_ne ho hb ht
theorem IsS55.apartS {w0 W : World} {g : Nat} {f0 : List Int} {f1 : Int} {f2 : Int} {α : Type} {d : Kd α} {e : Nat} {base : Nat} {ok : Nat → Prop} {v : Value} {xs : List α} (h : IsS55 w0 W g f0 f1 f2) (ho : d.S e W base ok v xs) (ht : ∀ q, q ∈ e :: d.E → q ≠ 55) : d.S e W base (fun k => ok k ∧ k ≠ g) v xs := by
 obtain ⟨A0, c0, hb, hg, hr0⟩ := h
 exact Kd.S_types ho hb ht
theorem IsS55.own_neS {w0 W : World} {g : Nat} {f0 : List Int} {f1 : Int} {f2 : Int} {α : Type} {d : Kd α} {e : Nat} {base : Nat} {ok : Nat → Prop} {v : Value} {xs : List α} (h : IsS55 w0 W g f0 f1 f2) (ho : d.S e W base ok v xs) (ht : e ≠ 55) : some g ≠ v.ownBlock := by
 obtain ⟨A0, c0, hb, hg, hr0⟩ := h
 exact Kd.S_ne ho hb ht
theorem IsS55.lt {w0 W : World} {g : Nat} {f0 : List Int} {f1 : Int} {f2 : Int} (h : IsS55 w0 W g f0 f1 f2) : g < W.heap.size := by
 obtain ⟨A0, c0, hb, hg, hr0⟩ := h
 exact blk_lt hb
theorem IsS55.ge {w0 W : World} {g : Nat} {f0 : List Int} {f1 : Int} {f2 : Int} (h : IsS55 w0 W g f0 f1 f2) : w0.heap.size ≤ g := by
 obtain ⟨A0, c0, hb, hg, hr0⟩ := h
 exact hg
theorem IsS55.ne_blk {w0 W : World} {g : Nat} {f0 : List Int} {f1 : Int} {f2 : Int} {a : Nat} {cs : Array Value} {t : TypeId} {fr : Nat × Nat} (h : IsS55 w0 W g f0 f1 f2) (hb2 : W.heap[a]? = some (.cells cs t fr)) (ht : t ≠ 55) : g ≠ a := by
 obtain ⟨A0, c0, hb, hg, hr0⟩ := h
 rintro rfl
 rw [hb] at hb2
 injection hb2 with hb2
 injection hb2 with _ ht2
 exact ht ht2.symm
theorem IsS55.far {w0 W : World} {g : Nat} {f0 : List Int} {f1 : Int} {f2 : Int} {p : Addr} (h : IsS55 w0 W g f0 f1 f2) (hne : g ≠ p.block) (u : Value) : IsS55 w0 (W.setCell p u) g f0 f1 f2 := by
 obtain ⟨A0, c0, hb, hg, hr0⟩ := h
 exact ⟨A0, c0, blk_far hb hne u, hg, hr0⟩
theorem cellS55_0 {W : World} {g : Nat} {A0 : Option Addr} {c0 : Nat} {f0 : List Int} {f1 : Int} {f2 : Int} (h : W.heap[g]? = some (.cells #[.slice A0 f0.length c0, .int .i64 f1, .int .i64 f2] 55 (0, 0))) : W.cell? ⟨g, 0, none⟩ = some (.slice A0 f0.length c0) := (blk_cell h 0).trans rfl
theorem cellS55_1 {W : World} {g : Nat} {A0 : Option Addr} {c0 : Nat} {f0 : List Int} {f1 : Int} {f2 : Int} (h : W.heap[g]? = some (.cells #[.slice A0 f0.length c0, .int .i64 f1, .int .i64 f2] 55 (0, 0))) : W.cell? ⟨g, 1, none⟩ = some (.int .i64 f1) := (blk_cell h 1).trans rfl
theorem IsS55.set_1 {w0 W : World} {g : Nat} {f0 : List Int} {f1 : Int} {f2 : Int} (h : IsS55 w0 W g f0 f1 f2) (x : Int) : IsS55 w0 (W.setCell ⟨g, 1, none⟩ (.int .i64 x)) g f0 x f2 := by
 obtain ⟨A0, c0, hb, hg, hr0⟩ := h
 exact ⟨A0, c0, by simpa using blk_set hb 1 (.int .i64 x), hg, hr0⟩
theorem cellS55_2 {W : World} {g : Nat} {A0 : Option Addr} {c0 : Nat} {f0 : List Int} {f1 : Int} {f2 : Int} (h : W.heap[g]? = some (.cells #[.slice A0 f0.length c0, .int .i64 f1, .int .i64 f2] 55 (0, 0))) : W.cell? ⟨g, 2, none⟩ = some (.int .i64 f2) := (blk_cell h 2).trans rfl
theorem IsS55.set_2 {w0 W : World} {g : Nat} {f0 : List Int} {f1 : Int} {f2 : Int} (h : IsS55 w0 W g f0 f1 f2) (x : Int) : IsS55 w0 (W.setCell ⟨g, 2, none⟩ (.int .i64 x)) g f0 f1 x := by
 obtain ⟨A0, c0, hb, hg, hr0⟩ := h
 exact ⟨A0, c0, by simpa using blk_set hb 2 (.int .i64 x), hg, hr0⟩
theorem IsS55.new (w0 W : World) (A0 : Option Addr) (c0 : Nat) (f0 : List Int) (f1 : Int) (f2 : Int) (hB : Below w0.heap.size w0 W) (hr0 : Kd.C (Kd.int .u8) w0 A0 f0.length f0) : IsS55 w0 (W.alloc (.cells #[.slice A0 f0.length c0, .int .i64 f1, .int .i64 f2] 55)) W.heap.size f0 f1 f2 := ⟨A0, c0, by simpa using heap_alloc_new W _, hB.size, hr0⟩

/-! ### spec_l01From: function 18 -/
def spec_l01From.l0 : Nat → List Int → Int → List Int → Int → Int → Option (List Int × Int × Int)
 | 0, _, _, _, _, _ => none
 | k + 1, x0, x4, x102000, x102001, x102002 => if x4 < (x0.length : Int) then (if x4 < 64 then (if 0 ≤ x4 then (spec_l01From.l0 k x0 (wrap64 (x4 + 1)) x102000 x102001 (Int.tmod (wrap64 ((wrap64 (x102002 * 47)) + (wrap64 (rd x0 x4)))) 2147483647)) else (none)) else (some (x102000, x102001, x102002))) else (some (x102000, x102001, x102002))
def spec_l01From.f (k : Nat) (l0 : List Int) : Option (List Int × Int × Int) := spec_l01From.l0 k l0 0 l0 0 61003
theorem spec_l01From.mono_l : ∀ k, (∀ y0 y1 y2 y3 y4, LeO (spec_l01From.l0 k y0 y1 y2 y3 y4) (spec_l01From.l0 (k + 1) y0 y1 y2 y3 y4))
 | 0 => fun _ _ _ _ _ r h => by simp [spec_l01From.l0] at h
 | k + 1 => by
  have ih0 := spec_l01From.mono_l k
  ·intro y0 y1 y2 y3 y4
   unfold spec_l01From.l0
   repeat' first
   | (with_reducible exact ih0 _ _ _ _ _)
   | (with_reducible exact LeO.refl _)
   | (with_reducible exact LeO.none _)
   | (with_reducible refine LeO.ite ?_ ?_)
   | (with_reducible refine LeO.bind ?_ (fun _ => ?_))
   | exact ih0 _ _ _ _ _
   | exact LeO.none _
   | refine LeO.ite ?_ ?_
   | refine LeO.bind ?_ (fun _ => ?_)
theorem spec_l01From.mono : ∀ a0 k, LeO (spec_l01From.f k a0) (spec_l01From.f (k + 1) a0) := by
 intro a0 k
 have ih0 := spec_l01From.mono_l k
 unfold spec_l01From.f
 repeat' first
   | (with_reducible exact ih0 _ _ _ _ _)
   | (with_reducible exact LeO.refl _)
   | (with_reducible exact LeO.none _)
   | (with_reducible refine LeO.ite ?_ ?_)
   | (with_reducible refine LeO.bind ?_ (fun _ => ?_))
   | exact ih0 _ _ _ _ _
   | exact LeO.none _
   | refine LeO.ite ?_ ?_
   | refine LeO.bind ?_ (fun _ => ?_)
def spec_l01From.T5 : Bool × List (List Nat × List Nat) := (true, [([], []), ([], []), ([1], [1]), ([2], [2]), ([3], [3]), ([4], [4]), ([], []), ([], []), ([6, 7], [6, 7]), ([8], [8]), ([9], [9]), ([5, 10], [5, 10]), ([11], [11]), ([0, 0, 1, 2, 3, 4, 5, 6, 7, 8, 9, 10, 11, 12], [0]), ([13, 0, 1, 2, 3, 4, 5, 6, 7, 8, 9, 10, 11, 12], [13]), ([14, 12, 0, 1, 2, 3, 4, 5, 6, 7, 8, 9, 10, 11, 12], [12, 14])])
def spec_l01From.B5 : List Nat := [0, 0, 2, 6, 14, 30, 0, 0, 192, 448, 960, 2046, 4094, 8191, 16383, 32767]
theorem spec_l01From.tab5 : rtab .any (opsOf Tryd.f18 5) = spec_l01From.T5 := by kernel_rfl
theorem spec_l01From.bits5 : waitsOk spec_l01From.T5.2 spec_l01From.B5 = true := by kernel_rfl
set_option maxHeartbeats 8000000 in
set_option maxRecDepth 100000 in
theorem spec_l01From.calls (k : Nat) (A0 : Option Addr) (c0 : Nat) (l0 : List Int) (r1 : List Int) (r2 : Int) (r3 : Int) (w0 w : World) (hB : Below w0.heap.size w0 w) (hr0 : Kd.C (Kd.int .u8) w0 A0 l0.length l0) (hc0 : l0.length ≤ c0) (h : spec_l01From.f k l0 = some (r1, r2, r3)) :
  Calls Tryd.prog 18 #[.slice A0 l0.length c0] w fun e w' => ∃ g_ : Nat, e = .returned (.pointer (some ⟨g_, 0, none⟩)) ∧ IsS55 w0 w' g_ r1 r2 r3 ∧ Below w0.heap.size w0 w' ∧ Below w.heap.size w w' := by
 have hu55 := Tryd.underlying55
 have HR0 := Aside0.mk hr0
 have HC0 := Aside0.mk hc0
 clear hr0 hc0
 have HBW := Aside0.mk (Below.refl w.heap.size w)
 have HW0 := Aside0.mk hB.size
 have HB := Aside0.mk hB
 clear hB
 have H : (spec_l01From.l0 k l0 0 l0 0 61003) = some (r1, r2, r3) := h
 clear h
 have H' := Aside0.mk H
 clear H
 go_enter Tryd.func18, Tryd.ntmps18
 go_wp2_with (first | ((with_reducible refine gate_dst (N := 7) rfl ?_); refine box_event ?hg (N := 7) ?hd (cs := #[.slice A0 l0.length c0, .int .i64 0, .int .i64 61003]) (t := 55) ?hr ?_; (case hd => rfl); (case hg => rfl); (case hr => first | (go_simp; done) | (go_simp; rfl)); intro gb101 hg w2 hbox hb; replace HB := Aside0.mk (below_step bB_ hb); have BK101 := Aside0.mk (hbox); have GW101 := Aside0.mk ((by rw [hg]; exact (below_size (by repeat (first | (with_reducible first | exact HBW.out | apply below_alloc | apply pw_below_drewN | apply below_drew1) | exact HBW.out))) : w.heap.size ≤ gb101)); have GE101 := Aside0.mk ((Nat.le_trans HW0.out (by rw [hg]; exact (below_size (by repeat (first | (with_reducible first | exact HBW.out | apply below_alloc | apply pw_below_drewN | apply below_drew1) | exact HBW.out))) : w.heap.size ≤ gb101) : w0.heap.size ≤ gb101)); replace HBW := Aside0.mk (below_step HBW.out hb); clear hb hbox hg))
 go_loopg [4] k (fun kq v4 w' => ∃ (x4_1 : Int) (x102002_1 : Int), v4 = .int .i64 x4_1 ∧ Aside0 (spec_l01From.l0 kq l0 x4_1 l0 0 x102002_1 = some (r1, r2, r3)) ∧ Aside0 (kq ≤ k) ∧ Aside0 (w'.heap[gb101]? = some (.cells #[(.slice A0 l0.length c0), .int .i64 0, .int .i64 x102002_1] 55 (0, 0))) ∧ Aside0 (Below w0.heap.size w0 w') ∧ Aside0 (Below w.heap.size w w'))
 case atStart => exact ⟨(0), (61003), r3_, H', ⟨Nat.le_refl _⟩, ⟨by (with_reducible repeat (first | refine blk_drewN ?_ _ | refine blk_drew ?_ | refine blk_alloc ?_ _)); exact BK101.out⟩, ⟨by repeat (first | (with_reducible first | exact HB.out | apply below_alloc | apply pw_below_drewN | apply below_drew1 | refine below_set ?_ GE101.out) | exact HB.out)⟩, ⟨by repeat (first | (with_reducible first | exact HBW.out | apply below_alloc | apply pw_below_drewN | apply below_drew1 | refine below_set ?_ GW101.out) | exact HBW.out)⟩⟩
 case round =>
  clear H'
  try clear c1
  try clear p2
  obtain ⟨x4_1, x102002_1, rfl, HA, HK1, BK101, HB, HBW⟩ := hrel
  cases gk with
  | zero => exact absurd HA.out (by simp [spec_l01From.l0])
  | succ k1 =>
   have H := HA.out
   clear HA
   simp only [spec_l01From.l0] at H
   by_cases c3 : x4_1 < (l0.length : Int)
   ·rw [if_pos c3] at H
    have c3b0 : decide (x4_1 < (l0.length : Int)) = true := decide_eq_true c3
    clear c3
    by_cases c4 : x4_1 < 64
    ·rw [if_pos c4] at H
     have c4b0 : decide (x4_1 < 64) = true := decide_eq_true c4
     clear c4
     by_cases c5 : 0 ≤ x4_1
     ·rw [if_pos c5] at H
      have c5b0 : decide (0 ≤ x4_1) = true := decide_eq_true c5
      clear c5
      have H' := Aside0.mk H
      clear H
      try go_wp2
      replace BK101 := Aside0.mk (blk_drew BK101.out)
      replace HB := Aside0.mk (below_drew1 HB.out)
      replace HBW := Aside0.mk (below_drew1 HBW.out)
      have p102 : 0 ≤ (x4_1 : Int) := of_decide_eq_true aS_
      have q102 : x4_1 < (l0.length : Int) := of_decide_eq_true aS_
      obtain ⟨ad102, e102, hx102_0⟩ := Kd.at_int HR0.out x4_1 p102 q102
      have hw102_0 := hx102_0
      cases e102
      replace hx102_0 := pw_cell_below HB.out hx102_0
      replace p102 := eq_true p102
      replace q102 := eq_true q102
      refine start_ (n := 16) (S := fun w' => w'.cell? ⟨gb101, 0, none⟩ = some (.slice (some ad102) l0.length c0) ∧ w'.cell? ⟨gb101, 1, none⟩ = some (.int .i64 0) ∧ w'.cell? ⟨gb101, 2, none⟩ = some (.int .i64 x102002_1) ∧ w'.cell? (ad102.add (x4_1).toNat) = some (.int .u8 (rd l0 x4_1))) (ds := [15]) #[F, F, F, F, F, F, F, F, F, F, F, F, F, F, F, F] (by kernel_rfl) rfl rfl ⟨(blk_cell BK101.out 0).trans rfl, (blk_cell BK101.out 1).trans rfl, (blk_cell BK101.out 2).trans rfl, ((HB.out.cell (World.block_lt_of_cell? w0 _ hw102_0)).trans hw102_0)⟩ (fun hHeld => ?_); refine with_tabW spec_l01From.tab5 spec_l01From.bits5 (fun HT_ HW_ => ?_)
      generalize wr.drew = w6 at BK101 HB HBW hx102_0 hHeld ⊢
      refine pu_ HT_ 0 (some 18) #[T,F,F,F,F,F,F,F,F,F,F,F,F,F,F,F] ?_
      refine pu_ HT_ 1 (some 19) #[T,T,F,F,F,F,F,F,F,F,F,F,F,F,F,F] ?_
      refine pu_ HT_ 2 (some 20) #[T,T,T,F,F,F,F,F,F,F,F,F,F,F,F,F] ?_
      refine pu_ HT_ 3 (some 21) #[T,T,T,T,F,F,F,F,F,F,F,F,F,F,F,F] ?_
      refine pu_ HT_ 6 (some 24) #[T,T,T,T,F,F,T,F,F,F,F,F,F,F,F,F] ?_
      refine pu_ HT_ 7 (some 25) #[T,T,T,T,F,F,T,T,F,F,F,F,F,F,F,F] ?_
      refine pu_ HT_ 8 (some 26) #[T,T,T,T,F,F,T,T,T,F,F,F,F,F,F,F] ?_
      refine take_ (i := 4) (N := some 22) (v := ?_) (a' := ?_) #[T, T, T, T, T, F, T, T, T, F, F, F, F, F, F, F] rfl rfl (take_ofW HT_.out HW_.out (by kernel_rfl)) (fun _ _ _ h => h) (Or.inl ⟨by rfl, ?_⟩) hHeld ?_ ?_
      rotate_left
      ·rintro w' ⟨s0, s1, s2, s3⟩
       go_simp
       with_reducible rfl
      rotate_left
      ·simp only [Act.put, List.setIfInBounds_toArray, List.set_cons_zero, List.set_cons_succ, i64_w, i32_w]
       rfl
      refine pu_ HT_ 5 (some 23) #[T,T,T,T,T,T,T,T,T,F,F,F,F,F,F,F] ?_
      refine take_ (i := 9) (N := some 27) (v := ?_) (a' := ?_) #[T, T, T, T, T, T, T, T, T, T, F, F, F, F, F, F] rfl rfl (take_ofW HT_.out HW_.out (by kernel_rfl)) (fun _ _ _ h => h) (Or.inl ⟨by rfl, ?_⟩) hHeld ?_ ?_
      rotate_left
      ·rintro w' ⟨s0, s1, s2, s3⟩
       go_simp
       with_reducible rfl
      rotate_left
      ·simp only [Act.put, List.setIfInBounds_toArray, List.set_cons_zero, List.set_cons_succ, i64_w, i32_w]
       rfl
      refine pu_ HT_ 10 (some 28) #[T,T,T,T,T,T,T,T,T,T,T,F,F,F,F,F] ?_
      refine pu_ HT_ 11 (some 29) #[T,T,T,T,T,T,T,T,T,T,T,T,F,F,F,F] ?_
      refine pu_ HT_ 12 (some 30) #[T,T,T,T,T,T,T,T,T,T,T,T,T,F,F,F] ?_
      refine pu_ HT_ 13 (some 31) #[T,T,T,T,T,T,T,T,T,T,T,T,T,T,F,F] ?_
      refine pu_ HT_ 14 (some 32) #[T,T,T,T,T,T,T,T,T,T,T,T,T,T,T,F] ?_
      refine last_ (i := 15) (N := none) #[T, T, T, T, T, T, T, T, T, T, T, T, T, T, T, T] rfl rfl (one_of HT_.out (by kernel_rfl)) (by decide) (fun K hK => ?_)
      have hs7 : w6.cell? ⟨gb101, 2, none⟩ = some (.int .i64 x102002_1) := (blk_cell BK101.out 2).trans rfl
      have hfs7 := blk_frozen BK101.out 2
      refine skip_ (w1 := ?_) (by rfl) rfl ?_ ?_
      rotate_left
      ·go_simp
       rfl
      refine hK.out _ _ ?_
      clear hK K
      refine done_ (done_of HT_.out (by kernel_rfl)) ?_
      try go_wp2
      go_roundg k1
      case measure => have := HK1.out; omega
      case rel => exact ⟨(wrap64 (x4_1 + 1)), (Int.tmod (wrap64 ((wrap64 (x102002_1 * 47)) + (wrap64 (rd l0 x4_1)))) 2147483647), r3_, H', ⟨by have := HK1.out; omega⟩, ⟨by (with_reducible repeat (first | refine blk_drewN ?_ _ | refine blk_drew ?_ | refine blk_alloc ?_ _)); refine blk_put (cs := #[.slice (some ad102) l0.length c0, .int .i64 0, .int .i64 x102002_1]) ?_ 2 _ rfl; (with_reducible repeat (first | refine blk_drewN ?_ _ | refine blk_drew ?_ | refine blk_alloc ?_ _)); exact BK101.out⟩, ⟨by repeat (first | (with_reducible first | exact HB.out | apply below_alloc | apply pw_below_drewN | apply below_drew1 | refine below_set ?_ GE101.out) | exact HB.out)⟩, ⟨by repeat (first | (with_reducible first | exact HBW.out | apply below_alloc | apply pw_below_drewN | apply below_drew1 | refine below_set ?_ GW101.out) | exact HBW.out)⟩⟩
     ·rw [if_neg c5] at H
      exact absurd H (by simp)
    ·rw [if_neg c4] at H
     have c4b0 : decide (x4_1 < 64) = false := decide_eq_false c4
     clear c4
     simp only [Option.some.injEq, Prod.mk.injEq] at H
     obtain ⟨rfl, rfl, rfl⟩ := H
     go_wp2
     go_ret
     exact ⟨_, rfl, (show IsS55 w0 _ gb101 l0 0 x102002_1 from ⟨_, _, by (with_reducible repeat (first | refine blk_drewN ?_ _ | refine blk_drew ?_ | refine blk_alloc ?_ _)); exact BK101.out, GE101.out, HR0.out⟩), by repeat (first | (with_reducible first | exact HB.out | apply below_alloc | apply pw_below_drewN | apply below_drew1 | refine below_set ?_ GE101.out) | exact HB.out), by repeat (first | (with_reducible first | exact HBW.out | apply below_alloc | apply pw_below_drewN | apply below_drew1 | refine below_set ?_ GW101.out) | exact HBW.out)⟩
   ·rw [if_neg c3] at H
    have c3b0 : decide (x4_1 < (l0.length : Int)) = false := decide_eq_false c3
    clear c3
    simp only [Option.some.injEq, Prod.mk.injEq] at H
    obtain ⟨rfl, rfl, rfl⟩ := H
    go_wp2
    go_ret
    exact ⟨_, rfl, (show IsS55 w0 _ gb101 l0 0 x102002_1 from ⟨_, _, by (with_reducible repeat (first | refine blk_drewN ?_ _ | refine blk_drew ?_ | refine blk_alloc ?_ _)); exact BK101.out, GE101.out, HR0.out⟩), by repeat (first | (with_reducible first | exact HB.out | apply below_alloc | apply pw_below_drewN | apply below_drew1 | refine below_set ?_ GE101.out) | exact HB.out), by repeat (first | (with_reducible first | exact HBW.out | apply below_alloc | apply pw_below_drewN | apply below_drew1 | refine below_set ?_ GW101.out) | exact HBW.out)⟩

/-! ### spec_l01Next: function 19, by hand -/
/-- the next number: what is told holds where the source's own numbers are in range -/
def spec_l01Next.f (c : List Int) (i : Int) (s : Int) (n : Int) : Option (Int × Int × Int) :=
 if n ≤ 1 then some (0, i, s)
 else if 0 ≤ s ∧ s < 2147483647 ∧ 0 ≤ i ∧ i ≤ 4611686018427387904 ∧ 0 ≤ rd c i ∧ rd c i ≤ 255 then
  (if i < (c.length : Int) then
   (if n ≤ 256 ∧ (i + 1) % 2 = 0 then some (rd c i % n, i + 1, (s * 48271 + 29) % 2147483647)
    else some (((s * 48271 + 29) % 2147483647 / 31 + rd c i) % n, i + 1, (s * 48271 + 29) % 2147483647))
   else some ((s * 48271 + 29) % 2147483647 / 31 % n, i, (s * 48271 + 29) % 2147483647))
 else none
set_option maxHeartbeats 4000000 in
set_option maxRecDepth 100000 in
theorem spec_l01Next.calls (g : Nat) (s0_0 : List Int) (s0_1 : Int) (s0_2 : Int) (a1 : Int) (r1 : Int) (r2 : Int) (r3 : Int) (w0 w : World) (hI : IsS55 w0 w g s0_0 s0_1 s0_2) (hB : Below w0.heap.size w0 w) (h : spec_l01Next.f s0_0 s0_1 s0_2 a1 = some (r1, r2, r3)) :
  Calls Tryd.prog 19 #[.pointer (some ⟨g, 0, none⟩), .int .i64 a1] w fun e w' => e = .returned (.int .i64 r1) ∧ IsS55 w0 w' g s0_0 r2 r3 ∧ Below w0.heap.size w0 w' ∧ KeepBut w w' g none := by
 have HI0 := Aside0.mk hI
 have HK := Aside0.mk (KeepBut.refl w g none)
 have HL := Aside0.mk hB.size
 have HB := Aside0.mk hB
 obtain ⟨A, c0, hblk, hg, hC⟩ := hI
 have HBK := Aside0.mk hblk
 have HG := Aside0.mk hg
 have HC := Aside0.mk hC
 have x0 : w.cell? ⟨g, 0, none⟩ = some (.slice A s0_0.length c0) := (blk_cell hblk 0).trans rfl
 have x1 : w.cell? ⟨g, 1, none⟩ = some (.int .i64 s0_1) := (blk_cell hblk 1).trans rfl
 have x2 : w.cell? ⟨g, 2, none⟩ = some (.int .i64 s0_2) := (blk_cell hblk 2).trans rfl
 have f0 := blk_frozen hblk 0
 have f1 := blk_frozen hblk 1
 have f2 := blk_frozen hblk 2
 clear hblk hg hC hB
 unfold spec_l01Next.f at h
 by_cases c1 : a1 ≤ 1
 ·rw [if_pos c1] at h
  simp only [Option.some.injEq, Prod.mk.injEq] at h
  obtain ⟨rfl, rfl, rfl⟩ := h
  go_enter Tryd.func19, Tryd.ntmps19
  go_wp2
  go_ret
  exact ⟨rfl, HI0.out, HB.out, HK.out⟩
 rw [if_neg c1] at h
 have z1 : (a1 == 0) = false := beq_eq_false_iff_ne.mpr (by omega)
 have z2 : 1 < a1 := by omega
 by_cases c2 : 0 ≤ s0_2 ∧ s0_2 < 2147483647 ∧ 0 ≤ s0_1 ∧ s0_1 ≤ 4611686018427387904 ∧ 0 ≤ rd s0_0 s0_1 ∧ rd s0_0 s0_1 ≤ 255
 ·rw [if_pos c2] at h
  obtain ⟨b1, b2, b3, b4, b5, b6⟩ := c2
  by_cases c3 : s0_1 < (s0_0.length : Int)
  ·rw [if_pos c3] at h
   obtain ⟨ad, e1, hx⟩ := Kd.at_int HC.out s0_1 b3 c3
   cases e1
   have hlt : ad.block < w0.heap.size := by
    have := World.block_lt_of_cell? w0 _ hx
    rwa [add_block] at this
   have hne : (ad.add s0_1.toNat).block ≠ g := by rw [add_block]; have := HG.out; omega
   replace hx := (HB.out.cell (World.block_lt_of_cell? w0 _ hx)).trans hx
   have hx1 : ∀ u, (w.setCell ⟨g, 2, none⟩ u).cell? (ad.add s0_1.toNat) = some (.int .u8 (rd s0_0 s0_1)) := fun u => (cell_far (p := ⟨g, 2, none⟩) hne u).trans hx
   have hx2 : ∀ u n v, (((w.setCell ⟨g, 2, none⟩ u).drewN n).setCell ⟨g, 1, none⟩ v).cell? (ad.add s0_1.toNat) = some (.int .u8 (rd s0_0 s0_1)) := fun u n v => (cell_far (p := ⟨g, 1, none⟩) hne v).trans (hx1 u)
   have q1 : decide (s0_1 < (s0_0.length : Int)) = true := decide_eq_true c3
   clear hlt hne
   by_cases c4 : a1 ≤ 256 ∧ (s0_1 + 1) % 2 = 0
   ·rw [if_pos c4] at h
    simp only [Option.some.injEq, Prod.mk.injEq] at h
    obtain ⟨rfl, rfl, rfl⟩ := h
    obtain ⟨c5, c6⟩ := c4
    have q2 : ((s0_1 + 1) % 2 == 0) = true := beq_iff_eq.mpr c6
    clear c6
    go_enter Tryd.func19, Tryd.ntmps19
    go_wp2
    go_quiet (fail)
    go_wp2
    go_quiet (fail)
    go_wp2
    go_quiet (fail)
    go_wp2
    go_ret
    refine ⟨rfl, by repeat (first | (with_reducible first | exact HI0.out | apply IsS55.drewN | refine IsS55.set_1 (f1 := s0_1) ?_ _ | refine IsS55.set_2 (f2 := s0_2) ?_ _) | exact HI0.out), by repeat (first | (with_reducible first | exact HB.out | apply pw_below_drewN | refine below_set ?_ HG.out) | exact HB.out), by repeat (first | (with_reducible first | exact HK.out | apply keep_drewN | refine KeepBut.set_ ?_ _ _) | exact HK.out)⟩
   ·rw [if_neg c4] at h
    simp only [Option.some.injEq, Prod.mk.injEq] at h
    obtain ⟨rfl, rfl, rfl⟩ := h
    by_cases c5 : a1 ≤ 256
    ·have c6 : ¬ (s0_1 + 1) % 2 = 0 := fun z => c4 ⟨c5, z⟩
     have q2 : ((s0_1 + 1) % 2 == 0) = false := beq_eq_false_iff_ne.mpr c6
     clear c6 c4
     go_enter Tryd.func19, Tryd.ntmps19
     go_wp2
     repeat (go_quiet (fail); try go_wp2)
     try go_wp2
     go_ret
     refine ⟨rfl, by repeat (first | (with_reducible first | exact HI0.out | apply IsS55.drewN | refine IsS55.set_1 (f1 := s0_1) ?_ _ | refine IsS55.set_2 (f2 := s0_2) ?_ _) | exact HI0.out), by repeat (first | (with_reducible first | exact HB.out | apply pw_below_drewN | refine below_set ?_ HG.out) | exact HB.out), by repeat (first | (with_reducible first | exact HK.out | apply keep_drewN | refine KeepBut.set_ ?_ _ _) | exact HK.out)⟩
    ·have q3 : decide (a1 ≤ 256) = false := decide_eq_false c5
     clear c4
     go_enter Tryd.func19, Tryd.ntmps19
     go_wp2
     repeat (go_quiet (fail); try go_wp2)
     try go_wp2
     go_ret
     refine ⟨rfl, by repeat (first | (with_reducible first | exact HI0.out | apply IsS55.drewN | refine IsS55.set_1 (f1 := s0_1) ?_ _ | refine IsS55.set_2 (f2 := s0_2) ?_ _) | exact HI0.out), by repeat (first | (with_reducible first | exact HB.out | apply pw_below_drewN | refine below_set ?_ HG.out) | exact HB.out), by repeat (first | (with_reducible first | exact HK.out | apply keep_drewN | refine KeepBut.set_ ?_ _ _) | exact HK.out)⟩
  ·rw [if_neg c3] at h
   simp only [Option.some.injEq, Prod.mk.injEq] at h
   obtain ⟨rfl, rfl, rfl⟩ := h
   have q1 : decide (s0_1 < (s0_0.length : Int)) = false := decide_eq_false c3
   go_enter Tryd.func19, Tryd.ntmps19
   go_wp2
   repeat (go_quiet (fail); try go_wp2)
   try go_wp2
   go_ret
   refine ⟨rfl, by repeat (first | (with_reducible first | exact HI0.out | apply IsS55.drewN | refine IsS55.set_1 (f1 := s0_1) ?_ _ | refine IsS55.set_2 (f2 := s0_2) ?_ _) | exact HI0.out), by repeat (first | (with_reducible first | exact HB.out | apply pw_below_drewN | refine below_set ?_ HG.out) | exact HB.out), by repeat (first | (with_reducible first | exact HK.out | apply keep_drewN | refine KeepBut.set_ ?_ _ _) | exact HK.out)⟩
 ·rw [if_neg c2] at h; cases h

end Go.Proofs.YtpilmhjbgbpbmaaDoor.X
