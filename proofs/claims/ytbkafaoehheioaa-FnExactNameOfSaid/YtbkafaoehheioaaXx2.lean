-- xprint.py
import Derived.Lib.ConvBytes
import Derived.Shelf.SlSortCmp.WholeK
import Derived.Shelf.Strings.OnBuilder
import Derived.Shelf.Strings.Repeat
import Derived.Sort.LotA
import Derived.Test.YtbkafaoehheioaaXx0
namespace Go.Proofs.Ytbkafaoehheioaa.X
open Go.RowKit Go.Proofs.YtbkafaoehheioaaW.PrintWords Go.Proofs.YtbkafaoehheioaaW.PrintLast Go.Proofs.YtbkafaoehheioaaW.PrintMore
attribute [local go_sem] max2_int min2_int max_two min_two max_three min_three max_four min_four   -- for this text's walks alone
set_option linter.unusedVariables false
set_option linter.unusedSimpArgs false

/-! ### impl_corner: function 81 -/
def impl_corner.l0 : Nat → List (S55) → Int → Int → Int → Int → Option (Int × Int)
 | 0, _, _, _, _, _ => none
 | k + 1, x9, x10, x11, x278000, x278001 => if x11 < x10 then (if 0 ≤ x11 then (if x11 < (x9.length : Int) then (impl_corner.l0 k x9 x10 (wrap64 (x11 + 1)) (mn x278000 ((rd_T55 x9 x11).f0)) (mn x278001 ((rd_T55 x9 x11).f1))) else (none)) else (none)) else (some (x278000, x278001))
def impl_corner.f (k : Nat) (l0 : List (S55)) : Option (Int × Int) := if 0 < (l0.length : Int) then (impl_corner.l0 k l0 (l0.length : Int) 0 ((rd_T55 l0 0).f0) ((rd_T55 l0 0).f1)) else (none)
theorem impl_corner.mono_l : ∀ k, (∀ y0 y1 y2 y3 y4, LeO (impl_corner.l0 k y0 y1 y2 y3 y4) (impl_corner.l0 (k + 1) y0 y1 y2 y3 y4))
 | 0 => fun _ _ _ _ _ r h => by simp [impl_corner.l0] at h
 | k + 1 => by
  have ih0 := impl_corner.mono_l k
  ·intro y0 y1 y2 y3 y4
   unfold impl_corner.l0
   repeat' first
   | (with_reducible exact ih0 _ _ _ _ _)
   | (with_reducible exact LeO.refl _)
   | (with_reducible exact LeO.none _)
   | (with_reducible refine LeO.ite ?_ ?_)
   | (with_reducible refine LeO.bind ?_ (fun _ => ?_))
   | exact ih0 _ _ _ _ _
   | exact LeO.none _
   | refine LeO.ite ?_ ?_
   | refine LeO.bind ?_ (fun _ => ?_)
theorem impl_corner.mono : ∀ a0 k, LeO (impl_corner.f k a0) (impl_corner.f (k + 1) a0) := by
 intro a0 k
 have ih0 := impl_corner.mono_l k
 unfold impl_corner.f
 repeat' first
   | (with_reducible exact ih0 _ _ _ _ _)
   | (with_reducible exact LeO.refl _)
   | (with_reducible exact LeO.none _)
   | (with_reducible refine LeO.ite ?_ ?_)
   | (with_reducible refine LeO.bind ?_ (fun _ => ?_))
   | exact ih0 _ _ _ _ _
   | exact LeO.none _
   | refine LeO.ite ?_ ?_
   | refine LeO.bind ?_ (fun _ => ?_)
set_option maxHeartbeats 8000000 in
set_option maxRecDepth 100000 in
theorem impl_corner.calls (k : Nat) (A0 : Option Addr) (c0 : Nat) (l0 : List (S55)) (r1 : Int) (r2 : Int) (w : World) (hr0 : Kd.C k55 w A0 l0.length l0) (hc0 : l0.length ≤ c0) (h : impl_corner.f k l0 = some (r1, r2)) :
  Calls Try.prog 81 #[.slice A0 l0.length c0] w fun e w' => e = .returned (.agg #[.int .i64 r1, .int .i64 r2]) ∧ Below w.heap.size w w' := by
 have hu55 := Try.underlying55
 have HR0 := Aside0.mk hr0
 have HC0 := Aside0.mk hc0
 clear hr0 hc0
 have HB := Aside0.mk (Below.refl w.heap.size w)
 have H : (if 0 < (l0.length : Int) then (impl_corner.l0 k l0 (l0.length : Int) 0 ((rd_T55 l0 0).f0) ((rd_T55 l0 0).f1)) else (none)) = some (r1, r2) := h
 clear h
 by_cases c2 : 0 < (l0.length : Int)
 ·rw [if_pos c2] at H
  have c2b0 : decide (0 < (l0.length : Int)) = true := decide_eq_true c2
  have c2b1 : decide (0 < l0.length) = true := decide_eq_true (by omega)
  clear c2
  have H' := Aside0.mk H
  clear H
  go_enter Try.func81, Try.ntmps81
  go_wp2_with (first | ((with_reducible refine gate_dst (N := 2) rfl ?_); refine box_event ?hg (N := 2) ?hd (cs := #[.int .i64 0, .int .i64 0]) (t := 55) ?hr ?_; (case hd => rfl); (case hg => rfl); (case hr => first | (go_simp; done) | (go_simp; rfl)); intro gb275 hg w3 hbox hb; have BK275 := Aside0.mk (hbox); have GW275 := Aside0.mk ((by rw [hg]; exact (below_size bB_) : w.heap.size ≤ gb275)); have GE275 := Aside0.mk ((by rw [hg]; exact (below_size bB_) : w.heap.size ≤ gb275)); replace HB := Aside0.mk (below_step bB_ hb); clear hb hbox hg; have p276 : 0 ≤ (0 : Int) := (by omega); have q276 : 0 < (l0.length : Int) := of_decide_eq_true aS_; obtain ⟨ad276, e276, hx276_0, hx276_1⟩ := at_T55 HR0.out 0 p276 q276; cases e276; have qi276 : (0 < l0.length) = True := eq_true (by omega); (try rw [show ((0 : Int)).toNat = 0 from rfl] at hx276_0); (try rw [show 0 * 2 = 0 from rfl] at hx276_0); (try rw [Addr.add_zero'] at hx276_0); (try rw [show ((0 : Int)).toNat = 0 from rfl] at hx276_1); (try rw [show 0 * 2 = 0 from rfl] at hx276_1); (try rw [Addr.add_zero'] at hx276_1); replace hx276_0 := (HB.out.cell (World.block_lt_of_cell? w _ hx276_0)).trans hx276_0; replace hx276_1 := (HB.out.cell (World.block_lt_of_cell? w _ hx276_1)).trans hx276_1; replace p276 := eq_true p276; replace q276 := eq_true q276) | ((with_reducible refine gate_dst (N := 3) rfl ?_); refine box_event ?hg (N := 3) ?hd (cs := #[.int .i64 0, .int .i64 0]) (t := 55) ?hr ?_; (case hd => rfl); (case hg => rfl); (case hr => first | (go_simp; done) | (go_simp; rfl)); intro gb277 hg w4 hbox hb; have BK277 := Aside0.mk (hbox); have GW277 := Aside0.mk ((by rw [hg]; exact (below_size (by repeat (first | (with_reducible first | exact HB.out | apply below_alloc | apply pw_below_drewN | apply below_drew1 | refine below_set ?_ GE275.out) | exact HB.out))) : w.heap.size ≤ gb277)); have GE277 := Aside0.mk ((by rw [hg]; exact (below_size (by repeat (first | (with_reducible first | exact HB.out | apply below_alloc | apply pw_below_drewN | apply below_drew1 | refine below_set ?_ GE275.out) | exact HB.out))) : w.heap.size ≤ gb277)); replace HB := Aside0.mk (below_step (by repeat (first | (with_reducible first | exact HB.out | apply below_alloc | apply pw_below_drewN | apply below_drew1 | refine below_set ?_ GE275.out) | exact HB.out)) hb); have NB275_277 := Aside0.mk ((by rw [hg]; exact Nat.ne_of_lt (blk_lt (g := gb275) (o := .cells #[.int .i64 0, .int .i64 0] 55 (0, 0)) (by (with_reducible repeat (first | refine blk_drewN ?_ _ | refine blk_drew ?_ | refine blk_alloc ?_ _)); exact BK275.out)) : gb275 ≠ gb277)); have NB277_275 := Aside0.mk ((by rw [hg]; exact Nat.ne_of_gt (blk_lt (g := gb275) (o := .cells #[.int .i64 0, .int .i64 0] 55 (0, 0)) (by (with_reducible repeat (first | refine blk_drewN ?_ _ | refine blk_drew ?_ | refine blk_alloc ?_ _)); exact BK275.out)) : gb277 ≠ gb275)); replace BK275 := Aside0.mk (blk_below (g := gb275) (o := .cells #[.int .i64 0, .int .i64 0] 55 (0, 0)) (by (with_reducible repeat (first | refine blk_drewN ?_ _ | refine blk_drew ?_ | refine blk_alloc ?_ _)); exact BK275.out) hb); clear hb hbox hg; have hnb5 := NB277_275.out; have hnc5 := NB275_277.out; have hcz6_0 : w4.cell? ⟨gb277, 0, none⟩ = some (.int .i64 0) := (blk_cell BK277.out 0).trans rfl; have hcz6_1 : w4.cell? ⟨gb277, 1, none⟩ = some (.int .i64 0) := (blk_cell BK277.out 1).trans rfl; have hfz6_0 := blk_frozen BK277.out 0; have hfz6_1 := blk_frozen BK277.out 1))
  go_loopg [11] k (fun kq v11 w' => ∃ (x11_1 : Int) (x278000_1 : Int) (x278001_1 : Int), v11 = .int .i64 x11_1 ∧ Aside0 (impl_corner.l0 kq l0 (l0.length : Int) x11_1 x278000_1 x278001_1 = some (r1, r2)) ∧ Aside0 (kq ≤ k) ∧ Aside0 (w'.heap[gb275]? = some (.cells #[.int .i64 0, .int .i64 0] 55 (0, 0))) ∧ Aside0 (w'.heap[gb277]? = some (.cells #[.int .i64 x278000_1, .int .i64 x278001_1] 55 (0, 0))) ∧ Aside0 (Below w.heap.size w w'))
  case atStart => exact ⟨(0), ((rd_T55 l0 0).f0), ((rd_T55 l0 0).f1), r3_, H', ⟨Nat.le_refl _⟩, ⟨by (with_reducible repeat (first | refine blk_drewN ?_ _ | refine blk_drew ?_ | refine blk_alloc ?_ _)); refine blk_far ?_ NB275_277.out _; (with_reducible repeat (first | refine blk_drewN ?_ _ | refine blk_drew ?_ | refine blk_alloc ?_ _)); refine blk_far ?_ NB275_277.out _; (with_reducible repeat (first | refine blk_drewN ?_ _ | refine blk_drew ?_ | refine blk_alloc ?_ _)); exact BK275.out⟩, ⟨by (with_reducible repeat (first | refine blk_drewN ?_ _ | refine blk_drew ?_ | refine blk_alloc ?_ _)); refine blk_put (cs := #[.int .i64 ((rd_T55 l0 0).f0), .int .i64 0]) ?_ 1 _ rfl; (with_reducible repeat (first | refine blk_drewN ?_ _ | refine blk_drew ?_ | refine blk_alloc ?_ _)); refine blk_put (cs := #[.int .i64 0, .int .i64 0]) ?_ 0 _ rfl; (with_reducible repeat (first | refine blk_drewN ?_ _ | refine blk_drew ?_ | refine blk_alloc ?_ _)); exact BK277.out⟩, ⟨by repeat (first | (with_reducible first | exact HB.out | apply below_alloc | apply pw_below_drewN | apply below_drew1 | refine below_set ?_ GE275.out | refine below_set ?_ GE277.out) | exact HB.out)⟩⟩
  case round =>
   clear H'
   try clear c2
   try clear c2b0
   try clear c2b1
   try clear p2
   try clear q2
   try clear hx2
   try clear qi2
   try clear c5
   try clear hcz6_0
   try clear hcz6_1
   try clear hfz6_0
   try clear hfz6_1
   try clear hx276_0
   try clear hx276_1
   try clear p276
   try clear q276
   obtain ⟨x11_1, x278000_1, x278001_1, rfl, HA, HK1, BK275, BK277, HB⟩ := hrel
   cases gk with
   | zero => exact absurd HA.out (by simp [impl_corner.l0])
   | succ k1 =>
    have H := HA.out
    clear HA
    simp only [impl_corner.l0] at H
    by_cases c7 : x11_1 < (l0.length : Int)
    ·rw [if_pos c7] at H
     have c7b0 : decide (x11_1 < (l0.length : Int)) = true := decide_eq_true c7
     clear c7
     by_cases c8 : 0 ≤ x11_1
     ·rw [if_pos c8] at H
      have c8b0 : decide (0 ≤ x11_1) = true := decide_eq_true c8
      clear c8
      by_cases c9 : x11_1 < (l0.length : Int)
      ·rw [if_pos c9] at H
       have c9b0 : decide (x11_1 < (l0.length : Int)) = true := decide_eq_true c9
       clear c9
       obtain ⟨ji10, hji10⟩ : ∃ j_ : Int, (mn x278000_1 ((rd_T55 l0 x11_1).f0)) = j_ := ⟨_, rfl⟩
       replace H : (impl_corner.l0 k1 l0 (l0.length : Int) (wrap64 (x11_1 + 1)) ji10 (mn x278001_1 ((rd_T55 l0 x11_1).f1))) = some (r1, r2) := by first | (rw [hji10] at H; exact H) | (simp only [hji10] at H ⊢; exact H)
       have hji10_ : (if ((rd_T55 l0 x11_1).f0) < x278000_1 then ((rd_T55 l0 x11_1).f0) else x278000_1) = ji10 := hji10
       obtain ⟨ji11, hji11⟩ : ∃ j_ : Int, (mn x278001_1 ((rd_T55 l0 x11_1).f1)) = j_ := ⟨_, rfl⟩
       replace H : (impl_corner.l0 k1 l0 (l0.length : Int) (wrap64 (x11_1 + 1)) ji10 ji11) = some (r1, r2) := by first | (rw [hji11] at H; exact H) | (simp only [hji11] at H ⊢; exact H)
       have hji11_ : (if ((rd_T55 l0 x11_1).f1) < x278001_1 then ((rd_T55 l0 x11_1).f1) else x278001_1) = ji11 := hji11
       have H' := Aside0.mk H
       clear H
       have p278 : 0 ≤ (x11_1 : Int) := of_decide_eq_true aS_
       have q278 : x11_1 < (l0.length : Int) := of_decide_eq_true aS_
       obtain ⟨ad278, e278, hx278_0, hx278_1⟩ := at_T55 HR0.out x11_1 p278 q278
       obtain rfl : ad276 = ad278 := (by injection e278)
       replace hx278_0 := (HB.out.cell (World.block_lt_of_cell? w _ hx278_0)).trans hx278_0
       replace hx278_1 := (HB.out.cell (World.block_lt_of_cell? w _ hx278_1)).trans hx278_1
       replace p278 := eq_true p278
       replace q278 := eq_true q278
       go_wp2_with (first | ((with_reducible refine gate_dst (N := 5) rfl ?_); refine box_event ?hg (N := 5) ?hd (cs := #[.int .i64 0, .int .i64 0]) (t := 55) ?hr ?_; (case hd => rfl); (case hg => rfl); (case hr => first | (go_simp; done) | (go_simp; rfl)); intro gb279 hg w12 hbox hb; have BK279 := Aside0.mk (hbox); have GW279 := Aside0.mk ((by rw [hg]; exact (below_size (by repeat (first | (with_reducible first | exact HB.out | apply below_alloc | apply pw_below_drewN | apply below_drew1 | refine below_set ?_ GE275.out | refine below_set ?_ GE277.out) | exact HB.out))) : w.heap.size ≤ gb279)); have GE279 := Aside0.mk ((by rw [hg]; exact (below_size (by repeat (first | (with_reducible first | exact HB.out | apply below_alloc | apply pw_below_drewN | apply below_drew1 | refine below_set ?_ GE275.out | refine below_set ?_ GE277.out) | exact HB.out))) : w.heap.size ≤ gb279)); replace HB := Aside0.mk (below_step (by repeat (first | (with_reducible first | exact HB.out | apply below_alloc | apply pw_below_drewN | apply below_drew1 | refine below_set ?_ GE275.out | refine below_set ?_ GE277.out) | exact HB.out)) hb); have NB275_279 := Aside0.mk ((by rw [hg]; exact Nat.ne_of_lt (blk_lt (g := gb275) (o := .cells #[.int .i64 0, .int .i64 0] 55 (0, 0)) (by (with_reducible repeat (first | refine blk_drewN ?_ _ | refine blk_drew ?_ | refine blk_alloc ?_ _)); exact BK275.out)) : gb275 ≠ gb279)); have NB279_275 := Aside0.mk ((by rw [hg]; exact Nat.ne_of_gt (blk_lt (g := gb275) (o := .cells #[.int .i64 0, .int .i64 0] 55 (0, 0)) (by (with_reducible repeat (first | refine blk_drewN ?_ _ | refine blk_drew ?_ | refine blk_alloc ?_ _)); exact BK275.out)) : gb279 ≠ gb275)); replace BK275 := Aside0.mk (blk_below (g := gb275) (o := .cells #[.int .i64 0, .int .i64 0] 55 (0, 0)) (by (with_reducible repeat (first | refine blk_drewN ?_ _ | refine blk_drew ?_ | refine blk_alloc ?_ _)); exact BK275.out) hb); have NB277_279 := Aside0.mk ((by rw [hg]; exact Nat.ne_of_lt (blk_lt (g := gb277) (o := .cells #[.int .i64 x278000_1, .int .i64 x278001_1] 55 (0, 0)) (by (with_reducible repeat (first | refine blk_drewN ?_ _ | refine blk_drew ?_ | refine blk_alloc ?_ _)); exact BK277.out)) : gb277 ≠ gb279)); have NB279_277 := Aside0.mk ((by rw [hg]; exact Nat.ne_of_gt (blk_lt (g := gb277) (o := .cells #[.int .i64 x278000_1, .int .i64 x278001_1] 55 (0, 0)) (by (with_reducible repeat (first | refine blk_drewN ?_ _ | refine blk_drew ?_ | refine blk_alloc ?_ _)); exact BK277.out)) : gb279 ≠ gb277)); replace BK277 := Aside0.mk (blk_below (g := gb277) (o := .cells #[.int .i64 x278000_1, .int .i64 x278001_1] 55 (0, 0)) (by (with_reducible repeat (first | refine blk_drewN ?_ _ | refine blk_drew ?_ | refine blk_alloc ?_ _)); exact BK277.out) hb); clear hb hbox hg; have hnb13 := NB279_275.out; have hnc13 := NB275_279.out; have hnb14 := NB279_277.out; have hnc14 := NB277_279.out; have hcz15_0 : w12.cell? ⟨gb279, 0, none⟩ = some (.int .i64 0) := (blk_cell BK279.out 0).trans rfl; have hcz15_1 : w12.cell? ⟨gb279, 1, none⟩ = some (.int .i64 0) := (blk_cell BK279.out 1).trans rfl; have hfz15_0 := blk_frozen BK279.out 0; have hfz15_1 := blk_frozen BK279.out 1; have hnb16 := NB277_275.out; have hnc16 := NB275_277.out; have hcz17_0 : w12.cell? ⟨gb277, 0, none⟩ = some (.int .i64 x278000_1) := (blk_cell BK277.out 0).trans rfl; have hcz17_1 : w12.cell? ⟨gb277, 1, none⟩ = some (.int .i64 x278001_1) := (blk_cell BK277.out 1).trans rfl; have hfz17_0 := blk_frozen BK277.out 0; have hfz17_1 := blk_frozen BK277.out 1))
       go_roundg k1
       case measure => have := HK1.out; omega
       case rel => exact ⟨(wrap64 (x11_1 + 1)), (ji10), (ji11), r3_, H', ⟨by have := HK1.out; omega⟩, ⟨by (with_reducible repeat (first | refine blk_drewN ?_ _ | refine blk_drew ?_ | refine blk_alloc ?_ _)); refine blk_far ?_ NB275_277.out _; (with_reducible repeat (first | refine blk_drewN ?_ _ | refine blk_drew ?_ | refine blk_alloc ?_ _)); refine blk_far ?_ NB275_277.out _; (with_reducible repeat (first | refine blk_drewN ?_ _ | refine blk_drew ?_ | refine blk_alloc ?_ _)); refine blk_far ?_ NB275_279.out _; (with_reducible repeat (first | refine blk_drewN ?_ _ | refine blk_drew ?_ | refine blk_alloc ?_ _)); refine blk_far ?_ NB275_279.out _; (with_reducible repeat (first | refine blk_drewN ?_ _ | refine blk_drew ?_ | refine blk_alloc ?_ _)); exact BK275.out⟩, ⟨by (with_reducible repeat (first | refine blk_drewN ?_ _ | refine blk_drew ?_ | refine blk_alloc ?_ _)); refine blk_put (cs := #[.int .i64 ji10, .int .i64 x278001_1]) ?_ 1 _ rfl; (with_reducible repeat (first | refine blk_drewN ?_ _ | refine blk_drew ?_ | refine blk_alloc ?_ _)); refine blk_put (cs := #[.int .i64 x278000_1, .int .i64 x278001_1]) ?_ 0 _ rfl; (with_reducible repeat (first | refine blk_drewN ?_ _ | refine blk_drew ?_ | refine blk_alloc ?_ _)); refine blk_far ?_ NB277_279.out _; (with_reducible repeat (first | refine blk_drewN ?_ _ | refine blk_drew ?_ | refine blk_alloc ?_ _)); refine blk_far ?_ NB277_279.out _; (with_reducible repeat (first | refine blk_drewN ?_ _ | refine blk_drew ?_ | refine blk_alloc ?_ _)); exact BK277.out⟩, ⟨by repeat (first | (with_reducible first | exact HB.out | apply below_alloc | apply pw_below_drewN | apply below_drew1 | refine below_set ?_ GE275.out | refine below_set ?_ GE277.out | refine below_set ?_ GE279.out) | exact HB.out)⟩⟩
      ·rw [if_neg c9] at H
       exact absurd H (by simp)
     ·rw [if_neg c8] at H
      exact absurd H (by simp)
    ·rw [if_neg c7] at H
     have c7b0 : decide (x11_1 < (l0.length : Int)) = false := decide_eq_false c7
     clear c7
     simp only [Option.some.injEq, Prod.mk.injEq] at H
     obtain ⟨rfl, rfl⟩ := H
     have hnb18 := NB277_275.out
     have hnc18 := NB275_277.out
     have hcz19_0 : wr.cell? ⟨gb277, 0, none⟩ = some (.int .i64 x278000_1) := (blk_cell BK277.out 0).trans rfl
     have hcz19_1 : wr.cell? ⟨gb277, 1, none⟩ = some (.int .i64 x278001_1) := (blk_cell BK277.out 1).trans rfl
     have hfz19_0 := blk_frozen BK277.out 0
     have hfz19_1 := blk_frozen BK277.out 1
     have hcz20_0 : wr.cell? ⟨gb275, 0, none⟩ = some (.int .i64 0) := (blk_cell BK275.out 0).trans rfl
     have hcz20_1 : wr.cell? ⟨gb275, 1, none⟩ = some (.int .i64 0) := (blk_cell BK275.out 1).trans rfl
     have hfz20_0 := blk_frozen BK275.out 0
     have hfz20_1 := blk_frozen BK275.out 1
     go_wp2
     refine bodyPost_ret (results_cell_row rfl _ _ gb275 55 #[.int .i64 x278000_1, .int .i64 x278001_1] (0, 0) _ rfl (by (with_reducible repeat (first | refine blk_drewN ?_ _ | refine blk_drew ?_ | refine blk_alloc ?_ _)); refine blk_put (cs := #[.int .i64 x278000_1, .int .i64 0]) ?_ 1 _ rfl; (with_reducible repeat (first | refine blk_drewN ?_ _ | refine blk_drew ?_ | refine blk_alloc ?_ _)); refine blk_put (cs := #[.int .i64 0, .int .i64 0]) ?_ 0 _ rfl; (with_reducible repeat (first | refine blk_drewN ?_ _ | refine blk_drew ?_ | refine blk_alloc ?_ _)); exact BK275.out) Try.underlying55 rfl (by kernel_rfl)) rfl ?_
     exact ⟨r2_, by repeat (first | (with_reducible first | exact HB.out | apply below_alloc | apply pw_below_drewN | apply below_drew1 | refine below_set ?_ GE275.out | refine below_set ?_ GE277.out) | exact HB.out)⟩
 ·rw [if_neg c2] at H
  exact absurd H (by simp)

/-! ### impl_moved: function 86 -/
def impl_moved.l0 : Nat → Int → Int → List (S55) → List (S55) → Int → Int → Option ((List (S55)))
 | 0, _, _, _, _, _, _ => none
 | k + 1, x1, x2, x7, x13, x14, x15 => if x15 < x14 then (if 0 ≤ x15 then (if x15 < (x13.length : Int) then (if x7.length < 8796093022208 then (impl_moved.l0 k x1 x2 (x7 ++ [(⟨wrap64 (((rd_T55 x13 x15).f0) + x1), wrap64 (((rd_T55 x13 x15).f1) + x2)⟩ : S55)]) x13 x14 (wrap64 (x15 + 1))) else (none)) else (none)) else (none)) else (some x7)
def impl_moved.f (k : Nat) (l0 : List (S55)) (a1 : Int) (a2 : Int) : Option ((List (S55))) := if 0 ≤ (l0.length : Int) then (if ((l0.length : Int) : Int).toNat ≤ 17592186044416 then (impl_moved.l0 k a1 a2 (([] : List (S55))) l0 (l0.length : Int) 0) else (none)) else (none)
theorem impl_moved.mono_l : ∀ k, (∀ y0 y1 y2 y3 y4 y5, LeO (impl_moved.l0 k y0 y1 y2 y3 y4 y5) (impl_moved.l0 (k + 1) y0 y1 y2 y3 y4 y5))
 | 0 => fun _ _ _ _ _ _ r h => by simp [impl_moved.l0] at h
 | k + 1 => by
  have ih0 := impl_moved.mono_l k
  ·intro y0 y1 y2 y3 y4 y5
   unfold impl_moved.l0
   repeat' first
   | (with_reducible exact ih0 _ _ _ _ _ _)
   | (with_reducible exact LeO.refl _)
   | (with_reducible exact LeO.none _)
   | (with_reducible refine LeO.ite ?_ ?_)
   | (with_reducible refine LeO.bind ?_ (fun _ => ?_))
   | exact ih0 _ _ _ _ _ _
   | exact LeO.none _
   | refine LeO.ite ?_ ?_
   | refine LeO.bind ?_ (fun _ => ?_)
theorem impl_moved.mono : ∀ a0 a1 a2 k, LeO (impl_moved.f k a0 a1 a2) (impl_moved.f (k + 1) a0 a1 a2) := by
 intro a0 a1 a2 k
 have ih0 := impl_moved.mono_l k
 unfold impl_moved.f
 repeat' first
   | (with_reducible exact ih0 _ _ _ _ _ _)
   | (with_reducible exact LeO.refl _)
   | (with_reducible exact LeO.none _)
   | (with_reducible refine LeO.ite ?_ ?_)
   | (with_reducible refine LeO.bind ?_ (fun _ => ?_))
   | exact ih0 _ _ _ _ _ _
   | exact LeO.none _
   | refine LeO.ite ?_ ?_
   | refine LeO.bind ?_ (fun _ => ?_)
set_option maxHeartbeats 8000000 in
set_option maxRecDepth 100000 in
theorem impl_moved.calls (k : Nat) (A0 : Option Addr) (c0 : Nat) (l0 : List (S55)) (a1 : Int) (a2 : Int) (r : List (S55)) (w : World) (hr0 : Kd.C k55 w A0 l0.length l0) (hc0 : l0.length ≤ c0) (h : impl_moved.f k l0 a1 a2 = some r) :
  Calls Try.prog 86 #[.slice A0 l0.length c0, .int .i64 a1, .int .i64 a2] w fun e w' => ∃ v0_ : Value, e = .returned (v0_) ∧ Kd.R k55 55 w' w.heap.size (fun _ => True) v0_ r ∧ Below w.heap.size w w' := by
 have hu55 := Try.underlying55
 have HR0 := Aside0.mk hr0
 have HC0 := Aside0.mk hc0
 clear hr0 hc0
 have HB := Aside0.mk (Below.refl w.heap.size w)
 have H : (if 0 ≤ (l0.length : Int) then (if ((l0.length : Int) : Int).toNat ≤ 17592186044416 then (impl_moved.l0 k a1 a2 (([] : List (S55))) l0 (l0.length : Int) 0) else (none)) else (none)) = some r := h
 clear h
 by_cases c4 : 0 ≤ (l0.length : Int)
 ·rw [if_pos c4] at H
  have c4b0 := eq_true c4
  have c4b1 : decide (0 ≤ (l0.length : Int)) = true := decide_eq_true c4
  clear c4
  by_cases c5 : ((l0.length : Int) : Int).toNat ≤ 17592186044416
  ·rw [if_pos c5] at H
   have c5b0 := eq_true c5
   have c5b1 : decide (((l0.length : Int) : Int).toNat ≤ 17592186044416) = true := decide_eq_true c5
   clear c5
   obtain ⟨y280, hY_⟩ : ∃ y_ : List (S55), y_ = (([] : List (S55))) := ⟨_, rfl⟩
   replace H : (impl_moved.l0 k a1 a2 y280 l0 (l0.length : Int) 0) = some r := yY_
   have Ny280 := Aside0.mk hY_
   clear hY_
   have H' := Aside0.mk H
   clear H
   go_enter Try.func86, Try.ntmps86
   go_wp2_with (first | ((with_reducible refine gate_dst (N := 12) rfl ?_); refine R_makecap k55 _ 55 rfl (N := 12) rfl 27 _ _ rfl (l0.length : Int) rfl rfl Try.underlying27 (.agg #[(.int .i64 0), (.int .i64 0)]) 16 info55 (by omega) (ok := fun _ => True) trivial (of_decide_eq_true aS_) (Nat.le_trans (Nat.mul_le_mul_right _ (of_decide_eq_true aS_ : (l0.length : Int).toNat ≤ 17592186044416)) (by omega)) (Below.refl _ _) (Nat.le_refl _) ?_; intro v281 w6 ho7 hb hg_ hnew_; clear hg_ hnew_; (first | rw [← Ny280.out] at ho7 | (simp only [Int.reduceToNat] at ho7; rw [← Ny280.out] at ho7)); have HO282 := Aside0.mk (Kd.R_lower ho7 (below_size bB_)); replace HB := Aside0.mk (below_step bB_ hb); clear hb ho7))
   go_loopg [7, 15] k (fun kq v7 v15 w' => ∃ (x7_1 : List (S55)) (x15_1 : Int), v15 = .int .i64 x15_1 ∧ Aside0 (impl_moved.l0 kq a1 a2 x7_1 l0 (l0.length : Int) x15_1 = some r) ∧ Aside0 (kq ≤ k) ∧ Aside0 (Kd.R k55 55 w' w.heap.size (fun _ => True) v7 x7_1) ∧ Aside0 (Below w.heap.size w w'))
   case atStart => exact ⟨(y280), (0), r3_, H', ⟨Nat.le_refl _⟩, ⟨rS_ HO282.out⟩, ⟨bB_⟩⟩
   case round =>
    clear H'
    try clear p2
    try clear c4
    try clear c4b0
    try clear c4b1
    try clear c5
    try clear c5b0
    try clear c5b1
    obtain ⟨x7_1, x15_1, rfl, HA, HK1, HO_7, HB⟩ := hrel
    cases gk with
    | zero => exact absurd HA.out (by simp [impl_moved.l0])
    | succ k1 =>
     have H := HA.out
     clear HA
     simp only [impl_moved.l0] at H
     by_cases c8 : x15_1 < (l0.length : Int)
     ·rw [if_pos c8] at H
      have c8b0 : decide (x15_1 < (l0.length : Int)) = true := decide_eq_true c8
      clear c8
      by_cases c9 : 0 ≤ x15_1
      ·rw [if_pos c9] at H
       have c9b0 : decide (0 ≤ x15_1) = true := decide_eq_true c9
       clear c9
       by_cases c10 : x15_1 < (l0.length : Int)
       ·rw [if_pos c10] at H
        have c10b0 : decide (x15_1 < (l0.length : Int)) = true := decide_eq_true c10
        clear c10
        by_cases c11 : x7_1.length < 8796093022208
        ·rw [if_pos c11] at H
         have LMc11 := Aside0.mk c11
         clear c11
         obtain ⟨y285, hY_⟩ : ∃ y_ : List (S55), y_ = (x7_1 ++ [(⟨wrap64 (((rd_T55 l0 x15_1).f0) + a1), wrap64 (((rd_T55 l0 x15_1).f1) + a2)⟩ : S55)]) := ⟨_, rfl⟩
         replace H : (impl_moved.l0 k1 a1 a2 y285 l0 (l0.length : Int) (wrap64 (x15_1 + 1))) = some r := yY_
         have Ny285 := Aside0.mk hY_
         clear hY_
         have H' := Aside0.mk H
         clear H
         have p283 : 0 ≤ (x15_1 : Int) := of_decide_eq_true aS_
         have q283 : x15_1 < (l0.length : Int) := of_decide_eq_true aS_
         obtain ⟨ad283, e283, hx283_0, hx283_1⟩ := at_T55 HR0.out x15_1 p283 q283
         cases e283
         replace hx283_0 := (HB.out.cell (World.block_lt_of_cell? w _ hx283_0)).trans hx283_0
         replace hx283_1 := (HB.out.cell (World.block_lt_of_cell? w _ hx283_1)).trans hx283_1
         replace p283 := eq_true p283
         replace q283 := eq_true q283
         go_wp2_with (first | ((with_reducible refine gate_dst (N := 9) rfl ?_); refine box_event ?hg (N := 9) ?hd (cs := #[.int .i64 0, .int .i64 0]) (t := 55) ?hr ?_; (case hd => rfl); (case hg => rfl); (case hr => first | (go_simp; done) | (go_simp; rfl)); intro gb284 hg w12 hbox hb; replace HO_7 := Aside0.mk (Kd.R_below (Kd.R_elderB (rS_ HO_7.out) gb284 (Nat.le_of_eq hg.symm)) hb); have BK284 := Aside0.mk (hbox); have GW284 := Aside0.mk ((by rw [hg]; exact (below_size bB_) : w.heap.size ≤ gb284)); have GE284 := Aside0.mk ((by rw [hg]; exact (below_size bB_) : w.heap.size ≤ gb284)); replace HB := Aside0.mk (below_step bB_ hb); clear hb hbox hg; have hcz13_0 : w12.cell? ⟨gb284, 0, none⟩ = some (.int .i64 0) := (blk_cell BK284.out 0).trans rfl; have hcz13_1 : w12.cell? ⟨gb284, 1, none⟩ = some (.int .i64 0) := (blk_cell BK284.out 1).trans rfl; have hfz13_0 := blk_frozen BK284.out 0; have hfz13_1 := blk_frozen BK284.out 1) | ((with_reducible refine gate_builtin (b := .append) (xs := #[.tmp 19, .tmp 29]) rfl ?_); at_builtin; refine Kd.R_append k55 (w0 := w) w.heap.size rfl (.tmp 19) (.tmp 29) 27 55 (.agg #[(.int .i64 0), (.int .i64 0)]) 16 rfl Try.underlying27 info55 rfl (by decide) (by omega) u7 x7_1 (⟨wrap64 (((rd_T55 l0 x15_1).f0) + a1), wrap64 (((rd_T55 l0 x15_1).f1) + a2)⟩ : S55) [.int .i64 (wrap64 (((rd_T55 l0 x15_1).f0) + a1)), .int .i64 (wrap64 (((rd_T55 l0 x15_1).f1) + a2))] (fun k_ => k_ ≠ gb284) (fun _ => False) rfl (by first | (go_simp; done) | (go_simp; rfl)) ?aP (fun _ hk => hk.elim) ?aF ?aO ?aB ?aS ?aL ?_; (case aP => exact k55_mkM _ _ _ (⟨wrap64 (((rd_T55 l0 x15_1).f0) + a1), wrap64 (((rd_T55 l0 x15_1).f1) + a2)⟩ : S55)); (case aB => exact (by repeat (first | (with_reducible first | exact HB.out | apply below_alloc | apply pw_below_drewN | apply below_drew1 | refine below_set ?_ GE284.out) | exact HB.out))); (case aF => exact (fun k_ hk => Kd.freshB (g := gb284) (o := .cells #[.int .i64 ((rd_T55 l0 x15_1).f0), .int .i64 ((rd_T55 l0 x15_1).f1)] 55 (0, 0)) (by (with_reducible repeat (first | refine blk_drewN ?_ _ | refine blk_drew ?_ | refine blk_alloc ?_ _)); refine blk_put (cs := #[.int .i64 ((rd_T55 l0 x15_1).f0), .int .i64 0]) ?_ 1 _ rfl; (with_reducible repeat (first | refine blk_drewN ?_ _ | refine blk_drew ?_ | refine blk_alloc ?_ _)); refine blk_put (cs := #[.int .i64 0, .int .i64 0]) ?_ 0 _ rfl; (with_reducible repeat (first | refine blk_drewN ?_ _ | refine blk_drew ?_ | refine blk_alloc ?_ _)); exact BK284.out) k_ hk)); (case aO => exact (rS_ (Kd.R_mono (Kd.R_far (p := ⟨gb284, 1, none⟩) (Kd.R_far (p := ⟨gb284, 0, none⟩) (Kd.R_mono HO_7.out (fun k_ hk => (⟨hk, hk.2⟩ : _ ∧ k_ ≠ gb284))) (fun _ hk => hk.2) (.int .i64 ((rd_T55 l0 x15_1).f0))) (fun _ hk => hk.2) (.int .i64 ((rd_T55 l0 x15_1).f1))) (fun _ hk => hk.1.2)))); (case aS => exact (below_size (by repeat (first | (with_reducible first | exact HB.out | apply below_alloc | apply pw_below_drewN | apply below_drew1 | refine below_set ?_ GE284.out) | exact HB.out)))); (case aL => have := LMc11.out; omega); intro v286 w14 ho hb hg hat; rw [← Ny285.out] at ho; replace BK284 := Aside0.mk (blk_grown (g := gb284) (o := .cells #[.int .i64 ((rd_T55 l0 x15_1).f0), .int .i64 ((rd_T55 l0 x15_1).f1)] 55 (0, 0)) (by (with_reducible repeat (first | refine blk_drewN ?_ _ | refine blk_drew ?_ | refine blk_alloc ?_ _)); refine blk_put (cs := #[.int .i64 ((rd_T55 l0 x15_1).f0), .int .i64 0]) ?_ 1 _ rfl; (with_reducible repeat (first | refine blk_drewN ?_ _ | refine blk_drew ?_ | refine blk_alloc ?_ _)); refine blk_put (cs := #[.int .i64 0, .int .i64 0]) ?_ 0 _ rfl; (with_reducible repeat (first | refine blk_drewN ?_ _ | refine blk_drew ?_ | refine blk_alloc ?_ _)); exact BK284.out) hg (Kd.R_away HO_7.out (fun _ hk => hk.2))); replace HB := Aside0.mk (hb); have HO287 := Aside0.mk (ho); clear HO_7; clear ho hb hg hat))
         go_roundg k1
         case measure => have := HK1.out; omega
         case rel => exact ⟨(y285), (wrap64 (x15_1 + 1)), r3_, H', ⟨by have := HK1.out; omega⟩, ⟨rS_ (Kd.R_mono HO287.out (fun _ hk => trivial))⟩, ⟨by repeat (first | (with_reducible first | exact HB.out | apply below_alloc | apply pw_below_drewN | apply below_drew1 | refine below_set ?_ GE284.out) | exact HB.out)⟩⟩
        ·rw [if_neg c11] at H
         exact absurd H (by simp)
       ·rw [if_neg c10] at H
        exact absurd H (by simp)
      ·rw [if_neg c9] at H
       exact absurd H (by simp)
     ·rw [if_neg c8] at H
      have c8b0 : decide (x15_1 < (l0.length : Int)) = false := decide_eq_false c8
      clear c8
      obtain rfl := Option.some.inj H
      go_wp2
      go_ret
      exact ⟨_, r2_, rS_ HO_7.out, bB_⟩
  ·rw [if_neg c5] at H
   exact absurd H (by simp)
 ·rw [if_neg c4] at H
  exact absurd H (by simp)

/-! ### impl_normal: function 49 -/
def impl_normal.f (k : Nat) (l0 : List (S55)) : Option ((List (S55))) := (impl_corner.f k l0).bind fun bt288 => ((impl_moved.f k l0 (wrap64 (-bt288.1)) (wrap64 (-bt288.2))).bind fun t291 => (some t291))
theorem impl_normal.mono : ∀ a0 k, LeO (impl_normal.f k a0) (impl_normal.f (k + 1) a0) := by
 intro a0 k
 unfold impl_normal.f
 repeat' first
   | (with_reducible exact impl_corner.mono _ _)
   | (with_reducible exact impl_moved.mono _ _ _ _)
   | (with_reducible exact LeO.refl _)
   | (with_reducible exact LeO.none _)
   | (with_reducible refine LeO.ite ?_ ?_)
   | (with_reducible refine LeO.bind ?_ (fun _ => ?_))
   | exact impl_corner.mono _ _
   | exact impl_moved.mono _ _ _ _
   | exact LeO.none _
   | refine LeO.ite ?_ ?_
   | refine LeO.bind ?_ (fun _ => ?_)
set_option maxHeartbeats 8000000 in
set_option maxRecDepth 100000 in
theorem impl_normal.calls (k : Nat) (A0 : Option Addr) (c0 : Nat) (l0 : List (S55)) (r : List (S55)) (w : World) (hr0 : Kd.C k55 w A0 l0.length l0) (hc0 : l0.length ≤ c0) (h : impl_normal.f k l0 = some r) :
  Calls Try.prog 49 #[.slice A0 l0.length c0] w fun e w' => ∃ v0_ : Value, e = .returned (v0_) ∧ Kd.R k55 55 w' w.heap.size (fun _ => True) v0_ r ∧ Below w.heap.size w w' := by
 have hu55 := Try.underlying55
 have HR0 := Aside0.mk hr0
 have HC0 := Aside0.mk hc0
 clear hr0 hc0
 have HB := Aside0.mk (Below.refl w.heap.size w)
 have H : ((impl_corner.f k l0).bind fun bt288 => ((impl_moved.f k l0 (wrap64 (-bt288.1)) (wrap64 (-bt288.2))).bind fun t291 => (some t291))) = some r := h
 clear h
 replace H := Option.bind_eq_some_iff.mp H
 obtain ⟨⟨t288, t289⟩, A20, H⟩ := H
 try dsimp only at H
 have A2 := Aside0.mk A20
 clear A20
 replace H := Option.bind_eq_some_iff.mp H
 obtain ⟨t291, A30, H⟩ := H
 try dsimp only at H
 have A3 := Aside0.mk A30
 clear A30
 obtain rfl := Option.some.inj H
 go_enter Try.func49, Try.ntmps49
 go_wp2_with (first | ((with_reducible refine gate_callee (f := 81) rfl ?_); refine gL_ (some 5) Try.func81 #[.slice A0 l0.length c0] ?_; (with_reducible refine (impl_corner.calls k _ _ l0 t288 t289 _ ?side1 ?side2 A2.out).mono ?_); (case side1 => exact cS_ HR0.out); (case side2 => exact HC0.out); rintro e w4 ⟨rfl, hb⟩; refine ⟨_, rfl, ?_⟩; replace HB := Aside0.mk (below_step bB_ hb); (try clear hb)) | ((with_reducible refine gate_dst (N := 3) rfl ?_); refine box_event ?hg (N := 3) ?hd (cs := #[.int .i64 0, .int .i64 0]) (t := 55) ?hr ?_; (case hd => rfl); (case hg => rfl); (case hr => first | (go_simp; done) | (go_simp; rfl)); intro gb290 hg w5 hbox hb; have BK290 := Aside0.mk (hbox); have GW290 := Aside0.mk ((by rw [hg]; exact (below_size bB_) : w.heap.size ≤ gb290)); have GE290 := Aside0.mk ((by rw [hg]; exact (below_size bB_) : w.heap.size ≤ gb290)); replace HB := Aside0.mk (below_step bB_ hb); clear hb hbox hg; have hcz6_0 : w5.cell? ⟨gb290, 0, none⟩ = some (.int .i64 0) := (blk_cell BK290.out 0).trans rfl; have hcz6_1 : w5.cell? ⟨gb290, 1, none⟩ = some (.int .i64 0) := (blk_cell BK290.out 1).trans rfl; have hfz6_0 := blk_frozen BK290.out 0; have hfz6_1 := blk_frozen BK290.out 1) | ((with_reducible refine gate_callee (f := 86) rfl ?_); refine gL_ (some 13) Try.func86 #[.slice A0 l0.length c0, .int .i64 (wrap64 (-t288)), .int .i64 (wrap64 (-t289))] ?_; (with_reducible refine (impl_moved.calls k _ _ l0 (wrap64 (-t288)) (wrap64 (-t289)) t291 _ ?side1 ?side2 A3.out).mono ?_); (case side1 => exact Kd.C_below HR0.out (by repeat (first | (with_reducible first | exact HB.out | apply below_alloc | apply pw_below_drewN | apply below_drew1 | refine below_set ?_ GE290.out) | exact HB.out))); (case side2 => exact HC0.out); rintro e w7 ⟨v292, rfl, ho0, hb⟩; refine ⟨_, rfl, ?_⟩; have HO293 := Aside0.mk (Kd.R_lower (Kd.R_newB ho0 (g := gb290) (o := .cells #[.int .i64 t288, .int .i64 t289] 55 (0, 0)) (by (with_reducible repeat (first | refine blk_drewN ?_ _ | refine blk_drew ?_ | refine blk_alloc ?_ _)); refine blk_put (cs := #[.int .i64 t288, .int .i64 0]) ?_ 1 _ rfl; (with_reducible repeat (first | refine blk_drewN ?_ _ | refine blk_drew ?_ | refine blk_alloc ?_ _)); refine blk_put (cs := #[.int .i64 0, .int .i64 0]) ?_ 0 _ rfl; (with_reducible repeat (first | refine blk_drewN ?_ _ | refine blk_drew ?_ | refine blk_alloc ?_ _)); exact BK290.out)) (below_size (by repeat (first | (with_reducible first | exact HB.out | apply below_alloc | apply pw_below_drewN | apply below_drew1 | refine below_set ?_ GE290.out) | exact HB.out)))); replace BK290 := Aside0.mk (blk_below (g := gb290) (o := .cells #[.int .i64 t288, .int .i64 t289] 55 (0, 0)) (by (with_reducible repeat (first | refine blk_drewN ?_ _ | refine blk_drew ?_ | refine blk_alloc ?_ _)); refine blk_put (cs := #[.int .i64 t288, .int .i64 0]) ?_ 1 _ rfl; (with_reducible repeat (first | refine blk_drewN ?_ _ | refine blk_drew ?_ | refine blk_alloc ?_ _)); refine blk_put (cs := #[.int .i64 0, .int .i64 0]) ?_ 0 _ rfl; (with_reducible repeat (first | refine blk_drewN ?_ _ | refine blk_drew ?_ | refine blk_alloc ?_ _)); exact BK290.out) hb); replace HB := Aside0.mk (below_step (by repeat (first | (with_reducible first | exact HB.out | apply below_alloc | apply pw_below_drewN | apply below_drew1 | refine below_set ?_ GE290.out) | exact HB.out)) hb); (try clear hb ho0)))
 go_ret
 exact ⟨_, r2_, rS_ (Kd.R_mono HO293.out (fun _ hk => trivial)), by repeat (first | (with_reducible first | exact HB.out | apply below_alloc | apply pw_below_drewN | apply below_drew1 | refine below_set ?_ GE290.out) | exact HB.out)⟩

/-! ### impl_reach: function 82 -/
def impl_reach.l0 : Nat → List (S55) → Int → Int → Int → Int → Option (Int × Int)
 | 0, _, _, _, _, _ => none
 | k + 1, x9, x10, x11, x329000, x329001 => if x11 < x10 then (if 0 ≤ x11 then (if x11 < (x9.length : Int) then (impl_reach.l0 k x9 x10 (wrap64 (x11 + 1)) (mx x329000 ((rd_T55 x9 x11).f0)) (mx x329001 ((rd_T55 x9 x11).f1))) else (none)) else (none)) else (some (x329000, x329001))
def impl_reach.f (k : Nat) (l0 : List (S55)) : Option (Int × Int) := if 0 < (l0.length : Int) then (impl_reach.l0 k l0 (l0.length : Int) 0 ((rd_T55 l0 0).f0) ((rd_T55 l0 0).f1)) else (none)
theorem impl_reach.mono_l : ∀ k, (∀ y0 y1 y2 y3 y4, LeO (impl_reach.l0 k y0 y1 y2 y3 y4) (impl_reach.l0 (k + 1) y0 y1 y2 y3 y4))
 | 0 => fun _ _ _ _ _ r h => by simp [impl_reach.l0] at h
 | k + 1 => by
  have ih0 := impl_reach.mono_l k
  ·intro y0 y1 y2 y3 y4
   unfold impl_reach.l0
   repeat' first
   | (with_reducible exact ih0 _ _ _ _ _)
   | (with_reducible exact LeO.refl _)
   | (with_reducible exact LeO.none _)
   | (with_reducible refine LeO.ite ?_ ?_)
   | (with_reducible refine LeO.bind ?_ (fun _ => ?_))
   | exact ih0 _ _ _ _ _
   | exact LeO.none _
   | refine LeO.ite ?_ ?_
   | refine LeO.bind ?_ (fun _ => ?_)
theorem impl_reach.mono : ∀ a0 k, LeO (impl_reach.f k a0) (impl_reach.f (k + 1) a0) := by
 intro a0 k
 have ih0 := impl_reach.mono_l k
 unfold impl_reach.f
 repeat' first
   | (with_reducible exact ih0 _ _ _ _ _)
   | (with_reducible exact LeO.refl _)
   | (with_reducible exact LeO.none _)
   | (with_reducible refine LeO.ite ?_ ?_)
   | (with_reducible refine LeO.bind ?_ (fun _ => ?_))
   | exact ih0 _ _ _ _ _
   | exact LeO.none _
   | refine LeO.ite ?_ ?_
   | refine LeO.bind ?_ (fun _ => ?_)
set_option maxHeartbeats 8000000 in
set_option maxRecDepth 100000 in
theorem impl_reach.calls (k : Nat) (A0 : Option Addr) (c0 : Nat) (l0 : List (S55)) (r1 : Int) (r2 : Int) (w : World) (hr0 : Kd.C k55 w A0 l0.length l0) (hc0 : l0.length ≤ c0) (h : impl_reach.f k l0 = some (r1, r2)) :
  Calls Try.prog 82 #[.slice A0 l0.length c0] w fun e w' => e = .returned (.agg #[.int .i64 r1, .int .i64 r2]) ∧ Below w.heap.size w w' := by
 have hu55 := Try.underlying55
 have HR0 := Aside0.mk hr0
 have HC0 := Aside0.mk hc0
 clear hr0 hc0
 have HB := Aside0.mk (Below.refl w.heap.size w)
 have H : (if 0 < (l0.length : Int) then (impl_reach.l0 k l0 (l0.length : Int) 0 ((rd_T55 l0 0).f0) ((rd_T55 l0 0).f1)) else (none)) = some (r1, r2) := h
 clear h
 by_cases c2 : 0 < (l0.length : Int)
 ·rw [if_pos c2] at H
  have c2b0 : decide (0 < (l0.length : Int)) = true := decide_eq_true c2
  have c2b1 : decide (0 < l0.length) = true := decide_eq_true (by omega)
  clear c2
  have H' := Aside0.mk H
  clear H
  go_enter Try.func82, Try.ntmps82
  go_wp2_with (first | ((with_reducible refine gate_dst (N := 2) rfl ?_); refine box_event ?hg (N := 2) ?hd (cs := #[.int .i64 0, .int .i64 0]) (t := 55) ?hr ?_; (case hd => rfl); (case hg => rfl); (case hr => first | (go_simp; done) | (go_simp; rfl)); intro gb326 hg w3 hbox hb; have BK326 := Aside0.mk (hbox); have GW326 := Aside0.mk ((by rw [hg]; exact (below_size bB_) : w.heap.size ≤ gb326)); have GE326 := Aside0.mk ((by rw [hg]; exact (below_size bB_) : w.heap.size ≤ gb326)); replace HB := Aside0.mk (below_step bB_ hb); clear hb hbox hg; have p327 : 0 ≤ (0 : Int) := (by omega); have q327 : 0 < (l0.length : Int) := of_decide_eq_true aS_; obtain ⟨ad327, e327, hx327_0, hx327_1⟩ := at_T55 HR0.out 0 p327 q327; cases e327; have qi327 : (0 < l0.length) = True := eq_true (by omega); (try rw [show ((0 : Int)).toNat = 0 from rfl] at hx327_0); (try rw [show 0 * 2 = 0 from rfl] at hx327_0); (try rw [Addr.add_zero'] at hx327_0); (try rw [show ((0 : Int)).toNat = 0 from rfl] at hx327_1); (try rw [show 0 * 2 = 0 from rfl] at hx327_1); (try rw [Addr.add_zero'] at hx327_1); replace hx327_0 := (HB.out.cell (World.block_lt_of_cell? w _ hx327_0)).trans hx327_0; replace hx327_1 := (HB.out.cell (World.block_lt_of_cell? w _ hx327_1)).trans hx327_1; replace p327 := eq_true p327; replace q327 := eq_true q327) | ((with_reducible refine gate_dst (N := 3) rfl ?_); refine box_event ?hg (N := 3) ?hd (cs := #[.int .i64 0, .int .i64 0]) (t := 55) ?hr ?_; (case hd => rfl); (case hg => rfl); (case hr => first | (go_simp; done) | (go_simp; rfl)); intro gb328 hg w4 hbox hb; have BK328 := Aside0.mk (hbox); have GW328 := Aside0.mk ((by rw [hg]; exact (below_size (by repeat (first | (with_reducible first | exact HB.out | apply below_alloc | apply pw_below_drewN | apply below_drew1 | refine below_set ?_ GE326.out) | exact HB.out))) : w.heap.size ≤ gb328)); have GE328 := Aside0.mk ((by rw [hg]; exact (below_size (by repeat (first | (with_reducible first | exact HB.out | apply below_alloc | apply pw_below_drewN | apply below_drew1 | refine below_set ?_ GE326.out) | exact HB.out))) : w.heap.size ≤ gb328)); replace HB := Aside0.mk (below_step (by repeat (first | (with_reducible first | exact HB.out | apply below_alloc | apply pw_below_drewN | apply below_drew1 | refine below_set ?_ GE326.out) | exact HB.out)) hb); have NB326_328 := Aside0.mk ((by rw [hg]; exact Nat.ne_of_lt (blk_lt (g := gb326) (o := .cells #[.int .i64 0, .int .i64 0] 55 (0, 0)) (by (with_reducible repeat (first | refine blk_drewN ?_ _ | refine blk_drew ?_ | refine blk_alloc ?_ _)); exact BK326.out)) : gb326 ≠ gb328)); have NB328_326 := Aside0.mk ((by rw [hg]; exact Nat.ne_of_gt (blk_lt (g := gb326) (o := .cells #[.int .i64 0, .int .i64 0] 55 (0, 0)) (by (with_reducible repeat (first | refine blk_drewN ?_ _ | refine blk_drew ?_ | refine blk_alloc ?_ _)); exact BK326.out)) : gb328 ≠ gb326)); replace BK326 := Aside0.mk (blk_below (g := gb326) (o := .cells #[.int .i64 0, .int .i64 0] 55 (0, 0)) (by (with_reducible repeat (first | refine blk_drewN ?_ _ | refine blk_drew ?_ | refine blk_alloc ?_ _)); exact BK326.out) hb); clear hb hbox hg; have hnb5 := NB328_326.out; have hnc5 := NB326_328.out; have hcz6_0 : w4.cell? ⟨gb328, 0, none⟩ = some (.int .i64 0) := (blk_cell BK328.out 0).trans rfl; have hcz6_1 : w4.cell? ⟨gb328, 1, none⟩ = some (.int .i64 0) := (blk_cell BK328.out 1).trans rfl; have hfz6_0 := blk_frozen BK328.out 0; have hfz6_1 := blk_frozen BK328.out 1))
  go_loopg [11] k (fun kq v11 w' => ∃ (x11_1 : Int) (x329000_1 : Int) (x329001_1 : Int), v11 = .int .i64 x11_1 ∧ Aside0 (impl_reach.l0 kq l0 (l0.length : Int) x11_1 x329000_1 x329001_1 = some (r1, r2)) ∧ Aside0 (kq ≤ k) ∧ Aside0 (w'.heap[gb326]? = some (.cells #[.int .i64 0, .int .i64 0] 55 (0, 0))) ∧ Aside0 (w'.heap[gb328]? = some (.cells #[.int .i64 x329000_1, .int .i64 x329001_1] 55 (0, 0))) ∧ Aside0 (Below w.heap.size w w'))
  case atStart => exact ⟨(0), ((rd_T55 l0 0).f0), ((rd_T55 l0 0).f1), r3_, H', ⟨Nat.le_refl _⟩, ⟨by (with_reducible repeat (first | refine blk_drewN ?_ _ | refine blk_drew ?_ | refine blk_alloc ?_ _)); refine blk_far ?_ NB326_328.out _; (with_reducible repeat (first | refine blk_drewN ?_ _ | refine blk_drew ?_ | refine blk_alloc ?_ _)); refine blk_far ?_ NB326_328.out _; (with_reducible repeat (first | refine blk_drewN ?_ _ | refine blk_drew ?_ | refine blk_alloc ?_ _)); exact BK326.out⟩, ⟨by (with_reducible repeat (first | refine blk_drewN ?_ _ | refine blk_drew ?_ | refine blk_alloc ?_ _)); refine blk_put (cs := #[.int .i64 ((rd_T55 l0 0).f0), .int .i64 0]) ?_ 1 _ rfl; (with_reducible repeat (first | refine blk_drewN ?_ _ | refine blk_drew ?_ | refine blk_alloc ?_ _)); refine blk_put (cs := #[.int .i64 0, .int .i64 0]) ?_ 0 _ rfl; (with_reducible repeat (first | refine blk_drewN ?_ _ | refine blk_drew ?_ | refine blk_alloc ?_ _)); exact BK328.out⟩, ⟨by repeat (first | (with_reducible first | exact HB.out | apply below_alloc | apply pw_below_drewN | apply below_drew1 | refine below_set ?_ GE326.out | refine below_set ?_ GE328.out) | exact HB.out)⟩⟩
  case round =>
   clear H'
   try clear c2
   try clear c2b0
   try clear c2b1
   try clear p2
   try clear p3
   try clear q3
   try clear hx3
   try clear qi3
   try clear c5
   try clear hcz6_0
   try clear hcz6_1
   try clear hfz6_0
   try clear hfz6_1
   try clear hx327_0
   try clear hx327_1
   try clear p327
   try clear q327
   obtain ⟨x11_1, x329000_1, x329001_1, rfl, HA, HK1, BK326, BK328, HB⟩ := hrel
   cases gk with
   | zero => exact absurd HA.out (by simp [impl_reach.l0])
   | succ k1 =>
    have H := HA.out
    clear HA
    simp only [impl_reach.l0] at H
    by_cases c7 : x11_1 < (l0.length : Int)
    ·rw [if_pos c7] at H
     have c7b0 : decide (x11_1 < (l0.length : Int)) = true := decide_eq_true c7
     clear c7
     by_cases c8 : 0 ≤ x11_1
     ·rw [if_pos c8] at H
      have c8b0 : decide (0 ≤ x11_1) = true := decide_eq_true c8
      clear c8
      by_cases c9 : x11_1 < (l0.length : Int)
      ·rw [if_pos c9] at H
       have c9b0 : decide (x11_1 < (l0.length : Int)) = true := decide_eq_true c9
       clear c9
       obtain ⟨ji10, hji10⟩ : ∃ j_ : Int, (mx x329000_1 ((rd_T55 l0 x11_1).f0)) = j_ := ⟨_, rfl⟩
       replace H : (impl_reach.l0 k1 l0 (l0.length : Int) (wrap64 (x11_1 + 1)) ji10 (mx x329001_1 ((rd_T55 l0 x11_1).f1))) = some (r1, r2) := by first | (rw [hji10] at H; exact H) | (simp only [hji10] at H ⊢; exact H)
       have hji10_ : (if x329000_1 < ((rd_T55 l0 x11_1).f0) then ((rd_T55 l0 x11_1).f0) else x329000_1) = ji10 := hji10
       obtain ⟨ji11, hji11⟩ : ∃ j_ : Int, (mx x329001_1 ((rd_T55 l0 x11_1).f1)) = j_ := ⟨_, rfl⟩
       replace H : (impl_reach.l0 k1 l0 (l0.length : Int) (wrap64 (x11_1 + 1)) ji10 ji11) = some (r1, r2) := by first | (rw [hji11] at H; exact H) | (simp only [hji11] at H ⊢; exact H)
       have hji11_ : (if x329001_1 < ((rd_T55 l0 x11_1).f1) then ((rd_T55 l0 x11_1).f1) else x329001_1) = ji11 := hji11
       have H' := Aside0.mk H
       clear H
       have p329 : 0 ≤ (x11_1 : Int) := of_decide_eq_true aS_
       have q329 : x11_1 < (l0.length : Int) := of_decide_eq_true aS_
       obtain ⟨ad329, e329, hx329_0, hx329_1⟩ := at_T55 HR0.out x11_1 p329 q329
       obtain rfl : ad327 = ad329 := (by injection e329)
       replace hx329_0 := (HB.out.cell (World.block_lt_of_cell? w _ hx329_0)).trans hx329_0
       replace hx329_1 := (HB.out.cell (World.block_lt_of_cell? w _ hx329_1)).trans hx329_1
       replace p329 := eq_true p329
       replace q329 := eq_true q329
       go_wp2_with (first | ((with_reducible refine gate_dst (N := 5) rfl ?_); refine box_event ?hg (N := 5) ?hd (cs := #[.int .i64 0, .int .i64 0]) (t := 55) ?hr ?_; (case hd => rfl); (case hg => rfl); (case hr => first | (go_simp; done) | (go_simp; rfl)); intro gb330 hg w12 hbox hb; have BK330 := Aside0.mk (hbox); have GW330 := Aside0.mk ((by rw [hg]; exact (below_size (by repeat (first | (with_reducible first | exact HB.out | apply below_alloc | apply pw_below_drewN | apply below_drew1 | refine below_set ?_ GE326.out | refine below_set ?_ GE328.out) | exact HB.out))) : w.heap.size ≤ gb330)); have GE330 := Aside0.mk ((by rw [hg]; exact (below_size (by repeat (first | (with_reducible first | exact HB.out | apply below_alloc | apply pw_below_drewN | apply below_drew1 | refine below_set ?_ GE326.out | refine below_set ?_ GE328.out) | exact HB.out))) : w.heap.size ≤ gb330)); replace HB := Aside0.mk (below_step (by repeat (first | (with_reducible first | exact HB.out | apply below_alloc | apply pw_below_drewN | apply below_drew1 | refine below_set ?_ GE326.out | refine below_set ?_ GE328.out) | exact HB.out)) hb); have NB326_330 := Aside0.mk ((by rw [hg]; exact Nat.ne_of_lt (blk_lt (g := gb326) (o := .cells #[.int .i64 0, .int .i64 0] 55 (0, 0)) (by (with_reducible repeat (first | refine blk_drewN ?_ _ | refine blk_drew ?_ | refine blk_alloc ?_ _)); exact BK326.out)) : gb326 ≠ gb330)); have NB330_326 := Aside0.mk ((by rw [hg]; exact Nat.ne_of_gt (blk_lt (g := gb326) (o := .cells #[.int .i64 0, .int .i64 0] 55 (0, 0)) (by (with_reducible repeat (first | refine blk_drewN ?_ _ | refine blk_drew ?_ | refine blk_alloc ?_ _)); exact BK326.out)) : gb330 ≠ gb326)); replace BK326 := Aside0.mk (blk_below (g := gb326) (o := .cells #[.int .i64 0, .int .i64 0] 55 (0, 0)) (by (with_reducible repeat (first | refine blk_drewN ?_ _ | refine blk_drew ?_ | refine blk_alloc ?_ _)); exact BK326.out) hb); have NB328_330 := Aside0.mk ((by rw [hg]; exact Nat.ne_of_lt (blk_lt (g := gb328) (o := .cells #[.int .i64 x329000_1, .int .i64 x329001_1] 55 (0, 0)) (by (with_reducible repeat (first | refine blk_drewN ?_ _ | refine blk_drew ?_ | refine blk_alloc ?_ _)); exact BK328.out)) : gb328 ≠ gb330)); have NB330_328 := Aside0.mk ((by rw [hg]; exact Nat.ne_of_gt (blk_lt (g := gb328) (o := .cells #[.int .i64 x329000_1, .int .i64 x329001_1] 55 (0, 0)) (by (with_reducible repeat (first | refine blk_drewN ?_ _ | refine blk_drew ?_ | refine blk_alloc ?_ _)); exact BK328.out)) : gb330 ≠ gb328)); replace BK328 := Aside0.mk (blk_below (g := gb328) (o := .cells #[.int .i64 x329000_1, .int .i64 x329001_1] 55 (0, 0)) (by (with_reducible repeat (first | refine blk_drewN ?_ _ | refine blk_drew ?_ | refine blk_alloc ?_ _)); exact BK328.out) hb); clear hb hbox hg; have hnb13 := NB330_326.out; have hnc13 := NB326_330.out; have hnb14 := NB330_328.out; have hnc14 := NB328_330.out; have hcz15_0 : w12.cell? ⟨gb330, 0, none⟩ = some (.int .i64 0) := (blk_cell BK330.out 0).trans rfl; have hcz15_1 : w12.cell? ⟨gb330, 1, none⟩ = some (.int .i64 0) := (blk_cell BK330.out 1).trans rfl; have hfz15_0 := blk_frozen BK330.out 0; have hfz15_1 := blk_frozen BK330.out 1; have hnb16 := NB328_326.out; have hnc16 := NB326_328.out; have hcz17_0 : w12.cell? ⟨gb328, 0, none⟩ = some (.int .i64 x329000_1) := (blk_cell BK328.out 0).trans rfl; have hcz17_1 : w12.cell? ⟨gb328, 1, none⟩ = some (.int .i64 x329001_1) := (blk_cell BK328.out 1).trans rfl; have hfz17_0 := blk_frozen BK328.out 0; have hfz17_1 := blk_frozen BK328.out 1))
       go_roundg k1
       case measure => have := HK1.out; omega
       case rel => exact ⟨(wrap64 (x11_1 + 1)), (ji10), (ji11), r3_, H', ⟨by have := HK1.out; omega⟩, ⟨by (with_reducible repeat (first | refine blk_drewN ?_ _ | refine blk_drew ?_ | refine blk_alloc ?_ _)); refine blk_far ?_ NB326_328.out _; (with_reducible repeat (first | refine blk_drewN ?_ _ | refine blk_drew ?_ | refine blk_alloc ?_ _)); refine blk_far ?_ NB326_328.out _; (with_reducible repeat (first | refine blk_drewN ?_ _ | refine blk_drew ?_ | refine blk_alloc ?_ _)); refine blk_far ?_ NB326_330.out _; (with_reducible repeat (first | refine blk_drewN ?_ _ | refine blk_drew ?_ | refine blk_alloc ?_ _)); refine blk_far ?_ NB326_330.out _; (with_reducible repeat (first | refine blk_drewN ?_ _ | refine blk_drew ?_ | refine blk_alloc ?_ _)); exact BK326.out⟩, ⟨by (with_reducible repeat (first | refine blk_drewN ?_ _ | refine blk_drew ?_ | refine blk_alloc ?_ _)); refine blk_put (cs := #[.int .i64 ji10, .int .i64 x329001_1]) ?_ 1 _ rfl; (with_reducible repeat (first | refine blk_drewN ?_ _ | refine blk_drew ?_ | refine blk_alloc ?_ _)); refine blk_put (cs := #[.int .i64 x329000_1, .int .i64 x329001_1]) ?_ 0 _ rfl; (with_reducible repeat (first | refine blk_drewN ?_ _ | refine blk_drew ?_ | refine blk_alloc ?_ _)); refine blk_far ?_ NB328_330.out _; (with_reducible repeat (first | refine blk_drewN ?_ _ | refine blk_drew ?_ | refine blk_alloc ?_ _)); refine blk_far ?_ NB328_330.out _; (with_reducible repeat (first | refine blk_drewN ?_ _ | refine blk_drew ?_ | refine blk_alloc ?_ _)); exact BK328.out⟩, ⟨by repeat (first | (with_reducible first | exact HB.out | apply below_alloc | apply pw_below_drewN | apply below_drew1 | refine below_set ?_ GE326.out | refine below_set ?_ GE328.out | refine below_set ?_ GE330.out) | exact HB.out)⟩⟩
      ·rw [if_neg c9] at H
       exact absurd H (by simp)
     ·rw [if_neg c8] at H
      exact absurd H (by simp)
    ·rw [if_neg c7] at H
     have c7b0 : decide (x11_1 < (l0.length : Int)) = false := decide_eq_false c7
     clear c7
     simp only [Option.some.injEq, Prod.mk.injEq] at H
     obtain ⟨rfl, rfl⟩ := H
     have hnb18 := NB328_326.out
     have hnc18 := NB326_328.out
     have hcz19_0 : wr.cell? ⟨gb328, 0, none⟩ = some (.int .i64 x329000_1) := (blk_cell BK328.out 0).trans rfl
     have hcz19_1 : wr.cell? ⟨gb328, 1, none⟩ = some (.int .i64 x329001_1) := (blk_cell BK328.out 1).trans rfl
     have hfz19_0 := blk_frozen BK328.out 0
     have hfz19_1 := blk_frozen BK328.out 1
     have hcz20_0 : wr.cell? ⟨gb326, 0, none⟩ = some (.int .i64 0) := (blk_cell BK326.out 0).trans rfl
     have hcz20_1 : wr.cell? ⟨gb326, 1, none⟩ = some (.int .i64 0) := (blk_cell BK326.out 1).trans rfl
     have hfz20_0 := blk_frozen BK326.out 0
     have hfz20_1 := blk_frozen BK326.out 1
     go_wp2
     refine bodyPost_ret (results_cell_row rfl _ _ gb326 55 #[.int .i64 x329000_1, .int .i64 x329001_1] (0, 0) _ rfl (by (with_reducible repeat (first | refine blk_drewN ?_ _ | refine blk_drew ?_ | refine blk_alloc ?_ _)); refine blk_put (cs := #[.int .i64 x329000_1, .int .i64 0]) ?_ 1 _ rfl; (with_reducible repeat (first | refine blk_drewN ?_ _ | refine blk_drew ?_ | refine blk_alloc ?_ _)); refine blk_put (cs := #[.int .i64 0, .int .i64 0]) ?_ 0 _ rfl; (with_reducible repeat (first | refine blk_drewN ?_ _ | refine blk_drew ?_ | refine blk_alloc ?_ _)); exact BK326.out) Try.underlying55 rfl (by kernel_rfl)) rfl ?_
     exact ⟨r2_, by repeat (first | (with_reducible first | exact HB.out | apply below_alloc | apply pw_below_drewN | apply below_drew1 | refine below_set ?_ GE326.out | refine below_set ?_ GE328.out) | exact HB.out)⟩
 ·rw [if_neg c2] at H
  exact absurd H (by simp)

/-! ### impl_shapeText: function 56, by hand -/
-- COMMONS none
-- IMPORT Derived.Shelf.Strings.Repeat
-- IMPORT Derived.Shelf.Strings.OnBuilder
-- IMPORT Derived.Lib.ConvBytes
def layRep__ren : Go.Shelf.Ren := ⟨fun | 105 => 90 | 212 => 119 | 99 => 120 | 165 => 121 | 166 => 122 | 170 => 123 | 169 => 124 | 263 => 134 | 264 => 135 | 206 => 136 | 240 => 137 | 241 => 138 | 276 => 158 | 277 => 159 | n => n, fun | 9 => 9 | 3 => 3 | 4 => 4 | 20 => 20 | 0 => 0 | 46 => 101 | 109 => 107 | 5 => 5 | 72 => 112 | 76 => 116 | 51 => 128 | 146 => 129 | 53 => 131 | 148 => 132 | 70 => 110 | 37 => 36 | 75 => 115 | 127 => 134 | 164 => 151 | 80 => 119 | n => n, fun | n => n⟩
theorem layRep_ : Go.Proofs.Lays.n105 Try.prog layRep__ren := {
 mixed := by kernel_rfl,
 f99 := Try.func120.trans (congrArg some (by kernel_rfl)),
 f105 := Try.func90.trans (congrArg some (by kernel_rfl)),
 f165 := Try.func121.trans (congrArg some (by kernel_rfl)),
 f166 := Try.func122.trans (congrArg some (by kernel_rfl)),
 f169 := Try.func124.trans (congrArg some (by kernel_rfl)),
 f170 := Try.func123.trans (congrArg some (by kernel_rfl)),
 f206 := Try.func136.trans (congrArg some (by kernel_rfl)),
 f212 := Try.func119.trans (congrArg some (by kernel_rfl)),
 f240 := Try.func137.trans (congrArg some (by kernel_rfl)),
 f241 := Try.func138.trans (congrArg some (by kernel_rfl)),
 f263 := Try.func134.trans (congrArg some (by kernel_rfl)),
 f264 := Try.func135.trans (congrArg some (by kernel_rfl)),
 f276 := Try.func158.trans (congrArg some (by kernel_rfl)),
 f277 := Try.func159.trans (congrArg some (by kernel_rfl)),
 t0 := Try.underlying0,
 a0 := Try.isAgg0,
 z0 := Try.sizeOf0,
 v0 := Try.zeroValue0,
 t3 := Try.underlying3,
 a3 := Try.isAgg3,
 z3 := Try.sizeOf3,
 v3 := Try.zeroValue3,
 t4 := Try.underlying4,
 a4 := Try.isAgg4,
 z4 := Try.sizeOf4,
 v4 := Try.zeroValue4,
 t5 := Try.underlying5,
 a5 := Try.isAgg5,
 z5 := Try.sizeOf5,
 v5 := Try.zeroValue5,
 t9 := Try.underlying9,
 a9 := Try.isAgg9,
 z9 := Try.sizeOf9,
 v9 := Try.zeroValue9,
 t20 := Try.underlying20,
 a20 := Try.isAgg20,
 z20 := Try.sizeOf20,
 v20 := Try.zeroValue20,
 t37 := Try.underlying36,
 a37 := Try.isAgg36,
 z37 := Try.sizeOf36,
 v37 := Try.zeroValue36,
 t46 := Try.underlying101,
 a46 := Try.isAgg101,
 z46 := Try.sizeOf101,
 v46 := Try.zeroValue101,
 t51 := Try.underlying128,
 a51 := Try.isAgg128,
 z51 := Try.sizeOf128,
 v51 := Try.zeroValue128,
 t53 := Try.underlying131,
 a53 := Try.isAgg131,
 z53 := Try.sizeOf131,
 v53 := Try.zeroValue131,
 t70 := Try.underlying110,
 a70 := Try.isAgg110,
 z70 := Try.sizeOf110,
 v70 := Try.zeroValue110,
 t72 := Try.underlying112,
 a72 := Try.isAgg112,
 z72 := Try.sizeOf112,
 v72 := Try.zeroValue112,
 t75 := Try.underlying115,
 a75 := Try.isAgg115,
 z75 := Try.sizeOf115,
 v75 := Try.zeroValue115,
 t76 := Try.underlying116,
 a76 := Try.isAgg116,
 z76 := Try.sizeOf116,
 v76 := Try.zeroValue116,
 t109 := Try.underlying107,
 a109 := Try.isAgg107,
 z109 := Try.sizeOf107,
 v109 := Try.zeroValue107,
 t127 := Try.underlying134,
 a127 := Try.isAgg134,
 z127 := Try.sizeOf134,
 v127 := Try.zeroValue134,
 t146 := Try.underlying129,
 a146 := Try.isAgg129,
 z146 := Try.sizeOf129,
 v146 := Try.zeroValue129,
 t148 := Try.underlying132,
 a148 := Try.isAgg132,
 z148 := Try.sizeOf132,
 v148 := Try.zeroValue132,
 t164 := Try.underlying151,
 a164 := Try.isAgg151,
 z164 := Try.sizeOf151,
 v164 := Try.zeroValue151 }
def layJoin__ren : Go.Shelf.Ren := ⟨fun | 156 => 91 | 165 => 121 | 166 => 122 | 169 => 124 | 240 => 137 | 241 => 138 | 276 => 158 | 277 => 159 | n => n, fun | 31 => 86 | 9 => 9 | 3 => 3 | 4 => 4 | 0 => 0 | 20 => 20 | 72 => 112 | 76 => 116 | 70 => 110 | 37 => 36 | 75 => 115 | 127 => 134 | 164 => 151 | 5 => 5 | 80 => 119 | n => n, fun | n => n⟩
theorem layJoin_ : Go.Proofs.Lays.n156 Try.prog layJoin__ren := {
 mixed := by kernel_rfl,
 f156 := Try.func91.trans (congrArg some (by kernel_rfl)),
 f165 := Try.func121.trans (congrArg some (by kernel_rfl)),
 f166 := Try.func122.trans (congrArg some (by kernel_rfl)),
 f169 := Try.func124.trans (congrArg some (by kernel_rfl)),
 f240 := Try.func137.trans (congrArg some (by kernel_rfl)),
 f241 := Try.func138.trans (congrArg some (by kernel_rfl)),
 f276 := Try.func158.trans (congrArg some (by kernel_rfl)),
 f277 := Try.func159.trans (congrArg some (by kernel_rfl)),
 t0 := Try.underlying0,
 a0 := Try.isAgg0,
 z0 := Try.sizeOf0,
 v0 := Try.zeroValue0,
 t3 := Try.underlying3,
 a3 := Try.isAgg3,
 z3 := Try.sizeOf3,
 v3 := Try.zeroValue3,
 t4 := Try.underlying4,
 a4 := Try.isAgg4,
 z4 := Try.sizeOf4,
 v4 := Try.zeroValue4,
 t9 := Try.underlying9,
 a9 := Try.isAgg9,
 z9 := Try.sizeOf9,
 v9 := Try.zeroValue9,
 t20 := Try.underlying20,
 a20 := Try.isAgg20,
 z20 := Try.sizeOf20,
 v20 := Try.zeroValue20,
 t31 := Try.underlying86,
 a31 := Try.isAgg86,
 z31 := Try.sizeOf86,
 v31 := Try.zeroValue86,
 t37 := Try.underlying36,
 a37 := Try.isAgg36,
 z37 := Try.sizeOf36,
 v37 := Try.zeroValue36,
 t70 := Try.underlying110,
 a70 := Try.isAgg110,
 z70 := Try.sizeOf110,
 v70 := Try.zeroValue110,
 t72 := Try.underlying112,
 a72 := Try.isAgg112,
 z72 := Try.sizeOf112,
 v72 := Try.zeroValue112,
 t75 := Try.underlying115,
 a75 := Try.isAgg115,
 z75 := Try.sizeOf115,
 v75 := Try.zeroValue115,
 t76 := Try.underlying116,
 a76 := Try.isAgg116,
 z76 := Try.sizeOf116,
 v76 := Try.zeroValue116,
 t127 := Try.underlying134,
 a127 := Try.isAgg134,
 z127 := Try.sizeOf134,
 v127 := Try.zeroValue134,
 t164 := Try.underlying151,
 a164 := Try.isAgg151,
 z164 := Try.sizeOf151,
 v164 := Try.zeroValue151 }
theorem extraRep_ : Go.Proofs.Builder.Extra Try.prog layRep__ren := { sizeBuilder := by kernel_rfl, liesBuilder := by kernel_rfl, t5 := Try.underlying5, a5 := Try.isAgg5, z5 := Try.sizeOf5, v5 := Try.zeroValue5, infoByte := by kernel_rfl, cellsByte := by kernel_rfl, sizeByte := by kernel_rfl, neB5 := by decide }
theorem extraJoin_ : Go.Proofs.Builder.Extra Try.prog layJoin__ren := { sizeBuilder := by kernel_rfl, liesBuilder := by kernel_rfl, t5 := Try.underlying5, a5 := Try.isAgg5, z5 := Try.sizeOf5, v5 := Try.zeroValue5, infoByte := by kernel_rfl, cellsByte := by kernel_rfl, sizeByte := by kernel_rfl, neB5 := by decide }
theorem strings_Repeat_ (s : ByteArray) (c : Nat) (w : World) (hc : c ≤ 9223372036854775807) (hlen : s.size * c ≤ 140737488355328) :
  Calls Try.prog 90 #[.string s, .int .i64 c] w fun e w' => e = .returned (.string ⟨(Lib.repeatL s.data.toList c).toArray⟩) ∧ Below w.heap.size w w' :=
 Any.strings_Repeat layRep_ extraRep_ s c w hc hlen
theorem strings_Join_ (bk o c : Nat) (xs : List ByteArray) (sep : ByteArray) (w : World) (hcells : ∀ (j : Nat) x, xs[j]? = some x → w.cell? ⟨bk, o + j, none⟩ = some (.string x))
  (hbk : bk < w.heap.size) (hN : xs.length ≤ 140737488355328) (hcap : xs.length ≤ c) (hlen : (Lib.join (xs.map (·.data.toList)) sep.data.toList).length ≤ 140737488355328) :
  Calls Try.prog 91 #[.slice (some ⟨bk, o, none⟩) xs.length c, .string sep] w fun e w' => e = .returned (.string ⟨(Lib.join (xs.map (·.data.toList)) sep.data.toList).toArray⟩) ∧ Below w.heap.size w w' :=
 Any.strings_Join layJoin_ extraJoin_ bk o c xs sep w hcells hbk hN hcap hlen
/-- n rows of m bytes, each in a block of its own (bs: the blocks and the rows' capacities), all younger than w3 -/
structure Grid_ (w3 w : World) (g n m : Nat) (bs : List (Nat × Nat)) (rows : List (List Int)) : Prop where
 below : Below w3.heap.size w3 w
 base : w3.heap.size ≤ g
 outer : ∃ cur : Array Value, w.heap[g]? = some (.cells cur 36 (0, 0)) ∧ n ≤ cur.size ∧ ∀ (i : Nat) (b : Nat × Nat), bs[i]? = some b → cur[i]? = some (.slice (some ⟨b.1, 0, none⟩) m b.2)
 len : bs.length = rows.length
 inner : ∀ (i : Nat) (b : Nat × Nat) (row : List Int), bs[i]? = some b → rows[i]? = some row → b.1 ≠ g ∧ w3.heap.size ≤ b.1 ∧ row.length = m ∧ m ≤ b.2 ∧ ∃ cur : Array Value, w.heap[b.1]? = some (.cells cur 5 (cur.size, cur.size + 1)) ∧ m ≤ cur.size ∧ ∀ j, j < m → cur[j]? = some (.int .u8 (row.getD j 0))
 apart : ∀ (i j : Nat) (b c : Nat × Nat), bs[i]? = some b → bs[j]? = some c → b.1 = c.1 → i = j
namespace Grid_
variable {w3 w W : World} {g n m : Nat} {bs : List (Nat × Nat)} {rows : List (List Int)}
theorem later (h : Grid_ w3 w g n m bs rows) (hb : Below w.heap.size w W) : Grid_ w3 W g n m bs rows := by
 refine ⟨below_then h.below h.below.size hb, h.base, ?_, h.len, fun i b row h1 h2 => ?_, h.apart⟩
 ·obtain ⟨cur, h1, h2⟩ := h.outer
  exact ⟨cur, blk_below h1 hb, h2⟩
 ·obtain ⟨q1, q2, q3, q4, cur, q5, q6⟩ := h.inner i b row h1 h2
  exact ⟨q1, q2, q3, q4, cur, blk_below q5 hb, q6⟩
theorem slot (h : Grid_ w3 w g n m bs rows) {i : Nat} (hi : i < n) : (∃ u, w.cell? ⟨g, i, none⟩ = some u) ∧ w.frozen? ⟨g, i, none⟩ = false := by
 obtain ⟨cur, h1, h2, _⟩ := h.outer
 exact ⟨⟨cur[i], by rw [blk_cell h1]; exact Array.getElem?_eq_getElem (by omega)⟩, blk_frozen h1 _⟩
theorem row (h : Grid_ w3 w g n m bs rows) {i : Nat} {b : Nat × Nat} (hb : bs[i]? = some b) : w.cell? ⟨g, i, none⟩ = some (.slice (some ⟨b.1, 0, none⟩) m b.2) := by
 obtain ⟨cur, h1, _, h2⟩ := h.outer
 rw [blk_cell h1]
 exact h2 i b hb
theorem cell (h : Grid_ w3 w g n m bs rows) {i x : Nat} {b : Nat × Nat} {row : List Int} (hb : bs[i]? = some b) (hr : rows[i]? = some row) (hx : x < m) : w.cell? ⟨b.1, x, none⟩ = some (.int .u8 (row.getD x 0)) ∧ w.frozen? ⟨b.1, x, none⟩ = false := by
 obtain ⟨_, _, _, _, cur, h1, h2, h3⟩ := h.inner i b row hb hr
 exact ⟨by rw [← h3 x hx]; simp [World.cell?, h1], by simp [World.frozen?, h1]; omega⟩
theorem push (h : Grid_ w3 w g n m bs rows) (hn : bs.length < n) (hb : Below w.heap.size w W) {b c : Nat} {row : List Int} {cur : Array Value} (hnew : w.heap.size ≤ b)
  (hcur : W.heap[b]? = some (.cells cur 5 (cur.size, cur.size + 1))) (hm : m ≤ cur.size) (hrow : row.length = m) (hc : m ≤ c) (hcell : ∀ j, j < m → cur[j]? = some (.int .u8 (row.getD j 0))) :
  Grid_ w3 (W.setCell ⟨g, bs.length, none⟩ (.slice (some ⟨b, 0, none⟩) m c)) g n m (bs ++ [(b, c)]) (rows ++ [row]) := by
 have h' := h.later hb
 obtain ⟨oc, o1, o2, o3⟩ := h'.outer
 obtain ⟨oc0, o10, _⟩ := h.outer
 have hgb : b ≠ g := by have := blk_lt o10; omega
 have hold : ∀ (i : Nat) (b' : Nat × Nat), bs[i]? = some b' → b'.1 < b := by
  intro i b' hi
  obtain ⟨r', hr'⟩ : ∃ r', rows[i]? = some r' := ⟨_, List.getElem?_eq_getElem (by rw [← h.len]; exact (List.getElem?_eq_some_iff.1 hi).1)⟩
  obtain ⟨_, _, _, _, c1, hc1, _⟩ := h.inner i b' r' hi hr'
  have := blk_lt hc1
  omega
 have hl3 := h.below.size
 refine ⟨below_set h'.below h.base, h.base, ⟨oc.setIfInBounds bs.length (.slice (some ⟨b, 0, none⟩) m c), blk_set o1 _ _, by simpa using o2, fun i b' hi => ?_⟩, by simp [h.len], fun i b' row' hi hr => ?_, fun i j b' c' hi hj he => ?_⟩
 ·rw [Array.getElem?_setIfInBounds]
  rcases Nat.lt_trichotomy i bs.length with hlt | rfl | hgt
  ·rw [List.getElem?_append_left hlt] at hi
   rw [if_neg (by omega)]
   exact o3 i b' hi
  ·rw [List.getElem?_append_right (Nat.le_refl _), Nat.sub_self] at hi
   simp only [List.getElem?_cons_zero, Option.some.injEq] at hi
   subst hi
   rw [if_pos rfl, if_pos (by omega)]
  ·rw [List.getElem?_append_right (by omega)] at hi
   rw [List.getElem?_eq_none (by simp; omega)] at hi
   cases hi
 ·rcases Nat.lt_trichotomy i bs.length with hlt | rfl | hgt
  ·rw [List.getElem?_append_left hlt] at hi
   rw [List.getElem?_append_left (by rw [← h.len]; exact hlt)] at hr
   obtain ⟨q1, q2, q3, q4, c1, q5, q6⟩ := h'.inner i b' row' hi hr
   exact ⟨q1, q2, q3, q4, c1, (Below.heap_setCell _ _ _ _ q1).trans q5, q6⟩
  ·rw [List.getElem?_append_right (Nat.le_refl _), Nat.sub_self] at hi
   rw [List.getElem?_append_right (by rw [h.len]; exact Nat.le_refl _), h.len, Nat.sub_self] at hr
   simp only [List.getElem?_cons_zero, Option.some.injEq] at hi hr
   subst hi
   subst hr
   exact ⟨hgb, by omega, hrow, hc, cur, (Below.heap_setCell _ _ _ _ hgb).trans hcur, hm, hcell⟩
  ·rw [List.getElem?_append_right (by omega)] at hi
   rw [List.getElem?_eq_none (by simp; omega)] at hi
   cases hi
 ·have key : ∀ (i : Nat) (b' : Nat × Nat), (bs ++ [(b, c)])[i]? = some b' → (i < bs.length ∧ bs[i]? = some b') ∨ (i = bs.length ∧ b'.1 = b) := by
   intro i b' hi
   rcases Nat.lt_trichotomy i bs.length with hlt | rfl | hgt
   ·rw [List.getElem?_append_left hlt] at hi
    exact .inl ⟨hlt, hi⟩
   ·rw [List.getElem?_append_right (Nat.le_refl _), Nat.sub_self] at hi
    simp only [List.getElem?_cons_zero, Option.some.injEq] at hi
    subst hi
    exact .inr ⟨rfl, rfl⟩
   ·rw [List.getElem?_append_right (by omega)] at hi
    rw [List.getElem?_eq_none (by simp; omega)] at hi
    cases hi
  rcases key i b' hi with ⟨a1, a2⟩ | ⟨a1, a2⟩ <;> rcases key j c' hj with ⟨e1, e2⟩ | ⟨e1, e2⟩
  ·exact h.apart i j b' c' a2 e2 he
  ·have := hold i b' a2; omega
  ·have := hold j c' e2; omega
  ·omega
theorem mark (h : Grid_ w3 w g n m bs rows) {y x : Nat} {b : Nat × Nat} {row : List Int} (hb : bs[y]? = some b) (hr : rows[y]? = some row) (hx : x < m) (u : Int) :
  Grid_ w3 (w.setCell ⟨b.1, x, none⟩ (.int .u8 u)) g n m bs (rows.set y (row.set x u)) := by
 obtain ⟨p1, p2, p3, p4, pc, p5, p6, p7⟩ := h.inner y b row hb hr
 refine ⟨below_set h.below p2, h.base, ?_, by rw [List.length_set]; exact h.len, fun i b' row' hi hr' => ?_, h.apart⟩
 ·obtain ⟨cur, h1, h2⟩ := h.outer
  exact ⟨cur, (Below.heap_setCell _ _ _ _ (Ne.symm p1)).trans h1, h2⟩
 ·by_cases hiy : i = y
  ·subst hiy
   rw [hb] at hi
   injection hi with hi
   subst hi
   rw [List.getElem?_set_self (List.getElem?_eq_some_iff.1 hr).1] at hr'
   injection hr' with hr'
   subst hr'
   refine ⟨p1, p2, by rw [List.length_set]; exact p3, p4, pc.setIfInBounds x (.int .u8 u), by simp [World.setCell, Array.getElem?_modify, p5], by simpa using p6, fun j hj => ?_⟩
   rw [Array.getElem?_setIfInBounds]
   by_cases hjx : x = j
   ·subst hjx
    rw [if_pos rfl, if_pos (by omega), List.getD_eq_getElem?_getD, List.getElem?_set_self (by omega)]; rfl
   ·rw [if_neg hjx, p7 j hj, List.getD_eq_getElem?_getD, List.getD_eq_getElem?_getD, List.getElem?_set_ne hjx]
  ·rw [List.getElem?_set_ne (Ne.symm hiy)] at hr'
   obtain ⟨q1, q2, q3, q4, c1, q5, q6⟩ := h.inner i b' row' hi hr'
   exact ⟨q1, q2, q3, q4, c1, (Below.heap_setCell _ _ _ _ (fun e => hiy (h.apart i y b' b hi hb e))).trans q5, q6⟩
end Grid_
def markRow_ (g : List (List Int)) (c : S55) : List (List Int) := g.set c.f1.toNat ((g.getD c.f1.toNat []).set c.f0.toNat 35)
def textRows_ (n m : Nat) (o : List S55) : List (List Int) := o.foldl markRow_ (List.replicate n (List.replicate m 46))
def joined_ (rows : List (List Int)) : ByteArray := ⟨(Lib.join (rows.map fun r => (strOfNums r).data.toList) [47]).toArray⟩
def impl_shapeText.f (k : Nat) (l0 : List S55) : Option ByteArray :=
 (impl_normal.f k l0).bind fun o => (impl_reach.f k o).bind fun p => if (0 ≤ p.1 ∧ p.1 < 1000000) ∧ (0 ≤ p.2 ∧ p.2 < 1000000) ∧ ∀ c ∈ o, (0 ≤ c.f0 ∧ c.f0 ≤ p.1) ∧ 0 ≤ c.f1 ∧ c.f1 ≤ p.2 then some (joined_ (textRows_ (p.2.toNat + 1) (p.1.toNat + 1) o)) else none
theorem impl_shapeText.mono : ∀ a0 k, LeO (impl_shapeText.f k a0) (impl_shapeText.f (k + 1) a0) := fun a0 k =>
 LeO.bind (impl_normal.mono _ _) fun _ => LeO.bind (impl_reach.mono _ _) fun _ => LeO.refl _
theorem repeat_46 : ∀ m : Nat, (Lib.repeatL (⟨#[46]⟩ : ByteArray).data.toList m) = List.replicate m 46
 | 0 => rfl
 | m + 1 => by rw [Lib.repeatL, repeat_46 m]; rfl
theorem st_ite_ {c : Prop} [Decidable c] {α : Type} {x : Option α} {r : α} (h : (if c then x else none) = some r) : c ∧ x = some r := by
 by_cases g : c
 ·rw [if_pos g] at h; exact ⟨g, h⟩
 ·rw [if_neg g] at h; cases h
theorem join_le_ (m : Nat) : ∀ (xs : List (List UInt8)), (∀ x ∈ xs, x.length ≤ m) → (Lib.join xs [47]).length ≤ xs.length * (m + 1)
 | [], _ => by rw [Lib.join_nil]; exact Nat.zero_le _
 | x :: r, h => by
  have hx := h x (List.mem_cons_self ..)
  have ht : (Lib.joinTail [47] r).length ≤ r.length * (m + 1) := by
   have : ∀ q : List (List UInt8), (∀ x ∈ q, x.length ≤ m) → (Lib.joinTail [47] q).length ≤ q.length * (m + 1) := by
    intro q
    induction q with
    | nil => intro _; exact Nat.zero_le _
    | cons y q ih =>
     intro hq
     have h1 := ih (fun x hx => hq x (List.mem_cons_of_mem _ hx))
     have h2 := hq y (List.mem_cons_self ..)
     unfold Lib.joinTail at h1 ⊢
     rw [List.map_cons, List.flatten_cons, List.length_append, List.length_append, List.length_cons, List.length_cons, Nat.succ_mul]
     simp only [List.length_nil]
     omega
   exact this r (fun x hx => h x (List.mem_cons_of_mem _ hx))
  rw [Lib.join_cons, List.length_append, List.length_cons, Nat.succ_mul]
  omega
def shapeText_T12_ : Bool × List (List Nat × List Nat) := (true, [([], []), ([], []), ([1], [1]), ([0, 2], [0, 2]), ([3], [3]), ([], []), ([5], [5]), ([4, 6, 0, 1, 2, 3, 4, 5, 6], [4, 6]), ([7, 0, 1, 2, 3, 4, 5, 6], [7])])
def shapeText_B12_ : List Nat := [0, 0, 2, 7, 15, 0, 32, 127, 255]
theorem shapeText_tab12_ : rtab .any (opsOf Try.f56 12) = shapeText_T12_ := by kernel_rfl
theorem shapeText_bits12_ : waitsOk shapeText_T12_.2 shapeText_B12_ = true := by kernel_rfl
theorem infoR_ : (Try.prog.info? 36).map (fun i => (i.zero, i.size, i.bytes)) = some (some (.slice none 0 0), 1, 24) := by kernel_rfl
theorem infoS_ : (Try.prog.info? 9).map (fun i => (i.zero, i.size, i.bytes)) = some (some (.string ⟨#[]⟩), 1, 16) := by kernel_rfl
set_option maxHeartbeats 8000000 in
set_option maxRecDepth 100000 in
theorem impl_shapeText.calls (k : Nat) (A0 : Option Addr) (c0 : Nat) (l0 : List S55) (r : ByteArray) (w : World) (hr0 : Kd.C k55 w A0 l0.length l0) (hc0 : l0.length ≤ c0) (h : impl_shapeText.f k l0 = some r) :
  Calls Try.prog 56 #[.slice A0 l0.length c0] w fun e w' => e = .returned (.string r) ∧ Below w.heap.size w w' := by
 have hu1 := Try.underlying55
 have hu2 := Try.underlying27
 have hu3 := Try.underlying84
 have hu4 := Try.underlying36
 have hu5 := Try.underlying86
 obtain ⟨o, h1, g1⟩ := Option.bind_eq_some_iff.mp h
 obtain ⟨⟨r1, r2⟩, h2, g2⟩ := Option.bind_eq_some_iff.mp g1
 obtain ⟨⟨⟨p1, q1⟩, ⟨p2, q2⟩, hall⟩, g3⟩ := st_ite_ g2
 simp only at p1 q1 p2 q2 hall
 have g4 := Option.some.inj g3
 subst g4
 clear h g1 g2 g3
 obtain ⟨m, hm⟩ : ∃ m : Nat, (m : Int) = r1 + 1 := ⟨(r1 + 1).toNat, by omega⟩
 obtain ⟨n, hn⟩ : ∃ n : Nat, (n : Int) = r2 + 1 := ⟨(r2 + 1).toNat, by omega⟩
 rw [show r2.toNat + 1 = n by omega, show r1.toNat + 1 = m by omega]
 have hw1 : IntKind.i64.wrap (r1 + 1) = (m : Int) := by rw [hm]; exact (i64_w _).trans (by unfold wrap64; omega)
 have hw2 : IntKind.i64.wrap (r2 + 1) = (n : Int) := by rw [hn]; exact (i64_w _).trans (by unfold wrap64; omega)
 have H2 := Aside0.mk h2
 have HALL := Aside0.mk hall
 have HM := Aside0.mk (show (m : Int) = r1 + 1 ∧ m ≤ 1000000 by omega)
 have HN := Aside0.mk (show (n : Int) = r2 + 1 ∧ 0 < n ∧ n ≤ 1000000 by omega)
 clear h2 hall hm hn p1 q1 p2 q2
 go_enter Try.func56, Try.ntmps56
 go_wp2_with fail
 refine (impl_normal.calls k _ _ l0 o _ hr0 hc0 h1).mono ?_
 rintro e w1 ⟨v0, rfl, hR, hb1⟩
 obtain ⟨Ao, co, rfl⟩ := Kd.R_slice hR
 have HO := Aside0.mk (Kd.R_reads' hR).2.2
 have HOL := Aside0.mk (Kd.R_reads' hR).2.1
 have HOM := Aside0.mk (show o.length ≤ 9223372036854775807 from (Kd.R_reads' hR).2.2.2.1)
 have HB := Aside0.mk hb1
 clear hR hb1 h1 hr0
 go_wp2_with fail
 refine (impl_reach.calls k _ _ o r1 r2 _ HO.out HOL.out H2.out).mono ?_
 rintro e w2 ⟨rfl, hb2⟩
 replace HO := Aside0.mk (Kd.C_below HO.out hb2)
 replace HB := Aside0.mk (below_step HB.out hb2)
 clear hb2 H2
 go_wp2_with (first | ((with_reducible refine gate_dst (N := 19) rfl ?_); generalize hW3 : w2.alloc _ = w3; generalize hL : w2.heap.size = L; have hbL : w3.heap[L]? = some (.cells #[.int .i64 r1, .int .i64 r2] 55 (0, 0)) := (by rw [← hW3, ← hL]; exact blk_new _ _); have hb3 : Below w2.heap.size w2 w3 := (by rw [← hW3]; exact below_alloc (Below.refl _ _) _); clear hW3 hL; replace HO := Aside0.mk (Kd.C_below HO.out hb3); replace HB := Aside0.mk (below_step HB.out hb3); have HBL := Aside0.mk hbL; clear hb3 hbL; refine Kd.R_make (Kd.raw 1) _ 36 rfl (N := 19) rfl 84 _ _ rfl (n : Int) rfl rfl Try.underlying84 (.slice none 0 0) 24 infoR_ rfl (by decide) (by omega) ([.slice none 0 0]) (ok := fun _ => True) (okp := fun _ => True) ⟨rfl, rfl, (fun u hu => by simp [Value.cells] at hu; subst hu; rfl)⟩ (fun _ hk => hk) trivial (by omega) (by have := HN.out; omega) (Below.refl _ _) (Nat.le_refl _) ?_; intro v4 w4 ho4 hb4 hg_ hnew_; clear hg_ hnew_))
 obtain ⟨_, inner, hown, _⟩ := ho4
 rw [List.length_replicate, Int.toNat_natCast] at hown
 rcases hown.2 with ⟨_, hz⟩ | ⟨g, cap, cur0, rfl, hg, hblk, hnc, _, hcs, _⟩
 ·exact absurd hz (by have := HN.out; omega)
 have hcs' : cur0.size = cap := by rw [hcs]; exact Nat.mul_one _
 have HG0 := Aside0.mk (show Grid_ w3 w4 g n m [] [] from ⟨hb4, hg, ⟨cur0, hblk, by omega, fun i b hi => by simp at hi⟩, rfl, fun i b row hi => by simp at hi, fun i j b c hi => by simp at hi⟩)
 clear hown hblk hnc hcs hcs' hg hb4
 go_wp2_with fail
 go_loopg [22] n (fun gk v22 wr => ∃ (bs : List (Nat × Nat)) (rows : List (List Int)), v22 = .int .i64 (bs.length : Int) ∧ Aside0 (gk + bs.length = n) ∧ Aside0 (rows = List.replicate bs.length (List.replicate m 46)) ∧ Aside0 (Grid_ w3 wr g n m bs rows))
 case atStart => exact ⟨[], [], rfl, ⟨rfl⟩, ⟨rfl⟩, HG0⟩
 case round =>
  clear HG0
  obtain ⟨bs, rows, rfl, HI, HRO, HG⟩ := hrel
  cases gk with
  | zero =>
   have hi : bs.length = n := by have := HI.out; omega
   have d1 : decide ((bs.length : Int) < (n : Int)) = false := decide_eq_false (by omega)
   have d2 : decide (bs.length < n) = false := decide_eq_false (by omega)
   have HBN := Aside0.mk hi
   clear HI hi
   go_wp2_with fail
   go_loopg [36] o.length (fun gk v36 wr => ∃ (i : Nat) (rows : List (List Int)), v36 = .int .i64 (i : Int) ∧ Aside0 (gk + i = o.length) ∧ Aside0 (rows = (o.take i).foldl markRow_ (List.replicate n (List.replicate m 46))) ∧ Aside0 (Grid_ w3 wr g n m bs rows))
   case atStart => exact ⟨0, rows, rfl, ⟨rfl⟩, ⟨by rw [HRO.out, HBN.out]; rfl⟩, HG⟩
   case round =>
    clear HG HRO
    obtain ⟨i, rows, rfl, HI, HRO, HG⟩ := hrel
    cases gk with
    | zero =>
     have hi : i = o.length := by have := HI.out; omega
     have d1 : decide ((i : Int) < (o.length : Int)) = false := decide_eq_false (by omega)
     have d2 : decide (i < o.length) = false := decide_eq_false (by omega)
     replace HRO := Aside0.mk (show rows = textRows_ n m o by rw [HRO.out, hi, List.take_length]; rfl)
     clear HI hi
     have HB8 := Aside0.mk (below_step HB.out HG.out.below)
     clear HB HO HOL HBL HALL HOM
     generalize wr = w8 at *
     go_wp2_with (first | ((with_reducible refine gate_dst (N := 51) rfl ?_); refine Kd.R_make Kd.string _ 9 rfl (N := 51) rfl 86 _ _ rfl (n : Int) rfl rfl Try.underlying86 (.string ⟨#[]⟩) 16 infoS_ rfl (by decide) (by omega) (⟨#[]⟩ : ByteArray) (ok := fun _ => True) (okp := fun _ => True) rfl (fun _ hk => hk) trivial (by omega) (by have := HN.out; omega) (Below.refl _ _) (Nat.le_refl _) ?_; intro v9 w9 ho9 hb9 hg_ hnew_; clear hg_ hnew_))
     rw [Int.toNat_natCast] at ho9
     obtain ⟨g9, c9, e9, hg9, _⟩ := Kd.R_form ho9 (by rw [List.length_replicate]; have := HN.out; omega)
     rw [List.length_replicate] at e9
     subst e9
     go_wp2_with fail
     go_loopg [54] n (fun gk v54 wq => ∃ (i : Nat) (xs : List ByteArray), v54 = .int .i64 (i : Int) ∧ Aside0 (gk + i = n) ∧ Aside0 (xs.length = n) ∧ Aside0 (∀ j, j < i → xs[j]? = (rows[j]?).map strOfNums) ∧ Aside0 (Kd.R Kd.string 9 wq w8.heap.size (fun _ => True) (.slice (some ⟨g9, 0, none⟩) n c9) xs) ∧ Aside0 (Below w8.heap.size w8 wq))
     case atStart => exact ⟨0, _, rfl, ⟨rfl⟩, ⟨List.length_replicate ..⟩, ⟨fun j hj => absurd hj (Nat.not_lt_zero _)⟩, ⟨ho9⟩, ⟨hb9⟩⟩
     case round =>
      clear ho9 hb9
      obtain ⟨i, xs, rfl, HI, HXL, HX, HS, HB9⟩ := hrel
      cases gk with
      | zero =>
       have hi : i = n := by have := HI.out; omega
       have d1 : decide ((i : Int) < (n : Int)) = false := decide_eq_false (by omega)
       have d2 : decide (i < n) = false := decide_eq_false (by omega)
       have hrl : rows.length = n := by rw [← HG.out.len]; exact HBN.out
       have hxs : xs = rows.map strOfNums := by
        apply List.ext_getElem?
        intro j
        rcases Nat.lt_or_ge j n with hj | hj
        ·rw [HX.out j (by omega), List.getElem?_map]
        ·rw [List.getElem?_eq_none (by rw [HXL.out]; exact hj), List.getElem?_eq_none (by rw [List.length_map, hrl]; exact hj)]
       have hrm : ∀ r ∈ rows, r.length = m := by
        intro r hr
        obtain ⟨j, hj⟩ := List.getElem?_of_mem hr
        have hjl := (List.getElem?_eq_some_iff.1 hj).1
        obtain ⟨_, _, h3, _⟩ := HG.out.inner j (bs[j]'(by rw [HG.out.len]; exact hjl)) r (List.getElem?_eq_getElem (by rw [HG.out.len]; exact hjl)) hj
        exact h3
       have hjl : (Lib.join (xs.map (·.data.toList)) (⟨#[47]⟩ : ByteArray).data.toList).length ≤ 140737488355328 := by
        have h1 := join_le_ m (xs.map (·.data.toList)) (fun x hx => by
         rw [hxs, List.map_map] at hx
         obtain ⟨r, hr, rfl⟩ := List.mem_map.1 hx
         show (strOfNums r).data.toList.length ≤ m
         rw [strOfNums_data, List.length_map, hrm r hr]; exact Nat.le_refl _)
        rw [List.length_map, HXL.out] at h1
        have h2 : n * (m + 1) ≤ 1000000 * 1000001 := Nat.mul_le_mul HN.out.2.2 (by have := HM.out; omega)
        exact Nat.le_trans h1 (by omega)
       have hJ := strings_Join_ g9 0 c9 xs ⟨#[47]⟩ wr (fun j x hj => by
        have hjl := (List.getElem?_eq_some_iff.1 hj).1
        have h1 := (Kd.R_celln (⟨#[]⟩ : ByteArray) HS.out (j : Int) (by omega) (by rw [← HXL.out]; omega)).1
        rw [Int.toNat_natCast] at h1
        rw [Nat.zero_add, h1]
        unfold rdOf
        rw [Int.toNat_natCast, List.getD_eq_getElem?_getD, hj]; rfl) (Kd.R_lt HS.out g9 (by simp [Value.ownBlock])) (by rw [HXL.out]; have := HN.out; omega) (by rw [HXL.out]; exact (Kd.R_reads' HS.out).2.1) hjl
       rw [HXL.out] at hJ
       have HJ := Aside0.mk hJ
       have HJE := Aside0.mk (show (⟨(Lib.join (xs.map (·.data.toList)) (⟨#[47]⟩ : ByteArray).data.toList).toArray⟩ : ByteArray) = joined_ (textRows_ n m o) by rw [hxs, ← HRO.out, List.map_map]; rfl)
       have HB10 := Aside0.mk (below_step HB8.out HB9.out)
       clear hJ hxs hrm hjl hrl HI HX HS HB9 HB8 hi HG HRO
       go_wp2_with fail
       refine HJ.out.mono ?_
       rintro e w10 ⟨rfl, hb10⟩
       have HB11 := Aside0.mk (below_step HB10.out hb10)
       rw [HJE.out]
       clear HJ HJE HB10 hb10
       go_wp2_with fail
       go_ret
       exact ⟨rfl, HB11.out⟩
      | succ gk1 =>
       have hi : i < n := by have := HI.out; omega
       have HI2 := Aside0.mk (show gk1 + (i + 1) = n by have := HI.out; omega)
       have p0 : 0 ≤ (i : Int) := by omega
       have q0 : (i : Int) < (n : Int) := by omega
       have d1 : decide ((i : Int) < (n : Int)) = true := decide_eq_true q0
       have d2 : decide (i < n) = true := decide_eq_true hi
       have hib : i < bs.length := by rw [HBN.out]; exact hi
       obtain ⟨b, hb⟩ : ∃ b, bs[i]? = some b := ⟨_, List.getElem?_eq_getElem hib⟩
       obtain ⟨row, hr⟩ : ∃ row, rows[i]? = some row := ⟨_, List.getElem?_eq_getElem (by rw [← HG.out.len]; exact hib)⟩
       have hG := HG.out.later HB9.out
       have s2 := hG.row hb
       obtain ⟨_, _, hrm, hmc, _⟩ := hG.inner i b row hb hr
       have hcv := run_convert_bytes_arg (P := Try.prog) wr 36 5 hu4 Try.underlying5 b.1 0 m b.2 row hrm (fun j hj => by rw [Nat.zero_add]; exact (hG.cell hb hr hj).1) 9 Try.underlying9
       obtain ⟨hx9, hf9⟩ := Kd.R_celln (⟨#[]⟩ : ByteArray) HS.out (i : Int) p0 q0
       obtain ⟨HP1, HP2⟩ := Kd.R_putg HS.out (i : Int) (strOfNums row)
       rw [Int.toNat_natCast] at hx9 hf9 HP1 HP2
       have HS2 := Aside0.mk HP1
       have HB92 := Aside0.mk (below_set (j := i) (v := .string (strOfNums row)) HB9.out hg9)
       have HXL2 := Aside0.mk (show (xs.set i (strOfNums row)).length = n by rw [List.length_set]; exact HXL.out)
       have HX2 := Aside0.mk (show ∀ j, j < i + 1 → (xs.set i (strOfNums row))[j]? = (rows[j]?).map strOfNums by
        intro j hj
        by_cases hji : j = i
        ·subst hji
         rw [List.getElem?_set_self (by rw [HXL.out]; exact hi), hr]; rfl
        ·rw [List.getElem?_set_ne (Ne.symm hji)]
         exact HX.out j (by omega))
       have hwi : wrap64 ((i : Int) + 1) = ((i + 1 : Nat) : Int) := by unfold wrap64; have := HN.out; omega
       clear HP1 HP2 HS HB9 HXL HX HI hG hb hr hrm hib
       go_wp2_with fail
       go_roundg gk1
       case measure => omega
       case rel => exact ⟨i + 1, xs.set i (strOfNums row), by rw [hwi], HI2, HXL2, HX2, HS2, HB92⟩
    | succ gk1 =>
     have hi : i < o.length := by have := HI.out; omega
     have HI2 := Aside0.mk (show gk1 + (i + 1) = o.length by have := HI.out; omega)
     have p0 : 0 ≤ (i : Int) := by omega
     have q0 : (i : Int) < (o.length : Int) := by omega
     have d1 : decide ((i : Int) < (o.length : Int)) = true := decide_eq_true q0
     have d2 : decide (i < o.length) = true := decide_eq_true hi
     have hbig : o.length ≤ co := HOL.out
     obtain ⟨ad, eA, hx0, hx1⟩ := at_T55 (Kd.C_below HO.out HG.out.below) (i : Int) p0 q0
     subst eA
     rw [Int.toNat_natCast] at hx0 hx1
     have hce : rd_T55 o (i : Int) = o[i] := by unfold rd_T55; rw [Int.toNat_natCast, List.getD_eq_getElem?_getD, List.getElem?_eq_getElem hi]; rfl
     obtain ⟨⟨x0, x1⟩, y0, y1⟩ := HALL.out _ (List.getElem_mem hi)
     have htk : (o.take (i + 1)).foldl markRow_ (List.replicate n (List.replicate m 46)) = markRow_ rows o[i] := by
      rw [List.take_add_one, List.foldl_append, ← HRO.out, List.getElem?_eq_getElem hi]; rfl
     rw [← hce] at x0 x1 y0 y1 htk
     clear hce
     generalize rd_T55 o (i : Int) = c at *
     have pY : 0 ≤ c.f1 := y0
     have qY : c.f1 < (n : Int) := by have := HN.out; omega
     have pX : 0 ≤ c.f0 := x0
     have qX : c.f0 < (m : Int) := by have := HM.out; omega
     have hyb : c.f1.toNat < bs.length := by have := HBN.out; omega
     obtain ⟨b, hb⟩ : ∃ b, bs[c.f1.toNat]? = some b := ⟨_, List.getElem?_eq_getElem hyb⟩
     obtain ⟨row, hr⟩ : ∃ row, rows[c.f1.toNat]? = some row := ⟨_, List.getElem?_eq_getElem (by rw [← HG.out.len]; exact hyb)⟩
     have hwi : wrap64 ((i : Int) + 1) = ((i + 1 : Nat) : Int) := by unfold wrap64; have := HOL.out; have := HOM.out; omega
     go_wp2_with fail
     generalize hW : wr.alloc _ = W6
     generalize hL2 : wr.heap.size = L2
     have hbk6 : W6.drew.heap[L2]? = some (.cells #[.int .i64 c.f0, .int .i64 c.f1] 55 (0, 0)) := blk_drew (by rw [← hW, ← hL2]; exact blk_new _ _)
     have hb6 : Below wr.heap.size wr W6.drew := below_drew (by rw [← hW]; exact below_alloc (Below.refl _ _) _)
     have s0 : W6.drew.cell? ⟨L2, 0, none⟩ = some (.int .i64 c.f0) := (blk_cell hbk6 0).trans rfl
     have s1 : W6.drew.cell? ⟨L2, 1, none⟩ = some (.int .i64 c.f1) := (blk_cell hbk6 1).trans rfl
     have hG6 := HG.out.later hb6
     have s2 := hG6.row hb
     have hxm : c.f0.toNat < m := by omega
     obtain ⟨hst, hfr⟩ := hG6.cell hb hr hxm
     have hmk : markRow_ rows c = rows.set c.f1.toNat (row.set c.f0.toNat 35) := by unfold markRow_; rw [List.getD_eq_getElem?_getD, hr]; rfl
     have HG7 := Aside0.mk (hG6.mark hb hr hxm 35)
     rw [← hmk] at HG7
     replace HRO := Aside0.mk htk.symm
     clear hW hL2 hbk6 hb6 hG6 hx0 hx1 hb hr hmk htk HI HG hbig x0 x1 y0 y1
     replace pX := eq_true pX
     replace qX := eq_true qX
     replace pY := eq_true pY
     replace qY := eq_true qY
     refine start_ (n := 9) (S := fun w' => w'.cell? ⟨L2, 0, none⟩ = some (.int .i64 c.f0) ∧ w'.cell? ⟨L2, 1, none⟩ = some (.int .i64 c.f1) ∧ w'.cell? ⟨g, c.f1.toNat, none⟩ = some (.slice (some ⟨b.1, 0, none⟩) m b.2)) (ds := [8]) #[F, F, F, F, F, F, F, F, F] (by kernel_rfl) rfl rfl ⟨s0, s1, s2⟩ (fun hHeld => ?_); refine with_tabW shapeText_tab12_ shapeText_bits12_ (fun HT_ HW_ => ?_)
     generalize W6.drew = w9 at *
     refine pu_ HT_ 0 (some 40) #[T, F, F, F, F, F, F, F, F] ?_
     refine pu_ HT_ 1 (some 41) #[T, T, F, F, F, F, F, F, F] ?_
     refine take_ (i := 2) (N := some 42) (v := ?_) (a' := ?_) #[T, T, T, F, F, F, F, F, F] rfl rfl (take_ofW HT_.out HW_.out (by kernel_rfl)) (fun _ _ _ h => h) (Or.inl ⟨by rfl, ?_⟩) hHeld ?_ ?_
     rotate_left
     ·rintro w' ⟨s0, s1, s2⟩
      go_simp
      with_reducible rfl
     rotate_left
     ·simp only [Act.put, List.setIfInBounds_toArray, List.set_cons_zero, List.set_cons_succ, i64_w, i32_w]
      rfl
     refine pu_ HT_ 3 (some 43) #[T, T, T, T, F, F, F, F, F] ?_
     refine take_ (i := 4) (N := some 44) (v := ?_) (a' := ?_) #[T, T, T, T, T, F, F, F, F] rfl rfl (take_ofW HT_.out HW_.out (by kernel_rfl)) (fun _ _ _ h => h) (Or.inl ⟨by rfl, ?_⟩) hHeld ?_ ?_
     rotate_left
     ·rintro w' ⟨s0, s1, s2⟩
      go_simp
      with_reducible rfl
     rotate_left
     ·simp only [Act.put, List.setIfInBounds_toArray, List.set_cons_zero, List.set_cons_succ, i64_w, i32_w]
      rfl
     refine pu_ HT_ 5 (some 45) #[T, T, T, T, T, T, F, F, F] ?_
     refine take_ (i := 6) (N := some 46) (v := ?_) (a' := ?_) #[T, T, T, T, T, T, T, F, F] rfl rfl (take_ofW HT_.out HW_.out (by kernel_rfl)) (fun _ _ _ h => h) (Or.inl ⟨by rfl, ?_⟩) hHeld ?_ ?_
     rotate_left
     ·rintro w' ⟨s0, s1, s2⟩
      go_simp
      with_reducible rfl
     rotate_left
     ·simp only [Act.put, List.setIfInBounds_toArray, List.set_cons_zero, List.set_cons_succ, i64_w, i32_w]
      rfl
     refine pu_ HT_ 7 (some 47) #[T, T, T, T, T, T, T, T, F] ?_
     refine last_ (i := 8) (N := none) #[T, T, T, T, T, T, T, T, T] rfl rfl (one_of HT_.out (by kernel_rfl)) (by decide) (fun K hK => ?_)
     refine skip_ (w1 := ?_) (by rfl) rfl ?_ ?_
     rotate_left
     ·go_simp
      rfl
     refine hK.out _ _ ?_
     clear hK K
     refine done_ (done_of HT_.out (by kernel_rfl)) ?_
     clear hst hfr s0 s1 s2 hHeld HT_ HW_
     go_wp2_with fail
     go_roundg gk1
     case measure => omega
     case rel => exact ⟨i + 1, markRow_ rows c, by rw [hwi], HI2, HRO, HG7⟩
  | succ gk1 =>
   have hi : bs.length < n := by have := HI.out; omega
   have pn : (bs.length : Int) < (n : Int) := by omega
   have p0 : 0 ≤ (bs.length : Int) := by omega
   have d1 : decide ((bs.length : Int) < (n : Int)) = true := decide_eq_true pn
   have d2 : decide (bs.length < n) = true := decide_eq_true hi
   have hbl : wr.heap[L]? = some (.cells #[.int .i64 r1, .int .i64 r2] 55 (0, 0)) := blk_below HBL.out HG.out.below
   have hx0 : wr.cell? ⟨L, 0, none⟩ = some (.int .i64 r1) := (blk_cell hbl 0).trans rfl
   clear hbl
   go_wp2_with fail
   refine (strings_Repeat_ ⟨#[46]⟩ m _ (by have := HM.out; omega) (by have := HM.out; show 1 * m ≤ _; omega)).mono ?_
   rintro e w5 ⟨rfl, hb5⟩
   generalize hs : (⟨(Lib.repeatL (⟨#[46]⟩ : ByteArray).data.toList m).toArray⟩ : ByteArray) = s
   have hsb : s.data.toList = List.replicate m 46 := by rw [← hs]; exact repeat_46 m
   have hsz : s.size = m := by have := congrArg List.length hsb; simpa using this
   have hcv := Lib.run_convert_string_bytes (P := Try.prog) w5 9 36 5 s Try.underlying9 hu4 Try.underlying5
   have hat := Lib.bytesWorld_at_new w5 5 s
   have hcell : ∀ j, j < m → (Lib.bytesCells w5 5 s)[j]? = some (.int .u8 ((List.replicate m (46 : Int)).getD j 0)) := by
    intro j hj
    have h1 := Lib.bytesWorld_cell w5 5 s j (by omega)
    rw [hsb] at h1
    simp only [World.cell?, hat] at h1
    refine h1.trans ?_
    simp [List.getD_eq_getElem?_getD, List.getElem?_replicate, hj]
   have hsz2 : m ≤ (Lib.bytesCells w5 5 s).size := by
    rcases Nat.lt_or_ge (Lib.bytesCells w5 5 s).size m with h | h
    ·have h1 := hcell _ h
     rw [Array.getElem?_eq_none (Nat.le_refl _)] at h1
     cases h1
    ·exact h
   have hb6 : Below w5.heap.size w5 (Lib.bytesWorld w5 5 s) := by
    refine ⟨rfl, rfl, rfl, by rw [Lib.bytesWorld_size]; omega, fun i hi => Lib.bytesWorld_at_old w5 5 s i hi⟩
   have hcap : m ≤ grownCap w5 s.size 0 5 := by rw [← hsz]; exact grownCap_ge w5 s.size 0 5
   rw [hsz] at hcv hcap
   generalize Lib.bytesWorld w5 5 s = w6 at *
   generalize Lib.bytesCells w5 5 s = cur6 at *
   generalize grownCap w5 m 0 5 = c6 at *
   obtain ⟨⟨u0, hx1⟩, hf1⟩ := (HG.out.later (below_step hb5 hb6)).slot hi
   have HG2 := Aside0.mk (HG.out.push hi (below_step hb5 hb6) (b := w5.heap.size) (c := c6) (row := List.replicate m 46) hb5.size hat hsz2 (List.length_replicate ..) hcap hcell)
   have HRO2 := Aside0.mk (show rows ++ [List.replicate m 46] = List.replicate (bs ++ [(w5.heap.size, c6)]).length (List.replicate m 46) by rw [HRO.out, List.length_append]; exact (List.replicate_succ' ..).symm)
   have HI2 := Aside0.mk (show gk1 + (bs ++ [(w5.heap.size, c6)]).length = n by rw [List.length_append]; have := HI.out; simp; omega)
   have hwb : wrap64 ((bs.length : Int) + 1) = (bs.length : Int) + 1 := by unfold wrap64; have := HN.out; omega
   have hlb : ((bs ++ [(w5.heap.size, c6)]).length : Int) = (bs.length : Int) + 1 := by simp
   clear hat hcell hsz2 hb6 hcap hs hsb hsz hb5 HG HRO HI
   go_wp2_with fail
   go_roundg gk1
   case measure => omega
   case rel => exact ⟨bs ++ [(w5.heap.size, c6)], rows ++ [List.replicate m 46], by rw [hlb, hwb], HI2, HRO2, HG2⟩

/-! ### CommonCell: function -1, by hand -/
/-- a cell's two words -/
def encC_ (x : S55) : List Value := [.int .i64 x.f0, .int .i64 x.f1]
def flatC_ (l : List S55) : List Value := (l.map encC_).flatten
theorem flatC_length : ∀ l : List S55, (flatC_ l).length = l.length * 2 := by
 intro l
 induction l with
 | nil => rfl
 | cons c r ih => show (encC_ c ++ flatC_ r).length = _; rw [List.length_append, ih, List.length_cons]; show 2 + r.length * 2 = _; omega
theorem flatC_get : ∀ (l : List S55) (j : Nat) (x : S55), l[j]? = some x → (flatC_ l)[2 * j]? = some (.int .i64 x.f0) ∧ (flatC_ l)[2 * j + 1]? = some (.int .i64 x.f1) := by
 intro l
 induction l with
 | nil => intro j x h; simp at h
 | cons c r ih =>
  intro j x h
  cases j with
  | zero => simp only [List.getElem?_cons_zero, Option.some.injEq] at h; subst h; exact ⟨rfl, rfl⟩
  | succ j =>
   rw [List.getElem?_cons_succ] at h
   have := ih j x h
   exact this
theorem flatC_one (l : List S55) : ∀ u ∈ flatC_ l, u.oneCell' = true := by
 intro u hu
 obtain ⟨c, hc, hu⟩ := List.mem_flatten.1 hu
 obtain ⟨x, hx, rfl⟩ := List.mem_map.1 hc
 simp [encC_] at hu
 rcases hu with rfl | rfl <;> rfl
theorem flatC_reps {α : Type} (R : S55 → List Value → Prop) (hR : ∀ x, R x (encC_ x)) : ∀ l : List S55, Reps R 2 l (flatC_ l) := by
 intro l
 refine ⟨flatC_length l, ?_⟩
 induction l with
 | nil => intro j p h; simp at h
 | cons c r ih =>
  intro j p h
  cases j with
  | zero => simp only [List.getElem?_cons_zero, Option.some.injEq] at h; subst h; exact hR c
  | succ j =>
   rw [List.getElem?_cons_succ] at h
   have e : (flatC_ (c :: r)).drop ((j + 1) * 2) = (flatC_ r).drop (j * 2) := by
    show (encC_ c ++ flatC_ r).drop _ = _
    rw [show (j + 1) * 2 = (encC_ c).length + j * 2 from by show _ = 2 + j * 2; omega, List.drop_append]
    simp
   rw [e]; exact ih j p h
theorem kC_M (w : World) (base : Nat) (ok : Nat → Prop) (x : S55) : k55.M w base ok x (encC_ x) := ⟨[.int .i64 x.f0], [.int .i64 x.f1], rfl, rfl, rfl⟩
theorem kC_M_inv {w : World} {base : Nat} {ok : Nat → Prop} {x : S55} {cs : List Value} (h : k55.M w base ok x cs) : cs = encC_ x := by
 obtain ⟨a, b, rfl, h1, h2⟩ := h
 have h1' : a = [.int .i64 x.f0] := h1
 have h2' : b = [.int .i64 x.f1] := h2
 rw [h1', h2']; rfl
/-- a row of cells of the call's own, by its cells -/
theorem ownC_R {w : World} {base : Nat} {ok : Nat → Prop} {v : Value} {l : List S55} (h : w.ownsRow base 55 2 v l.length (flatC_ l)) (hok : ∀ k, v.ownBlock = some k → ok k) : Kd.R k55 55 w base ok v l :=
 ⟨hok, flatC_ l, h, flatC_reps (α := Unit) _ (fun x => kC_M w base _ x) l⟩
theorem flatC_of_reps {R : S55 → List Value → Prop} (hR : ∀ x cs, R x cs → cs = encC_ x) : ∀ (l : List S55) (cs : List Value), Reps R 2 l cs → cs = flatC_ l := by
 intro l
 induction l with
 | nil => intro cs h; have := h.1; simp at this; rw [this]; rfl
 | cons c r ih =>
  intro cs h
  have h0 := hR _ _ (h.2 0 c rfl)
  rw [Nat.zero_mul, List.drop_zero] at h0
  have h1 : Reps R 2 r (cs.drop 2) := by
   refine ⟨?_, fun j p hj => ?_⟩
   ·rw [List.length_drop, h.1, List.length_cons]; omega
   ·have := h.2 (j + 1) p (by rw [List.getElem?_cons_succ]; exact hj)
    rw [List.drop_drop, show 2 + j * 2 = (j + 1) * 2 from by omega]; exact this
  have e := ih _ h1
  rw [← List.take_append_drop 2 cs, h0, e]; rfl

/-! ### cmp_isNaN_int64: function 149 -/
def cmp_isNaN_int64.f (a0 : Int) : Option (Bool) := some (a0 != a0)
set_option maxHeartbeats 8000000 in
set_option maxRecDepth 100000 in
theorem cmp_isNaN_int64.calls (a0 : Int) (r : Bool) (w : World) (h : cmp_isNaN_int64.f a0 = some r) :
  Calls Try.prog 149 #[.int .i64 a0] w fun e w' => e = .returned (.bool r) ∧ Drawn0 w w' := by
 have H : (some (a0 != a0)) = some r := h
 clear h
 obtain rfl := Option.some.inj H
 go_enter Try.func149, Try.ntmps149
 go_wp2
 go_ret
 exact ⟨r3_, by repeat (first | exact Drawn0.refl _ | apply Drawn0.step)⟩

/-! ### cmp_Compare_int64: function 129 -/
def cmp_Compare_int64.f (a0 : Int) (a1 : Int) : Option (Int) := (cmp_isNaN_int64.f a0).bind fun t294 => ((cmp_isNaN_int64.f a1).bind fun t295 => (if t294 = true then (if t295 = true then (some 0) else (some (-1))) else (if t295 = true then (some 1) else (if a0 < a1 then (some (-1)) else (if a0 > a1 then (some 1) else (some 0))))))
set_option maxHeartbeats 8000000 in
set_option maxRecDepth 100000 in
theorem cmp_Compare_int64.calls (a0 : Int) (a1 : Int) (r : Int) (w : World) (h : cmp_Compare_int64.f a0 a1 = some r) :
  Calls Try.prog 129 #[.int .i64 a0, .int .i64 a1] w fun e w' => e = .returned (.int .i64 r) ∧ Drawn0 w w' := by
 have H : ((cmp_isNaN_int64.f a0).bind fun t294 => ((cmp_isNaN_int64.f a1).bind fun t295 => (if t294 = true then (if t295 = true then (some 0) else (some (-1))) else (if t295 = true then (some 1) else (if a0 < a1 then (some (-1)) else (if a0 > a1 then (some 1) else (some 0))))))) = some r := h
 clear h
 replace H := Option.bind_eq_some_iff.mp H
 obtain ⟨t294, A30, H⟩ := H
 try dsimp only at H
 have A3 := Aside0.mk A30
 clear A30
 replace H := Option.bind_eq_some_iff.mp H
 obtain ⟨t295, A40, H⟩ := H
 try dsimp only at H
 have A4 := Aside0.mk A40
 clear A40
 by_cases c5 : t294 = true
 ·subst c5
  have H1 : (if t295 = true then (some 0) else (some (-1))) = some r := by rw [if_pos rfl] at H; exact H
  clear H
  have H := H1
  clear H1
  by_cases c6 : t295 = true
  ·subst c6
   have H1 : (some 0) = some r := by rw [if_pos rfl] at H; exact H
   clear H
   have H := H1
   clear H1
   obtain rfl := Option.some.inj H
   go_enter Try.func129, Try.ntmps129
   go_wp2_with (first | ((with_reducible refine gate_callee (f := 149) rfl ?_); refine gL_ (some 8) Try.func149 #[.int .i64 a0] ?_; (with_reducible refine (cmp_isNaN_int64.calls a0 true _ A3.out).mono ?_); rintro e w' ⟨rfl, ⟨nd, rfl⟩⟩; refine ⟨_, rfl, ?_⟩) | ((with_reducible refine gate_callee (f := 149) rfl ?_); refine gL_ (some 10) Try.func149 #[.int .i64 a1] ?_; (with_reducible refine (cmp_isNaN_int64.calls a1 true _ A4.out).mono ?_); rintro e w' ⟨rfl, ⟨nd, rfl⟩⟩; refine ⟨_, rfl, ?_⟩))
   go_ret
   exact ⟨r3_, by repeat (first | exact Drawn0.refl _ | apply Drawn0.step)⟩
  ·replace c6 := Bool.eq_false_iff.mpr c6
   subst c6
   have H1 : (some (-1)) = some r := by rw [if_neg (show ¬ (false = true) by decide)] at H; exact H
   clear H
   have H := H1
   clear H1
   obtain rfl := Option.some.inj H
   go_enter Try.func129, Try.ntmps129
   go_wp2_with (first | ((with_reducible refine gate_callee (f := 149) rfl ?_); refine gL_ (some 8) Try.func149 #[.int .i64 a0] ?_; (with_reducible refine (cmp_isNaN_int64.calls a0 true _ A3.out).mono ?_); rintro e w' ⟨rfl, ⟨nd, rfl⟩⟩; refine ⟨_, rfl, ?_⟩) | ((with_reducible refine gate_callee (f := 149) rfl ?_); refine gL_ (some 10) Try.func149 #[.int .i64 a1] ?_; (with_reducible refine (cmp_isNaN_int64.calls a1 false _ A4.out).mono ?_); rintro e w' ⟨rfl, ⟨nd, rfl⟩⟩; refine ⟨_, rfl, ?_⟩))
   go_ret
   exact ⟨r3_, by repeat (first | exact Drawn0.refl _ | apply Drawn0.step)⟩
 ·replace c5 := Bool.eq_false_iff.mpr c5
  subst c5
  have H1 : (if t295 = true then (some 1) else (if a0 < a1 then (some (-1)) else (if a0 > a1 then (some 1) else (some 0)))) = some r := by rw [if_neg (show ¬ (false = true) by decide)] at H; exact H
  clear H
  have H := H1
  clear H1
  by_cases c7 : t295 = true
  ·subst c7
   have H1 : (some 1) = some r := by rw [if_pos rfl] at H; exact H
   clear H
   have H := H1
   clear H1
   obtain rfl := Option.some.inj H
   go_enter Try.func129, Try.ntmps129
   go_wp2_with (first | ((with_reducible refine gate_callee (f := 149) rfl ?_); refine gL_ (some 8) Try.func149 #[.int .i64 a0] ?_; (with_reducible refine (cmp_isNaN_int64.calls a0 false _ A3.out).mono ?_); rintro e w' ⟨rfl, ⟨nd, rfl⟩⟩; refine ⟨_, rfl, ?_⟩) | ((with_reducible refine gate_callee (f := 149) rfl ?_); refine gL_ (some 10) Try.func149 #[.int .i64 a1] ?_; (with_reducible refine (cmp_isNaN_int64.calls a1 true _ A4.out).mono ?_); rintro e w' ⟨rfl, ⟨nd, rfl⟩⟩; refine ⟨_, rfl, ?_⟩))
   go_ret
   exact ⟨r3_, by repeat (first | exact Drawn0.refl _ | apply Drawn0.step)⟩
  ·replace c7 := Bool.eq_false_iff.mpr c7
   subst c7
   have H1 : (if a0 < a1 then (some (-1)) else (if a0 > a1 then (some 1) else (some 0))) = some r := by rw [if_neg (show ¬ (false = true) by decide)] at H; exact H
   clear H
   have H := H1
   clear H1
   by_cases c8 : a0 < a1
   ·rw [if_pos c8] at H
    have c8b0 : decide (a0 < a1) = true := decide_eq_true c8
    clear c8
    obtain rfl := Option.some.inj H
    go_enter Try.func129, Try.ntmps129
    go_wp2_with (first | ((with_reducible refine gate_callee (f := 149) rfl ?_); refine gL_ (some 8) Try.func149 #[.int .i64 a0] ?_; (with_reducible refine (cmp_isNaN_int64.calls a0 false _ A3.out).mono ?_); rintro e w' ⟨rfl, ⟨nd, rfl⟩⟩; refine ⟨_, rfl, ?_⟩) | ((with_reducible refine gate_callee (f := 149) rfl ?_); refine gL_ (some 10) Try.func149 #[.int .i64 a1] ?_; (with_reducible refine (cmp_isNaN_int64.calls a1 false _ A4.out).mono ?_); rintro e w' ⟨rfl, ⟨nd, rfl⟩⟩; refine ⟨_, rfl, ?_⟩))
    go_ret
    exact ⟨r3_, by repeat (first | exact Drawn0.refl _ | apply Drawn0.step)⟩
   ·rw [if_neg c8] at H
    have c8b0 : decide (a0 < a1) = false := decide_eq_false c8
    clear c8
    by_cases c9 : a0 > a1
    ·rw [if_pos c9] at H
     have c9b0 : decide (a1 < a0) = true := decide_eq_true c9
     clear c9
     obtain rfl := Option.some.inj H
     go_enter Try.func129, Try.ntmps129
     go_wp2_with (first | ((with_reducible refine gate_callee (f := 149) rfl ?_); refine gL_ (some 8) Try.func149 #[.int .i64 a0] ?_; (with_reducible refine (cmp_isNaN_int64.calls a0 false _ A3.out).mono ?_); rintro e w' ⟨rfl, ⟨nd, rfl⟩⟩; refine ⟨_, rfl, ?_⟩) | ((with_reducible refine gate_callee (f := 149) rfl ?_); refine gL_ (some 10) Try.func149 #[.int .i64 a1] ?_; (with_reducible refine (cmp_isNaN_int64.calls a1 false _ A4.out).mono ?_); rintro e w' ⟨rfl, ⟨nd, rfl⟩⟩; refine ⟨_, rfl, ?_⟩))
     go_ret
     exact ⟨r3_, by repeat (first | exact Drawn0.refl _ | apply Drawn0.step)⟩
    ·rw [if_neg c9] at H
     have c9b0 : decide (a1 < a0) = false := decide_eq_false c9
     clear c9
     obtain rfl := Option.some.inj H
     go_enter Try.func129, Try.ntmps129
     go_wp2_with (first | ((with_reducible refine gate_callee (f := 149) rfl ?_); refine gL_ (some 8) Try.func149 #[.int .i64 a0] ?_; (with_reducible refine (cmp_isNaN_int64.calls a0 false _ A3.out).mono ?_); rintro e w' ⟨rfl, ⟨nd, rfl⟩⟩; refine ⟨_, rfl, ?_⟩) | ((with_reducible refine gate_callee (f := 149) rfl ?_); refine gL_ (some 10) Try.func149 #[.int .i64 a1] ?_; (with_reducible refine (cmp_isNaN_int64.calls a1 false _ A4.out).mono ?_); rintro e w' ⟨rfl, ⟨nd, rfl⟩⟩; refine ⟨_, rfl, ?_⟩))
     go_ret
     exact ⟨r3_, by repeat (first | exact Drawn0.refl _ | apply Drawn0.step)⟩

/-! ### slices_SortFunc_Cell: function 115, by hand -/
-- IMPORT Derived.Shelf.SlSortCmp.WholeK
-- IMPORT Derived.Sort.LotA
def laySortCell_ren : Go.Shelf.Ren := ⟨fun | 6 => 115 | 15 => 128 | 14 => 133 | 28 => 147 | 29 => 148 | 20 => 150 | 21 => 151 | 22 => 152 | 23 => 153 | 24 => 154 | 25 => 155 | 26 => 156 | 27 => 157 | 46 => 165 | 47 => 161 | 48 => 162 | 49 => 166 | 50 => 167 | 57 => 169 | n => n, fun | 22 => 27 | 24 => 55 | 25 => 98 | 3 => 3 | 39 => 101 | 0 => 0 | 53 => 128 | 55 => 131 | 4 => 4 | 46 => 137 | 45 => 136 | 50 => 76 | 5 => 5 | 9 => 9 | 66 => 154 | 70 => 158 | 76 => 162 | 77 => 163 | n => n, fun | n => n⟩
theorem laySortCell : Go.Proofs.SlLaysF0.n6 Try.prog laySortCell_ren := {
 mixed := by kernel_rfl
 f6 := ⟨Try.f115.name, by decide, Try.func115.trans (congrArg some (by kernel_rfl))⟩
 f14 := ⟨Try.f133.name, by decide, Try.func133.trans (congrArg some (by kernel_rfl))⟩
 f15 := Try.func128.trans (congrArg some (by kernel_rfl))
 f20 := ⟨Try.f150.name, by decide, Try.func150.trans (congrArg some (by kernel_rfl))⟩
 f21 := ⟨Try.f151.name, by decide, Try.func151.trans (congrArg some (by kernel_rfl))⟩
 f22 := ⟨Try.f152.name, by decide, Try.func152.trans (congrArg some (by kernel_rfl))⟩
 f23 := ⟨Try.f153.name, by decide, Try.func153.trans (congrArg some (by kernel_rfl))⟩
 f24 := ⟨Try.f154.name, by decide, Try.func154.trans (congrArg some (by kernel_rfl))⟩
 f25 := ⟨Try.f155.name, by decide, Try.func155.trans (congrArg some (by kernel_rfl))⟩
 f26 := ⟨Try.f156.name, by decide, Try.func156.trans (congrArg some (by kernel_rfl))⟩
 f27 := ⟨Try.f157.name, by decide, Try.func157.trans (congrArg some (by kernel_rfl))⟩
 f28 := Try.func147.trans (congrArg some (by kernel_rfl))
 f29 := Try.func148.trans (congrArg some (by kernel_rfl))
 f46 := ⟨Try.f165.name, by decide, Try.func165.trans (congrArg some (by kernel_rfl))⟩
 f47 := Try.func161.trans (congrArg some (by kernel_rfl))
 f48 := Try.func162.trans (congrArg some (by kernel_rfl))
 f49 := ⟨Try.f166.name, by decide, Try.func166.trans (congrArg some (by kernel_rfl))⟩
 f50 := ⟨Try.f167.name, by decide, Try.func167.trans (congrArg some (by kernel_rfl))⟩
 f57 := ⟨Try.f169.name, by decide, Try.func169.trans (congrArg some (by kernel_rfl))⟩
 t0 := Try.underlying0
 a0 := Try.isAgg0
 z0 := Try.sizeOf0
 v0 := Try.zeroValue0
 t3 := Try.underlying3
 a3 := Try.isAgg3
 z3 := Try.sizeOf3
 v3 := Try.zeroValue3
 t4 := Try.underlying4
 a4 := Try.isAgg4
 z4 := Try.sizeOf4
 v4 := Try.zeroValue4
 t5 := Try.underlying5
 a5 := Try.isAgg5
 z5 := Try.sizeOf5
 v5 := Try.zeroValue5
 t9 := Try.underlying9
 a9 := Try.isAgg9
 z9 := Try.sizeOf9
 v9 := Try.zeroValue9
 t22 := Try.underlying27
 a22 := Try.isAgg27
 z22 := Try.sizeOf27
 v22 := Try.zeroValue27
 t25 := Try.underlying98
 a25 := Try.isAgg98
 z25 := Try.sizeOf98
 v25 := Try.zeroValue98
 t39 := Try.underlying101
 a39 := Try.isAgg101
 z39 := Try.sizeOf101
 v39 := Try.zeroValue101
 t45 := Try.underlying136
 a45 := Try.isAgg136
 z45 := Try.sizeOf136
 v45 := Try.zeroValue136
 t46 := Try.underlying137
 a46 := Try.isAgg137
 z46 := Try.sizeOf137
 v46 := Try.zeroValue137
 t50 := Try.underlying76
 a50 := Try.isAgg76
 z50 := Try.sizeOf76
 v50 := Try.zeroValue76
 t53 := Try.underlying128
 a53 := Try.isAgg128
 z53 := Try.sizeOf128
 v53 := Try.zeroValue128
 t55 := Try.underlying131
 a55 := Try.isAgg131
 z55 := Try.sizeOf131
 v55 := Try.zeroValue131
 t66 := Try.underlying154
 a66 := Try.isAgg154
 z66 := Try.sizeOf154
 v66 := Try.zeroValue154
 t70 := Try.underlying158
 a70 := Try.isAgg158
 z70 := Try.sizeOf158
 v70 := Try.zeroValue158
 t76 := Try.underlying162
 a76 := Try.isAgg162
 z76 := Try.sizeOf162
 v76 := Try.zeroValue162
 t77 := Try.underlying163
 a77 := Try.isAgg163
 z77 := Try.sizeOf163
 v77 := Try.zeroValue163 }
def ltbC_ (a b : S55) : Bool := decide (a.f1 < b.f1 ∨ a.f1 = b.f1 ∧ a.f0 < b.f0)
def cfC_ (a b : S55) : Int := if ltbC_ a b = true then -1 else if ltbC_ b a = true then 1 else 0
def slices_SortFunc_Cell.f (l0 : List S55) : Option (List S55) := if l0.length ≤ 8796093022208 then some (l0.mergeSort fun x y => !ltbC_ y x) else none
theorem cmp_Compare_val (a b : Int) : cmp_Compare_int64.f a b = some (if a < b then -1 else if b < a then 1 else 0) := by
 unfold cmp_Compare_int64.f cmp_isNaN_int64.f
 simp only [bne_self_eq_false, Option.bind_some, Bool.false_eq_true, if_false]
 by_cases h : a < b
 ·simp [h]
 ·by_cases g : b < a <;> simp [h, g]
theorem ltOf_cfC (x y : S55) : Go.Proofs.ltOf cfC_ x y = ltbC_ x y := by
 unfold Go.Proofs.ltOf cfC_
 by_cases h : ltbC_ x y = true
 ·simp [h]
 ·by_cases g : ltbC_ y x = true <;> simp [h, g]
theorem swo_cfC : Go.Sort.SWO (Go.Proofs.ltOf cfC_) where
 irrefl x := by rw [ltOf_cfC]; unfold ltbC_; simp
 trans x y z h1 h2 := by rw [ltOf_cfC] at *; unfold ltbC_ at *; simp at *; omega
 ntrans x y z h1 h2 := by rw [ltOf_cfC] at *; unfold ltbC_ at *; simp at *; omega
set_option maxHeartbeats 1000000 in
theorem compareCells_grow (x y : S55) (W : World) : Calls Try.prog 105 #[.agg #[.int .i64 x.f0, .int .i64 x.f1], .agg #[.int .i64 y.f0, .int .i64 y.f1]] W fun e w' => e = .returned (.int .i64 (cfC_ x y)) ∧ ∃ q os', w' = Go.Sort.grow (W.drewN q) os' := by
 have h1 := fun W' => cmp_Compare_int64.calls x.f1 y.f1 _ W' (cmp_Compare_val _ _)
 have h2 := fun W' => cmp_Compare_int64.calls x.f0 y.f0 _ W' (cmp_Compare_val _ _)
 generalize hr1 : (if x.f1 < y.f1 then (-1 : Int) else if y.f1 < x.f1 then 1 else 0) = r1 at h1
 generalize hr2 : (if x.f0 < y.f0 then (-1 : Int) else if y.f0 < x.f0 then 1 else 0) = r2 at h2
 have hcf : cfC_ x y = if r1 = 0 then r2 else r1 := by
  rw [← hr1, ← hr2]; unfold cfC_ ltbC_
  simp only [decide_eq_true_eq]
  repeat' split
  all_goals omega
 clear hr1 hr2
 rw [hcf]
 clear hcf
 by_cases c : r1 = 0
 ·subst c
  rw [if_pos rfl]
  go_enter Try.func105, Try.ntmps105
  go_wp2_with fail
  refine (h1 _).mono ?_
  rintro e w' ⟨rfl, ⟨n, rfl⟩⟩
  go_wp2_with fail
  refine (h2 _).mono ?_
  rintro e w' ⟨rfl, ⟨m, rfl⟩⟩
  go_wp2_with fail
  go_ret
  exact ⟨rfl, n + m, #[.cells #[.int .i64 x.f0, .int .i64 x.f1] 55 (0, 0), .cells #[.int .i64 y.f0, .int .i64 y.f1] 55 (0, 0)], by rw [Go.Sort.alloc_eq_grow, Go.Sort.alloc_eq_grow, Go.Sort.grow_grow]; simp only [World.drewN, Go.Sort.grow, Nat.add_assoc]; rfl⟩
 ·rw [if_neg c]
  have c' : (r1 == 0) = false := beq_eq_false_iff_ne.mpr c
  go_enter Try.func105, Try.ntmps105
  go_wp2_with fail
  refine (h1 _).mono ?_
  rintro e w' ⟨rfl, ⟨n, rfl⟩⟩
  go_wp2_with fail
  go_ret
  exact ⟨rfl, n, #[.cells #[.int .i64 x.f0, .int .i64 x.f1] 55 (0, 0), .cells #[.int .i64 y.f0, .int .i64 y.f1] 55 (0, 0)], by rw [Go.Sort.alloc_eq_grow, Go.Sort.alloc_eq_grow, Go.Sort.grow_grow]; rfl⟩
theorem flatK_flatC [Inhabited S55] (d : Array S55) (j : Nat) (hj : j < d.size * 2) : (flatC_ d.toList)[j]? = some ((Go.Sort.flatK encC_ 2 d)[j]!) := by
 rw [Go.Sort.get_flatK _ _ _ _ hj]
 have hx : d.toList[j / 2]? = some (d[j / 2]!) := by
  rw [getElem!_pos d (j / 2) (by omega), Array.getElem?_toList, Array.getElem?_eq_getElem (by omega)]
 obtain ⟨g0, g1⟩ := flatC_get d.toList (j / 2) _ hx
 have h2 : j % 2 = 0 ∨ j % 2 = 1 := by omega
 rcases h2 with h2 | h2
 ·rw [h2]
  have : j = 2 * (j / 2) := by omega
  rw [← this] at g0; exact g0
 ·rw [h2]
  have : j = 2 * (j / 2) + 1 := by omega
  rw [← this] at g1; exact g1
theorem sortWorld_block [Inhabited S55] {w : World} {g : Nat} {cur : Array Value} {e : TypeId} (hblk : w.heap[g]? = some (.cells cur e (0, 0))) (n : Nat) (d : Array S55) (os : Array Obj) :
  (sortWorldK encC_ 2 w g 0 n d os).heap[g]? = some (.cells (Go.Sort.putCells id 0 (Go.Sort.flatK encC_ 2 d) cur) e (0, 0)) ∧ w.grownBy (sortWorldK encC_ 2 w g 0 n d os) (some g) := by
 have hlt : g < w.heap.size := by
  rcases Nat.lt_or_ge g w.heap.size with h | h
  ·exact h
  ·rw [Array.getElem?_eq_none h] at hblk; exact absurd hblk (by simp)
 have hb : ∀ k, k < w.heap.size → (sortWorldK encC_ 2 w g 0 n d os).heap[k]? = (w.heap.modify g (Go.Sort.onCells (Go.Sort.putCells id 0 (Go.Sort.flatK encC_ 2 d))))[k]? := by
  intro k hk
  unfold sortWorldK
  rw [Go.Sort.heap_grow_old]
  ·rfl
  ·unfold Go.Sort.putRowK; rw [Go.Sort.size_putRow]; exact hk
 refine ⟨?_, ⟨rfl, rfl, rfl, ?_, ?_⟩⟩
 ·rw [hb g hlt, Array.getElem?_modify, if_pos rfl, hblk]; rfl
 ·unfold sortWorldK Go.Sort.grow Go.Sort.putRowK; simp only [Array.size_append]; rw [Go.Sort.size_putRow]; show w.heap.size ≤ w.heap.size + _; omega
 ·intro k hk hne
  rw [hb k hk, Array.getElem?_modify, if_neg (fun h => hne (by rw [h]))]
set_option maxHeartbeats 2000000 in
set_option maxRecDepth 100000 in
/-- nothing is sorted at nil -/
theorem sortFunc_nil (w : World) : Calls Try.prog 115 #[.slice none 0 0, .func (.func 105) #[] #[]] w fun e w' => e = .returned (.tuple #[]) ∧ ∃ n, w' = w.drewN n := by
 have hl : ∀ W : World, Calls Try.prog 128 #[.int .u64 0] W fun e w' => e = .returned (.int .i64 0) ∧ w' = W := fun W => Any.bits_Len (SlLaysF0.n15.bits (P := Try.prog) (ρ := laySortCell_ren) { laySortCell with }) 0 W (by omega) (by omega)
 have hi : ∀ W : World, Calls Try.prog 150 #[.slice none 0 0, .int .i64 0, .int .i64 0, .func (.func 105) #[] #[]] W fun e w' => e = .returned (.tuple #[]) ∧ w' = W := by
  intro W
  go_enter Try.func150, Try.ntmps150
  go_wp2
  go_loopg [8] 0 (fun gk v8 w' => v8 = .int .i64 1 ∧ w' = W)
  case atStart => exact ⟨rfl, rfl⟩
  case round =>
   obtain ⟨rfl, rfl⟩ := hrel
   go_wp2
   go_end0
   exact ⟨rfl, rfl⟩
 have hp : ∀ W : World, Calls Try.prog 133 #[.slice none 0 0, .int .i64 0, .int .i64 0, .int .i64 0, .func (.func 105) #[] #[]] W fun e w' => e = .returned (.tuple #[]) ∧ w' = W := by
  intro W
  go_enter Try.func133, Try.ntmps133
  go_wp2
  go_loopg [1, 2, 3] 0 (fun gk v1 v2 v3 w' => v1 = .int .i64 0 ∧ v2 = .int .i64 0 ∧ v3 = .int .i64 0 ∧ w' = W)
  case atStart => exact ⟨rfl, rfl, rfl, rfl⟩
  case round =>
   obtain ⟨rfl, rfl, rfl, rfl⟩ := hrel
   go_wp2_with fail
   refine (hi _).mono ?_
   rintro e w' ⟨rfl, rfl⟩
   go_wp2_with fail
   refine bodyPost_ret (results_none rfl _ _ _) rfl ?_
   exact ⟨rfl, rfl⟩
 go_enter Try.func115, Try.ntmps115
 go_wp2_with fail
 refine (hl _).mono ?_
 rintro e w' ⟨rfl, rfl⟩
 go_wp2_with fail
 refine (hp _).mono ?_
 rintro e w' ⟨rfl, rfl⟩
 go_wp2_with fail
 go_end0
 exact ⟨rfl, 0, rfl⟩
set_option maxHeartbeats 2000000 in
set_option maxRecDepth 100000 in
theorem slices_SortFunc_Cell.calls (P0_ : Nat → Prop) (u9000_ : Value) (l0 : List (S55))  (r : List (S55)) (w0 w : World) (hB : Below w0.heap.size w0 w) (ho0 : Kd.R k55 55 w w0.heap.size P0_ u9000_ l0) (h : slices_SortFunc_Cell.f l0 = some r) :
  Calls Try.prog 115 #[u9000_, .func (.func 105) #[] #[]] w fun e w' => e = .returned (.tuple #[]) ∧ Kd.R k55 55 w' w0.heap.size (fun k_ => (P0_ k_ ∨ w.heap.size ≤ k_)) u9000_ r ∧ Below w0.heap.size w0 w' ∧ Kept w w' (fun k_ => P0_ k_) := by
 unfold slices_SortFunc_Cell.f at h
 by_cases hb : l0.length ≤ 8796093022208
 rotate_left
 ·rw [if_neg hb] at h; exact absurd h (by simp)
 rw [if_pos hb] at h
 obtain rfl := Option.some.inj h
 have ho1 := ho0
 obtain ⟨hok, inner, ⟨hlen, hv⟩, hreps⟩ := ho0
 have hin : inner = flatC_ l0 := flatC_of_reps (fun x cs hx => kC_M_inv hx) l0 inner hreps
 rcases hv with ⟨rfl, hn⟩ | ⟨g, cap, cur, rfl, hge, hblk, hcap, hmax, hcur, htake⟩
 ·have hl : l0 = [] := List.length_eq_zero_iff.1 hn
  subst hl
  refine (sortFunc_nil w).mono ?_
  rintro e w' ⟨rfl, n, rfl⟩
  have e : ([] : List S55).mergeSort (fun x y => !ltbC_ y x) = [] := by simp
  rw [e]
  exact ⟨rfl, Kd.R_nil _ _ _ _ _, pw_below_drewN hB n, Kept.of_below (pw_below_drewN (Below.refl _ _) n) _⟩
 ·letI : Inhabited S55 := ⟨⟨0, 0⟩⟩
  have hlt : g < w.heap.size := blk_lt hblk
  have hH : Go.Sort.HoldsK encC_ 2 w g 0 l0.toArray := by
   intro j hj
   rw [Go.Sort.size_flatK, List.size_toArray] at hj
   refine ⟨(blk_cell hblk (0 + j)).trans ?_, blk_frozen hblk _⟩
   have e := flatK_flatC l0.toArray j (by rw [List.size_toArray]; exact hj)
   rw [← hin, ← htake, List.getElem?_take, if_pos (by show j < l0.length * 2; exact hj), Array.getElem?_toList] at e
   rw [Nat.zero_add]; exact e
  have hcon := AnyQ.slices_SortFunc laySortCell 2 Try.isAgg55 Try.sizeOf55 encC_ (fun _ => rfl) (fun x v hv => by simp [encC_] at hv; rcases hv with rfl | rfl <;> rfl) cfC_ swo_cfC 105 #[] g 0 cap l0.toArray w (enters_of Try.func105 (by kernel_rfl) rfl) (fun _ _ _ _ x y => compareCells_grow x y _) hH hlt (by rw [List.size_toArray]; omega)
  change Calls Try.prog 115 _ _ _ at hcon
  rw [List.size_toArray] at hcon
  refine hcon.mono ?_
  rintro e w' ⟨rfl, d', n, os, hp, hs, rfl⟩
  have hd : d'.toList = l0.mergeSort fun x y => !ltbC_ y x := by
   have := Go.Sort.sorted_unique_holds (lt := ltOf cfC_) swo_cfC (fun x y h1 h2 => by
    rw [ltOf_cfC] at h1 h2
    unfold ltbC_ at h1 h2
    simp only [decide_eq_false_iff_not] at h1 h2
    have e0 : x.f0 = y.f0 := by omega
    have e1 : x.f1 = y.f1 := by omega
    cases x; cases y; cases e0; cases e1; rfl) l0.toArray d' (by rw [List.size_toArray]; exact hp) (by rw [List.size_toArray]; exact hs)
   rw [this]; congr 1; funext x y; rw [ltOf_cfC]
  obtain ⟨hb1, hg1⟩ := sortWorld_block hblk n d' os
  have hbel := hB.grown hg1 hB.size (fun k hk => by cases hk; exact hge)
  have hlen' : d'.size = l0.length := by have := hp.1; rw [List.size_toArray] at this; exact this
  rw [← hd]
  refine ⟨rfl, ownC_R ⟨?_, Or.inr ⟨g, cap, _, ?_, hge, hb1, ?_, hmax, ?_, ?_⟩⟩ ?_, hbel, ?_⟩
  ·rw [flatC_length]
  ·exact congrArg (fun n => Value.slice (some ⟨g, 0, none⟩) n cap) (by rw [Array.length_toList]; exact hlen'.symm)
  ·rw [Array.length_toList, hlen']; exact hcap
  ·unfold Go.Sort.putCells; rw [Array.size_mapIdx]; exact hcur
  ·apply List.ext_getElem?
   intro j
   rw [List.getElem?_take, Array.getElem?_toList]
   unfold Go.Sort.putCells
   by_cases hj : j < d'.toList.length * 2
   ·rw [if_pos hj, Array.length_toList] at *
    rw [flatK_flatC d' j hj, Array.getElem?_mapIdx, Array.getElem?_eq_getElem (by rw [hcur]; show j < cap * 2; omega)]
    simp only [Option.map_some, Go.Sort.size_flatK, Nat.zero_add, Nat.zero_le, true_and, Nat.sub_zero, id]
    rw [if_pos hj]
   ·rw [if_neg hj, List.getElem?_eq_none (by rw [flatC_length]; omega)]
  ·intro k hk; exact Or.inl (hok k hk)
  ·refine ⟨hg1.size, fun i hi hn => hg1.block i hi (fun he => hn (by cases he; exact hok g rfl))⟩

end Go.Proofs.Ytbkafaoehheioaa.X
