-- xprint.py
import Derived.Test.YtbfmocohknadkaaXx0
namespace Go.Proofs.Ytbfmocohknadkaa.X
open Go.RowKit Go.Proofs.YtbfmocohknadkaaW.PrintWords Go.Proofs.YtbfmocohknadkaaW.PrintLast Go.Proofs.YtbfmocohknadkaaW.PrintMore
attribute [local go_sem] max2_int min2_int max_two min_two max_three min_three max_four min_four   -- for this text's walks alone
set_option linter.unusedVariables false
set_option linter.unusedSimpArgs false

/-! ### impl_corner: function 111 -/
def impl_corner.l0 : Nat → List (S57) → Int → Int → Int → Int → Option (Int × Int)
 | 0, _, _, _, _, _ => none
 | k + 1, x9, x10, x11, x460000, x460001 => if x11 < x10 then (if 0 ≤ x11 then (if x11 < (x9.length : Int) then (impl_corner.l0 k x9 x10 (wrap64 (x11 + 1)) (mn x460000 ((rd_T57 x9 x11).f0)) (mn x460001 ((rd_T57 x9 x11).f1))) else (none)) else (none)) else (some (x460000, x460001))
def impl_corner.f (k : Nat) (l0 : List (S57)) : Option (Int × Int) := if 0 < (l0.length : Int) then (impl_corner.l0 k l0 (l0.length : Int) 0 ((rd_T57 l0 0).f0) ((rd_T57 l0 0).f1)) else (none)
theorem impl_corner.mono_l : ∀ k, (∀ y0 y1 y2 y3 y4, LeO (impl_corner.l0 k y0 y1 y2 y3 y4) (impl_corner.l0 (k + 1) y0 y1 y2 y3 y4))
 | 0 => fun _ _ _ _ _ r h => by simp [impl_corner.l0] at h
 | k + 1 => by
  have ih0 := impl_corner.mono_l k
  ·intro y0 y1 y2 y3 y4
   unfold impl_corner.l0
   repeat' first
   | (with_reducible exact ih0 _ _ _ _ _)
   | (with_reducible exact LeO.refl _)
   | (with_reducible exact LeO.none _)
   | (with_reducible refine LeO.ite ?_ ?_)
   | (with_reducible refine LeO.bind ?_ (fun _ => ?_))
   | exact ih0 _ _ _ _ _
   | exact LeO.none _
   | refine LeO.ite ?_ ?_
   | refine LeO.bind ?_ (fun _ => ?_)
theorem impl_corner.mono : ∀ a0 k, LeO (impl_corner.f k a0) (impl_corner.f (k + 1) a0) := by
 intro a0 k
 have ih0 := impl_corner.mono_l k
 unfold impl_corner.f
 repeat' first
   | (with_reducible exact ih0 _ _ _ _ _)
   | (with_reducible exact LeO.refl _)
   | (with_reducible exact LeO.none _)
   | (with_reducible refine LeO.ite ?_ ?_)
   | (with_reducible refine LeO.bind ?_ (fun _ => ?_))
   | exact ih0 _ _ _ _ _
   | exact LeO.none _
   | refine LeO.ite ?_ ?_
   | refine LeO.bind ?_ (fun _ => ?_)
set_option maxHeartbeats 8000000 in
set_option maxRecDepth 100000 in
theorem impl_corner.calls (k : Nat) (A0 : Option Addr) (c0 : Nat) (l0 : List (S57)) (r1 : Int) (r2 : Int) (w : World) (hr0 : Kd.C k57 w A0 l0.length l0) (hc0 : l0.length ≤ c0) (h : impl_corner.f k l0 = some (r1, r2)) :
  Calls Try.prog 111 #[.slice A0 l0.length c0] w fun e w' => e = .returned (.agg #[.int .i64 r1, .int .i64 r2]) ∧ Below w.heap.size w w' := by
 have hu57 := Try.underlying57
 have HR0 := Aside0.mk hr0
 have HC0 := Aside0.mk hc0
 clear hr0 hc0
 have HB := Aside0.mk (Below.refl w.heap.size w)
 have H : (if 0 < (l0.length : Int) then (impl_corner.l0 k l0 (l0.length : Int) 0 ((rd_T57 l0 0).f0) ((rd_T57 l0 0).f1)) else (none)) = some (r1, r2) := h
 clear h
 by_cases c2 : 0 < (l0.length : Int)
 ·rw [if_pos c2] at H
  have c2b0 : decide (0 < (l0.length : Int)) = true := decide_eq_true c2
  have c2b1 : decide (0 < l0.length) = true := decide_eq_true (by omega)
  clear c2
  have H' := Aside0.mk H
  clear H
  go_enter Try.func111, Try.ntmps111
  go_wp2_with (first | ((with_reducible refine gate_dst (N := 2) rfl ?_); refine box_event ?hg (N := 2) ?hd (cs := #[.int .i64 0, .int .i64 0]) (t := 57) ?hr ?_; (case hd => rfl); (case hg => rfl); (case hr => first | (go_simp; done) | (go_simp; rfl)); intro gb457 hg w3 hbox hb; have BK457 := Aside0.mk (hbox); have GW457 := Aside0.mk ((by rw [hg]; exact (below_size bB_) : w.heap.size ≤ gb457)); have GE457 := Aside0.mk ((by rw [hg]; exact (below_size bB_) : w.heap.size ≤ gb457)); replace HB := Aside0.mk (below_step bB_ hb); clear hb hbox hg; have p458 : 0 ≤ (0 : Int) := (by omega); have q458 : 0 < (l0.length : Int) := of_decide_eq_true aS_; obtain ⟨ad458, e458, hx458_0, hx458_1⟩ := at_T57 HR0.out 0 p458 q458; cases e458; have qi458 : (0 < l0.length) = True := eq_true (by omega); (try rw [show ((0 : Int)).toNat = 0 from rfl] at hx458_0); (try rw [show 0 * 2 = 0 from rfl] at hx458_0); (try rw [Addr.add_zero'] at hx458_0); (try rw [show ((0 : Int)).toNat = 0 from rfl] at hx458_1); (try rw [show 0 * 2 = 0 from rfl] at hx458_1); (try rw [Addr.add_zero'] at hx458_1); replace hx458_0 := (HB.out.cell (World.block_lt_of_cell? w _ hx458_0)).trans hx458_0; replace hx458_1 := (HB.out.cell (World.block_lt_of_cell? w _ hx458_1)).trans hx458_1; replace p458 := eq_true p458; replace q458 := eq_true q458) | ((with_reducible refine gate_dst (N := 3) rfl ?_); refine box_event ?hg (N := 3) ?hd (cs := #[.int .i64 0, .int .i64 0]) (t := 57) ?hr ?_; (case hd => rfl); (case hg => rfl); (case hr => first | (go_simp; done) | (go_simp; rfl)); intro gb459 hg w4 hbox hb; have BK459 := Aside0.mk (hbox); have GW459 := Aside0.mk ((by rw [hg]; exact (below_size (by repeat (first | (with_reducible first | exact HB.out | apply below_alloc | apply pw_below_drewN | apply below_drew1 | refine below_set ?_ GE457.out) | exact HB.out))) : w.heap.size ≤ gb459)); have GE459 := Aside0.mk ((by rw [hg]; exact (below_size (by repeat (first | (with_reducible first | exact HB.out | apply below_alloc | apply pw_below_drewN | apply below_drew1 | refine below_set ?_ GE457.out) | exact HB.out))) : w.heap.size ≤ gb459)); replace HB := Aside0.mk (below_step (by repeat (first | (with_reducible first | exact HB.out | apply below_alloc | apply pw_below_drewN | apply below_drew1 | refine below_set ?_ GE457.out) | exact HB.out)) hb); have NB457_459 := Aside0.mk ((by rw [hg]; exact Nat.ne_of_lt (blk_lt (g := gb457) (o := .cells #[.int .i64 0, .int .i64 0] 57 (0, 0)) (by (with_reducible repeat (first | refine blk_drewN ?_ _ | refine blk_drew ?_ | refine blk_alloc ?_ _)); exact BK457.out)) : gb457 ≠ gb459)); have NB459_457 := Aside0.mk ((by rw [hg]; exact Nat.ne_of_gt (blk_lt (g := gb457) (o := .cells #[.int .i64 0, .int .i64 0] 57 (0, 0)) (by (with_reducible repeat (first | refine blk_drewN ?_ _ | refine blk_drew ?_ | refine blk_alloc ?_ _)); exact BK457.out)) : gb459 ≠ gb457)); replace BK457 := Aside0.mk (blk_below (g := gb457) (o := .cells #[.int .i64 0, .int .i64 0] 57 (0, 0)) (by (with_reducible repeat (first | refine blk_drewN ?_ _ | refine blk_drew ?_ | refine blk_alloc ?_ _)); exact BK457.out) hb); clear hb hbox hg; have hnb5 := NB459_457.out; have hnc5 := NB457_459.out; have hcz6_0 : w4.cell? ⟨gb459, 0, none⟩ = some (.int .i64 0) := (blk_cell BK459.out 0).trans rfl; have hcz6_1 : w4.cell? ⟨gb459, 1, none⟩ = some (.int .i64 0) := (blk_cell BK459.out 1).trans rfl; have hfz6_0 := blk_frozen BK459.out 0; have hfz6_1 := blk_frozen BK459.out 1))
  go_loopg [11] k (fun kq v11 w' => ∃ (x11_1 : Int) (x460000_1 : Int) (x460001_1 : Int), v11 = .int .i64 x11_1 ∧ Aside0 (impl_corner.l0 kq l0 (l0.length : Int) x11_1 x460000_1 x460001_1 = some (r1, r2)) ∧ Aside0 (kq ≤ k) ∧ Aside0 (w'.heap[gb457]? = some (.cells #[.int .i64 0, .int .i64 0] 57 (0, 0))) ∧ Aside0 (w'.heap[gb459]? = some (.cells #[.int .i64 x460000_1, .int .i64 x460001_1] 57 (0, 0))) ∧ Aside0 (Below w.heap.size w w'))
  case atStart => exact ⟨(0), ((rd_T57 l0 0).f0), ((rd_T57 l0 0).f1), r3_, H', ⟨Nat.le_refl _⟩, ⟨by (with_reducible repeat (first | refine blk_drewN ?_ _ | refine blk_drew ?_ | refine blk_alloc ?_ _)); refine blk_far ?_ NB457_459.out _; (with_reducible repeat (first | refine blk_drewN ?_ _ | refine blk_drew ?_ | refine blk_alloc ?_ _)); refine blk_far ?_ NB457_459.out _; (with_reducible repeat (first | refine blk_drewN ?_ _ | refine blk_drew ?_ | refine blk_alloc ?_ _)); exact BK457.out⟩, ⟨by (with_reducible repeat (first | refine blk_drewN ?_ _ | refine blk_drew ?_ | refine blk_alloc ?_ _)); refine blk_put (cs := #[.int .i64 ((rd_T57 l0 0).f0), .int .i64 0]) ?_ 1 _ rfl; (with_reducible repeat (first | refine blk_drewN ?_ _ | refine blk_drew ?_ | refine blk_alloc ?_ _)); refine blk_put (cs := #[.int .i64 0, .int .i64 0]) ?_ 0 _ rfl; (with_reducible repeat (first | refine blk_drewN ?_ _ | refine blk_drew ?_ | refine blk_alloc ?_ _)); exact BK459.out⟩, ⟨by repeat (first | (with_reducible first | exact HB.out | apply below_alloc | apply pw_below_drewN | apply below_drew1 | refine below_set ?_ GE457.out | refine below_set ?_ GE459.out) | exact HB.out)⟩⟩
  case round =>
   clear H'
   try clear c1
   try clear c2
   try clear c2b0
   try clear c2b1
   try clear p2
   try clear p4
   try clear q4
   try clear hx4
   try clear qi4
   try clear c5
   try clear hcz6_0
   try clear hcz6_1
   try clear hfz6_0
   try clear hfz6_1
   try clear hx458_0
   try clear hx458_1
   try clear p458
   try clear q458
   obtain ⟨x11_1, x460000_1, x460001_1, rfl, HA, HK1, BK457, BK459, HB⟩ := hrel
   cases gk with
   | zero => exact absurd HA.out (by simp [impl_corner.l0])
   | succ k1 =>
    have H := HA.out
    clear HA
    simp only [impl_corner.l0] at H
    by_cases c7 : x11_1 < (l0.length : Int)
    ·rw [if_pos c7] at H
     have c7b0 : decide (x11_1 < (l0.length : Int)) = true := decide_eq_true c7
     clear c7
     by_cases c8 : 0 ≤ x11_1
     ·rw [if_pos c8] at H
      have c8b0 : decide (0 ≤ x11_1) = true := decide_eq_true c8
      clear c8
      by_cases c9 : x11_1 < (l0.length : Int)
      ·rw [if_pos c9] at H
       have c9b0 : decide (x11_1 < (l0.length : Int)) = true := decide_eq_true c9
       clear c9
       obtain ⟨ji10, hji10⟩ : ∃ j_ : Int, (mn x460000_1 ((rd_T57 l0 x11_1).f0)) = j_ := ⟨_, rfl⟩
       replace H : (impl_corner.l0 k1 l0 (l0.length : Int) (wrap64 (x11_1 + 1)) ji10 (mn x460001_1 ((rd_T57 l0 x11_1).f1))) = some (r1, r2) := by first | (rw [hji10] at H; exact H) | (simp only [hji10] at H ⊢; exact H)
       have hji10_ : (if ((rd_T57 l0 x11_1).f0) < x460000_1 then ((rd_T57 l0 x11_1).f0) else x460000_1) = ji10 := hji10
       obtain ⟨ji11, hji11⟩ : ∃ j_ : Int, (mn x460001_1 ((rd_T57 l0 x11_1).f1)) = j_ := ⟨_, rfl⟩
       replace H : (impl_corner.l0 k1 l0 (l0.length : Int) (wrap64 (x11_1 + 1)) ji10 ji11) = some (r1, r2) := by first | (rw [hji11] at H; exact H) | (simp only [hji11] at H ⊢; exact H)
       have hji11_ : (if ((rd_T57 l0 x11_1).f1) < x460001_1 then ((rd_T57 l0 x11_1).f1) else x460001_1) = ji11 := hji11
       have H' := Aside0.mk H
       clear H
       have p460 : 0 ≤ (x11_1 : Int) := of_decide_eq_true aS_
       have q460 : x11_1 < (l0.length : Int) := of_decide_eq_true aS_
       obtain ⟨ad460, e460, hx460_0, hx460_1⟩ := at_T57 HR0.out x11_1 p460 q460
       obtain rfl : ad458 = ad460 := (by injection e460)
       replace hx460_0 := (HB.out.cell (World.block_lt_of_cell? w _ hx460_0)).trans hx460_0
       replace hx460_1 := (HB.out.cell (World.block_lt_of_cell? w _ hx460_1)).trans hx460_1
       replace p460 := eq_true p460
       replace q460 := eq_true q460
       go_wp2_with (first | ((with_reducible refine gate_dst (N := 5) rfl ?_); refine box_event ?hg (N := 5) ?hd (cs := #[.int .i64 0, .int .i64 0]) (t := 57) ?hr ?_; (case hd => rfl); (case hg => rfl); (case hr => first | (go_simp; done) | (go_simp; rfl)); intro gb461 hg w12 hbox hb; have BK461 := Aside0.mk (hbox); have GW461 := Aside0.mk ((by rw [hg]; exact (below_size (by repeat (first | (with_reducible first | exact HB.out | apply below_alloc | apply pw_below_drewN | apply below_drew1 | refine below_set ?_ GE457.out | refine below_set ?_ GE459.out) | exact HB.out))) : w.heap.size ≤ gb461)); have GE461 := Aside0.mk ((by rw [hg]; exact (below_size (by repeat (first | (with_reducible first | exact HB.out | apply below_alloc | apply pw_below_drewN | apply below_drew1 | refine below_set ?_ GE457.out | refine below_set ?_ GE459.out) | exact HB.out))) : w.heap.size ≤ gb461)); replace HB := Aside0.mk (below_step (by repeat (first | (with_reducible first | exact HB.out | apply below_alloc | apply pw_below_drewN | apply below_drew1 | refine below_set ?_ GE457.out | refine below_set ?_ GE459.out) | exact HB.out)) hb); have NB457_461 := Aside0.mk ((by rw [hg]; exact Nat.ne_of_lt (blk_lt (g := gb457) (o := .cells #[.int .i64 0, .int .i64 0] 57 (0, 0)) (by (with_reducible repeat (first | refine blk_drewN ?_ _ | refine blk_drew ?_ | refine blk_alloc ?_ _)); exact BK457.out)) : gb457 ≠ gb461)); have NB461_457 := Aside0.mk ((by rw [hg]; exact Nat.ne_of_gt (blk_lt (g := gb457) (o := .cells #[.int .i64 0, .int .i64 0] 57 (0, 0)) (by (with_reducible repeat (first | refine blk_drewN ?_ _ | refine blk_drew ?_ | refine blk_alloc ?_ _)); exact BK457.out)) : gb461 ≠ gb457)); replace BK457 := Aside0.mk (blk_below (g := gb457) (o := .cells #[.int .i64 0, .int .i64 0] 57 (0, 0)) (by (with_reducible repeat (first | refine blk_drewN ?_ _ | refine blk_drew ?_ | refine blk_alloc ?_ _)); exact BK457.out) hb); have NB459_461 := Aside0.mk ((by rw [hg]; exact Nat.ne_of_lt (blk_lt (g := gb459) (o := .cells #[.int .i64 x460000_1, .int .i64 x460001_1] 57 (0, 0)) (by (with_reducible repeat (first | refine blk_drewN ?_ _ | refine blk_drew ?_ | refine blk_alloc ?_ _)); exact BK459.out)) : gb459 ≠ gb461)); have NB461_459 := Aside0.mk ((by rw [hg]; exact Nat.ne_of_gt (blk_lt (g := gb459) (o := .cells #[.int .i64 x460000_1, .int .i64 x460001_1] 57 (0, 0)) (by (with_reducible repeat (first | refine blk_drewN ?_ _ | refine blk_drew ?_ | refine blk_alloc ?_ _)); exact BK459.out)) : gb461 ≠ gb459)); replace BK459 := Aside0.mk (blk_below (g := gb459) (o := .cells #[.int .i64 x460000_1, .int .i64 x460001_1] 57 (0, 0)) (by (with_reducible repeat (first | refine blk_drewN ?_ _ | refine blk_drew ?_ | refine blk_alloc ?_ _)); exact BK459.out) hb); clear hb hbox hg; have hnb13 := NB461_457.out; have hnc13 := NB457_461.out; have hnb14 := NB461_459.out; have hnc14 := NB459_461.out; have hcz15_0 : w12.cell? ⟨gb461, 0, none⟩ = some (.int .i64 0) := (blk_cell BK461.out 0).trans rfl; have hcz15_1 : w12.cell? ⟨gb461, 1, none⟩ = some (.int .i64 0) := (blk_cell BK461.out 1).trans rfl; have hfz15_0 := blk_frozen BK461.out 0; have hfz15_1 := blk_frozen BK461.out 1; have hnb16 := NB459_457.out; have hnc16 := NB457_459.out; have hcz17_0 : w12.cell? ⟨gb459, 0, none⟩ = some (.int .i64 x460000_1) := (blk_cell BK459.out 0).trans rfl; have hcz17_1 : w12.cell? ⟨gb459, 1, none⟩ = some (.int .i64 x460001_1) := (blk_cell BK459.out 1).trans rfl; have hfz17_0 := blk_frozen BK459.out 0; have hfz17_1 := blk_frozen BK459.out 1))
       go_roundg k1
       case measure => have := HK1.out; omega
       case rel => exact ⟨(wrap64 (x11_1 + 1)), (ji10), (ji11), r3_, H', ⟨by have := HK1.out; omega⟩, ⟨by (with_reducible repeat (first | refine blk_drewN ?_ _ | refine blk_drew ?_ | refine blk_alloc ?_ _)); refine blk_far ?_ NB457_459.out _; (with_reducible repeat (first | refine blk_drewN ?_ _ | refine blk_drew ?_ | refine blk_alloc ?_ _)); refine blk_far ?_ NB457_459.out _; (with_reducible repeat (first | refine blk_drewN ?_ _ | refine blk_drew ?_ | refine blk_alloc ?_ _)); refine blk_far ?_ NB457_461.out _; (with_reducible repeat (first | refine blk_drewN ?_ _ | refine blk_drew ?_ | refine blk_alloc ?_ _)); refine blk_far ?_ NB457_461.out _; (with_reducible repeat (first | refine blk_drewN ?_ _ | refine blk_drew ?_ | refine blk_alloc ?_ _)); exact BK457.out⟩, ⟨by (with_reducible repeat (first | refine blk_drewN ?_ _ | refine blk_drew ?_ | refine blk_alloc ?_ _)); refine blk_put (cs := #[.int .i64 ji10, .int .i64 x460001_1]) ?_ 1 _ rfl; (with_reducible repeat (first | refine blk_drewN ?_ _ | refine blk_drew ?_ | refine blk_alloc ?_ _)); refine blk_put (cs := #[.int .i64 x460000_1, .int .i64 x460001_1]) ?_ 0 _ rfl; (with_reducible repeat (first | refine blk_drewN ?_ _ | refine blk_drew ?_ | refine blk_alloc ?_ _)); refine blk_far ?_ NB459_461.out _; (with_reducible repeat (first | refine blk_drewN ?_ _ | refine blk_drew ?_ | refine blk_alloc ?_ _)); refine blk_far ?_ NB459_461.out _; (with_reducible repeat (first | refine blk_drewN ?_ _ | refine blk_drew ?_ | refine blk_alloc ?_ _)); exact BK459.out⟩, ⟨by repeat (first | (with_reducible first | exact HB.out | apply below_alloc | apply pw_below_drewN | apply below_drew1 | refine below_set ?_ GE457.out | refine below_set ?_ GE459.out | refine below_set ?_ GE461.out) | exact HB.out)⟩⟩
      ·rw [if_neg c9] at H
       exact absurd H (by simp)
     ·rw [if_neg c8] at H
      exact absurd H (by simp)
    ·rw [if_neg c7] at H
     have c7b0 : decide (x11_1 < (l0.length : Int)) = false := decide_eq_false c7
     clear c7
     simp only [Option.some.injEq, Prod.mk.injEq] at H
     obtain ⟨rfl, rfl⟩ := H
     have hnb18 := NB459_457.out
     have hnc18 := NB457_459.out
     have hcz19_0 : wr.cell? ⟨gb459, 0, none⟩ = some (.int .i64 x460000_1) := (blk_cell BK459.out 0).trans rfl
     have hcz19_1 : wr.cell? ⟨gb459, 1, none⟩ = some (.int .i64 x460001_1) := (blk_cell BK459.out 1).trans rfl
     have hfz19_0 := blk_frozen BK459.out 0
     have hfz19_1 := blk_frozen BK459.out 1
     have hcz20_0 : wr.cell? ⟨gb457, 0, none⟩ = some (.int .i64 0) := (blk_cell BK457.out 0).trans rfl
     have hcz20_1 : wr.cell? ⟨gb457, 1, none⟩ = some (.int .i64 0) := (blk_cell BK457.out 1).trans rfl
     have hfz20_0 := blk_frozen BK457.out 0
     have hfz20_1 := blk_frozen BK457.out 1
     go_wp2
     refine bodyPost_ret (results_cell_row rfl _ _ gb457 57 #[.int .i64 x460000_1, .int .i64 x460001_1] (0, 0) _ rfl (by (with_reducible repeat (first | refine blk_drewN ?_ _ | refine blk_drew ?_ | refine blk_alloc ?_ _)); refine blk_put (cs := #[.int .i64 x460000_1, .int .i64 0]) ?_ 1 _ rfl; (with_reducible repeat (first | refine blk_drewN ?_ _ | refine blk_drew ?_ | refine blk_alloc ?_ _)); refine blk_put (cs := #[.int .i64 0, .int .i64 0]) ?_ 0 _ rfl; (with_reducible repeat (first | refine blk_drewN ?_ _ | refine blk_drew ?_ | refine blk_alloc ?_ _)); exact BK457.out) Try.underlying57 rfl (by kernel_rfl)) rfl ?_
     exact ⟨r2_, by repeat (first | (with_reducible first | exact HB.out | apply below_alloc | apply pw_below_drewN | apply below_drew1 | refine below_set ?_ GE457.out | refine below_set ?_ GE459.out) | exact HB.out)⟩
 ·rw [if_neg c2] at H
  exact absurd H (by simp)

/-! ### impl_moved: function 99 -/
def impl_moved.l0 : Nat → Int → Int → List (S57) → List (S57) → Int → Int → Option ((List (S57)))
 | 0, _, _, _, _, _, _ => none
 | k + 1, x1, x2, x7, x13, x14, x15 => if x15 < x14 then (if 0 ≤ x15 then (if x15 < (x13.length : Int) then (if x7.length < 8796093022208 then (impl_moved.l0 k x1 x2 (x7 ++ [(⟨wrap64 (((rd_T57 x13 x15).f0) + x1), wrap64 (((rd_T57 x13 x15).f1) + x2)⟩ : S57)]) x13 x14 (wrap64 (x15 + 1))) else (none)) else (none)) else (none)) else (some x7)
def impl_moved.f (k : Nat) (l0 : List (S57)) (a1 : Int) (a2 : Int) : Option ((List (S57))) := if 0 ≤ (l0.length : Int) then (if ((l0.length : Int) : Int).toNat ≤ 17592186044416 then (impl_moved.l0 k a1 a2 (([] : List (S57))) l0 (l0.length : Int) 0) else (none)) else (none)
theorem impl_moved.mono_l : ∀ k, (∀ y0 y1 y2 y3 y4 y5, LeO (impl_moved.l0 k y0 y1 y2 y3 y4 y5) (impl_moved.l0 (k + 1) y0 y1 y2 y3 y4 y5))
 | 0 => fun _ _ _ _ _ _ r h => by simp [impl_moved.l0] at h
 | k + 1 => by
  have ih0 := impl_moved.mono_l k
  ·intro y0 y1 y2 y3 y4 y5
   unfold impl_moved.l0
   repeat' first
   | (with_reducible exact ih0 _ _ _ _ _ _)
   | (with_reducible exact LeO.refl _)
   | (with_reducible exact LeO.none _)
   | (with_reducible refine LeO.ite ?_ ?_)
   | (with_reducible refine LeO.bind ?_ (fun _ => ?_))
   | exact ih0 _ _ _ _ _ _
   | exact LeO.none _
   | refine LeO.ite ?_ ?_
   | refine LeO.bind ?_ (fun _ => ?_)
theorem impl_moved.mono : ∀ a0 a1 a2 k, LeO (impl_moved.f k a0 a1 a2) (impl_moved.f (k + 1) a0 a1 a2) := by
 intro a0 a1 a2 k
 have ih0 := impl_moved.mono_l k
 unfold impl_moved.f
 repeat' first
   | (with_reducible exact ih0 _ _ _ _ _ _)
   | (with_reducible exact LeO.refl _)
   | (with_reducible exact LeO.none _)
   | (with_reducible refine LeO.ite ?_ ?_)
   | (with_reducible refine LeO.bind ?_ (fun _ => ?_))
   | exact ih0 _ _ _ _ _ _
   | exact LeO.none _
   | refine LeO.ite ?_ ?_
   | refine LeO.bind ?_ (fun _ => ?_)
set_option maxHeartbeats 8000000 in
set_option maxRecDepth 100000 in
theorem impl_moved.calls (k : Nat) (A0 : Option Addr) (c0 : Nat) (l0 : List (S57)) (a1 : Int) (a2 : Int) (r : List (S57)) (w : World) (hr0 : Kd.C k57 w A0 l0.length l0) (hc0 : l0.length ≤ c0) (h : impl_moved.f k l0 a1 a2 = some r) :
  Calls Try.prog 99 #[.slice A0 l0.length c0, .int .i64 a1, .int .i64 a2] w fun e w' => ∃ v0_ : Value, e = .returned (v0_) ∧ Kd.R k57 57 w' w.heap.size (fun _ => True) v0_ r ∧ Below w.heap.size w w' := by
 have hu57 := Try.underlying57
 have HR0 := Aside0.mk hr0
 have HC0 := Aside0.mk hc0
 clear hr0 hc0
 have HB := Aside0.mk (Below.refl w.heap.size w)
 have H : (if 0 ≤ (l0.length : Int) then (if ((l0.length : Int) : Int).toNat ≤ 17592186044416 then (impl_moved.l0 k a1 a2 (([] : List (S57))) l0 (l0.length : Int) 0) else (none)) else (none)) = some r := h
 clear h
 by_cases c4 : 0 ≤ (l0.length : Int)
 ·rw [if_pos c4] at H
  have c4b0 := eq_true c4
  have c4b1 : decide (0 ≤ (l0.length : Int)) = true := decide_eq_true c4
  clear c4
  by_cases c5 : ((l0.length : Int) : Int).toNat ≤ 17592186044416
  ·rw [if_pos c5] at H
   have c5b0 := eq_true c5
   have c5b1 : decide (((l0.length : Int) : Int).toNat ≤ 17592186044416) = true := decide_eq_true c5
   clear c5
   obtain ⟨y473, hY_⟩ : ∃ y_ : List (S57), y_ = (([] : List (S57))) := ⟨_, rfl⟩
   replace H : (impl_moved.l0 k a1 a2 y473 l0 (l0.length : Int) 0) = some r := yY_
   have Ny473 := Aside0.mk hY_
   clear hY_
   have H' := Aside0.mk H
   clear H
   go_enter Try.func99, Try.ntmps99
   go_wp2_with (first | ((with_reducible refine gate_dst (N := 12) rfl ?_); refine R_makecap k57 _ 57 rfl (N := 12) rfl 30 _ _ rfl (l0.length : Int) rfl rfl Try.underlying30 (.agg #[(.int .i64 0), (.int .i64 0)]) 16 info57 (by omega) (ok := fun _ => True) trivial (of_decide_eq_true aS_) (Nat.le_trans (Nat.mul_le_mul_right _ (of_decide_eq_true aS_ : (l0.length : Int).toNat ≤ 17592186044416)) (by omega)) (Below.refl _ _) (Nat.le_refl _) ?_; intro v474 w6 ho7 hb hg_ hnew_; clear hg_ hnew_; (first | rw [← Ny473.out] at ho7 | (simp only [Int.reduceToNat] at ho7; rw [← Ny473.out] at ho7)); have HO475 := Aside0.mk (Kd.R_lower ho7 (below_size bB_)); replace HB := Aside0.mk (below_step bB_ hb); clear hb ho7))
   go_loopg [7, 15] k (fun kq v7 v15 w' => ∃ (x7_1 : List (S57)) (x15_1 : Int), v15 = .int .i64 x15_1 ∧ Aside0 (impl_moved.l0 kq a1 a2 x7_1 l0 (l0.length : Int) x15_1 = some r) ∧ Aside0 (kq ≤ k) ∧ Aside0 (Kd.R k57 57 w' w.heap.size (fun _ => True) v7 x7_1) ∧ Aside0 (Below w.heap.size w w'))
   case atStart => exact ⟨(y473), (0), r3_, H', ⟨Nat.le_refl _⟩, ⟨rS_ HO475.out⟩, ⟨bB_⟩⟩
   case round =>
    clear H'
    try clear p2
    try clear c4
    try clear c4b0
    try clear c4b1
    try clear c5
    try clear c5b0
    try clear c5b1
    obtain ⟨x7_1, x15_1, rfl, HA, HK1, HO_7, HB⟩ := hrel
    cases gk with
    | zero => exact absurd HA.out (by simp [impl_moved.l0])
    | succ k1 =>
     have H := HA.out
     clear HA
     simp only [impl_moved.l0] at H
     by_cases c8 : x15_1 < (l0.length : Int)
     ·rw [if_pos c8] at H
      have c8b0 : decide (x15_1 < (l0.length : Int)) = true := decide_eq_true c8
      clear c8
      by_cases c9 : 0 ≤ x15_1
      ·rw [if_pos c9] at H
       have c9b0 : decide (0 ≤ x15_1) = true := decide_eq_true c9
       clear c9
       by_cases c10 : x15_1 < (l0.length : Int)
       ·rw [if_pos c10] at H
        have c10b0 : decide (x15_1 < (l0.length : Int)) = true := decide_eq_true c10
        clear c10
        by_cases c11 : x7_1.length < 8796093022208
        ·rw [if_pos c11] at H
         have LMc11 := Aside0.mk c11
         clear c11
         obtain ⟨y478, hY_⟩ : ∃ y_ : List (S57), y_ = (x7_1 ++ [(⟨wrap64 (((rd_T57 l0 x15_1).f0) + a1), wrap64 (((rd_T57 l0 x15_1).f1) + a2)⟩ : S57)]) := ⟨_, rfl⟩
         replace H : (impl_moved.l0 k1 a1 a2 y478 l0 (l0.length : Int) (wrap64 (x15_1 + 1))) = some r := yY_
         have Ny478 := Aside0.mk hY_
         clear hY_
         have H' := Aside0.mk H
         clear H
         have p476 : 0 ≤ (x15_1 : Int) := of_decide_eq_true aS_
         have q476 : x15_1 < (l0.length : Int) := of_decide_eq_true aS_
         obtain ⟨ad476, e476, hx476_0, hx476_1⟩ := at_T57 HR0.out x15_1 p476 q476
         cases e476
         replace hx476_0 := (HB.out.cell (World.block_lt_of_cell? w _ hx476_0)).trans hx476_0
         replace hx476_1 := (HB.out.cell (World.block_lt_of_cell? w _ hx476_1)).trans hx476_1
         replace p476 := eq_true p476
         replace q476 := eq_true q476
         go_wp2_with (first | ((with_reducible refine gate_dst (N := 9) rfl ?_); refine box_event ?hg (N := 9) ?hd (cs := #[.int .i64 0, .int .i64 0]) (t := 57) ?hr ?_; (case hd => rfl); (case hg => rfl); (case hr => first | (go_simp; done) | (go_simp; rfl)); intro gb477 hg w12 hbox hb; replace HO_7 := Aside0.mk (Kd.R_below (Kd.R_elderB (rS_ HO_7.out) gb477 (Nat.le_of_eq hg.symm)) hb); have BK477 := Aside0.mk (hbox); have GW477 := Aside0.mk ((by rw [hg]; exact (below_size bB_) : w.heap.size ≤ gb477)); have GE477 := Aside0.mk ((by rw [hg]; exact (below_size bB_) : w.heap.size ≤ gb477)); replace HB := Aside0.mk (below_step bB_ hb); clear hb hbox hg; have hcz13_0 : w12.cell? ⟨gb477, 0, none⟩ = some (.int .i64 0) := (blk_cell BK477.out 0).trans rfl; have hcz13_1 : w12.cell? ⟨gb477, 1, none⟩ = some (.int .i64 0) := (blk_cell BK477.out 1).trans rfl; have hfz13_0 := blk_frozen BK477.out 0; have hfz13_1 := blk_frozen BK477.out 1) | ((with_reducible refine gate_builtin (b := .append) (xs := #[.tmp 19, .tmp 29]) rfl ?_); at_builtin; refine Kd.R_append k57 (w0 := w) w.heap.size rfl (.tmp 19) (.tmp 29) 30 57 (.agg #[(.int .i64 0), (.int .i64 0)]) 16 rfl Try.underlying30 info57 rfl (by decide) (by omega) u7 x7_1 (⟨wrap64 (((rd_T57 l0 x15_1).f0) + a1), wrap64 (((rd_T57 l0 x15_1).f1) + a2)⟩ : S57) [.int .i64 (wrap64 (((rd_T57 l0 x15_1).f0) + a1)), .int .i64 (wrap64 (((rd_T57 l0 x15_1).f1) + a2))] (fun k_ => k_ ≠ gb477) (fun _ => False) rfl (by first | (go_simp; done) | (go_simp; rfl)) ?aP (fun _ hk => hk.elim) ?aF ?aO ?aB ?aS ?aL ?_; (case aP => exact k57_mkM _ _ _ (⟨wrap64 (((rd_T57 l0 x15_1).f0) + a1), wrap64 (((rd_T57 l0 x15_1).f1) + a2)⟩ : S57)); (case aB => exact (by repeat (first | (with_reducible first | exact HB.out | apply below_alloc | apply pw_below_drewN | apply below_drew1 | refine below_set ?_ GE477.out) | exact HB.out))); (case aF => exact (fun k_ hk => Kd.freshB (g := gb477) (o := .cells #[.int .i64 ((rd_T57 l0 x15_1).f0), .int .i64 ((rd_T57 l0 x15_1).f1)] 57 (0, 0)) (by (with_reducible repeat (first | refine blk_drewN ?_ _ | refine blk_drew ?_ | refine blk_alloc ?_ _)); refine blk_put (cs := #[.int .i64 ((rd_T57 l0 x15_1).f0), .int .i64 0]) ?_ 1 _ rfl; (with_reducible repeat (first | refine blk_drewN ?_ _ | refine blk_drew ?_ | refine blk_alloc ?_ _)); refine blk_put (cs := #[.int .i64 0, .int .i64 0]) ?_ 0 _ rfl; (with_reducible repeat (first | refine blk_drewN ?_ _ | refine blk_drew ?_ | refine blk_alloc ?_ _)); exact BK477.out) k_ hk)); (case aO => exact (rS_ (Kd.R_mono (Kd.R_far (p := ⟨gb477, 1, none⟩) (Kd.R_far (p := ⟨gb477, 0, none⟩) (Kd.R_mono HO_7.out (fun k_ hk => (⟨hk, hk.2⟩ : _ ∧ k_ ≠ gb477))) (fun _ hk => hk.2) (.int .i64 ((rd_T57 l0 x15_1).f0))) (fun _ hk => hk.2) (.int .i64 ((rd_T57 l0 x15_1).f1))) (fun _ hk => hk.1.2)))); (case aS => exact (below_size (by repeat (first | (with_reducible first | exact HB.out | apply below_alloc | apply pw_below_drewN | apply below_drew1 | refine below_set ?_ GE477.out) | exact HB.out)))); (case aL => have := LMc11.out; omega); intro v479 w14 ho hb hg hat; rw [← Ny478.out] at ho; replace BK477 := Aside0.mk (blk_grown (g := gb477) (o := .cells #[.int .i64 ((rd_T57 l0 x15_1).f0), .int .i64 ((rd_T57 l0 x15_1).f1)] 57 (0, 0)) (by (with_reducible repeat (first | refine blk_drewN ?_ _ | refine blk_drew ?_ | refine blk_alloc ?_ _)); refine blk_put (cs := #[.int .i64 ((rd_T57 l0 x15_1).f0), .int .i64 0]) ?_ 1 _ rfl; (with_reducible repeat (first | refine blk_drewN ?_ _ | refine blk_drew ?_ | refine blk_alloc ?_ _)); refine blk_put (cs := #[.int .i64 0, .int .i64 0]) ?_ 0 _ rfl; (with_reducible repeat (first | refine blk_drewN ?_ _ | refine blk_drew ?_ | refine blk_alloc ?_ _)); exact BK477.out) hg (Kd.R_away HO_7.out (fun _ hk => hk.2))); replace HB := Aside0.mk (hb); have HO480 := Aside0.mk (ho); clear HO_7; clear ho hb hg hat))
         go_roundg k1
         case measure => have := HK1.out; omega
         case rel => exact ⟨(y478), (wrap64 (x15_1 + 1)), r3_, H', ⟨by have := HK1.out; omega⟩, ⟨rS_ (Kd.R_mono HO480.out (fun _ hk => trivial))⟩, ⟨by repeat (first | (with_reducible first | exact HB.out | apply below_alloc | apply pw_below_drewN | apply below_drew1 | refine below_set ?_ GE477.out) | exact HB.out)⟩⟩
        ·rw [if_neg c11] at H
         exact absurd H (by simp)
       ·rw [if_neg c10] at H
        exact absurd H (by simp)
      ·rw [if_neg c9] at H
       exact absurd H (by simp)
     ·rw [if_neg c8] at H
      have c8b0 : decide (x15_1 < (l0.length : Int)) = false := decide_eq_false c8
      clear c8
      obtain rfl := Option.some.inj H
      go_wp2
      go_ret
      exact ⟨_, r2_, rS_ HO_7.out, bB_⟩
  ·rw [if_neg c5] at H
   exact absurd H (by simp)
 ·rw [if_neg c4] at H
  exact absurd H (by simp)

/-! ### impl_normal: function 79 -/
def impl_normal.f (k : Nat) (l0 : List (S57)) : Option ((List (S57))) := (impl_corner.f k l0).bind fun bt481 => ((impl_moved.f k l0 (wrap64 (-bt481.1)) (wrap64 (-bt481.2))).bind fun t484 => (some t484))
theorem impl_normal.mono : ∀ a0 k, LeO (impl_normal.f k a0) (impl_normal.f (k + 1) a0) := by
 intro a0 k
 unfold impl_normal.f
 repeat' first
   | (with_reducible exact impl_corner.mono _ _)
   | (with_reducible exact impl_moved.mono _ _ _ _)
   | (with_reducible exact LeO.refl _)
   | (with_reducible exact LeO.none _)
   | (with_reducible refine LeO.ite ?_ ?_)
   | (with_reducible refine LeO.bind ?_ (fun _ => ?_))
   | exact impl_corner.mono _ _
   | exact impl_moved.mono _ _ _ _
   | exact LeO.none _
   | refine LeO.ite ?_ ?_
   | refine LeO.bind ?_ (fun _ => ?_)
set_option maxHeartbeats 8000000 in
set_option maxRecDepth 100000 in
theorem impl_normal.calls (k : Nat) (A0 : Option Addr) (c0 : Nat) (l0 : List (S57)) (r : List (S57)) (w : World) (hr0 : Kd.C k57 w A0 l0.length l0) (hc0 : l0.length ≤ c0) (h : impl_normal.f k l0 = some r) :
  Calls Try.prog 79 #[.slice A0 l0.length c0] w fun e w' => ∃ v0_ : Value, e = .returned (v0_) ∧ Kd.R k57 57 w' w.heap.size (fun _ => True) v0_ r ∧ Below w.heap.size w w' := by
 have hu57 := Try.underlying57
 have HR0 := Aside0.mk hr0
 have HC0 := Aside0.mk hc0
 clear hr0 hc0
 have HB := Aside0.mk (Below.refl w.heap.size w)
 have H : ((impl_corner.f k l0).bind fun bt481 => ((impl_moved.f k l0 (wrap64 (-bt481.1)) (wrap64 (-bt481.2))).bind fun t484 => (some t484))) = some r := h
 clear h
 replace H := Option.bind_eq_some_iff.mp H
 obtain ⟨⟨t481, t482⟩, A20, H⟩ := H
 try dsimp only at H
 have A2 := Aside0.mk A20
 clear A20
 replace H := Option.bind_eq_some_iff.mp H
 obtain ⟨t484, A30, H⟩ := H
 try dsimp only at H
 have A3 := Aside0.mk A30
 clear A30
 obtain rfl := Option.some.inj H
 go_enter Try.func79, Try.ntmps79
 go_wp2_with (first | ((with_reducible refine gate_callee (f := 111) rfl ?_); refine gL_ (some 5) Try.func111 #[.slice A0 l0.length c0] ?_; (with_reducible refine (impl_corner.calls k _ _ l0 t481 t482 _ ?side1 ?side2 A2.out).mono ?_); (case side1 => exact cS_ HR0.out); (case side2 => exact HC0.out); rintro e w4 ⟨rfl, hb⟩; refine ⟨_, rfl, ?_⟩; replace HB := Aside0.mk (below_step bB_ hb); (try clear hb)) | ((with_reducible refine gate_dst (N := 3) rfl ?_); refine box_event ?hg (N := 3) ?hd (cs := #[.int .i64 0, .int .i64 0]) (t := 57) ?hr ?_; (case hd => rfl); (case hg => rfl); (case hr => first | (go_simp; done) | (go_simp; rfl)); intro gb483 hg w5 hbox hb; have BK483 := Aside0.mk (hbox); have GW483 := Aside0.mk ((by rw [hg]; exact (below_size bB_) : w.heap.size ≤ gb483)); have GE483 := Aside0.mk ((by rw [hg]; exact (below_size bB_) : w.heap.size ≤ gb483)); replace HB := Aside0.mk (below_step bB_ hb); clear hb hbox hg; have hcz6_0 : w5.cell? ⟨gb483, 0, none⟩ = some (.int .i64 0) := (blk_cell BK483.out 0).trans rfl; have hcz6_1 : w5.cell? ⟨gb483, 1, none⟩ = some (.int .i64 0) := (blk_cell BK483.out 1).trans rfl; have hfz6_0 := blk_frozen BK483.out 0; have hfz6_1 := blk_frozen BK483.out 1) | ((with_reducible refine gate_callee (f := 99) rfl ?_); refine gL_ (some 13) Try.func99 #[.slice A0 l0.length c0, .int .i64 (wrap64 (-t481)), .int .i64 (wrap64 (-t482))] ?_; (with_reducible refine (impl_moved.calls k _ _ l0 (wrap64 (-t481)) (wrap64 (-t482)) t484 _ ?side1 ?side2 A3.out).mono ?_); (case side1 => exact Kd.C_below HR0.out (by repeat (first | (with_reducible first | exact HB.out | apply below_alloc | apply pw_below_drewN | apply below_drew1 | refine below_set ?_ GE483.out) | exact HB.out))); (case side2 => exact HC0.out); rintro e w7 ⟨v485, rfl, ho0, hb⟩; refine ⟨_, rfl, ?_⟩; have HO486 := Aside0.mk (Kd.R_lower (Kd.R_newB ho0 (g := gb483) (o := .cells #[.int .i64 t481, .int .i64 t482] 57 (0, 0)) (by (with_reducible repeat (first | refine blk_drewN ?_ _ | refine blk_drew ?_ | refine blk_alloc ?_ _)); refine blk_put (cs := #[.int .i64 t481, .int .i64 0]) ?_ 1 _ rfl; (with_reducible repeat (first | refine blk_drewN ?_ _ | refine blk_drew ?_ | refine blk_alloc ?_ _)); refine blk_put (cs := #[.int .i64 0, .int .i64 0]) ?_ 0 _ rfl; (with_reducible repeat (first | refine blk_drewN ?_ _ | refine blk_drew ?_ | refine blk_alloc ?_ _)); exact BK483.out)) (below_size (by repeat (first | (with_reducible first | exact HB.out | apply below_alloc | apply pw_below_drewN | apply below_drew1 | refine below_set ?_ GE483.out) | exact HB.out)))); replace BK483 := Aside0.mk (blk_below (g := gb483) (o := .cells #[.int .i64 t481, .int .i64 t482] 57 (0, 0)) (by (with_reducible repeat (first | refine blk_drewN ?_ _ | refine blk_drew ?_ | refine blk_alloc ?_ _)); refine blk_put (cs := #[.int .i64 t481, .int .i64 0]) ?_ 1 _ rfl; (with_reducible repeat (first | refine blk_drewN ?_ _ | refine blk_drew ?_ | refine blk_alloc ?_ _)); refine blk_put (cs := #[.int .i64 0, .int .i64 0]) ?_ 0 _ rfl; (with_reducible repeat (first | refine blk_drewN ?_ _ | refine blk_drew ?_ | refine blk_alloc ?_ _)); exact BK483.out) hb); replace HB := Aside0.mk (below_step (by repeat (first | (with_reducible first | exact HB.out | apply below_alloc | apply pw_below_drewN | apply below_drew1 | refine below_set ?_ GE483.out) | exact HB.out)) hb); (try clear hb ho0)))
 go_ret
 exact ⟨_, r2_, rS_ (Kd.R_mono HO486.out (fun _ hk => trivial)), by repeat (first | (with_reducible first | exact HB.out | apply below_alloc | apply pw_below_drewN | apply below_drew1 | refine below_set ?_ GE483.out) | exact HB.out)⟩

end Go.Proofs.Ytbfmocohknadkaa.X
