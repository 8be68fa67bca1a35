-- xprint.py
import Derived.Lib.ConvBytes
import Derived.Shelf.Strings.OnBuilder
import Derived.Shelf.Strings.Repeat
import Derived.Test.YtbfmocohknadkaaXx0
import Derived.Test.YtbfmocohknadkaaXx2
namespace Go.Proofs.Ytbfmocohknadkaa.X
open Go.RowKit Go.Proofs.YtbfmocohknadkaaW.PrintWords Go.Proofs.YtbfmocohknadkaaW.PrintLast Go.Proofs.YtbfmocohknadkaaW.PrintMore
attribute [local go_sem] max2_int min2_int max_two min_two max_three min_three max_four min_four   -- for this text's walks alone
set_option linter.unusedVariables false
set_option linter.unusedSimpArgs false

/-! ### impl_reach: function 112 -/
def impl_reach.l0 : Nat → List (S57) → Int → Int → Int → Int → Option (Int × Int)
 | 0, _, _, _, _, _ => none
 | k + 1, x9, x10, x11, x465000, x465001 => if x11 < x10 then (if 0 ≤ x11 then (if x11 < (x9.length : Int) then (impl_reach.l0 k x9 x10 (wrap64 (x11 + 1)) (mx x465000 ((rd_T57 x9 x11).f0)) (mx x465001 ((rd_T57 x9 x11).f1))) else (none)) else (none)) else (some (x465000, x465001))
def impl_reach.f (k : Nat) (l0 : List (S57)) : Option (Int × Int) := if 0 < (l0.length : Int) then (impl_reach.l0 k l0 (l0.length : Int) 0 ((rd_T57 l0 0).f0) ((rd_T57 l0 0).f1)) else (none)
theorem impl_reach.mono_l : ∀ k, (∀ y0 y1 y2 y3 y4, LeO (impl_reach.l0 k y0 y1 y2 y3 y4) (impl_reach.l0 (k + 1) y0 y1 y2 y3 y4))
 | 0 => fun _ _ _ _ _ r h => by simp [impl_reach.l0] at h
 | k + 1 => by
  have ih0 := impl_reach.mono_l k
  ·intro y0 y1 y2 y3 y4
   unfold impl_reach.l0
   repeat' first
   | (with_reducible exact ih0 _ _ _ _ _)
   | (with_reducible exact LeO.refl _)
   | (with_reducible exact LeO.none _)
   | (with_reducible refine LeO.ite ?_ ?_)
   | (with_reducible refine LeO.bind ?_ (fun _ => ?_))
   | exact ih0 _ _ _ _ _
   | exact LeO.none _
   | refine LeO.ite ?_ ?_
   | refine LeO.bind ?_ (fun _ => ?_)
theorem impl_reach.mono : ∀ a0 k, LeO (impl_reach.f k a0) (impl_reach.f (k + 1) a0) := by
 intro a0 k
 have ih0 := impl_reach.mono_l k
 unfold impl_reach.f
 repeat' first
   | (with_reducible exact ih0 _ _ _ _ _)
   | (with_reducible exact LeO.refl _)
   | (with_reducible exact LeO.none _)
   | (with_reducible refine LeO.ite ?_ ?_)
   | (with_reducible refine LeO.bind ?_ (fun _ => ?_))
   | exact ih0 _ _ _ _ _
   | exact LeO.none _
   | refine LeO.ite ?_ ?_
   | refine LeO.bind ?_ (fun _ => ?_)
set_option maxHeartbeats 8000000 in
set_option maxRecDepth 100000 in
theorem impl_reach.calls (k : Nat) (A0 : Option Addr) (c0 : Nat) (l0 : List (S57)) (r1 : Int) (r2 : Int) (w : World) (hr0 : Kd.C k57 w A0 l0.length l0) (hc0 : l0.length ≤ c0) (h : impl_reach.f k l0 = some (r1, r2)) :
  Calls Try.prog 112 #[.slice A0 l0.length c0] w fun e w' => e = .returned (.agg #[.int .i64 r1, .int .i64 r2]) ∧ Below w.heap.size w w' := by
 have hu57 := Try.underlying57
 have HR0 := Aside0.mk hr0
 have HC0 := Aside0.mk hc0
 clear hr0 hc0
 have HB := Aside0.mk (Below.refl w.heap.size w)
 have H : (if 0 < (l0.length : Int) then (impl_reach.l0 k l0 (l0.length : Int) 0 ((rd_T57 l0 0).f0) ((rd_T57 l0 0).f1)) else (none)) = some (r1, r2) := h
 clear h
 by_cases c2 : 0 < (l0.length : Int)
 ·rw [if_pos c2] at H
  have c2b0 : decide (0 < (l0.length : Int)) = true := decide_eq_true c2
  have c2b1 : decide (0 < l0.length) = true := decide_eq_true (by omega)
  clear c2
  have H' := Aside0.mk H
  clear H
  go_enter Try.func112, Try.ntmps112
  go_wp2_with (first | ((with_reducible refine gate_dst (N := 2) rfl ?_); refine box_event ?hg (N := 2) ?hd (cs := #[.int .i64 0, .int .i64 0]) (t := 57) ?hr ?_; (case hd => rfl); (case hg => rfl); (case hr => first | (go_simp; done) | (go_simp; rfl)); intro gb462 hg w3 hbox hb; have BK462 := Aside0.mk (hbox); have GW462 := Aside0.mk ((by rw [hg]; exact (below_size bB_) : w.heap.size ≤ gb462)); have GE462 := Aside0.mk ((by rw [hg]; exact (below_size bB_) : w.heap.size ≤ gb462)); replace HB := Aside0.mk (below_step bB_ hb); clear hb hbox hg; have p463 : 0 ≤ (0 : Int) := (by omega); have q463 : 0 < (l0.length : Int) := of_decide_eq_true aS_; obtain ⟨ad463, e463, hx463_0, hx463_1⟩ := at_T57 HR0.out 0 p463 q463; cases e463; have qi463 : (0 < l0.length) = True := eq_true (by omega); (try rw [show ((0 : Int)).toNat = 0 from rfl] at hx463_0); (try rw [show 0 * 2 = 0 from rfl] at hx463_0); (try rw [Addr.add_zero'] at hx463_0); (try rw [show ((0 : Int)).toNat = 0 from rfl] at hx463_1); (try rw [show 0 * 2 = 0 from rfl] at hx463_1); (try rw [Addr.add_zero'] at hx463_1); replace hx463_0 := (HB.out.cell (World.block_lt_of_cell? w _ hx463_0)).trans hx463_0; replace hx463_1 := (HB.out.cell (World.block_lt_of_cell? w _ hx463_1)).trans hx463_1; replace p463 := eq_true p463; replace q463 := eq_true q463) | ((with_reducible refine gate_dst (N := 3) rfl ?_); refine box_event ?hg (N := 3) ?hd (cs := #[.int .i64 0, .int .i64 0]) (t := 57) ?hr ?_; (case hd => rfl); (case hg => rfl); (case hr => first | (go_simp; done) | (go_simp; rfl)); intro gb464 hg w4 hbox hb; have BK464 := Aside0.mk (hbox); have GW464 := Aside0.mk ((by rw [hg]; exact (below_size (by repeat (first | (with_reducible first | exact HB.out | apply below_alloc | apply pw_below_drewN | apply below_drew1 | refine below_set ?_ GE462.out) | exact HB.out))) : w.heap.size ≤ gb464)); have GE464 := Aside0.mk ((by rw [hg]; exact (below_size (by repeat (first | (with_reducible first | exact HB.out | apply below_alloc | apply pw_below_drewN | apply below_drew1 | refine below_set ?_ GE462.out) | exact HB.out))) : w.heap.size ≤ gb464)); replace HB := Aside0.mk (below_step (by repeat (first | (with_reducible first | exact HB.out | apply below_alloc | apply pw_below_drewN | apply below_drew1 | refine below_set ?_ GE462.out) | exact HB.out)) hb); have NB462_464 := Aside0.mk ((by rw [hg]; exact Nat.ne_of_lt (blk_lt (g := gb462) (o := .cells #[.int .i64 0, .int .i64 0] 57 (0, 0)) (by (with_reducible repeat (first | refine blk_drewN ?_ _ | refine blk_drew ?_ | refine blk_alloc ?_ _)); exact BK462.out)) : gb462 ≠ gb464)); have NB464_462 := Aside0.mk ((by rw [hg]; exact Nat.ne_of_gt (blk_lt (g := gb462) (o := .cells #[.int .i64 0, .int .i64 0] 57 (0, 0)) (by (with_reducible repeat (first | refine blk_drewN ?_ _ | refine blk_drew ?_ | refine blk_alloc ?_ _)); exact BK462.out)) : gb464 ≠ gb462)); replace BK462 := Aside0.mk (blk_below (g := gb462) (o := .cells #[.int .i64 0, .int .i64 0] 57 (0, 0)) (by (with_reducible repeat (first | refine blk_drewN ?_ _ | refine blk_drew ?_ | refine blk_alloc ?_ _)); exact BK462.out) hb); clear hb hbox hg; have hnb5 := NB464_462.out; have hnc5 := NB462_464.out; have hcz6_0 : w4.cell? ⟨gb464, 0, none⟩ = some (.int .i64 0) := (blk_cell BK464.out 0).trans rfl; have hcz6_1 : w4.cell? ⟨gb464, 1, none⟩ = some (.int .i64 0) := (blk_cell BK464.out 1).trans rfl; have hfz6_0 := blk_frozen BK464.out 0; have hfz6_1 := blk_frozen BK464.out 1))
  go_loopg [11] k (fun kq v11 w' => ∃ (x11_1 : Int) (x465000_1 : Int) (x465001_1 : Int), v11 = .int .i64 x11_1 ∧ Aside0 (impl_reach.l0 kq l0 (l0.length : Int) x11_1 x465000_1 x465001_1 = some (r1, r2)) ∧ Aside0 (kq ≤ k) ∧ Aside0 (w'.heap[gb462]? = some (.cells #[.int .i64 0, .int .i64 0] 57 (0, 0))) ∧ Aside0 (w'.heap[gb464]? = some (.cells #[.int .i64 x465000_1, .int .i64 x465001_1] 57 (0, 0))) ∧ Aside0 (Below w.heap.size w w'))
  case atStart => exact ⟨(0), ((rd_T57 l0 0).f0), ((rd_T57 l0 0).f1), r3_, H', ⟨Nat.le_refl _⟩, ⟨by (with_reducible repeat (first | refine blk_drewN ?_ _ | refine blk_drew ?_ | refine blk_alloc ?_ _)); refine blk_far ?_ NB462_464.out _; (with_reducible repeat (first | refine blk_drewN ?_ _ | refine blk_drew ?_ | refine blk_alloc ?_ _)); refine blk_far ?_ NB462_464.out _; (with_reducible repeat (first | refine blk_drewN ?_ _ | refine blk_drew ?_ | refine blk_alloc ?_ _)); exact BK462.out⟩, ⟨by (with_reducible repeat (first | refine blk_drewN ?_ _ | refine blk_drew ?_ | refine blk_alloc ?_ _)); refine blk_put (cs := #[.int .i64 ((rd_T57 l0 0).f0), .int .i64 0]) ?_ 1 _ rfl; (with_reducible repeat (first | refine blk_drewN ?_ _ | refine blk_drew ?_ | refine blk_alloc ?_ _)); refine blk_put (cs := #[.int .i64 0, .int .i64 0]) ?_ 0 _ rfl; (with_reducible repeat (first | refine blk_drewN ?_ _ | refine blk_drew ?_ | refine blk_alloc ?_ _)); exact BK464.out⟩, ⟨by repeat (first | (with_reducible first | exact HB.out | apply below_alloc | apply pw_below_drewN | apply below_drew1 | refine below_set ?_ GE462.out | refine below_set ?_ GE464.out) | exact HB.out)⟩⟩
  case round =>
   clear H'
   try clear c1
   try clear c2
   try clear c2b0
   try clear c2b1
   try clear p2
   try clear p4
   try clear q4
   try clear hx4
   try clear qi4
   try clear c5
   try clear hcz6_0
   try clear hcz6_1
   try clear hfz6_0
   try clear hfz6_1
   try clear hx463_0
   try clear hx463_1
   try clear p463
   try clear q463
   obtain ⟨x11_1, x465000_1, x465001_1, rfl, HA, HK1, BK462, BK464, HB⟩ := hrel
   cases gk with
   | zero => exact absurd HA.out (by simp [impl_reach.l0])
   | succ k1 =>
    have H := HA.out
    clear HA
    simp only [impl_reach.l0] at H
    by_cases c7 : x11_1 < (l0.length : Int)
    ·rw [if_pos c7] at H
     have c7b0 : decide (x11_1 < (l0.length : Int)) = true := decide_eq_true c7
     clear c7
     by_cases c8 : 0 ≤ x11_1
     ·rw [if_pos c8] at H
      have c8b0 : decide (0 ≤ x11_1) = true := decide_eq_true c8
      clear c8
      by_cases c9 : x11_1 < (l0.length : Int)
      ·rw [if_pos c9] at H
       have c9b0 : decide (x11_1 < (l0.length : Int)) = true := decide_eq_true c9
       clear c9
       obtain ⟨ji10, hji10⟩ : ∃ j_ : Int, (mx x465000_1 ((rd_T57 l0 x11_1).f0)) = j_ := ⟨_, rfl⟩
       replace H : (impl_reach.l0 k1 l0 (l0.length : Int) (wrap64 (x11_1 + 1)) ji10 (mx x465001_1 ((rd_T57 l0 x11_1).f1))) = some (r1, r2) := by first | (rw [hji10] at H; exact H) | (simp only [hji10] at H ⊢; exact H)
       have hji10_ : (if x465000_1 < ((rd_T57 l0 x11_1).f0) then ((rd_T57 l0 x11_1).f0) else x465000_1) = ji10 := hji10
       obtain ⟨ji11, hji11⟩ : ∃ j_ : Int, (mx x465001_1 ((rd_T57 l0 x11_1).f1)) = j_ := ⟨_, rfl⟩
       replace H : (impl_reach.l0 k1 l0 (l0.length : Int) (wrap64 (x11_1 + 1)) ji10 ji11) = some (r1, r2) := by first | (rw [hji11] at H; exact H) | (simp only [hji11] at H ⊢; exact H)
       have hji11_ : (if x465001_1 < ((rd_T57 l0 x11_1).f1) then ((rd_T57 l0 x11_1).f1) else x465001_1) = ji11 := hji11
       have H' := Aside0.mk H
       clear H
       have p465 : 0 ≤ (x11_1 : Int) := of_decide_eq_true aS_
       have q465 : x11_1 < (l0.length : Int) := of_decide_eq_true aS_
       obtain ⟨ad465, e465, hx465_0, hx465_1⟩ := at_T57 HR0.out x11_1 p465 q465
       obtain rfl : ad463 = ad465 := (by injection e465)
       replace hx465_0 := (HB.out.cell (World.block_lt_of_cell? w _ hx465_0)).trans hx465_0
       replace hx465_1 := (HB.out.cell (World.block_lt_of_cell? w _ hx465_1)).trans hx465_1
       replace p465 := eq_true p465
       replace q465 := eq_true q465
       go_wp2_with (first | ((with_reducible refine gate_dst (N := 5) rfl ?_); refine box_event ?hg (N := 5) ?hd (cs := #[.int .i64 0, .int .i64 0]) (t := 57) ?hr ?_; (case hd => rfl); (case hg => rfl); (case hr => first | (go_simp; done) | (go_simp; rfl)); intro gb466 hg w12 hbox hb; have BK466 := Aside0.mk (hbox); have GW466 := Aside0.mk ((by rw [hg]; exact (below_size (by repeat (first | (with_reducible first | exact HB.out | apply below_alloc | apply pw_below_drewN | apply below_drew1 | refine below_set ?_ GE462.out | refine below_set ?_ GE464.out) | exact HB.out))) : w.heap.size ≤ gb466)); have GE466 := Aside0.mk ((by rw [hg]; exact (below_size (by repeat (first | (with_reducible first | exact HB.out | apply below_alloc | apply pw_below_drewN | apply below_drew1 | refine below_set ?_ GE462.out | refine below_set ?_ GE464.out) | exact HB.out))) : w.heap.size ≤ gb466)); replace HB := Aside0.mk (below_step (by repeat (first | (with_reducible first | exact HB.out | apply below_alloc | apply pw_below_drewN | apply below_drew1 | refine below_set ?_ GE462.out | refine below_set ?_ GE464.out) | exact HB.out)) hb); have NB462_466 := Aside0.mk ((by rw [hg]; exact Nat.ne_of_lt (blk_lt (g := gb462) (o := .cells #[.int .i64 0, .int .i64 0] 57 (0, 0)) (by (with_reducible repeat (first | refine blk_drewN ?_ _ | refine blk_drew ?_ | refine blk_alloc ?_ _)); exact BK462.out)) : gb462 ≠ gb466)); have NB466_462 := Aside0.mk ((by rw [hg]; exact Nat.ne_of_gt (blk_lt (g := gb462) (o := .cells #[.int .i64 0, .int .i64 0] 57 (0, 0)) (by (with_reducible repeat (first | refine blk_drewN ?_ _ | refine blk_drew ?_ | refine blk_alloc ?_ _)); exact BK462.out)) : gb466 ≠ gb462)); replace BK462 := Aside0.mk (blk_below (g := gb462) (o := .cells #[.int .i64 0, .int .i64 0] 57 (0, 0)) (by (with_reducible repeat (first | refine blk_drewN ?_ _ | refine blk_drew ?_ | refine blk_alloc ?_ _)); exact BK462.out) hb); have NB464_466 := Aside0.mk ((by rw [hg]; exact Nat.ne_of_lt (blk_lt (g := gb464) (o := .cells #[.int .i64 x465000_1, .int .i64 x465001_1] 57 (0, 0)) (by (with_reducible repeat (first | refine blk_drewN ?_ _ | refine blk_drew ?_ | refine blk_alloc ?_ _)); exact BK464.out)) : gb464 ≠ gb466)); have NB466_464 := Aside0.mk ((by rw [hg]; exact Nat.ne_of_gt (blk_lt (g := gb464) (o := .cells #[.int .i64 x465000_1, .int .i64 x465001_1] 57 (0, 0)) (by (with_reducible repeat (first | refine blk_drewN ?_ _ | refine blk_drew ?_ | refine blk_alloc ?_ _)); exact BK464.out)) : gb466 ≠ gb464)); replace BK464 := Aside0.mk (blk_below (g := gb464) (o := .cells #[.int .i64 x465000_1, .int .i64 x465001_1] 57 (0, 0)) (by (with_reducible repeat (first | refine blk_drewN ?_ _ | refine blk_drew ?_ | refine blk_alloc ?_ _)); exact BK464.out) hb); clear hb hbox hg; have hnb13 := NB466_462.out; have hnc13 := NB462_466.out; have hnb14 := NB466_464.out; have hnc14 := NB464_466.out; have hcz15_0 : w12.cell? ⟨gb466, 0, none⟩ = some (.int .i64 0) := (blk_cell BK466.out 0).trans rfl; have hcz15_1 : w12.cell? ⟨gb466, 1, none⟩ = some (.int .i64 0) := (blk_cell BK466.out 1).trans rfl; have hfz15_0 := blk_frozen BK466.out 0; have hfz15_1 := blk_frozen BK466.out 1; have hnb16 := NB464_462.out; have hnc16 := NB462_464.out; have hcz17_0 : w12.cell? ⟨gb464, 0, none⟩ = some (.int .i64 x465000_1) := (blk_cell BK464.out 0).trans rfl; have hcz17_1 : w12.cell? ⟨gb464, 1, none⟩ = some (.int .i64 x465001_1) := (blk_cell BK464.out 1).trans rfl; have hfz17_0 := blk_frozen BK464.out 0; have hfz17_1 := blk_frozen BK464.out 1))
       go_roundg k1
       case measure => have := HK1.out; omega
       case rel => exact ⟨(wrap64 (x11_1 + 1)), (ji10), (ji11), r3_, H', ⟨by have := HK1.out; omega⟩, ⟨by (with_reducible repeat (first | refine blk_drewN ?_ _ | refine blk_drew ?_ | refine blk_alloc ?_ _)); refine blk_far ?_ NB462_464.out _; (with_reducible repeat (first | refine blk_drewN ?_ _ | refine blk_drew ?_ | refine blk_alloc ?_ _)); refine blk_far ?_ NB462_464.out _; (with_reducible repeat (first | refine blk_drewN ?_ _ | refine blk_drew ?_ | refine blk_alloc ?_ _)); refine blk_far ?_ NB462_466.out _; (with_reducible repeat (first | refine blk_drewN ?_ _ | refine blk_drew ?_ | refine blk_alloc ?_ _)); refine blk_far ?_ NB462_466.out _; (with_reducible repeat (first | refine blk_drewN ?_ _ | refine blk_drew ?_ | refine blk_alloc ?_ _)); exact BK462.out⟩, ⟨by (with_reducible repeat (first | refine blk_drewN ?_ _ | refine blk_drew ?_ | refine blk_alloc ?_ _)); refine blk_put (cs := #[.int .i64 ji10, .int .i64 x465001_1]) ?_ 1 _ rfl; (with_reducible repeat (first | refine blk_drewN ?_ _ | refine blk_drew ?_ | refine blk_alloc ?_ _)); refine blk_put (cs := #[.int .i64 x465000_1, .int .i64 x465001_1]) ?_ 0 _ rfl; (with_reducible repeat (first | refine blk_drewN ?_ _ | refine blk_drew ?_ | refine blk_alloc ?_ _)); refine blk_far ?_ NB464_466.out _; (with_reducible repeat (first | refine blk_drewN ?_ _ | refine blk_drew ?_ | refine blk_alloc ?_ _)); refine blk_far ?_ NB464_466.out _; (with_reducible repeat (first | refine blk_drewN ?_ _ | refine blk_drew ?_ | refine blk_alloc ?_ _)); exact BK464.out⟩, ⟨by repeat (first | (with_reducible first | exact HB.out | apply below_alloc | apply pw_below_drewN | apply below_drew1 | refine below_set ?_ GE462.out | refine below_set ?_ GE464.out | refine below_set ?_ GE466.out) | exact HB.out)⟩⟩
      ·rw [if_neg c9] at H
       exact absurd H (by simp)
     ·rw [if_neg c8] at H
      exact absurd H (by simp)
    ·rw [if_neg c7] at H
     have c7b0 : decide (x11_1 < (l0.length : Int)) = false := decide_eq_false c7
     clear c7
     simp only [Option.some.injEq, Prod.mk.injEq] at H
     obtain ⟨rfl, rfl⟩ := H
     have hnb18 := NB464_462.out
     have hnc18 := NB462_464.out
     have hcz19_0 : wr.cell? ⟨gb464, 0, none⟩ = some (.int .i64 x465000_1) := (blk_cell BK464.out 0).trans rfl
     have hcz19_1 : wr.cell? ⟨gb464, 1, none⟩ = some (.int .i64 x465001_1) := (blk_cell BK464.out 1).trans rfl
     have hfz19_0 := blk_frozen BK464.out 0
     have hfz19_1 := blk_frozen BK464.out 1
     have hcz20_0 : wr.cell? ⟨gb462, 0, none⟩ = some (.int .i64 0) := (blk_cell BK462.out 0).trans rfl
     have hcz20_1 : wr.cell? ⟨gb462, 1, none⟩ = some (.int .i64 0) := (blk_cell BK462.out 1).trans rfl
     have hfz20_0 := blk_frozen BK462.out 0
     have hfz20_1 := blk_frozen BK462.out 1
     go_wp2
     refine bodyPost_ret (results_cell_row rfl _ _ gb462 57 #[.int .i64 x465000_1, .int .i64 x465001_1] (0, 0) _ rfl (by (with_reducible repeat (first | refine blk_drewN ?_ _ | refine blk_drew ?_ | refine blk_alloc ?_ _)); refine blk_put (cs := #[.int .i64 x465000_1, .int .i64 0]) ?_ 1 _ rfl; (with_reducible repeat (first | refine blk_drewN ?_ _ | refine blk_drew ?_ | refine blk_alloc ?_ _)); refine blk_put (cs := #[.int .i64 0, .int .i64 0]) ?_ 0 _ rfl; (with_reducible repeat (first | refine blk_drewN ?_ _ | refine blk_drew ?_ | refine blk_alloc ?_ _)); exact BK462.out) Try.underlying57 rfl (by kernel_rfl)) rfl ?_
     exact ⟨r2_, by repeat (first | (with_reducible first | exact HB.out | apply below_alloc | apply pw_below_drewN | apply below_drew1 | refine below_set ?_ GE462.out | refine below_set ?_ GE464.out) | exact HB.out)⟩
 ·rw [if_neg c2] at H
  exact absurd H (by simp)

/-! ### impl_corner: function 111 -/
def impl_corner.l0 : Nat → List (S57) → Int → Int → Int → Int → Option (Int × Int)
 | 0, _, _, _, _, _ => none
 | k + 1, x9, x10, x11, x460000, x460001 => if x11 < x10 then (if 0 ≤ x11 then (if x11 < (x9.length : Int) then (impl_corner.l0 k x9 x10 (wrap64 (x11 + 1)) (mn x460000 ((rd_T57 x9 x11).f0)) (mn x460001 ((rd_T57 x9 x11).f1))) else (none)) else (none)) else (some (x460000, x460001))
def impl_corner.f (k : Nat) (l0 : List (S57)) : Option (Int × Int) := if 0 < (l0.length : Int) then (impl_corner.l0 k l0 (l0.length : Int) 0 ((rd_T57 l0 0).f0) ((rd_T57 l0 0).f1)) else (none)
theorem impl_corner.mono_l : ∀ k, (∀ y0 y1 y2 y3 y4, LeO (impl_corner.l0 k y0 y1 y2 y3 y4) (impl_corner.l0 (k + 1) y0 y1 y2 y3 y4))
 | 0 => fun _ _ _ _ _ r h => by simp [impl_corner.l0] at h
 | k + 1 => by
  have ih0 := impl_corner.mono_l k
  ·intro y0 y1 y2 y3 y4
   unfold impl_corner.l0
   repeat' first
   | (with_reducible exact ih0 _ _ _ _ _)
   | (with_reducible exact LeO.refl _)
   | (with_reducible exact LeO.none _)
   | (with_reducible refine LeO.ite ?_ ?_)
   | (with_reducible refine LeO.bind ?_ (fun _ => ?_))
   | exact ih0 _ _ _ _ _
   | exact LeO.none _
   | refine LeO.ite ?_ ?_
   | refine LeO.bind ?_ (fun _ => ?_)
theorem impl_corner.mono : ∀ a0 k, LeO (impl_corner.f k a0) (impl_corner.f (k + 1) a0) := by
 intro a0 k
 have ih0 := impl_corner.mono_l k
 unfold impl_corner.f
 repeat' first
   | (with_reducible exact ih0 _ _ _ _ _)
   | (with_reducible exact LeO.refl _)
   | (with_reducible exact LeO.none _)
   | (with_reducible refine LeO.ite ?_ ?_)
   | (with_reducible refine LeO.bind ?_ (fun _ => ?_))
   | exact ih0 _ _ _ _ _
   | exact LeO.none _
   | refine LeO.ite ?_ ?_
   | refine LeO.bind ?_ (fun _ => ?_)
set_option maxHeartbeats 8000000 in
set_option maxRecDepth 100000 in
theorem impl_corner.calls (k : Nat) (A0 : Option Addr) (c0 : Nat) (l0 : List (S57)) (r1 : Int) (r2 : Int) (w : World) (hr0 : Kd.C k57 w A0 l0.length l0) (hc0 : l0.length ≤ c0) (h : impl_corner.f k l0 = some (r1, r2)) :
  Calls Try.prog 111 #[.slice A0 l0.length c0] w fun e w' => e = .returned (.agg #[.int .i64 r1, .int .i64 r2]) ∧ Below w.heap.size w w' := by
 have hu57 := Try.underlying57
 have HR0 := Aside0.mk hr0
 have HC0 := Aside0.mk hc0
 clear hr0 hc0
 have HB := Aside0.mk (Below.refl w.heap.size w)
 have H : (if 0 < (l0.length : Int) then (impl_corner.l0 k l0 (l0.length : Int) 0 ((rd_T57 l0 0).f0) ((rd_T57 l0 0).f1)) else (none)) = some (r1, r2) := h
 clear h
 by_cases c2 : 0 < (l0.length : Int)
 ·rw [if_pos c2] at H
  have c2b0 : decide (0 < (l0.length : Int)) = true := decide_eq_true c2
  have c2b1 : decide (0 < l0.length) = true := decide_eq_true (by omega)
  clear c2
  have H' := Aside0.mk H
  clear H
  go_enter Try.func111, Try.ntmps111
  go_wp2_with (first | ((with_reducible refine gate_dst (N := 2) rfl ?_); refine box_event ?hg (N := 2) ?hd (cs := #[.int .i64 0, .int .i64 0]) (t := 57) ?hr ?_; (case hd => rfl); (case hg => rfl); (case hr => first | (go_simp; done) | (go_simp; rfl)); intro gb457 hg w3 hbox hb; have BK457 := Aside0.mk (hbox); have GW457 := Aside0.mk ((by rw [hg]; exact (below_size bB_) : w.heap.size ≤ gb457)); have GE457 := Aside0.mk ((by rw [hg]; exact (below_size bB_) : w.heap.size ≤ gb457)); replace HB := Aside0.mk (below_step bB_ hb); clear hb hbox hg; have p458 : 0 ≤ (0 : Int) := (by omega); have q458 : 0 < (l0.length : Int) := of_decide_eq_true aS_; obtain ⟨ad458, e458, hx458_0, hx458_1⟩ := at_T57 HR0.out 0 p458 q458; cases e458; have qi458 : (0 < l0.length) = True := eq_true (by omega); (try rw [show ((0 : Int)).toNat = 0 from rfl] at hx458_0); (try rw [show 0 * 2 = 0 from rfl] at hx458_0); (try rw [Addr.add_zero'] at hx458_0); (try rw [show ((0 : Int)).toNat = 0 from rfl] at hx458_1); (try rw [show 0 * 2 = 0 from rfl] at hx458_1); (try rw [Addr.add_zero'] at hx458_1); replace hx458_0 := (HB.out.cell (World.block_lt_of_cell? w _ hx458_0)).trans hx458_0; replace hx458_1 := (HB.out.cell (World.block_lt_of_cell? w _ hx458_1)).trans hx458_1; replace p458 := eq_true p458; replace q458 := eq_true q458) | ((with_reducible refine gate_dst (N := 3) rfl ?_); refine box_event ?hg (N := 3) ?hd (cs := #[.int .i64 0, .int .i64 0]) (t := 57) ?hr ?_; (case hd => rfl); (case hg => rfl); (case hr => first | (go_simp; done) | (go_simp; rfl)); intro gb459 hg w4 hbox hb; have BK459 := Aside0.mk (hbox); have GW459 := Aside0.mk ((by rw [hg]; exact (below_size (by repeat (first | (with_reducible first | exact HB.out | apply below_alloc | apply pw_below_drewN | apply below_drew1 | refine below_set ?_ GE457.out) | exact HB.out))) : w.heap.size ≤ gb459)); have GE459 := Aside0.mk ((by rw [hg]; exact (below_size (by repeat (first | (with_reducible first | exact HB.out | apply below_alloc | apply pw_below_drewN | apply below_drew1 | refine below_set ?_ GE457.out) | exact HB.out))) : w.heap.size ≤ gb459)); replace HB := Aside0.mk (below_step (by repeat (first | (with_reducible first | exact HB.out | apply below_alloc | apply pw_below_drewN | apply below_drew1 | refine below_set ?_ GE457.out) | exact HB.out)) hb); have NB457_459 := Aside0.mk ((by rw [hg]; exact Nat.ne_of_lt (blk_lt (g := gb457) (o := .cells #[.int .i64 0, .int .i64 0] 57 (0, 0)) (by (with_reducible repeat (first | refine blk_drewN ?_ _ | refine blk_drew ?_ | refine blk_alloc ?_ _)); exact BK457.out)) : gb457 ≠ gb459)); have NB459_457 := Aside0.mk ((by rw [hg]; exact Nat.ne_of_gt (blk_lt (g := gb457) (o := .cells #[.int .i64 0, .int .i64 0] 57 (0, 0)) (by (with_reducible repeat (first | refine blk_drewN ?_ _ | refine blk_drew ?_ | refine blk_alloc ?_ _)); exact BK457.out)) : gb459 ≠ gb457)); replace BK457 := Aside0.mk (blk_below (g := gb457) (o := .cells #[.int .i64 0, .int .i64 0] 57 (0, 0)) (by (with_reducible repeat (first | refine blk_drewN ?_ _ | refine blk_drew ?_ | refine blk_alloc ?_ _)); exact BK457.out) hb); clear hb hbox hg; have hnb5 := NB459_457.out; have hnc5 := NB457_459.out; have hcz6_0 : w4.cell? ⟨gb459, 0, none⟩ = some (.int .i64 0) := (blk_cell BK459.out 0).trans rfl; have hcz6_1 : w4.cell? ⟨gb459, 1, none⟩ = some (.int .i64 0) := (blk_cell BK459.out 1).trans rfl; have hfz6_0 := blk_frozen BK459.out 0; have hfz6_1 := blk_frozen BK459.out 1))
  go_loopg [11] k (fun kq v11 w' => ∃ (x11_1 : Int) (x460000_1 : Int) (x460001_1 : Int), v11 = .int .i64 x11_1 ∧ Aside0 (impl_corner.l0 kq l0 (l0.length : Int) x11_1 x460000_1 x460001_1 = some (r1, r2)) ∧ Aside0 (kq ≤ k) ∧ Aside0 (w'.heap[gb457]? = some (.cells #[.int .i64 0, .int .i64 0] 57 (0, 0))) ∧ Aside0 (w'.heap[gb459]? = some (.cells #[.int .i64 x460000_1, .int .i64 x460001_1] 57 (0, 0))) ∧ Aside0 (Below w.heap.size w w'))
  case atStart => exact ⟨(0), ((rd_T57 l0 0).f0), ((rd_T57 l0 0).f1), r3_, H', ⟨Nat.le_refl _⟩, ⟨by (with_reducible repeat (first | refine blk_drewN ?_ _ | refine blk_drew ?_ | refine blk_alloc ?_ _)); refine blk_far ?_ NB457_459.out _; (with_reducible repeat (first | refine blk_drewN ?_ _ | refine blk_drew ?_ | refine blk_alloc ?_ _)); refine blk_far ?_ NB457_459.out _; (with_reducible repeat (first | refine blk_drewN ?_ _ | refine blk_drew ?_ | refine blk_alloc ?_ _)); exact BK457.out⟩, ⟨by (with_reducible repeat (first | refine blk_drewN ?_ _ | refine blk_drew ?_ | refine blk_alloc ?_ _)); refine blk_put (cs := #[.int .i64 ((rd_T57 l0 0).f0), .int .i64 0]) ?_ 1 _ rfl; (with_reducible repeat (first | refine blk_drewN ?_ _ | refine blk_drew ?_ | refine blk_alloc ?_ _)); refine blk_put (cs := #[.int .i64 0, .int .i64 0]) ?_ 0 _ rfl; (with_reducible repeat (first | refine blk_drewN ?_ _ | refine blk_drew ?_ | refine blk_alloc ?_ _)); exact BK459.out⟩, ⟨by repeat (first | (with_reducible first | exact HB.out | apply below_alloc | apply pw_below_drewN | apply below_drew1 | refine below_set ?_ GE457.out | refine below_set ?_ GE459.out) | exact HB.out)⟩⟩
  case round =>
   clear H'
   try clear c1
   try clear c2
   try clear c2b0
   try clear c2b1
   try clear p2
   try clear p4
   try clear q4
   try clear hx4
   try clear qi4
   try clear c5
   try clear hcz6_0
   try clear hcz6_1
   try clear hfz6_0
   try clear hfz6_1
   try clear hx458_0
   try clear hx458_1
   try clear p458
   try clear q458
   obtain ⟨x11_1, x460000_1, x460001_1, rfl, HA, HK1, BK457, BK459, HB⟩ := hrel
   cases gk with
   | zero => exact absurd HA.out (by simp [impl_corner.l0])
   | succ k1 =>
    have H := HA.out
    clear HA
    simp only [impl_corner.l0] at H
    by_cases c7 : x11_1 < (l0.length : Int)
    ·rw [if_pos c7] at H
     have c7b0 : decide (x11_1 < (l0.length : Int)) = true := decide_eq_true c7
     clear c7
     by_cases c8 : 0 ≤ x11_1
     ·rw [if_pos c8] at H
      have c8b0 : decide (0 ≤ x11_1) = true := decide_eq_true c8
      clear c8
      by_cases c9 : x11_1 < (l0.length : Int)
      ·rw [if_pos c9] at H
       have c9b0 : decide (x11_1 < (l0.length : Int)) = true := decide_eq_true c9
       clear c9
       obtain ⟨ji10, hji10⟩ : ∃ j_ : Int, (mn x460000_1 ((rd_T57 l0 x11_1).f0)) = j_ := ⟨_, rfl⟩
       replace H : (impl_corner.l0 k1 l0 (l0.length : Int) (wrap64 (x11_1 + 1)) ji10 (mn x460001_1 ((rd_T57 l0 x11_1).f1))) = some (r1, r2) := by first | (rw [hji10] at H; exact H) | (simp only [hji10] at H ⊢; exact H)
       have hji10_ : (if ((rd_T57 l0 x11_1).f0) < x460000_1 then ((rd_T57 l0 x11_1).f0) else x460000_1) = ji10 := hji10
       obtain ⟨ji11, hji11⟩ : ∃ j_ : Int, (mn x460001_1 ((rd_T57 l0 x11_1).f1)) = j_ := ⟨_, rfl⟩
       replace H : (impl_corner.l0 k1 l0 (l0.length : Int) (wrap64 (x11_1 + 1)) ji10 ji11) = some (r1, r2) := by first | (rw [hji11] at H; exact H) | (simp only [hji11] at H ⊢; exact H)
       have hji11_ : (if ((rd_T57 l0 x11_1).f1) < x460001_1 then ((rd_T57 l0 x11_1).f1) else x460001_1) = ji11 := hji11
       have H' := Aside0.mk H
       clear H
       have p460 : 0 ≤ (x11_1 : Int) := of_decide_eq_true aS_
       have q460 : x11_1 < (l0.length : Int) := of_decide_eq_true aS_
       obtain ⟨ad460, e460, hx460_0, hx460_1⟩ := at_T57 HR0.out x11_1 p460 q460
       obtain rfl : ad458 = ad460 := (by injection e460)
       replace hx460_0 := (HB.out.cell (World.block_lt_of_cell? w _ hx460_0)).trans hx460_0
       replace hx460_1 := (HB.out.cell (World.block_lt_of_cell? w _ hx460_1)).trans hx460_1
       replace p460 := eq_true p460
       replace q460 := eq_true q460
       go_wp2_with (first | ((with_reducible refine gate_dst (N := 5) rfl ?_); refine box_event ?hg (N := 5) ?hd (cs := #[.int .i64 0, .int .i64 0]) (t := 57) ?hr ?_; (case hd => rfl); (case hg => rfl); (case hr => first | (go_simp; done) | (go_simp; rfl)); intro gb461 hg w12 hbox hb; have BK461 := Aside0.mk (hbox); have GW461 := Aside0.mk ((by rw [hg]; exact (below_size (by repeat (first | (with_reducible first | exact HB.out | apply below_alloc | apply pw_below_drewN | apply below_drew1 | refine below_set ?_ GE457.out | refine below_set ?_ GE459.out) | exact HB.out))) : w.heap.size ≤ gb461)); have GE461 := Aside0.mk ((by rw [hg]; exact (below_size (by repeat (first | (with_reducible first | exact HB.out | apply below_alloc | apply pw_below_drewN | apply below_drew1 | refine below_set ?_ GE457.out | refine below_set ?_ GE459.out) | exact HB.out))) : w.heap.size ≤ gb461)); replace HB := Aside0.mk (below_step (by repeat (first | (with_reducible first | exact HB.out | apply below_alloc | apply pw_below_drewN | apply below_drew1 | refine below_set ?_ GE457.out | refine below_set ?_ GE459.out) | exact HB.out)) hb); have NB457_461 := Aside0.mk ((by rw [hg]; exact Nat.ne_of_lt (blk_lt (g := gb457) (o := .cells #[.int .i64 0, .int .i64 0] 57 (0, 0)) (by (with_reducible repeat (first | refine blk_drewN ?_ _ | refine blk_drew ?_ | refine blk_alloc ?_ _)); exact BK457.out)) : gb457 ≠ gb461)); have NB461_457 := Aside0.mk ((by rw [hg]; exact Nat.ne_of_gt (blk_lt (g := gb457) (o := .cells #[.int .i64 0, .int .i64 0] 57 (0, 0)) (by (with_reducible repeat (first | refine blk_drewN ?_ _ | refine blk_drew ?_ | refine blk_alloc ?_ _)); exact BK457.out)) : gb461 ≠ gb457)); replace BK457 := Aside0.mk (blk_below (g := gb457) (o := .cells #[.int .i64 0, .int .i64 0] 57 (0, 0)) (by (with_reducible repeat (first | refine blk_drewN ?_ _ | refine blk_drew ?_ | refine blk_alloc ?_ _)); exact BK457.out) hb); have NB459_461 := Aside0.mk ((by rw [hg]; exact Nat.ne_of_lt (blk_lt (g := gb459) (o := .cells #[.int .i64 x460000_1, .int .i64 x460001_1] 57 (0, 0)) (by (with_reducible repeat (first | refine blk_drewN ?_ _ | refine blk_drew ?_ | refine blk_alloc ?_ _)); exact BK459.out)) : gb459 ≠ gb461)); have NB461_459 := Aside0.mk ((by rw [hg]; exact Nat.ne_of_gt (blk_lt (g := gb459) (o := .cells #[.int .i64 x460000_1, .int .i64 x460001_1] 57 (0, 0)) (by (with_reducible repeat (first | refine blk_drewN ?_ _ | refine blk_drew ?_ | refine blk_alloc ?_ _)); exact BK459.out)) : gb461 ≠ gb459)); replace BK459 := Aside0.mk (blk_below (g := gb459) (o := .cells #[.int .i64 x460000_1, .int .i64 x460001_1] 57 (0, 0)) (by (with_reducible repeat (first | refine blk_drewN ?_ _ | refine blk_drew ?_ | refine blk_alloc ?_ _)); exact BK459.out) hb); clear hb hbox hg; have hnb13 := NB461_457.out; have hnc13 := NB457_461.out; have hnb14 := NB461_459.out; have hnc14 := NB459_461.out; have hcz15_0 : w12.cell? ⟨gb461, 0, none⟩ = some (.int .i64 0) := (blk_cell BK461.out 0).trans rfl; have hcz15_1 : w12.cell? ⟨gb461, 1, none⟩ = some (.int .i64 0) := (blk_cell BK461.out 1).trans rfl; have hfz15_0 := blk_frozen BK461.out 0; have hfz15_1 := blk_frozen BK461.out 1; have hnb16 := NB459_457.out; have hnc16 := NB457_459.out; have hcz17_0 : w12.cell? ⟨gb459, 0, none⟩ = some (.int .i64 x460000_1) := (blk_cell BK459.out 0).trans rfl; have hcz17_1 : w12.cell? ⟨gb459, 1, none⟩ = some (.int .i64 x460001_1) := (blk_cell BK459.out 1).trans rfl; have hfz17_0 := blk_frozen BK459.out 0; have hfz17_1 := blk_frozen BK459.out 1))
       go_roundg k1
       case measure => have := HK1.out; omega
       case rel => exact ⟨(wrap64 (x11_1 + 1)), (ji10), (ji11), r3_, H', ⟨by have := HK1.out; omega⟩, ⟨by (with_reducible repeat (first | refine blk_drewN ?_ _ | refine blk_drew ?_ | refine blk_alloc ?_ _)); refine blk_far ?_ NB457_459.out _; (with_reducible repeat (first | refine blk_drewN ?_ _ | refine blk_drew ?_ | refine blk_alloc ?_ _)); refine blk_far ?_ NB457_459.out _; (with_reducible repeat (first | refine blk_drewN ?_ _ | refine blk_drew ?_ | refine blk_alloc ?_ _)); refine blk_far ?_ NB457_461.out _; (with_reducible repeat (first | refine blk_drewN ?_ _ | refine blk_drew ?_ | refine blk_alloc ?_ _)); refine blk_far ?_ NB457_461.out _; (with_reducible repeat (first | refine blk_drewN ?_ _ | refine blk_drew ?_ | refine blk_alloc ?_ _)); exact BK457.out⟩, ⟨by (with_reducible repeat (first | refine blk_drewN ?_ _ | refine blk_drew ?_ | refine blk_alloc ?_ _)); refine blk_put (cs := #[.int .i64 ji10, .int .i64 x460001_1]) ?_ 1 _ rfl; (with_reducible repeat (first | refine blk_drewN ?_ _ | refine blk_drew ?_ | refine blk_alloc ?_ _)); refine blk_put (cs := #[.int .i64 x460000_1, .int .i64 x460001_1]) ?_ 0 _ rfl; (with_reducible repeat (first | refine blk_drewN ?_ _ | refine blk_drew ?_ | refine blk_alloc ?_ _)); refine blk_far ?_ NB459_461.out _; (with_reducible repeat (first | refine blk_drewN ?_ _ | refine blk_drew ?_ | refine blk_alloc ?_ _)); refine blk_far ?_ NB459_461.out _; (with_reducible repeat (first | refine blk_drewN ?_ _ | refine blk_drew ?_ | refine blk_alloc ?_ _)); exact BK459.out⟩, ⟨by repeat (first | (with_reducible first | exact HB.out | apply below_alloc | apply pw_below_drewN | apply below_drew1 | refine below_set ?_ GE457.out | refine below_set ?_ GE459.out | refine below_set ?_ GE461.out) | exact HB.out)⟩⟩
      ·rw [if_neg c9] at H
       exact absurd H (by simp)
     ·rw [if_neg c8] at H
      exact absurd H (by simp)
    ·rw [if_neg c7] at H
     have c7b0 : decide (x11_1 < (l0.length : Int)) = false := decide_eq_false c7
     clear c7
     simp only [Option.some.injEq, Prod.mk.injEq] at H
     obtain ⟨rfl, rfl⟩ := H
     have hnb18 := NB459_457.out
     have hnc18 := NB457_459.out
     have hcz19_0 : wr.cell? ⟨gb459, 0, none⟩ = some (.int .i64 x460000_1) := (blk_cell BK459.out 0).trans rfl
     have hcz19_1 : wr.cell? ⟨gb459, 1, none⟩ = some (.int .i64 x460001_1) := (blk_cell BK459.out 1).trans rfl
     have hfz19_0 := blk_frozen BK459.out 0
     have hfz19_1 := blk_frozen BK459.out 1
     have hcz20_0 : wr.cell? ⟨gb457, 0, none⟩ = some (.int .i64 0) := (blk_cell BK457.out 0).trans rfl
     have hcz20_1 : wr.cell? ⟨gb457, 1, none⟩ = some (.int .i64 0) := (blk_cell BK457.out 1).trans rfl
     have hfz20_0 := blk_frozen BK457.out 0
     have hfz20_1 := blk_frozen BK457.out 1
     go_wp2
     refine bodyPost_ret (results_cell_row rfl _ _ gb457 57 #[.int .i64 x460000_1, .int .i64 x460001_1] (0, 0) _ rfl (by (with_reducible repeat (first | refine blk_drewN ?_ _ | refine blk_drew ?_ | refine blk_alloc ?_ _)); refine blk_put (cs := #[.int .i64 x460000_1, .int .i64 0]) ?_ 1 _ rfl; (with_reducible repeat (first | refine blk_drewN ?_ _ | refine blk_drew ?_ | refine blk_alloc ?_ _)); refine blk_put (cs := #[.int .i64 0, .int .i64 0]) ?_ 0 _ rfl; (with_reducible repeat (first | refine blk_drewN ?_ _ | refine blk_drew ?_ | refine blk_alloc ?_ _)); exact BK457.out) Try.underlying57 rfl (by kernel_rfl)) rfl ?_
     exact ⟨r2_, by repeat (first | (with_reducible first | exact HB.out | apply below_alloc | apply pw_below_drewN | apply below_drew1 | refine below_set ?_ GE457.out | refine below_set ?_ GE459.out) | exact HB.out)⟩
 ·rw [if_neg c2] at H
  exact absurd H (by simp)

/-! ### impl_moved: function 99 -/
def impl_moved.l0 : Nat → Int → Int → List (S57) → List (S57) → Int → Int → Option ((List (S57)))
 | 0, _, _, _, _, _, _ => none
 | k + 1, x1, x2, x7, x13, x14, x15 => if x15 < x14 then (if 0 ≤ x15 then (if x15 < (x13.length : Int) then (if x7.length < 8796093022208 then (impl_moved.l0 k x1 x2 (x7 ++ [(⟨wrap64 (((rd_T57 x13 x15).f0) + x1), wrap64 (((rd_T57 x13 x15).f1) + x2)⟩ : S57)]) x13 x14 (wrap64 (x15 + 1))) else (none)) else (none)) else (none)) else (some x7)
def impl_moved.f (k : Nat) (l0 : List (S57)) (a1 : Int) (a2 : Int) : Option ((List (S57))) := if 0 ≤ (l0.length : Int) then (if ((l0.length : Int) : Int).toNat ≤ 17592186044416 then (impl_moved.l0 k a1 a2 (([] : List (S57))) l0 (l0.length : Int) 0) else (none)) else (none)
theorem impl_moved.mono_l : ∀ k, (∀ y0 y1 y2 y3 y4 y5, LeO (impl_moved.l0 k y0 y1 y2 y3 y4 y5) (impl_moved.l0 (k + 1) y0 y1 y2 y3 y4 y5))
 | 0 => fun _ _ _ _ _ _ r h => by simp [impl_moved.l0] at h
 | k + 1 => by
  have ih0 := impl_moved.mono_l k
  ·intro y0 y1 y2 y3 y4 y5
   unfold impl_moved.l0
   repeat' first
   | (with_reducible exact ih0 _ _ _ _ _ _)
   | (with_reducible exact LeO.refl _)
   | (with_reducible exact LeO.none _)
   | (with_reducible refine LeO.ite ?_ ?_)
   | (with_reducible refine LeO.bind ?_ (fun _ => ?_))
   | exact ih0 _ _ _ _ _ _
   | exact LeO.none _
   | refine LeO.ite ?_ ?_
   | refine LeO.bind ?_ (fun _ => ?_)
theorem impl_moved.mono : ∀ a0 a1 a2 k, LeO (impl_moved.f k a0 a1 a2) (impl_moved.f (k + 1) a0 a1 a2) := by
 intro a0 a1 a2 k
 have ih0 := impl_moved.mono_l k
 unfold impl_moved.f
 repeat' first
   | (with_reducible exact ih0 _ _ _ _ _ _)
   | (with_reducible exact LeO.refl _)
   | (with_reducible exact LeO.none _)
   | (with_reducible refine LeO.ite ?_ ?_)
   | (with_reducible refine LeO.bind ?_ (fun _ => ?_))
   | exact ih0 _ _ _ _ _ _
   | exact LeO.none _
   | refine LeO.ite ?_ ?_
   | refine LeO.bind ?_ (fun _ => ?_)
set_option maxHeartbeats 8000000 in
set_option maxRecDepth 100000 in
theorem impl_moved.calls (k : Nat) (A0 : Option Addr) (c0 : Nat) (l0 : List (S57)) (a1 : Int) (a2 : Int) (r : List (S57)) (w : World) (hr0 : Kd.C k57 w A0 l0.length l0) (hc0 : l0.length ≤ c0) (h : impl_moved.f k l0 a1 a2 = some r) :
  Calls Try.prog 99 #[.slice A0 l0.length c0, .int .i64 a1, .int .i64 a2] w fun e w' => ∃ v0_ : Value, e = .returned (v0_) ∧ Kd.R k57 57 w' w.heap.size (fun _ => True) v0_ r ∧ Below w.heap.size w w' := by
 have hu57 := Try.underlying57
 have HR0 := Aside0.mk hr0
 have HC0 := Aside0.mk hc0
 clear hr0 hc0
 have HB := Aside0.mk (Below.refl w.heap.size w)
 have H : (if 0 ≤ (l0.length : Int) then (if ((l0.length : Int) : Int).toNat ≤ 17592186044416 then (impl_moved.l0 k a1 a2 (([] : List (S57))) l0 (l0.length : Int) 0) else (none)) else (none)) = some r := h
 clear h
 by_cases c4 : 0 ≤ (l0.length : Int)
 ·rw [if_pos c4] at H
  have c4b0 := eq_true c4
  have c4b1 : decide (0 ≤ (l0.length : Int)) = true := decide_eq_true c4
  clear c4
  by_cases c5 : ((l0.length : Int) : Int).toNat ≤ 17592186044416
  ·rw [if_pos c5] at H
   have c5b0 := eq_true c5
   have c5b1 : decide (((l0.length : Int) : Int).toNat ≤ 17592186044416) = true := decide_eq_true c5
   clear c5
   obtain ⟨y473, hY_⟩ : ∃ y_ : List (S57), y_ = (([] : List (S57))) := ⟨_, rfl⟩
   replace H : (impl_moved.l0 k a1 a2 y473 l0 (l0.length : Int) 0) = some r := yY_
   have Ny473 := Aside0.mk hY_
   clear hY_
   have H' := Aside0.mk H
   clear H
   go_enter Try.func99, Try.ntmps99
   go_wp2_with (first | ((with_reducible refine gate_dst (N := 12) rfl ?_); refine R_makecap k57 _ 57 rfl (N := 12) rfl 30 _ _ rfl (l0.length : Int) rfl rfl Try.underlying30 (.agg #[(.int .i64 0), (.int .i64 0)]) 16 info57 (by omega) (ok := fun _ => True) trivial (of_decide_eq_true aS_) (Nat.le_trans (Nat.mul_le_mul_right _ (of_decide_eq_true aS_ : (l0.length : Int).toNat ≤ 17592186044416)) (by omega)) (Below.refl _ _) (Nat.le_refl _) ?_; intro v474 w6 ho7 hb hg_ hnew_; clear hg_ hnew_; (first | rw [← Ny473.out] at ho7 | (simp only [Int.reduceToNat] at ho7; rw [← Ny473.out] at ho7)); have HO475 := Aside0.mk (Kd.R_lower ho7 (below_size bB_)); replace HB := Aside0.mk (below_step bB_ hb); clear hb ho7))
   go_loopg [7, 15] k (fun kq v7 v15 w' => ∃ (x7_1 : List (S57)) (x15_1 : Int), v15 = .int .i64 x15_1 ∧ Aside0 (impl_moved.l0 kq a1 a2 x7_1 l0 (l0.length : Int) x15_1 = some r) ∧ Aside0 (kq ≤ k) ∧ Aside0 (Kd.R k57 57 w' w.heap.size (fun _ => True) v7 x7_1) ∧ Aside0 (Below w.heap.size w w'))
   case atStart => exact ⟨(y473), (0), r3_, H', ⟨Nat.le_refl _⟩, ⟨rS_ HO475.out⟩, ⟨bB_⟩⟩
   case round =>
    clear H'
    try clear p2
    try clear c4
    try clear c4b0
    try clear c4b1
    try clear c5
    try clear c5b0
    try clear c5b1
    obtain ⟨x7_1, x15_1, rfl, HA, HK1, HO_7, HB⟩ := hrel
    cases gk with
    | zero => exact absurd HA.out (by simp [impl_moved.l0])
    | succ k1 =>
     have H := HA.out
     clear HA
     simp only [impl_moved.l0] at H
     by_cases c8 : x15_1 < (l0.length : Int)
     ·rw [if_pos c8] at H
      have c8b0 : decide (x15_1 < (l0.length : Int)) = true := decide_eq_true c8
      clear c8
      by_cases c9 : 0 ≤ x15_1
      ·rw [if_pos c9] at H
       have c9b0 : decide (0 ≤ x15_1) = true := decide_eq_true c9
       clear c9
       by_cases c10 : x15_1 < (l0.length : Int)
       ·rw [if_pos c10] at H
        have c10b0 : decide (x15_1 < (l0.length : Int)) = true := decide_eq_true c10
        clear c10
        by_cases c11 : x7_1.length < 8796093022208
        ·rw [if_pos c11] at H
         have LMc11 := Aside0.mk c11
         clear c11
         obtain ⟨y478, hY_⟩ : ∃ y_ : List (S57), y_ = (x7_1 ++ [(⟨wrap64 (((rd_T57 l0 x15_1).f0) + a1), wrap64 (((rd_T57 l0 x15_1).f1) + a2)⟩ : S57)]) := ⟨_, rfl⟩
         replace H : (impl_moved.l0 k1 a1 a2 y478 l0 (l0.length : Int) (wrap64 (x15_1 + 1))) = some r := yY_
         have Ny478 := Aside0.mk hY_
         clear hY_
         have H' := Aside0.mk H
         clear H
         have p476 : 0 ≤ (x15_1 : Int) := of_decide_eq_true aS_
         have q476 : x15_1 < (l0.length : Int) := of_decide_eq_true aS_
         obtain ⟨ad476, e476, hx476_0, hx476_1⟩ := at_T57 HR0.out x15_1 p476 q476
         cases e476
         replace hx476_0 := (HB.out.cell (World.block_lt_of_cell? w _ hx476_0)).trans hx476_0
         replace hx476_1 := (HB.out.cell (World.block_lt_of_cell? w _ hx476_1)).trans hx476_1
         replace p476 := eq_true p476
         replace q476 := eq_true q476
         go_wp2_with (first | ((with_reducible refine gate_dst (N := 9) rfl ?_); refine box_event ?hg (N := 9) ?hd (cs := #[.int .i64 0, .int .i64 0]) (t := 57) ?hr ?_; (case hd => rfl); (case hg => rfl); (case hr => first | (go_simp; done) | (go_simp; rfl)); intro gb477 hg w12 hbox hb; replace HO_7 := Aside0.mk (Kd.R_below (Kd.R_elderB (rS_ HO_7.out) gb477 (Nat.le_of_eq hg.symm)) hb); have BK477 := Aside0.mk (hbox); have GW477 := Aside0.mk ((by rw [hg]; exact (below_size bB_) : w.heap.size ≤ gb477)); have GE477 := Aside0.mk ((by rw [hg]; exact (below_size bB_) : w.heap.size ≤ gb477)); replace HB := Aside0.mk (below_step bB_ hb); clear hb hbox hg; have hcz13_0 : w12.cell? ⟨gb477, 0, none⟩ = some (.int .i64 0) := (blk_cell BK477.out 0).trans rfl; have hcz13_1 : w12.cell? ⟨gb477, 1, none⟩ = some (.int .i64 0) := (blk_cell BK477.out 1).trans rfl; have hfz13_0 := blk_frozen BK477.out 0; have hfz13_1 := blk_frozen BK477.out 1) | ((with_reducible refine gate_builtin (b := .append) (xs := #[.tmp 19, .tmp 29]) rfl ?_); at_builtin; refine Kd.R_append k57 (w0 := w) w.heap.size rfl (.tmp 19) (.tmp 29) 30 57 (.agg #[(.int .i64 0), (.int .i64 0)]) 16 rfl Try.underlying30 info57 rfl (by decide) (by omega) u7 x7_1 (⟨wrap64 (((rd_T57 l0 x15_1).f0) + a1), wrap64 (((rd_T57 l0 x15_1).f1) + a2)⟩ : S57) [.int .i64 (wrap64 (((rd_T57 l0 x15_1).f0) + a1)), .int .i64 (wrap64 (((rd_T57 l0 x15_1).f1) + a2))] (fun k_ => k_ ≠ gb477) (fun _ => False) rfl (by first | (go_simp; done) | (go_simp; rfl)) ?aP (fun _ hk => hk.elim) ?aF ?aO ?aB ?aS ?aL ?_; (case aP => exact k57_mkM _ _ _ (⟨wrap64 (((rd_T57 l0 x15_1).f0) + a1), wrap64 (((rd_T57 l0 x15_1).f1) + a2)⟩ : S57)); (case aB => exact (by repeat (first | (with_reducible first | exact HB.out | apply below_alloc | apply pw_below_drewN | apply below_drew1 | refine below_set ?_ GE477.out) | exact HB.out))); (case aF => exact (fun k_ hk => Kd.freshB (g := gb477) (o := .cells #[.int .i64 ((rd_T57 l0 x15_1).f0), .int .i64 ((rd_T57 l0 x15_1).f1)] 57 (0, 0)) (by (with_reducible repeat (first | refine blk_drewN ?_ _ | refine blk_drew ?_ | refine blk_alloc ?_ _)); refine blk_put (cs := #[.int .i64 ((rd_T57 l0 x15_1).f0), .int .i64 0]) ?_ 1 _ rfl; (with_reducible repeat (first | refine blk_drewN ?_ _ | refine blk_drew ?_ | refine blk_alloc ?_ _)); refine blk_put (cs := #[.int .i64 0, .int .i64 0]) ?_ 0 _ rfl; (with_reducible repeat (first | refine blk_drewN ?_ _ | refine blk_drew ?_ | refine blk_alloc ?_ _)); exact BK477.out) k_ hk)); (case aO => exact (rS_ (Kd.R_mono (Kd.R_far (p := ⟨gb477, 1, none⟩) (Kd.R_far (p := ⟨gb477, 0, none⟩) (Kd.R_mono HO_7.out (fun k_ hk => (⟨hk, hk.2⟩ : _ ∧ k_ ≠ gb477))) (fun _ hk => hk.2) (.int .i64 ((rd_T57 l0 x15_1).f0))) (fun _ hk => hk.2) (.int .i64 ((rd_T57 l0 x15_1).f1))) (fun _ hk => hk.1.2)))); (case aS => exact (below_size (by repeat (first | (with_reducible first | exact HB.out | apply below_alloc | apply pw_below_drewN | apply below_drew1 | refine below_set ?_ GE477.out) | exact HB.out)))); (case aL => have := LMc11.out; omega); intro v479 w14 ho hb hg hat; rw [← Ny478.out] at ho; replace BK477 := Aside0.mk (blk_grown (g := gb477) (o := .cells #[.int .i64 ((rd_T57 l0 x15_1).f0), .int .i64 ((rd_T57 l0 x15_1).f1)] 57 (0, 0)) (by (with_reducible repeat (first | refine blk_drewN ?_ _ | refine blk_drew ?_ | refine blk_alloc ?_ _)); refine blk_put (cs := #[.int .i64 ((rd_T57 l0 x15_1).f0), .int .i64 0]) ?_ 1 _ rfl; (with_reducible repeat (first | refine blk_drewN ?_ _ | refine blk_drew ?_ | refine blk_alloc ?_ _)); refine blk_put (cs := #[.int .i64 0, .int .i64 0]) ?_ 0 _ rfl; (with_reducible repeat (first | refine blk_drewN ?_ _ | refine blk_drew ?_ | refine blk_alloc ?_ _)); exact BK477.out) hg (Kd.R_away HO_7.out (fun _ hk => hk.2))); replace HB := Aside0.mk (hb); have HO480 := Aside0.mk (ho); clear HO_7; clear ho hb hg hat))
         go_roundg k1
         case measure => have := HK1.out; omega
         case rel => exact ⟨(y478), (wrap64 (x15_1 + 1)), r3_, H', ⟨by have := HK1.out; omega⟩, ⟨rS_ (Kd.R_mono HO480.out (fun _ hk => trivial))⟩, ⟨by repeat (first | (with_reducible first | exact HB.out | apply below_alloc | apply pw_below_drewN | apply below_drew1 | refine below_set ?_ GE477.out) | exact HB.out)⟩⟩
        ·rw [if_neg c11] at H
         exact absurd H (by simp)
       ·rw [if_neg c10] at H
        exact absurd H (by simp)
      ·rw [if_neg c9] at H
       exact absurd H (by simp)
     ·rw [if_neg c8] at H
      have c8b0 : decide (x15_1 < (l0.length : Int)) = false := decide_eq_false c8
      clear c8
      obtain rfl := Option.some.inj H
      go_wp2
      go_ret
      exact ⟨_, r2_, rS_ HO_7.out, bB_⟩
  ·rw [if_neg c5] at H
   exact absurd H (by simp)
 ·rw [if_neg c4] at H
  exact absurd H (by simp)

/-! ### impl_normal: function 79 -/
def impl_normal.f (k : Nat) (l0 : List (S57)) : Option ((List (S57))) := (impl_corner.f k l0).bind fun bt481 => ((impl_moved.f k l0 (wrap64 (-bt481.1)) (wrap64 (-bt481.2))).bind fun t484 => (some t484))
theorem impl_normal.mono : ∀ a0 k, LeO (impl_normal.f k a0) (impl_normal.f (k + 1) a0) := by
 intro a0 k
 unfold impl_normal.f
 repeat' first
   | (with_reducible exact impl_corner.mono _ _)
   | (with_reducible exact impl_moved.mono _ _ _ _)
   | (with_reducible exact LeO.refl _)
   | (with_reducible exact LeO.none _)
   | (with_reducible refine LeO.ite ?_ ?_)
   | (with_reducible refine LeO.bind ?_ (fun _ => ?_))
   | exact impl_corner.mono _ _
   | exact impl_moved.mono _ _ _ _
   | exact LeO.none _
   | refine LeO.ite ?_ ?_
   | refine LeO.bind ?_ (fun _ => ?_)
set_option maxHeartbeats 8000000 in
set_option maxRecDepth 100000 in
theorem impl_normal.calls (k : Nat) (A0 : Option Addr) (c0 : Nat) (l0 : List (S57)) (r : List (S57)) (w : World) (hr0 : Kd.C k57 w A0 l0.length l0) (hc0 : l0.length ≤ c0) (h : impl_normal.f k l0 = some r) :
  Calls Try.prog 79 #[.slice A0 l0.length c0] w fun e w' => ∃ v0_ : Value, e = .returned (v0_) ∧ Kd.R k57 57 w' w.heap.size (fun _ => True) v0_ r ∧ Below w.heap.size w w' := by
 have hu57 := Try.underlying57
 have HR0 := Aside0.mk hr0
 have HC0 := Aside0.mk hc0
 clear hr0 hc0
 have HB := Aside0.mk (Below.refl w.heap.size w)
 have H : ((impl_corner.f k l0).bind fun bt481 => ((impl_moved.f k l0 (wrap64 (-bt481.1)) (wrap64 (-bt481.2))).bind fun t484 => (some t484))) = some r := h
 clear h
 replace H := Option.bind_eq_some_iff.mp H
 obtain ⟨⟨t481, t482⟩, A20, H⟩ := H
 try dsimp only at H
 have A2 := Aside0.mk A20
 clear A20
 replace H := Option.bind_eq_some_iff.mp H
 obtain ⟨t484, A30, H⟩ := H
 try dsimp only at H
 have A3 := Aside0.mk A30
 clear A30
 obtain rfl := Option.some.inj H
 go_enter Try.func79, Try.ntmps79
 go_wp2_with (first | ((with_reducible refine gate_callee (f := 111) rfl ?_); refine gL_ (some 5) Try.func111 #[.slice A0 l0.length c0] ?_; (with_reducible refine (impl_corner.calls k _ _ l0 t481 t482 _ ?side1 ?side2 A2.out).mono ?_); (case side1 => exact cS_ HR0.out); (case side2 => exact HC0.out); rintro e w4 ⟨rfl, hb⟩; refine ⟨_, rfl, ?_⟩; replace HB := Aside0.mk (below_step bB_ hb); (try clear hb)) | ((with_reducible refine gate_dst (N := 3) rfl ?_); refine box_event ?hg (N := 3) ?hd (cs := #[.int .i64 0, .int .i64 0]) (t := 57) ?hr ?_; (case hd => rfl); (case hg => rfl); (case hr => first | (go_simp; done) | (go_simp; rfl)); intro gb483 hg w5 hbox hb; have BK483 := Aside0.mk (hbox); have GW483 := Aside0.mk ((by rw [hg]; exact (below_size bB_) : w.heap.size ≤ gb483)); have GE483 := Aside0.mk ((by rw [hg]; exact (below_size bB_) : w.heap.size ≤ gb483)); replace HB := Aside0.mk (below_step bB_ hb); clear hb hbox hg; have hcz6_0 : w5.cell? ⟨gb483, 0, none⟩ = some (.int .i64 0) := (blk_cell BK483.out 0).trans rfl; have hcz6_1 : w5.cell? ⟨gb483, 1, none⟩ = some (.int .i64 0) := (blk_cell BK483.out 1).trans rfl; have hfz6_0 := blk_frozen BK483.out 0; have hfz6_1 := blk_frozen BK483.out 1) | ((with_reducible refine gate_callee (f := 99) rfl ?_); refine gL_ (some 13) Try.func99 #[.slice A0 l0.length c0, .int .i64 (wrap64 (-t481)), .int .i64 (wrap64 (-t482))] ?_; (with_reducible refine (impl_moved.calls k _ _ l0 (wrap64 (-t481)) (wrap64 (-t482)) t484 _ ?side1 ?side2 A3.out).mono ?_); (case side1 => exact Kd.C_below HR0.out (by repeat (first | (with_reducible first | exact HB.out | apply below_alloc | apply pw_below_drewN | apply below_drew1 | refine below_set ?_ GE483.out) | exact HB.out))); (case side2 => exact HC0.out); rintro e w7 ⟨v485, rfl, ho0, hb⟩; refine ⟨_, rfl, ?_⟩; have HO486 := Aside0.mk (Kd.R_lower (Kd.R_newB ho0 (g := gb483) (o := .cells #[.int .i64 t481, .int .i64 t482] 57 (0, 0)) (by (with_reducible repeat (first | refine blk_drewN ?_ _ | refine blk_drew ?_ | refine blk_alloc ?_ _)); refine blk_put (cs := #[.int .i64 t481, .int .i64 0]) ?_ 1 _ rfl; (with_reducible repeat (first | refine blk_drewN ?_ _ | refine blk_drew ?_ | refine blk_alloc ?_ _)); refine blk_put (cs := #[.int .i64 0, .int .i64 0]) ?_ 0 _ rfl; (with_reducible repeat (first | refine blk_drewN ?_ _ | refine blk_drew ?_ | refine blk_alloc ?_ _)); exact BK483.out)) (below_size (by repeat (first | (with_reducible first | exact HB.out | apply below_alloc | apply pw_below_drewN | apply below_drew1 | refine below_set ?_ GE483.out) | exact HB.out)))); replace BK483 := Aside0.mk (blk_below (g := gb483) (o := .cells #[.int .i64 t481, .int .i64 t482] 57 (0, 0)) (by (with_reducible repeat (first | refine blk_drewN ?_ _ | refine blk_drew ?_ | refine blk_alloc ?_ _)); refine blk_put (cs := #[.int .i64 t481, .int .i64 0]) ?_ 1 _ rfl; (with_reducible repeat (first | refine blk_drewN ?_ _ | refine blk_drew ?_ | refine blk_alloc ?_ _)); refine blk_put (cs := #[.int .i64 0, .int .i64 0]) ?_ 0 _ rfl; (with_reducible repeat (first | refine blk_drewN ?_ _ | refine blk_drew ?_ | refine blk_alloc ?_ _)); exact BK483.out) hb); replace HB := Aside0.mk (below_step (by repeat (first | (with_reducible first | exact HB.out | apply below_alloc | apply pw_below_drewN | apply below_drew1 | refine below_set ?_ GE483.out) | exact HB.out)) hb); (try clear hb ho0)))
 go_ret
 exact ⟨_, r2_, rS_ (Kd.R_mono HO486.out (fun _ hk => trivial)), by repeat (first | (with_reducible first | exact HB.out | apply below_alloc | apply pw_below_drewN | apply below_drew1 | refine below_set ?_ GE483.out) | exact HB.out)⟩

/-! ### impl_shapeText: function 85, by hand -/
-- COMMONS none
-- IMPORT Derived.Shelf.Strings.Repeat
-- IMPORT Derived.Shelf.Strings.OnBuilder
-- IMPORT Derived.Lib.ConvBytes
def layRep__ren : Go.Shelf.Ren := ⟨fun | 105 => 113 | 212 => 122 | 99 => 123 | 165 => 124 | 166 => 125 | 170 => 126 | 169 => 127 | 263 => 131 | 264 => 132 | 206 => 133 | 240 => 134 | 241 => 135 | 276 => 146 | 277 => 147 | n => n, fun | 9 => 9 | 3 => 3 | 4 => 4 | 20 => 20 | 0 => 0 | 46 => 108 | 109 => 109 | 5 => 5 | 72 => 114 | 76 => 118 | 51 => 124 | 146 => 125 | 53 => 127 | 148 => 128 | 70 => 112 | 37 => 40 | 75 => 117 | 127 => 130 | 164 => 140 | 80 => 121 | n => n, fun | n => n⟩
theorem layRep_ : Go.Proofs.Lays.n105 Try.prog layRep__ren := {
 mixed := by kernel_rfl,
 f99 := Try.func123.trans (congrArg some (by kernel_rfl)),
 f105 := Try.func113.trans (congrArg some (by kernel_rfl)),
 f165 := Try.func124.trans (congrArg some (by kernel_rfl)),
 f166 := Try.func125.trans (congrArg some (by kernel_rfl)),
 f169 := Try.func127.trans (congrArg some (by kernel_rfl)),
 f170 := Try.func126.trans (congrArg some (by kernel_rfl)),
 f206 := Try.func133.trans (congrArg some (by kernel_rfl)),
 f212 := Try.func122.trans (congrArg some (by kernel_rfl)),
 f240 := Try.func134.trans (congrArg some (by kernel_rfl)),
 f241 := Try.func135.trans (congrArg some (by kernel_rfl)),
 f263 := Try.func131.trans (congrArg some (by kernel_rfl)),
 f264 := Try.func132.trans (congrArg some (by kernel_rfl)),
 f276 := Try.func146.trans (congrArg some (by kernel_rfl)),
 f277 := Try.func147.trans (congrArg some (by kernel_rfl)),
 t0 := Try.underlying0,
 a0 := Try.isAgg0,
 z0 := Try.sizeOf0,
 v0 := Try.zeroValue0,
 t3 := Try.underlying3,
 a3 := Try.isAgg3,
 z3 := Try.sizeOf3,
 v3 := Try.zeroValue3,
 t4 := Try.underlying4,
 a4 := Try.isAgg4,
 z4 := Try.sizeOf4,
 v4 := Try.zeroValue4,
 t5 := Try.underlying5,
 a5 := Try.isAgg5,
 z5 := Try.sizeOf5,
 v5 := Try.zeroValue5,
 t9 := Try.underlying9,
 a9 := Try.isAgg9,
 z9 := Try.sizeOf9,
 v9 := Try.zeroValue9,
 t20 := Try.underlying20,
 a20 := Try.isAgg20,
 z20 := Try.sizeOf20,
 v20 := Try.zeroValue20,
 t37 := Try.underlying40,
 a37 := Try.isAgg40,
 z37 := Try.sizeOf40,
 v37 := Try.zeroValue40,
 t46 := Try.underlying108,
 a46 := Try.isAgg108,
 z46 := Try.sizeOf108,
 v46 := Try.zeroValue108,
 t51 := Try.underlying124,
 a51 := Try.isAgg124,
 z51 := Try.sizeOf124,
 v51 := Try.zeroValue124,
 t53 := Try.underlying127,
 a53 := Try.isAgg127,
 z53 := Try.sizeOf127,
 v53 := Try.zeroValue127,
 t70 := Try.underlying112,
 a70 := Try.isAgg112,
 z70 := Try.sizeOf112,
 v70 := Try.zeroValue112,
 t72 := Try.underlying114,
 a72 := Try.isAgg114,
 z72 := Try.sizeOf114,
 v72 := Try.zeroValue114,
 t75 := Try.underlying117,
 a75 := Try.isAgg117,
 z75 := Try.sizeOf117,
 v75 := Try.zeroValue117,
 t76 := Try.underlying118,
 a76 := Try.isAgg118,
 z76 := Try.sizeOf118,
 v76 := Try.zeroValue118,
 t109 := Try.underlying109,
 a109 := Try.isAgg109,
 z109 := Try.sizeOf109,
 v109 := Try.zeroValue109,
 t127 := Try.underlying130,
 a127 := Try.isAgg130,
 z127 := Try.sizeOf130,
 v127 := Try.zeroValue130,
 t146 := Try.underlying125,
 a146 := Try.isAgg125,
 z146 := Try.sizeOf125,
 v146 := Try.zeroValue125,
 t148 := Try.underlying128,
 a148 := Try.isAgg128,
 z148 := Try.sizeOf128,
 v148 := Try.zeroValue128,
 t164 := Try.underlying140,
 a164 := Try.isAgg140,
 z164 := Try.sizeOf140,
 v164 := Try.zeroValue140 }
def layJoin__ren : Go.Shelf.Ren := ⟨fun | 156 => 114 | 165 => 124 | 166 => 125 | 169 => 127 | 240 => 134 | 241 => 135 | 276 => 146 | 277 => 147 | n => n, fun | 31 => 100 | 9 => 9 | 3 => 3 | 4 => 4 | 0 => 0 | 20 => 20 | 72 => 114 | 76 => 118 | 70 => 112 | 37 => 40 | 75 => 117 | 127 => 130 | 164 => 140 | 5 => 5 | 80 => 121 | n => n, fun | n => n⟩
theorem layJoin_ : Go.Proofs.Lays.n156 Try.prog layJoin__ren := {
 mixed := by kernel_rfl,
 f156 := Try.func114.trans (congrArg some (by kernel_rfl)),
 f165 := Try.func124.trans (congrArg some (by kernel_rfl)),
 f166 := Try.func125.trans (congrArg some (by kernel_rfl)),
 f169 := Try.func127.trans (congrArg some (by kernel_rfl)),
 f240 := Try.func134.trans (congrArg some (by kernel_rfl)),
 f241 := Try.func135.trans (congrArg some (by kernel_rfl)),
 f276 := Try.func146.trans (congrArg some (by kernel_rfl)),
 f277 := Try.func147.trans (congrArg some (by kernel_rfl)),
 t0 := Try.underlying0,
 a0 := Try.isAgg0,
 z0 := Try.sizeOf0,
 v0 := Try.zeroValue0,
 t3 := Try.underlying3,
 a3 := Try.isAgg3,
 z3 := Try.sizeOf3,
 v3 := Try.zeroValue3,
 t4 := Try.underlying4,
 a4 := Try.isAgg4,
 z4 := Try.sizeOf4,
 v4 := Try.zeroValue4,
 t9 := Try.underlying9,
 a9 := Try.isAgg9,
 z9 := Try.sizeOf9,
 v9 := Try.zeroValue9,
 t20 := Try.underlying20,
 a20 := Try.isAgg20,
 z20 := Try.sizeOf20,
 v20 := Try.zeroValue20,
 t31 := Try.underlying100,
 a31 := Try.isAgg100,
 z31 := Try.sizeOf100,
 v31 := Try.zeroValue100,
 t37 := Try.underlying40,
 a37 := Try.isAgg40,
 z37 := Try.sizeOf40,
 v37 := Try.zeroValue40,
 t70 := Try.underlying112,
 a70 := Try.isAgg112,
 z70 := Try.sizeOf112,
 v70 := Try.zeroValue112,
 t72 := Try.underlying114,
 a72 := Try.isAgg114,
 z72 := Try.sizeOf114,
 v72 := Try.zeroValue114,
 t75 := Try.underlying117,
 a75 := Try.isAgg117,
 z75 := Try.sizeOf117,
 v75 := Try.zeroValue117,
 t76 := Try.underlying118,
 a76 := Try.isAgg118,
 z76 := Try.sizeOf118,
 v76 := Try.zeroValue118,
 t127 := Try.underlying130,
 a127 := Try.isAgg130,
 z127 := Try.sizeOf130,
 v127 := Try.zeroValue130,
 t164 := Try.underlying140,
 a164 := Try.isAgg140,
 z164 := Try.sizeOf140,
 v164 := Try.zeroValue140 }
theorem extraRep_ : Go.Proofs.Builder.Extra Try.prog layRep__ren := { sizeBuilder := by kernel_rfl, liesBuilder := by kernel_rfl, t5 := Try.underlying5, a5 := Try.isAgg5, z5 := Try.sizeOf5, v5 := Try.zeroValue5, infoByte := by kernel_rfl, cellsByte := by kernel_rfl, sizeByte := by kernel_rfl, neB5 := by decide }
theorem extraJoin_ : Go.Proofs.Builder.Extra Try.prog layJoin__ren := { sizeBuilder := by kernel_rfl, liesBuilder := by kernel_rfl, t5 := Try.underlying5, a5 := Try.isAgg5, z5 := Try.sizeOf5, v5 := Try.zeroValue5, infoByte := by kernel_rfl, cellsByte := by kernel_rfl, sizeByte := by kernel_rfl, neB5 := by decide }
theorem strings_Repeat_ (s : ByteArray) (c : Nat) (w : World) (hc : c ≤ 9223372036854775807) (hlen : s.size * c ≤ 140737488355328) :
  Calls Try.prog 113 #[.string s, .int .i64 c] w fun e w' => e = .returned (.string ⟨(Lib.repeatL s.data.toList c).toArray⟩) ∧ Below w.heap.size w w' :=
 Any.strings_Repeat layRep_ extraRep_ s c w hc hlen
theorem strings_Join_ (bk o c : Nat) (xs : List ByteArray) (sep : ByteArray) (w : World) (hcells : ∀ (j : Nat) x, xs[j]? = some x → w.cell? ⟨bk, o + j, none⟩ = some (.string x))
  (hbk : bk < w.heap.size) (hN : xs.length ≤ 140737488355328) (hcap : xs.length ≤ c) (hlen : (Lib.join (xs.map (·.data.toList)) sep.data.toList).length ≤ 140737488355328) :
  Calls Try.prog 114 #[.slice (some ⟨bk, o, none⟩) xs.length c, .string sep] w fun e w' => e = .returned (.string ⟨(Lib.join (xs.map (·.data.toList)) sep.data.toList).toArray⟩) ∧ Below w.heap.size w w' :=
 Any.strings_Join layJoin_ extraJoin_ bk o c xs sep w hcells hbk hN hcap hlen
/-- n rows of m bytes, each in a block of its own (bs: the blocks and the rows' capacities), all younger than w3 -/
structure Grid_ (w3 w : World) (g n m : Nat) (bs : List (Nat × Nat)) (rows : List (List Int)) : Prop where
 below : Below w3.heap.size w3 w
 base : w3.heap.size ≤ g
 outer : ∃ cur : Array Value, w.heap[g]? = some (.cells cur 40 (0, 0)) ∧ n ≤ cur.size ∧ ∀ (i : Nat) (b : Nat × Nat), bs[i]? = some b → cur[i]? = some (.slice (some ⟨b.1, 0, none⟩) m b.2)
 len : bs.length = rows.length
 inner : ∀ (i : Nat) (b : Nat × Nat) (row : List Int), bs[i]? = some b → rows[i]? = some row → b.1 ≠ g ∧ w3.heap.size ≤ b.1 ∧ row.length = m ∧ m ≤ b.2 ∧ ∃ cur : Array Value, w.heap[b.1]? = some (.cells cur 5 (cur.size, cur.size + 1)) ∧ m ≤ cur.size ∧ ∀ j, j < m → cur[j]? = some (.int .u8 (row.getD j 0))
 apart : ∀ (i j : Nat) (b c : Nat × Nat), bs[i]? = some b → bs[j]? = some c → b.1 = c.1 → i = j
namespace Grid_
variable {w3 w W : World} {g n m : Nat} {bs : List (Nat × Nat)} {rows : List (List Int)}
theorem later (h : Grid_ w3 w g n m bs rows) (hb : Below w.heap.size w W) : Grid_ w3 W g n m bs rows := by
 refine ⟨below_then h.below h.below.size hb, h.base, ?_, h.len, fun i b row h1 h2 => ?_, h.apart⟩
 ·obtain ⟨cur, h1, h2⟩ := h.outer
  exact ⟨cur, blk_below h1 hb, h2⟩
 ·obtain ⟨q1, q2, q3, q4, cur, q5, q6⟩ := h.inner i b row h1 h2
  exact ⟨q1, q2, q3, q4, cur, blk_below q5 hb, q6⟩
theorem slot (h : Grid_ w3 w g n m bs rows) {i : Nat} (hi : i < n) : (∃ u, w.cell? ⟨g, i, none⟩ = some u) ∧ w.frozen? ⟨g, i, none⟩ = false := by
 obtain ⟨cur, h1, h2, _⟩ := h.outer
 exact ⟨⟨cur[i], by rw [blk_cell h1]; exact Array.getElem?_eq_getElem (by omega)⟩, blk_frozen h1 _⟩
theorem row (h : Grid_ w3 w g n m bs rows) {i : Nat} {b : Nat × Nat} (hb : bs[i]? = some b) : w.cell? ⟨g, i, none⟩ = some (.slice (some ⟨b.1, 0, none⟩) m b.2) := by
 obtain ⟨cur, h1, _, h2⟩ := h.outer
 rw [blk_cell h1]
 exact h2 i b hb
theorem cell (h : Grid_ w3 w g n m bs rows) {i x : Nat} {b : Nat × Nat} {row : List Int} (hb : bs[i]? = some b) (hr : rows[i]? = some row) (hx : x < m) : w.cell? ⟨b.1, x, none⟩ = some (.int .u8 (row.getD x 0)) ∧ w.frozen? ⟨b.1, x, none⟩ = false := by
 obtain ⟨_, _, _, _, cur, h1, h2, h3⟩ := h.inner i b row hb hr
 exact ⟨by rw [← h3 x hx]; simp [World.cell?, h1], by simp [World.frozen?, h1]; omega⟩
theorem push (h : Grid_ w3 w g n m bs rows) (hn : bs.length < n) (hb : Below w.heap.size w W) {b c : Nat} {row : List Int} {cur : Array Value} (hnew : w.heap.size ≤ b)
  (hcur : W.heap[b]? = some (.cells cur 5 (cur.size, cur.size + 1))) (hm : m ≤ cur.size) (hrow : row.length = m) (hc : m ≤ c) (hcell : ∀ j, j < m → cur[j]? = some (.int .u8 (row.getD j 0))) :
  Grid_ w3 (W.setCell ⟨g, bs.length, none⟩ (.slice (some ⟨b, 0, none⟩) m c)) g n m (bs ++ [(b, c)]) (rows ++ [row]) := by
 have h' := h.later hb
 obtain ⟨oc, o1, o2, o3⟩ := h'.outer
 obtain ⟨oc0, o10, _⟩ := h.outer
 have hgb : b ≠ g := by have := blk_lt o10; omega
 have hold : ∀ (i : Nat) (b' : Nat × Nat), bs[i]? = some b' → b'.1 < b := by
  intro i b' hi
  obtain ⟨r', hr'⟩ : ∃ r', rows[i]? = some r' := ⟨_, List.getElem?_eq_getElem (by rw [← h.len]; exact (List.getElem?_eq_some_iff.1 hi).1)⟩
  obtain ⟨_, _, _, _, c1, hc1, _⟩ := h.inner i b' r' hi hr'
  have := blk_lt hc1
  omega
 have hl3 := h.below.size
 refine ⟨below_set h'.below h.base, h.base, ⟨oc.setIfInBounds bs.length (.slice (some ⟨b, 0, none⟩) m c), blk_set o1 _ _, by simpa using o2, fun i b' hi => ?_⟩, by simp [h.len], fun i b' row' hi hr => ?_, fun i j b' c' hi hj he => ?_⟩
 ·rw [Array.getElem?_setIfInBounds]
  rcases Nat.lt_trichotomy i bs.length with hlt | rfl | hgt
  ·rw [List.getElem?_append_left hlt] at hi
   rw [if_neg (by omega)]
   exact o3 i b' hi
  ·rw [List.getElem?_append_right (Nat.le_refl _), Nat.sub_self] at hi
   simp only [List.getElem?_cons_zero, Option.some.injEq] at hi
   subst hi
   rw [if_pos rfl, if_pos (by omega)]
  ·rw [List.getElem?_append_right (by omega)] at hi
   rw [List.getElem?_eq_none (by simp; omega)] at hi
   cases hi
 ·rcases Nat.lt_trichotomy i bs.length with hlt | rfl | hgt
  ·rw [List.getElem?_append_left hlt] at hi
   rw [List.getElem?_append_left (by rw [← h.len]; exact hlt)] at hr
   obtain ⟨q1, q2, q3, q4, c1, q5, q6⟩ := h'.inner i b' row' hi hr
   exact ⟨q1, q2, q3, q4, c1, (Below.heap_setCell _ _ _ _ q1).trans q5, q6⟩
  ·rw [List.getElem?_append_right (Nat.le_refl _), Nat.sub_self] at hi
   rw [List.getElem?_append_right (by rw [h.len]; exact Nat.le_refl _), h.len, Nat.sub_self] at hr
   simp only [List.getElem?_cons_zero, Option.some.injEq] at hi hr
   subst hi
   subst hr
   exact ⟨hgb, by omega, hrow, hc, cur, (Below.heap_setCell _ _ _ _ hgb).trans hcur, hm, hcell⟩
  ·rw [List.getElem?_append_right (by omega)] at hi
   rw [List.getElem?_eq_none (by simp; omega)] at hi
   cases hi
 ·have key : ∀ (i : Nat) (b' : Nat × Nat), (bs ++ [(b, c)])[i]? = some b' → (i < bs.length ∧ bs[i]? = some b') ∨ (i = bs.length ∧ b'.1 = b) := by
   intro i b' hi
   rcases Nat.lt_trichotomy i bs.length with hlt | rfl | hgt
   ·rw [List.getElem?_append_left hlt] at hi
    exact .inl ⟨hlt, hi⟩
   ·rw [List.getElem?_append_right (Nat.le_refl _), Nat.sub_self] at hi
    simp only [List.getElem?_cons_zero, Option.some.injEq] at hi
    subst hi
    exact .inr ⟨rfl, rfl⟩
   ·rw [List.getElem?_append_right (by omega)] at hi
    rw [List.getElem?_eq_none (by simp; omega)] at hi
    cases hi
  rcases key i b' hi with ⟨a1, a2⟩ | ⟨a1, a2⟩ <;> rcases key j c' hj with ⟨e1, e2⟩ | ⟨e1, e2⟩
  ·exact h.apart i j b' c' a2 e2 he
  ·have := hold i b' a2; omega
  ·have := hold j c' e2; omega
  ·omega
theorem mark (h : Grid_ w3 w g n m bs rows) {y x : Nat} {b : Nat × Nat} {row : List Int} (hb : bs[y]? = some b) (hr : rows[y]? = some row) (hx : x < m) (u : Int) :
  Grid_ w3 (w.setCell ⟨b.1, x, none⟩ (.int .u8 u)) g n m bs (rows.set y (row.set x u)) := by
 obtain ⟨p1, p2, p3, p4, pc, p5, p6, p7⟩ := h.inner y b row hb hr
 refine ⟨below_set h.below p2, h.base, ?_, by rw [List.length_set]; exact h.len, fun i b' row' hi hr' => ?_, h.apart⟩
 ·obtain ⟨cur, h1, h2⟩ := h.outer
  exact ⟨cur, (Below.heap_setCell _ _ _ _ (Ne.symm p1)).trans h1, h2⟩
 ·by_cases hiy : i = y
  ·subst hiy
   rw [hb] at hi
   injection hi with hi
   subst hi
   rw [List.getElem?_set_self (List.getElem?_eq_some_iff.1 hr).1] at hr'
   injection hr' with hr'
   subst hr'
   refine ⟨p1, p2, by rw [List.length_set]; exact p3, p4, pc.setIfInBounds x (.int .u8 u), by simp [World.setCell, Array.getElem?_modify, p5], by simpa using p6, fun j hj => ?_⟩
   rw [Array.getElem?_setIfInBounds]
   by_cases hjx : x = j
   ·subst hjx
    rw [if_pos rfl, if_pos (by omega), List.getD_eq_getElem?_getD, List.getElem?_set_self (by omega)]; rfl
   ·rw [if_neg hjx, p7 j hj, List.getD_eq_getElem?_getD, List.getD_eq_getElem?_getD, List.getElem?_set_ne hjx]
  ·rw [List.getElem?_set_ne (Ne.symm hiy)] at hr'
   obtain ⟨q1, q2, q3, q4, c1, q5, q6⟩ := h.inner i b' row' hi hr'
   exact ⟨q1, q2, q3, q4, c1, (Below.heap_setCell _ _ _ _ (fun e => hiy (h.apart i y b' b hi hb e))).trans q5, q6⟩
end Grid_
def markRow_ (g : List (List Int)) (c : S57) : List (List Int) := g.set c.f1.toNat ((g.getD c.f1.toNat []).set c.f0.toNat 35)
def textRows_ (n m : Nat) (o : List S57) : List (List Int) := o.foldl markRow_ (List.replicate n (List.replicate m 46))
def joined_ (rows : List (List Int)) : ByteArray := ⟨(Lib.join (rows.map fun r => (strOfNums r).data.toList) [47]).toArray⟩
def impl_shapeText.f (k : Nat) (l0 : List S57) : Option ByteArray :=
 (impl_normal.f k l0).bind fun o => (impl_reach.f k o).bind fun p => if (0 ≤ p.1 ∧ p.1 < 1000000) ∧ (0 ≤ p.2 ∧ p.2 < 1000000) ∧ ∀ c ∈ o, (0 ≤ c.f0 ∧ c.f0 ≤ p.1) ∧ 0 ≤ c.f1 ∧ c.f1 ≤ p.2 then some (joined_ (textRows_ (p.2.toNat + 1) (p.1.toNat + 1) o)) else none
theorem impl_shapeText.mono : ∀ a0 k, LeO (impl_shapeText.f k a0) (impl_shapeText.f (k + 1) a0) := fun a0 k =>
 LeO.bind (impl_normal.mono _ _) fun _ => LeO.bind (impl_reach.mono _ _) fun _ => LeO.refl _
theorem repeat_46 : ∀ m : Nat, (Lib.repeatL (⟨#[46]⟩ : ByteArray).data.toList m) = List.replicate m 46
 | 0 => rfl
 | m + 1 => by rw [Lib.repeatL, repeat_46 m]; rfl
theorem st_ite_ {c : Prop} [Decidable c] {α : Type} {x : Option α} {r : α} (h : (if c then x else none) = some r) : c ∧ x = some r := by
 by_cases g : c
 ·rw [if_pos g] at h; exact ⟨g, h⟩
 ·rw [if_neg g] at h; cases h
theorem join_le_ (m : Nat) : ∀ (xs : List (List UInt8)), (∀ x ∈ xs, x.length ≤ m) → (Lib.join xs [47]).length ≤ xs.length * (m + 1)
 | [], _ => by rw [Lib.join_nil]; exact Nat.zero_le _
 | x :: r, h => by
  have hx := h x (List.mem_cons_self ..)
  have ht : (Lib.joinTail [47] r).length ≤ r.length * (m + 1) := by
   have : ∀ q : List (List UInt8), (∀ x ∈ q, x.length ≤ m) → (Lib.joinTail [47] q).length ≤ q.length * (m + 1) := by
    intro q
    induction q with
    | nil => intro _; exact Nat.zero_le _
    | cons y q ih =>
     intro hq
     have h1 := ih (fun x hx => hq x (List.mem_cons_of_mem _ hx))
     have h2 := hq y (List.mem_cons_self ..)
     unfold Lib.joinTail at h1 ⊢
     rw [List.map_cons, List.flatten_cons, List.length_append, List.length_append, List.length_cons, List.length_cons, Nat.succ_mul]
     simp only [List.length_nil]
     omega
   exact this r (fun x hx => h x (List.mem_cons_of_mem _ hx))
  rw [Lib.join_cons, List.length_append, List.length_cons, Nat.succ_mul]
  omega
def shapeText_T12_ : Bool × List (List Nat × List Nat) := (true, [([], []), ([], []), ([1], [1]), ([0, 2], [0, 2]), ([3], [3]), ([], []), ([5], [5]), ([4, 6, 0, 1, 2, 3, 4, 5, 6], [4, 6]), ([7, 0, 1, 2, 3, 4, 5, 6], [7])])
def shapeText_B12_ : List Nat := [0, 0, 2, 7, 15, 0, 32, 127, 255]
theorem shapeText_tab12_ : rtab .any (opsOf Try.f85 12) = shapeText_T12_ := by kernel_rfl
theorem shapeText_bits12_ : waitsOk shapeText_T12_.2 shapeText_B12_ = true := by kernel_rfl
theorem infoR_ : (Try.prog.info? 40).map (fun i => (i.zero, i.size, i.bytes)) = some (some (.slice none 0 0), 1, 24) := by kernel_rfl
theorem infoS_ : (Try.prog.info? 9).map (fun i => (i.zero, i.size, i.bytes)) = some (some (.string ⟨#[]⟩), 1, 16) := by kernel_rfl
set_option maxHeartbeats 8000000 in
set_option maxRecDepth 100000 in
theorem impl_shapeText.calls (k : Nat) (A0 : Option Addr) (c0 : Nat) (l0 : List S57) (r : ByteArray) (w : World) (hr0 : Kd.C k57 w A0 l0.length l0) (hc0 : l0.length ≤ c0) (h : impl_shapeText.f k l0 = some r) :
  Calls Try.prog 85 #[.slice A0 l0.length c0] w fun e w' => e = .returned (.string r) ∧ Below w.heap.size w w' := by
 have hu1 := Try.underlying57
 have hu2 := Try.underlying30
 have hu3 := Try.underlying98
 have hu4 := Try.underlying40
 have hu5 := Try.underlying100
 obtain ⟨o, h1, g1⟩ := Option.bind_eq_some_iff.mp h
 obtain ⟨⟨r1, r2⟩, h2, g2⟩ := Option.bind_eq_some_iff.mp g1
 obtain ⟨⟨⟨p1, q1⟩, ⟨p2, q2⟩, hall⟩, g3⟩ := st_ite_ g2
 simp only at p1 q1 p2 q2 hall
 have g4 := Option.some.inj g3
 subst g4
 clear h g1 g2 g3
 obtain ⟨m, hm⟩ : ∃ m : Nat, (m : Int) = r1 + 1 := ⟨(r1 + 1).toNat, by omega⟩
 obtain ⟨n, hn⟩ : ∃ n : Nat, (n : Int) = r2 + 1 := ⟨(r2 + 1).toNat, by omega⟩
 rw [show r2.toNat + 1 = n by omega, show r1.toNat + 1 = m by omega]
 have hw1 : IntKind.i64.wrap (r1 + 1) = (m : Int) := by rw [hm]; exact (i64_w _).trans (by unfold wrap64; omega)
 have hw2 : IntKind.i64.wrap (r2 + 1) = (n : Int) := by rw [hn]; exact (i64_w _).trans (by unfold wrap64; omega)
 have H2 := Aside0.mk h2
 have HALL := Aside0.mk hall
 have HM := Aside0.mk (show (m : Int) = r1 + 1 ∧ m ≤ 1000000 by omega)
 have HN := Aside0.mk (show (n : Int) = r2 + 1 ∧ 0 < n ∧ n ≤ 1000000 by omega)
 clear h2 hall hm hn p1 q1 p2 q2
 go_enter Try.func85, Try.ntmps85
 go_wp2_with fail
 refine (impl_normal.calls k _ _ l0 o _ hr0 hc0 h1).mono ?_
 rintro e w1 ⟨v0, rfl, hR, hb1⟩
 obtain ⟨Ao, co, rfl⟩ := Kd.R_slice hR
 have HO := Aside0.mk (Kd.R_reads' hR).2.2
 have HOL := Aside0.mk (Kd.R_reads' hR).2.1
 have HOM := Aside0.mk (show o.length ≤ 9223372036854775807 from (Kd.R_reads' hR).2.2.2.1)
 have HB := Aside0.mk hb1
 clear hR hb1 h1 hr0
 go_wp2_with fail
 refine (impl_reach.calls k _ _ o r1 r2 _ HO.out HOL.out H2.out).mono ?_
 rintro e w2 ⟨rfl, hb2⟩
 replace HO := Aside0.mk (Kd.C_below HO.out hb2)
 replace HB := Aside0.mk (below_step HB.out hb2)
 clear hb2 H2
 go_wp2_with (first | ((with_reducible refine gate_dst (N := 19) rfl ?_); generalize hW3 : w2.alloc _ = w3; generalize hL : w2.heap.size = L; have hbL : w3.heap[L]? = some (.cells #[.int .i64 r1, .int .i64 r2] 57 (0, 0)) := (by rw [← hW3, ← hL]; exact blk_new _ _); have hb3 : Below w2.heap.size w2 w3 := (by rw [← hW3]; exact below_alloc (Below.refl _ _) _); clear hW3 hL; replace HO := Aside0.mk (Kd.C_below HO.out hb3); replace HB := Aside0.mk (below_step HB.out hb3); have HBL := Aside0.mk hbL; clear hb3 hbL; refine Kd.R_make (Kd.raw 1) _ 40 rfl (N := 19) rfl 98 _ _ rfl (n : Int) rfl rfl Try.underlying98 (.slice none 0 0) 24 infoR_ rfl (by decide) (by omega) ([.slice none 0 0]) (ok := fun _ => True) (okp := fun _ => True) ⟨rfl, rfl, (fun u hu => by simp [Value.cells] at hu; subst hu; rfl)⟩ (fun _ hk => hk) trivial (by omega) (by have := HN.out; omega) (Below.refl _ _) (Nat.le_refl _) ?_; intro v4 w4 ho4 hb4 hg_ hnew_; clear hg_ hnew_))
 obtain ⟨_, inner, hown, _⟩ := ho4
 rw [List.length_replicate, Int.toNat_natCast] at hown
 rcases hown.2 with ⟨_, hz⟩ | ⟨g, cap, cur0, rfl, hg, hblk, hnc, _, hcs, _⟩
 ·exact absurd hz (by have := HN.out; omega)
 have hcs' : cur0.size = cap := by rw [hcs]; exact Nat.mul_one _
 have HG0 := Aside0.mk (show Grid_ w3 w4 g n m [] [] from ⟨hb4, hg, ⟨cur0, hblk, by omega, fun i b hi => by simp at hi⟩, rfl, fun i b row hi => by simp at hi, fun i j b c hi => by simp at hi⟩)
 clear hown hblk hnc hcs hcs' hg hb4
 go_wp2_with fail
 go_loopg [22] n (fun gk v22 wr => ∃ (bs : List (Nat × Nat)) (rows : List (List Int)), v22 = .int .i64 (bs.length : Int) ∧ Aside0 (gk + bs.length = n) ∧ Aside0 (rows = List.replicate bs.length (List.replicate m 46)) ∧ Aside0 (Grid_ w3 wr g n m bs rows))
 case atStart => exact ⟨[], [], rfl, ⟨rfl⟩, ⟨rfl⟩, HG0⟩
 case round =>
  clear HG0
  obtain ⟨bs, rows, rfl, HI, HRO, HG⟩ := hrel
  cases gk with
  | zero =>
   have hi : bs.length = n := by have := HI.out; omega
   have d1 : decide ((bs.length : Int) < (n : Int)) = false := decide_eq_false (by omega)
   have d2 : decide (bs.length < n) = false := decide_eq_false (by omega)
   have HBN := Aside0.mk hi
   clear HI hi
   go_wp2_with fail
   go_loopg [36] o.length (fun gk v36 wr => ∃ (i : Nat) (rows : List (List Int)), v36 = .int .i64 (i : Int) ∧ Aside0 (gk + i = o.length) ∧ Aside0 (rows = (o.take i).foldl markRow_ (List.replicate n (List.replicate m 46))) ∧ Aside0 (Grid_ w3 wr g n m bs rows))
   case atStart => exact ⟨0, rows, rfl, ⟨rfl⟩, ⟨by rw [HRO.out, HBN.out]; rfl⟩, HG⟩
   case round =>
    clear HG HRO
    obtain ⟨i, rows, rfl, HI, HRO, HG⟩ := hrel
    cases gk with
    | zero =>
     have hi : i = o.length := by have := HI.out; omega
     have d1 : decide ((i : Int) < (o.length : Int)) = false := decide_eq_false (by omega)
     have d2 : decide (i < o.length) = false := decide_eq_false (by omega)
     replace HRO := Aside0.mk (show rows = textRows_ n m o by rw [HRO.out, hi, List.take_length]; rfl)
     clear HI hi
     have HB8 := Aside0.mk (below_step HB.out HG.out.below)
     clear HB HO HOL HBL HALL HOM
     generalize wr = w8 at *
     go_wp2_with (first | ((with_reducible refine gate_dst (N := 51) rfl ?_); refine Kd.R_make Kd.string _ 9 rfl (N := 51) rfl 100 _ _ rfl (n : Int) rfl rfl Try.underlying100 (.string ⟨#[]⟩) 16 infoS_ rfl (by decide) (by omega) (⟨#[]⟩ : ByteArray) (ok := fun _ => True) (okp := fun _ => True) rfl (fun _ hk => hk) trivial (by omega) (by have := HN.out; omega) (Below.refl _ _) (Nat.le_refl _) ?_; intro v9 w9 ho9 hb9 hg_ hnew_; clear hg_ hnew_))
     rw [Int.toNat_natCast] at ho9
     obtain ⟨g9, c9, e9, hg9, _⟩ := Kd.R_form ho9 (by rw [List.length_replicate]; have := HN.out; omega)
     rw [List.length_replicate] at e9
     subst e9
     go_wp2_with fail
     go_loopg [54] n (fun gk v54 wq => ∃ (i : Nat) (xs : List ByteArray), v54 = .int .i64 (i : Int) ∧ Aside0 (gk + i = n) ∧ Aside0 (xs.length = n) ∧ Aside0 (∀ j, j < i → xs[j]? = (rows[j]?).map strOfNums) ∧ Aside0 (Kd.R Kd.string 9 wq w8.heap.size (fun _ => True) (.slice (some ⟨g9, 0, none⟩) n c9) xs) ∧ Aside0 (Below w8.heap.size w8 wq))
     case atStart => exact ⟨0, _, rfl, ⟨rfl⟩, ⟨List.length_replicate ..⟩, ⟨fun j hj => absurd hj (Nat.not_lt_zero _)⟩, ⟨ho9⟩, ⟨hb9⟩⟩
     case round =>
      clear ho9 hb9
      obtain ⟨i, xs, rfl, HI, HXL, HX, HS, HB9⟩ := hrel
      cases gk with
      | zero =>
       have hi : i = n := by have := HI.out; omega
       have d1 : decide ((i : Int) < (n : Int)) = false := decide_eq_false (by omega)
       have d2 : decide (i < n) = false := decide_eq_false (by omega)
       have hrl : rows.length = n := by rw [← HG.out.len]; exact HBN.out
       have hxs : xs = rows.map strOfNums := by
        apply List.ext_getElem?
        intro j
        rcases Nat.lt_or_ge j n with hj | hj
        ·rw [HX.out j (by omega), List.getElem?_map]
        ·rw [List.getElem?_eq_none (by rw [HXL.out]; exact hj), List.getElem?_eq_none (by rw [List.length_map, hrl]; exact hj)]
       have hrm : ∀ r ∈ rows, r.length = m := by
        intro r hr
        obtain ⟨j, hj⟩ := List.getElem?_of_mem hr
        have hjl := (List.getElem?_eq_some_iff.1 hj).1
        obtain ⟨_, _, h3, _⟩ := HG.out.inner j (bs[j]'(by rw [HG.out.len]; exact hjl)) r (List.getElem?_eq_getElem (by rw [HG.out.len]; exact hjl)) hj
        exact h3
       have hjl : (Lib.join (xs.map (·.data.toList)) (⟨#[47]⟩ : ByteArray).data.toList).length ≤ 140737488355328 := by
        have h1 := join_le_ m (xs.map (·.data.toList)) (fun x hx => by
         rw [hxs, List.map_map] at hx
         obtain ⟨r, hr, rfl⟩ := List.mem_map.1 hx
         show (strOfNums r).data.toList.length ≤ m
         rw [strOfNums_data, List.length_map, hrm r hr]; exact Nat.le_refl _)
        rw [List.length_map, HXL.out] at h1
        have h2 : n * (m + 1) ≤ 1000000 * 1000001 := Nat.mul_le_mul HN.out.2.2 (by have := HM.out; omega)
        exact Nat.le_trans h1 (by omega)
       have hJ := strings_Join_ g9 0 c9 xs ⟨#[47]⟩ wr (fun j x hj => by
        have hjl := (List.getElem?_eq_some_iff.1 hj).1
        have h1 := (Kd.R_celln (⟨#[]⟩ : ByteArray) HS.out (j : Int) (by omega) (by rw [← HXL.out]; omega)).1
        rw [Int.toNat_natCast] at h1
        rw [Nat.zero_add, h1]
        unfold rdOf
        rw [Int.toNat_natCast, List.getD_eq_getElem?_getD, hj]; rfl) (Kd.R_lt HS.out g9 (by simp [Value.ownBlock])) (by rw [HXL.out]; have := HN.out; omega) (by rw [HXL.out]; exact (Kd.R_reads' HS.out).2.1) hjl
       rw [HXL.out] at hJ
       have HJ := Aside0.mk hJ
       have HJE := Aside0.mk (show (⟨(Lib.join (xs.map (·.data.toList)) (⟨#[47]⟩ : ByteArray).data.toList).toArray⟩ : ByteArray) = joined_ (textRows_ n m o) by rw [hxs, ← HRO.out, List.map_map]; rfl)
       have HB10 := Aside0.mk (below_step HB8.out HB9.out)
       clear hJ hxs hrm hjl hrl HI HX HS HB9 HB8 hi HG HRO
       go_wp2_with fail
       refine HJ.out.mono ?_
       rintro e w10 ⟨rfl, hb10⟩
       have HB11 := Aside0.mk (below_step HB10.out hb10)
       rw [HJE.out]
       clear HJ HJE HB10 hb10
       go_wp2_with fail
       go_ret
       exact ⟨rfl, HB11.out⟩
      | succ gk1 =>
       have hi : i < n := by have := HI.out; omega
       have HI2 := Aside0.mk (show gk1 + (i + 1) = n by have := HI.out; omega)
       have p0 : 0 ≤ (i : Int) := by omega
       have q0 : (i : Int) < (n : Int) := by omega
       have d1 : decide ((i : Int) < (n : Int)) = true := decide_eq_true q0
       have d2 : decide (i < n) = true := decide_eq_true hi
       have hib : i < bs.length := by rw [HBN.out]; exact hi
       obtain ⟨b, hb⟩ : ∃ b, bs[i]? = some b := ⟨_, List.getElem?_eq_getElem hib⟩
       obtain ⟨row, hr⟩ : ∃ row, rows[i]? = some row := ⟨_, List.getElem?_eq_getElem (by rw [← HG.out.len]; exact hib)⟩
       have hG := HG.out.later HB9.out
       have s2 := hG.row hb
       obtain ⟨_, _, hrm, hmc, _⟩ := hG.inner i b row hb hr
       have hcv := run_convert_bytes_arg (P := Try.prog) wr 40 5 hu4 Try.underlying5 b.1 0 m b.2 row hrm (fun j hj => by rw [Nat.zero_add]; exact (hG.cell hb hr hj).1) 9 Try.underlying9
       obtain ⟨hx9, hf9⟩ := Kd.R_celln (⟨#[]⟩ : ByteArray) HS.out (i : Int) p0 q0
       obtain ⟨HP1, HP2⟩ := Kd.R_putg HS.out (i : Int) (strOfNums row)
       rw [Int.toNat_natCast] at hx9 hf9 HP1 HP2
       have HS2 := Aside0.mk HP1
       have HB92 := Aside0.mk (below_set (j := i) (v := .string (strOfNums row)) HB9.out hg9)
       have HXL2 := Aside0.mk (show (xs.set i (strOfNums row)).length = n by rw [List.length_set]; exact HXL.out)
       have HX2 := Aside0.mk (show ∀ j, j < i + 1 → (xs.set i (strOfNums row))[j]? = (rows[j]?).map strOfNums by
        intro j hj
        by_cases hji : j = i
        ·subst hji
         rw [List.getElem?_set_self (by rw [HXL.out]; exact hi), hr]; rfl
        ·rw [List.getElem?_set_ne (Ne.symm hji)]
         exact HX.out j (by omega))
       have hwi : wrap64 ((i : Int) + 1) = ((i + 1 : Nat) : Int) := by unfold wrap64; have := HN.out; omega
       clear HP1 HP2 HS HB9 HXL HX HI hG hb hr hrm hib
       go_wp2_with fail
       go_roundg gk1
       case measure => omega
       case rel => exact ⟨i + 1, xs.set i (strOfNums row), by rw [hwi], HI2, HXL2, HX2, HS2, HB92⟩
    | succ gk1 =>
     have hi : i < o.length := by have := HI.out; omega
     have HI2 := Aside0.mk (show gk1 + (i + 1) = o.length by have := HI.out; omega)
     have p0 : 0 ≤ (i : Int) := by omega
     have q0 : (i : Int) < (o.length : Int) := by omega
     have d1 : decide ((i : Int) < (o.length : Int)) = true := decide_eq_true q0
     have d2 : decide (i < o.length) = true := decide_eq_true hi
     have hbig : o.length ≤ co := HOL.out
     obtain ⟨ad, eA, hx0, hx1⟩ := at_T57 (Kd.C_below HO.out HG.out.below) (i : Int) p0 q0
     subst eA
     rw [Int.toNat_natCast] at hx0 hx1
     have hce : rd_T57 o (i : Int) = o[i] := by unfold rd_T57; rw [Int.toNat_natCast, List.getD_eq_getElem?_getD, List.getElem?_eq_getElem hi]; rfl
     obtain ⟨⟨x0, x1⟩, y0, y1⟩ := HALL.out _ (List.getElem_mem hi)
     have htk : (o.take (i + 1)).foldl markRow_ (List.replicate n (List.replicate m 46)) = markRow_ rows o[i] := by
      rw [List.take_add_one, List.foldl_append, ← HRO.out, List.getElem?_eq_getElem hi]; rfl
     rw [← hce] at x0 x1 y0 y1 htk
     clear hce
     generalize rd_T57 o (i : Int) = c at *
     have pY : 0 ≤ c.f1 := y0
     have qY : c.f1 < (n : Int) := by have := HN.out; omega
     have pX : 0 ≤ c.f0 := x0
     have qX : c.f0 < (m : Int) := by have := HM.out; omega
     have hyb : c.f1.toNat < bs.length := by have := HBN.out; omega
     obtain ⟨b, hb⟩ : ∃ b, bs[c.f1.toNat]? = some b := ⟨_, List.getElem?_eq_getElem hyb⟩
     obtain ⟨row, hr⟩ : ∃ row, rows[c.f1.toNat]? = some row := ⟨_, List.getElem?_eq_getElem (by rw [← HG.out.len]; exact hyb)⟩
     have hwi : wrap64 ((i : Int) + 1) = ((i + 1 : Nat) : Int) := by unfold wrap64; have := HOL.out; have := HOM.out; omega
     go_wp2_with fail
     generalize hW : wr.alloc _ = W6
     generalize hL2 : wr.heap.size = L2
     have hbk6 : W6.drew.heap[L2]? = some (.cells #[.int .i64 c.f0, .int .i64 c.f1] 57 (0, 0)) := blk_drew (by rw [← hW, ← hL2]; exact blk_new _ _)
     have hb6 : Below wr.heap.size wr W6.drew := below_drew (by rw [← hW]; exact below_alloc (Below.refl _ _) _)
     have s0 : W6.drew.cell? ⟨L2, 0, none⟩ = some (.int .i64 c.f0) := (blk_cell hbk6 0).trans rfl
     have s1 : W6.drew.cell? ⟨L2, 1, none⟩ = some (.int .i64 c.f1) := (blk_cell hbk6 1).trans rfl
     have hG6 := HG.out.later hb6
     have s2 := hG6.row hb
     have hxm : c.f0.toNat < m := by omega
     obtain ⟨hst, hfr⟩ := hG6.cell hb hr hxm
     have hmk : markRow_ rows c = rows.set c.f1.toNat (row.set c.f0.toNat 35) := by unfold markRow_; rw [List.getD_eq_getElem?_getD, hr]; rfl
     have HG7 := Aside0.mk (hG6.mark hb hr hxm 35)
     rw [← hmk] at HG7
     replace HRO := Aside0.mk htk.symm
     clear hW hL2 hbk6 hb6 hG6 hx0 hx1 hb hr hmk htk HI HG hbig x0 x1 y0 y1
     replace pX := eq_true pX
     replace qX := eq_true qX
     replace pY := eq_true pY
     replace qY := eq_true qY
     refine start_ (n := 9) (S := fun w' => w'.cell? ⟨L2, 0, none⟩ = some (.int .i64 c.f0) ∧ w'.cell? ⟨L2, 1, none⟩ = some (.int .i64 c.f1) ∧ w'.cell? ⟨g, c.f1.toNat, none⟩ = some (.slice (some ⟨b.1, 0, none⟩) m b.2)) (ds := [8]) #[F, F, F, F, F, F, F, F, F] (by kernel_rfl) rfl rfl ⟨s0, s1, s2⟩ (fun hHeld => ?_); refine with_tabW shapeText_tab12_ shapeText_bits12_ (fun HT_ HW_ => ?_)
     generalize W6.drew = w9 at *
     refine pu_ HT_ 0 (some 40) #[T, F, F, F, F, F, F, F, F] ?_
     refine pu_ HT_ 1 (some 41) #[T, T, F, F, F, F, F, F, F] ?_
     refine take_ (i := 2) (N := some 42) (v := ?_) (a' := ?_) #[T, T, T, F, F, F, F, F, F] rfl rfl (take_ofW HT_.out HW_.out (by kernel_rfl)) (fun _ _ _ h => h) (Or.inl ⟨by rfl, ?_⟩) hHeld ?_ ?_
     rotate_left
     ·rintro w' ⟨s0, s1, s2⟩
      go_simp
      with_reducible rfl
     rotate_left
     ·simp only [Act.put, List.setIfInBounds_toArray, List.set_cons_zero, List.set_cons_succ, i64_w, i32_w]
      rfl
     refine pu_ HT_ 3 (some 43) #[T, T, T, T, F, F, F, F, F] ?_
     refine take_ (i := 4) (N := some 44) (v := ?_) (a' := ?_) #[T, T, T, T, T, F, F, F, F] rfl rfl (take_ofW HT_.out HW_.out (by kernel_rfl)) (fun _ _ _ h => h) (Or.inl ⟨by rfl, ?_⟩) hHeld ?_ ?_
     rotate_left
     ·rintro w' ⟨s0, s1, s2⟩
      go_simp
      with_reducible rfl
     rotate_left
     ·simp only [Act.put, List.setIfInBounds_toArray, List.set_cons_zero, List.set_cons_succ, i64_w, i32_w]
      rfl
     refine pu_ HT_ 5 (some 45) #[T, T, T, T, T, T, F, F, F] ?_
     refine take_ (i := 6) (N := some 46) (v := ?_) (a' := ?_) #[T, T, T, T, T, T, T, F, F] rfl rfl (take_ofW HT_.out HW_.out (by kernel_rfl)) (fun _ _ _ h => h) (Or.inl ⟨by rfl, ?_⟩) hHeld ?_ ?_
     rotate_left
     ·rintro w' ⟨s0, s1, s2⟩
      go_simp
      with_reducible rfl
     rotate_left
     ·simp only [Act.put, List.setIfInBounds_toArray, List.set_cons_zero, List.set_cons_succ, i64_w, i32_w]
      rfl
     refine pu_ HT_ 7 (some 47) #[T, T, T, T, T, T, T, T, F] ?_
     refine last_ (i := 8) (N := none) #[T, T, T, T, T, T, T, T, T] rfl rfl (one_of HT_.out (by kernel_rfl)) (by decide) (fun K hK => ?_)
     refine skip_ (w1 := ?_) (by rfl) rfl ?_ ?_
     rotate_left
     ·go_simp
      rfl
     refine hK.out _ _ ?_
     clear hK K
     refine done_ (done_of HT_.out (by kernel_rfl)) ?_
     clear hst hfr s0 s1 s2 hHeld HT_ HW_
     go_wp2_with fail
     go_roundg gk1
     case measure => omega
     case rel => exact ⟨i + 1, markRow_ rows c, by rw [hwi], HI2, HRO, HG7⟩
  | succ gk1 =>
   have hi : bs.length < n := by have := HI.out; omega
   have pn : (bs.length : Int) < (n : Int) := by omega
   have p0 : 0 ≤ (bs.length : Int) := by omega
   have d1 : decide ((bs.length : Int) < (n : Int)) = true := decide_eq_true pn
   have d2 : decide (bs.length < n) = true := decide_eq_true hi
   have hbl : wr.heap[L]? = some (.cells #[.int .i64 r1, .int .i64 r2] 57 (0, 0)) := blk_below HBL.out HG.out.below
   have hx0 : wr.cell? ⟨L, 0, none⟩ = some (.int .i64 r1) := (blk_cell hbl 0).trans rfl
   clear hbl
   go_wp2_with fail
   refine (strings_Repeat_ ⟨#[46]⟩ m _ (by have := HM.out; omega) (by have := HM.out; show 1 * m ≤ _; omega)).mono ?_
   rintro e w5 ⟨rfl, hb5⟩
   generalize hs : (⟨(Lib.repeatL (⟨#[46]⟩ : ByteArray).data.toList m).toArray⟩ : ByteArray) = s
   have hsb : s.data.toList = List.replicate m 46 := by rw [← hs]; exact repeat_46 m
   have hsz : s.size = m := by have := congrArg List.length hsb; simpa using this
   have hcv := Lib.run_convert_string_bytes (P := Try.prog) w5 9 40 5 s Try.underlying9 hu4 Try.underlying5
   have hat := Lib.bytesWorld_at_new w5 5 s
   have hcell : ∀ j, j < m → (Lib.bytesCells w5 5 s)[j]? = some (.int .u8 ((List.replicate m (46 : Int)).getD j 0)) := by
    intro j hj
    have h1 := Lib.bytesWorld_cell w5 5 s j (by omega)
    rw [hsb] at h1
    simp only [World.cell?, hat] at h1
    refine h1.trans ?_
    simp [List.getD_eq_getElem?_getD, List.getElem?_replicate, hj]
   have hsz2 : m ≤ (Lib.bytesCells w5 5 s).size := by
    rcases Nat.lt_or_ge (Lib.bytesCells w5 5 s).size m with h | h
    ·have h1 := hcell _ h
     rw [Array.getElem?_eq_none (Nat.le_refl _)] at h1
     cases h1
    ·exact h
   have hb6 : Below w5.heap.size w5 (Lib.bytesWorld w5 5 s) := by
    refine ⟨rfl, rfl, rfl, by rw [Lib.bytesWorld_size]; omega, fun i hi => Lib.bytesWorld_at_old w5 5 s i hi⟩
   have hcap : m ≤ grownCap w5 s.size 0 5 := by rw [← hsz]; exact grownCap_ge w5 s.size 0 5
   rw [hsz] at hcv hcap
   generalize Lib.bytesWorld w5 5 s = w6 at *
   generalize Lib.bytesCells w5 5 s = cur6 at *
   generalize grownCap w5 m 0 5 = c6 at *
   obtain ⟨⟨u0, hx1⟩, hf1⟩ := (HG.out.later (below_step hb5 hb6)).slot hi
   have HG2 := Aside0.mk (HG.out.push hi (below_step hb5 hb6) (b := w5.heap.size) (c := c6) (row := List.replicate m 46) hb5.size hat hsz2 (List.length_replicate ..) hcap hcell)
   have HRO2 := Aside0.mk (show rows ++ [List.replicate m 46] = List.replicate (bs ++ [(w5.heap.size, c6)]).length (List.replicate m 46) by rw [HRO.out, List.length_append]; exact (List.replicate_succ' ..).symm)
   have HI2 := Aside0.mk (show gk1 + (bs ++ [(w5.heap.size, c6)]).length = n by rw [List.length_append]; have := HI.out; simp; omega)
   have hwb : wrap64 ((bs.length : Int) + 1) = (bs.length : Int) + 1 := by unfold wrap64; have := HN.out; omega
   have hlb : ((bs ++ [(w5.heap.size, c6)]).length : Int) = (bs.length : Int) + 1 := by simp
   clear hat hcell hsz2 hb6 hcap hs hsb hsz hb5 HG HRO HI
   go_wp2_with fail
   go_roundg gk1
   case measure => omega
   case rel => exact ⟨bs ++ [(w5.heap.size, c6)], rows ++ [List.replicate m 46], by rw [hlb, hwb], HI2, HRO2, HG2⟩

/-! ### spec_l02Cell: function 103 -/
def spec_l02Cell.f (a0_0 : Int) (a0_1 : Int) : Option (Bool) := (spec_l01In.f a0_0 (-100) 100).bind fun t160 => (if t160 = true then ((spec_l01In.f a0_1 (-100) 100).bind fun t161 => (some t161)) else (some false))
set_option maxHeartbeats 8000000 in
set_option maxRecDepth 100000 in
theorem spec_l02Cell.calls (a0_0 : Int) (a0_1 : Int) (r : Bool) (w : World) (h : spec_l02Cell.f a0_0 a0_1 = some r) :
  Calls Try.prog 103 #[.agg #[.int .i64 a0_0, .int .i64 a0_1]] w fun e w' => e = .returned (.bool r) ∧ Below w.heap.size w w' := by
 have hu57 := Try.underlying57
 have HB := Aside0.mk (Below.refl w.heap.size w)
 have H : ((spec_l01In.f a0_0 (-100) 100).bind fun t160 => (if t160 = true then ((spec_l01In.f a0_1 (-100) 100).bind fun t161 => (some t161)) else (some false))) = some r := h
 clear h
 replace H := Option.bind_eq_some_iff.mp H
 obtain ⟨t160, A20, H⟩ := H
 try dsimp only at H
 have A2 := Aside0.mk A20
 clear A20
 by_cases c3 : t160 = true
 ·subst c3
  have H1 : ((spec_l01In.f a0_1 (-100) 100).bind fun t161 => (some t161)) = some r := by rw [if_pos rfl] at H; exact H
  clear H
  have H := H1
  clear H1
  replace H := Option.bind_eq_some_iff.mp H
  obtain ⟨t161, A40, H⟩ := H
  try dsimp only at H
  have A4 := Aside0.mk A40
  clear A40
  obtain rfl := Option.some.inj H
  go_enter Try.func103, Try.ntmps103
  go_wp2_with (first | ((with_reducible refine gate_dst (N := 1) rfl ?_); refine box_event ?hg (N := 1) ?hd (cs := #[.int .i64 a0_0, .int .i64 a0_1]) (t := 57) ?hr ?_; (case hd => rfl); (case hg => rfl); (case hr => first | (go_simp; done) | (go_simp; rfl)); intro gb159 hg w5 hbox hb; have BK159 := Aside0.mk (hbox); have GW159 := Aside0.mk ((by rw [hg]; exact (below_size bB_) : w.heap.size ≤ gb159)); have GE159 := Aside0.mk ((by rw [hg]; exact (below_size bB_) : w.heap.size ≤ gb159)); replace HB := Aside0.mk (below_step bB_ hb); clear hb hbox hg; have hcz6_0 : w5.cell? ⟨gb159, 0, none⟩ = some (.int .i64 a0_0) := (blk_cell BK159.out 0).trans rfl; have hcz6_1 : w5.cell? ⟨gb159, 1, none⟩ = some (.int .i64 a0_1) := (blk_cell BK159.out 1).trans rfl; have hfz6_0 := blk_frozen BK159.out 0; have hfz6_1 := blk_frozen BK159.out 1) | ((with_reducible refine gate_callee (f := 100) rfl ?_); refine gL_ (some 5) Try.func100 #[.int .i64 a0_0, .int .i64 (-100), .int .i64 100] ?_; (with_reducible refine (spec_l01In.calls a0_0 (-100) 100 true _ A2.out).mono ?_); rintro e w' ⟨rfl, ⟨nd, rfl⟩⟩; refine ⟨_, rfl, ?_⟩) | (go_at_call 100; (with_reducible refine (spec_l01In.calls a0_1 (-100) 100 t161 _ A4.out).mono ?_); rintro e w' ⟨rfl, ⟨nd, rfl⟩⟩))
  go_ret
  exact ⟨r2_, by repeat (first | (with_reducible first | exact HB.out | apply below_alloc | apply pw_below_drewN | apply below_drew1 | refine below_set ?_ GE159.out) | exact HB.out)⟩
 ·replace c3 := Bool.eq_false_iff.mpr c3
  subst c3
  have H1 : (some false) = some r := by rw [if_neg (show ¬ (false = true) by decide)] at H; exact H
  clear H
  have H := H1
  clear H1
  obtain rfl := Option.some.inj H
  go_enter Try.func103, Try.ntmps103
  go_wp2_with (first | ((with_reducible refine gate_dst (N := 1) rfl ?_); refine box_event ?hg (N := 1) ?hd (cs := #[.int .i64 a0_0, .int .i64 a0_1]) (t := 57) ?hr ?_; (case hd => rfl); (case hg => rfl); (case hr => first | (go_simp; done) | (go_simp; rfl)); intro gb159 hg w7 hbox hb; have BK159 := Aside0.mk (hbox); have GW159 := Aside0.mk ((by rw [hg]; exact (below_size bB_) : w.heap.size ≤ gb159)); have GE159 := Aside0.mk ((by rw [hg]; exact (below_size bB_) : w.heap.size ≤ gb159)); replace HB := Aside0.mk (below_step bB_ hb); clear hb hbox hg; have hcz8_0 : w7.cell? ⟨gb159, 0, none⟩ = some (.int .i64 a0_0) := (blk_cell BK159.out 0).trans rfl; have hcz8_1 : w7.cell? ⟨gb159, 1, none⟩ = some (.int .i64 a0_1) := (blk_cell BK159.out 1).trans rfl; have hfz8_0 := blk_frozen BK159.out 0; have hfz8_1 := blk_frozen BK159.out 1) | ((with_reducible refine gate_callee (f := 100) rfl ?_); refine gL_ (some 5) Try.func100 #[.int .i64 a0_0, .int .i64 (-100), .int .i64 100] ?_; (with_reducible refine (spec_l01In.calls a0_0 (-100) 100 false _ A2.out).mono ?_); rintro e w' ⟨rfl, ⟨nd, rfl⟩⟩; refine ⟨_, rfl, ?_⟩))
  go_ret
  exact ⟨r2_, by repeat (first | (with_reducible first | exact HB.out | apply below_alloc | apply pw_below_drewN | apply below_drew1 | refine below_set ?_ GE159.out) | exact HB.out)⟩

/-! ### spec_l02Less: function 104 -/
def spec_l02Less.f (a0_0 : Int) (a0_1 : Int) (a1_0 : Int) (a1_1 : Int) : Option (Bool) := if a0_1 < a1_1 then (some true) else (if a0_1 = a1_1 then (some (decide (a0_0 < a1_0))) else (some false))
set_option maxHeartbeats 8000000 in
set_option maxRecDepth 100000 in
theorem spec_l02Less.calls (a0_0 : Int) (a0_1 : Int) (a1_0 : Int) (a1_1 : Int) (r : Bool) (w : World) (h : spec_l02Less.f a0_0 a0_1 a1_0 a1_1 = some r) :
  Calls Try.prog 104 #[.agg #[.int .i64 a0_0, .int .i64 a0_1], .agg #[.int .i64 a1_0, .int .i64 a1_1]] w fun e w' => e = .returned (.bool r) ∧ Below w.heap.size w w' := by
 have hu57 := Try.underlying57
 have HB := Aside0.mk (Below.refl w.heap.size w)
 have H : (if a0_1 < a1_1 then (some true) else (if a0_1 = a1_1 then (some (decide (a0_0 < a1_0))) else (some false))) = some r := h
 clear h
 by_cases c3 : a0_1 < a1_1
 ·rw [if_pos c3] at H
  have c3b0 : decide (a0_1 < a1_1) = true := decide_eq_true c3
  clear c3
  obtain rfl := Option.some.inj H
  go_enter Try.func104, Try.ntmps104
  go_wp2_with (first | ((with_reducible refine gate_dst (N := 2) rfl ?_); refine box_event ?hg (N := 2) ?hd (cs := #[.int .i64 a0_0, .int .i64 a0_1]) (t := 57) ?hr ?_; (case hd => rfl); (case hg => rfl); (case hr => first | (go_simp; done) | (go_simp; rfl)); intro gb162 hg w4 hbox hb; have BK162 := Aside0.mk (hbox); have GW162 := Aside0.mk ((by rw [hg]; exact (below_size bB_) : w.heap.size ≤ gb162)); have GE162 := Aside0.mk ((by rw [hg]; exact (below_size bB_) : w.heap.size ≤ gb162)); replace HB := Aside0.mk (below_step bB_ hb); clear hb hbox hg) | ((with_reducible refine gate_dst (N := 3) rfl ?_); refine box_event ?hg (N := 3) ?hd (cs := #[.int .i64 a1_0, .int .i64 a1_1]) (t := 57) ?hr ?_; (case hd => rfl); (case hg => rfl); (case hr => first | (go_simp; done) | (go_simp; rfl)); intro gb163 hg w5 hbox hb; have BK163 := Aside0.mk (hbox); have GW163 := Aside0.mk ((by rw [hg]; exact (below_size (by repeat (first | (with_reducible first | exact HB.out | apply below_alloc | apply pw_below_drewN | apply below_drew1 | refine below_set ?_ GE162.out) | exact HB.out))) : w.heap.size ≤ gb163)); have GE163 := Aside0.mk ((by rw [hg]; exact (below_size (by repeat (first | (with_reducible first | exact HB.out | apply below_alloc | apply pw_below_drewN | apply below_drew1 | refine below_set ?_ GE162.out) | exact HB.out))) : w.heap.size ≤ gb163)); replace HB := Aside0.mk (below_step (by repeat (first | (with_reducible first | exact HB.out | apply below_alloc | apply pw_below_drewN | apply below_drew1 | refine below_set ?_ GE162.out) | exact HB.out)) hb); have NB162_163 := Aside0.mk ((by rw [hg]; exact Nat.ne_of_lt (blk_lt (g := gb162) (o := .cells #[.int .i64 a0_0, .int .i64 a0_1] 57 (0, 0)) (by (with_reducible repeat (first | refine blk_drewN ?_ _ | refine blk_drew ?_ | refine blk_alloc ?_ _)); exact BK162.out)) : gb162 ≠ gb163)); have NB163_162 := Aside0.mk ((by rw [hg]; exact Nat.ne_of_gt (blk_lt (g := gb162) (o := .cells #[.int .i64 a0_0, .int .i64 a0_1] 57 (0, 0)) (by (with_reducible repeat (first | refine blk_drewN ?_ _ | refine blk_drew ?_ | refine blk_alloc ?_ _)); exact BK162.out)) : gb163 ≠ gb162)); replace BK162 := Aside0.mk (blk_below (g := gb162) (o := .cells #[.int .i64 a0_0, .int .i64 a0_1] 57 (0, 0)) (by (with_reducible repeat (first | refine blk_drewN ?_ _ | refine blk_drew ?_ | refine blk_alloc ?_ _)); exact BK162.out) hb); clear hb hbox hg; have hnb6 := NB162_163.out; have hnc6 := NB163_162.out; have hcz7_0 : w5.cell? ⟨gb162, 0, none⟩ = some (.int .i64 a0_0) := (blk_cell BK162.out 0).trans rfl; have hcz7_1 : w5.cell? ⟨gb162, 1, none⟩ = some (.int .i64 a0_1) := (blk_cell BK162.out 1).trans rfl; have hfz7_0 := blk_frozen BK162.out 0; have hfz7_1 := blk_frozen BK162.out 1; have hcz8_0 : w5.cell? ⟨gb163, 0, none⟩ = some (.int .i64 a1_0) := (blk_cell BK163.out 0).trans rfl; have hcz8_1 : w5.cell? ⟨gb163, 1, none⟩ = some (.int .i64 a1_1) := (blk_cell BK163.out 1).trans rfl; have hfz8_0 := blk_frozen BK163.out 0; have hfz8_1 := blk_frozen BK163.out 1))
  go_ret
  exact ⟨r2_, by repeat (first | (with_reducible first | exact HB.out | apply below_alloc | apply pw_below_drewN | apply below_drew1 | refine below_set ?_ GE162.out | refine below_set ?_ GE163.out) | exact HB.out)⟩
 ·rw [if_neg c3] at H
  have c3b0 : decide (a0_1 < a1_1) = false := decide_eq_false c3
  clear c3
  by_cases c9 : a0_1 = a1_1
  ·rw [if_pos c9] at H
   have c9b0 : (a0_1 == a1_1) = true := beq_iff_eq.mpr c9
   have c9b1 : (a0_1 != a1_1) = false := bne_eq_false_iff_eq.mpr c9
   clear c9
   obtain rfl := Option.some.inj H
   go_enter Try.func104, Try.ntmps104
   go_wp2_with (first | ((with_reducible refine gate_dst (N := 2) rfl ?_); refine box_event ?hg (N := 2) ?hd (cs := #[.int .i64 a0_0, .int .i64 a0_1]) (t := 57) ?hr ?_; (case hd => rfl); (case hg => rfl); (case hr => first | (go_simp; done) | (go_simp; rfl)); intro gb162 hg w10 hbox hb; have BK162 := Aside0.mk (hbox); have GW162 := Aside0.mk ((by rw [hg]; exact (below_size bB_) : w.heap.size ≤ gb162)); have GE162 := Aside0.mk ((by rw [hg]; exact (below_size bB_) : w.heap.size ≤ gb162)); replace HB := Aside0.mk (below_step bB_ hb); clear hb hbox hg) | ((with_reducible refine gate_dst (N := 3) rfl ?_); refine box_event ?hg (N := 3) ?hd (cs := #[.int .i64 a1_0, .int .i64 a1_1]) (t := 57) ?hr ?_; (case hd => rfl); (case hg => rfl); (case hr => first | (go_simp; done) | (go_simp; rfl)); intro gb163 hg w11 hbox hb; have BK163 := Aside0.mk (hbox); have GW163 := Aside0.mk ((by rw [hg]; exact (below_size (by repeat (first | (with_reducible first | exact HB.out | apply below_alloc | apply pw_below_drewN | apply below_drew1 | refine below_set ?_ GE162.out) | exact HB.out))) : w.heap.size ≤ gb163)); have GE163 := Aside0.mk ((by rw [hg]; exact (below_size (by repeat (first | (with_reducible first | exact HB.out | apply below_alloc | apply pw_below_drewN | apply below_drew1 | refine below_set ?_ GE162.out) | exact HB.out))) : w.heap.size ≤ gb163)); replace HB := Aside0.mk (below_step (by repeat (first | (with_reducible first | exact HB.out | apply below_alloc | apply pw_below_drewN | apply below_drew1 | refine below_set ?_ GE162.out) | exact HB.out)) hb); have NB162_163 := Aside0.mk ((by rw [hg]; exact Nat.ne_of_lt (blk_lt (g := gb162) (o := .cells #[.int .i64 a0_0, .int .i64 a0_1] 57 (0, 0)) (by (with_reducible repeat (first | refine blk_drewN ?_ _ | refine blk_drew ?_ | refine blk_alloc ?_ _)); exact BK162.out)) : gb162 ≠ gb163)); have NB163_162 := Aside0.mk ((by rw [hg]; exact Nat.ne_of_gt (blk_lt (g := gb162) (o := .cells #[.int .i64 a0_0, .int .i64 a0_1] 57 (0, 0)) (by (with_reducible repeat (first | refine blk_drewN ?_ _ | refine blk_drew ?_ | refine blk_alloc ?_ _)); exact BK162.out)) : gb163 ≠ gb162)); replace BK162 := Aside0.mk (blk_below (g := gb162) (o := .cells #[.int .i64 a0_0, .int .i64 a0_1] 57 (0, 0)) (by (with_reducible repeat (first | refine blk_drewN ?_ _ | refine blk_drew ?_ | refine blk_alloc ?_ _)); exact BK162.out) hb); clear hb hbox hg; have hnb12 := NB162_163.out; have hnc12 := NB163_162.out; have hcz13_0 : w11.cell? ⟨gb162, 0, none⟩ = some (.int .i64 a0_0) := (blk_cell BK162.out 0).trans rfl; have hcz13_1 : w11.cell? ⟨gb162, 1, none⟩ = some (.int .i64 a0_1) := (blk_cell BK162.out 1).trans rfl; have hfz13_0 := blk_frozen BK162.out 0; have hfz13_1 := blk_frozen BK162.out 1; have hcz14_0 : w11.cell? ⟨gb163, 0, none⟩ = some (.int .i64 a1_0) := (blk_cell BK163.out 0).trans rfl; have hcz14_1 : w11.cell? ⟨gb163, 1, none⟩ = some (.int .i64 a1_1) := (blk_cell BK163.out 1).trans rfl; have hfz14_0 := blk_frozen BK163.out 0; have hfz14_1 := blk_frozen BK163.out 1))
   go_ret
   exact ⟨r2_, by repeat (first | (with_reducible first | exact HB.out | apply below_alloc | apply pw_below_drewN | apply below_drew1 | refine below_set ?_ GE162.out | refine below_set ?_ GE163.out) | exact HB.out)⟩
  ·rw [if_neg c9] at H
   have c9b0 : (a0_1 == a1_1) = false := beq_eq_false_iff_ne.mpr c9
   have c9b1 : (a0_1 != a1_1) = true := bne_iff_ne.mpr c9
   obtain rfl := Option.some.inj H
   go_enter Try.func104, Try.ntmps104
   go_wp2_with (first | ((with_reducible refine gate_dst (N := 2) rfl ?_); refine box_event ?hg (N := 2) ?hd (cs := #[.int .i64 a0_0, .int .i64 a0_1]) (t := 57) ?hr ?_; (case hd => rfl); (case hg => rfl); (case hr => first | (go_simp; done) | (go_simp; rfl)); intro gb162 hg w15 hbox hb; have BK162 := Aside0.mk (hbox); have GW162 := Aside0.mk ((by rw [hg]; exact (below_size bB_) : w.heap.size ≤ gb162)); have GE162 := Aside0.mk ((by rw [hg]; exact (below_size bB_) : w.heap.size ≤ gb162)); replace HB := Aside0.mk (below_step bB_ hb); clear hb hbox hg) | ((with_reducible refine gate_dst (N := 3) rfl ?_); refine box_event ?hg (N := 3) ?hd (cs := #[.int .i64 a1_0, .int .i64 a1_1]) (t := 57) ?hr ?_; (case hd => rfl); (case hg => rfl); (case hr => first | (go_simp; done) | (go_simp; rfl)); intro gb163 hg w16 hbox hb; have BK163 := Aside0.mk (hbox); have GW163 := Aside0.mk ((by rw [hg]; exact (below_size (by repeat (first | (with_reducible first | exact HB.out | apply below_alloc | apply pw_below_drewN | apply below_drew1 | refine below_set ?_ GE162.out) | exact HB.out))) : w.heap.size ≤ gb163)); have GE163 := Aside0.mk ((by rw [hg]; exact (below_size (by repeat (first | (with_reducible first | exact HB.out | apply below_alloc | apply pw_below_drewN | apply below_drew1 | refine below_set ?_ GE162.out) | exact HB.out))) : w.heap.size ≤ gb163)); replace HB := Aside0.mk (below_step (by repeat (first | (with_reducible first | exact HB.out | apply below_alloc | apply pw_below_drewN | apply below_drew1 | refine below_set ?_ GE162.out) | exact HB.out)) hb); have NB162_163 := Aside0.mk ((by rw [hg]; exact Nat.ne_of_lt (blk_lt (g := gb162) (o := .cells #[.int .i64 a0_0, .int .i64 a0_1] 57 (0, 0)) (by (with_reducible repeat (first | refine blk_drewN ?_ _ | refine blk_drew ?_ | refine blk_alloc ?_ _)); exact BK162.out)) : gb162 ≠ gb163)); have NB163_162 := Aside0.mk ((by rw [hg]; exact Nat.ne_of_gt (blk_lt (g := gb162) (o := .cells #[.int .i64 a0_0, .int .i64 a0_1] 57 (0, 0)) (by (with_reducible repeat (first | refine blk_drewN ?_ _ | refine blk_drew ?_ | refine blk_alloc ?_ _)); exact BK162.out)) : gb163 ≠ gb162)); replace BK162 := Aside0.mk (blk_below (g := gb162) (o := .cells #[.int .i64 a0_0, .int .i64 a0_1] 57 (0, 0)) (by (with_reducible repeat (first | refine blk_drewN ?_ _ | refine blk_drew ?_ | refine blk_alloc ?_ _)); exact BK162.out) hb); clear hb hbox hg; have hnb17 := NB162_163.out; have hnc17 := NB163_162.out; have hcz18_0 : w16.cell? ⟨gb162, 0, none⟩ = some (.int .i64 a0_0) := (blk_cell BK162.out 0).trans rfl; have hcz18_1 : w16.cell? ⟨gb162, 1, none⟩ = some (.int .i64 a0_1) := (blk_cell BK162.out 1).trans rfl; have hfz18_0 := blk_frozen BK162.out 0; have hfz18_1 := blk_frozen BK162.out 1; have hcz19_0 : w16.cell? ⟨gb163, 0, none⟩ = some (.int .i64 a1_0) := (blk_cell BK163.out 0).trans rfl; have hcz19_1 : w16.cell? ⟨gb163, 1, none⟩ = some (.int .i64 a1_1) := (blk_cell BK163.out 1).trans rfl; have hfz19_0 := blk_frozen BK163.out 0; have hfz19_1 := blk_frozen BK163.out 1))
   go_ret
   exact ⟨r2_, by repeat (first | (with_reducible first | exact HB.out | apply below_alloc | apply pw_below_drewN | apply below_drew1 | refine below_set ?_ GE162.out | refine below_set ?_ GE163.out) | exact HB.out)⟩

end Go.Proofs.Ytbfmocohknadkaa.X
