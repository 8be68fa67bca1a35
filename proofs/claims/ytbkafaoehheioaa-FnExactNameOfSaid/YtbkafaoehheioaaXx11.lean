-- xprint.py
import Derived.Test.YtbkafaoehheioaaXx0
import Derived.Test.YtbkafaoehheioaaXx2
import Derived.Test.YtbkafaoehheioaaXx3
import Derived.Test.YtbkafaoehheioaaXx5
namespace Go.Proofs.Ytbkafaoehheioaa.X
open Go.RowKit Go.Proofs.YtbkafaoehheioaaW.PrintWords Go.Proofs.YtbkafaoehheioaaW.PrintLast Go.Proofs.YtbkafaoehheioaaW.PrintMore
attribute [local go_sem] max2_int min2_int max_two min_two max_three min_three max_four min_four   -- for this text's walks alone
set_option linter.unusedVariables false
set_option linter.unusedSimpArgs false

/-! ### spec_l03Turn: function 96 -/
mutual
def spec_l03Turn.j0 : Nat → Int → Int → Int → Option (Int × Int)
 | 0, _, _, _ => none
 | k + 1, x1, x589000, x589001 => spec_l03Turn.l0 k (Int.tmod x1 4) x589000 x589001
def spec_l03Turn.l0 : Nat → Int → Int → Int → Option (Int × Int)
 | 0, _, _, _ => none
 | k + 1, x5, x589000, x589001 => if x5 > 0 then (spec_l03Turn.l0 k (wrap64 (x5 - 1)) (wrap64 (-x589001)) x589000) else (some (x589000, x589001))
end
def spec_l03Turn.f (k : Nat) (a0_0 : Int) (a0_1 : Int) (a1 : Int) : Option (Int × Int) := if a1 ≥ 4 then (spec_l03Turn.j0 k a1 (wrap64 (-a0_0)) a0_1) else (spec_l03Turn.j0 k a1 a0_0 a0_1)
theorem spec_l03Turn.mono_l : ∀ k, (∀ y0 y1 y2, LeO (spec_l03Turn.j0 k y0 y1 y2) (spec_l03Turn.j0 (k + 1) y0 y1 y2)) ∧ (∀ y0 y1 y2, LeO (spec_l03Turn.l0 k y0 y1 y2) (spec_l03Turn.l0 (k + 1) y0 y1 y2))
 | 0 => ⟨fun _ _ _ r h => by simp [spec_l03Turn.j0] at h, fun _ _ _ r h => by simp [spec_l03Turn.l0] at h⟩
 | k + 1 => by
  obtain ⟨ih0, ih1⟩ := spec_l03Turn.mono_l k
  refine ⟨?_, ?_⟩
  ·intro y0 y1 y2
   unfold spec_l03Turn.j0
   repeat' first
   | (with_reducible exact ih0 _ _ _)
   | (with_reducible exact ih1 _ _ _)
   | (with_reducible exact LeO.refl _)
   | (with_reducible exact LeO.none _)
   | (with_reducible refine LeO.ite ?_ ?_)
   | (with_reducible refine LeO.bind ?_ (fun _ => ?_))
   | exact ih0 _ _ _
   | exact ih1 _ _ _
   | exact LeO.none _
   | refine LeO.ite ?_ ?_
   | refine LeO.bind ?_ (fun _ => ?_)
  ·intro y0 y1 y2
   unfold spec_l03Turn.l0
   repeat' first
   | (with_reducible exact ih0 _ _ _)
   | (with_reducible exact ih1 _ _ _)
   | (with_reducible exact LeO.refl _)
   | (with_reducible exact LeO.none _)
   | (with_reducible refine LeO.ite ?_ ?_)
   | (with_reducible refine LeO.bind ?_ (fun _ => ?_))
   | exact ih0 _ _ _
   | exact ih1 _ _ _
   | exact LeO.none _
   | refine LeO.ite ?_ ?_
   | refine LeO.bind ?_ (fun _ => ?_)
theorem spec_l03Turn.mono : ∀ a0 a1 a2 k, LeO (spec_l03Turn.f k a0 a1 a2) (spec_l03Turn.f (k + 1) a0 a1 a2) := by
 intro a0 a1 a2 k
 obtain ⟨ih0, ih1⟩ := spec_l03Turn.mono_l k
 unfold spec_l03Turn.f
 repeat' first
   | (with_reducible exact ih0 _ _ _)
   | (with_reducible exact ih1 _ _ _)
   | (with_reducible exact LeO.refl _)
   | (with_reducible exact LeO.none _)
   | (with_reducible refine LeO.ite ?_ ?_)
   | (with_reducible refine LeO.bind ?_ (fun _ => ?_))
   | exact ih0 _ _ _
   | exact ih1 _ _ _
   | exact LeO.none _
   | refine LeO.ite ?_ ?_
   | refine LeO.bind ?_ (fun _ => ?_)
set_option maxHeartbeats 8000000 in
set_option maxRecDepth 100000 in
theorem spec_l03Turn.calls (k : Nat) (a0_0 : Int) (a0_1 : Int) (a1 : Int) (r1 : Int) (r2 : Int) (w : World) (h : spec_l03Turn.f k a0_0 a0_1 a1 = some (r1, r2)) :
  Calls Try.prog 96 #[.agg #[.int .i64 a0_0, .int .i64 a0_1], .int .i64 a1] w fun e w' => e = .returned (.agg #[.int .i64 r1, .int .i64 r2]) ∧ Below w.heap.size w w' := by
 have hu55 := Try.underlying55
 have HB := Aside0.mk (Below.refl w.heap.size w)
 have H : (if a1 ≥ 4 then (spec_l03Turn.j0 k a1 (wrap64 (-a0_0)) a0_1) else (spec_l03Turn.j0 k a1 a0_0 a0_1)) = some (r1, r2) := h
 clear h
 have HC3 := Aside0.mk H
 clear H
 go_enter Try.func96, Try.ntmps96
 go_upto_if 7 with (first | ((with_reducible refine gate_dst (N := 2) rfl ?_); refine box_event ?hg (N := 2) ?hd (cs := #[.int .i64 a0_0, .int .i64 a0_1]) (t := 55) ?hr ?_; (case hd => rfl); (case hg => rfl); (case hr => first | (go_simp; done) | (go_simp; rfl)); intro gb588 hg w4 hbox hb; have BK588 := Aside0.mk (hbox); have GW588 := Aside0.mk ((by rw [hg]; exact (below_size bB_) : w.heap.size ≤ gb588)); have GE588 := Aside0.mk ((by rw [hg]; exact (below_size bB_) : w.heap.size ≤ gb588)); replace HB := Aside0.mk (below_step bB_ hb); clear hb hbox hg) | ((with_reducible refine gate_dst (N := 4) rfl ?_); refine box_event ?hg (N := 4) ?hd (cs := #[.int .i64 0, .int .i64 0]) (t := 55) ?hr ?_; (case hd => rfl); (case hg => rfl); (case hr => first | (go_simp; done) | (go_simp; rfl)); intro gb589 hg w5 hbox hb; have BK589 := Aside0.mk (hbox); have GW589 := Aside0.mk ((by rw [hg]; exact (below_size (by repeat (first | (with_reducible first | exact HB.out | apply below_alloc | apply pw_below_drewN | apply below_drew1 | refine below_set ?_ GE588.out) | exact HB.out))) : w.heap.size ≤ gb589)); have GE589 := Aside0.mk ((by rw [hg]; exact (below_size (by repeat (first | (with_reducible first | exact HB.out | apply below_alloc | apply pw_below_drewN | apply below_drew1 | refine below_set ?_ GE588.out) | exact HB.out))) : w.heap.size ≤ gb589)); replace HB := Aside0.mk (below_step (by repeat (first | (with_reducible first | exact HB.out | apply below_alloc | apply pw_below_drewN | apply below_drew1 | refine below_set ?_ GE588.out) | exact HB.out)) hb); have NB588_589 := Aside0.mk ((by rw [hg]; exact Nat.ne_of_lt (blk_lt (g := gb588) (o := .cells #[.int .i64 a0_0, .int .i64 a0_1] 55 (0, 0)) (by (with_reducible repeat (first | refine blk_drewN ?_ _ | refine blk_drew ?_ | refine blk_alloc ?_ _)); exact BK588.out)) : gb588 ≠ gb589)); have NB589_588 := Aside0.mk ((by rw [hg]; exact Nat.ne_of_gt (blk_lt (g := gb588) (o := .cells #[.int .i64 a0_0, .int .i64 a0_1] 55 (0, 0)) (by (with_reducible repeat (first | refine blk_drewN ?_ _ | refine blk_drew ?_ | refine blk_alloc ?_ _)); exact BK588.out)) : gb589 ≠ gb588)); replace BK588 := Aside0.mk (blk_below (g := gb588) (o := .cells #[.int .i64 a0_0, .int .i64 a0_1] 55 (0, 0)) (by (with_reducible repeat (first | refine blk_drewN ?_ _ | refine blk_drew ?_ | refine blk_alloc ?_ _)); exact BK588.out) hb); clear hb hbox hg))
 (try simp only [Act.put, List.setIfInBounds_toArray, List.set_cons_zero, List.set_cons_succ])
 go_cut [] (fun wc => ∃ (kq : Nat) (x589000_2 : Int) (x589001_2 : Int), Aside0 (spec_l03Turn.j0 kq a1 x589000_2 x589001_2 = some (r1, r2)) ∧ Aside0 (kq ≤ k) ∧ Aside0 (wc.heap[gb588]? = some (.cells #[.int .i64 x589000_2, .int .i64 x589001_2] 55 (0, 0))) ∧ Aside0 (wc.heap[gb589]? = some (.cells #[.int .i64 0, .int .i64 0] 55 (0, 0))) ∧ Aside0 (Below w.heap.size w wc))
 case first =>
  have H := HC3.out
  clear HC3
  by_cases c6 : a1 ≥ 4
  ·rw [if_pos c6] at H
   have c6b0 : decide (4 ≤ a1) = true := decide_eq_true c6
   clear c6
   (first | rw [c6b0] | (simp only [i64_w, i32_w]; rw [c6b0]) | skip)
   have H' := Aside0.mk H
   clear H
   have hnb7 := NB588_589.out
   have hnc7 := NB589_588.out
   have hcz8_0 : w5.cell? ⟨gb588, 0, none⟩ = some (.int .i64 a0_0) := (blk_cell BK588.out 0).trans rfl
   have hcz8_1 : w5.cell? ⟨gb588, 1, none⟩ = some (.int .i64 a0_1) := (blk_cell BK588.out 1).trans rfl
   have hfz8_0 := blk_frozen BK588.out 0
   have hfz8_1 := blk_frozen BK588.out 1
   go_wp2
   go_meet
   case rel => exact ⟨_, (wrap64 (-a0_0)), (a0_1), H', ⟨by first | omega | exact Nat.le_refl _⟩, ⟨by (with_reducible repeat (first | refine blk_drewN ?_ _ | refine blk_drew ?_ | refine blk_alloc ?_ _)); refine blk_put (cs := #[.int .i64 (wrap64 (-a0_0)), .int .i64 a0_1]) ?_ 1 _ rfl; (with_reducible repeat (first | refine blk_drewN ?_ _ | refine blk_drew ?_ | refine blk_alloc ?_ _)); refine blk_put (cs := #[.int .i64 a0_0, .int .i64 a0_1]) ?_ 0 _ rfl; (with_reducible repeat (first | refine blk_drewN ?_ _ | refine blk_drew ?_ | refine blk_alloc ?_ _)); exact BK588.out⟩, ⟨by (with_reducible repeat (first | refine blk_drewN ?_ _ | refine blk_drew ?_ | refine blk_alloc ?_ _)); refine blk_far ?_ NB589_588.out _; (with_reducible repeat (first | refine blk_drewN ?_ _ | refine blk_drew ?_ | refine blk_alloc ?_ _)); refine blk_far ?_ NB589_588.out _; (with_reducible repeat (first | refine blk_drewN ?_ _ | refine blk_drew ?_ | refine blk_alloc ?_ _)); exact BK589.out⟩, ⟨by repeat (first | (with_reducible first | exact HB.out | apply below_alloc | apply pw_below_drewN | apply below_drew1 | refine below_set ?_ GE588.out | refine below_set ?_ GE589.out) | exact HB.out)⟩⟩
  ·rw [if_neg c6] at H
   have c6b0 : decide (4 ≤ a1) = false := decide_eq_false c6
   clear c6
   (first | rw [c6b0] | (simp only [i64_w, i32_w]; rw [c6b0]) | skip)
   have H' := Aside0.mk H
   clear H
   go_wp2
   go_meet
   case rel => exact ⟨_, (a0_0), (a0_1), H', ⟨by first | omega | exact Nat.le_refl _⟩, ⟨by (with_reducible repeat (first | refine blk_drewN ?_ _ | refine blk_drew ?_ | refine blk_alloc ?_ _)); exact BK588.out⟩, ⟨by (with_reducible repeat (first | refine blk_drewN ?_ _ | refine blk_drew ?_ | refine blk_alloc ?_ _)); exact BK589.out⟩, ⟨by repeat (first | (with_reducible first | exact HB.out | apply below_alloc | apply pw_below_drewN | apply below_drew1 | refine below_set ?_ GE588.out | refine below_set ?_ GE589.out) | exact HB.out)⟩⟩
 case rest =>
  clear HC3
  try clear p2
  try clear c6
  try clear c6b0
  try clear p6
  try clear c7
  try clear hcz8_0
  try clear hcz8_1
  try clear hfz8_0
  try clear hfz8_1
  obtain ⟨kq, x589000_2, x589001_2, HA, HJ2, BK588, BK589, HB⟩ := hcut
  cases kq with
  | zero => exact absurd HA.out (by simp [spec_l03Turn.j0])
  | succ kj2 =>
   have H := HA.out
   clear HA
   simp only [spec_l03Turn.j0] at H
   have H' := Aside0.mk H
   clear H
   go_wp2
   go_loopg [5] kj2 (fun kq v5 w' => ∃ (x5_2 : Int) (x589000_2 : Int) (x589001_2 : Int), v5 = .int .i64 x5_2 ∧ Aside0 (spec_l03Turn.l0 kq x5_2 x589000_2 x589001_2 = some (r1, r2)) ∧ Aside0 (kq ≤ kj2) ∧ Aside0 (w'.heap[gb588]? = some (.cells #[.int .i64 x589000_2, .int .i64 x589001_2] 55 (0, 0))) ∧ Aside0 (w'.heap[gb589]? = some (.cells #[.int .i64 0, .int .i64 0] 55 (0, 0))) ∧ Aside0 (Below w.heap.size w w'))
   case atStart => exact ⟨(Int.tmod a1 4), (x589000_2), (x589001_2), r3_, H', ⟨Nat.le_refl _⟩, ⟨by (with_reducible repeat (first | refine blk_drewN ?_ _ | refine blk_drew ?_ | refine blk_alloc ?_ _)); exact BK588.out⟩, ⟨by (with_reducible repeat (first | refine blk_drewN ?_ _ | refine blk_drew ?_ | refine blk_alloc ?_ _)); exact BK589.out⟩, ⟨by repeat (first | (with_reducible first | exact HB.out | apply below_alloc | apply pw_below_drewN | apply below_drew1 | refine below_set ?_ GE588.out | refine below_set ?_ GE589.out) | exact HB.out)⟩⟩
   case round =>
    clear H'
    try clear p2
    try clear c6
    try clear c6b0
    try clear p6
    try clear c7
    try clear hcz8_0
    try clear hcz8_1
    try clear hfz8_0
    try clear hfz8_1
    try clear p2
    try clear p6
    obtain ⟨x5_2, x589000_2, x589001_2, rfl, HA, HK2, BK588, BK589, HB⟩ := hrel
    cases gk with
    | zero => exact absurd HA.out (by simp [spec_l03Turn.l0])
    | succ k2 =>
     have H := HA.out
     clear HA
     simp only [spec_l03Turn.l0] at H
     by_cases c9 : x5_2 > 0
     ·rw [if_pos c9] at H
      have c9b0 : decide (0 < x5_2) = true := decide_eq_true c9
      clear c9
      have H' := Aside0.mk H
      clear H
      have hnb10 := NB588_589.out
      have hnc10 := NB589_588.out
      have hcz11_0 : wr.cell? ⟨gb588, 0, none⟩ = some (.int .i64 x589000_2) := (blk_cell BK588.out 0).trans rfl
      have hcz11_1 : wr.cell? ⟨gb588, 1, none⟩ = some (.int .i64 x589001_2) := (blk_cell BK588.out 1).trans rfl
      have hfz11_0 := blk_frozen BK588.out 0
      have hfz11_1 := blk_frozen BK588.out 1
      go_wp2
      go_roundg k2
      case measure => have := HJ2.out; have := HK2.out; omega
      case rel => exact ⟨(wrap64 (x5_2 - 1)), (wrap64 (-x589001_2)), (x589000_2), r3_, H', ⟨by have := HJ2.out; have := HK2.out; omega⟩, ⟨by (with_reducible repeat (first | refine blk_drewN ?_ _ | refine blk_drew ?_ | refine blk_alloc ?_ _)); refine blk_put (cs := #[.int .i64 (wrap64 (-x589001_2)), .int .i64 x589001_2]) ?_ 1 _ rfl; (with_reducible repeat (first | refine blk_drewN ?_ _ | refine blk_drew ?_ | refine blk_alloc ?_ _)); refine blk_put (cs := #[.int .i64 x589000_2, .int .i64 x589001_2]) ?_ 0 _ rfl; (with_reducible repeat (first | refine blk_drewN ?_ _ | refine blk_drew ?_ | refine blk_alloc ?_ _)); exact BK588.out⟩, ⟨by (with_reducible repeat (first | refine blk_drewN ?_ _ | refine blk_drew ?_ | refine blk_alloc ?_ _)); refine blk_far ?_ NB589_588.out _; (with_reducible repeat (first | refine blk_drewN ?_ _ | refine blk_drew ?_ | refine blk_alloc ?_ _)); refine blk_far ?_ NB589_588.out _; (with_reducible repeat (first | refine blk_drewN ?_ _ | refine blk_drew ?_ | refine blk_alloc ?_ _)); exact BK589.out⟩, ⟨by repeat (first | (with_reducible first | exact HB.out | apply below_alloc | apply pw_below_drewN | apply below_drew1 | refine below_set ?_ GE588.out | refine below_set ?_ GE589.out) | exact HB.out)⟩⟩
     ·rw [if_neg c9] at H
      have c9b0 : decide (0 < x5_2) = false := decide_eq_false c9
      clear c9
      simp only [Option.some.injEq, Prod.mk.injEq] at H
      obtain ⟨rfl, rfl⟩ := H
      have hnb12 := NB588_589.out
      have hnc12 := NB589_588.out
      have hcz13_0 : wr.cell? ⟨gb588, 0, none⟩ = some (.int .i64 x589000_2) := (blk_cell BK588.out 0).trans rfl
      have hcz13_1 : wr.cell? ⟨gb588, 1, none⟩ = some (.int .i64 x589001_2) := (blk_cell BK588.out 1).trans rfl
      have hfz13_0 := blk_frozen BK588.out 0
      have hfz13_1 := blk_frozen BK588.out 1
      have hcz14_0 : wr.cell? ⟨gb589, 0, none⟩ = some (.int .i64 0) := (blk_cell BK589.out 0).trans rfl
      have hcz14_1 : wr.cell? ⟨gb589, 1, none⟩ = some (.int .i64 0) := (blk_cell BK589.out 1).trans rfl
      have hfz14_0 := blk_frozen BK589.out 0
      have hfz14_1 := blk_frozen BK589.out 1
      go_wp2
      refine bodyPost_ret (results_cell_row rfl _ _ gb589 55 #[.int .i64 x589000_2, .int .i64 x589001_2] (0, 0) _ rfl (by (with_reducible repeat (first | refine blk_drewN ?_ _ | refine blk_drew ?_ | refine blk_alloc ?_ _)); refine blk_put (cs := #[.int .i64 x589000_2, .int .i64 0]) ?_ 1 _ rfl; (with_reducible repeat (first | refine blk_drewN ?_ _ | refine blk_drew ?_ | refine blk_alloc ?_ _)); refine blk_put (cs := #[.int .i64 0, .int .i64 0]) ?_ 0 _ rfl; (with_reducible repeat (first | refine blk_drewN ?_ _ | refine blk_drew ?_ | refine blk_alloc ?_ _)); exact BK589.out) Try.underlying55 rfl (by kernel_rfl)) rfl ?_
      exact ⟨r2_, by repeat (first | (with_reducible first | exact HB.out | apply below_alloc | apply pw_below_drewN | apply below_drew1 | refine below_set ?_ GE588.out | refine below_set ?_ GE589.out) | exact HB.out)⟩

/-! ### spec_l02Sort: function 97 -/
def spec_l02Sort.l0 : Nat → List (S55) → List (S55) → Int → Option ((List (S55)))
 | 0, _, _, _ => none
 | k + 1, x0, x3, x4 => if x4 < (x0.length : Int) then (if 0 ≤ x4 then ((spec_l02Insert.f k x3 ((rd_T55 x0 x4).f0) ((rd_T55 x0 x4).f1)).bind fun t594 => (spec_l02Sort.l0 k x0 t594 (wrap64 (x4 + 1)))) else (none)) else (some x3)
def spec_l02Sort.f (k : Nat) (l0 : List (S55)) : Option ((List (S55))) := spec_l02Sort.l0 k l0 (([] : List (S55))) 0
theorem spec_l02Sort.mono_l : ∀ k, (∀ y0 y1 y2, LeO (spec_l02Sort.l0 k y0 y1 y2) (spec_l02Sort.l0 (k + 1) y0 y1 y2))
 | 0 => fun _ _ _ r h => by simp [spec_l02Sort.l0] at h
 | k + 1 => by
  have ih0 := spec_l02Sort.mono_l k
  ·intro y0 y1 y2
   unfold spec_l02Sort.l0
   repeat' first
   | (with_reducible exact ih0 _ _ _)
   | (with_reducible exact spec_l02Insert.mono _ _ _ _)
   | (with_reducible exact LeO.refl _)
   | (with_reducible exact LeO.none _)
   | (with_reducible refine LeO.ite ?_ ?_)
   | (with_reducible refine LeO.bind ?_ (fun _ => ?_))
   | exact ih0 _ _ _
   | exact spec_l02Insert.mono _ _ _ _
   | exact LeO.none _
   | refine LeO.ite ?_ ?_
   | refine LeO.bind ?_ (fun _ => ?_)
theorem spec_l02Sort.mono : ∀ a0 k, LeO (spec_l02Sort.f k a0) (spec_l02Sort.f (k + 1) a0) := by
 intro a0 k
 have ih0 := spec_l02Sort.mono_l k
 unfold spec_l02Sort.f
 repeat' first
   | (with_reducible exact ih0 _ _ _)
   | (with_reducible exact spec_l02Insert.mono _ _ _ _)
   | (with_reducible exact LeO.refl _)
   | (with_reducible exact LeO.none _)
   | (with_reducible refine LeO.ite ?_ ?_)
   | (with_reducible refine LeO.bind ?_ (fun _ => ?_))
   | exact ih0 _ _ _
   | exact spec_l02Insert.mono _ _ _ _
   | exact LeO.none _
   | refine LeO.ite ?_ ?_
   | refine LeO.bind ?_ (fun _ => ?_)
set_option maxHeartbeats 8000000 in
set_option maxRecDepth 100000 in
theorem spec_l02Sort.calls (k : Nat) (A0 : Option Addr) (c0 : Nat) (l0 : List (S55)) (r : List (S55)) (w : World) (hr0 : Kd.C k55 w A0 l0.length l0) (hc0 : l0.length ≤ c0) (h : spec_l02Sort.f k l0 = some r) :
  Calls Try.prog 97 #[.slice A0 l0.length c0] w fun e w' => ∃ v0_ : Value, e = .returned (v0_) ∧ Kd.R k55 55 w' w.heap.size (fun _ => True) v0_ r ∧ Below w.heap.size w w' := by
 have hu55 := Try.underlying55
 have HR0 := Aside0.mk hr0
 have HC0 := Aside0.mk hc0
 clear hr0 hc0
 have HB := Aside0.mk (Below.refl w.heap.size w)
 have H : (spec_l02Sort.l0 k l0 (([] : List (S55))) 0) = some r := h
 clear h
 obtain ⟨y590, hY_⟩ : ∃ y_ : List (S55), y_ = (([] : List (S55))) := ⟨_, rfl⟩
 replace H : (spec_l02Sort.l0 k l0 y590 0) = some r := yY_
 have Ny590 := Aside0.mk hY_
 clear hY_
 have H' := Aside0.mk H
 clear H
 go_enter Try.func97, Try.ntmps97
 go_wp2_with (first | ((with_reducible refine gate_dst (N := 5) rfl ?_); refine Kd.R_lit k55 _ 55 ?hg (N := 5) ?hd (xs := ([] : List (S55))) (inner := []) (ok := fun _ => True) (okp := fun _ => True) ?hr ?hp (fun _ hk => hk) trivial (Below.refl _ _) (Nat.le_refl _) (by simp) ?_; (case hd => rfl); (case hg => rfl); (case hr => first | (go_simp; done) | (go_simp; rfl)); (case hp => exact (Reps.none _ _)); intro v591 w2 ho3 hb hg_ hnew_; clear hg_ hnew_; (first | rw [← Ny590.out] at ho3 | (simp only [Int.reduceToNat] at ho3; rw [← Ny590.out] at ho3)); have HO592 := Aside0.mk (Kd.R_lower ho3 (below_size bB_)); replace HB := Aside0.mk (below_step bB_ hb); clear hb ho3))
 go_loopg [3, 4] k (fun kq v3 v4 w' => ∃ (x3_1 : List (S55)) (x4_1 : Int), v4 = .int .i64 x4_1 ∧ Aside0 (spec_l02Sort.l0 kq l0 x3_1 x4_1 = some r) ∧ Aside0 (kq ≤ k) ∧ Aside0 (Kd.R k55 55 w' w.heap.size (fun _ => True) v3 x3_1) ∧ Aside0 (Below w.heap.size w w'))
 case atStart => exact ⟨(y590), (0), r3_, H', ⟨Nat.le_refl _⟩, ⟨rS_ HO592.out⟩, ⟨bB_⟩⟩
 case round =>
  clear H'
  try clear p2
  obtain ⟨x3_1, x4_1, rfl, HA, HK1, HO_3, HB⟩ := hrel
  cases gk with
  | zero => exact absurd HA.out (by simp [spec_l02Sort.l0])
  | succ k1 =>
   have H := HA.out
   clear HA
   simp only [spec_l02Sort.l0] at H
   by_cases c4 : x4_1 < (l0.length : Int)
   ·rw [if_pos c4] at H
    have c4b0 : decide (x4_1 < (l0.length : Int)) = true := decide_eq_true c4
    clear c4
    by_cases c5 : 0 ≤ x4_1
    ·rw [if_pos c5] at H
     have c5b0 : decide (0 ≤ x4_1) = true := decide_eq_true c5
     clear c5
     replace H := Option.bind_eq_some_iff.mp H
     obtain ⟨t594, A60, H⟩ := H
     try dsimp only at H
     have A6 := Aside0.mk A60
     clear A60
     have H' := Aside0.mk H
     clear H
     have p593 : 0 ≤ (x4_1 : Int) := of_decide_eq_true aS_
     have q593 : x4_1 < (l0.length : Int) := of_decide_eq_true aS_
     obtain ⟨ad593, e593, hx593_0, hx593_1⟩ := at_T55 HR0.out x4_1 p593 q593
     cases e593
     replace hx593_0 := (HB.out.cell (World.block_lt_of_cell? w _ hx593_0)).trans hx593_0
     replace hx593_1 := (HB.out.cell (World.block_lt_of_cell? w _ hx593_1)).trans hx593_1
     replace p593 := eq_true p593
     replace q593 := eq_true q593
     obtain ⟨Ao7, co7, eo7⟩ := Kd.R_slice HO_3.out
     subst eo7
     go_wp2_with (first | ((with_reducible refine gate_callee (f := 79) rfl ?_); refine gL_ (some 17) Try.func79 #[.slice Ao7 x3_1.length co7, .agg #[.int .i64 ((rd_T55 l0 x4_1).f0), .int .i64 ((rd_T55 l0 x4_1).f1)]] ?_; (with_reducible refine (spec_l02Insert.calls k1 _ _ x3_1 ((rd_T55 l0 x4_1).f0) ((rd_T55 l0 x4_1).f1) t594 _ ?side1 ?side2 A6.out).mono ?_); (case side1 => exact cS_ ((Kd.R_reads' HO_3.out).2.2)); (case side2 => exact (Kd.R_reads' HO_3.out).2.1); rintro e w8 ⟨v595, rfl, ho0, hb⟩; refine ⟨_, rfl, ?_⟩; have HO596 := Aside0.mk (Kd.R_lower (Kd.R_new' ho0 (Kd.R_lt (rS_ HO_3.out))) (below_size bB_)); replace HO_3 := Aside0.mk (Kd.R_elder' (rS_ HO_3.out) (Kd.R_base ho0) hb); replace HB := Aside0.mk (below_step bB_ hb); (try clear hb ho0)))
     go_roundg k1
     case measure => have := HK1.out; omega
     case rel => exact ⟨(t594), (wrap64 (x4_1 + 1)), r3_, H', ⟨by have := HK1.out; omega⟩, ⟨rS_ (Kd.R_mono HO596.out (fun _ hk => trivial))⟩, ⟨bB_⟩⟩
    ·rw [if_neg c5] at H
     exact absurd H (by simp)
   ·rw [if_neg c4] at H
    have c4b0 : decide (x4_1 < (l0.length : Int)) = false := decide_eq_false c4
    clear c4
    obtain rfl := Option.some.inj H
    go_wp2
    go_ret
    exact ⟨_, r2_, rS_ HO_3.out, bB_⟩

/-! ### spec_l03Form: function 62 -/
def spec_l03Form.l0 : Nat → List (S55) → Int → List (S55) → Int → Option ((List (S55)))
 | 0, _, _, _, _ => none
 | k + 1, x0, x1, x5, x6 => if x6 < (x0.length : Int) then (if 0 ≤ x6 then ((spec_l03Turn.f k ((rd_T55 x0 x6).f0) ((rd_T55 x0 x6).f1) x1).bind fun bt601 => (if x5.length < 8796093022208 then (spec_l03Form.l0 k x0 x1 (x5 ++ [(⟨bt601.1, bt601.2⟩ : S55)]) (wrap64 (x6 + 1))) else (none))) else (none)) else ((spec_l02Sort.f k x5).bind fun t606 => ((spec_l02Normal.f k t606).bind fun t609 => (some t609)))
def spec_l03Form.f (k : Nat) (l0 : List (S55)) (a1 : Int) : Option ((List (S55))) := spec_l03Form.l0 k l0 a1 (([] : List (S55))) 0
theorem spec_l03Form.mono_l : ∀ k, (∀ y0 y1 y2 y3, LeO (spec_l03Form.l0 k y0 y1 y2 y3) (spec_l03Form.l0 (k + 1) y0 y1 y2 y3))
 | 0 => fun _ _ _ _ r h => by simp [spec_l03Form.l0] at h
 | k + 1 => by
  have ih0 := spec_l03Form.mono_l k
  ·intro y0 y1 y2 y3
   unfold spec_l03Form.l0
   repeat' first
   | (with_reducible exact ih0 _ _ _ _)
   | (with_reducible exact spec_l02Normal.mono _ _)
   | (with_reducible exact spec_l02Sort.mono _ _)
   | (with_reducible exact spec_l03Turn.mono _ _ _ _)
   | (with_reducible exact LeO.refl _)
   | (with_reducible exact LeO.none _)
   | (with_reducible refine LeO.ite ?_ ?_)
   | (with_reducible refine LeO.bind ?_ (fun _ => ?_))
   | exact ih0 _ _ _ _
   | exact spec_l02Normal.mono _ _
   | exact spec_l02Sort.mono _ _
   | exact spec_l03Turn.mono _ _ _ _
   | exact LeO.none _
   | refine LeO.ite ?_ ?_
   | refine LeO.bind ?_ (fun _ => ?_)
theorem spec_l03Form.mono : ∀ a0 a1 k, LeO (spec_l03Form.f k a0 a1) (spec_l03Form.f (k + 1) a0 a1) := by
 intro a0 a1 k
 have ih0 := spec_l03Form.mono_l k
 unfold spec_l03Form.f
 repeat' first
   | (with_reducible exact ih0 _ _ _ _)
   | (with_reducible exact spec_l02Normal.mono _ _)
   | (with_reducible exact spec_l02Sort.mono _ _)
   | (with_reducible exact spec_l03Turn.mono _ _ _ _)
   | (with_reducible exact LeO.refl _)
   | (with_reducible exact LeO.none _)
   | (with_reducible refine LeO.ite ?_ ?_)
   | (with_reducible refine LeO.bind ?_ (fun _ => ?_))
   | exact ih0 _ _ _ _
   | exact spec_l02Normal.mono _ _
   | exact spec_l02Sort.mono _ _
   | exact spec_l03Turn.mono _ _ _ _
   | exact LeO.none _
   | refine LeO.ite ?_ ?_
   | refine LeO.bind ?_ (fun _ => ?_)
set_option maxHeartbeats 8000000 in
set_option maxRecDepth 100000 in
theorem spec_l03Form.calls (k : Nat) (A0 : Option Addr) (c0 : Nat) (l0 : List (S55)) (a1 : Int) (r : List (S55)) (w : World) (hr0 : Kd.C k55 w A0 l0.length l0) (hc0 : l0.length ≤ c0) (h : spec_l03Form.f k l0 a1 = some r) :
  Calls Try.prog 62 #[.slice A0 l0.length c0, .int .i64 a1] w fun e w' => ∃ v0_ : Value, e = .returned (v0_) ∧ Kd.R k55 55 w' w.heap.size (fun _ => True) v0_ r ∧ Below w.heap.size w w' := by
 have hu55 := Try.underlying55
 have HR0 := Aside0.mk hr0
 have HC0 := Aside0.mk hc0
 clear hr0 hc0
 have HB := Aside0.mk (Below.refl w.heap.size w)
 have H : (spec_l03Form.l0 k l0 a1 (([] : List (S55))) 0) = some r := h
 clear h
 obtain ⟨y597, hY_⟩ : ∃ y_ : List (S55), y_ = (([] : List (S55))) := ⟨_, rfl⟩
 replace H : (spec_l03Form.l0 k l0 a1 y597 0) = some r := yY_
 have Ny597 := Aside0.mk hY_
 clear hY_
 have H' := Aside0.mk H
 clear H
 go_enter Try.func62, Try.ntmps62
 go_wp2_with (first | ((with_reducible refine gate_dst (N := 7) rfl ?_); refine Kd.R_lit k55 _ 55 ?hg (N := 7) ?hd (xs := ([] : List (S55))) (inner := []) (ok := fun _ => True) (okp := fun _ => True) ?hr ?hp (fun _ hk => hk) trivial (Below.refl _ _) (Nat.le_refl _) (by simp) ?_; (case hd => rfl); (case hg => rfl); (case hr => first | (go_simp; done) | (go_simp; rfl)); (case hp => exact (Reps.none _ _)); intro v598 w3 ho4 hb hg_ hnew_; clear hg_ hnew_; (first | rw [← Ny597.out] at ho4 | (simp only [Int.reduceToNat] at ho4; rw [← Ny597.out] at ho4)); have HO599 := Aside0.mk (Kd.R_lower ho4 (below_size bB_)); replace HB := Aside0.mk (below_step bB_ hb); clear hb ho4))
 go_loopg [5, 6] k (fun kq v5 v6 w' => ∃ (x5_1 : List (S55)) (x6_1 : Int), v6 = .int .i64 x6_1 ∧ Aside0 (spec_l03Form.l0 kq l0 a1 x5_1 x6_1 = some r) ∧ Aside0 (kq ≤ k) ∧ Aside0 (Kd.R k55 55 w' w.heap.size (fun _ => True) v5 x5_1) ∧ Aside0 (Below w.heap.size w w'))
 case atStart => exact ⟨(y597), (0), r3_, H', ⟨Nat.le_refl _⟩, ⟨rS_ HO599.out⟩, ⟨bB_⟩⟩
 case round =>
  clear H'
  try clear p2
  obtain ⟨x5_1, x6_1, rfl, HA, HK1, HO_5, HB⟩ := hrel
  cases gk with
  | zero => exact absurd HA.out (by simp [spec_l03Form.l0])
  | succ k1 =>
   have H := HA.out
   clear HA
   simp only [spec_l03Form.l0] at H
   by_cases c5 : x6_1 < (l0.length : Int)
   ·rw [if_pos c5] at H
    have c5b0 : decide (x6_1 < (l0.length : Int)) = true := decide_eq_true c5
    clear c5
    by_cases c6 : 0 ≤ x6_1
    ·rw [if_pos c6] at H
     have c6b0 : decide (0 ≤ x6_1) = true := decide_eq_true c6
     clear c6
     replace H := Option.bind_eq_some_iff.mp H
     obtain ⟨⟨t601, t602⟩, A70, H⟩ := H
     try dsimp only at H
     have A7 := Aside0.mk A70
     clear A70
     by_cases c8 : x5_1.length < 8796093022208
     ·rw [if_pos c8] at H
      have LMc8 := Aside0.mk c8
      clear c8
      obtain ⟨y603, hY_⟩ : ∃ y_ : List (S55), y_ = (x5_1 ++ [(⟨t601, t602⟩ : S55)]) := ⟨_, rfl⟩
      replace H : (spec_l03Form.l0 k1 l0 a1 y603 (wrap64 (x6_1 + 1))) = some r := yY_
      have Ny603 := Aside0.mk hY_
      clear hY_
      have H' := Aside0.mk H
      clear H
      have p600 : 0 ≤ (x6_1 : Int) := of_decide_eq_true aS_
      have q600 : x6_1 < (l0.length : Int) := of_decide_eq_true aS_
      obtain ⟨ad600, e600, hx600_0, hx600_1⟩ := at_T55 HR0.out x6_1 p600 q600
      cases e600
      replace hx600_0 := (HB.out.cell (World.block_lt_of_cell? w _ hx600_0)).trans hx600_0
      replace hx600_1 := (HB.out.cell (World.block_lt_of_cell? w _ hx600_1)).trans hx600_1
      replace p600 := eq_true p600
      replace q600 := eq_true q600
      go_wp2_with (first | ((with_reducible refine gate_callee (f := 96) rfl ?_); refine gL_ (some 20) Try.func96 #[.agg #[.int .i64 ((rd_T55 l0 x6_1).f0), .int .i64 ((rd_T55 l0 x6_1).f1)], .int .i64 a1] ?_; (with_reducible refine (spec_l03Turn.calls k1 ((rd_T55 l0 x6_1).f0) ((rd_T55 l0 x6_1).f1) a1 t601 t602 _ A7.out).mono ?_); rintro e w9 ⟨rfl, hb⟩; refine ⟨_, rfl, ?_⟩; replace HO_5 := Aside0.mk (Kd.R_below (rS_ HO_5.out) hb); replace HB := Aside0.mk (below_step bB_ hb); (try clear hb)) | ((with_reducible refine gate_builtin (b := .append) (xs := #[.tmp 14, .tmp 21]) rfl ?_); at_builtin; refine Kd.R_append k55 (w0 := w) w.heap.size rfl (.tmp 14) (.tmp 21) 27 55 (.agg #[(.int .i64 0), (.int .i64 0)]) 16 rfl Try.underlying27 info55 rfl (by decide) (by omega) u5 x5_1 (⟨t601, t602⟩ : S55) [.int .i64 t601, .int .i64 t602] (fun _ => True) (fun _ => False) rfl rfl ?aP (fun _ hk => hk.elim) ?aF ?aO ?aB ?aS ?aL ?_; (case aP => exact k55_mkM _ _ _ (⟨t601, t602⟩ : S55)); (case aB => exact bB_); (case aF => exact (fun _ _ => trivial)); (case aO => exact (rS_ HO_5.out)); (case aS => exact (below_size bB_)); (case aL => have := LMc8.out; omega); intro v604 w10 ho hb hg hat; rw [← Ny603.out] at ho; replace HB := Aside0.mk (hb); have HO605 := Aside0.mk (ho); clear HO_5; clear ho hb hg hat))
      go_roundg k1
      case measure => have := HK1.out; omega
      case rel => exact ⟨(y603), (wrap64 (x6_1 + 1)), r3_, H', ⟨by have := HK1.out; omega⟩, ⟨rS_ HO605.out⟩, ⟨bB_⟩⟩
     ·rw [if_neg c8] at H
      exact absurd H (by simp)
    ·rw [if_neg c6] at H
     exact absurd H (by simp)
   ·rw [if_neg c5] at H
    have c5b0 : decide (x6_1 < (l0.length : Int)) = false := decide_eq_false c5
    clear c5
    replace H := Option.bind_eq_some_iff.mp H
    obtain ⟨t606, A110, H⟩ := H
    try dsimp only at H
    have A11 := Aside0.mk A110
    clear A110
    replace H := Option.bind_eq_some_iff.mp H
    obtain ⟨t609, A120, H⟩ := H
    try dsimp only at H
    have A12 := Aside0.mk A120
    clear A120
    obtain rfl := Option.some.inj H
    obtain ⟨Ao13, co13, eo13⟩ := Kd.R_slice HO_5.out
    subst eo13
    go_wp2_with (first | ((with_reducible refine gate_callee (f := 97) rfl ?_); refine gL_ (some 24) Try.func97 #[.slice Ao13 x5_1.length co13] ?_; (with_reducible refine (spec_l02Sort.calls k1 _ _ x5_1 t606 _ ?side1 ?side2 A11.out).mono ?_); (case side1 => exact cS_ ((Kd.R_reads' HO_5.out).2.2)); (case side2 => exact (Kd.R_reads' HO_5.out).2.1); rintro e w14 ⟨v607, rfl, ho0, hb⟩; refine ⟨_, rfl, ?_⟩; have HO608 := Aside0.mk (Kd.R_lower (Kd.R_new' ho0 (Kd.R_lt (rS_ HO_5.out))) (below_size bB_)); replace HO_5 := Aside0.mk (Kd.R_elder' (rS_ HO_5.out) (Kd.R_base ho0) hb); replace HB := Aside0.mk (below_step bB_ hb); (try clear hb ho0); obtain ⟨Ao15, co15, eo15⟩ := Kd.R_slice HO608.out; subst eo15) | ((with_reducible refine gate_callee (f := 73) rfl ?_); refine gL_ (some 25) Try.func73 #[.slice Ao15 t606.length co15] ?_; (with_reducible refine (spec_l02Normal.calls k1 _ _ t606 t609 _ ?side1 ?side2 A12.out).mono ?_); (case side1 => exact cS_ ((Kd.R_reads' HO608.out).2.2)); (case side2 => exact (Kd.R_reads' HO608.out).2.1); rintro e w16 ⟨v610, rfl, ho0, hb⟩; refine ⟨_, rfl, ?_⟩; have HO611 := Aside0.mk (Kd.R_lower (Kd.R_new' (Kd.R_new' ho0 (Kd.R_lt (rS_ HO_5.out))) (Kd.R_lt (rS_ HO608.out))) (below_size bB_)); replace HO_5 := Aside0.mk (Kd.R_elder' (rS_ HO_5.out) (Kd.R_base ho0) hb); replace HO608 := Aside0.mk (Kd.R_elder' (rS_ HO608.out) (Kd.R_base ho0) hb); replace HB := Aside0.mk (below_step bB_ hb); (try clear hb ho0)))
    go_ret
    exact ⟨_, r2_, rS_ (Kd.R_mono HO611.out (fun _ hk => trivial)), bB_⟩

/-! ### impl_turnCell: function 126 -/
mutual
def impl_turnCell.j0 : Nat → Int → Int → Int → Option (Int × Int)
 | 0, _, _, _ => none
 | k + 1, x1, x640000, x640001 => impl_turnCell.l0 k (Int.tmod x1 4) 0 x640000 x640001
def impl_turnCell.l0 : Nat → Int → Int → Int → Int → Option (Int × Int)
 | 0, _, _, _, _ => none
 | k + 1, x12, x13, x640000, x640001 => if x13 < x12 then (impl_turnCell.l0 k x12 (wrap64 (x13 + 1)) (wrap64 (-x640001)) x640000) else (some (x640000, x640001))
end
def impl_turnCell.f (k : Nat) (a0_0 : Int) (a0_1 : Int) (a1 : Int) : Option (Int × Int) := if a1 ≥ 4 then (impl_turnCell.j0 k a1 (wrap64 (-a0_0)) a0_1) else (impl_turnCell.j0 k a1 a0_0 a0_1)
theorem impl_turnCell.mono_l : ∀ k, (∀ y0 y1 y2, LeO (impl_turnCell.j0 k y0 y1 y2) (impl_turnCell.j0 (k + 1) y0 y1 y2)) ∧ (∀ y0 y1 y2 y3, LeO (impl_turnCell.l0 k y0 y1 y2 y3) (impl_turnCell.l0 (k + 1) y0 y1 y2 y3))
 | 0 => ⟨fun _ _ _ r h => by simp [impl_turnCell.j0] at h, fun _ _ _ _ r h => by simp [impl_turnCell.l0] at h⟩
 | k + 1 => by
  obtain ⟨ih0, ih1⟩ := impl_turnCell.mono_l k
  refine ⟨?_, ?_⟩
  ·intro y0 y1 y2
   unfold impl_turnCell.j0
   repeat' first
   | (with_reducible exact ih0 _ _ _)
   | (with_reducible exact ih1 _ _ _ _)
   | (with_reducible exact LeO.refl _)
   | (with_reducible exact LeO.none _)
   | (with_reducible refine LeO.ite ?_ ?_)
   | (with_reducible refine LeO.bind ?_ (fun _ => ?_))
   | exact ih0 _ _ _
   | exact ih1 _ _ _ _
   | exact LeO.none _
   | refine LeO.ite ?_ ?_
   | refine LeO.bind ?_ (fun _ => ?_)
  ·intro y0 y1 y2 y3
   unfold impl_turnCell.l0
   repeat' first
   | (with_reducible exact ih0 _ _ _)
   | (with_reducible exact ih1 _ _ _ _)
   | (with_reducible exact LeO.refl _)
   | (with_reducible exact LeO.none _)
   | (with_reducible refine LeO.ite ?_ ?_)
   | (with_reducible refine LeO.bind ?_ (fun _ => ?_))
   | exact ih0 _ _ _
   | exact ih1 _ _ _ _
   | exact LeO.none _
   | refine LeO.ite ?_ ?_
   | refine LeO.bind ?_ (fun _ => ?_)
theorem impl_turnCell.mono : ∀ a0 a1 a2 k, LeO (impl_turnCell.f k a0 a1 a2) (impl_turnCell.f (k + 1) a0 a1 a2) := by
 intro a0 a1 a2 k
 obtain ⟨ih0, ih1⟩ := impl_turnCell.mono_l k
 unfold impl_turnCell.f
 repeat' first
   | (with_reducible exact ih0 _ _ _)
   | (with_reducible exact ih1 _ _ _ _)
   | (with_reducible exact LeO.refl _)
   | (with_reducible exact LeO.none _)
   | (with_reducible refine LeO.ite ?_ ?_)
   | (with_reducible refine LeO.bind ?_ (fun _ => ?_))
   | exact ih0 _ _ _
   | exact ih1 _ _ _ _
   | exact LeO.none _
   | refine LeO.ite ?_ ?_
   | refine LeO.bind ?_ (fun _ => ?_)
set_option maxHeartbeats 8000000 in
set_option maxRecDepth 100000 in
theorem impl_turnCell.calls (k : Nat) (a0_0 : Int) (a0_1 : Int) (a1 : Int) (r1 : Int) (r2 : Int) (w : World) (h : impl_turnCell.f k a0_0 a0_1 a1 = some (r1, r2)) :
  Calls Try.prog 126 #[.agg #[.int .i64 a0_0, .int .i64 a0_1], .int .i64 a1] w fun e w' => e = .returned (.agg #[.int .i64 r1, .int .i64 r2]) ∧ Below w.heap.size w w' := by
 have hu55 := Try.underlying55
 have HB := Aside0.mk (Below.refl w.heap.size w)
 have H : (if a1 ≥ 4 then (impl_turnCell.j0 k a1 (wrap64 (-a0_0)) a0_1) else (impl_turnCell.j0 k a1 a0_0 a0_1)) = some (r1, r2) := h
 clear h
 have HC3 := Aside0.mk H
 clear H
 go_enter Try.func126, Try.ntmps126
 go_upto_if 6 with (first | ((with_reducible refine gate_dst (N := 2) rfl ?_); refine box_event ?hg (N := 2) ?hd (cs := #[.int .i64 a0_0, .int .i64 a0_1]) (t := 55) ?hr ?_; (case hd => rfl); (case hg => rfl); (case hr => first | (go_simp; done) | (go_simp; rfl)); intro gb639 hg w4 hbox hb; have BK639 := Aside0.mk (hbox); have GW639 := Aside0.mk ((by rw [hg]; exact (below_size bB_) : w.heap.size ≤ gb639)); have GE639 := Aside0.mk ((by rw [hg]; exact (below_size bB_) : w.heap.size ≤ gb639)); replace HB := Aside0.mk (below_step bB_ hb); clear hb hbox hg) | ((with_reducible refine gate_dst (N := 4) rfl ?_); refine box_event ?hg (N := 4) ?hd (cs := #[.int .i64 0, .int .i64 0]) (t := 55) ?hr ?_; (case hd => rfl); (case hg => rfl); (case hr => first | (go_simp; done) | (go_simp; rfl)); intro gb640 hg w5 hbox hb; have BK640 := Aside0.mk (hbox); have GW640 := Aside0.mk ((by rw [hg]; exact (below_size (by repeat (first | (with_reducible first | exact HB.out | apply below_alloc | apply pw_below_drewN | apply below_drew1 | refine below_set ?_ GE639.out) | exact HB.out))) : w.heap.size ≤ gb640)); have GE640 := Aside0.mk ((by rw [hg]; exact (below_size (by repeat (first | (with_reducible first | exact HB.out | apply below_alloc | apply pw_below_drewN | apply below_drew1 | refine below_set ?_ GE639.out) | exact HB.out))) : w.heap.size ≤ gb640)); replace HB := Aside0.mk (below_step (by repeat (first | (with_reducible first | exact HB.out | apply below_alloc | apply pw_below_drewN | apply below_drew1 | refine below_set ?_ GE639.out) | exact HB.out)) hb); have NB639_640 := Aside0.mk ((by rw [hg]; exact Nat.ne_of_lt (blk_lt (g := gb639) (o := .cells #[.int .i64 a0_0, .int .i64 a0_1] 55 (0, 0)) (by (with_reducible repeat (first | refine blk_drewN ?_ _ | refine blk_drew ?_ | refine blk_alloc ?_ _)); exact BK639.out)) : gb639 ≠ gb640)); have NB640_639 := Aside0.mk ((by rw [hg]; exact Nat.ne_of_gt (blk_lt (g := gb639) (o := .cells #[.int .i64 a0_0, .int .i64 a0_1] 55 (0, 0)) (by (with_reducible repeat (first | refine blk_drewN ?_ _ | refine blk_drew ?_ | refine blk_alloc ?_ _)); exact BK639.out)) : gb640 ≠ gb639)); replace BK639 := Aside0.mk (blk_below (g := gb639) (o := .cells #[.int .i64 a0_0, .int .i64 a0_1] 55 (0, 0)) (by (with_reducible repeat (first | refine blk_drewN ?_ _ | refine blk_drew ?_ | refine blk_alloc ?_ _)); exact BK639.out) hb); clear hb hbox hg))
 (try simp only [Act.put, List.setIfInBounds_toArray, List.set_cons_zero, List.set_cons_succ])
 go_cut [] (fun wc => ∃ (kq : Nat) (x640000_2 : Int), Aside0 (impl_turnCell.j0 kq a1 x640000_2 a0_1 = some (r1, r2)) ∧ Aside0 (kq ≤ k) ∧ Aside0 (wc.heap[gb639]? = some (.cells #[.int .i64 x640000_2, .int .i64 a0_1] 55 (0, 0))) ∧ Aside0 (wc.heap[gb640]? = some (.cells #[.int .i64 0, .int .i64 0] 55 (0, 0))) ∧ Aside0 (Below w.heap.size w wc))
 case first =>
  have H := HC3.out
  clear HC3
  by_cases c6 : a1 ≥ 4
  ·rw [if_pos c6] at H
   have c6b0 : decide (4 ≤ a1) = true := decide_eq_true c6
   clear c6
   (first | rw [c6b0] | (simp only [i64_w, i32_w]; rw [c6b0]) | skip)
   have H' := Aside0.mk H
   clear H
   have hnb7 := NB639_640.out
   have hnc7 := NB640_639.out
   have hcz8_0 : w5.cell? ⟨gb639, 0, none⟩ = some (.int .i64 a0_0) := (blk_cell BK639.out 0).trans rfl
   have hcz8_1 : w5.cell? ⟨gb639, 1, none⟩ = some (.int .i64 a0_1) := (blk_cell BK639.out 1).trans rfl
   have hfz8_0 := blk_frozen BK639.out 0
   have hfz8_1 := blk_frozen BK639.out 1
   go_wp2
   go_meet
   case rel => exact ⟨_, (wrap64 (-a0_0)), H', ⟨by first | omega | exact Nat.le_refl _⟩, ⟨by (with_reducible repeat (first | refine blk_drewN ?_ _ | refine blk_drew ?_ | refine blk_alloc ?_ _)); refine blk_put (cs := #[.int .i64 a0_0, .int .i64 a0_1]) ?_ 0 _ rfl; (with_reducible repeat (first | refine blk_drewN ?_ _ | refine blk_drew ?_ | refine blk_alloc ?_ _)); exact BK639.out⟩, ⟨by (with_reducible repeat (first | refine blk_drewN ?_ _ | refine blk_drew ?_ | refine blk_alloc ?_ _)); refine blk_far ?_ NB640_639.out _; (with_reducible repeat (first | refine blk_drewN ?_ _ | refine blk_drew ?_ | refine blk_alloc ?_ _)); exact BK640.out⟩, ⟨by repeat (first | (with_reducible first | exact HB.out | apply below_alloc | apply pw_below_drewN | apply below_drew1 | refine below_set ?_ GE639.out | refine below_set ?_ GE640.out) | exact HB.out)⟩⟩
  ·rw [if_neg c6] at H
   have c6b0 : decide (4 ≤ a1) = false := decide_eq_false c6
   clear c6
   (first | rw [c6b0] | (simp only [i64_w, i32_w]; rw [c6b0]) | skip)
   have H' := Aside0.mk H
   clear H
   go_wp2
   go_meet
   case rel => exact ⟨_, (a0_0), H', ⟨by first | omega | exact Nat.le_refl _⟩, ⟨by (with_reducible repeat (first | refine blk_drewN ?_ _ | refine blk_drew ?_ | refine blk_alloc ?_ _)); exact BK639.out⟩, ⟨by (with_reducible repeat (first | refine blk_drewN ?_ _ | refine blk_drew ?_ | refine blk_alloc ?_ _)); exact BK640.out⟩, ⟨by repeat (first | (with_reducible first | exact HB.out | apply below_alloc | apply pw_below_drewN | apply below_drew1 | refine below_set ?_ GE639.out | refine below_set ?_ GE640.out) | exact HB.out)⟩⟩
 case rest =>
  clear HC3
  try clear c1
  try clear p2
  try clear c6
  try clear c6b0
  try clear p6
  try clear c7
  try clear hcz8_0
  try clear hcz8_1
  try clear hfz8_0
  try clear hfz8_1
  obtain ⟨kq, x640000_2, HA, HJ2, BK639, BK640, HB⟩ := hcut
  cases kq with
  | zero => exact absurd HA.out (by simp [impl_turnCell.j0])
  | succ kj2 =>
   have H := HA.out
   clear HA
   simp only [impl_turnCell.j0] at H
   have H' := Aside0.mk H
   clear H
   go_wp2
   go_loopg [13] kj2 (fun kq v13 w' => ∃ (x13_2 : Int) (x640000_2 : Int) (x640001_2 : Int), v13 = .int .i64 x13_2 ∧ Aside0 (impl_turnCell.l0 kq (Int.tmod a1 4) x13_2 x640000_2 x640001_2 = some (r1, r2)) ∧ Aside0 (kq ≤ kj2) ∧ Aside0 (w'.heap[gb639]? = some (.cells #[.int .i64 x640000_2, .int .i64 x640001_2] 55 (0, 0))) ∧ Aside0 (w'.heap[gb640]? = some (.cells #[.int .i64 0, .int .i64 0] 55 (0, 0))) ∧ Aside0 (Below w.heap.size w w'))
   case atStart => exact ⟨(0), (x640000_2), (a0_1), r3_, H', ⟨Nat.le_refl _⟩, ⟨by (with_reducible repeat (first | refine blk_drewN ?_ _ | refine blk_drew ?_ | refine blk_alloc ?_ _)); exact BK639.out⟩, ⟨by (with_reducible repeat (first | refine blk_drewN ?_ _ | refine blk_drew ?_ | refine blk_alloc ?_ _)); exact BK640.out⟩, ⟨by repeat (first | (with_reducible first | exact HB.out | apply below_alloc | apply pw_below_drewN | apply below_drew1 | refine below_set ?_ GE639.out | refine below_set ?_ GE640.out) | exact HB.out)⟩⟩
   case round =>
    clear H'
    try clear c1
    try clear p2
    try clear c6
    try clear c6b0
    try clear p6
    try clear c7
    try clear hcz8_0
    try clear hcz8_1
    try clear hfz8_0
    try clear hfz8_1
    try clear p2
    try clear p6
    obtain ⟨x13_2, x640000_2, x640001_2, rfl, HA, HK2, BK639, BK640, HB⟩ := hrel
    cases gk with
    | zero => exact absurd HA.out (by simp [impl_turnCell.l0])
    | succ k2 =>
     have H := HA.out
     clear HA
     simp only [impl_turnCell.l0] at H
     by_cases c9 : x13_2 < (Int.tmod a1 4)
     ·rw [if_pos c9] at H
      have c9b0 : decide (x13_2 < (Int.tmod a1 4)) = true := decide_eq_true c9
      clear c9
      have H' := Aside0.mk H
      clear H
      have hnb10 := NB639_640.out
      have hnc10 := NB640_639.out
      have hcz11_0 : wr.cell? ⟨gb639, 0, none⟩ = some (.int .i64 x640000_2) := (blk_cell BK639.out 0).trans rfl
      have hcz11_1 : wr.cell? ⟨gb639, 1, none⟩ = some (.int .i64 x640001_2) := (blk_cell BK639.out 1).trans rfl
      have hfz11_0 := blk_frozen BK639.out 0
      have hfz11_1 := blk_frozen BK639.out 1
      go_wp2
      go_roundg k2
      case measure => have := HJ2.out; have := HK2.out; omega
      case rel => exact ⟨(wrap64 (x13_2 + 1)), (wrap64 (-x640001_2)), (x640000_2), r3_, H', ⟨by have := HJ2.out; have := HK2.out; omega⟩, ⟨by (with_reducible repeat (first | refine blk_drewN ?_ _ | refine blk_drew ?_ | refine blk_alloc ?_ _)); refine blk_put (cs := #[.int .i64 (wrap64 (-x640001_2)), .int .i64 x640001_2]) ?_ 1 _ rfl; (with_reducible repeat (first | refine blk_drewN ?_ _ | refine blk_drew ?_ | refine blk_alloc ?_ _)); refine blk_put (cs := #[.int .i64 x640000_2, .int .i64 x640001_2]) ?_ 0 _ rfl; (with_reducible repeat (first | refine blk_drewN ?_ _ | refine blk_drew ?_ | refine blk_alloc ?_ _)); exact BK639.out⟩, ⟨by (with_reducible repeat (first | refine blk_drewN ?_ _ | refine blk_drew ?_ | refine blk_alloc ?_ _)); refine blk_far ?_ NB640_639.out _; (with_reducible repeat (first | refine blk_drewN ?_ _ | refine blk_drew ?_ | refine blk_alloc ?_ _)); refine blk_far ?_ NB640_639.out _; (with_reducible repeat (first | refine blk_drewN ?_ _ | refine blk_drew ?_ | refine blk_alloc ?_ _)); exact BK640.out⟩, ⟨by repeat (first | (with_reducible first | exact HB.out | apply below_alloc | apply pw_below_drewN | apply below_drew1 | refine below_set ?_ GE639.out | refine below_set ?_ GE640.out) | exact HB.out)⟩⟩
     ·rw [if_neg c9] at H
      have c9b0 : decide (x13_2 < (Int.tmod a1 4)) = false := decide_eq_false c9
      clear c9
      simp only [Option.some.injEq, Prod.mk.injEq] at H
      obtain ⟨rfl, rfl⟩ := H
      have hnb12 := NB639_640.out
      have hnc12 := NB640_639.out
      have hcz13_0 : wr.cell? ⟨gb639, 0, none⟩ = some (.int .i64 x640000_2) := (blk_cell BK639.out 0).trans rfl
      have hcz13_1 : wr.cell? ⟨gb639, 1, none⟩ = some (.int .i64 x640001_2) := (blk_cell BK639.out 1).trans rfl
      have hfz13_0 := blk_frozen BK639.out 0
      have hfz13_1 := blk_frozen BK639.out 1
      have hcz14_0 : wr.cell? ⟨gb640, 0, none⟩ = some (.int .i64 0) := (blk_cell BK640.out 0).trans rfl
      have hcz14_1 : wr.cell? ⟨gb640, 1, none⟩ = some (.int .i64 0) := (blk_cell BK640.out 1).trans rfl
      have hfz14_0 := blk_frozen BK640.out 0
      have hfz14_1 := blk_frozen BK640.out 1
      go_wp2
      refine bodyPost_ret (results_cell_row rfl _ _ gb640 55 #[.int .i64 x640000_2, .int .i64 x640001_2] (0, 0) _ rfl (by (with_reducible repeat (first | refine blk_drewN ?_ _ | refine blk_drew ?_ | refine blk_alloc ?_ _)); refine blk_put (cs := #[.int .i64 x640000_2, .int .i64 0]) ?_ 1 _ rfl; (with_reducible repeat (first | refine blk_drewN ?_ _ | refine blk_drew ?_ | refine blk_alloc ?_ _)); refine blk_put (cs := #[.int .i64 0, .int .i64 0]) ?_ 0 _ rfl; (with_reducible repeat (first | refine blk_drewN ?_ _ | refine blk_drew ?_ | refine blk_alloc ?_ _)); exact BK640.out) Try.underlying55 rfl (by kernel_rfl)) rfl ?_
      exact ⟨r2_, by repeat (first | (with_reducible first | exact HB.out | apply below_alloc | apply pw_below_drewN | apply below_drew1 | refine below_set ?_ GE639.out | refine below_set ?_ GE640.out) | exact HB.out)⟩

/-! ### impl_form: function 99 -/
def impl_form.l0 : Nat → Int → List (S55) → List (S55) → Int → Int → Option ((List (S55)))
 | 0, _, _, _, _, _ => none
 | k + 1, x1, x5, x11, x12, x13 => if x13 < x12 then (if 0 ≤ x13 then (if x13 < (x11.length : Int) then ((impl_turnCell.f k ((rd_T55 x11 x13).f0) ((rd_T55 x11 x13).f1) x1).bind fun bt646 => (if x5.length < 8796093022208 then (impl_form.l0 k x1 (x5 ++ [(⟨bt646.1, bt646.2⟩ : S55)]) x11 x12 (wrap64 (x13 + 1))) else (none))) else (none)) else (none)) else ((impl_sorted.f x5).bind fun t651 => ((impl_normal.f k t651).bind fun t654 => (some t654)))
def impl_form.f (k : Nat) (l0 : List (S55)) (a1 : Int) : Option ((List (S55))) := if 0 ≤ (l0.length : Int) then (if ((l0.length : Int) : Int).toNat ≤ 17592186044416 then (impl_form.l0 k a1 (([] : List (S55))) l0 (l0.length : Int) 0) else (none)) else (none)
theorem impl_form.mono_l : ∀ k, (∀ y0 y1 y2 y3 y4, LeO (impl_form.l0 k y0 y1 y2 y3 y4) (impl_form.l0 (k + 1) y0 y1 y2 y3 y4))
 | 0 => fun _ _ _ _ _ r h => by simp [impl_form.l0] at h
 | k + 1 => by
  have ih0 := impl_form.mono_l k
  ·intro y0 y1 y2 y3 y4
   unfold impl_form.l0
   repeat' first
   | (with_reducible exact ih0 _ _ _ _ _)
   | (with_reducible exact impl_normal.mono _ _)
   | (with_reducible exact impl_turnCell.mono _ _ _ _)
   | (with_reducible exact LeO.refl _)
   | (with_reducible exact LeO.none _)
   | (with_reducible refine LeO.ite ?_ ?_)
   | (with_reducible refine LeO.bind ?_ (fun _ => ?_))
   | exact ih0 _ _ _ _ _
   | exact impl_normal.mono _ _
   | exact impl_turnCell.mono _ _ _ _
   | exact LeO.none _
   | refine LeO.ite ?_ ?_
   | refine LeO.bind ?_ (fun _ => ?_)
theorem impl_form.mono : ∀ a0 a1 k, LeO (impl_form.f k a0 a1) (impl_form.f (k + 1) a0 a1) := by
 intro a0 a1 k
 have ih0 := impl_form.mono_l k
 unfold impl_form.f
 repeat' first
   | (with_reducible exact ih0 _ _ _ _ _)
   | (with_reducible exact impl_normal.mono _ _)
   | (with_reducible exact impl_turnCell.mono _ _ _ _)
   | (with_reducible exact LeO.refl _)
   | (with_reducible exact LeO.none _)
   | (with_reducible refine LeO.ite ?_ ?_)
   | (with_reducible refine LeO.bind ?_ (fun _ => ?_))
   | exact ih0 _ _ _ _ _
   | exact impl_normal.mono _ _
   | exact impl_turnCell.mono _ _ _ _
   | exact LeO.none _
   | refine LeO.ite ?_ ?_
   | refine LeO.bind ?_ (fun _ => ?_)
set_option maxHeartbeats 8000000 in
set_option maxRecDepth 100000 in
theorem impl_form.calls (k : Nat) (A0 : Option Addr) (c0 : Nat) (l0 : List (S55)) (a1 : Int) (r : List (S55)) (w : World) (hr0 : Kd.C k55 w A0 l0.length l0) (hc0 : l0.length ≤ c0) (h : impl_form.f k l0 a1 = some r) :
  Calls Try.prog 99 #[.slice A0 l0.length c0, .int .i64 a1] w fun e w' => ∃ v0_ : Value, e = .returned (v0_) ∧ Kd.R k55 55 w' w.heap.size (fun _ => True) v0_ r ∧ Below w.heap.size w w' := by
 have hu55 := Try.underlying55
 have HR0 := Aside0.mk hr0
 have HC0 := Aside0.mk hc0
 clear hr0 hc0
 have HB := Aside0.mk (Below.refl w.heap.size w)
 have H : (if 0 ≤ (l0.length : Int) then (if ((l0.length : Int) : Int).toNat ≤ 17592186044416 then (impl_form.l0 k a1 (([] : List (S55))) l0 (l0.length : Int) 0) else (none)) else (none)) = some r := h
 clear h
 by_cases c3 : 0 ≤ (l0.length : Int)
 ·rw [if_pos c3] at H
  have c3b0 := eq_true c3
  have c3b1 : decide (0 ≤ (l0.length : Int)) = true := decide_eq_true c3
  clear c3
  by_cases c4 : ((l0.length : Int) : Int).toNat ≤ 17592186044416
  ·rw [if_pos c4] at H
   have c4b0 := eq_true c4
   have c4b1 : decide (((l0.length : Int) : Int).toNat ≤ 17592186044416) = true := decide_eq_true c4
   clear c4
   obtain ⟨y641, hY_⟩ : ∃ y_ : List (S55), y_ = (([] : List (S55))) := ⟨_, rfl⟩
   replace H : (impl_form.l0 k a1 y641 l0 (l0.length : Int) 0) = some r := yY_
   have Ny641 := Aside0.mk hY_
   clear hY_
   have H' := Aside0.mk H
   clear H
   go_enter Try.func99, Try.ntmps99
   go_wp2_with (first | ((with_reducible refine gate_dst (N := 10) rfl ?_); refine R_makecap k55 _ 55 rfl (N := 10) rfl 27 _ _ rfl (l0.length : Int) rfl rfl Try.underlying27 (.agg #[(.int .i64 0), (.int .i64 0)]) 16 info55 (by omega) (ok := fun _ => True) trivial (of_decide_eq_true aS_) (Nat.le_trans (Nat.mul_le_mul_right _ (of_decide_eq_true aS_ : (l0.length : Int).toNat ≤ 17592186044416)) (by omega)) (Below.refl _ _) (Nat.le_refl _) ?_; intro v642 w5 ho6 hb hg_ hnew_; clear hg_ hnew_; (first | rw [← Ny641.out] at ho6 | (simp only [Int.reduceToNat] at ho6; rw [← Ny641.out] at ho6)); have HO643 := Aside0.mk (Kd.R_lower ho6 (below_size bB_)); replace HB := Aside0.mk (below_step bB_ hb); clear hb ho6))
   go_loopg [5, 13] k (fun kq v5 v13 w' => ∃ (x5_1 : List (S55)) (x13_1 : Int), v13 = .int .i64 x13_1 ∧ Aside0 (impl_form.l0 kq a1 x5_1 l0 (l0.length : Int) x13_1 = some r) ∧ Aside0 (kq ≤ k) ∧ Aside0 (Kd.R k55 55 w' w.heap.size (fun _ => True) v5 x5_1) ∧ Aside0 (Below w.heap.size w w'))
   case atStart => exact ⟨(y641), (0), r3_, H', ⟨Nat.le_refl _⟩, ⟨rS_ HO643.out⟩, ⟨bB_⟩⟩
   case round =>
    clear H'
    try clear p2
    try clear c3
    try clear c3b0
    try clear c3b1
    try clear c4
    try clear c4b0
    try clear c4b1
    obtain ⟨x5_1, x13_1, rfl, HA, HK1, HO_5, HB⟩ := hrel
    cases gk with
    | zero => exact absurd HA.out (by simp [impl_form.l0])
    | succ k1 =>
     have H := HA.out
     clear HA
     simp only [impl_form.l0] at H
     by_cases c7 : x13_1 < (l0.length : Int)
     ·rw [if_pos c7] at H
      have c7b0 : decide (x13_1 < (l0.length : Int)) = true := decide_eq_true c7
      clear c7
      by_cases c8 : 0 ≤ x13_1
      ·rw [if_pos c8] at H
       have c8b0 : decide (0 ≤ x13_1) = true := decide_eq_true c8
       clear c8
       by_cases c9 : x13_1 < (l0.length : Int)
       ·rw [if_pos c9] at H
        have c9b0 : decide (x13_1 < (l0.length : Int)) = true := decide_eq_true c9
        clear c9
        replace H := Option.bind_eq_some_iff.mp H
        obtain ⟨⟨t646, t647⟩, A100, H⟩ := H
        try dsimp only at H
        have A10 := Aside0.mk A100
        clear A100
        by_cases c11 : x5_1.length < 8796093022208
        ·rw [if_pos c11] at H
         have LMc11 := Aside0.mk c11
         clear c11
         obtain ⟨y648, hY_⟩ : ∃ y_ : List (S55), y_ = (x5_1 ++ [(⟨t646, t647⟩ : S55)]) := ⟨_, rfl⟩
         replace H : (impl_form.l0 k1 a1 y648 l0 (l0.length : Int) (wrap64 (x13_1 + 1))) = some r := yY_
         have Ny648 := Aside0.mk hY_
         clear hY_
         have H' := Aside0.mk H
         clear H
         have p644 : 0 ≤ (x13_1 : Int) := of_decide_eq_true aS_
         have q644 : x13_1 < (l0.length : Int) := of_decide_eq_true aS_
         obtain ⟨ad644, e644, hx644_0, hx644_1⟩ := at_T55 HR0.out x13_1 p644 q644
         cases e644
         replace hx644_0 := (HB.out.cell (World.block_lt_of_cell? w _ hx644_0)).trans hx644_0
         replace hx644_1 := (HB.out.cell (World.block_lt_of_cell? w _ hx644_1)).trans hx644_1
         replace p644 := eq_true p644
         replace q644 := eq_true q644
         go_wp2_with (first | ((with_reducible refine gate_dst (N := 7) rfl ?_); refine box_event ?hg (N := 7) ?hd (cs := #[.int .i64 0, .int .i64 0]) (t := 55) ?hr ?_; (case hd => rfl); (case hg => rfl); (case hr => first | (go_simp; done) | (go_simp; rfl)); intro gb645 hg w12 hbox hb; replace HO_5 := Aside0.mk (Kd.R_below (Kd.R_elderB (rS_ HO_5.out) gb645 (Nat.le_of_eq hg.symm)) hb); have BK645 := Aside0.mk (hbox); have GW645 := Aside0.mk ((by rw [hg]; exact (below_size bB_) : w.heap.size ≤ gb645)); have GE645 := Aside0.mk ((by rw [hg]; exact (below_size bB_) : w.heap.size ≤ gb645)); replace HB := Aside0.mk (below_step bB_ hb); clear hb hbox hg; have hcz13_0 : w12.cell? ⟨gb645, 0, none⟩ = some (.int .i64 0) := (blk_cell BK645.out 0).trans rfl; have hcz13_1 : w12.cell? ⟨gb645, 1, none⟩ = some (.int .i64 0) := (blk_cell BK645.out 1).trans rfl; have hfz13_0 := blk_frozen BK645.out 0; have hfz13_1 := blk_frozen BK645.out 1) | ((with_reducible refine gate_callee (f := 126) rfl ?_); refine gL_ (some 20) Try.func126 #[.agg #[.int .i64 ((rd_T55 l0 x13_1).f0), .int .i64 ((rd_T55 l0 x13_1).f1)], .int .i64 a1] ?_; (with_reducible refine (impl_turnCell.calls k1 ((rd_T55 l0 x13_1).f0) ((rd_T55 l0 x13_1).f1) a1 t646 t647 _ A10.out).mono ?_); rintro e w14 ⟨rfl, hb⟩; refine ⟨_, rfl, ?_⟩; replace HO_5 := Aside0.mk (Kd.R_below (rS_ (Kd.R_mono (Kd.R_far (p := ⟨gb645, 1, none⟩) (Kd.R_far (p := ⟨gb645, 0, none⟩) (Kd.R_mono HO_5.out (fun k_ hk => (⟨hk, hk.2⟩ : _ ∧ k_ ≠ gb645))) (fun _ hk => hk.2) (.int .i64 ((rd_T55 l0 x13_1).f0))) (fun _ hk => hk.2) (.int .i64 ((rd_T55 l0 x13_1).f1))) (fun _ h_ => h_.1))) hb); replace BK645 := Aside0.mk (blk_below (g := gb645) (o := .cells #[.int .i64 ((rd_T55 l0 x13_1).f0), .int .i64 ((rd_T55 l0 x13_1).f1)] 55 (0, 0)) (by (with_reducible repeat (first | refine blk_drewN ?_ _ | refine blk_drew ?_ | refine blk_alloc ?_ _)); refine blk_put (cs := #[.int .i64 ((rd_T55 l0 x13_1).f0), .int .i64 0]) ?_ 1 _ rfl; (with_reducible repeat (first | refine blk_drewN ?_ _ | refine blk_drew ?_ | refine blk_alloc ?_ _)); refine blk_put (cs := #[.int .i64 0, .int .i64 0]) ?_ 0 _ rfl; (with_reducible repeat (first | refine blk_drewN ?_ _ | refine blk_drew ?_ | refine blk_alloc ?_ _)); exact BK645.out) hb); replace HB := Aside0.mk (below_step (by repeat (first | (with_reducible first | exact HB.out | apply below_alloc | apply pw_below_drewN | apply below_drew1 | refine below_set ?_ GE645.out) | exact HB.out)) hb); (try clear hb)) | ((with_reducible refine gate_builtin (b := .append) (xs := #[.tmp 17, .tmp 21]) rfl ?_); at_builtin; refine Kd.R_append k55 (w0 := w) w.heap.size rfl (.tmp 17) (.tmp 21) 27 55 (.agg #[(.int .i64 0), (.int .i64 0)]) 16 rfl Try.underlying27 info55 rfl (by decide) (by omega) u5 x5_1 (⟨t646, t647⟩ : S55) [.int .i64 t646, .int .i64 t647] (fun k_ => k_ ≠ gb645) (fun _ => False) rfl rfl ?aP (fun _ hk => hk.elim) ?aF ?aO ?aB ?aS ?aL ?_; (case aP => exact k55_mkM _ _ _ (⟨t646, t647⟩ : S55)); (case aB => exact (by repeat (first | (with_reducible first | exact HB.out | apply below_alloc | apply pw_below_drewN | apply below_drew1 | refine below_set ?_ GE645.out) | exact HB.out))); (case aF => exact (fun k_ hk => Kd.freshB (g := gb645) (o := .cells #[.int .i64 ((rd_T55 l0 x13_1).f0), .int .i64 ((rd_T55 l0 x13_1).f1)] 55 (0, 0)) (by (with_reducible repeat (first | refine blk_drewN ?_ _ | refine blk_drew ?_ | refine blk_alloc ?_ _)); exact BK645.out) k_ hk)); (case aO => exact (rS_ (Kd.R_mono HO_5.out (fun _ hk => hk.2)))); (case aS => exact (below_size (by repeat (first | (with_reducible first | exact HB.out | apply below_alloc | apply pw_below_drewN | apply below_drew1 | refine below_set ?_ GE645.out) | exact HB.out)))); (case aL => have := LMc11.out; omega); intro v649 w15 ho hb hg hat; rw [← Ny648.out] at ho; replace BK645 := Aside0.mk (blk_grown (g := gb645) (o := .cells #[.int .i64 ((rd_T55 l0 x13_1).f0), .int .i64 ((rd_T55 l0 x13_1).f1)] 55 (0, 0)) (by (with_reducible repeat (first | refine blk_drewN ?_ _ | refine blk_drew ?_ | refine blk_alloc ?_ _)); exact BK645.out) hg (Kd.R_away HO_5.out (fun _ hk => hk.2))); replace HB := Aside0.mk (hb); have HO650 := Aside0.mk (ho); clear HO_5; clear ho hb hg hat))
         go_roundg k1
         case measure => have := HK1.out; omega
         case rel => exact ⟨(y648), (wrap64 (x13_1 + 1)), r3_, H', ⟨by have := HK1.out; omega⟩, ⟨rS_ (Kd.R_mono HO650.out (fun _ hk => trivial))⟩, ⟨by repeat (first | (with_reducible first | exact HB.out | apply below_alloc | apply pw_below_drewN | apply below_drew1 | refine below_set ?_ GE645.out) | exact HB.out)⟩⟩
        ·rw [if_neg c11] at H
         exact absurd H (by simp)
       ·rw [if_neg c9] at H
        exact absurd H (by simp)
      ·rw [if_neg c8] at H
       exact absurd H (by simp)
     ·rw [if_neg c7] at H
      have c7b0 : decide (x13_1 < (l0.length : Int)) = false := decide_eq_false c7
      clear c7
      replace H := Option.bind_eq_some_iff.mp H
      obtain ⟨t651, A160, H⟩ := H
      try dsimp only at H
      have A16 := Aside0.mk A160
      clear A160
      replace H := Option.bind_eq_some_iff.mp H
      obtain ⟨t654, A170, H⟩ := H
      try dsimp only at H
      have A17 := Aside0.mk A170
      clear A170
      obtain rfl := Option.some.inj H
      obtain ⟨Ao18, co18, eo18⟩ := Kd.R_slice HO_5.out
      subst eo18
      go_wp2_with (first | ((with_reducible refine gate_callee (f := 84) rfl ?_); refine gL_ (some 25) Try.func84 #[.slice Ao18 x5_1.length co18] ?_; (with_reducible refine (impl_sorted.calls _ _ x5_1 t651 _ ?side1 ?side2 A16.out).mono ?_); (case side1 => exact cS_ ((Kd.R_reads' HO_5.out).2.2)); (case side2 => exact (Kd.R_reads' HO_5.out).2.1); rintro e w19 ⟨v652, rfl, ho0, hb⟩; refine ⟨_, rfl, ?_⟩; have HO653 := Aside0.mk (Kd.R_lower (Kd.R_new' ho0 (Kd.R_lt (rS_ HO_5.out))) (below_size bB_)); replace HO_5 := Aside0.mk (Kd.R_elder' (rS_ HO_5.out) (Kd.R_base ho0) hb); replace HB := Aside0.mk (below_step bB_ hb); (try clear hb ho0); obtain ⟨Ao20, co20, eo20⟩ := Kd.R_slice HO653.out; subst eo20) | ((with_reducible refine gate_callee (f := 49) rfl ?_); refine gL_ (some 26) Try.func49 #[.slice Ao20 t651.length co20] ?_; (with_reducible refine (impl_normal.calls k1 _ _ t651 t654 _ ?side1 ?side2 A17.out).mono ?_); (case side1 => exact cS_ ((Kd.R_reads' HO653.out).2.2)); (case side2 => exact (Kd.R_reads' HO653.out).2.1); rintro e w21 ⟨v655, rfl, ho0, hb⟩; refine ⟨_, rfl, ?_⟩; have HO656 := Aside0.mk (Kd.R_lower (Kd.R_new' (Kd.R_new' ho0 (Kd.R_lt (rS_ HO_5.out))) (Kd.R_lt (rS_ HO653.out))) (below_size bB_)); replace HO_5 := Aside0.mk (Kd.R_elder' (rS_ HO_5.out) (Kd.R_base ho0) hb); replace HO653 := Aside0.mk (Kd.R_elder' (rS_ HO653.out) (Kd.R_base ho0) hb); replace HB := Aside0.mk (below_step bB_ hb); (try clear hb ho0)))
      go_ret
      exact ⟨_, r2_, rS_ (Kd.R_mono HO656.out (fun _ hk => trivial)), bB_⟩
  ·rw [if_neg c4] at H
   exact absurd H (by simp)
 ·rw [if_neg c3] at H
  exact absurd H (by simp)

/-! ### impl_forms: function 64 -/
def impl_forms.l0 : Nat → List (S55) → List (List (S55)) → Int → Int → Option ((List (List (S55))))
 | 0, _, _, _, _ => none
 | k + 1, x0, x5, x8, x9 => if x9 < x8 then ((impl_form.f k x0 x9).bind fun t660 => (if x5.length < 5864062014805 then (impl_forms.l0 k x0 (x5 ++ [t660]) x8 (wrap64 (x9 + 1))) else (none))) else (some x5)
def impl_forms.f (k : Nat) (l0 : List (S55)) (a1 : Int) : Option ((List (List (S55)))) := impl_forms.l0 k l0 (([] : List (List (S55)))) a1 0
theorem impl_forms.mono_l : ∀ k, (∀ y0 y1 y2 y3, LeO (impl_forms.l0 k y0 y1 y2 y3) (impl_forms.l0 (k + 1) y0 y1 y2 y3))
 | 0 => fun _ _ _ _ r h => by simp [impl_forms.l0] at h
 | k + 1 => by
  have ih0 := impl_forms.mono_l k
  ·intro y0 y1 y2 y3
   unfold impl_forms.l0
   repeat' first
   | (with_reducible exact ih0 _ _ _ _)
   | (with_reducible exact impl_form.mono _ _ _)
   | (with_reducible exact LeO.refl _)
   | (with_reducible exact LeO.none _)
   | (with_reducible refine LeO.ite ?_ ?_)
   | (with_reducible refine LeO.bind ?_ (fun _ => ?_))
   | exact ih0 _ _ _ _
   | exact impl_form.mono _ _ _
   | exact LeO.none _
   | refine LeO.ite ?_ ?_
   | refine LeO.bind ?_ (fun _ => ?_)
theorem impl_forms.mono : ∀ a0 a1 k, LeO (impl_forms.f k a0 a1) (impl_forms.f (k + 1) a0 a1) := by
 intro a0 a1 k
 have ih0 := impl_forms.mono_l k
 unfold impl_forms.f
 repeat' first
   | (with_reducible exact ih0 _ _ _ _)
   | (with_reducible exact impl_form.mono _ _ _)
   | (with_reducible exact LeO.refl _)
   | (with_reducible exact LeO.none _)
   | (with_reducible refine LeO.ite ?_ ?_)
   | (with_reducible refine LeO.bind ?_ (fun _ => ?_))
   | exact ih0 _ _ _ _
   | exact impl_form.mono _ _ _
   | exact LeO.none _
   | refine LeO.ite ?_ ?_
   | refine LeO.bind ?_ (fun _ => ?_)
set_option maxHeartbeats 8000000 in
set_option maxRecDepth 100000 in
theorem impl_forms.calls (k : Nat) (A0 : Option Addr) (c0 : Nat) (l0 : List (S55)) (a1 : Int) (r : List (List (S55))) (w : World) (hr0 : Kd.C k55 w A0 l0.length l0) (hc0 : l0.length ≤ c0) (h : impl_forms.f k l0 a1 = some r) :
  Calls Try.prog 64 #[.slice A0 l0.length c0, .int .i64 a1] w fun e w' => ∃ v0_ : Value, e = .returned (v0_) ∧ Kd.S (Kd.slice 55 k55) 27 w' w.heap.size (fun _ => True) v0_ r ∧ Below w.heap.size w w' := by
 have HR0 := Aside0.mk hr0
 have HC0 := Aside0.mk hc0
 clear hr0 hc0
 have HB := Aside0.mk (Below.refl w.heap.size w)
 have H : (impl_forms.l0 k l0 (([] : List (List (S55)))) a1 0) = some r := h
 clear h
 obtain ⟨y657, hY_⟩ : ∃ y_ : List (List (S55)), y_ = (([] : List (List (S55)))) := ⟨_, rfl⟩
 replace H : (impl_forms.l0 k l0 y657 a1 0) = some r := yY_
 have Ny657 := Aside0.mk hY_
 clear hY_
 have H' := Aside0.mk H
 clear H
 go_enter Try.func64, Try.ntmps64
 go_wp2_with (first | ((with_reducible refine gate_dst (N := 7) rfl ?_); refine Kd.S_lit (Kd.slice 55 k55) _ 27 ?hg (N := 7) ?hd (xs := ([] : List (List (S55)))) (inner := []) (ok := fun _ => True) (okp := fun _ => True) ?hr ?hp (fun _ hk => hk) trivial (Below.refl _ _) (Nat.le_refl _) (by simp) ?_; (case hd => rfl); (case hg => rfl); (case hr => first | (go_simp; done) | (go_simp; rfl)); (case hp => exact (Reps.none _ _)); intro v658 w3 ho4 hb hg_ hnew_; clear hg_ hnew_; (first | rw [← Ny657.out] at ho4 | (simp only [Int.reduceToNat] at ho4; rw [← Ny657.out] at ho4)); have HO659 := Aside0.mk (Kd.S_lower ho4 (below_size bB_)); replace HB := Aside0.mk (below_step bB_ hb); clear hb ho4))
 go_loopg [5, 9] k (fun kq v5 v9 w' => ∃ (x5_1 : List (List (S55))) (x9_1 : Int), v9 = .int .i64 x9_1 ∧ Aside0 (impl_forms.l0 kq l0 x5_1 a1 x9_1 = some r) ∧ Aside0 (kq ≤ k) ∧ Aside0 (Kd.S (Kd.slice 55 k55) 27 w' w.heap.size (fun _ => True) v5 x5_1) ∧ Aside0 (Below w.heap.size w w'))
 case atStart => exact ⟨(y657), (0), r3_, H', ⟨Nat.le_refl _⟩, ⟨sS_ HO659.out⟩, ⟨bB_⟩⟩
 case round =>
  clear H'
  try clear p2
  obtain ⟨x5_1, x9_1, rfl, HA, HK1, HO_5, HB⟩ := hrel
  cases gk with
  | zero => exact absurd HA.out (by simp [impl_forms.l0])
  | succ k1 =>
   have H := HA.out
   clear HA
   simp only [impl_forms.l0] at H
   by_cases c5 : x9_1 < a1
   ·rw [if_pos c5] at H
    have c5b0 : decide (x9_1 < a1) = true := decide_eq_true c5
    clear c5
    replace H := Option.bind_eq_some_iff.mp H
    obtain ⟨t660, A60, H⟩ := H
    try dsimp only at H
    have A6 := Aside0.mk A60
    clear A60
    by_cases c7 : x5_1.length < 5864062014805
    ·rw [if_pos c7] at H
     have LMc7 := Aside0.mk c7
     clear c7
     obtain ⟨y663, hY_⟩ : ∃ y_ : List (List (S55)), y_ = (x5_1 ++ [t660]) := ⟨_, rfl⟩
     replace H : (impl_forms.l0 k1 l0 y663 a1 (wrap64 (x9_1 + 1))) = some r := yY_
     have Ny663 := Aside0.mk hY_
     clear hY_
     have H' := Aside0.mk H
     clear H
     go_wp2_with (first | ((with_reducible refine gate_callee (f := 99) rfl ?_); refine gL_ (some 15) Try.func99 #[.slice A0 l0.length c0, .int .i64 x9_1] ?_; (with_reducible refine (impl_form.calls k1 _ _ l0 x9_1 t660 _ ?side1 ?side2 A6.out).mono ?_); (case side1 => exact cS_ (Kd.C_below HR0.out HB.out)); (case side2 => exact HC0.out); rintro e w8 ⟨v661, rfl, ho0, hb⟩; refine ⟨_, rfl, ?_⟩; replace HO_5 := Aside0.mk (Kd.S_elder' (sS_ HO_5.out) (Kd.R_base ho0) hb); have HO662 := Aside0.mk (Kd.R_lower ho0 (below_size bB_)); replace HB := Aside0.mk (below_step bB_ hb); (try clear hb ho0); obtain ⟨Ao10, co10, eo10⟩ := Kd.R_slice HO662.out; subst eo10) | ((with_reducible refine gate_builtin (b := .append) (xs := #[.tmp 12, .tmp 16]) rfl ?_); at_builtin; refine Kd.S_append (Kd.slice 55 k55) (w0 := w) w.heap.size rfl (.tmp 12) (.tmp 16) 24 27 (.slice none 0 0) 24 rfl Try.underlying24 info27 rfl (by decide) (by omega) u5 x5_1 t660 [.slice Ao10 t660.length co10] (fun _ => True) (fun k_ => some k_ = (.slice Ao10 t660.length co10 : Value).ownBlock) rfl rfl ?aP (fun k_ hk_ => ((Kd.R_mono (ok' := fun k_ => ((fun _ => True)) k_ ∧ some k_ ≠ (u5 : Value).ownBlock) (Kd.R_apart' (HO662.out) (Kd.S_typed HO_5.out) (by decide)) (fun k_ hk => ⟨trivial, hk.2⟩))).1 k_ hk_.symm) ?aF ?aO ?aB ?aS ?aL ?_; (case aP => exact Kd.M_row (Kd.R_mono (Kd.R_tight rfl (Kd.R_mono (ok' := fun k_ => ((fun _ => True)) k_ ∧ some k_ ≠ (u5 : Value).ownBlock) (Kd.R_apart' (HO662.out) (Kd.S_typed HO_5.out) (by decide)) (fun k_ hk => ⟨trivial, hk.2⟩))) (fun _ h_ => h_))); (case aB => exact bB_); (case aF => exact (fun _ _ => trivial)); (case aO => exact (sS_ (Kd.S_mono HO_5.out (fun k_ hk => ⟨trivial, fun e_ => hk.2 e_⟩)))); (case aS => exact (below_size bB_)); (case aL => have := LMc7.out; omega); intro v664 w9 ho hb hg hat; rw [← Ny663.out] at ho; replace HB := Aside0.mk (hb); have HO665 := Aside0.mk (ho); clear HO_5 HO662; clear ho hb hg hat))
     go_roundg k1
     case measure => have := HK1.out; omega
     case rel => exact ⟨(y663), (wrap64 (x9_1 + 1)), r3_, H', ⟨by have := HK1.out; omega⟩, ⟨sS_ HO665.out⟩, ⟨bB_⟩⟩
    ·rw [if_neg c7] at H
     exact absurd H (by simp)
   ·rw [if_neg c5] at H
    have c5b0 : decide (x9_1 < a1) = false := decide_eq_false c5
    clear c5
    obtain rfl := Option.some.inj H
    go_wp2
    go_ret
    exact ⟨_, r2_, sS_ HO_5.out, bB_⟩

end Go.Proofs.Ytbkafaoehheioaa.X
