-- xprint.py
import Derived.Lib.SliceRun
import Derived.Test.YtpilmhjbgbpbmaaXx0
import Derived.Test.YtpilmhjbgbpbmaaXx1
import Derived.Test.YtpilmhjbgbpbmaaXx2
namespace Go.Proofs.Ytpilmhjbgbpbmaa.X
open Go.RowKit Go.Proofs.YtpilmhjbgbpbmaaW.PrintWords Go.Proofs.YtpilmhjbgbpbmaaW.PrintLast Go.Proofs.YtpilmhjbgbpbmaaW.PrintMore
attribute [local go_sem] max2_int min2_int max_two min_two max_three min_three max_four min_four   -- for this text's walks alone
set_option linter.unusedVariables false
set_option linter.unusedSimpArgs false

attribute [local go_sem high] eqA42
/-! ### spec_l02Around: function 105 -/
def spec_l02Around.f (a0_0 : Int) (a0_1 : Int) : Option ((List (S42))) := some (([(⟨a0_0, wrap64 (a0_1 - 1)⟩ : S42), (⟨wrap64 (a0_0 - 1), a0_1⟩ : S42), (⟨wrap64 (a0_0 + 1), a0_1⟩ : S42), (⟨a0_0, wrap64 (a0_1 + 1)⟩ : S42)] : List (S42)))
set_option maxHeartbeats 8000000 in
set_option maxRecDepth 100000 in
theorem spec_l02Around.calls (a0_0 : Int) (a0_1 : Int) (r : List (S42)) (w : World) (h : spec_l02Around.f a0_0 a0_1 = some r) :
  Calls Try.prog 105 #[.agg #[.int .i64 a0_0, .int .i64 a0_1]] w fun e w' => ∃ v0_ : Value, e = .returned (v0_) ∧ Kd.R k42 42 w' w.heap.size (fun _ => True) v0_ r ∧ Below w.heap.size w w' := by
 have hu42 := Try.underlying42
 have HB := Aside0.mk (Below.refl w.heap.size w)
 have H : (some (([(⟨a0_0, wrap64 (a0_1 - 1)⟩ : S42), (⟨wrap64 (a0_0 - 1), a0_1⟩ : S42), (⟨wrap64 (a0_0 + 1), a0_1⟩ : S42), (⟨a0_0, wrap64 (a0_1 + 1)⟩ : S42)] : List (S42)))) = some r := h
 clear h
 obtain ⟨y595, hy595⟩ : ∃ y_ : List (S42), y_ = (([(⟨a0_0, wrap64 (a0_1 - 1)⟩ : S42), (⟨wrap64 (a0_0 - 1), a0_1⟩ : S42), (⟨wrap64 (a0_0 + 1), a0_1⟩ : S42), (⟨a0_0, wrap64 (a0_1 + 1)⟩ : S42)] : List (S42))) := ⟨_, rfl⟩
 replace H : (some y595) = some r := by first | (rw [hy595]; with_reducible exact H) | (have H2_ := (Option.bind_some _ _).symm.trans H; rw [hy595]; with_reducible exact H2_) | (have H2_ := (Option.bind_some _ _).symm.trans H; with_reducible exact H2_) | with_reducible exact H | (rw [hy595]; exact H) | exact H
 have Ny595 := Aside0.mk hy595
 clear hy595
 obtain rfl := Option.some.inj H
 go_enter Try.func105, Try.ntmps105
 go_wp2_with (first | ((with_reducible refine gate_dst (N := 1) rfl ?_); refine box_event ?hg (N := 1) ?hd (cs := #[.int .i64 a0_0, .int .i64 a0_1]) (t := 42) ?hr ?_; (case hd => rfl); (case hg => rfl); (case hr => first | (go_simp; done) | (go_simp; rfl)); intro gb594 hg w2 hbox hb; have n0_ := Aside0.mk (below_step (by repeat (with_reducible first | exact HB.out | apply below_alloc | apply pw_below_drewN | apply below_drew1)) hb); have n1_ := Aside0.mk (hbox); have n2_ := Aside0.mk ((by rw [hg]; exact (below_size (by repeat (with_reducible first | exact HB.out | apply below_alloc | apply pw_below_drewN | apply below_drew1))) : w.heap.size ≤ gb594)); have n3_ := Aside0.mk ((by rw [hg]; exact (below_size (by repeat (with_reducible first | exact HB.out | apply below_alloc | apply pw_below_drewN | apply below_drew1))) : w.heap.size ≤ gb594)); clear HB; have HB := n0_; have BK594 := n1_; have GW594 := n2_; have GE594 := n3_; clear n0_ n1_ n2_ n3_; clear hb hbox hg; have hcz3_0 : w2.cell? ⟨gb594, 0, none⟩ = some (.int .i64 a0_0) := (blk_cell BK594.out 0).trans rfl; have hcz3_1 : w2.cell? ⟨gb594, 1, none⟩ = some (.int .i64 a0_1) := (blk_cell BK594.out 1).trans rfl; have hfz3_0 := blk_frozen BK594.out 0; have hfz3_1 := blk_frozen BK594.out 1) | ((with_reducible refine gate_dst (N := 27) rfl ?_); refine Kd.R_lit k42 _ 42 ?hg (N := 27) ?hd (xs := ([(⟨a0_0, wrap64 (a0_1 - 1)⟩ : S42), (⟨wrap64 (a0_0 - 1), a0_1⟩ : S42), (⟨wrap64 (a0_0 + 1), a0_1⟩ : S42), (⟨a0_0, wrap64 (a0_1 + 1)⟩ : S42)] : List (S42))) (inner := [.int .i64 a0_0, .int .i64 (wrap64 (a0_1 - 1)), .int .i64 (wrap64 (a0_0 - 1)), .int .i64 a0_1, .int .i64 (wrap64 (a0_0 + 1)), .int .i64 a0_1, .int .i64 a0_0, .int .i64 (wrap64 (a0_1 + 1))]) (ok := fun _ => True) (okp := fun _ => True) ?hr ?hp (fun _ hk => hk) trivial (Below.refl _ _) (Nat.le_refl _) (by simp) ?_; (case hd => rfl); (case hg => rfl); (case hr => first | (go_simp; done) | (go_simp; rfl)); (case hp => exact (Reps.c2 (show Kd.M k42 _ _ _ (⟨a0_0, wrap64 (a0_1 - 1)⟩ : S42) [.int .i64 a0_0, .int .i64 (wrap64 (a0_1 - 1))] from (k42_mkM _ _ _ (⟨a0_0, wrap64 (a0_1 - 1)⟩ : S42) )) (Reps.c2 (show Kd.M k42 _ _ _ (⟨wrap64 (a0_0 - 1), a0_1⟩ : S42) [.int .i64 (wrap64 (a0_0 - 1)), .int .i64 a0_1] from (k42_mkM _ _ _ (⟨wrap64 (a0_0 - 1), a0_1⟩ : S42) )) (Reps.c2 (show Kd.M k42 _ _ _ (⟨wrap64 (a0_0 + 1), a0_1⟩ : S42) [.int .i64 (wrap64 (a0_0 + 1)), .int .i64 a0_1] from (k42_mkM _ _ _ (⟨wrap64 (a0_0 + 1), a0_1⟩ : S42) )) (Reps.c2 (show Kd.M k42 _ _ _ (⟨a0_0, wrap64 (a0_1 + 1)⟩ : S42) [.int .i64 a0_0, .int .i64 (wrap64 (a0_1 + 1))] from (k42_mkM _ _ _ (⟨a0_0, wrap64 (a0_1 + 1)⟩ : S42) )) (Reps.none _ _)))))); intro v596 w4 ho5 hb hg_ hnew_; clear hg_ hnew_; (first | rw [← Ny595.out] at ho5 | (simp only [Int.reduceToNat] at ho5; rw [← Ny595.out] at ho5)); have n0_ := Aside0.mk (Kd.R_lower (Kd.R_newB ho5 (g := gb594) (o := .cells #[.int .i64 a0_0, .int .i64 a0_1] 42 (0, 0)) (by (with_reducible repeat (first | refine blk_drewN ?_ _ | refine blk_drew ?_ | refine blk_alloc ?_ _)); exact BK594.out)) (below_size (by repeat (first | (with_reducible first | exact HB.out | apply below_alloc | apply pw_below_drewN | apply below_drew1 | refine below_set ?_ GE594.out) | exact HB.out)))); have n1_ := Aside0.mk (blk_below (g := gb594) (o := .cells #[.int .i64 a0_0, .int .i64 a0_1] 42 (0, 0)) (by (with_reducible repeat (first | refine blk_drewN ?_ _ | refine blk_drew ?_ | refine blk_alloc ?_ _)); exact BK594.out) hb); have n2_ := Aside0.mk (below_step (by repeat (first | (with_reducible first | exact HB.out | apply below_alloc | apply pw_below_drewN | apply below_drew1 | refine below_set ?_ GE594.out) | exact HB.out)) hb); clear BK594; clear HB; have HO597 := n0_; have BK594 := n1_; have HB := n2_; clear n0_ n1_ n2_; clear hb ho5))
 go_ret
 exact ⟨_, by first | rfl | (simp [*] <;> rfl), by (with_reducible repeat (first | apply Kd.R_alloc | apply Kd.R_drewN | apply Kd.R_drew)); exact Kd.R_mono HO597.out (fun _ hk => trivial), by repeat (first | (with_reducible first | exact HB.out | apply below_alloc | apply pw_below_drewN | apply below_drew1 | refine below_set ?_ GE594.out) | exact HB.out)⟩

/-! ### spec_l02Index: function 106 -/
def spec_l02Index.l0 : Nat → List (S42) → Int → Int → Int → Option (Int)
 | 0, _, _, _, _ => none
 | k + 1, x0, x5, x599000, x599001 => if x5 < (x0.length : Int) then (if 0 ≤ x5 then (if (((rd_T42 x0 x5).f0) == x599000 && (((rd_T42 x0 x5).f1) == x599001)) = true then (some x5) else (spec_l02Index.l0 k x0 (wrap64 (x5 + 1)) x599000 x599001)) else (none)) else (some (-1))
def spec_l02Index.f (k : Nat) (l0 : List (S42)) (a1_0 : Int) (a1_1 : Int) : Option (Int) := spec_l02Index.l0 k l0 0 a1_0 a1_1
theorem spec_l02Index.mono_l : ∀ k, (∀ y0 y1 y2 y3, LeO (spec_l02Index.l0 k y0 y1 y2 y3) (spec_l02Index.l0 (k + 1) y0 y1 y2 y3))
 | 0 => fun _ _ _ _ r h => by simp [spec_l02Index.l0] at h
 | k + 1 => by
  have ih0 := spec_l02Index.mono_l k
  ·intro y0 y1 y2 y3
   unfold spec_l02Index.l0
   repeat' first
   | (with_reducible exact ih0 _ _ _ _)
   | (with_reducible exact LeO.refl _)
   | (with_reducible exact LeO.none _)
   | (with_reducible refine LeO.ite ?_ ?_)
   | (with_reducible refine LeO.bind ?_ (fun _ => ?_))
   | exact ih0 _ _ _ _
   | exact LeO.none _
   | refine LeO.ite ?_ ?_
   | refine LeO.bind ?_ (fun _ => ?_)
theorem spec_l02Index.mono : ∀ a0 a1 a2 k, LeO (spec_l02Index.f k a0 a1 a2) (spec_l02Index.f (k + 1) a0 a1 a2) := by
 intro a0 a1 a2 k
 have ih0 := spec_l02Index.mono_l k
 unfold spec_l02Index.f
 repeat' first
   | (with_reducible exact ih0 _ _ _ _)
   | (with_reducible exact LeO.refl _)
   | (with_reducible exact LeO.none _)
   | (with_reducible refine LeO.ite ?_ ?_)
   | (with_reducible refine LeO.bind ?_ (fun _ => ?_))
   | exact ih0 _ _ _ _
   | exact LeO.none _
   | refine LeO.ite ?_ ?_
   | refine LeO.bind ?_ (fun _ => ?_)
set_option maxHeartbeats 8000000 in
set_option maxRecDepth 100000 in
theorem spec_l02Index.calls (k : Nat) (A0 : Option Addr) (c0 : Nat) (l0 : List (S42)) (a1_0 : Int) (a1_1 : Int) (r : Int) (w : World) (hr0 : Kd.C k42 w A0 l0.length l0) (hc0 : l0.length ≤ c0) (h : spec_l02Index.f k l0 a1_0 a1_1 = some r) :
  Calls Try.prog 106 #[.slice A0 l0.length c0, .agg #[.int .i64 a1_0, .int .i64 a1_1]] w fun e w' => e = .returned (.int .i64 r) ∧ Below w.heap.size w w' := by
 have hu42 := Try.underlying42
 have HR0 := Aside0.mk hr0
 have HC0 := Aside0.mk hc0
 clear hr0 hc0
 have HB := Aside0.mk (Below.refl w.heap.size w)
 have H : (spec_l02Index.l0 k l0 0 a1_0 a1_1) = some r := h
 clear h
 have H' := Aside0.mk H
 clear H
 go_enter Try.func106, Try.ntmps106
 go_wp2_with (first | ((with_reducible refine gate_dst (N := 3) rfl ?_); refine box_event ?hg (N := 3) ?hd (cs := #[.int .i64 a1_0, .int .i64 a1_1]) (t := 42) ?hr ?_; (case hd => rfl); (case hg => rfl); (case hr => first | (go_simp; done) | (go_simp; rfl)); intro gb598 hg w3 hbox hb; have n0_ := Aside0.mk (below_step (by repeat (with_reducible first | exact HB.out | apply below_alloc | apply pw_below_drewN | apply below_drew1)) hb); have n1_ := Aside0.mk (hbox); have n2_ := Aside0.mk ((by rw [hg]; exact (below_size (by repeat (with_reducible first | exact HB.out | apply below_alloc | apply pw_below_drewN | apply below_drew1))) : w.heap.size ≤ gb598)); have n3_ := Aside0.mk ((by rw [hg]; exact (below_size (by repeat (with_reducible first | exact HB.out | apply below_alloc | apply pw_below_drewN | apply below_drew1))) : w.heap.size ≤ gb598)); clear HB; have HB := n0_; have BK598 := n1_; have GW598 := n2_; have GE598 := n3_; clear n0_ n1_ n2_ n3_; clear hb hbox hg))
 repeat (go_quiet (first | ((with_reducible refine gate_dst (N := 3) rfl ?_); refine box_event ?hg (N := 3) ?hd (cs := #[.int .i64 a1_0, .int .i64 a1_1]) (t := 42) ?hr ?_; (case hd => rfl); (case hg => rfl); (case hr => first | (go_simp; done) | (go_simp; rfl)); intro gb598 hg w3 hbox hb; have n0_ := Aside0.mk (below_step (by repeat (with_reducible first | exact HB.out | apply below_alloc | apply pw_below_drewN | apply below_drew1)) hb); have n1_ := Aside0.mk (hbox); have n2_ := Aside0.mk ((by rw [hg]; exact (below_size (by repeat (with_reducible first | exact HB.out | apply below_alloc | apply pw_below_drewN | apply below_drew1))) : w.heap.size ≤ gb598)); have n3_ := Aside0.mk ((by rw [hg]; exact (below_size (by repeat (with_reducible first | exact HB.out | apply below_alloc | apply pw_below_drewN | apply below_drew1))) : w.heap.size ≤ gb598)); clear HB; have HB := n0_; have BK598 := n1_; have GW598 := n2_; have GE598 := n3_; clear n0_ n1_ n2_ n3_; clear hb hbox hg)); try go_wp2_with (first | ((with_reducible refine gate_dst (N := 3) rfl ?_); refine box_event ?hg (N := 3) ?hd (cs := #[.int .i64 a1_0, .int .i64 a1_1]) (t := 42) ?hr ?_; (case hd => rfl); (case hg => rfl); (case hr => first | (go_simp; done) | (go_simp; rfl)); intro gb598 hg w3 hbox hb; have n0_ := Aside0.mk (below_step (by repeat (with_reducible first | exact HB.out | apply below_alloc | apply pw_below_drewN | apply below_drew1)) hb); have n1_ := Aside0.mk (hbox); have n2_ := Aside0.mk ((by rw [hg]; exact (below_size (by repeat (with_reducible first | exact HB.out | apply below_alloc | apply pw_below_drewN | apply below_drew1))) : w.heap.size ≤ gb598)); have n3_ := Aside0.mk ((by rw [hg]; exact (below_size (by repeat (with_reducible first | exact HB.out | apply below_alloc | apply pw_below_drewN | apply below_drew1))) : w.heap.size ≤ gb598)); clear HB; have HB := n0_; have BK598 := n1_; have GW598 := n2_; have GE598 := n3_; clear n0_ n1_ n2_ n3_; clear hb hbox hg)))
 go_loopg [5] k (fun kq v5 w' => ∃ (x5_1 : Int), v5 = .int .i64 x5_1 ∧ Aside0 (spec_l02Index.l0 kq l0 x5_1 a1_0 a1_1 = some r) ∧ Aside0 (kq ≤ k) ∧ Aside0 (w'.heap[gb598]? = some (.cells #[.int .i64 a1_0, .int .i64 a1_1] 42 (0, 0))) ∧ Aside0 (Below w.heap.size w w'))
 case atStart => exact ⟨(0), (by first | rfl | (simp; done) | (simp [*]; done)), H', ⟨Nat.le_refl _⟩, ⟨by (with_reducible repeat (first | refine blk_drewN ?_ _ | refine blk_drew ?_ | refine blk_alloc ?_ _)); exact BK598.out⟩, ⟨by repeat (first | (with_reducible first | exact HB.out | apply below_alloc | apply pw_below_drewN | apply below_drew1 | refine below_set ?_ GE598.out) | exact HB.out)⟩⟩
 case round =>
  clear H'
  try clear c1
  try clear p2
  obtain ⟨x5_1, rfl, HA, HK1, BK598, HB⟩ := hrel
  cases gk with
  | zero => exact absurd HA.out (by simp [spec_l02Index.l0])
  | succ k1 =>
   have H := HA.out
   clear HA
   simp only [spec_l02Index.l0] at H
   by_cases c4 : x5_1 < (l0.length : Int)
   ·rw [if_pos c4] at H
    have c4b0 : decide (x5_1 < (l0.length : Int)) = true := decide_eq_true c4
    clear c4
    by_cases c5 : 0 ≤ x5_1
    ·rw [if_pos c5] at H
     have c5b0 : decide (0 ≤ x5_1) = true := decide_eq_true c5
     clear c5
     by_cases c6 : (((rd_T42 l0 x5_1).f0) == a1_0 && (((rd_T42 l0 x5_1).f1) == a1_1)) = true
     ·rw [if_pos c6] at H
      have c6b0 : (((rd_T42 l0 x5_1).f0) == a1_0 && (((rd_T42 l0 x5_1).f1) == a1_1)) = true := c6
      (try (have c6b1 : decide (((rd_T42 l0 x5_1).f0) = a1_0 && (((rd_T42 l0 x5_1).f1) == a1_1)) = true := by simpa using c6))
      (try (have c6b2 : (((rd_T42 l0 x5_1).f0) == a1_0 && (((rd_T42 l0 x5_1).f1) == a1_1)) = true := by simpa using c6))
      clear c6
      obtain rfl := Option.some.inj H
      have p599 : 0 ≤ (x5_1 : Int) := of_decide_eq_true (by first | (with_reducible assumption) | assumption)
      have q599 : x5_1 < (l0.length : Int) := of_decide_eq_true (by first | (with_reducible assumption) | assumption)
      obtain ⟨ad599, e599, hx599_0, hx599_1⟩ := at_T42 HR0.out x5_1 p599 q599
      cases e599
      replace hx599_0 := (HB.out.cell (World.block_lt_of_cell? w _ hx599_0)).trans hx599_0
      replace hx599_1 := (HB.out.cell (World.block_lt_of_cell? w _ hx599_1)).trans hx599_1
      replace p599 := eq_true p599
      replace q599 := eq_true q599
      have hcz7_0 : wr.cell? ⟨gb598, 0, none⟩ = some (.int .i64 a1_0) := (blk_cell BK598.out 0).trans rfl
      have hcz7_1 : wr.cell? ⟨gb598, 1, none⟩ = some (.int .i64 a1_1) := (blk_cell BK598.out 1).trans rfl
      have hfz7_0 := blk_frozen BK598.out 0
      have hfz7_1 := blk_frozen BK598.out 1
      go_wp2
      repeat (go_quiet (fail); try go_wp2)
      go_ret
      exact ⟨by first | rfl | (simp [*] <;> rfl), by repeat (first | (with_reducible first | exact HB.out | apply below_alloc | apply pw_below_drewN | apply below_drew1 | refine below_set ?_ GE598.out) | exact HB.out)⟩
     ·rw [if_neg c6] at H
      have c6b0 : (((rd_T42 l0 x5_1).f0) == a1_0 && (((rd_T42 l0 x5_1).f1) == a1_1)) = false := by simpa using c6
      (try (have c6b1 : decide (((rd_T42 l0 x5_1).f0) = a1_0 && (((rd_T42 l0 x5_1).f1) == a1_1)) = false := by simpa using c6))
      (try (have c6b2 : (((rd_T42 l0 x5_1).f0) == a1_0 && (((rd_T42 l0 x5_1).f1) == a1_1)) = false := by simpa using c6))
      (try (have c6b3 : ¬ (((rd_T42 l0 x5_1).f0) = a1_0 && (((rd_T42 l0 x5_1).f1) == a1_1)) := by simpa using c6))
      clear c6
      have H' := Aside0.mk H
      clear H
      have p599 : 0 ≤ (x5_1 : Int) := of_decide_eq_true (by first | (with_reducible assumption) | assumption)
      have q599 : x5_1 < (l0.length : Int) := of_decide_eq_true (by first | (with_reducible assumption) | assumption)
      obtain ⟨ad599, e599, hx599_0, hx599_1⟩ := at_T42 HR0.out x5_1 p599 q599
      cases e599
      replace hx599_0 := (HB.out.cell (World.block_lt_of_cell? w _ hx599_0)).trans hx599_0
      replace hx599_1 := (HB.out.cell (World.block_lt_of_cell? w _ hx599_1)).trans hx599_1
      replace p599 := eq_true p599
      replace q599 := eq_true q599
      have hcz8_0 : wr.cell? ⟨gb598, 0, none⟩ = some (.int .i64 a1_0) := (blk_cell BK598.out 0).trans rfl
      have hcz8_1 : wr.cell? ⟨gb598, 1, none⟩ = some (.int .i64 a1_1) := (blk_cell BK598.out 1).trans rfl
      have hfz8_0 := blk_frozen BK598.out 0
      have hfz8_1 := blk_frozen BK598.out 1
      go_wp2
      repeat (go_quiet (fail); try go_wp2)
      go_roundg k1
      case measure => have := HK1.out; omega
      case rel => exact ⟨(wrap64 (x5_1 + 1)), (by first | rfl | (simp; done) | (simp [*]; done)), H', ⟨by have := HK1.out; omega⟩, ⟨by (with_reducible repeat (first | refine blk_drewN ?_ _ | refine blk_drew ?_ | refine blk_alloc ?_ _)); exact BK598.out⟩, ⟨by repeat (first | (with_reducible first | exact HB.out | apply below_alloc | apply pw_below_drewN | apply below_drew1 | refine below_set ?_ GE598.out) | exact HB.out)⟩⟩
    ·rw [if_neg c5] at H
     exact absurd H (by simp)
   ·rw [if_neg c4] at H
    have c4b0 : decide (x5_1 < (l0.length : Int)) = false := decide_eq_false c4
    clear c4
    obtain rfl := Option.some.inj H
    go_wp2
    repeat (go_quiet (fail); try go_wp2)
    go_ret
    exact ⟨by first | rfl | (simp [*] <;> rfl), by repeat (first | (with_reducible first | exact HB.out | apply below_alloc | apply pw_below_drewN | apply below_drew1 | refine below_set ?_ GE598.out) | exact HB.out)⟩

/-! ### impl_around: function 68 -/
def impl_around.f (a0_0 : Int) (a0_1 : Int) : Option ((List (S42))) := some (([(⟨a0_0, wrap64 (a0_1 - 1)⟩ : S42), (⟨wrap64 (a0_0 - 1), a0_1⟩ : S42), (⟨wrap64 (a0_0 + 1), a0_1⟩ : S42), (⟨a0_0, wrap64 (a0_1 + 1)⟩ : S42)] : List (S42)))
set_option maxHeartbeats 8000000 in
set_option maxRecDepth 100000 in
theorem impl_around.calls (a0_0 : Int) (a0_1 : Int) (r : List (S42)) (w : World) (h : impl_around.f a0_0 a0_1 = some r) :
  Calls Try.prog 68 #[.agg #[.int .i64 a0_0, .int .i64 a0_1]] w fun e w' => ∃ v0_ : Value, e = .returned (v0_) ∧ Kd.R k42 42 w' w.heap.size (fun _ => True) v0_ r ∧ Below w.heap.size w w' := by
 have hu42 := Try.underlying42
 have HB := Aside0.mk (Below.refl w.heap.size w)
 have H : (some (([(⟨a0_0, wrap64 (a0_1 - 1)⟩ : S42), (⟨wrap64 (a0_0 - 1), a0_1⟩ : S42), (⟨wrap64 (a0_0 + 1), a0_1⟩ : S42), (⟨a0_0, wrap64 (a0_1 + 1)⟩ : S42)] : List (S42)))) = some r := h
 clear h
 obtain ⟨y700, hy700⟩ : ∃ y_ : List (S42), y_ = (([(⟨a0_0, wrap64 (a0_1 - 1)⟩ : S42), (⟨wrap64 (a0_0 - 1), a0_1⟩ : S42), (⟨wrap64 (a0_0 + 1), a0_1⟩ : S42), (⟨a0_0, wrap64 (a0_1 + 1)⟩ : S42)] : List (S42))) := ⟨_, rfl⟩
 replace H : (some y700) = some r := by first | (rw [hy700]; with_reducible exact H) | (have H2_ := (Option.bind_some _ _).symm.trans H; rw [hy700]; with_reducible exact H2_) | (have H2_ := (Option.bind_some _ _).symm.trans H; with_reducible exact H2_) | with_reducible exact H | (rw [hy700]; exact H) | exact H
 have Ny700 := Aside0.mk hy700
 clear hy700
 obtain rfl := Option.some.inj H
 go_enter Try.func68, Try.ntmps68
 go_wp2_with (first | ((with_reducible refine gate_dst (N := 1) rfl ?_); refine box_event ?hg (N := 1) ?hd (cs := #[.int .i64 a0_0, .int .i64 a0_1]) (t := 42) ?hr ?_; (case hd => rfl); (case hg => rfl); (case hr => first | (go_simp; done) | (go_simp; rfl)); intro gb699 hg w2 hbox hb; have n0_ := Aside0.mk (below_step (by repeat (with_reducible first | exact HB.out | apply below_alloc | apply pw_below_drewN | apply below_drew1)) hb); have n1_ := Aside0.mk (hbox); have n2_ := Aside0.mk ((by rw [hg]; exact (below_size (by repeat (with_reducible first | exact HB.out | apply below_alloc | apply pw_below_drewN | apply below_drew1))) : w.heap.size ≤ gb699)); have n3_ := Aside0.mk ((by rw [hg]; exact (below_size (by repeat (with_reducible first | exact HB.out | apply below_alloc | apply pw_below_drewN | apply below_drew1))) : w.heap.size ≤ gb699)); clear HB; have HB := n0_; have BK699 := n1_; have GW699 := n2_; have GE699 := n3_; clear n0_ n1_ n2_ n3_; clear hb hbox hg; have hcz3_0 : w2.cell? ⟨gb699, 0, none⟩ = some (.int .i64 a0_0) := (blk_cell BK699.out 0).trans rfl; have hcz3_1 : w2.cell? ⟨gb699, 1, none⟩ = some (.int .i64 a0_1) := (blk_cell BK699.out 1).trans rfl; have hfz3_0 := blk_frozen BK699.out 0; have hfz3_1 := blk_frozen BK699.out 1) | ((with_reducible refine gate_dst (N := 27) rfl ?_); refine Kd.R_lit k42 _ 42 ?hg (N := 27) ?hd (xs := ([(⟨a0_0, wrap64 (a0_1 - 1)⟩ : S42), (⟨wrap64 (a0_0 - 1), a0_1⟩ : S42), (⟨wrap64 (a0_0 + 1), a0_1⟩ : S42), (⟨a0_0, wrap64 (a0_1 + 1)⟩ : S42)] : List (S42))) (inner := [.int .i64 a0_0, .int .i64 (wrap64 (a0_1 - 1)), .int .i64 (wrap64 (a0_0 - 1)), .int .i64 a0_1, .int .i64 (wrap64 (a0_0 + 1)), .int .i64 a0_1, .int .i64 a0_0, .int .i64 (wrap64 (a0_1 + 1))]) (ok := fun _ => True) (okp := fun _ => True) ?hr ?hp (fun _ hk => hk) trivial (Below.refl _ _) (Nat.le_refl _) (by simp) ?_; (case hd => rfl); (case hg => rfl); (case hr => first | (go_simp; done) | (go_simp; rfl)); (case hp => exact (Reps.c2 (show Kd.M k42 _ _ _ (⟨a0_0, wrap64 (a0_1 - 1)⟩ : S42) [.int .i64 a0_0, .int .i64 (wrap64 (a0_1 - 1))] from (k42_mkM _ _ _ (⟨a0_0, wrap64 (a0_1 - 1)⟩ : S42) )) (Reps.c2 (show Kd.M k42 _ _ _ (⟨wrap64 (a0_0 - 1), a0_1⟩ : S42) [.int .i64 (wrap64 (a0_0 - 1)), .int .i64 a0_1] from (k42_mkM _ _ _ (⟨wrap64 (a0_0 - 1), a0_1⟩ : S42) )) (Reps.c2 (show Kd.M k42 _ _ _ (⟨wrap64 (a0_0 + 1), a0_1⟩ : S42) [.int .i64 (wrap64 (a0_0 + 1)), .int .i64 a0_1] from (k42_mkM _ _ _ (⟨wrap64 (a0_0 + 1), a0_1⟩ : S42) )) (Reps.c2 (show Kd.M k42 _ _ _ (⟨a0_0, wrap64 (a0_1 + 1)⟩ : S42) [.int .i64 a0_0, .int .i64 (wrap64 (a0_1 + 1))] from (k42_mkM _ _ _ (⟨a0_0, wrap64 (a0_1 + 1)⟩ : S42) )) (Reps.none _ _)))))); intro v701 w4 ho5 hb hg_ hnew_; clear hg_ hnew_; (first | rw [← Ny700.out] at ho5 | (simp only [Int.reduceToNat] at ho5; rw [← Ny700.out] at ho5)); have n0_ := Aside0.mk (Kd.R_lower (Kd.R_newB ho5 (g := gb699) (o := .cells #[.int .i64 a0_0, .int .i64 a0_1] 42 (0, 0)) (by (with_reducible repeat (first | refine blk_drewN ?_ _ | refine blk_drew ?_ | refine blk_alloc ?_ _)); exact BK699.out)) (below_size (by repeat (first | (with_reducible first | exact HB.out | apply below_alloc | apply pw_below_drewN | apply below_drew1 | refine below_set ?_ GE699.out) | exact HB.out)))); have n1_ := Aside0.mk (blk_below (g := gb699) (o := .cells #[.int .i64 a0_0, .int .i64 a0_1] 42 (0, 0)) (by (with_reducible repeat (first | refine blk_drewN ?_ _ | refine blk_drew ?_ | refine blk_alloc ?_ _)); exact BK699.out) hb); have n2_ := Aside0.mk (below_step (by repeat (first | (with_reducible first | exact HB.out | apply below_alloc | apply pw_below_drewN | apply below_drew1 | refine below_set ?_ GE699.out) | exact HB.out)) hb); clear BK699; clear HB; have HO702 := n0_; have BK699 := n1_; have HB := n2_; clear n0_ n1_ n2_; clear hb ho5))
 go_ret
 exact ⟨_, by first | rfl | (simp [*] <;> rfl), by (with_reducible repeat (first | apply Kd.R_alloc | apply Kd.R_drewN | apply Kd.R_drew)); exact Kd.R_mono HO702.out (fun _ hk => trivial), by repeat (first | (with_reducible first | exact HB.out | apply below_alloc | apply pw_below_drewN | apply below_drew1 | refine below_set ?_ GE699.out) | exact HB.out)⟩

/-! ### slices_Compact_Cell: function 108, by hand -/
-- IMPORT Derived.Lib.SliceRun
section
attribute [local go_sem high] eqA42
def sameC_ (a b : S42) : Bool := a.f0 == b.f0 && (a.f1 == b.f1)
/-- the first n cells without those that come again one behind the other -/
def ddN_ (l : List S42) : Nat → List S42
 | 0 => []
 | i + 1 => if i ≠ 0 ∧ sameC_ (rd_T42 l (i : Nat)) (rd_T42 l ((i - 1 : Nat) : Int)) = true then ddN_ l i else ddN_ l i ++ [rd_T42 l (i : Nat)]
def slices_Compact_Cell.f (l0 : List S42) : Option (List S42) := some (ddN_ l0 l0.length)
/-- the row's block in a world: what the first cells are -/
structure RowAt_ (w : World) (g cap n : Nat) (m : List S42) (wr : World) : Prop where
 blk : ∃ cur, wr.heap[g]? = some (.cells cur 42 (0, 0)) ∧ cur.size = cap * 2 ∧ cur.toList.take (n * 2) = flatC_ m
 len : m.length = n
 grown : w.grownBy wr (some g)
theorem RowAt_.cell {w wr : World} {g cap n : Nat} {m : List S42} (h : RowAt_ w g cap n m wr) (p : Nat) (hp : p < n) (x : S42) (hx : m[p]? = some x) :
  wr.cell? ⟨g, p * 2, none⟩ = some (.int .i64 x.f0) ∧ wr.cell? ⟨g, p * 2 + 1, none⟩ = some (.int .i64 x.f1) ∧ wr.frozen? ⟨g, p * 2, none⟩ = false ∧ wr.frozen? ⟨g, p * 2 + 1, none⟩ = false := by
 obtain ⟨cur, hb, hs, ht⟩ := h.blk
 obtain ⟨g0, g1⟩ := flatC_get m p x hx
 rw [← ht, List.getElem?_take, if_pos (by omega), Array.getElem?_toList] at g0 g1
 refine ⟨(blk_cell hb _).trans ?_, (blk_cell hb _).trans ?_, blk_frozen hb _, blk_frozen hb _⟩
 ·rw [show p * 2 = 2 * p by omega]; exact g0
 ·rw [show p * 2 + 1 = 2 * p + 1 by omega]; exact g1
theorem RowAt_.drew {w wr : World} {g cap n : Nat} {m : List S42} (h : RowAt_ w g cap n m wr) (k : Nat) : RowAt_ w g cap n m (wr.drewN k) :=
 ⟨h.blk, h.len, ⟨h.grown.os, h.grown.tape, h.grown.output, h.grown.size, h.grown.block⟩⟩
theorem flatC_set : ∀ (m : List S42) (p : Nat) (x : S42), flatC_ (m.set p x) = ((flatC_ m).set (p * 2) (.int .i64 x.f0)).set (p * 2 + 1) (.int .i64 x.f1) := by
 intro m
 induction m with
 | nil => intro p x; rfl
 | cons c r ih =>
  intro p x
  cases p with
  | zero => rfl
  | succ p =>
   show encC_ c ++ flatC_ (r.set p x) = _
   rw [ih p x]
   show _ = ((encC_ c ++ flatC_ r).set ((p + 1) * 2) _).set ((p + 1) * 2 + 1) _
   rw [show (p + 1) * 2 = p * 2 + 2 from by omega]
   rfl
theorem RowAt_.set {w wr : World} {g cap n : Nat} {m : List S42} (h : RowAt_ w g cap n m wr) (hn : n ≤ cap) (p : Nat) (hp : p < n) (x : S42) :
  RowAt_ w g cap n (m.set p x) ((wr.setCell ⟨g, p * 2, none⟩ (.int .i64 x.f0)).setCell ⟨g, p * 2 + 1, none⟩ (.int .i64 x.f1)) := by
 obtain ⟨cur, hb, hs, ht⟩ := h.blk
 refine ⟨⟨_, blk_set (blk_set hb _ _) _ _, by simp [hs], ?_⟩, by rw [List.length_set]; exact h.len, ?_⟩
 ·rw [flatC_set, ← ht]
  simp only [Array.toList_setIfInBounds, List.take_set]
 ·refine ⟨h.grown.os, h.grown.tape, h.grown.output, ?_, fun k hk hne => ?_⟩
  ·have := h.grown.size; simpa [World.setCell] using this
  ·have hkg : k ≠ g := fun e => hne (by rw [e])
   rw [Below.heap_setCell _ _ _ k hkg, Below.heap_setCell _ _ _ k hkg]; exact h.grown.block k hk hne
theorem setCells_blk {e : TypeId} (g : Nat) : ∀ (vs : List Value) (o : Nat) (wr : World) (cur : Array Value), wr.heap[g]? = some (.cells cur e (0, 0)) → ∃ cur', (wr.setCells g o vs).heap[g]? = some (.cells cur' e (0, 0)) ∧ cur'.size = cur.size ∧ (∀ j, j < o → cur'[j]? = cur[j]?) ∧ (∀ k, k ≠ g → (wr.setCells g o vs).heap[k]? = wr.heap[k]?) ∧ (wr.setCells g o vs).heap.size = wr.heap.size ∧ (wr.setCells g o vs).os = wr.os ∧ (wr.setCells g o vs).tape = wr.tape ∧ (wr.setCells g o vs).output = wr.output := by
 intro vs
 induction vs with
 | nil => intro o wr cur h; exact ⟨cur, h, rfl, fun _ _ => rfl, fun _ _ => rfl, rfl, rfl, rfl, rfl⟩
 | cons v r ih =>
  intro o wr cur h
  obtain ⟨c', h1, h2, h3, h4, h5, h6, h7, h8⟩ := ih (o + 1) (wr.setCell ⟨g, o, none⟩ v) _ (blk_set h o v)
  refine ⟨c', h1, by rw [h2]; simp, fun j hj => ?_, fun k hk => ?_, ?_, h6, h7, h8⟩
  ·rw [h3 j (by omega), Array.getElem?_setIfInBounds_ne (by omega)]
  ·exact (h4 k hk).trans (Below.heap_setCell _ _ _ k hk)
  ·refine h5.trans ?_; simp [World.setCell]
theorem ddN_length (l : List S42) : ∀ i, (ddN_ l i).length ≤ i := by
 intro i
 induction i with
 | zero => exact Nat.le_refl _
 | succ i ih =>
  unfold ddN_
  split
  ·omega
  ·rw [List.length_append]; simp; omega
theorem zeroCells_cell (n : Nat) : (Builtin.zeroCells (Value.agg #[.int .i64 0, .int .i64 0]).cells n).toList = List.replicate (n * 2) (.int .i64 0) := by
 apply List.ext_getElem
 ·simp [Builtin.zeroCells, Value.cells]
 ·intro i h1 h2
  simp [Builtin.zeroCells, Value.cells]
  have : i % 2 = 0 ∨ i % 2 = 1 := by omega
  rcases this with h | h <;> simp [h]
theorem clear_cells (w : World) (ty : TypeId) (b o n c : Nat) (hn : 0 < n) (hc : ∀ j, j < n * 2 → (w.cell? ⟨b, o + j, none⟩).isSome = true) (hf : ∀ j, j < n * 2 → w.frozen? ⟨b, o + j, none⟩ = false) :
  (Builtin.clear_ #[27] ty #[.slice (some ⟨b, o, none⟩) n c]).run Try.prog w = .ok (.tuple #[]) (w.setCells b o (List.replicate (n * 2) (.int .i64 0))) := by
 have hst := run_storeCells_cells (P := Try.prog) b o (List.replicate (n * 2) (.int .i64 0)) 0 w (by simpa using hc) (by simpa using hf) (by intro v hv'; rw [List.eq_of_mem_replicate hv']; rfl)
 simp only [Nat.add_zero] at hst
 obtain ⟨m, rfl⟩ : ∃ m, n = m + 1 := ⟨n - 1, by omega⟩
 have hz := zeroCells_cell (m + 1)
 simp [Builtin.clear_, run_underlying Try.underlying27, Try.zeroValue42, hz, hst]
theorem w64_ {x : Int} (h1 : -9223372036854775808 ≤ x) (h2 : x ≤ 9223372036854775807) : wrap64 x = x := by unfold wrap64; omega
theorem flatC_take : ∀ (m : List S42) (k : Nat), flatC_ (m.take k) = (flatC_ m).take (k * 2) := by
 intro m
 induction m with
 | nil => intro k; simp [flatC_]
 | cons c r ih =>
  intro k
  cases k with
  | zero => rfl
  | succ k =>
   rw [List.take_succ_cons]
   show encC_ c ++ flatC_ (r.take k) = (encC_ c ++ flatC_ r).take ((k + 1) * 2)
   rw [ih k, show (k + 1) * 2 = k * 2 + 2 by omega]; rfl
theorem rdC_get (l : List S42) (p : Nat) (hp : p < l.length) : l[p]? = some (rd_T42 l (p : Nat)) := by
 unfold rd_T42; rw [List.getD_eq_getElem?_getD, Int.toNat_natCast, List.getElem?_eq_getElem hp]; rfl
set_option maxHeartbeats 4000000 in
set_option maxRecDepth 100000 in
theorem compact_walk (g cap : Nat) (l : List S42) (w : World) (h2 : 2 ≤ l.length) (hn : l.length ≤ cap) (hmax : cap ≤ maxLen) (h : RowAt_ w g cap l.length l w) :
  Calls Try.prog 108 #[.slice (some ⟨g, 0, none⟩) l.length cap] w fun e w' => e = .returned (.slice (some ⟨g, 0, none⟩) (ddN_ l l.length).length cap) ∧ RowAt_ w g cap (ddN_ l l.length).length (ddN_ l l.length) w' := by
 have hu1 := Try.underlying27
 simp only [maxLen] at hmax
 have HN := Aside0.mk hn
 have HR := Aside0.mk h
 clear h
 go_enter Try.func108, Try.ntmps108
 have z1 : decide ((l.length : Int) < 2) = false := decide_eq_false (by omega)
 have z2 : decide (l.length < 2) = false := decide_eq_false (by omega)
 go_wp2_with fail
 go_loopg [3] l.length (fun gk v3 wr => ∃ (kx : Int) (q : Nat), v3 = .int .i64 kx ∧ wr = w.drewN q ∧ Aside0 (1 ≤ kx ∧ kx ≤ l.length ∧ gk + kx = l.length + 1) ∧ Aside0 (ddN_ l kx.toNat = l.take kx.toNat))
 case atStart => exact ⟨1, 0, rfl, rfl, ⟨by omega⟩, ⟨by
  cases l with
  | nil => simp at h2
  | cons c r => rfl⟩⟩
 case round =>
  obtain ⟨kx, q, rfl, rfl, HK, HD⟩ := hrel
  cases gk with
  | zero => exact absurd HK.out (by omega)
  | succ gk2 =>
   by_cases hlt : kx < (l.length : Int)
   ·have hk1 := HK.out.1
    obtain ⟨x0, x1, _, _⟩ := HR.out.cell kx.toNat (by omega) _ (rdC_get l kx.toNat (by omega))
    obtain ⟨y0, y1, _, _⟩ := HR.out.cell (kx.toNat - 1) (by omega) _ (rdC_get l (kx.toNat - 1) (by omega))
    have hdd : ddN_ l (kx.toNat + 1) = if sameC_ (rd_T42 l (kx.toNat : Nat)) (rd_T42 l ((kx.toNat - 1) : Nat)) = true then ddN_ l kx.toNat else ddN_ l kx.toNat ++ [rd_T42 l (kx.toNat : Nat)] := by
     show (if kx.toNat ≠ 0 ∧ sameC_ (rd_T42 l (kx.toNat : Nat)) (rd_T42 l ((kx.toNat - 1 : Nat) : Int)) = true then _ else _) = _
     simp only [show kx.toNat ≠ 0 by omega, true_and, ne_eq, not_false_eq_true]
    have HDD := Aside0.mk hdd
    clear hdd
    have HX := Aside0.mk (rdC_get l kx.toNat (by omega))
    generalize rd_T42 l (kx.toNat : Nat) = x at *
    generalize rd_T42 l ((kx.toNat - 1) : Nat) = y at *
    have c1 : decide (kx < (l.length : Int)) = true := decide_eq_true hlt
    have p0 : 0 ≤ kx := by omega
    have p1 : 0 ≤ kx - 1 := by omega
    have q1 : kx - 1 < (l.length : Int) := by omega
    clear hk1
    by_cases hs : sameC_ x y = true
    ·have hs' : (x.f0 == y.f0 && (x.f1 == y.f1)) = true := hs
     have HS := Aside0.mk hs
     clear hs
     go_wp2_with fail
     go_region
     go_wp2_with fail
     have hK1 : 1 ≤ kx.toNat := by omega
     have hKn : kx.toNat < l.length := by omega
     have hgk : kx = (kx.toNat : Int) := by omega
     have hD := HD.out
     have hDD := HDD.out
     rw [if_pos HS.out] at hDD
     clear x0 x1 y0 y1 HX HDD HD HS hs' c1 p0 p1 q1 hlt HK
     generalize kx.toNat = K at *
     subst hgk
     obtain ⟨L2, hL2⟩ : ∃ L2, L2 = l.length - K := ⟨_, rfl⟩
     obtain ⟨C2, hC2⟩ : ∃ C2, C2 = cap - K := ⟨_, rfl⟩
     rw [← hL2, ← hC2]
     have hL2m : L2 ≤ 9223372036854775807 := by omega
     have HL2 := Aside0.mk hL2
     have HC2 := Aside0.mk hC2
     have HKK := Aside0.mk (⟨hK1, hKn⟩ : 1 ≤ K ∧ K < l.length)
     have HD0 := Aside0.mk (⟨hD, hDD⟩ : ddN_ l K = l.take K ∧ ddN_ l (K + 1) = ddN_ l K)
     clear hL2 hC2 hK1 hKn hD hDD
     go_loopg [3, 5] l.length (fun gk v3 v5 wr => ∃ (kv k2 : Int) (m : List S42), v3 = .int .i64 kv ∧ v5 = .int .i64 k2 ∧ Aside0 (1 ≤ k2 ∧ k2 ≤ L2 ∧ gk + (K + k2) = l.length + K + 1) ∧ Aside0 (RowAt_ w g cap l.length m wr) ∧ Aside0 (kv = (ddN_ l (K + k2.toNat)).length) ∧ Aside0 (m.take kv.toNat = ddN_ l (K + k2.toNat)) ∧ Aside0 (∀ p, K + k2.toNat ≤ p + 1 → m[p]? = l[p]?) ∧ Aside0 (kv < K + k2))
     case atStart =>
      have e : (ddN_ l (K + (1 : Int).toNat)) = l.take K := by rw [show (1 : Int).toNat = 1 from rfl, HD0.out.2, HD0.out.1]
      have el : (l.take K).length = K := by rw [List.length_take]; have := HKK.out; omega
      exact ⟨K, 1, l, rfl, rfl, ⟨by have := HKK.out; have := HL2.out; omega⟩, ⟨HR.out.drew _⟩, ⟨by rw [e, el]⟩, ⟨by rw [e]; rfl⟩, ⟨fun p _ => rfl⟩, ⟨by omega⟩⟩
     case round =>
      clear HD0
      obtain ⟨kv, k2, m, rfl, rfl, HB2, HRW, HV, HT, HH, HVK⟩ := hrel
      cases gk with
      | zero => exact absurd HB2.out (by have := HKK.out; have := HL2.out; omega)
      | succ gk3 =>
       by_cases hlt2 : k2 < (L2 : Int)
       ·have hb := HB2.out
        have hkk := HKK.out
        have hl2 := HL2.out
        have hvk := HVK.out
        have hi : K + k2.toNat < l.length := by omega
        have hm : ∀ p, K + k2.toNat ≤ p + 1 → p < l.length → m[p]? = some (rd_T42 l (p : Nat)) := fun p h1 h2 => by rw [HH.out p h1]; exact rdC_get l p h2
        obtain ⟨x0, x1, _, _⟩ := HRW.out.cell (K + k2.toNat) hi _ (hm _ (by omega) hi)
        obtain ⟨y0, y1, _, _⟩ := HRW.out.cell (K + (k2.toNat - 1)) (by omega) _ (hm _ (by omega) (by omega))
        have hml := HRW.out.len
        have hv0 : 0 ≤ kv := by rw [HV.out]; omega
        obtain ⟨_, _, s0, s1⟩ := HRW.out.cell kv.toNat (by omega) _ (rdC_get m kv.toNat (by omega))
        have hc0 := HRW.out.cell kv.toNat (by omega) _ (rdC_get m kv.toNat (by omega))
        obtain ⟨o0, o1, _, _⟩ := hc0
        have hdd : ddN_ l (K + k2.toNat + 1) = if sameC_ (rd_T42 l ((K + k2.toNat : Nat) : Int)) (rd_T42 l ((K + (k2.toNat - 1) : Nat) : Int)) = true then ddN_ l (K + k2.toNat) else ddN_ l (K + k2.toNat) ++ [rd_T42 l ((K + k2.toNat : Nat) : Int)] := by
         show (if K + k2.toNat ≠ 0 ∧ sameC_ (rd_T42 l ((K + k2.toNat : Nat) : Int)) (rd_T42 l ((K + k2.toNat - 1 : Nat) : Int)) = true then _ else _) = _
         rw [show K + k2.toNat - 1 = K + (k2.toNat - 1) by omega]
         simp only [show K + k2.toNat ≠ 0 by omega, true_and, ne_eq, not_false_eq_true]
        have HDD := Aside0.mk hdd
        clear hdd
        have HX := Aside0.mk (hm _ (by omega) hi)
        generalize rd_T42 l ((K + k2.toNat : Nat) : Int) = x at *
        generalize rd_T42 l ((K + (k2.toNat - 1) : Nat) : Int) = y at *
        generalize rd_T42 m ((kv.toNat : Nat) : Int) = old at *
        rw [show (K + k2.toNat) * 2 = K * 2 + k2.toNat * 2 by omega] at x0 x1
        rw [show (K + (k2.toNat - 1)) * 2 = K * 2 + (k2.toNat - 1) * 2 by omega] at y0 y1
        have c1 : decide (k2 < (L2 : Int)) = true := decide_eq_true hlt2
        have p0 : 0 ≤ k2 := by omega
        have p1 : 0 ≤ k2 - 1 := by omega
        have q1 : k2 - 1 < (L2 : Int) := by omega
        have pv : 0 ≤ kv := hv0
        have qv : kv < (l.length : Int) := by omega
        have HI := Aside0.mk hi
        clear hm hi hl2 hkk hb hvk hml hv0
        by_cases hs : sameC_ x y = true
        ·have hs' : (x.f0 == y.f0 && (x.f1 == y.f1)) = true := hs
         have HS := Aside0.mk hs
         clear hs
         have hsn : (!(x.f0 == y.f0 && (x.f1 == y.f1))) = false := by rw [hs']; rfl
         go_wp2_with fail
         go_region
         go_wp2_with fail
         go_roundg gk3
         case measure => omega
         case rel =>
          have hdd := HDD.out
          rw [if_pos HS.out] at hdd
          have ek : K + (k2 + 1).toNat = K + k2.toNat + 1 := by omega
          exact ⟨kv, k2 + 1, m, rfl, rfl, ⟨by have := HB2.out; omega⟩, ⟨HRW.out.drew 1⟩, ⟨by rw [ek, hdd]; exact HV.out⟩, ⟨by rw [ek, hdd]; exact HT.out⟩, ⟨fun p hp => HH.out p (by omega)⟩, ⟨by have := HVK.out; omega⟩⟩
        ·replace hs : (x.f0 == y.f0 && (x.f1 == y.f1)) = false := Bool.eq_false_iff.mpr hs
         have HS := Aside0.mk hs
         have hsn : (!(x.f0 == y.f0 && (x.f1 == y.f1))) = true := by rw [hs]; rfl
         go_wp2_with fail
         go_region
         go_wp2_with fail
         go_roundg gk3
         case measure => omega
         case rel =>
          have hdd := HDD.out
          rw [if_neg (by unfold sameC_; rw [HS.out]; simp)] at hdd
          have ek : K + (k2 + 1).toNat = K + k2.toNat + 1 := by omega
          have ev : (kv + 1).toNat = kv.toNat + 1 := by omega
          have hml := HRW.out.len
          refine ⟨kv + 1, k2 + 1, m.set kv.toNat x, rfl, rfl, ⟨by have := HB2.out; omega⟩, ⟨(HRW.out.drew 1).set HN.out kv.toNat (by omega) x⟩, ⟨?_⟩, ⟨?_⟩, ⟨fun p hp => ?_⟩, ⟨by have := HVK.out; omega⟩⟩
          ·rw [ek, hdd, List.length_append]; have := HV.out; simp; omega
          ·rw [ek, hdd, ev, List.take_add_one, List.take_set_of_le (Nat.le_refl _), HT.out, List.getElem?_set_self (by omega)]; rfl
          ·have := HVK.out
           rw [List.getElem?_set_ne (by omega)]; exact HH.out p (by omega)
       ·have hb := HB2.out
        have hkk := HKK.out
        have hl2 := HL2.out
        have hvk := HVK.out
        have hv0 : 0 ≤ kv := by rw [HV.out]; omega
        have hek : K + k2.toNat = l.length := by omega
        have hvn : kv.toNat < l.length := by omega
        obtain ⟨cur, hcb, hcs, hct⟩ := HRW.out.blk
        have hcl : ∀ ty, (Builtin.clear_ #[27] ty #[.slice (some ⟨g, kv.toNat * 2, none⟩) (l.length - kv.toNat) (cap - kv.toNat)]).run Try.prog wr = .ok (.tuple #[]) (wr.setCells g (kv.toNat * 2) (List.replicate ((l.length - kv.toNat) * 2) (.int .i64 0))) := by
         intro ty
         refine clear_cells wr ty g _ _ _ (by omega) (fun j hj => ?_) (fun j hj => blk_frozen hcb _)
         rw [blk_cell hcb, Array.getElem?_eq_getElem (by have := HN.out; omega)]; rfl
        have c1 : decide (k2 < (L2 : Int)) = false := decide_eq_false hlt2
        have pv : 0 ≤ kv := hv0
        have qv : kv ≤ (l.length : Int) := by omega
        have HVN := Aside0.mk hvn
        have HEK := Aside0.mk hek
        have HCB := Aside0.mk hcb
        have HCS := Aside0.mk hcs
        have HCT := Aside0.mk hct
        clear hvn hek hcb hcs hct hv0 hvk hl2 hkk hb
        go_wp2_with fail
        ·exact absurd HVN.out (by have := HN.out; omega)
        go_ret
        obtain ⟨cur', d1, d2, d3, d4, d5, d6, d7, d8⟩ := setCells_blk g (List.replicate ((l.length - kv.toNat) * 2) (.int .i64 0)) (kv.toNat * 2) wr cur HCB.out
        have hG := HRW.out.grown
        have hVt := HV.out
        have hTt := HT.out
        have hml := HRW.out.len
        rw [HEK.out] at hVt hTt
        have hvt : kv.toNat = (ddN_ l l.length).length := by omega
        have hnc := HN.out
        have hvn := HVN.out
        have hcs := HCS.out
        have hct := HCT.out
        refine ⟨congrArg (fun n => Ending.returned (Value.slice (some ⟨g, 0, none⟩) n cap)) hvt, ⟨⟨cur', d1, by rw [d2]; exact hcs, ?_⟩, rfl, ⟨by rw [d6]; exact hG.os, by rw [d7]; exact hG.tape, by rw [d8]; exact hG.output, by rw [d5]; exact hG.size, fun k hk hne => (d4 k (fun e => hne (by rw [e]))).trans (hG.block k hk hne)⟩⟩⟩
        rw [← hTt, flatC_take, ← hct, List.take_take, hTt, ← hvt, Nat.min_eq_left (by omega)]
        apply List.ext_getElem?
        intro j
        rw [List.getElem?_take, List.getElem?_take]
        by_cases hj : j < kv.toNat * 2
        ·rw [if_pos hj, if_pos hj, Array.getElem?_toList, Array.getElem?_toList]; exact d3 j hj
        ·rw [if_neg hj, if_neg hj]
    ·replace hs : (x.f0 == y.f0 && (x.f1 == y.f1)) = false := Bool.eq_false_iff.mpr hs
     have HS := Aside0.mk hs
     go_wp2_with fail
     go_region
     go_wp2_with fail
     go_roundg gk2
     case measure => omega
     case rel =>
      refine ⟨kx + 1, q + 1, rfl, rfl, ⟨by have := HK.out; omega⟩, ⟨?_⟩⟩
      have hDD := HDD.out
      rw [if_neg (by unfold sameC_; rw [HS.out]; simp), HD.out] at hDD
      rw [show (kx + 1).toNat = kx.toNat + 1 by omega, hDD, List.take_add_one, HX.out]; rfl
   ·have hk : kx = l.length := by have := HK.out; omega
    subst hk
    have e : ddN_ l l.length = l := by have := HD.out; rw [Int.toNat_natCast] at this; rw [this, List.take_length]
    have E := Aside0.mk e
    clear e HD
    go_wp2_with fail
    go_ret
    rw [E.out]
    exact ⟨rfl, HR.out.drew q⟩
set_option maxHeartbeats 1000000 in
theorem compact_short (A : Option Addr) (n cap : Nat) (hn : n < 2) (w : World) : Calls Try.prog 108 #[.slice A n cap] w fun e w' => e = .returned (.slice A n cap) ∧ w' = w := by
 have z1 : decide ((n : Int) < 2) = true := decide_eq_true (by omega)
 have z2 : decide (n < 2) = true := decide_eq_true hn
 go_enter Try.func108, Try.ntmps108
 go_wp2
 go_ret
 exact ⟨rfl, rfl⟩
theorem ddN_short (l : List S42) (h : l.length < 2) : ddN_ l l.length = l := by
 match l, h with
 | [], _ => rfl
 | [c], _ => rfl
 | _ :: _ :: _, h => exact absurd h (by simp only [List.length_cons]; omega)
theorem slices_Compact_Cell.calls (P0_ : Nat → Prop) (u9000_ : Value) (l0 : List (S42)) (r : List (S42)) (w0 w : World) (hB : Below w0.heap.size w0 w) (ho0 : Kd.R k42 42 w w0.heap.size P0_ u9000_ l0) (h : slices_Compact_Cell.f l0 = some r) :
  Calls Try.prog 108 #[u9000_] w fun e w' => ∃ v0_ : Value, e = .returned v0_ ∧ Kd.R k42 42 w' w0.heap.size (fun k_ => (P0_ k_ ∨ w.heap.size ≤ k_)) v0_ r ∧ Below w0.heap.size w0 w' ∧ Kept w w' (fun k_ => P0_ k_) := by
 obtain rfl := Option.some.inj h
 by_cases h2 : l0.length < 2
 ·obtain ⟨hok, inner, ⟨hlen, hv⟩, hreps⟩ := ho0
  rw [ddN_short l0 h2]
  have hR : Kd.R k42 42 w w0.heap.size (fun k_ => (P0_ k_ ∨ w.heap.size ≤ k_)) u9000_ l0 := Kd.R_mono ⟨hok, inner, ⟨hlen, hv⟩, hreps⟩ (fun _ hk => Or.inl hk)
  rcases hv with ⟨rfl, hn⟩ | ⟨g, cap, cur, rfl, _⟩
  ·refine (compact_short none 0 0 (by omega) w).mono ?_
   rintro e w' ⟨rfl, rfl⟩
   exact ⟨_, rfl, hR, hB, Kept.refl _ _⟩
  ·refine (compact_short _ l0.length cap h2 w).mono ?_
   rintro e w' ⟨rfl, rfl⟩
   exact ⟨_, rfl, hR, hB, Kept.refl _ _⟩
 ·obtain ⟨hok, inner, ⟨hlen, hv⟩, hreps⟩ := ho0
  have hin : inner = flatC_ l0 := flatC_of_reps (fun x cs hx => kC_M_inv hx) l0 inner hreps
  rcases hv with ⟨_, hn⟩ | ⟨g, cap, cur, rfl, hge, hblk, hcap, hmax, hcur, htake⟩
  ·exact absurd hn (by omega)
  ·have hrow : RowAt_ w g cap l0.length l0 w := ⟨⟨cur, hblk, hcur, by rw [← hin, ← htake]; rfl⟩, rfl, ⟨rfl, rfl, rfl, Nat.le_refl _, fun _ _ _ => rfl⟩⟩
   refine (compact_walk g cap l0 w (by omega) hcap hmax hrow).mono ?_
   rintro e w' ⟨rfl, hr⟩
   obtain ⟨cur2, b1, b2, b3⟩ := hr.blk
   have hg1 := hr.grown
   have hle := ddN_length l0 l0.length
   exact ⟨_, rfl, ownC_R ⟨by rw [flatC_length], Or.inr ⟨g, cap, cur2, rfl, hge, b1, by omega, hmax, b2, b3⟩⟩ (fun k hk => Or.inl (hok k hk)), hB.grown hg1 hB.size (fun k hk => by cases hk; exact hge), ⟨hg1.size, fun i hi hn => hg1.block i hi (fun he => hn (by cases he; exact hok g rfl))⟩⟩
end

end Go.Proofs.Ytpilmhjbgbpbmaa.X
