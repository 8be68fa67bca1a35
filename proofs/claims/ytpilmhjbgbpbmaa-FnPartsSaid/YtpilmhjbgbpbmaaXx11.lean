-- Written by xprint.py, a program of this session, on the kit's print.py: functions of the seat in one namespace.
import Derived.DeepKeys4
import Derived.Maps.OwnSet
import Derived.Test.YtpilmhjbgbpbmaaXx0
import Derived.Test.YtpilmhjbgbpbmaaXx4
import Derived.Test.YtpilmhjbgbpbmaaXx9
import Derived.Test.YtpilmhjbgbpbmaaXx10
namespace Go.Proofs.Ytpilmhjbgbpbmaa.X
open Go.RowKit Go.Proofs.YtpilmhjbgbpbmaaW.PrintWords Go.Proofs.YtpilmhjbgbpbmaaW.PrintLast Go.Proofs.YtpilmhjbgbpbmaaW.PrintMore
attribute [local go_sem] max2_int min2_int max_two min_two max_three min_three max_four min_four   -- for this text's walks alone
set_option linter.unusedVariables false
set_option linter.unusedSimpArgs false

/-! ### spec_l01From: function 65 -/
def spec_l01From.l0 : Nat → List Int → Int → List Int → Int → Int → Option (List Int × Int × Int)
 | 0, _, _, _, _, _ => none
 | k + 1, x0, x4, x677000, x677001, x677002 => if x4 < (x0.length : Int) then (if x4 < 64 then (if 0 ≤ x4 then (spec_l01From.l0 k x0 (wrap64 (x4 + 1)) x677000 x677001 (Int.tmod (wrap64 ((wrap64 (x677002 * 47)) + (wrap64 (rd x0 x4)))) 2147483647)) else (none)) else (some (x677000, x677001, x677002))) else (some (x677000, x677001, x677002))
def spec_l01From.f (k : Nat) (l0 : List Int) : Option (List Int × Int × Int) := spec_l01From.l0 k l0 0 l0 0 61003
theorem spec_l01From.mono_l : ∀ k, (∀ y0 y1 y2 y3 y4, LeO (spec_l01From.l0 k y0 y1 y2 y3 y4) (spec_l01From.l0 (k + 1) y0 y1 y2 y3 y4))
 | 0 => fun _ _ _ _ _ r h => by simp [spec_l01From.l0] at h
 | k + 1 => by
  have ih0 := spec_l01From.mono_l k
  ·intro y0 y1 y2 y3 y4
   unfold spec_l01From.l0
   repeat' first
   | (with_reducible exact ih0 _ _ _ _ _)
   | (with_reducible exact LeO.refl _)
   | (with_reducible exact LeO.none _)
   | (with_reducible refine LeO.ite ?_ ?_)
   | (with_reducible refine LeO.bind ?_ (fun _ => ?_))
   | exact ih0 _ _ _ _ _
   | exact LeO.none _
   | refine LeO.ite ?_ ?_
   | refine LeO.bind ?_ (fun _ => ?_)
theorem spec_l01From.mono : ∀ a0 k, LeO (spec_l01From.f k a0) (spec_l01From.f (k + 1) a0) := by
 intro a0 k
 have ih0 := spec_l01From.mono_l k
 unfold spec_l01From.f
 repeat' first
   | (with_reducible exact ih0 _ _ _ _ _)
   | (with_reducible exact LeO.refl _)
   | (with_reducible exact LeO.none _)
   | (with_reducible refine LeO.ite ?_ ?_)
   | (with_reducible refine LeO.bind ?_ (fun _ => ?_))
   | exact ih0 _ _ _ _ _
   | exact LeO.none _
   | refine LeO.ite ?_ ?_
   | refine LeO.bind ?_ (fun _ => ?_)
def spec_l01From.T5 : Bool × List (List Nat × List Nat) := (true, [([], []), ([], []), ([1], [1]), ([2], [2]), ([3], [3]), ([4], [4]), ([], []), ([], []), ([6, 7], [6, 7]), ([8], [8]), ([9], [9]), ([5, 10], [5, 10]), ([11], [11]), ([0, 0, 1, 2, 3, 4, 5, 6, 7, 8, 9, 10, 11, 12], [0]), ([13, 0, 1, 2, 3, 4, 5, 6, 7, 8, 9, 10, 11, 12], [13]), ([14, 12, 0, 1, 2, 3, 4, 5, 6, 7, 8, 9, 10, 11, 12], [12, 14])])
def spec_l01From.B5 : List Nat := [0, 0, 2, 6, 14, 30, 0, 0, 192, 448, 960, 2046, 4094, 8191, 16383, 32767]
theorem spec_l01From.tab5 : rtab .any (opsOf Try.f65 5) = spec_l01From.T5 := by kernel_rfl
theorem spec_l01From.bits5 : waitsOk spec_l01From.T5.2 spec_l01From.B5 = true := by kernel_rfl
set_option maxHeartbeats 8000000 in
set_option maxRecDepth 100000 in
theorem spec_l01From.calls (k : Nat) (A0 : Option Addr) (c0 : Nat) (l0 : List Int) (r1 : List Int) (r2 : Int) (r3 : Int) (w0 w : World) (hB : Below w0.heap.size w0 w) (hr0 : Kd.C (Kd.int .u8) w0 A0 l0.length l0) (hc0 : l0.length ≤ c0) (h : spec_l01From.f k l0 = some (r1, r2, r3)) :
  Calls Try.prog 65 #[.slice A0 l0.length c0] w fun e w' => ∃ g_ : Nat, e = .returned (.pointer (some ⟨g_, 0, none⟩)) ∧ IsS84 w0 w' g_ r1 r2 r3 ∧ Below w0.heap.size w0 w' ∧ Below w.heap.size w w' := by
 have hu84 := Try.underlying84
 have HR0 := Aside0.mk hr0
 have HC0 := Aside0.mk hc0
 clear hr0 hc0
 have HBW := Aside0.mk (Below.refl w.heap.size w)
 have HW0 := Aside0.mk hB.size
 have HB := Aside0.mk hB
 clear hB
 have H : (spec_l01From.l0 k l0 0 l0 0 61003) = some (r1, r2, r3) := h
 clear h
 have H' := Aside0.mk H
 clear H
 go_enter Try.func65, Try.ntmps65
 go_wp2_with (first | ((with_reducible refine gate_dst (N := 7) rfl ?_); refine box_event ?hg (N := 7) ?hd (cs := #[.slice A0 l0.length c0, .int .i64 0, .int .i64 61003]) (t := 84) ?hr ?_; (case hd => rfl); (case hg => rfl); (case hr => first | (go_simp; done) | (go_simp; rfl)); intro gb676 hg w2 hbox hb; have n0_ := Aside0.mk (below_step HBW.out hb); have n1_ := Aside0.mk (below_step (by repeat (first | (with_reducible first | exact HB.out | apply below_alloc | apply pw_below_drewN | apply below_drew1) | exact HB.out)) hb); have n2_ := Aside0.mk (hbox); have n3_ := Aside0.mk ((by rw [hg]; exact (below_size (by repeat (first | (with_reducible first | exact HBW.out | apply below_alloc | apply pw_below_drewN | apply below_drew1) | exact HBW.out))) : w.heap.size ≤ gb676)); have n4_ := Aside0.mk ((Nat.le_trans HW0.out (by rw [hg]; exact (below_size (by repeat (first | (with_reducible first | exact HBW.out | apply below_alloc | apply pw_below_drewN | apply below_drew1) | exact HBW.out))) : w.heap.size ≤ gb676) : w0.heap.size ≤ gb676)); clear HBW; clear HB; have HBW := n0_; have HB := n1_; have BK676 := n2_; have GW676 := n3_; have GE676 := n4_; clear n0_ n1_ n2_ n3_ n4_; clear hb hbox hg))
 go_loopg [4] k (fun kq v4 w' => ∃ (x4_1 : Int) (x677002_1 : Int), v4 = .int .i64 x4_1 ∧ Aside0 (spec_l01From.l0 kq l0 x4_1 l0 0 x677002_1 = some (r1, r2, r3)) ∧ Aside0 (kq ≤ k) ∧ Aside0 (w'.heap[gb676]? = some (.cells #[(.slice A0 l0.length c0), .int .i64 0, .int .i64 x677002_1] 84 (0, 0))) ∧ Aside0 (Below w0.heap.size w0 w') ∧ Aside0 (Below w.heap.size w w'))
 case atStart => exact ⟨(0), (61003), (by first | rfl | (simp; done) | (simp [*]; done)), H', ⟨Nat.le_refl _⟩, ⟨by (with_reducible repeat (first | refine blk_drewN ?_ _ | refine blk_drew ?_ | refine blk_alloc ?_ _)); exact BK676.out⟩, ⟨by repeat (first | (with_reducible first | exact HB.out | apply below_alloc | apply pw_below_drewN | apply below_drew1 | refine below_set ?_ GE676.out) | exact HB.out)⟩, ⟨by repeat (first | (with_reducible first | exact HBW.out | apply below_alloc | apply pw_below_drewN | apply below_drew1 | refine below_set ?_ GW676.out) | exact HBW.out)⟩⟩
 case round =>
  clear H'
  try clear p2
  obtain ⟨x4_1, x677002_1, rfl, HA, HK1, BK676, HB, HBW⟩ := hrel
  cases gk with
  | zero => exact absurd HA.out (by simp [spec_l01From.l0])
  | succ k1 =>
   have H := HA.out
   clear HA
   simp only [spec_l01From.l0] at H
   by_cases c3 : x4_1 < (l0.length : Int)
   ·rw [if_pos c3] at H
    have c3b0 : decide (x4_1 < (l0.length : Int)) = true := decide_eq_true c3
    clear c3
    by_cases c4 : x4_1 < 64
    ·rw [if_pos c4] at H
     have c4b0 : decide (x4_1 < 64) = true := decide_eq_true c4
     clear c4
     by_cases c5 : 0 ≤ x4_1
     ·rw [if_pos c5] at H
      have c5b0 : decide (0 ≤ x4_1) = true := decide_eq_true c5
      clear c5
      have H' := Aside0.mk H
      clear H
      try go_wp2
      have n0_ := Aside0.mk (blk_drew BK676.out)
      have n1_ := Aside0.mk (below_drew1 HB.out)
      have n2_ := Aside0.mk (below_drew1 HBW.out)
      clear BK676
      clear HB
      clear HBW
      have BK676 := n0_
      have HB := n1_
      have HBW := n2_
      clear n0_ n1_ n2_
      have p677 : 0 ≤ (x4_1 : Int) := of_decide_eq_true (by first | (with_reducible assumption) | assumption)
      have q677 : x4_1 < (l0.length : Int) := of_decide_eq_true (by first | (with_reducible assumption) | assumption)
      obtain ⟨ad677, e677, hx677_0⟩ := Kd.at_int HR0.out x4_1 p677 q677
      have hw677_0 := hx677_0
      cases e677
      replace hx677_0 := pw_cell_below HB.out hx677_0
      replace p677 := eq_true p677
      replace q677 := eq_true q677
      refine start_ (n := 16) (S := fun w' => w'.cell? ⟨gb676, 0, none⟩ = some (.slice (some ad677) l0.length c0) ∧ w'.cell? ⟨gb676, 1, none⟩ = some (.int .i64 0) ∧ w'.cell? ⟨gb676, 2, none⟩ = some (.int .i64 x677002_1) ∧ w'.cell? (ad677.add (x4_1).toNat) = some (.int .u8 (rd l0 x4_1))) (ds := [15]) #[false, false, false, false, false, false, false, false, false, false, false, false, false, false, false, false] (by kernel_rfl) rfl rfl ⟨(blk_cell BK676.out 0).trans rfl, (blk_cell BK676.out 1).trans rfl, (blk_cell BK676.out 2).trans rfl, ((HB.out.cell (World.block_lt_of_cell? w0 _ hw677_0)).trans hw677_0)⟩ (fun hHeld => ?_); refine with_tabW spec_l01From.tab5 spec_l01From.bits5 (fun HT_ HW_ => ?_)
      generalize wr.drew = w6 at BK676 HB HBW hx677_0 hHeld ⊢
      refine pure_ (i := 0) (N := some 18) (v := ?_) (a' := ?_) #[true, false, false, false, false, false, false, false, false, false, false, false, false, false, false, false] rfl rfl (any_of HT_.out (by kernel_rfl)) (fun _ _ _ h => h) (Or.inl ⟨by rfl, ?_⟩) ?_ ?_
      rotate_left
      ·intro w'
       go_simp
       with_reducible rfl
      rotate_left
      ·simp only [Act.put, List.setIfInBounds_toArray, List.set_cons_zero, List.set_cons_succ, i64_w, i32_w]
       rfl
      refine pure_ (i := 1) (N := some 19) (v := ?_) (a' := ?_) #[true, true, false, false, false, false, false, false, false, false, false, false, false, false, false, false] rfl rfl (any_of HT_.out (by kernel_rfl)) (fun _ _ _ h => h) (Or.inl ⟨by rfl, ?_⟩) ?_ ?_
      rotate_left
      ·intro w'
       go_simp
       with_reducible rfl
      rotate_left
      ·simp only [Act.put, List.setIfInBounds_toArray, List.set_cons_zero, List.set_cons_succ, i64_w, i32_w]
       rfl
      refine pure_ (i := 2) (N := some 20) (v := ?_) (a' := ?_) #[true, true, true, false, false, false, false, false, false, false, false, false, false, false, false, false] rfl rfl (any_of HT_.out (by kernel_rfl)) (fun _ _ _ h => h) (Or.inl ⟨by rfl, ?_⟩) ?_ ?_
      rotate_left
      ·intro w'
       go_simp
       with_reducible rfl
      rotate_left
      ·simp only [Act.put, List.setIfInBounds_toArray, List.set_cons_zero, List.set_cons_succ, i64_w, i32_w]
       rfl
      refine pure_ (i := 3) (N := some 21) (v := ?_) (a' := ?_) #[true, true, true, true, false, false, false, false, false, false, false, false, false, false, false, false] rfl rfl (any_of HT_.out (by kernel_rfl)) (fun _ _ _ h => h) (Or.inl ⟨by rfl, ?_⟩) ?_ ?_
      rotate_left
      ·intro w'
       go_simp
       with_reducible rfl
      rotate_left
      ·simp only [Act.put, List.setIfInBounds_toArray, List.set_cons_zero, List.set_cons_succ, i64_w, i32_w]
       rfl
      refine pure_ (i := 6) (N := some 24) (v := ?_) (a' := ?_) #[true, true, true, true, false, false, true, false, false, false, false, false, false, false, false, false] rfl rfl (any_of HT_.out (by kernel_rfl)) (fun _ _ _ h => h) (Or.inl ⟨by rfl, ?_⟩) ?_ ?_
      rotate_left
      ·intro w'
       go_simp
       with_reducible rfl
      rotate_left
      ·simp only [Act.put, List.setIfInBounds_toArray, List.set_cons_zero, List.set_cons_succ, i64_w, i32_w]
       rfl
      refine pure_ (i := 7) (N := some 25) (v := ?_) (a' := ?_) #[true, true, true, true, false, false, true, true, false, false, false, false, false, false, false, false] rfl rfl (any_of HT_.out (by kernel_rfl)) (fun _ _ _ h => h) (Or.inl ⟨by rfl, ?_⟩) ?_ ?_
      rotate_left
      ·intro w'
       go_simp
       with_reducible rfl
      rotate_left
      ·simp only [Act.put, List.setIfInBounds_toArray, List.set_cons_zero, List.set_cons_succ, i64_w, i32_w]
       rfl
      refine pure_ (i := 8) (N := some 26) (v := ?_) (a' := ?_) #[true, true, true, true, false, false, true, true, true, false, false, false, false, false, false, false] rfl rfl (any_of HT_.out (by kernel_rfl)) (fun _ _ _ h => h) (Or.inl ⟨by rfl, ?_⟩) ?_ ?_
      rotate_left
      ·intro w'
       go_simp
       with_reducible rfl
      rotate_left
      ·simp only [Act.put, List.setIfInBounds_toArray, List.set_cons_zero, List.set_cons_succ, i64_w, i32_w]
       rfl
      refine take_ (i := 4) (N := some 22) (v := ?_) (a' := ?_) #[true, true, true, true, true, false, true, true, true, false, false, false, false, false, false, false] rfl rfl (take_ofW HT_.out HW_.out (by kernel_rfl)) (fun _ _ _ h => h) (Or.inl ⟨by rfl, ?_⟩) hHeld ?_ ?_
      rotate_left
      ·rintro w' ⟨s0, s1, s2, s3⟩
       go_simp
       with_reducible rfl
      rotate_left
      ·simp only [Act.put, List.setIfInBounds_toArray, List.set_cons_zero, List.set_cons_succ, i64_w, i32_w]
       rfl
      refine pure_ (i := 5) (N := some 23) (v := ?_) (a' := ?_) #[true, true, true, true, true, true, true, true, true, false, false, false, false, false, false, false] rfl rfl (any_of HT_.out (by kernel_rfl)) (fun _ _ _ h => h) (Or.inl ⟨by rfl, ?_⟩) ?_ ?_
      rotate_left
      ·intro w'
       go_simp
       with_reducible rfl
      rotate_left
      ·simp only [Act.put, List.setIfInBounds_toArray, List.set_cons_zero, List.set_cons_succ, i64_w, i32_w]
       rfl
      refine take_ (i := 9) (N := some 27) (v := ?_) (a' := ?_) #[true, true, true, true, true, true, true, true, true, true, false, false, false, false, false, false] rfl rfl (take_ofW HT_.out HW_.out (by kernel_rfl)) (fun _ _ _ h => h) (Or.inl ⟨by rfl, ?_⟩) hHeld ?_ ?_
      rotate_left
      ·rintro w' ⟨s0, s1, s2, s3⟩
       go_simp
       with_reducible rfl
      rotate_left
      ·simp only [Act.put, List.setIfInBounds_toArray, List.set_cons_zero, List.set_cons_succ, i64_w, i32_w]
       rfl
      refine pure_ (i := 10) (N := some 28) (v := ?_) (a' := ?_) #[true, true, true, true, true, true, true, true, true, true, true, false, false, false, false, false] rfl rfl (any_of HT_.out (by kernel_rfl)) (fun _ _ _ h => h) (Or.inl ⟨by rfl, ?_⟩) ?_ ?_
      rotate_left
      ·intro w'
       go_simp
       with_reducible rfl
      rotate_left
      ·simp only [Act.put, List.setIfInBounds_toArray, List.set_cons_zero, List.set_cons_succ, i64_w, i32_w]
       rfl
      refine pure_ (i := 11) (N := some 29) (v := ?_) (a' := ?_) #[true, true, true, true, true, true, true, true, true, true, true, true, false, false, false, false] rfl rfl (any_of HT_.out (by kernel_rfl)) (fun _ _ _ h => h) (Or.inl ⟨by rfl, ?_⟩) ?_ ?_
      rotate_left
      ·intro w'
       go_simp
       with_reducible rfl
      rotate_left
      ·simp only [Act.put, List.setIfInBounds_toArray, List.set_cons_zero, List.set_cons_succ, i64_w, i32_w]
       rfl
      refine pure_ (i := 12) (N := some 30) (v := ?_) (a' := ?_) #[true, true, true, true, true, true, true, true, true, true, true, true, true, false, false, false] rfl rfl (any_of HT_.out (by kernel_rfl)) (fun _ _ _ h => h) (Or.inl ⟨by rfl, ?_⟩) ?_ ?_
      rotate_left
      ·intro w'
       go_simp
       with_reducible rfl
      rotate_left
      ·simp only [Act.put, List.setIfInBounds_toArray, List.set_cons_zero, List.set_cons_succ, i64_w, i32_w]
       rfl
      refine pure_ (i := 13) (N := some 31) (v := ?_) (a' := ?_) #[true, true, true, true, true, true, true, true, true, true, true, true, true, true, false, false] rfl rfl (any_of HT_.out (by kernel_rfl)) (fun _ _ _ h => h) (Or.inl ⟨by rfl, ?_⟩) ?_ ?_
      rotate_left
      ·intro w'
       go_simp
       with_reducible rfl
      rotate_left
      ·simp only [Act.put, List.setIfInBounds_toArray, List.set_cons_zero, List.set_cons_succ, i64_w, i32_w]
       rfl
      refine pure_ (i := 14) (N := some 32) (v := ?_) (a' := ?_) #[true, true, true, true, true, true, true, true, true, true, true, true, true, true, true, false] rfl rfl (any_of HT_.out (by kernel_rfl)) (fun _ _ _ h => h) (Or.inl ⟨by rfl, ?_⟩) ?_ ?_
      rotate_left
      ·intro w'
       go_simp
       with_reducible rfl
      rotate_left
      ·simp only [Act.put, List.setIfInBounds_toArray, List.set_cons_zero, List.set_cons_succ, i64_w, i32_w]
       rfl
      refine last_ (i := 15) (N := none) #[true, true, true, true, true, true, true, true, true, true, true, true, true, true, true, true] rfl rfl (one_of HT_.out (by kernel_rfl)) (by decide) (fun K hK => ?_)
      have hs7 : w6.cell? ⟨gb676, 2, none⟩ = some (.int .i64 x677002_1) := (blk_cell BK676.out 2).trans rfl
      have hfs7 := blk_frozen BK676.out 2
      refine skip_ (w1 := ?_) (by rfl) rfl ?_ ?_
      rotate_left
      ·go_simp
       rfl
      refine hK.out _ _ ?_
      clear hK K
      refine done_ (done_of HT_.out (by kernel_rfl)) ?_
      try go_wp2
      go_roundg k1
      case measure => have := HK1.out; omega
      case rel => exact ⟨(wrap64 (x4_1 + 1)), (Int.tmod (wrap64 ((wrap64 (x677002_1 * 47)) + (wrap64 (rd l0 x4_1)))) 2147483647), (by first | rfl | (simp; done) | (simp [*]; done)), H', ⟨by have := HK1.out; omega⟩, ⟨by (with_reducible repeat (first | refine blk_drewN ?_ _ | refine blk_drew ?_ | refine blk_alloc ?_ _)); refine blk_put (cs := #[.slice (some ad677) l0.length c0, .int .i64 0, .int .i64 x677002_1]) ?_ 2 _ rfl; (with_reducible repeat (first | refine blk_drewN ?_ _ | refine blk_drew ?_ | refine blk_alloc ?_ _)); exact BK676.out⟩, ⟨by repeat (first | (with_reducible first | exact HB.out | apply below_alloc | apply pw_below_drewN | apply below_drew1 | refine below_set ?_ GE676.out) | exact HB.out)⟩, ⟨by repeat (first | (with_reducible first | exact HBW.out | apply below_alloc | apply pw_below_drewN | apply below_drew1 | refine below_set ?_ GW676.out) | exact HBW.out)⟩⟩
     ·rw [if_neg c5] at H
      exact absurd H (by simp)
    ·rw [if_neg c4] at H
     have c4b0 : decide (x4_1 < 64) = false := decide_eq_false c4
     clear c4
     simp only [Option.some.injEq, Prod.mk.injEq] at H
     obtain ⟨rfl, rfl, rfl⟩ := H
     go_wp2
     go_ret
     exact ⟨_, rfl, (show IsS84 w0 _ gb676 l0 0 x677002_1 from ⟨_, _, by (with_reducible repeat (first | refine blk_drewN ?_ _ | refine blk_drew ?_ | refine blk_alloc ?_ _)); exact BK676.out, GE676.out, HR0.out⟩), by repeat (first | (with_reducible first | exact HB.out | apply below_alloc | apply pw_below_drewN | apply below_drew1 | refine below_set ?_ GE676.out) | exact HB.out), by repeat (first | (with_reducible first | exact HBW.out | apply below_alloc | apply pw_below_drewN | apply below_drew1 | refine below_set ?_ GW676.out) | exact HBW.out)⟩
   ·rw [if_neg c3] at H
    have c3b0 : decide (x4_1 < (l0.length : Int)) = false := decide_eq_false c3
    clear c3
    simp only [Option.some.injEq, Prod.mk.injEq] at H
    obtain ⟨rfl, rfl, rfl⟩ := H
    go_wp2
    go_ret
    exact ⟨_, rfl, (show IsS84 w0 _ gb676 l0 0 x677002_1 from ⟨_, _, by (with_reducible repeat (first | refine blk_drewN ?_ _ | refine blk_drew ?_ | refine blk_alloc ?_ _)); exact BK676.out, GE676.out, HR0.out⟩), by repeat (first | (with_reducible first | exact HB.out | apply below_alloc | apply pw_below_drewN | apply below_drew1 | refine below_set ?_ GE676.out) | exact HB.out), by repeat (first | (with_reducible first | exact HBW.out | apply below_alloc | apply pw_below_drewN | apply below_drew1 | refine below_set ?_ GW676.out) | exact HBW.out)⟩

/-! ### spec_DrawPartsOf: function 28 -/
def spec_DrawPartsOf.f (k : Nat) (l0 : List Int) : Option ((List (S42))) := (spec_l01From.f k l0).bind fun bt678 => ((spec_l02Draw.f k bt678.1 bt678.2.1 bt678.2.2).bind fun bt682 => (some bt682.1))
theorem spec_DrawPartsOf.mono : ∀ a0 k, LeO (spec_DrawPartsOf.f k a0) (spec_DrawPartsOf.f (k + 1) a0) := by
 intro a0 k
 unfold spec_DrawPartsOf.f
 repeat' first
   | (with_reducible exact spec_l01From.mono _ _)
   | (with_reducible exact spec_l02Draw.mono _ _ _ _)
   | (with_reducible exact LeO.refl _)
   | (with_reducible exact LeO.none _)
   | (with_reducible refine LeO.ite ?_ ?_)
   | (with_reducible refine LeO.bind ?_ (fun _ => ?_))
   | exact spec_l01From.mono _ _
   | exact spec_l02Draw.mono _ _ _ _
   | exact LeO.none _
   | refine LeO.ite ?_ ?_
   | refine LeO.bind ?_ (fun _ => ?_)
set_option maxHeartbeats 8000000 in
set_option maxRecDepth 100000 in
theorem spec_DrawPartsOf.calls (k : Nat) (A0 : Option Addr) (c0 : Nat) (l0 : List Int) (r : List (S42)) (w : World) (hr0 : Kd.C (Kd.int .u8) w A0 l0.length l0) (hc0 : l0.length ≤ c0) (h : spec_DrawPartsOf.f k l0 = some r) :
  Calls Try.prog 28 #[.slice A0 l0.length c0] w fun e w' => ∃ v0_ : Value, e = .returned (v0_) ∧ Kd.R k42 42 w' w.heap.size (fun _ => True) v0_ r ∧ Below w.heap.size w w' := by
 have HR0 := Aside0.mk hr0
 have HC0 := Aside0.mk hc0
 clear hr0 hc0
 have HB := Aside0.mk (Below.refl w.heap.size w)
 have H : ((spec_l01From.f k l0).bind fun bt678 => ((spec_l02Draw.f k bt678.1 bt678.2.1 bt678.2.2).bind fun bt682 => (some bt682.1))) = some r := h
 clear h
 replace H := Option.bind_eq_some_iff.mp H
 obtain ⟨⟨t678, t679, t680⟩, A20, H⟩ := H
 replace H : ((spec_l02Draw.f k t678 t679 t680).bind fun bt682 => (some bt682.1)) = some r := H
 have A2 := Aside0.mk A20
 clear A20
 replace H := Option.bind_eq_some_iff.mp H
 obtain ⟨⟨t682, t685, t686⟩, A30, H⟩ := H
 replace H : (some t682) = some r := H
 have A3 := Aside0.mk A30
 clear A30
 obtain rfl := Option.some.inj H
 go_enter Try.func28, Try.ntmps28
 go_wp2_with (first | ((with_reducible refine gate_callee (f := 65) rfl ?_); refine goesL_ (some 4) rfl rfl Try.func65 (by kernel_rfl) rfl #[.slice A0 l0.length c0] rfl (by (try simp only [List.map_toArray, List.map_cons, List.map_nil]); first | done | rfl | (simp only [List.length_drop, List.length_take]; rfl)) ?_; (with_reducible refine (spec_l01From.calls k _ _ l0 t678 t679 t680 w _ ?side1 ?side2 ?side3 A2.out).mono ?_); (case side1 => repeat (first | (with_reducible first | exact HB.out | apply below_alloc | apply pw_below_drewN | apply below_drew1) | exact HB.out)); (case side2 => exact HR0.out); (case side3 => exact HC0.out); rintro e w4 ⟨g681, rfl, hi, hb, hb2⟩; refine ⟨_, rfl, ?_⟩; have n0_ := Aside0.mk (hb); have n1_ := Aside0.mk (hi); clear HB; have HB := n0_; have HI681 := n1_; clear n0_ n1_; (try clear hb); (try clear hb2); (try clear hk); (try clear hi)) | ((with_reducible refine gate_callee (f := 64) rfl ?_); refine goesL_ (some 5) rfl rfl Try.func64 (by kernel_rfl) rfl #[.pointer (some ⟨g681, 0, none⟩)] rfl (by (try simp only [List.map_toArray, List.map_cons, List.map_nil]); first | done | rfl | (simp only [List.length_drop, List.length_take]; rfl)) ?_; (with_reducible refine (spec_l02Draw.calls k g681 t678 t679 t680 t682 t685 t686 w _ ?side1 ?side2 A3.out).mono ?_); (case side1 => repeat (first | (with_reducible first | exact HI681.out | apply IsS84.alloc | apply IsS84.drewN | apply IsS84.drew | apply IsS84.set_1 | apply IsS84.set_2) | exact HI681.out)); (case side2 => repeat (first | (with_reducible first | exact HB.out | apply below_alloc | apply pw_below_drewN | apply below_drew1 | refine below_set ?_ (IsS84.ge HI681.out)) | exact HB.out)); rintro e w5 ⟨v683, rfl, ho0, hi, hb, hk⟩; refine ⟨_, rfl, ?_⟩; have n0_ := Aside0.mk (Kd.R_lower ho0 (below_size (by repeat (first | (with_reducible first | exact HB.out | apply below_alloc | apply pw_below_drewN | apply below_drew1 | refine below_set ?_ (IsS84.ge HI681.out)) | exact HB.out)))); have n1_ := Aside0.mk (hb); have n2_ := Aside0.mk (hi); clear HB; clear HI681; have HO684 := n0_; have HB := n1_; have HI681 := n2_; clear n0_ n1_ n2_; (try clear hb); (try clear hb2); (try clear hk); (try clear hi); (try clear ho0)))
 go_ret
 exact ⟨_, by first | rfl | (simp [errW_none, errW_some] <;> rfl) | (simp [*, errW_none, errW_some] <;> rfl), by (with_reducible repeat (first | apply Kd.R_alloc | apply Kd.R_drewN | apply Kd.R_drew)); exact HO684.out, by repeat (first | (with_reducible first | exact HB.out | apply below_alloc | apply pw_below_drewN | apply below_drew1 | refine below_set ?_ (IsS84.ge HI681.out)) | exact HB.out)⟩

/-! ### impl_around: function 68 -/
def impl_around.f (a0_0 : Int) (a0_1 : Int) : Option ((List (S42))) := some (([(⟨a0_0, wrap64 (a0_1 - 1)⟩ : S42), (⟨wrap64 (a0_0 - 1), a0_1⟩ : S42), (⟨wrap64 (a0_0 + 1), a0_1⟩ : S42), (⟨a0_0, wrap64 (a0_1 + 1)⟩ : S42)] : List (S42)))
set_option maxHeartbeats 8000000 in
set_option maxRecDepth 100000 in
theorem impl_around.calls (a0_0 : Int) (a0_1 : Int) (r : List (S42)) (w : World) (h : impl_around.f a0_0 a0_1 = some r) :
  Calls Try.prog 68 #[.agg #[.int .i64 a0_0, .int .i64 a0_1]] w fun e w' => ∃ v0_ : Value, e = .returned (v0_) ∧ Kd.R k42 42 w' w.heap.size (fun _ => True) v0_ r ∧ Below w.heap.size w w' := by
 have hu42 := Try.underlying42
 have HB := Aside0.mk (Below.refl w.heap.size w)
 have H : (some (([(⟨a0_0, wrap64 (a0_1 - 1)⟩ : S42), (⟨wrap64 (a0_0 - 1), a0_1⟩ : S42), (⟨wrap64 (a0_0 + 1), a0_1⟩ : S42), (⟨a0_0, wrap64 (a0_1 + 1)⟩ : S42)] : List (S42)))) = some r := h
 clear h
 obtain ⟨y688, hy688⟩ : ∃ y_ : List (S42), y_ = (([(⟨a0_0, wrap64 (a0_1 - 1)⟩ : S42), (⟨wrap64 (a0_0 - 1), a0_1⟩ : S42), (⟨wrap64 (a0_0 + 1), a0_1⟩ : S42), (⟨a0_0, wrap64 (a0_1 + 1)⟩ : S42)] : List (S42))) := ⟨_, rfl⟩
 replace H : (some y688) = some r := by first | (rw [hy688]; with_reducible exact H) | (have H2_ := (Option.bind_some _ _).symm.trans H; rw [hy688]; with_reducible exact H2_) | (have H2_ := (Option.bind_some _ _).symm.trans H; with_reducible exact H2_) | with_reducible exact H | (rw [hy688]; exact H) | exact H
 have Ny688 := Aside0.mk hy688
 clear hy688
 obtain rfl := Option.some.inj H
 go_enter Try.func68, Try.ntmps68
 go_wp2_with (first | ((with_reducible refine gate_dst (N := 1) rfl ?_); refine box_event ?hg (N := 1) ?hd (cs := #[.int .i64 a0_0, .int .i64 a0_1]) (t := 42) ?hr ?_; (case hd => rfl); (case hg => rfl); (case hr => first | (go_simp; done) | (go_simp; rfl)); intro gb687 hg w2 hbox hb; have n0_ := Aside0.mk (below_step (by repeat (first | (with_reducible first | exact HB.out | apply below_alloc | apply pw_below_drewN | apply below_drew1) | exact HB.out)) hb); have n1_ := Aside0.mk (hbox); have n2_ := Aside0.mk ((by rw [hg]; exact (below_size (by repeat (first | (with_reducible first | exact HB.out | apply below_alloc | apply pw_below_drewN | apply below_drew1) | exact HB.out))) : w.heap.size ≤ gb687)); have n3_ := Aside0.mk ((by rw [hg]; exact (below_size (by repeat (first | (with_reducible first | exact HB.out | apply below_alloc | apply pw_below_drewN | apply below_drew1) | exact HB.out))) : w.heap.size ≤ gb687)); clear HB; have HB := n0_; have BK687 := n1_; have GW687 := n2_; have GE687 := n3_; clear n0_ n1_ n2_ n3_; clear hb hbox hg; have hcz3_0 : w2.cell? ⟨gb687, 0, none⟩ = some (.int .i64 a0_0) := (blk_cell BK687.out 0).trans rfl; have hcz3_1 : w2.cell? ⟨gb687, 1, none⟩ = some (.int .i64 a0_1) := (blk_cell BK687.out 1).trans rfl; have hfz3_0 := blk_frozen BK687.out 0; have hfz3_1 := blk_frozen BK687.out 1) | ((with_reducible refine gate_dst (N := 27) rfl ?_); refine Kd.R_lit k42 _ 42 ?hg (N := 27) ?hd (xs := ([(⟨a0_0, wrap64 (a0_1 - 1)⟩ : S42), (⟨wrap64 (a0_0 - 1), a0_1⟩ : S42), (⟨wrap64 (a0_0 + 1), a0_1⟩ : S42), (⟨a0_0, wrap64 (a0_1 + 1)⟩ : S42)] : List (S42))) (inner := [.int .i64 a0_0, .int .i64 (wrap64 (a0_1 - 1)), .int .i64 (wrap64 (a0_0 - 1)), .int .i64 a0_1, .int .i64 (wrap64 (a0_0 + 1)), .int .i64 a0_1, .int .i64 a0_0, .int .i64 (wrap64 (a0_1 + 1))]) (ok := fun _ => True) (okp := fun _ => True) ?hr ?hp (fun _ hk => hk) trivial (Below.refl _ _) (Nat.le_refl _) (by simp) ?_; (case hd => rfl); (case hg => rfl); (case hr => first | (go_simp; done) | (go_simp; rfl)); (case hp => exact (Reps.c2 (show Kd.M k42 _ _ _ (⟨a0_0, wrap64 (a0_1 - 1)⟩ : S42) [.int .i64 a0_0, .int .i64 (wrap64 (a0_1 - 1))] from (k42_mkM _ _ _ (⟨a0_0, wrap64 (a0_1 - 1)⟩ : S42) )) (Reps.c2 (show Kd.M k42 _ _ _ (⟨wrap64 (a0_0 - 1), a0_1⟩ : S42) [.int .i64 (wrap64 (a0_0 - 1)), .int .i64 a0_1] from (k42_mkM _ _ _ (⟨wrap64 (a0_0 - 1), a0_1⟩ : S42) )) (Reps.c2 (show Kd.M k42 _ _ _ (⟨wrap64 (a0_0 + 1), a0_1⟩ : S42) [.int .i64 (wrap64 (a0_0 + 1)), .int .i64 a0_1] from (k42_mkM _ _ _ (⟨wrap64 (a0_0 + 1), a0_1⟩ : S42) )) (Reps.c2 (show Kd.M k42 _ _ _ (⟨a0_0, wrap64 (a0_1 + 1)⟩ : S42) [.int .i64 a0_0, .int .i64 (wrap64 (a0_1 + 1))] from (k42_mkM _ _ _ (⟨a0_0, wrap64 (a0_1 + 1)⟩ : S42) )) (Reps.none _ _)))))); intro v689 w4 ho5 hb hg_ hnew_; clear hg_ hnew_; (first | rw [← Ny688.out] at ho5 | (simp only [Int.reduceToNat] at ho5; rw [← Ny688.out] at ho5)); have n0_ := Aside0.mk (Kd.R_lower (Kd.R_newB ho5 (g := gb687) (o := .cells #[.int .i64 a0_0, .int .i64 a0_1] 42 (0, 0)) (by (with_reducible repeat (first | refine blk_drewN ?_ _ | refine blk_drew ?_ | refine blk_alloc ?_ _)); exact BK687.out)) (below_size (by repeat (first | (with_reducible first | exact HB.out | apply below_alloc | apply pw_below_drewN | apply below_drew1 | refine below_set ?_ GE687.out) | exact HB.out)))); have n1_ := Aside0.mk (blk_below (g := gb687) (o := .cells #[.int .i64 a0_0, .int .i64 a0_1] 42 (0, 0)) (by (with_reducible repeat (first | refine blk_drewN ?_ _ | refine blk_drew ?_ | refine blk_alloc ?_ _)); exact BK687.out) hb); have n2_ := Aside0.mk (below_step (by repeat (first | (with_reducible first | exact HB.out | apply below_alloc | apply pw_below_drewN | apply below_drew1 | refine below_set ?_ GE687.out) | exact HB.out)) hb); clear BK687; clear HB; have HO690 := n0_; have BK687 := n1_; have HB := n2_; clear n0_ n1_ n2_; clear hb ho5))
 go_ret
 exact ⟨_, by first | rfl | (simp [errW_none, errW_some] <;> rfl) | (simp [*, errW_none, errW_some] <;> rfl), by (with_reducible repeat (first | apply Kd.R_alloc | apply Kd.R_drewN | apply Kd.R_drew)); exact Kd.R_mono HO690.out (fun _ hk => trivial), by repeat (first | (with_reducible first | exact HB.out | apply below_alloc | apply pw_below_drewN | apply below_drew1 | refine below_set ?_ GE687.out) | exact HB.out)⟩

/-! ### impl_parts: function 67, by hand -/
-- IMPORT Derived.Maps.OwnSet
-- IMPORT Derived.DeepKeys4
/-- the place that the map holds for a cell behind n rounds: the last one -/
def plN_ (l : List S42) : Nat → Int → Int → Option Nat
  | 0, _, _ => none
  | i + 1, x, y => if (rd_T42 l (i : Nat)).f0 = x ∧ (rd_T42 l (i : Nat)).f1 = y then some i else plN_ l i x y
/-- the neighbours of one cell, one by one -/
def impl_parts.near (l : List S42) (i : Int) : List S42 → List Int → List Int → Option (List Int × List Int)
  | [], out, q => some (out, q)
  | d :: r, out, q => match plN_ l l.length d.f0 d.f1 with
    | some j => if rd out (j : Nat) < 0 then (if q.length < 1000000 then impl_parts.near l i r (out.set j i) (q ++ [(j : Int)]) else none) else impl_parts.near l i r out q
    | none => impl_parts.near l i r out q
/-- the list of the reached places, from the a-th on -/
def impl_parts.bfs : Nat → List S42 → Int → Nat → List Int → List Int → Option (List Int)
  | 0, _, _, _, _, _ => none
  | k + 1, l, i, a, out, q => if a < q.length then (if 0 ≤ rd q (a : Nat) then (if rd q (a : Nat) < (l.length : Int) then ((impl_around.f (rd_T42 l (rd q (a : Nat))).f0 (rd_T42 l (rd q (a : Nat))).f1).bind fun ds => ((impl_parts.near l i ds out q).bind fun z => impl_parts.bfs k l i (a + 1) z.1 z.2)) else none) else none) else some out
def impl_parts.outer (k : Nat) (l : List S42) : Nat → Nat → List Int → Option (List Int)
  | 0, _, out => some out
  | d + 1, i, out => if rd out (i : Nat) ≥ 0 then impl_parts.outer k l d (i + 1) out else ((impl_parts.bfs k l (i : Nat) 0 (out.set i (i : Nat)) [(i : Int)]).bind fun out => impl_parts.outer k l d (i + 1) out)
def wfC_ (l : List S42) : Bool := l.all fun c => decide (-1000000 ≤ c.f0 ∧ c.f0 ≤ 1000000 ∧ -1000000 ≤ c.f1 ∧ c.f1 ≤ 1000000)
def impl_parts.f (k : Nat) (l0 : List S42) : Option (List Int) := if l0.length ≤ 1000000 then (if wfC_ l0 = true then impl_parts.outer k l0 l0.length 0 (List.replicate l0.length (-1)) else none) else none
theorem impl_parts.mono : ∀ a0 k, LeO (impl_parts.f k a0) (impl_parts.f (k + 1) a0) := by
  have hb : ∀ k l i a out q, LeO (impl_parts.bfs k l i a out q) (impl_parts.bfs (k + 1) l i a out q) := by
    intro k
    induction k with
    | zero => intro l i a out q r h; simp [impl_parts.bfs] at h
    | succ k ih =>
      intro l i a out q
      unfold impl_parts.bfs
      exact LeO.ite (LeO.ite (LeO.ite (LeO.bind (LeO.refl _) (fun ds => LeO.bind (LeO.refl _) (fun z => ih _ _ _ _ _))) (LeO.refl _)) (LeO.refl _)) (LeO.refl _)
  have ho : ∀ k l d i out, LeO (impl_parts.outer k l d i out) (impl_parts.outer (k + 1) l d i out) := by
    intro k l d
    induction d with
    | zero => intro i out; exact LeO.refl _
    | succ d ih =>
      intro i out
      unfold impl_parts.outer
      exact LeO.ite (ih _ _) (LeO.bind (hb _ _ _ _ _ _) (fun z => ih _ _))
  intro a0 k
  unfold impl_parts.f
  exact LeO.ite (LeO.ite (ho _ _ _ _ _) (LeO.refl _)) (LeO.refl _)
section
open Go.Maps
theorem laidC_ : laidOutB Try.prog = true := by kernel_rfl
theorem lawC_ : Keyed Try.prog 42 := Keyed.of_law (deep_law_laid laidC_ (m := 2) (by omega) (of_decide_eq_true (by kernel_rfl)) (by kernel_rfl) (by kernel_rfl))
theorem zeroI_ (w : World) : (zeroValue 3).run Try.prog w = .ok (.int .i64 0) w := by kernel_rfl
theorem wfI_ {x : Int} (h1 : -9223372036854775808 ≤ x) (h2 : x ≤ 9223372036854775807) : (Lit.int .i64 x).wf = true := by
  simp only [Lit.wf, Bool.and_eq_true, decide_eq_true_eq]; exact ⟨h1, h2⟩
theorem keyGen_ {P : Program} {t : TypeId} {f0 f1 : Field} (hu : P.underlying t = some (.struct #[f0, f1])) (u0 : P.underlying f0.type = some (.int .i64)) (u1 : P.underlying f1.type = some (.int .i64)) (ct : P.cellsOf t = 2) (c0 : P.cellsOf f0.type = 1) (c1 : P.cellsOf f1.type = 1)
    (o0 : f0.offset = 0) (o1 : f1.offset = 1) (n0 : (f0.name != "_") = true) (n1 : (f1.name != "_") = true) (hk : P.keyType t = true) (hs : 0 < P.types.size) (x y : Int) (hx : (Lit.int .i64 x).wf = true) (hy : (Lit.int .i64 y).wf = true) : ∃ kl, keyOf P t (.agg #[.int .i64 x, .int .i64 y]) = some kl := by
  have e3 : (Value.agg #[.int .i64 x, .int .i64 y]).formed P t = true := by simp [Value.formed, hu, ct]
  obtain ⟨m, hm⟩ : ∃ m, P.types.size = m + 1 := ⟨P.types.size - 1, by omega⟩
  unfold keyOf
  simp only [hu, hk, e3, hm, Bool.and_self, if_true]
  have k0 : P.keyLits (m + 1) f0.type [.int .i64 x] = some [.int .i64 x] := by unfold Program.keyLits; simp only [u0, hx, and_self, if_true]
  have k1 : P.keyLits (m + 1) f1.type [.int .i64 y] = some [.int .i64 y] := by unfold Program.keyLits; simp only [u1, hy, and_self, if_true]
  have kk : P.keyLits (m + 1 + 1) t [.int .i64 x, .int .i64 y] = some [.int .i64 x, .int .i64 y] := by
    unfold Program.keyLits
    simp only [hu]
    simp [ct, n0, n1, o0, o1, c0, c1, k0, k1]
  exact ⟨_, by simp only [Value.cells]; rw [kk]; rfl⟩
theorem keyC_ (x y : Int) (hx : (Lit.int .i64 x).wf = true) (hy : (Lit.int .i64 y).wf = true) : ∃ kl, keyOf Try.prog 42 (.agg #[.int .i64 x, .int .i64 y]) = some kl :=
  keyGen_ Try.underlying42 Try.underlying2 Try.underlying2 (by kernel_rfl) (by kernel_rfl) (by kernel_rfl) rfl rfl (by decide) (by decide) (by kernel_rfl) (of_decide_eq_true (by kernel_rfl)) x y hx hy
/-- what the map says behind n rounds -/
def PlOk_ (D : DataW Unit) (l : List S42) (n : Nat) : Prop := Maps.IsMap D ∧ ∀ x y kl, keyOf Try.prog 42 (.agg #[.int .i64 x, .int .i64 y]) = some kl → (∀ j, plN_ l n x y = some j → Maps.has D kl = true ∧ D.atKey kl (.lit (.int .i64 0)) = .lit (.int .i64 (j : Nat))) ∧ (plN_ l n x y = none → Maps.has D kl = false)
theorem PlOk_.start (l : List S42) : PlOk_ (.map []) l 0 := ⟨⟨[], rfl⟩, fun x y kl _ => ⟨fun j h => by simp [plN_] at h, fun _ => rfl⟩⟩
theorem PlOk_.step {D : DataW Unit} {l : List S42} {n : Nat} (h : PlOk_ D l n) {kl0 : Lit} (hk : keyOf Try.prog 42 (.agg #[.int .i64 (rd_T42 l (n : Nat)).f0, .int .i64 (rd_T42 l (n : Nat)).f1]) = some kl0) : PlOk_ (D.put kl0 (.lit (.int .i64 (n : Nat)))) l (n + 1) := by
  refine ⟨h.1.put _ _, fun x y kl hkl => ?_⟩
  have e : plN_ l (n + 1) x y = if (rd_T42 l (n : Nat)).f0 = x ∧ (rd_T42 l (n : Nat)).f1 = y then some n else plN_ l n x y := rfl
  rw [e]
  by_cases c : (rd_T42 l (n : Nat)).f0 = x ∧ (rd_T42 l (n : Nat)).f1 = y
  · rw [if_pos c]
    rw [c.1, c.2, hkl] at hk
    obtain rfl := Option.some.inj hk
    refine ⟨fun j hj => ?_, fun hj => absurd hj (by simp)⟩
    obtain rfl := Option.some.inj hj
    exact ⟨has_put_same h.1 (lawC_.key hkl) _, atKey_put_same h.1 (lawC_.key hkl) _ _⟩
  · rw [if_neg c]
    have hne : kl ≠ kl0 := fun he => by
      subst he
      have := lawC_.inj hkl hk
      injection this with this
      simp at this
      exact c ⟨this.1.symm, this.2.symm⟩
    obtain ⟨a, b⟩ := h.2 x y kl hkl
    refine ⟨fun j hj => ?_, fun hj => ?_⟩
    · rw [has_put_other hne, atKey_put_other hne]; exact a j hj
    · rw [has_put_other hne]; exact b hj
theorem ownsMap_below {w w' : World} {b n : Nat} {D : DataW Unit} (h : w.ownsMap Try.prog 42 (plainElem Try.prog 3) b n D) (hb : Below w.heap.size w w') : w'.ownsMap Try.prog 42 (plainElem Try.prog 3) b n D := h.kept (grown_of_below hb none) (by simp)
/-- a row is no map's block -/
theorem R_notmap {α : Type} {d : Kd α} {e : Nat} {w : World} {base : Nat} {ok : Nat → Prop} {v : Value} {xs : List α} {B n : Nat} {D : DataW Unit} (h : d.R e w base ok v xs) (hm : w.ownsMap Try.prog 42 (plainElem Try.prog 3) B n D) : d.R e w base (fun k => ok k ∧ k ≠ B) v xs := by
  obtain ⟨es, clock, hb, _⟩ := hm
  refine Kd.R_mono (Kd.R_bound h) fun k hk => ⟨hk.1, ?_⟩
  obtain ⟨_, _, _, q, _, cells, hc⟩ := hk
  rintro rfl
  rw [hb] at hc
  exact absurd (Option.some.inj hc) (by simp)
theorem R_update {α : Type} {d : Kd α} {e : Nat} {w w' : World} {base : Nat} {v : Value} {xs : List α} {B n : Nat} {D : DataW Unit} (h : d.R e w base (fun _ => True) v xs) (hm : w.ownsMap Try.prog 42 (plainElem Try.prog 3) B n D) (hg : w.grownBy w' (some B)) : d.R e w' base (fun _ => True) v xs :=
  Kd.R_mono (Kd.R_grown (R_notmap h hm) hg (fun k hk he => hk.2 (Option.some.inj he))) (fun _ _ => trivial)
theorem R_madeAt {α : Type} {d : Kd α} {e : Nat} {w : World} {base : Nat} {ok : Nat → Prop} {v : Value} {xs : List α} (h : d.R e w base ok v xs) {b : Nat} (hb : v.ownBlock = some b) : ∃ co, v = .slice (some ⟨b, 0, none⟩) xs.length co ∧ base ≤ b := by
  obtain ⟨inner, h1, h2⟩ := Kd.R_own h
  rcases h2 with ⟨rfl, _⟩ | ⟨g, cap, cur, rfl, hge, _⟩
  · simp [Value.ownBlock] at hb
  · have : g = b := by simpa [Value.ownBlock] using hb
    subst this; exact ⟨cap, rfl, hge⟩
theorem wfC_at {l : List S42} (h : wfC_ l = true) (j : Nat) (hj : j < l.length) : (Lit.int .i64 (rd_T42 l (j : Nat)).f0).wf = true ∧ (Lit.int .i64 (rd_T42 l (j : Nat)).f1).wf = true := by
  unfold wfC_ at h
  rw [List.all_eq_true] at h
  have hm : rd_T42 l (j : Nat) ∈ l := by
    unfold rd_T42; rw [List.getD_eq_getElem?_getD, Int.toNat_natCast, List.getElem?_eq_getElem hj]; exact List.getElem_mem hj
  have := of_decide_eq_true (h _ hm)
  exact ⟨wfI_ (by omega) (by omega), wfI_ (by omega) (by omega)⟩
theorem rdn_get (l : List Int) (j : Nat) (hj : j < l.length) : l[j]? = some (rd l (j : Nat)) := by
  unfold rd; rw [List.getD_eq_getElem?_getD, Int.toNat_natCast, List.getElem?_eq_getElem hj]; rfl
theorem rep_of_get (z : List Int) (n : Nat) (hn : z.length = n) (h : ∀ j, j < n → z[j]? = some (-1)) : z = List.replicate n (-1) := by
  apply List.ext_getElem?
  intro j
  by_cases hj : j < n
  · rw [h j hj, List.getElem?_replicate, if_pos hj]
  · rw [List.getElem?_eq_none (by omega), List.getElem?_eq_none (by simp; omega)]
theorem infoI_ : (Try.prog.info? 3).map (fun i => (i.zero, i.size, i.bytes)) = some (some (.int .i64 0), 1, 8) := by kernel_rfl
theorem map_ne {α : Type} {d : Kd α} {e : Nat} {w : World} {base : Nat} {ok : Nat → Prop} {v : Value} {xs : List α} {B n : Nat} {D : DataW Unit} (h : d.R e w base ok v xs) (hm : w.ownsMap Try.prog 42 (plainElem Try.prog 3) B n D) : some B ≠ v.ownBlock := fun he => ((R_notmap h hm).1 B he.symm).2 rfl
theorem around_wf {x y : Int} {ds : List S42} (h : impl_around.f x y = some ds) (hx : (Lit.int .i64 x).wf = true) (hy : (Lit.int .i64 y).wf = true) : ds.length = 4 ∧ ∀ j, j < ds.length → (Lit.int .i64 (rd_T42 ds (j : Nat)).f0).wf = true ∧ (Lit.int .i64 (rd_T42 ds (j : Nat)).f1).wf = true := by
  unfold impl_around.f at h
  obtain rfl := Option.some.inj h
  refine ⟨rfl, fun j hj => ?_⟩
  have : j = 0 ∨ j = 1 ∨ j = 2 ∨ j = 3 := by simp at hj; omega
  rcases this with rfl | rfl | rfl | rfl
  · exact ⟨hx, wrap64_wf _⟩
  · exact ⟨wrap64_wf _, hy⟩
  · exact ⟨wrap64_wf _, hy⟩
  · exact ⟨hx, wrap64_wf _⟩
theorem dropC_cons (l : List S42) (j : Nat) (hj : j < l.length) : l.drop j = rd_T42 l (j : Nat) :: l.drop (j + 1) := by
  rw [List.drop_eq_getElem_cons hj]; congr 1
  unfold rd_T42; rw [List.getD_eq_getElem?_getD, Int.toNat_natCast, List.getElem?_eq_getElem hj]; rfl
theorem plN_lt (l : List S42) (x y : Int) : ∀ (n j : Nat), plN_ l n x y = some j → j < n := by
  intro n
  induction n with
  | zero => intro j h; simp [plN_] at h
  | succ n ih =>
    intro j h
    unfold plN_ at h
    split at h
    · obtain rfl := Option.some.inj h; omega
    · have := ih j h; omega
set_option maxHeartbeats 8000000 in
set_option maxRecDepth 100000 in
theorem impl_parts.calls (k : Nat) (A0 : Option Addr) (c0 : Nat) (l0 : List S42) (r : List Int) (w : World) (hr0 : Kd.C k42 w A0 l0.length l0) (hc0 : l0.length ≤ c0) (h : impl_parts.f k l0 = some r) :
    Calls Try.prog 67 #[.slice A0 l0.length c0, .func (.func 68) #[] #[]] w fun e w' => ∃ v0_ : Value, e = .returned (v0_) ∧ Kd.R (Kd.int .i64) 2 w' w.heap.size (fun _ => True) v0_ r ∧ Below w.heap.size w w' := by
  have hu1 := Try.underlying24
  have hu2 := Try.underlying42
  have hmm := @run_makeMap Try.prog
  have HR0 := Aside0.mk hr0
  have HC0 := Aside0.mk hc0
  clear hr0 hc0
  unfold impl_parts.f at h
  by_cases hb : l0.length ≤ 1000000
  rotate_left
  · rw [if_neg hb] at h; exact absurd h (by simp)
  rw [if_pos hb] at h
  by_cases hw : wfC_ l0 = true
  rotate_left
  · rw [if_neg hw] at h; exact absurd h (by simp)
  rw [if_pos hw] at h
  have H := Aside0.mk h
  have HW := Aside0.mk hw
  clear h hw
  go_enter Try.func67, Try.ntmps67
  go_wp2_with ((with_reducible refine gate_dst (N := 19) rfl ?_); refine Kd.R_make (Kd.int .i64) (w0 := w) w.heap.size 2 rfl (N := 19) rfl 24 _ _ rfl (l0.length : Int) rfl rfl hu1 (.int .i64 0) 8 info2 rfl (by decide) (by decide) 0 (ok := fun _ => True) (okp := fun _ => True) rfl (fun _ hk => hk) trivial (by omega) (by simp only [Int.toNat_natCast]; omega) (below_alloc (Below.refl _ _) _) (by simp) ?_)
  intro vo w1 hR hB1 hg g hgb hgs
  obtain ⟨co, rfl, hgw⟩ := R_madeAt hR hgb
  rw [List.length_replicate] at *
  clear hgs
  have HO := Aside0.mk hR
  have HB := Aside0.mk hB1
  have HM := Aside0.mk ((World.ownsMap_made (H := Unit) w Try.prog 42 (plainElem Try.prog 3)).kept hg (by simp))
  have HG := Aside0.mk hgw
  clear hR hB1 hg hgb hgw
  go_wp2_with fail
  go_loopg [22] l0.length (fun gk v22 wr => ∃ (i : Nat) (z : List Int) (D : DataW Unit), v22 = .int .i64 i ∧ Aside0 (gk + i = l0.length) ∧ Aside0 (PlOk_ D l0 i) ∧ Aside0 (wr.ownsMap Try.prog 42 (plainElem Try.prog 3) w.heap.size i D) ∧ Aside0 (Kd.R (Kd.int .i64) 2 wr w.heap.size (fun _ => True) (.slice (some ⟨g, 0, none⟩) l0.length co) z) ∧ Aside0 (∀ j, j < i → z[j]? = some (-1)) ∧ Aside0 (Below w.heap.size w wr))
  case atStart => exact ⟨0, List.replicate l0.length 0, .map [], rfl, ⟨rfl⟩, ⟨PlOk_.start l0⟩, HM, HO, ⟨fun j hj => by omega⟩, HB⟩
  case round =>
    clear HM HO HB
    obtain ⟨i, z, D, rfl, HK, HP, HM, HO, HZ, HB⟩ := hrel
    have hzl := (Kd.R_reads' HO.out).1
    have HZL := Aside0.mk hzl
    cases gk with
    | zero =>
      have hi : i = l0.length := by have := HK.out; omega
      have d1 : decide ((i : Int) < (l0.length : Int)) = false := decide_eq_false (by omega)
      have d2 : decide (i < l0.length) = false := decide_eq_false (by omega)
      have hz : z = List.replicate l0.length (-1) := rep_of_get z _ hzl.symm (fun j hj => HZ.out j (by omega))
      have H2 : Aside0 (impl_parts.outer k l0 l0.length 0 z = some r) := ⟨by rw [hz]; exact H.out⟩
      have HP2 : Aside0 (PlOk_ D l0 l0.length) := ⟨by rw [← hi]; exact HP.out⟩
      have HI := Aside0.mk hi
      clear hzl hz H HP HZ hi
      go_wp2_with fail
      go_loopg [36] l0.length (fun gk v36 wr => ∃ (i2 : Nat) (z2 : List Int), v36 = .int .i64 i2 ∧ Aside0 (gk + i2 = l0.length) ∧ Aside0 (impl_parts.outer k l0 gk i2 z2 = some r) ∧ Aside0 (wr.ownsMap Try.prog 42 (plainElem Try.prog 3) w.heap.size i D) ∧ Aside0 (Kd.R (Kd.int .i64) 2 wr w.heap.size (fun _ => True) (.slice (some ⟨g, 0, none⟩) l0.length co) z2) ∧ Aside0 (Below w.heap.size w wr))
      case atStart => exact ⟨0, z, rfl, ⟨rfl⟩, H2, HM, HO, HB⟩
      case round =>
        clear H2 HM HO HB HZL
        obtain ⟨i2, z2, rfl, HK2, H2, HM, HO, HB⟩ := hrel
        cases gk with
        | zero =>
          have hi2 : i2 = l0.length := by have := HK2.out; omega
          have e1 : decide ((i2 : Int) < (l0.length : Int)) = false := decide_eq_false (by omega)
          have e2 : decide (i2 < l0.length) = false := decide_eq_false (by omega)
          have hz2 : some z2 = some r := H2.out
          obtain rfl := Option.some.inj hz2
          clear hz2 H2 hi2
          go_wp2_with fail
          go_ret
          exact ⟨_, rfl, HO.out, HB.out⟩
        | succ gk2 =>
          have hi2 : i2 < l0.length := by have := HK2.out; omega
          have p1 : 0 ≤ (i2 : Int) := by omega
          have q1 : (i2 : Int) < (l0.length : Int) := by omega
          have e1 : decide ((i2 : Int) < (l0.length : Int)) = true := decide_eq_true q1
          have e2 : decide (i2 < l0.length) = true := decide_eq_true hi2
          obtain ⟨hy, hz⟩ := Kd.R_celln 0 HO.out (i2 : Int) p1 q1
          rw [Int.toNat_natCast] at hy hz
          replace hy : wr.cell? ⟨g, i2, none⟩ = some (.int .i64 (rd z2 i2)) := hy
          have hH : (if rd z2 (i2 : Nat) ≥ 0 then impl_parts.outer k l0 gk2 (i2 + 1) z2 else ((impl_parts.bfs k l0 (i2 : Nat) 0 (z2.set i2 (i2 : Nat)) [(i2 : Int)]).bind fun out => impl_parts.outer k l0 gk2 (i2 + 1) out)) = some r := H2.out
          clear H2 d1 d2
          by_cases c : rd z2 (i2 : Nat) ≥ 0
          · rw [if_pos c] at hH
            have H2 := Aside0.mk hH
            have c1 : decide (0 ≤ rd z2 (i2 : Nat)) = true := decide_eq_true c
            clear hH c
            go_wp2_with fail
            go_roundg gk2
            case measure => omega
            case rel => exact ⟨i2 + 1, z2, by go_num, ⟨by have := HK2.out; omega⟩, H2, HM, HO, HB⟩
          · rw [if_neg c] at hH
            have c1 : decide (0 ≤ rd z2 (i2 : Nat)) = false := decide_eq_false c
            obtain ⟨z3, hz3, hH3⟩ := Option.bind_eq_some_iff.mp hH
            have H2 := Aside0.mk hH3
            have HZ3 := Aside0.mk hz3
            clear hH c hH3 hz3
            have HPG := Aside0.mk (Kd.R_putg HO.out (i2 : Int) (i2 : Int))
            rw [Int.toNat_natCast] at HPG
            generalize rd z2 (i2 : Nat) = zz at *
            go_wp2_with ((with_reducible refine gate_store (t := 2) (p := 47) rfl ?_); refine store_event (t := 2) (p := 47) (v := .tmp 46) (w1 := wr.setCell ⟨g, i2, none⟩ (.int .i64 (i2 : Int))) rfl rfl rfl (by first | (go_simp; done) | (go_simp; rfl)) ?_)
            intro w3 hw3
            have hne := (R_notmap HO.out HM.out).1 g (by simp [Value.ownBlock])
            have HO3 : Aside0 (Kd.R (Kd.int .i64) 2 w3 w.heap.size (fun _ => True) (.slice (some ⟨g, 0, none⟩) l0.length co) (z2.set i2 (i2 : Int))) := ⟨by rw [hw3]; exact HPG.out.1⟩
            have HM3 : Aside0 (w3.ownsMap Try.prog 42 (plainElem Try.prog 3) w.heap.size i D) := ⟨by rw [hw3]; exact HM.out.setCell (fun e => hne.2 e.symm) _⟩
            have HB3 : Aside0 (Below w.heap.size w w3) := ⟨by rw [hw3]; exact below_set HB.out HG.out⟩
            clear HPG HM HB HO hy hz hw3 hne
            go_wp2_with ((with_reducible refine gate_dst (N := 49) rfl ?_); refine Kd.R_lit (Kd.int .i64) _ 3 ?hg (N := 49) ?hd (xs := ([(i2 : Int)] : List Int)) (inner := [.int .i64 (i2 : Int)]) (ok := fun _ => True) (okp := fun _ => True) ?hr ?hp (fun _ hk => hk) trivial (Below.refl _ _) (Nat.le_refl _) (by simp) ?_; (case hd => rfl); (case hg => rfl); (case hr => first | (go_simp; done) | (go_simp; rfl)); (case hp => exact (Reps.one (show Kd.M (Kd.int .i64) _ _ _ (i2 : Int) [.int .i64 (i2 : Int)] from rfl) (Reps.none _ _))))
            intro vq w4 ho hb4 hg4 nb hnb hns
            have HQ : Aside0 (Kd.R (Kd.int .i64) 3 w4 w.heap.size (fun _ => True) vq [(i2 : Int)]) := ⟨Kd.R_lower ho HB3.out.size⟩
            have HO4 := Aside0.mk (Kd.R_below HO3.out hb4)
            have HM4 := Aside0.mk (ownsMap_below HM3.out hb4)
            have HB4 := Aside0.mk (below_step HB3.out hb4)
            clear ho hb4 hg4 hnb hns HO3 HM3 HB3
            go_wp2_with fail
            go_loopg [10, 11] k (fun kq v10 v11 wr => ∃ (a : Nat) (out q : List Int), v11 = .int .i64 a ∧ Aside0 (impl_parts.bfs kq l0 (i2 : Nat) a out q = some z3) ∧ Aside0 (wr.ownsMap Try.prog 42 (plainElem Try.prog 3) w.heap.size i D) ∧ Aside0 (Kd.R (Kd.int .i64) 2 wr w.heap.size (fun _ => True) (.slice (some ⟨g, 0, none⟩) l0.length co) out) ∧ Aside0 (Kd.R (Kd.int .i64) 3 wr w.heap.size (fun _ => True) v10 q) ∧ Aside0 (Below w.heap.size w wr))
            case atStart => exact ⟨0, _, _, rfl, HZ3, HM4, HO4, HQ, HB4⟩
            case round =>
              clear HZ3 HM4 HO4 HQ HB4
              obtain ⟨a, out, q, rfl, HF, HM, HO, HQ, HB⟩ := hrel
              obtain ⟨Aq, cq, rfl, hcq, hCq⟩ := Kd.R_reads HQ.out
              have HCQ := Aside0.mk hCq
              have hql : q.length ≤ 9223372036854775807 := hCq.2.1
              clear hCq hcq
              cases gk with
              | zero => exact absurd HF.out (by simp [impl_parts.bfs])
              | succ kq =>
                have hF := HF.out
                clear HF
                simp only [impl_parts.bfs] at hF
                by_cases ca : a < q.length
                · rw [if_pos ca] at hF
                  have f1 : decide ((a : Int) < (q.length : Int)) = true := decide_eq_true (by omega)
                  have f2 : decide (a < q.length) = true := decide_eq_true ca
                  have pa : 0 ≤ (a : Int) := by omega
                  have qa : (a : Int) < (q.length : Int) := by omega
                  by_cases cb : 0 ≤ rd q (a : Nat)
                  rotate_left
                  · rw [if_neg cb] at hF; exact absurd hF (by simp)
                  rw [if_pos cb] at hF
                  by_cases cc : rd q (a : Nat) < (l0.length : Int)
                  rotate_left
                  · rw [if_neg cc] at hF; exact absurd hF (by simp)
                  rw [if_pos cc] at hF
                  obtain ⟨ds, hds, hF⟩ := Option.bind_eq_some_iff.mp hF
                  obtain ⟨⟨o', q'⟩, hnear, hF⟩ := Option.bind_eq_some_iff.mp hF
                  replace hF : impl_parts.bfs kq l0 (i2 : Nat) (a + 1) o' q' = some z3 := hF
                  obtain ⟨m, hm⟩ := Int.eq_ofNat_of_zero_le cb
                  obtain ⟨adq, eq1, hq0⟩ := Kd.at_int HCQ.out (a : Int) pa qa
                  subst eq1
                  rw [Int.toNat_natCast, hm] at hq0
                  rw [hm] at cb cc hds
                  obtain ⟨wf0, wf1⟩ := wfC_at HW.out m (by omega)
                  obtain ⟨ds4, dswf⟩ := around_wf hds wf0 wf1
                  obtain ⟨ad, e3, hx0, hx1⟩ := at_T42 HR0.out (m : Int) cb cc
                  subst e3
                  rw [Int.toNat_natCast] at hx0 hx1
                  replace hx0 := (HB.out.cell (World.block_lt_of_cell? w _ hx0)).trans hx0
                  replace hx1 := (HB.out.cell (World.block_lt_of_cell? w _ hx1)).trans hx1
                  have g1 : decide ((m : Int) < (l0.length : Int)) = true := decide_eq_true cc
                  have g2 : decide (m < l0.length) = true := decide_eq_true (by omega)
                  have HDS := Aside0.mk hds
                  have HDW := Aside0.mk dswf
                  have HD4 := Aside0.mk ds4
                  have HF := Aside0.mk hF
                  have HN : Aside0 (impl_parts.near l0 (i2 : Nat) (ds.drop 0) out q = some (o', q')) := ⟨hnear⟩
                  clear hF hnear hds dswf ds4 hm wf0 wf1 ca
                  generalize rd_T42 l0 (m : Int) = cm at *
                  go_wp2_with fail
                  refine (impl_around.calls cm.f0 cm.f1 ds _ HDS.out).mono ?_
                  rintro e w5 ⟨vd, rfl, hRd, hb5⟩
                  obtain ⟨Ad, cd, rfl, hcd, hCd⟩ := Kd.R_reads hRd
                  have HD := Aside0.mk (Kd.R_lower hRd HB.out.size)
                  have HO5 := Aside0.mk (Kd.R_below HO.out hb5)
                  have HQ5 := Aside0.mk (Kd.R_below HQ.out hb5)
                  have HM5 := Aside0.mk (ownsMap_below HM.out hb5)
                  have HB5 := Aside0.mk (below_step HB.out hb5)
                  have hdl : ds.length ≤ 9223372036854775807 := hCd.2.1
                  clear hRd hb5 hcd hCd HO HQ HM HB hq0 hx0 hx1 HCQ
                  go_wp2_with fail
                  go_loopg [10, 66] ds.length (fun gk v10 v66 wr => ∃ (j : Nat) (out q : List Int), v66 = .int .i64 j ∧ Aside0 (gk + j = ds.length) ∧ Aside0 (impl_parts.near l0 (i2 : Nat) (ds.drop j) out q = some (o', q')) ∧ Aside0 (wr.ownsMap Try.prog 42 (plainElem Try.prog 3) w.heap.size i D) ∧ Aside0 (Kd.R (Kd.int .i64) 2 wr w.heap.size (fun _ => True) (.slice (some ⟨g, 0, none⟩) l0.length co) out) ∧ Aside0 (Kd.R (Kd.int .i64) 3 wr w.heap.size (fun _ => True) v10 q) ∧ Aside0 (Kd.R k42 42 wr w.heap.size (fun _ => True) (.slice Ad ds.length cd) ds) ∧ Aside0 (Below w.heap.size w wr))
                  case atStart => exact ⟨0, out, q, rfl, ⟨rfl⟩, HN, HM5, HO5, HQ5, HD, HB5⟩
                  case round =>
                    clear HN HM5 HO5 HQ5 HD HB5
                    obtain ⟨j, out, q, rfl, HKJ, HN, HM, HO, HQ, HD, HB⟩ := hrel
                    cases gk with
                    | zero =>
                      have hj : j = ds.length := by have := HKJ.out; omega
                      have h1 : decide ((j : Int) < (ds.length : Int)) = false := decide_eq_false (by omega)
                      have h2 : decide (j < ds.length) = false := decide_eq_false (by omega)
                      have hn := HN.out
                      rw [hj, List.drop_length] at hn
                      have hn2 : some (out, q) = some (o', q') := hn
                      obtain ⟨rfl, rfl⟩ := Prod.mk.inj (Option.some.inj hn2)
                      clear hn hn2 HN hj
                      go_wp2_with fail
                      go_roundg kq
                      case measure => omega
                      case rel => exact ⟨a + 1, out, q, by go_num, HF, HM, HO, HQ, HB⟩
                    | succ gk3 =>
                      have hj : j < ds.length := by have := HKJ.out; omega
                      have h1 : decide ((j : Int) < (ds.length : Int)) = true := decide_eq_true (by omega)
                      have h2 : decide (j < ds.length) = true := decide_eq_true hj
                      have pj : 0 ≤ (j : Int) := by omega
                      have qj : (j : Int) < (ds.length : Int) := by omega
                      obtain ⟨ad, e3, hx0, hx1⟩ := at_T42 (Kd.R_reads' HD.out).2.2 j pj qj
                      subst e3
                      rw [Int.toNat_natCast] at hx0 hx1
                      obtain ⟨wf0, wf1⟩ := HDW.out j hj
                      obtain ⟨kl, hkl⟩ := keyC_ _ _ wf0 wf1
                      have hn := HN.out
                      rw [dropC_cons ds j hj] at hn
                      have HKL := Aside0.mk hkl
                      obtain ⟨px, py⟩ := HP2.out.2 _ _ kl hkl
                      clear hkl wf0 wf1 HN
                      generalize rd_T42 ds (j : Int) = cj at *
                      obtain ⟨jj, hjj⟩ : ∃ jj, jj = j := ⟨j, rfl⟩
                      rw [← hjj] at hn
                      have hn2 : (match plN_ l0 l0.length cj.f0 cj.f1 with
                        | some j => if rd out (j : Nat) < 0 then (if q.length < 1000000 then impl_parts.near l0 (i2 : Nat) (ds.drop (jj + 1)) (out.set j (i2 : Nat)) (q ++ [(j : Int)]) else none) else impl_parts.near l0 (i2 : Nat) (ds.drop (jj + 1)) out q
                        | none => impl_parts.near l0 (i2 : Nat) (ds.drop (jj + 1)) out q) = some (o', q') := hn
                      clear hn
                      rw [hjj] at hn2
                      clear hjj
                      cases hpl : plN_ l0 l0.length cj.f0 cj.f1 with
                      | none =>
                        have hh := py hpl
                        rw [hpl] at hn2
                        have HN := Aside0.mk hn2
                        clear hn2 px py hpl
                        go_wp2_with (at_lookup; refine wpList_lookup_own_ok_int _ rfl _ _ 86 rfl 42 3 .i64 lawC_ Try.underlying86 Try.underlying3 (zeroI_ _) w.heap.size i D rfl (HM.out.alloc _) _ _ rfl HKL.out ?_)
                        intro c hat hwc
                        clear hat hwc hh
                        go_wp2_with fail
                        go_roundg gk3
                        case measure => omega
                        case rel => exact ⟨j + 1, out, q, by go_num, ⟨by have := HKJ.out; omega⟩, HN, ⟨HM.out.alloc _⟩, ⟨Kd.R_alloc HO.out _⟩, ⟨Kd.R_alloc HQ.out _⟩, ⟨Kd.R_alloc HD.out _⟩, ⟨below_alloc HB.out _⟩⟩
                      | some jx =>
                        obtain ⟨hh, hat0⟩ := px jx hpl
                        have hjx := plN_lt l0 _ _ _ _ hpl
                        rw [hpl] at hn2
                        have hn3 : (if rd out (jx : Nat) < 0 then (if q.length < 1000000 then impl_parts.near l0 (i2 : Nat) (ds.drop (j + 1)) (out.set jx (i2 : Nat)) (q ++ [(jx : Int)]) else none) else impl_parts.near l0 (i2 : Nat) (ds.drop (j + 1)) out q) = some (o', q') := hn2
                        have HT := Aside0.mk hat0
                        clear hn2 px py hpl hat0
                        have px : 0 ≤ (jx : Int) := by omega
                        have qx : (jx : Int) < (l0.length : Int) := by omega
                        have g3 : decide ((jx : Int) < (l0.length : Int)) = true := decide_eq_true qx
                        have g4 : decide (jx < l0.length) = true := decide_eq_true hjx
                        have HOA := Aside0.mk (Kd.R_alloc HO.out (.cells #[.int .i64 cj.f0, .int .i64 cj.f1] 42 (0, 0)))
                        obtain ⟨hy, hz⟩ := Kd.R_celln 0 HOA.out (jx : Int) px qx
                        rw [Int.toNat_natCast] at hy hz
                        replace hy : (wr.alloc (.cells #[.int .i64 cj.f0, .int .i64 cj.f1] 42 (0, 0))).cell? ⟨g, jx, none⟩ = some (.int .i64 (rd out jx)) := hy
                        have HPG := Aside0.mk (Kd.R_putg HOA.out (jx : Int) (i2 : Int))
                        rw [Int.toNat_natCast] at HPG
                        by_cases cn : rd out (jx : Nat) < 0
                        · rw [if_pos cn] at hn3
                          have cn1 : decide (rd out (jx : Nat) < 0) = true := decide_eq_true cn
                          by_cases cq2 : q.length < 1000000
                          rotate_left
                          · rw [if_neg cq2] at hn3; exact absurd hn3 (by simp)
                          rw [if_pos cq2] at hn3
                          have HN := Aside0.mk hn3
                          have HQL := Aside0.mk cq2
                          clear hn3 cn cq2
                          generalize rd out (jx : Nat) = zz at *
                          go_wp2_with (at_lookup; refine wpList_lookup_own_ok_int _ rfl _ _ 86 rfl 42 3 .i64 lawC_ Try.underlying86 Try.underlying3 (zeroI_ _) w.heap.size i D rfl (HM.out.alloc _) _ _ rfl HKL.out ?_)
                          intro c hat hwc
                          have hcj : c = (jx : Int) := by
                            rw [HT.out] at hat
                            injection hat with hat
                            injection hat with _ hat
                            exact hat.symm
                          subst hcj
                          clear hat hwc hh
                          go_wp2_with ((with_reducible refine gate_store (t := 2) (p := 87) rfl ?_); refine store_event (t := 2) (p := 87) (v := .tmp 86) (w1 := (wr.alloc (.cells #[.int .i64 cj.f0, .int .i64 cj.f1] 42 (0, 0))).setCell ⟨g, jx, none⟩ (.int .i64 (i2 : Int))) rfl rfl rfl (by first | (go_simp; done) | (go_simp; rfl)) ?_)
                          intro w6 hw6
                          have hne := (R_notmap HO.out HM.out).1 g (by simp [Value.ownBlock])
                          have hg6 : (wr.alloc (.cells #[.int .i64 cj.f0, .int .i64 cj.f1] 42 (0, 0))).grownBy w6 (some g) := by rw [hw6]; exact HPG.out.2
                          have HO6 : Aside0 (Kd.R (Kd.int .i64) 2 w6 w.heap.size (fun _ => True) (.slice (some ⟨g, 0, none⟩) l0.length co) (out.set jx (i2 : Int))) := ⟨by rw [hw6]; exact HPG.out.1⟩
                          have HM6 : Aside0 (w6.ownsMap Try.prog 42 (plainElem Try.prog 3) w.heap.size i D) := ⟨by rw [hw6]; exact (HM.out.alloc _).setCell (fun e => hne.2 e.symm) _⟩
                          have HQ6 : Aside0 (Kd.R (Kd.int .i64) 3 w6 w.heap.size (fun _ => True) u10 q) := ⟨Kd.R_over' (v := .slice (some ⟨g, 0, none⟩) l0.length co) (Kd.R_alloc HQ.out _) (Kd.R_typed HOA.out) (by decide) hg6⟩
                          have HD6 : Aside0 (Kd.R k42 42 w6 w.heap.size (fun _ => True) (.slice (some ad) ds.length cd) ds) := ⟨Kd.R_over' (v := .slice (some ⟨g, 0, none⟩) l0.length co) (Kd.R_alloc HD.out _) (Kd.R_typed HOA.out) (by decide) hg6⟩
                          have HB6 : Aside0 (Below w.heap.size w w6) := ⟨by rw [hw6]; exact below_set (below_alloc HB.out _) HG.out⟩
                          clear HPG HM HB HO HQ HD HOA hy hz hw6 hne hg6 hx0 hx1
                          go_wp2_with ((with_reducible refine gate_builtin (b := .append) (xs := #[.tmp 88, .tmp 90]) rfl ?_); at_builtin; refine Kd.R_append (Kd.int .i64) (w0 := w) w.heap.size rfl (.tmp 88) (.tmp 90) 87 3 (.int .i64 0) 8 rfl Try.underlying87 infoI_ rfl (by decide) (by omega) u10 q (jx : Int) [.int .i64 (jx : Int)] (fun _ => True) (fun _ => False) rfl rfl ?aP (fun _ hk => hk.elim) ?aF ?aO ?aB ?aS ?aL ?_; (case aP => exact rfl); (case aB => exact HB6.out); (case aF => exact (fun _ _ => trivial)); (case aO => exact HQ6.out); (case aS => exact HB6.out.size); (case aL => have := HQL.out; omega))
                          intro v7 w7 ho hb7 hg7 hat7
                          have HO7 := Aside0.mk (Kd.R_over' HO6.out (Kd.R_typed HQ6.out) (by decide) hg7)
                          have HD7 := Aside0.mk (Kd.R_over' HD6.out (Kd.R_typed HQ6.out) (by decide) hg7)
                          have HM7 := Aside0.mk (HM6.out.kept hg7 (map_ne HQ6.out HM6.out))
                          have HQ7 := Aside0.mk ho
                          have HB7 := Aside0.mk hb7
                          clear ho hb7 hg7 hat7 HO6 HD6 HM6 HQ6 HB6
                          go_wp2_with fail
                          go_roundg gk3
                          case measure => omega
                          case rel => exact ⟨j + 1, out.set jx (i2 : Int), q ++ [(jx : Int)], by go_num, ⟨by have := HKJ.out; omega⟩, HN, HM7, HO7, HQ7, HD7, HB7⟩
                        · rw [if_neg cn] at hn3
                          have cn1 : decide (rd out (jx : Nat) < 0) = false := decide_eq_false cn
                          have HN := Aside0.mk hn3
                          clear hn3 cn HPG
                          generalize rd out (jx : Nat) = zz at *
                          go_wp2_with (at_lookup; refine wpList_lookup_own_ok_int _ rfl _ _ 86 rfl 42 3 .i64 lawC_ Try.underlying86 Try.underlying3 (zeroI_ _) w.heap.size i D rfl (HM.out.alloc _) _ _ rfl HKL.out ?_)
                          intro c hat hwc
                          have hcj : c = (jx : Int) := by
                            rw [HT.out] at hat
                            injection hat with hat
                            injection hat with _ hat
                            exact hat.symm
                          subst hcj
                          clear hat hwc hh
                          go_wp2_with fail
                          go_roundg gk3
                          case measure => omega
                          case rel => exact ⟨j + 1, out, q, by go_num, ⟨by have := HKJ.out; omega⟩, HN, ⟨HM.out.alloc _⟩, HOA, ⟨Kd.R_alloc HQ.out _⟩, ⟨Kd.R_alloc HD.out _⟩, ⟨below_alloc HB.out _⟩⟩
                · rw [if_neg ca] at hF
                  obtain rfl := Option.some.inj hF
                  have f1 : decide ((a : Int) < (q.length : Int)) = false := decide_eq_false (by omega)
                  have f2 : decide (a < q.length) = false := decide_eq_false ca
                  clear hF ca
                  go_wp2_with fail
                  go_roundg gk2
                  case measure => omega
                  case rel => exact ⟨i2 + 1, out, by go_num, ⟨by have := HK2.out; omega⟩, H2, HM, HO, HB⟩
    | succ gk2 =>
      have hi : i < l0.length := by have := HK.out; omega
      have p1 : 0 ≤ (i : Int) := by omega
      have q1 : (i : Int) < (l0.length : Int) := by omega
      obtain ⟨ad, e1, hx0, hx1⟩ := at_T42 HR0.out i p1 q1
      subst e1
      rw [Int.toNat_natCast] at hx0 hx1
      have d1 : decide ((i : Int) < (l0.length : Int)) = true := decide_eq_true q1
      have d2 : decide (i < l0.length) = true := decide_eq_true hi
      obtain ⟨wf0, wf1⟩ := wfC_at HW.out i hi
      obtain ⟨kl, hkl⟩ := keyC_ _ _ wf0 wf1
      have HP2 := Aside0.mk (HP.out.step hkl)
      replace hx0 := (HB.out.cell (World.block_lt_of_cell? w _ hx0)).trans hx0
      replace hx1 := (HB.out.cell (World.block_lt_of_cell? w _ hx1)).trans hx1
      have HKL := Aside0.mk hkl
      have hlm : i < maxLen := by simp only [maxLen]; omega
      clear HP hkl wf0 wf1 hzl
      generalize rd_T42 l0 (i : Int) = cc at *
      have wfi : (Lit.int .i64 (i : Int)).wf = true := wfI_ (by omega) (by omega)
      go_wp2_with (at_mapUpdate; refine wpList_mapUpdate_own _ rfl _ _ _ 86 rfl 42 3 lawC_ Try.underlying86 _ w.heap.size i _ rfl (HM.out.alloc _) hlm _ _ _ rfl rfl HKL.out _ [] (plainElem_int Try.underlying3 wfi) ?_)
      intro w2 hown hg
      have HO2 := Aside0.mk (R_update (Kd.R_alloc HO.out _) (HM.out.alloc _) hg)
      have hne := (R_notmap HO2.out hown).1 g (by simp [Value.ownBlock])
      have HB2 := Aside0.mk ((below_alloc HB.out (.cells #[.int .i64 cc.f0, .int .i64 cc.f1] 42 (0, 0))).grown hg (below_alloc HB.out _).size (by intro k hk; cases hk; exact Nat.le_refl _))
      obtain ⟨hy, hz⟩ := Kd.R_celln 0 HO2.out (i : Int) p1 q1
      have HPG := Aside0.mk (Kd.R_putg HO2.out (i : Int) (-1))
      have HM2 := Aside0.mk hown
      have HNE := Aside0.mk hne.2
      clear HO HM HB hg hown hne
      rw [Int.toNat_natCast] at hy hz HPG
      go_wp2_with ((with_reducible refine gate_store (t := 2) (p := 32) rfl ?_); refine store_event (t := 2) (p := 32) (v := .const (.int .i64 (-1))) (w1 := w2.setCell ⟨g, i, none⟩ (.int .i64 (-1))) rfl rfl rfl (by first | (go_simp; done) | (go_simp; rfl)) ?_)
      intro w3 hw3
      have HO3 : Aside0 (Kd.R (Kd.int .i64) 2 w3 w.heap.size (fun _ => True) (.slice (some ⟨g, 0, none⟩) l0.length co) (z.set i (-1))) := ⟨by rw [hw3]; exact HPG.out.1⟩
      have HM3 : Aside0 (w3.ownsMap Try.prog 42 (plainElem Try.prog 3) w.heap.size (i + 1) (D.put kl (.lit (.int .i64 (i : Nat))))) := ⟨by rw [hw3]; exact HM2.out.setCell (fun e => HNE.out e.symm) _⟩
      have HB3 : Aside0 (Below w.heap.size w w3) := ⟨by rw [hw3]; exact below_set HB2.out HG.out⟩
      clear HPG HM2 HB2 HO2 hy hz hw3 hx0 hx1
      go_wp2_with fail
      go_roundg gk2
      case measure => omega
      case rel => exact ⟨i + 1, z.set i (-1), _, by go_num, ⟨by have := HK.out; omega⟩, HP2, HM3, HO3, ⟨fun j hj => by
        rw [List.getElem?_set]
        by_cases e : i = j
        · rw [if_pos e, if_pos (by have := HZL.out; omega)]
        · rw [if_neg e]; exact HZ.out j (by omega)⟩, HB3⟩
end

/-! ### impl_PartsOf: function 29 -/
def impl_PartsOf.f (k : Nat) (l0 : List (S42)) : Option (List Int × Int) := (impl_IsShape.f k l0).bind fun t691 => (if t691 = true then ((impl_parts.f k l0).bind fun t692 => (some (t692, 0))) else (some (([] : List Int), 1)))
theorem impl_PartsOf.mono : ∀ a0 k, LeO (impl_PartsOf.f k a0) (impl_PartsOf.f (k + 1) a0) := by
 intro a0 k
 unfold impl_PartsOf.f
 repeat' first
   | (with_reducible exact impl_IsShape.mono _ _)
   | (with_reducible exact impl_parts.mono _ _)
   | (with_reducible exact LeO.refl _)
   | (with_reducible exact LeO.none _)
   | (with_reducible refine LeO.ite ?_ ?_)
   | (with_reducible refine LeO.bind ?_ (fun _ => ?_))
   | exact impl_IsShape.mono _ _
   | exact impl_parts.mono _ _
   | exact LeO.none _
   | refine LeO.ite ?_ ?_
   | refine LeO.bind ?_ (fun _ => ?_)
set_option maxHeartbeats 8000000 in
set_option maxRecDepth 100000 in
theorem impl_PartsOf.calls (k : Nat) (A0 : Option Addr) (c0 : Nat) (l0 : List (S42)) (r1 : List Int) (r2 : Int) (w : World) (hr0 : Kd.C k42 w A0 l0.length l0) (hc0 : l0.length ≤ c0) (h : impl_PartsOf.f k l0 = some (r1, r2)) :
  Calls Try.prog 29 #[.slice A0 l0.length c0] w fun e w' => ∃ v0_ : Value, e = .returned (.tuple #[v0_, .int .i64 r2]) ∧ Kd.R (Kd.int .i64) 2 w' w.heap.size (fun _ => True) v0_ r1 ∧ Below w.heap.size w w' := by
 have HR0 := Aside0.mk hr0
 have HC0 := Aside0.mk hc0
 clear hr0 hc0
 have HB := Aside0.mk (Below.refl w.heap.size w)
 have H : ((impl_IsShape.f k l0).bind fun t691 => (if t691 = true then ((impl_parts.f k l0).bind fun t692 => (some (t692, 0))) else (some (([] : List Int), 1)))) = some (r1, r2) := h
 clear h
 replace H := Option.bind_eq_some_iff.mp H
 obtain ⟨t691, A20, H⟩ := H
 replace H : (if t691 = true then ((impl_parts.f k l0).bind fun t692 => (some (t692, 0))) else (some (([] : List Int), 1))) = some (r1, r2) := H
 have A2 := Aside0.mk A20
 clear A20
 by_cases c3 : t691 = true
 ·subst c3
  have H1 : ((impl_parts.f k l0).bind fun t692 => (some (t692, 0))) = some (r1, r2) := by rw [if_pos rfl] at H; exact H
  clear H
  have H := H1
  clear H1
  replace H := Option.bind_eq_some_iff.mp H
  obtain ⟨t692, A40, H⟩ := H
  replace H : (some (t692, 0)) = some (r1, r2) := H
  have A4 := Aside0.mk A40
  clear A40
  simp only [Option.some.injEq, Prod.mk.injEq] at H
  obtain ⟨rfl, rfl⟩ := H
  go_enter Try.func29, Try.ntmps29
  go_wp2_with (first | ((with_reducible refine gate_callee (f := 66) rfl ?_); refine goesL_ (some 5) rfl rfl Try.func66 (by kernel_rfl) rfl #[.slice A0 l0.length c0] rfl (by (try simp only [List.map_toArray, List.map_cons, List.map_nil]); first | done | rfl | (simp only [List.length_drop, List.length_take]; rfl)) ?_; (with_reducible refine (impl_IsShape.calls k _ _ l0 true _ ?side1 ?side2 A2.out).mono ?_); (case side1 => repeat (first | exact HR0.out | (with_reducible refine Kd.C_alloc ?_ _) | (with_reducible refine Kd.C_drewN ?_ _) | (with_reducible refine Kd.C_drew ?_))); (case side2 => exact HC0.out); rintro e w5 ⟨rfl, hb⟩; refine ⟨_, rfl, ?_⟩; have n0_ := Aside0.mk (below_step (by repeat (first | (with_reducible first | exact HB.out | apply below_alloc | apply pw_below_drewN | apply below_drew1) | exact HB.out)) hb); clear HB; have HB := n0_; clear n0_; (try clear hb); (try clear hb2); (try clear hk); (try clear hi)) | ((with_reducible refine gate_callee (f := 67) rfl ?_); refine goesL_ (some 8) rfl rfl Try.func67 (by kernel_rfl) rfl #[.slice A0 l0.length c0, .func (.func 68) #[] #[]] rfl (by (try simp only [List.map_toArray, List.map_cons, List.map_nil]); first | done | rfl | (simp only [List.length_drop, List.length_take]; rfl)) ?_; (with_reducible refine (impl_parts.calls k _ _ l0  t692 _ ?side1 ?side2 A4.out).mono ?_); (case side1 => repeat (first | exact (Kd.C_below HR0.out HB.out) | (with_reducible refine Kd.C_alloc ?_ _) | (with_reducible refine Kd.C_drewN ?_ _) | (with_reducible refine Kd.C_drew ?_))); (case side2 => exact HC0.out); rintro e w6 ⟨v693, rfl, ho0, hb⟩; refine ⟨_, rfl, ?_⟩; have n0_ := Aside0.mk (Kd.R_lower ho0 (below_size (by repeat (first | (with_reducible first | exact HB.out | apply below_alloc | apply pw_below_drewN | apply below_drew1) | exact HB.out)))); have n1_ := Aside0.mk (below_step (by repeat (first | (with_reducible first | exact HB.out | apply below_alloc | apply pw_below_drewN | apply below_drew1) | exact HB.out)) hb); clear HB; have HO694 := n0_; have HB := n1_; clear n0_ n1_; (try clear hb); (try clear hb2); (try clear hk); (try clear hi); (try clear ho0)))
  go_ret2
  exact ⟨_, by first | rfl | (simp [errW_none, errW_some] <;> rfl) | (simp [*, errW_none, errW_some] <;> rfl), by (with_reducible repeat (first | apply Kd.R_alloc | apply Kd.R_drewN | apply Kd.R_drew)); exact HO694.out, by repeat (first | (with_reducible first | exact HB.out | apply below_alloc | apply pw_below_drewN | apply below_drew1) | exact HB.out)⟩
 ·replace c3 := Bool.eq_false_iff.mpr c3
  subst c3
  have H1 : (some (([] : List Int), 1)) = some (r1, r2) := by rw [if_neg (show ¬ (false = true) by decide)] at H; exact H
  clear H
  have H := H1
  clear H1
  simp only [Option.some.injEq, Prod.mk.injEq] at H
  obtain ⟨rfl, rfl⟩ := H
  go_enter Try.func29, Try.ntmps29
  go_wp2_with (first | ((with_reducible refine gate_callee (f := 66) rfl ?_); refine goesL_ (some 5) rfl rfl Try.func66 (by kernel_rfl) rfl #[.slice A0 l0.length c0] rfl (by (try simp only [List.map_toArray, List.map_cons, List.map_nil]); first | done | rfl | (simp only [List.length_drop, List.length_take]; rfl)) ?_; (with_reducible refine (impl_IsShape.calls k _ _ l0 false _ ?side1 ?side2 A2.out).mono ?_); (case side1 => repeat (first | exact HR0.out | (with_reducible refine Kd.C_alloc ?_ _) | (with_reducible refine Kd.C_drewN ?_ _) | (with_reducible refine Kd.C_drew ?_))); (case side2 => exact HC0.out); rintro e w7 ⟨rfl, hb⟩; refine ⟨_, rfl, ?_⟩; have n0_ := Aside0.mk (below_step (by repeat (first | (with_reducible first | exact HB.out | apply below_alloc | apply pw_below_drewN | apply below_drew1) | exact HB.out)) hb); clear HB; have HB := n0_; clear n0_; (try clear hb); (try clear hb2); (try clear hk); (try clear hi)))
  go_ret2
  exact ⟨_, by first | rfl | (simp [errW_none, errW_some] <;> rfl) | (simp [*, errW_none, errW_some] <;> rfl), by first | exact Kd.R_nil _ _ _ _ _ | exact Kd.N_nil _ _ _ _ _ | exact Kd.V_nil _ _ _ _ _ | exact Kd.Q_nil _ _ _ _ _ | exact Kd.S_nil _ _ _ _ _, by repeat (first | (with_reducible first | exact HB.out | apply below_alloc | apply pw_below_drewN | apply below_drew1) | exact HB.out)⟩

end Go.Proofs.Ytpilmhjbgbpbmaa.X
