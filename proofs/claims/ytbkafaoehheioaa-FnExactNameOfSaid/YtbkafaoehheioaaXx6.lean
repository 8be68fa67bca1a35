-- xprint.py
import Derived.Test.YtbkafaoehheioaaXx0
import Derived.Test.YtbkafaoehheioaaXx3
namespace Go.Proofs.Ytbkafaoehheioaa.X
open Go.RowKit Go.Proofs.YtbkafaoehheioaaW.PrintWords Go.Proofs.YtbkafaoehheioaaW.PrintLast Go.Proofs.YtbkafaoehheioaaW.PrintMore
attribute [local go_sem] max2_int min2_int max_two min_two max_three min_three max_four min_four   -- for this text's walks alone
set_option linter.unusedVariables false
set_option linter.unusedSimpArgs false

/-! ### spec_l02Cell: function 117 -/
def spec_l02Cell.f (a0_0 : Int) (a0_1 : Int) : Option (Bool) := (spec_l01In.f a0_0 (-100) 100).bind fun t121 => (if t121 = true then ((spec_l01In.f a0_1 (-100) 100).bind fun t122 => (some t122)) else (some false))
set_option maxHeartbeats 8000000 in
set_option maxRecDepth 100000 in
theorem spec_l02Cell.calls (a0_0 : Int) (a0_1 : Int) (r : Bool) (w : World) (h : spec_l02Cell.f a0_0 a0_1 = some r) :
  Calls Try.prog 117 #[.agg #[.int .i64 a0_0, .int .i64 a0_1]] w fun e w' => e = .returned (.bool r) ∧ Below w.heap.size w w' := by
 have hu55 := Try.underlying55
 have HB := Aside0.mk (Below.refl w.heap.size w)
 have H : ((spec_l01In.f a0_0 (-100) 100).bind fun t121 => (if t121 = true then ((spec_l01In.f a0_1 (-100) 100).bind fun t122 => (some t122)) else (some false))) = some r := h
 clear h
 replace H := Option.bind_eq_some_iff.mp H
 obtain ⟨t121, A20, H⟩ := H
 try dsimp only at H
 have A2 := Aside0.mk A20
 clear A20
 by_cases c3 : t121 = true
 ·subst c3
  have H1 : ((spec_l01In.f a0_1 (-100) 100).bind fun t122 => (some t122)) = some r := by rw [if_pos rfl] at H; exact H
  clear H
  have H := H1
  clear H1
  replace H := Option.bind_eq_some_iff.mp H
  obtain ⟨t122, A40, H⟩ := H
  try dsimp only at H
  have A4 := Aside0.mk A40
  clear A40
  obtain rfl := Option.some.inj H
  go_enter Try.func117, Try.ntmps117
  go_wp2_with (first | ((with_reducible refine gate_dst (N := 1) rfl ?_); refine box_event ?hg (N := 1) ?hd (cs := #[.int .i64 a0_0, .int .i64 a0_1]) (t := 55) ?hr ?_; (case hd => rfl); (case hg => rfl); (case hr => first | (go_simp; done) | (go_simp; rfl)); intro gb120 hg w5 hbox hb; have BK120 := Aside0.mk (hbox); have GW120 := Aside0.mk ((by rw [hg]; exact (below_size bB_) : w.heap.size ≤ gb120)); have GE120 := Aside0.mk ((by rw [hg]; exact (below_size bB_) : w.heap.size ≤ gb120)); replace HB := Aside0.mk (below_step bB_ hb); clear hb hbox hg; have hcz6_0 : w5.cell? ⟨gb120, 0, none⟩ = some (.int .i64 a0_0) := (blk_cell BK120.out 0).trans rfl; have hcz6_1 : w5.cell? ⟨gb120, 1, none⟩ = some (.int .i64 a0_1) := (blk_cell BK120.out 1).trans rfl; have hfz6_0 := blk_frozen BK120.out 0; have hfz6_1 := blk_frozen BK120.out 1) | ((with_reducible refine gate_callee (f := 108) rfl ?_); refine gL_ (some 5) Try.func108 #[.int .i64 a0_0, .int .i64 (-100), .int .i64 100] ?_; (with_reducible refine (spec_l01In.calls a0_0 (-100) 100 true _ A2.out).mono ?_); rintro e w' ⟨rfl, ⟨nd, rfl⟩⟩; refine ⟨_, rfl, ?_⟩) | (go_at_call 108; (with_reducible refine (spec_l01In.calls a0_1 (-100) 100 t122 _ A4.out).mono ?_); rintro e w' ⟨rfl, ⟨nd, rfl⟩⟩))
  go_ret
  exact ⟨r2_, by repeat (first | (with_reducible first | exact HB.out | apply below_alloc | apply pw_below_drewN | apply below_drew1 | refine below_set ?_ GE120.out) | exact HB.out)⟩
 ·replace c3 := Bool.eq_false_iff.mpr c3
  subst c3
  have H1 : (some false) = some r := by rw [if_neg (show ¬ (false = true) by decide)] at H; exact H
  clear H
  have H := H1
  clear H1
  obtain rfl := Option.some.inj H
  go_enter Try.func117, Try.ntmps117
  go_wp2_with (first | ((with_reducible refine gate_dst (N := 1) rfl ?_); refine box_event ?hg (N := 1) ?hd (cs := #[.int .i64 a0_0, .int .i64 a0_1]) (t := 55) ?hr ?_; (case hd => rfl); (case hg => rfl); (case hr => first | (go_simp; done) | (go_simp; rfl)); intro gb120 hg w7 hbox hb; have BK120 := Aside0.mk (hbox); have GW120 := Aside0.mk ((by rw [hg]; exact (below_size bB_) : w.heap.size ≤ gb120)); have GE120 := Aside0.mk ((by rw [hg]; exact (below_size bB_) : w.heap.size ≤ gb120)); replace HB := Aside0.mk (below_step bB_ hb); clear hb hbox hg; have hcz8_0 : w7.cell? ⟨gb120, 0, none⟩ = some (.int .i64 a0_0) := (blk_cell BK120.out 0).trans rfl; have hcz8_1 : w7.cell? ⟨gb120, 1, none⟩ = some (.int .i64 a0_1) := (blk_cell BK120.out 1).trans rfl; have hfz8_0 := blk_frozen BK120.out 0; have hfz8_1 := blk_frozen BK120.out 1) | ((with_reducible refine gate_callee (f := 108) rfl ?_); refine gL_ (some 5) Try.func108 #[.int .i64 a0_0, .int .i64 (-100), .int .i64 100] ?_; (with_reducible refine (spec_l01In.calls a0_0 (-100) 100 false _ A2.out).mono ?_); rintro e w' ⟨rfl, ⟨nd, rfl⟩⟩; refine ⟨_, rfl, ?_⟩))
  go_ret
  exact ⟨r2_, by repeat (first | (with_reducible first | exact HB.out | apply below_alloc | apply pw_below_drewN | apply below_drew1 | refine below_set ?_ GE120.out) | exact HB.out)⟩

/-! ### spec_IsShape: function 87 -/
def spec_IsShape.l0 : Nat → List (S55) → Int → Option (Bool)
 | 0, _, _ => none
 | k + 1, x0, x3 => if x3 < (x0.length : Int) then (if 0 ≤ x3 then ((spec_l02Cell.f ((rd_T55 x0 x3).f0) ((rd_T55 x0 x3).f1)).bind fun t125 => (if t125 = true then (if x3 > 0 then (if 0 ≤ (wrap64 (x3 - 1)) then (if (wrap64 (x3 - 1)) < (x0.length : Int) then ((spec_l02Less.f ((rd_T55 x0 (wrap64 (x3 - 1))).f0) ((rd_T55 x0 (wrap64 (x3 - 1))).f1) ((rd_T55 x0 x3).f0) ((rd_T55 x0 x3).f1)).bind fun t128 => (if t128 = true then (spec_IsShape.l0 k x0 (wrap64 (x3 + 1))) else (some false))) else (none)) else (none)) else (spec_IsShape.l0 k x0 (wrap64 (x3 + 1)))) else (some false))) else (none)) else ((spec_l01In.f (x0.length : Int) 1 40).bind fun t123 => (some t123))
def spec_IsShape.f (k : Nat) (l0 : List (S55)) : Option (Bool) := spec_IsShape.l0 k l0 0
theorem spec_IsShape.mono_l : ∀ k, (∀ y0 y1, LeO (spec_IsShape.l0 k y0 y1) (spec_IsShape.l0 (k + 1) y0 y1))
 | 0 => fun _ _ r h => by simp [spec_IsShape.l0] at h
 | k + 1 => by
  have ih0 := spec_IsShape.mono_l k
  ·intro y0 y1
   unfold spec_IsShape.l0
   repeat' first
   | (with_reducible exact ih0 _ _)
   | (with_reducible exact LeO.refl _)
   | (with_reducible exact LeO.none _)
   | (with_reducible refine LeO.ite ?_ ?_)
   | (with_reducible refine LeO.bind ?_ (fun _ => ?_))
   | exact ih0 _ _
   | exact LeO.none _
   | refine LeO.ite ?_ ?_
   | refine LeO.bind ?_ (fun _ => ?_)
theorem spec_IsShape.mono : ∀ a0 k, LeO (spec_IsShape.f k a0) (spec_IsShape.f (k + 1) a0) := by
 intro a0 k
 have ih0 := spec_IsShape.mono_l k
 unfold spec_IsShape.f
 repeat' first
   | (with_reducible exact ih0 _ _)
   | (with_reducible exact LeO.refl _)
   | (with_reducible exact LeO.none _)
   | (with_reducible refine LeO.ite ?_ ?_)
   | (with_reducible refine LeO.bind ?_ (fun _ => ?_))
   | exact ih0 _ _
   | exact LeO.none _
   | refine LeO.ite ?_ ?_
   | refine LeO.bind ?_ (fun _ => ?_)
def spec_IsShape.T4 : Bool × List (List Nat × List Nat) := (true, [([], []), ([], []), ([0, 1], [0, 1]), ([2], [2]), ([3], [3]), ([4], [4]), ([5, 4], [5]), ([6], [6]), ([7, 6], [6, 7]), ([8, 6, 6], [6, 8]), ([9], [9]), ([9], [9]), ([11, 9], [9, 11]), ([10, 12, 9], [9, 10, 12]), ([13, 9], [9, 13]), ([9], [9]), ([9], [9]), ([15, 16, 9], [9, 15, 16]), ([17, 9], [9, 17]), ([14, 18, 9, 9], [9, 14, 18]), ([19, 9], [9, 19]), ([9, 20, 6], [6, 9, 20]), ([6, 21], [6, 21])])
def spec_IsShape.B4 : List Nat := [0, 0, 3, 7, 15, 31, 63, 127, 255, 511, 1023, 1023, 3071, 8191, 16383, 1023, 1023, 99327, 230399, 524287, 1048575, 2097151, 4194303]
theorem spec_IsShape.tab4 : rtab .any (opsOf Try.f87 4) = spec_IsShape.T4 := by kernel_rfl
theorem spec_IsShape.bits4 : waitsOk spec_IsShape.T4.2 spec_IsShape.B4 = true := by kernel_rfl
set_option maxHeartbeats 8000000 in
set_option maxRecDepth 100000 in
theorem spec_IsShape.calls (k : Nat) (A0 : Option Addr) (c0 : Nat) (l0 : List (S55)) (r : Bool) (w : World) (hr0 : Kd.C k55 w A0 l0.length l0) (hc0 : l0.length ≤ c0) (h : spec_IsShape.f k l0 = some r) :
  Calls Try.prog 87 #[.slice A0 l0.length c0] w fun e w' => e = .returned (.bool r) ∧ Below w.heap.size w w' := by
 have hu55 := Try.underlying55
 have HR0 := Aside0.mk hr0
 have HC0 := Aside0.mk hc0
 clear hr0 hc0
 have HB := Aside0.mk (Below.refl w.heap.size w)
 have H : (spec_IsShape.l0 k l0 0) = some r := h
 clear h
 have H' := Aside0.mk H
 clear H
 go_enter Try.func87, Try.ntmps87
 go_wp2
 go_loopg [3] k (fun kq v3 w' => ∃ (x3_1 : Int), v3 = .int .i64 x3_1 ∧ Aside0 (spec_IsShape.l0 kq l0 x3_1 = some r) ∧ Aside0 (kq ≤ k) ∧ Aside0 (Below w.heap.size w w'))
 case atStart => exact ⟨(0), r3_, H', ⟨Nat.le_refl _⟩, ⟨bB_⟩⟩
 case round =>
  clear H'
  obtain ⟨x3_1, rfl, HA, HK1, HB⟩ := hrel
  cases gk with
  | zero => exact absurd HA.out (by simp [spec_IsShape.l0])
  | succ k1 =>
   have H := HA.out
   clear HA
   simp only [spec_IsShape.l0] at H
   by_cases c2 : x3_1 < (l0.length : Int)
   ·rw [if_pos c2] at H
    have c2b0 : decide (x3_1 < (l0.length : Int)) = true := decide_eq_true c2
    clear c2
    by_cases c3 : 0 ≤ x3_1
    ·rw [if_pos c3] at H
     have c3b0 : decide (0 ≤ x3_1) = true := decide_eq_true c3
     clear c3
     replace H := Option.bind_eq_some_iff.mp H
     obtain ⟨t125, A40, H⟩ := H
     try dsimp only at H
     have A4 := Aside0.mk A40
     clear A40
     by_cases c5 : t125 = true
     ·subst c5
      have H1 : (if x3_1 > 0 then (if 0 ≤ (wrap64 (x3_1 - 1)) then (if (wrap64 (x3_1 - 1)) < (l0.length : Int) then ((spec_l02Less.f ((rd_T55 l0 (wrap64 (x3_1 - 1))).f0) ((rd_T55 l0 (wrap64 (x3_1 - 1))).f1) ((rd_T55 l0 x3_1).f0) ((rd_T55 l0 x3_1).f1)).bind fun t128 => (if t128 = true then (spec_IsShape.l0 k1 l0 (wrap64 (x3_1 + 1))) else (some false))) else (none)) else (none)) else (spec_IsShape.l0 k1 l0 (wrap64 (x3_1 + 1)))) = some r := by rw [if_pos rfl] at H; exact H
      clear H
      have H := H1
      clear H1
      by_cases c6 : x3_1 > 0
      ·rw [if_pos c6] at H
       have c6b0 : decide (0 < x3_1) = true := decide_eq_true c6
       clear c6
       obtain ⟨ji7, hji7⟩ : ∃ j_ : Int, (wrap64 (x3_1 - 1)) = j_ := ⟨_, rfl⟩
       replace H : (if 0 ≤ (ji7) then (if (ji7) < (l0.length : Int) then ((spec_l02Less.f ((rd_T55 l0 (ji7)).f0) ((rd_T55 l0 (ji7)).f1) ((rd_T55 l0 x3_1).f0) ((rd_T55 l0 x3_1).f1)).bind fun t128 => (if t128 = true then (spec_IsShape.l0 k1 l0 (wrap64 (x3_1 + 1))) else (some false))) else (none)) else (none)) = some r := by first | (rw [hji7] at H; exact H) | (simp only [hji7] at H ⊢; exact H)
       (try rw [hji7] at A4)
       have hji7w : (IntKind.i64.wrap (x3_1 - 1)) = ji7 := (i64_w _).trans hji7
       by_cases c8 : 0 ≤ (ji7)
       ·rw [if_pos c8] at H
        have c8b0 : decide (0 ≤ (ji7)) = true := decide_eq_true c8
        clear c8
        by_cases c9 : (ji7) < (l0.length : Int)
        ·rw [if_pos c9] at H
         have c9b0 : decide ((ji7) < (l0.length : Int)) = true := decide_eq_true c9
         clear c9
         replace H := Option.bind_eq_some_iff.mp H
         obtain ⟨t128, A100, H⟩ := H
         try dsimp only at H
         have A10 := Aside0.mk A100
         clear A100
         by_cases c11 : t128 = true
         ·subst c11
          have H1 : (spec_IsShape.l0 k1 l0 (wrap64 (x3_1 + 1))) = some r := by rw [if_pos rfl] at H; exact H
          clear H
          have H := H1
          clear H1
          have H' := Aside0.mk H
          clear H
          try go_wp2
          replace HB := Aside0.mk (below_drew1 HB.out)
          have p124 : 0 ≤ (x3_1 : Int) := of_decide_eq_true aS_
          have q124 : x3_1 < (l0.length : Int) := of_decide_eq_true aS_
          obtain ⟨ad124, e124, hx124_0, hx124_1⟩ := at_T55 HR0.out x3_1 p124 q124
          have hw124_1 := hx124_1
          have hw124_0 := hx124_0
          cases e124
          replace hx124_0 := (HB.out.cell (World.block_lt_of_cell? w _ hx124_0)).trans hx124_0
          replace hx124_1 := (HB.out.cell (World.block_lt_of_cell? w _ hx124_1)).trans hx124_1
          replace p124 := eq_true p124
          replace q124 := eq_true q124
          have p126 : 0 ≤ ((ji7) : Int) := of_decide_eq_true aS_
          have q126 : (ji7) < (l0.length : Int) := of_decide_eq_true aS_
          obtain ⟨ad126, e126, hx126_0, hx126_1⟩ := at_T55 HR0.out (ji7) p126 q126
          have hw126_1 := hx126_1
          have hw126_0 := hx126_0
          obtain rfl : ad124 = ad126 := (by injection e126)
          replace hx126_0 := (HB.out.cell (World.block_lt_of_cell? w _ hx126_0)).trans hx126_0
          replace hx126_1 := (HB.out.cell (World.block_lt_of_cell? w _ hx126_1)).trans hx126_1
          replace p126 := eq_true p126
          replace q126 := eq_true q126
          have p127 : 0 ≤ (x3_1 : Int) := of_decide_eq_true aS_
          have q127 : x3_1 < (l0.length : Int) := of_decide_eq_true aS_
          obtain ⟨ad127, e127, hx127_0, hx127_1⟩ := at_T55 HR0.out x3_1 p127 q127
          have hw127_1 := hx127_1
          have hw127_0 := hx127_0
          obtain rfl : ad124 = ad127 := (by injection e127)
          replace hx127_0 := (HB.out.cell (World.block_lt_of_cell? w _ hx127_0)).trans hx127_0
          replace hx127_1 := (HB.out.cell (World.block_lt_of_cell? w _ hx127_1)).trans hx127_1
          replace p127 := eq_true p127
          replace q127 := eq_true q127
          refine start_ (n := 23) (S := fun w' => w'.cell? (ad124.add ((x3_1).toNat * 2)) = some (.int .i64 ((rd_T55 l0 x3_1).f0)) ∧ w'.cell? ⟨(ad124.add ((x3_1).toNat * 2)).block, (ad124.add ((x3_1).toNat * 2)).off + 1, none⟩ = some (.int .i64 ((rd_T55 l0 x3_1).f1)) ∧ w'.cell? (ad124.add (((ji7)).toNat * 2)) = some (.int .i64 ((rd_T55 l0 (ji7)).f0)) ∧ w'.cell? ⟨(ad124.add (((ji7)).toNat * 2)).block, (ad124.add (((ji7)).toNat * 2)).off + 1, none⟩ = some (.int .i64 ((rd_T55 l0 (ji7)).f1)) ∧ w'.cell? (ad124.add ((x3_1).toNat * 2)) = some (.int .i64 ((rd_T55 l0 x3_1).f0)) ∧ w'.cell? ⟨(ad124.add ((x3_1).toNat * 2)).block, (ad124.add ((x3_1).toNat * 2)).off + 1, none⟩ = some (.int .i64 ((rd_T55 l0 x3_1).f1))) (ds := []) #[F, F, F, F, F, F, F, F, F, F, F, F, F, F, F, F, F, F, F, F, F, F, F] (by kernel_rfl) rfl rfl ⟨((HB.out.cell (World.block_lt_of_cell? w _ hw124_0)).trans hw124_0), ((HB.out.cell (World.block_lt_of_cell? w _ hw124_1)).trans hw124_1), ((HB.out.cell (World.block_lt_of_cell? w _ hw126_0)).trans hw126_0), ((HB.out.cell (World.block_lt_of_cell? w _ hw126_1)).trans hw126_1), ((HB.out.cell (World.block_lt_of_cell? w _ hw127_0)).trans hw127_0), ((HB.out.cell (World.block_lt_of_cell? w _ hw127_1)).trans hw127_1)⟩ (fun hHeld => ?_); refine with_tabW spec_IsShape.tab4 spec_IsShape.bits4 (fun HT_ HW_ => ?_)
          generalize wr.drew = w12 at HB hx124_0 hx124_1 hx126_0 hx126_1 hx127_0 hx127_1 hHeld ⊢
          refine pu_ HT_ 0 (some 10) #[T,F,F,F,F,F,F,F,F,F,F,F,F,F,F,F,F,F,F,F,F,F,F] ?_
          refine pu_ HT_ 1 (some 11) #[T,T,F,F,F,F,F,F,F,F,F,F,F,F,F,F,F,F,F,F,F,F,F] ?_
          refine pu_ HT_ 2 (some 12) #[T,T,T,F,F,F,F,F,F,F,F,F,F,F,F,F,F,F,F,F,F,F,F] ?_
          refine take_ (i := 3) (N := some 13) (v := ?_) (a' := ?_) #[T, T, T, T, F, F, F, F, F, F, F, F, F, F, F, F, F, F, F, F, F, F, F] rfl rfl (take_ofW HT_.out HW_.out (by kernel_rfl)) (fun _ _ _ h => h) (Or.inl ⟨by rfl, ?_⟩) hHeld ?_ ?_
          rotate_left
          ·rintro w' ⟨s0, s1, s2, s3, s4, s5⟩
           go_simp
           with_reducible rfl
          rotate_left
          ·simp only [Act.put, List.setIfInBounds_toArray, List.set_cons_zero, List.set_cons_succ, i64_w, i32_w]
           rfl
          refine one_ (i := 4) (N := some 14) #[T, T, T, T, T, F, F, F, F, F, F, F, F, F, F, F, F, F, F, F, F, F, F] rfl rfl (one_of HT_.out (by kernel_rfl)) (by decide) (fun K hK => ?_)
          refine goes_ Try.func117 (by kernel_rfl) rfl #[.agg #[.int .i64 ((rd_T55 l0 x3_1).f0), .int .i64 ((rd_T55 l0 x3_1).f1)]] (by rfl) rfl rfl mA_ ?_
          with_reducible refine (spec_l02Cell.calls ((rd_T55 l0 x3_1).f0) ((rd_T55 l0 x3_1).f1) true _ A4.out).mono ?_
          rintro e w13 ⟨rfl, hb⟩
          refine ⟨_, rfl, ?_⟩
          replace HB := Aside0.mk (below_step bB_ hb)
          (try clear hb)
          refine hK.out _ _ ⟨((HB.out.cell (World.block_lt_of_cell? w _ hw124_0)).trans hw124_0), ((HB.out.cell (World.block_lt_of_cell? w _ hw124_1)).trans hw124_1), ((HB.out.cell (World.block_lt_of_cell? w _ hw126_0)).trans hw126_0), ((HB.out.cell (World.block_lt_of_cell? w _ hw126_1)).trans hw126_1), ((HB.out.cell (World.block_lt_of_cell? w _ hw127_0)).trans hw127_0), ((HB.out.cell (World.block_lt_of_cell? w _ hw127_1)).trans hw127_1)⟩ (fun hHeld => ?_)
          clear hK K
          refine no_ (some 14) ?_
          refine pu_ HT_ 5 (some 15) #[T,T,T,T,T,T,F,F,F,F,F,F,F,F,F,F,F,F,F,F,F,F,F] ?_
          refine pu_ HT_ 6 (some 16) #[T,T,T,T,T,T,T,F,F,F,F,F,F,F,F,F,F,F,F,F,F,F,F] ?_
          refine pu_ HT_ 7 (some 17) #[T,T,T,T,T,T,T,T,F,F,F,F,F,F,F,F,F,F,F,F,F,F,F] ?_
          refine pu_ HT_ 8 (some 18) #[T,T,T,T,T,T,T,T,T,F,F,F,F,F,F,F,F,F,F,F,F,F,F] ?_
          refine pu_ HT_ 9 (some 19) #[T,T,T,T,T,T,T,T,T,T,F,F,F,F,F,F,F,F,F,F,F,F,F] ?_
          refine pu_ HT_ 10 (some 20) #[T,T,T,T,T,T,T,T,T,T,T,F,F,F,F,F,F,F,F,F,F,F,F] ?_
          refine pu_ HT_ 11 (some 21) #[T,T,T,T,T,T,T,T,T,T,T,T,F,F,F,F,F,F,F,F,F,F,F] ?_
          refine pu_ HT_ 12 (some 22) #[T,T,T,T,T,T,T,T,T,T,T,T,T,F,F,F,F,F,F,F,F,F,F] ?_
          refine pu_ HT_ 13 (some 23) #[T,T,T,T,T,T,T,T,T,T,T,T,T,T,F,F,F,F,F,F,F,F,F] ?_
          refine pu_ HT_ 15 (some 25) #[T,T,T,T,T,T,T,T,T,T,T,T,T,T,F,T,F,F,F,F,F,F,F] ?_
          refine pu_ HT_ 16 (some 26) #[T,T,T,T,T,T,T,T,T,T,T,T,T,T,F,T,T,F,F,F,F,F,F] ?_
          refine pu_ HT_ 17 (some 27) #[T,T,T,T,T,T,T,T,T,T,T,T,T,T,F,T,T,T,F,F,F,F,F] ?_
          refine take_ (i := 14) (N := some 24) (v := ?_) (a' := ?_) #[T, T, T, T, T, T, T, T, T, T, T, T, T, T, T, T, T, T, F, F, F, F, F] rfl rfl (take_ofW HT_.out HW_.out (by kernel_rfl)) (fun _ _ _ h => h) (Or.inl ⟨by rfl, ?_⟩) hHeld ?_ ?_
          rotate_left
          ·rintro w' ⟨s0, s1, s2, s3, s4, s5⟩
           go_simp
           with_reducible rfl
          rotate_left
          ·simp only [Act.put, List.setIfInBounds_toArray, List.set_cons_zero, List.set_cons_succ, i64_w, i32_w]
           rfl
          refine take_ (i := 18) (N := some 28) (v := ?_) (a' := ?_) #[T, T, T, T, T, T, T, T, T, T, T, T, T, T, T, T, T, T, T, F, F, F, F] rfl rfl (take_ofW HT_.out HW_.out (by kernel_rfl)) (fun _ _ _ h => h) (Or.inl ⟨by rfl, ?_⟩) hHeld ?_ ?_
          rotate_left
          ·rintro w' ⟨s0, s1, s2, s3, s4, s5⟩
           go_simp
           with_reducible rfl
          rotate_left
          ·simp only [Act.put, List.setIfInBounds_toArray, List.set_cons_zero, List.set_cons_succ, i64_w, i32_w]
           rfl
          refine one_ (i := 19) (N := some 29) #[T, T, T, T, T, T, T, T, T, T, T, T, T, T, T, T, T, T, T, T, F, F, F] rfl rfl (one_of HT_.out (by kernel_rfl)) (by decide) (fun K hK => ?_)
          refine goes_ Try.func100 (by kernel_rfl) rfl #[.agg #[.int .i64 ((rd_T55 l0 (ji7)).f0), .int .i64 ((rd_T55 l0 (ji7)).f1)], .agg #[.int .i64 ((rd_T55 l0 x3_1).f0), .int .i64 ((rd_T55 l0 x3_1).f1)]] (by rfl) rfl rfl (by (try simp only [List.map_toArray, List.map_cons, List.map_nil]); first | done | (simp only [hji7]; rfl) | rfl | (simp only [List.length_drop, List.length_take]; rfl)) ?_
          with_reducible refine (spec_l02Less.calls ((rd_T55 l0 (ji7)).f0) ((rd_T55 l0 (ji7)).f1) ((rd_T55 l0 x3_1).f0) ((rd_T55 l0 x3_1).f1) true _ A10.out).mono ?_
          rintro e w14 ⟨rfl, hb⟩
          refine ⟨_, rfl, ?_⟩
          replace HB := Aside0.mk (below_step bB_ hb)
          (try clear hb)
          refine hK.out _ _ ⟨((HB.out.cell (World.block_lt_of_cell? w _ hw124_0)).trans hw124_0), ((HB.out.cell (World.block_lt_of_cell? w _ hw124_1)).trans hw124_1), ((HB.out.cell (World.block_lt_of_cell? w _ hw126_0)).trans hw126_0), ((HB.out.cell (World.block_lt_of_cell? w _ hw126_1)).trans hw126_1), ((HB.out.cell (World.block_lt_of_cell? w _ hw127_0)).trans hw127_0), ((HB.out.cell (World.block_lt_of_cell? w _ hw127_1)).trans hw127_1)⟩ (fun hHeld => ?_)
          clear hK K
          refine no_ (some 29) ?_
          refine pu_ HT_ 20 (some 30) #[T,T,T,T,T,T,T,T,T,T,T,T,T,T,T,T,T,T,T,T,T,F,F] ?_
          refine pu_ HT_ 21 (some 31) #[T,T,T,T,T,T,T,T,T,T,T,T,T,T,T,T,T,T,T,T,T,T,F] ?_
          refine pu_ HT_ 22 (some 32) #[T,T,T,T,T,T,T,T,T,T,T,T,T,T,T,T,T,T,T,T,T,T,T] ?_
          refine done_ (done_of HT_.out (by kernel_rfl)) ?_
          try go_wp2
          go_roundg k1
          case measure => have := HK1.out; omega
          case rel => exact ⟨(wrap64 (x3_1 + 1)), r3_, H', ⟨by have := HK1.out; omega⟩, ⟨bB_⟩⟩
         ·replace c11 := Bool.eq_false_iff.mpr c11
          subst c11
          have H1 : (some false) = some r := by rw [if_neg (show ¬ (false = true) by decide)] at H; exact H
          clear H
          have H := H1
          clear H1
          obtain rfl := Option.some.inj H
          try go_wp2
          replace HB := Aside0.mk (below_drew1 HB.out)
          have p124 : 0 ≤ (x3_1 : Int) := of_decide_eq_true aS_
          have q124 : x3_1 < (l0.length : Int) := of_decide_eq_true aS_
          obtain ⟨ad124, e124, hx124_0, hx124_1⟩ := at_T55 HR0.out x3_1 p124 q124
          have hw124_1 := hx124_1
          have hw124_0 := hx124_0
          cases e124
          replace hx124_0 := (HB.out.cell (World.block_lt_of_cell? w _ hx124_0)).trans hx124_0
          replace hx124_1 := (HB.out.cell (World.block_lt_of_cell? w _ hx124_1)).trans hx124_1
          replace p124 := eq_true p124
          replace q124 := eq_true q124
          have p126 : 0 ≤ ((ji7) : Int) := of_decide_eq_true aS_
          have q126 : (ji7) < (l0.length : Int) := of_decide_eq_true aS_
          obtain ⟨ad126, e126, hx126_0, hx126_1⟩ := at_T55 HR0.out (ji7) p126 q126
          have hw126_1 := hx126_1
          have hw126_0 := hx126_0
          obtain rfl : ad124 = ad126 := (by injection e126)
          replace hx126_0 := (HB.out.cell (World.block_lt_of_cell? w _ hx126_0)).trans hx126_0
          replace hx126_1 := (HB.out.cell (World.block_lt_of_cell? w _ hx126_1)).trans hx126_1
          replace p126 := eq_true p126
          replace q126 := eq_true q126
          have p127 : 0 ≤ (x3_1 : Int) := of_decide_eq_true aS_
          have q127 : x3_1 < (l0.length : Int) := of_decide_eq_true aS_
          obtain ⟨ad127, e127, hx127_0, hx127_1⟩ := at_T55 HR0.out x3_1 p127 q127
          have hw127_1 := hx127_1
          have hw127_0 := hx127_0
          obtain rfl : ad124 = ad127 := (by injection e127)
          replace hx127_0 := (HB.out.cell (World.block_lt_of_cell? w _ hx127_0)).trans hx127_0
          replace hx127_1 := (HB.out.cell (World.block_lt_of_cell? w _ hx127_1)).trans hx127_1
          replace p127 := eq_true p127
          replace q127 := eq_true q127
          refine start_ (n := 23) (S := fun w' => w'.cell? (ad124.add ((x3_1).toNat * 2)) = some (.int .i64 ((rd_T55 l0 x3_1).f0)) ∧ w'.cell? ⟨(ad124.add ((x3_1).toNat * 2)).block, (ad124.add ((x3_1).toNat * 2)).off + 1, none⟩ = some (.int .i64 ((rd_T55 l0 x3_1).f1)) ∧ w'.cell? (ad124.add (((ji7)).toNat * 2)) = some (.int .i64 ((rd_T55 l0 (ji7)).f0)) ∧ w'.cell? ⟨(ad124.add (((ji7)).toNat * 2)).block, (ad124.add (((ji7)).toNat * 2)).off + 1, none⟩ = some (.int .i64 ((rd_T55 l0 (ji7)).f1)) ∧ w'.cell? (ad124.add ((x3_1).toNat * 2)) = some (.int .i64 ((rd_T55 l0 x3_1).f0)) ∧ w'.cell? ⟨(ad124.add ((x3_1).toNat * 2)).block, (ad124.add ((x3_1).toNat * 2)).off + 1, none⟩ = some (.int .i64 ((rd_T55 l0 x3_1).f1))) (ds := []) #[F, F, F, F, F, F, F, F, F, F, F, F, F, F, F, F, F, F, F, F, F, F, F] (by kernel_rfl) rfl rfl ⟨((HB.out.cell (World.block_lt_of_cell? w _ hw124_0)).trans hw124_0), ((HB.out.cell (World.block_lt_of_cell? w _ hw124_1)).trans hw124_1), ((HB.out.cell (World.block_lt_of_cell? w _ hw126_0)).trans hw126_0), ((HB.out.cell (World.block_lt_of_cell? w _ hw126_1)).trans hw126_1), ((HB.out.cell (World.block_lt_of_cell? w _ hw127_0)).trans hw127_0), ((HB.out.cell (World.block_lt_of_cell? w _ hw127_1)).trans hw127_1)⟩ (fun hHeld => ?_); refine with_tabW spec_IsShape.tab4 spec_IsShape.bits4 (fun HT_ HW_ => ?_)
          generalize wr.drew = w15 at HB hx124_0 hx124_1 hx126_0 hx126_1 hx127_0 hx127_1 hHeld ⊢
          refine pu_ HT_ 0 (some 10) #[T,F,F,F,F,F,F,F,F,F,F,F,F,F,F,F,F,F,F,F,F,F,F] ?_
          refine pu_ HT_ 1 (some 11) #[T,T,F,F,F,F,F,F,F,F,F,F,F,F,F,F,F,F,F,F,F,F,F] ?_
          refine pu_ HT_ 2 (some 12) #[T,T,T,F,F,F,F,F,F,F,F,F,F,F,F,F,F,F,F,F,F,F,F] ?_
          refine take_ (i := 3) (N := some 13) (v := ?_) (a' := ?_) #[T, T, T, T, F, F, F, F, F, F, F, F, F, F, F, F, F, F, F, F, F, F, F] rfl rfl (take_ofW HT_.out HW_.out (by kernel_rfl)) (fun _ _ _ h => h) (Or.inl ⟨by rfl, ?_⟩) hHeld ?_ ?_
          rotate_left
          ·rintro w' ⟨s0, s1, s2, s3, s4, s5⟩
           go_simp
           with_reducible rfl
          rotate_left
          ·simp only [Act.put, List.setIfInBounds_toArray, List.set_cons_zero, List.set_cons_succ, i64_w, i32_w]
           rfl
          refine one_ (i := 4) (N := some 14) #[T, T, T, T, T, F, F, F, F, F, F, F, F, F, F, F, F, F, F, F, F, F, F] rfl rfl (one_of HT_.out (by kernel_rfl)) (by decide) (fun K hK => ?_)
          refine goes_ Try.func117 (by kernel_rfl) rfl #[.agg #[.int .i64 ((rd_T55 l0 x3_1).f0), .int .i64 ((rd_T55 l0 x3_1).f1)]] (by rfl) rfl rfl mA_ ?_
          with_reducible refine (spec_l02Cell.calls ((rd_T55 l0 x3_1).f0) ((rd_T55 l0 x3_1).f1) true _ A4.out).mono ?_
          rintro e w16 ⟨rfl, hb⟩
          refine ⟨_, rfl, ?_⟩
          replace HB := Aside0.mk (below_step bB_ hb)
          (try clear hb)
          refine hK.out _ _ ⟨((HB.out.cell (World.block_lt_of_cell? w _ hw124_0)).trans hw124_0), ((HB.out.cell (World.block_lt_of_cell? w _ hw124_1)).trans hw124_1), ((HB.out.cell (World.block_lt_of_cell? w _ hw126_0)).trans hw126_0), ((HB.out.cell (World.block_lt_of_cell? w _ hw126_1)).trans hw126_1), ((HB.out.cell (World.block_lt_of_cell? w _ hw127_0)).trans hw127_0), ((HB.out.cell (World.block_lt_of_cell? w _ hw127_1)).trans hw127_1)⟩ (fun hHeld => ?_)
          clear hK K
          refine no_ (some 14) ?_
          refine pu_ HT_ 5 (some 15) #[T,T,T,T,T,T,F,F,F,F,F,F,F,F,F,F,F,F,F,F,F,F,F] ?_
          refine pu_ HT_ 6 (some 16) #[T,T,T,T,T,T,T,F,F,F,F,F,F,F,F,F,F,F,F,F,F,F,F] ?_
          refine pu_ HT_ 7 (some 17) #[T,T,T,T,T,T,T,T,F,F,F,F,F,F,F,F,F,F,F,F,F,F,F] ?_
          refine pu_ HT_ 8 (some 18) #[T,T,T,T,T,T,T,T,T,F,F,F,F,F,F,F,F,F,F,F,F,F,F] ?_
          refine pu_ HT_ 9 (some 19) #[T,T,T,T,T,T,T,T,T,T,F,F,F,F,F,F,F,F,F,F,F,F,F] ?_
          refine pu_ HT_ 10 (some 20) #[T,T,T,T,T,T,T,T,T,T,T,F,F,F,F,F,F,F,F,F,F,F,F] ?_
          refine pu_ HT_ 11 (some 21) #[T,T,T,T,T,T,T,T,T,T,T,T,F,F,F,F,F,F,F,F,F,F,F] ?_
          refine pu_ HT_ 12 (some 22) #[T,T,T,T,T,T,T,T,T,T,T,T,T,F,F,F,F,F,F,F,F,F,F] ?_
          refine pu_ HT_ 13 (some 23) #[T,T,T,T,T,T,T,T,T,T,T,T,T,T,F,F,F,F,F,F,F,F,F] ?_
          refine pu_ HT_ 15 (some 25) #[T,T,T,T,T,T,T,T,T,T,T,T,T,T,F,T,F,F,F,F,F,F,F] ?_
          refine pu_ HT_ 16 (some 26) #[T,T,T,T,T,T,T,T,T,T,T,T,T,T,F,T,T,F,F,F,F,F,F] ?_
          refine pu_ HT_ 17 (some 27) #[T,T,T,T,T,T,T,T,T,T,T,T,T,T,F,T,T,T,F,F,F,F,F] ?_
          refine take_ (i := 14) (N := some 24) (v := ?_) (a' := ?_) #[T, T, T, T, T, T, T, T, T, T, T, T, T, T, T, T, T, T, F, F, F, F, F] rfl rfl (take_ofW HT_.out HW_.out (by kernel_rfl)) (fun _ _ _ h => h) (Or.inl ⟨by rfl, ?_⟩) hHeld ?_ ?_
          rotate_left
          ·rintro w' ⟨s0, s1, s2, s3, s4, s5⟩
           go_simp
           with_reducible rfl
          rotate_left
          ·simp only [Act.put, List.setIfInBounds_toArray, List.set_cons_zero, List.set_cons_succ, i64_w, i32_w]
           rfl
          refine take_ (i := 18) (N := some 28) (v := ?_) (a' := ?_) #[T, T, T, T, T, T, T, T, T, T, T, T, T, T, T, T, T, T, T, F, F, F, F] rfl rfl (take_ofW HT_.out HW_.out (by kernel_rfl)) (fun _ _ _ h => h) (Or.inl ⟨by rfl, ?_⟩) hHeld ?_ ?_
          rotate_left
          ·rintro w' ⟨s0, s1, s2, s3, s4, s5⟩
           go_simp
           with_reducible rfl
          rotate_left
          ·simp only [Act.put, List.setIfInBounds_toArray, List.set_cons_zero, List.set_cons_succ, i64_w, i32_w]
           rfl
          refine one_ (i := 19) (N := some 29) #[T, T, T, T, T, T, T, T, T, T, T, T, T, T, T, T, T, T, T, T, F, F, F] rfl rfl (one_of HT_.out (by kernel_rfl)) (by decide) (fun K hK => ?_)
          refine goes_ Try.func100 (by kernel_rfl) rfl #[.agg #[.int .i64 ((rd_T55 l0 (ji7)).f0), .int .i64 ((rd_T55 l0 (ji7)).f1)], .agg #[.int .i64 ((rd_T55 l0 x3_1).f0), .int .i64 ((rd_T55 l0 x3_1).f1)]] (by rfl) rfl rfl (by (try simp only [List.map_toArray, List.map_cons, List.map_nil]); first | done | (simp only [hji7]; rfl) | rfl | (simp only [List.length_drop, List.length_take]; rfl)) ?_
          with_reducible refine (spec_l02Less.calls ((rd_T55 l0 (ji7)).f0) ((rd_T55 l0 (ji7)).f1) ((rd_T55 l0 x3_1).f0) ((rd_T55 l0 x3_1).f1) false _ A10.out).mono ?_
          rintro e w17 ⟨rfl, hb⟩
          refine ⟨_, rfl, ?_⟩
          replace HB := Aside0.mk (below_step bB_ hb)
          (try clear hb)
          refine hK.out _ _ ⟨((HB.out.cell (World.block_lt_of_cell? w _ hw124_0)).trans hw124_0), ((HB.out.cell (World.block_lt_of_cell? w _ hw124_1)).trans hw124_1), ((HB.out.cell (World.block_lt_of_cell? w _ hw126_0)).trans hw126_0), ((HB.out.cell (World.block_lt_of_cell? w _ hw126_1)).trans hw126_1), ((HB.out.cell (World.block_lt_of_cell? w _ hw127_0)).trans hw127_0), ((HB.out.cell (World.block_lt_of_cell? w _ hw127_1)).trans hw127_1)⟩ (fun hHeld => ?_)
          clear hK K
          refine no_ (some 29) ?_
          refine pu_ HT_ 20 (some 30) #[T,T,T,T,T,T,T,T,T,T,T,T,T,T,T,T,T,T,T,T,T,F,F] ?_
          refine pu_ HT_ 21 (some 31) #[T,T,T,T,T,T,T,T,T,T,T,T,T,T,T,T,T,T,T,T,T,T,F] ?_
          refine pu_ HT_ 22 (some 32) #[T,T,T,T,T,T,T,T,T,T,T,T,T,T,T,T,T,T,T,T,T,T,T] ?_
          refine done_ (done_of HT_.out (by kernel_rfl)) ?_
          try go_wp2
          go_ret
          exact ⟨by first | rfl | (simp [errW_none, errW_some] <;> rfl) | (simp only [← hji7]; first | rfl | (simp [errW_none, errW_some] <;> rfl)) | (simp [*, errW_none, errW_some] <;> rfl), bB_⟩
        ·rw [if_neg c9] at H
         exact absurd H (by simp)
       ·rw [if_neg c8] at H
        exact absurd H (by simp)
      ·rw [if_neg c6] at H
       have c6b0 : decide (0 < x3_1) = false := decide_eq_false c6
       clear c6
       have H' := Aside0.mk H
       clear H
       try go_wp2
       replace HB := Aside0.mk (below_drew1 HB.out)
       have p124 : 0 ≤ (x3_1 : Int) := of_decide_eq_true aS_
       have q124 : x3_1 < (l0.length : Int) := of_decide_eq_true aS_
       obtain ⟨ad124, e124, hx124_0, hx124_1⟩ := at_T55 HR0.out x3_1 p124 q124
       have hw124_1 := hx124_1
       have hw124_0 := hx124_0
       cases e124
       replace hx124_0 := (HB.out.cell (World.block_lt_of_cell? w _ hx124_0)).trans hx124_0
       replace hx124_1 := (HB.out.cell (World.block_lt_of_cell? w _ hx124_1)).trans hx124_1
       replace p124 := eq_true p124
       replace q124 := eq_true q124
       refine start_ (n := 23) (S := fun w' => w'.cell? (ad124.add ((x3_1).toNat * 2)) = some (.int .i64 ((rd_T55 l0 x3_1).f0)) ∧ w'.cell? ⟨(ad124.add ((x3_1).toNat * 2)).block, (ad124.add ((x3_1).toNat * 2)).off + 1, none⟩ = some (.int .i64 ((rd_T55 l0 x3_1).f1))) (ds := []) #[F, F, F, F, F, F, F, F, F, F, F, F, F, F, F, F, F, F, F, F, F, F, F] (by kernel_rfl) rfl rfl ⟨((HB.out.cell (World.block_lt_of_cell? w _ hw124_0)).trans hw124_0), ((HB.out.cell (World.block_lt_of_cell? w _ hw124_1)).trans hw124_1)⟩ (fun hHeld => ?_); refine with_tabW spec_IsShape.tab4 spec_IsShape.bits4 (fun HT_ HW_ => ?_)
       generalize wr.drew = w18 at HB hx124_0 hx124_1 hHeld ⊢
       refine pu_ HT_ 0 (some 10) #[T,F,F,F,F,F,F,F,F,F,F,F,F,F,F,F,F,F,F,F,F,F,F] ?_
       refine pu_ HT_ 1 (some 11) #[T,T,F,F,F,F,F,F,F,F,F,F,F,F,F,F,F,F,F,F,F,F,F] ?_
       refine pu_ HT_ 2 (some 12) #[T,T,T,F,F,F,F,F,F,F,F,F,F,F,F,F,F,F,F,F,F,F,F] ?_
       refine take_ (i := 3) (N := some 13) (v := ?_) (a' := ?_) #[T, T, T, T, F, F, F, F, F, F, F, F, F, F, F, F, F, F, F, F, F, F, F] rfl rfl (take_ofW HT_.out HW_.out (by kernel_rfl)) (fun _ _ _ h => h) (Or.inl ⟨by rfl, ?_⟩) hHeld ?_ ?_
       rotate_left
       ·rintro w' ⟨s0, s1⟩
        go_simp
        with_reducible rfl
       rotate_left
       ·simp only [Act.put, List.setIfInBounds_toArray, List.set_cons_zero, List.set_cons_succ, i64_w, i32_w]
        rfl
       refine one_ (i := 4) (N := some 14) #[T, T, T, T, T, F, F, F, F, F, F, F, F, F, F, F, F, F, F, F, F, F, F] rfl rfl (one_of HT_.out (by kernel_rfl)) (by decide) (fun K hK => ?_)
       refine goes_ Try.func117 (by kernel_rfl) rfl #[.agg #[.int .i64 ((rd_T55 l0 x3_1).f0), .int .i64 ((rd_T55 l0 x3_1).f1)]] (by rfl) rfl rfl mA_ ?_
       with_reducible refine (spec_l02Cell.calls ((rd_T55 l0 x3_1).f0) ((rd_T55 l0 x3_1).f1) true _ A4.out).mono ?_
       rintro e w19 ⟨rfl, hb⟩
       refine ⟨_, rfl, ?_⟩
       replace HB := Aside0.mk (below_step bB_ hb)
       (try clear hb)
       refine hK.out _ _ ⟨((HB.out.cell (World.block_lt_of_cell? w _ hw124_0)).trans hw124_0), ((HB.out.cell (World.block_lt_of_cell? w _ hw124_1)).trans hw124_1)⟩ (fun hHeld => ?_)
       clear hK K
       refine no_ (some 14) ?_
       refine pu_ HT_ 5 (some 15) #[T,T,T,T,T,T,F,F,F,F,F,F,F,F,F,F,F,F,F,F,F,F,F] ?_
       refine pu_ HT_ 6 (some 16) #[T,T,T,T,T,T,T,F,F,F,F,F,F,F,F,F,F,F,F,F,F,F,F] ?_
       refine pu_ HT_ 7 (some 17) #[T,T,T,T,T,T,T,T,F,F,F,F,F,F,F,F,F,F,F,F,F,F,F] ?_
       refine pu_ HT_ 8 (some 18) #[T,T,T,T,T,T,T,T,T,F,F,F,F,F,F,F,F,F,F,F,F,F,F] ?_
       refine pu_ HT_ 9 (some 19) #[T,T,T,T,T,T,T,T,T,T,F,F,F,F,F,F,F,F,F,F,F,F,F] ?_
       refine pn_ HT_ 10 (some 20) #[T,T,T,T,T,T,T,T,T,T,T,F,F,F,F,F,F,F,F,F,F,F,F] ?_
       refine pn_ HT_ 11 (some 21) #[T,T,T,T,T,T,T,T,T,T,T,T,F,F,F,F,F,F,F,F,F,F,F] ?_
       refine pn_ HT_ 12 (some 22) #[T,T,T,T,T,T,T,T,T,T,T,T,T,F,F,F,F,F,F,F,F,F,F] ?_
       refine pn_ HT_ 13 (some 23) #[T,T,T,T,T,T,T,T,T,T,T,T,T,T,F,F,F,F,F,F,F,F,F] ?_
       refine pn_ HT_ 14 (some 24) #[T,T,T,T,T,T,T,T,T,T,T,T,T,T,T,F,F,F,F,F,F,F,F] ?_
       refine pn_ HT_ 15 (some 25) #[T,T,T,T,T,T,T,T,T,T,T,T,T,T,T,T,F,F,F,F,F,F,F] ?_
       refine pn_ HT_ 16 (some 26) #[T,T,T,T,T,T,T,T,T,T,T,T,T,T,T,T,T,F,F,F,F,F,F] ?_
       refine pn_ HT_ 17 (some 27) #[T,T,T,T,T,T,T,T,T,T,T,T,T,T,T,T,T,T,F,F,F,F,F] ?_
       refine pn_ HT_ 18 (some 28) #[T,T,T,T,T,T,T,T,T,T,T,T,T,T,T,T,T,T,T,F,F,F,F] ?_
       refine pn_ HT_ 19 (some 29) #[T,T,T,T,T,T,T,T,T,T,T,T,T,T,T,T,T,T,T,T,F,F,F] ?_
       refine pn_ HT_ 20 (some 30) #[T,T,T,T,T,T,T,T,T,T,T,T,T,T,T,T,T,T,T,T,T,F,F] ?_
       refine pu_ HT_ 21 (some 31) #[T,T,T,T,T,T,T,T,T,T,T,T,T,T,T,T,T,T,T,T,T,T,F] ?_
       refine pu_ HT_ 22 (some 32) #[T,T,T,T,T,T,T,T,T,T,T,T,T,T,T,T,T,T,T,T,T,T,T] ?_
       refine done_ (done_of HT_.out (by kernel_rfl)) ?_
       try go_wp2
       go_roundg k1
       case measure => have := HK1.out; omega
       case rel => exact ⟨(wrap64 (x3_1 + 1)), r3_, H', ⟨by have := HK1.out; omega⟩, ⟨bB_⟩⟩
     ·replace c5 := Bool.eq_false_iff.mpr c5
      subst c5
      have H1 : (some false) = some r := by rw [if_neg (show ¬ (false = true) by decide)] at H; exact H
      clear H
      have H := H1
      clear H1
      obtain rfl := Option.some.inj H
      try go_wp2
      replace HB := Aside0.mk (below_drew1 HB.out)
      have p124 : 0 ≤ (x3_1 : Int) := of_decide_eq_true aS_
      have q124 : x3_1 < (l0.length : Int) := of_decide_eq_true aS_
      obtain ⟨ad124, e124, hx124_0, hx124_1⟩ := at_T55 HR0.out x3_1 p124 q124
      have hw124_1 := hx124_1
      have hw124_0 := hx124_0
      cases e124
      replace hx124_0 := (HB.out.cell (World.block_lt_of_cell? w _ hx124_0)).trans hx124_0
      replace hx124_1 := (HB.out.cell (World.block_lt_of_cell? w _ hx124_1)).trans hx124_1
      replace p124 := eq_true p124
      replace q124 := eq_true q124
      refine start_ (n := 23) (S := fun w' => w'.cell? (ad124.add ((x3_1).toNat * 2)) = some (.int .i64 ((rd_T55 l0 x3_1).f0)) ∧ w'.cell? ⟨(ad124.add ((x3_1).toNat * 2)).block, (ad124.add ((x3_1).toNat * 2)).off + 1, none⟩ = some (.int .i64 ((rd_T55 l0 x3_1).f1))) (ds := []) #[F, F, F, F, F, F, F, F, F, F, F, F, F, F, F, F, F, F, F, F, F, F, F] (by kernel_rfl) rfl rfl ⟨((HB.out.cell (World.block_lt_of_cell? w _ hw124_0)).trans hw124_0), ((HB.out.cell (World.block_lt_of_cell? w _ hw124_1)).trans hw124_1)⟩ (fun hHeld => ?_); refine with_tabW spec_IsShape.tab4 spec_IsShape.bits4 (fun HT_ HW_ => ?_)
      generalize wr.drew = w20 at HB hx124_0 hx124_1 hHeld ⊢
      refine pu_ HT_ 0 (some 10) #[T,F,F,F,F,F,F,F,F,F,F,F,F,F,F,F,F,F,F,F,F,F,F] ?_
      refine pu_ HT_ 1 (some 11) #[T,T,F,F,F,F,F,F,F,F,F,F,F,F,F,F,F,F,F,F,F,F,F] ?_
      refine pu_ HT_ 2 (some 12) #[T,T,T,F,F,F,F,F,F,F,F,F,F,F,F,F,F,F,F,F,F,F,F] ?_
      refine take_ (i := 3) (N := some 13) (v := ?_) (a' := ?_) #[T, T, T, T, F, F, F, F, F, F, F, F, F, F, F, F, F, F, F, F, F, F, F] rfl rfl (take_ofW HT_.out HW_.out (by kernel_rfl)) (fun _ _ _ h => h) (Or.inl ⟨by rfl, ?_⟩) hHeld ?_ ?_
      rotate_left
      ·rintro w' ⟨s0, s1⟩
       go_simp
       with_reducible rfl
      rotate_left
      ·simp only [Act.put, List.setIfInBounds_toArray, List.set_cons_zero, List.set_cons_succ, i64_w, i32_w]
       rfl
      refine one_ (i := 4) (N := some 14) #[T, T, T, T, T, F, F, F, F, F, F, F, F, F, F, F, F, F, F, F, F, F, F] rfl rfl (one_of HT_.out (by kernel_rfl)) (by decide) (fun K hK => ?_)
      refine goes_ Try.func117 (by kernel_rfl) rfl #[.agg #[.int .i64 ((rd_T55 l0 x3_1).f0), .int .i64 ((rd_T55 l0 x3_1).f1)]] (by rfl) rfl rfl mA_ ?_
      with_reducible refine (spec_l02Cell.calls ((rd_T55 l0 x3_1).f0) ((rd_T55 l0 x3_1).f1) false _ A4.out).mono ?_
      rintro e w21 ⟨rfl, hb⟩
      refine ⟨_, rfl, ?_⟩
      replace HB := Aside0.mk (below_step bB_ hb)
      (try clear hb)
      refine hK.out _ _ ⟨((HB.out.cell (World.block_lt_of_cell? w _ hw124_0)).trans hw124_0), ((HB.out.cell (World.block_lt_of_cell? w _ hw124_1)).trans hw124_1)⟩ (fun hHeld => ?_)
      clear hK K
      refine no_ (some 14) ?_
      refine pu_ HT_ 5 (some 15) #[T,T,T,T,T,T,F,F,F,F,F,F,F,F,F,F,F,F,F,F,F,F,F] ?_
      refine pu_ HT_ 6 (some 16) #[T,T,T,T,T,T,T,F,F,F,F,F,F,F,F,F,F,F,F,F,F,F,F] ?_
      refine pn_ HT_ 7 (some 17) #[T,T,T,T,T,T,T,T,F,F,F,F,F,F,F,F,F,F,F,F,F,F,F] ?_
      refine pn_ HT_ 8 (some 18) #[T,T,T,T,T,T,T,T,T,F,F,F,F,F,F,F,F,F,F,F,F,F,F] ?_
      refine pn_ HT_ 9 (some 19) #[T,T,T,T,T,T,T,T,T,T,F,F,F,F,F,F,F,F,F,F,F,F,F] ?_
      refine pn_ HT_ 10 (some 20) #[T,T,T,T,T,T,T,T,T,T,T,F,F,F,F,F,F,F,F,F,F,F,F] ?_
      refine pn_ HT_ 11 (some 21) #[T,T,T,T,T,T,T,T,T,T,T,T,F,F,F,F,F,F,F,F,F,F,F] ?_
      refine pn_ HT_ 12 (some 22) #[T,T,T,T,T,T,T,T,T,T,T,T,T,F,F,F,F,F,F,F,F,F,F] ?_
      refine pn_ HT_ 13 (some 23) #[T,T,T,T,T,T,T,T,T,T,T,T,T,T,F,F,F,F,F,F,F,F,F] ?_
      refine pn_ HT_ 14 (some 24) #[T,T,T,T,T,T,T,T,T,T,T,T,T,T,T,F,F,F,F,F,F,F,F] ?_
      refine pn_ HT_ 15 (some 25) #[T,T,T,T,T,T,T,T,T,T,T,T,T,T,T,T,F,F,F,F,F,F,F] ?_
      refine pn_ HT_ 16 (some 26) #[T,T,T,T,T,T,T,T,T,T,T,T,T,T,T,T,T,F,F,F,F,F,F] ?_
      refine pn_ HT_ 17 (some 27) #[T,T,T,T,T,T,T,T,T,T,T,T,T,T,T,T,T,T,F,F,F,F,F] ?_
      refine pn_ HT_ 18 (some 28) #[T,T,T,T,T,T,T,T,T,T,T,T,T,T,T,T,T,T,T,F,F,F,F] ?_
      refine pn_ HT_ 19 (some 29) #[T,T,T,T,T,T,T,T,T,T,T,T,T,T,T,T,T,T,T,T,F,F,F] ?_
      refine pn_ HT_ 20 (some 30) #[T,T,T,T,T,T,T,T,T,T,T,T,T,T,T,T,T,T,T,T,T,F,F] ?_
      refine pn_ HT_ 21 (some 31) #[T,T,T,T,T,T,T,T,T,T,T,T,T,T,T,T,T,T,T,T,T,T,F] ?_
      refine pu_ HT_ 22 (some 32) #[T,T,T,T,T,T,T,T,T,T,T,T,T,T,T,T,T,T,T,T,T,T,T] ?_
      refine done_ (done_of HT_.out (by kernel_rfl)) ?_
      try go_wp2
      go_ret
      exact ⟨r2_, bB_⟩
    ·rw [if_neg c3] at H
     exact absurd H (by simp)
   ·rw [if_neg c2] at H
    have c2b0 : decide (x3_1 < (l0.length : Int)) = false := decide_eq_false c2
    clear c2
    replace H := Option.bind_eq_some_iff.mp H
    obtain ⟨t123, A220, H⟩ := H
    try dsimp only at H
    have A22 := Aside0.mk A220
    clear A220
    obtain rfl := Option.some.inj H
    go_wp2_with (first | ((with_reducible refine gate_callee (f := 108) rfl ?_); refine gL_ (some 35) Try.func108 #[.int .i64 (l0.length : Int), .int .i64 1, .int .i64 40] ?_; (with_reducible refine (spec_l01In.calls (l0.length : Int) 1 40 t123 _ A22.out).mono ?_); rintro e w' ⟨rfl, ⟨nd, rfl⟩⟩; refine ⟨_, rfl, ?_⟩))
    go_ret
    exact ⟨r2_, bB_⟩

/-! ### spec_l03Code: function 52 -/
def spec_l03Code.f (k : Nat) (l0 : List (S55)) : Option (Int) := (spec_IsShape.f k l0).bind fun t129 => (if t129 = true then ((spec_l02Normal.f k l0).bind fun t130 => ((spec_IsShape.f k t130).bind fun t133 => (if t133 = true then (some 0) else (some 3)))) else (some 1))
theorem spec_l03Code.mono : ∀ a0 k, LeO (spec_l03Code.f k a0) (spec_l03Code.f (k + 1) a0) := by
 intro a0 k
 unfold spec_l03Code.f
 repeat' first
   | (with_reducible exact spec_IsShape.mono _ _)
   | (with_reducible exact spec_l02Normal.mono _ _)
   | (with_reducible exact LeO.refl _)
   | (with_reducible exact LeO.none _)
   | (with_reducible refine LeO.ite ?_ ?_)
   | (with_reducible refine LeO.bind ?_ (fun _ => ?_))
   | exact spec_IsShape.mono _ _
   | exact spec_l02Normal.mono _ _
   | exact LeO.none _
   | refine LeO.ite ?_ ?_
   | refine LeO.bind ?_ (fun _ => ?_)
set_option maxHeartbeats 8000000 in
set_option maxRecDepth 100000 in
theorem spec_l03Code.calls (k : Nat) (A0 : Option Addr) (c0 : Nat) (l0 : List (S55)) (r : Int) (w : World) (hr0 : Kd.C k55 w A0 l0.length l0) (hc0 : l0.length ≤ c0) (h : spec_l03Code.f k l0 = some r) :
  Calls Try.prog 52 #[.slice A0 l0.length c0] w fun e w' => e = .returned (.int .i64 r) ∧ Below w.heap.size w w' := by
 have HR0 := Aside0.mk hr0
 have HC0 := Aside0.mk hc0
 clear hr0 hc0
 have HB := Aside0.mk (Below.refl w.heap.size w)
 have H : ((spec_IsShape.f k l0).bind fun t129 => (if t129 = true then ((spec_l02Normal.f k l0).bind fun t130 => ((spec_IsShape.f k t130).bind fun t133 => (if t133 = true then (some 0) else (some 3)))) else (some 1))) = some r := h
 clear h
 replace H := Option.bind_eq_some_iff.mp H
 obtain ⟨t129, A20, H⟩ := H
 try dsimp only at H
 have A2 := Aside0.mk A20
 clear A20
 by_cases c3 : t129 = true
 ·subst c3
  have H1 : ((spec_l02Normal.f k l0).bind fun t130 => ((spec_IsShape.f k t130).bind fun t133 => (if t133 = true then (some 0) else (some 3)))) = some r := by rw [if_pos rfl] at H; exact H
  clear H
  have H := H1
  clear H1
  replace H := Option.bind_eq_some_iff.mp H
  obtain ⟨t130, A40, H⟩ := H
  try dsimp only at H
  have A4 := Aside0.mk A40
  clear A40
  replace H := Option.bind_eq_some_iff.mp H
  obtain ⟨t133, A50, H⟩ := H
  try dsimp only at H
  have A5 := Aside0.mk A50
  clear A50
  by_cases c6 : t133 = true
  ·subst c6
   have H1 : (some 0) = some r := by rw [if_pos rfl] at H; exact H
   clear H
   have H := H1
   clear H1
   obtain rfl := Option.some.inj H
   go_enter Try.func52, Try.ntmps52
   go_wp2_with (first | ((with_reducible refine gate_callee (f := 87) rfl ?_); refine gL_ (some 4) Try.func87 #[.slice A0 l0.length c0] ?_; (with_reducible refine (spec_IsShape.calls k _ _ l0 true _ ?side1 ?side2 A2.out).mono ?_); (case side1 => exact cS_ HR0.out); (case side2 => exact HC0.out); rintro e w7 ⟨rfl, hb⟩; refine ⟨_, rfl, ?_⟩; replace HB := Aside0.mk (below_step bB_ hb); (try clear hb)) | ((with_reducible refine gate_callee (f := 73) rfl ?_); refine gL_ (some 7) Try.func73 #[.slice A0 l0.length c0] ?_; (with_reducible refine (spec_l02Normal.calls k _ _ l0 t130 _ ?side1 ?side2 A4.out).mono ?_); (case side1 => exact cS_ (Kd.C_below HR0.out HB.out)); (case side2 => exact HC0.out); rintro e w8 ⟨v131, rfl, ho0, hb⟩; refine ⟨_, rfl, ?_⟩; have HO132 := Aside0.mk (Kd.R_lower ho0 (below_size bB_)); replace HB := Aside0.mk (below_step bB_ hb); (try clear hb ho0); obtain ⟨Ao9, co9, eo9⟩ := Kd.R_slice HO132.out; subst eo9) | ((with_reducible refine gate_callee (f := 87) rfl ?_); refine gL_ (some 8) Try.func87 #[.slice Ao9 t130.length co9] ?_; (with_reducible refine (spec_IsShape.calls k _ _ t130 true _ ?side1 ?side2 A5.out).mono ?_); (case side1 => exact cS_ ((Kd.R_reads' HO132.out).2.2)); (case side2 => exact (Kd.R_reads' HO132.out).2.1); rintro e w10 ⟨rfl, hb⟩; refine ⟨_, rfl, ?_⟩; replace HO132 := Aside0.mk (Kd.R_below (rS_ HO132.out) hb); replace HB := Aside0.mk (below_step bB_ hb); (try clear hb)))
   go_ret
   exact ⟨r2_, bB_⟩
  ·replace c6 := Bool.eq_false_iff.mpr c6
   subst c6
   have H1 : (some 3) = some r := by rw [if_neg (show ¬ (false = true) by decide)] at H; exact H
   clear H
   have H := H1
   clear H1
   obtain rfl := Option.some.inj H
   go_enter Try.func52, Try.ntmps52
   go_wp2_with (first | ((with_reducible refine gate_callee (f := 87) rfl ?_); refine gL_ (some 4) Try.func87 #[.slice A0 l0.length c0] ?_; (with_reducible refine (spec_IsShape.calls k _ _ l0 true _ ?side1 ?side2 A2.out).mono ?_); (case side1 => exact cS_ HR0.out); (case side2 => exact HC0.out); rintro e w11 ⟨rfl, hb⟩; refine ⟨_, rfl, ?_⟩; replace HB := Aside0.mk (below_step bB_ hb); (try clear hb)) | ((with_reducible refine gate_callee (f := 73) rfl ?_); refine gL_ (some 7) Try.func73 #[.slice A0 l0.length c0] ?_; (with_reducible refine (spec_l02Normal.calls k _ _ l0 t130 _ ?side1 ?side2 A4.out).mono ?_); (case side1 => exact cS_ (Kd.C_below HR0.out HB.out)); (case side2 => exact HC0.out); rintro e w12 ⟨v131, rfl, ho0, hb⟩; refine ⟨_, rfl, ?_⟩; have HO132 := Aside0.mk (Kd.R_lower ho0 (below_size bB_)); replace HB := Aside0.mk (below_step bB_ hb); (try clear hb ho0); obtain ⟨Ao13, co13, eo13⟩ := Kd.R_slice HO132.out; subst eo13) | ((with_reducible refine gate_callee (f := 87) rfl ?_); refine gL_ (some 8) Try.func87 #[.slice Ao13 t130.length co13] ?_; (with_reducible refine (spec_IsShape.calls k _ _ t130 false _ ?side1 ?side2 A5.out).mono ?_); (case side1 => exact cS_ ((Kd.R_reads' HO132.out).2.2)); (case side2 => exact (Kd.R_reads' HO132.out).2.1); rintro e w14 ⟨rfl, hb⟩; refine ⟨_, rfl, ?_⟩; replace HO132 := Aside0.mk (Kd.R_below (rS_ HO132.out) hb); replace HB := Aside0.mk (below_step bB_ hb); (try clear hb)))
   go_ret
   exact ⟨r2_, bB_⟩
 ·replace c3 := Bool.eq_false_iff.mpr c3
  subst c3
  have H1 : (some 1) = some r := by rw [if_neg (show ¬ (false = true) by decide)] at H; exact H
  clear H
  have H := H1
  clear H1
  obtain rfl := Option.some.inj H
  go_enter Try.func52, Try.ntmps52
  go_wp2_with (first | ((with_reducible refine gate_callee (f := 87) rfl ?_); refine gL_ (some 4) Try.func87 #[.slice A0 l0.length c0] ?_; (with_reducible refine (spec_IsShape.calls k _ _ l0 false _ ?side1 ?side2 A2.out).mono ?_); (case side1 => exact cS_ HR0.out); (case side2 => exact HC0.out); rintro e w15 ⟨rfl, hb⟩; refine ⟨_, rfl, ?_⟩; replace HB := Aside0.mk (below_step bB_ hb); (try clear hb)))
  go_ret
  exact ⟨r2_, bB_⟩

end Go.Proofs.Ytbkafaoehheioaa.X
