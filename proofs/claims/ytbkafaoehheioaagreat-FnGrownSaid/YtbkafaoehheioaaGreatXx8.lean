-- xprint.py
import Derived.Test.YtbkafaoehheioaaGreatXx0
import Derived.Test.YtbkafaoehheioaaGreatXx2
import Derived.Test.YtbkafaoehheioaaGreatXx4
import Derived.Test.YtbkafaoehheioaaGreatXx5
import Derived.Test.YtbkafaoehheioaaGreatXx7
namespace Go.Proofs.YtbkafaoehheioaaGreat.X
open Go.RowKit Go.Proofs.YtbkafaoehheioaaGreatW.PrintWords Go.Proofs.YtbkafaoehheioaaGreatW.PrintLast Go.Proofs.YtbkafaoehheioaaGreatW.PrintMore
attribute [local go_sem] max2_int min2_int max_two min_two max_three min_three max_four min_four   -- for this text's walks alone
set_option linter.unusedVariables false
set_option linter.unusedSimpArgs false

/-! ### spec_CompareShapes: function 52 -/
def spec_CompareShapes.l0 : Nat → List (S39) → List (S39) → Int → Option (Int)
 | 0, _, _, _ => none
 | k + 1, x0, x1, x5 => if x5 < (x0.length : Int) then (if 0 ≤ x5 then (if x5 < (x1.length : Int) then ((spec_l02Less.f ((rd_T39 x0 x5).f0) ((rd_T39 x0 x5).f1) ((rd_T39 x1 x5).f0) ((rd_T39 x1 x5).f1)).bind fun t420 => (if t420 = true then (some (-1)) else ((spec_l02Less.f ((rd_T39 x1 x5).f0) ((rd_T39 x1 x5).f1) ((rd_T39 x0 x5).f0) ((rd_T39 x0 x5).f1)).bind fun t423 => (if t423 = true then (some 1) else (spec_CompareShapes.l0 k x0 x1 (wrap64 (x5 + 1))))))) else (none)) else (none)) else (some 0)
def spec_CompareShapes.f (k : Nat) (l0 : List (S39)) (l1 : List (S39)) : Option (Int) := if (l0.length : Int) = (l1.length : Int) then (spec_CompareShapes.l0 k l0 l1 0) else (if (l0.length : Int) < (l1.length : Int) then (some (-1)) else (some 1))
theorem spec_CompareShapes.mono_l : ∀ k, (∀ y0 y1 y2, LeO (spec_CompareShapes.l0 k y0 y1 y2) (spec_CompareShapes.l0 (k + 1) y0 y1 y2))
 | 0 => fun _ _ _ r h => by simp [spec_CompareShapes.l0] at h
 | k + 1 => by
  have ih0 := spec_CompareShapes.mono_l k
  ·intro y0 y1 y2
   unfold spec_CompareShapes.l0
   repeat' first
   | (with_reducible exact ih0 _ _ _)
   | (with_reducible exact LeO.refl _)
   | (with_reducible exact LeO.none _)
   | (with_reducible refine LeO.ite ?_ ?_)
   | (with_reducible refine LeO.bind ?_ (fun _ => ?_))
   | exact ih0 _ _ _
   | exact LeO.none _
   | refine LeO.ite ?_ ?_
   | refine LeO.bind ?_ (fun _ => ?_)
theorem spec_CompareShapes.mono : ∀ a0 a1 k, LeO (spec_CompareShapes.f k a0 a1) (spec_CompareShapes.f (k + 1) a0 a1) := by
 intro a0 a1 k
 have ih0 := spec_CompareShapes.mono_l k
 unfold spec_CompareShapes.f
 repeat' first
   | (with_reducible exact ih0 _ _ _)
   | (with_reducible exact LeO.refl _)
   | (with_reducible exact LeO.none _)
   | (with_reducible refine LeO.ite ?_ ?_)
   | (with_reducible refine LeO.bind ?_ (fun _ => ?_))
   | exact ih0 _ _ _
   | exact LeO.none _
   | refine LeO.ite ?_ ?_
   | refine LeO.bind ?_ (fun _ => ?_)
def spec_CompareShapes.T8 : Bool × List (List Nat × List Nat) := (true, [([], []), ([], []), ([0, 1], [0, 1]), ([2], [2]), ([], []), ([], []), ([4, 5], [4, 5]), ([6], [6]), ([3, 7], [3, 7])])
def spec_CompareShapes.B8 : List Nat := [0, 0, 3, 7, 0, 0, 48, 112, 255]
theorem spec_CompareShapes.tab8 : rtab .any (opsOf Tryz.f52 8) = spec_CompareShapes.T8 := by kernel_rfl
theorem spec_CompareShapes.bits8 : waitsOk spec_CompareShapes.T8.2 spec_CompareShapes.B8 = true := by kernel_rfl
def spec_CompareShapes.T10 : Bool × List (List Nat × List Nat) := (true, [([], []), ([], []), ([0, 1], [0, 1]), ([2], [2]), ([], []), ([], []), ([4, 5], [4, 5]), ([6], [6]), ([3, 7], [3, 7])])
def spec_CompareShapes.B10 : List Nat := [0, 0, 3, 7, 0, 0, 48, 112, 255]
theorem spec_CompareShapes.tab10 : rtab .any (opsOf Tryz.f52 10) = spec_CompareShapes.T10 := by kernel_rfl
theorem spec_CompareShapes.bits10 : waitsOk spec_CompareShapes.T10.2 spec_CompareShapes.B10 = true := by kernel_rfl
set_option maxHeartbeats 8000000 in
set_option maxRecDepth 100000 in
theorem spec_CompareShapes.calls (k : Nat) (A0 : Option Addr) (c0 : Nat) (l0 : List (S39)) (A1 : Option Addr) (c1 : Nat) (l1 : List (S39)) (r : Int) (w : World) (hr0 : Kd.C k39 w A0 l0.length l0) (hc0 : l0.length ≤ c0) (hr1 : Kd.C k39 w A1 l1.length l1) (hc1 : l1.length ≤ c1) (h : spec_CompareShapes.f k l0 l1 = some r) :
  Calls Tryz.prog 52 #[.slice A0 l0.length c0, .slice A1 l1.length c1] w fun e w' => e = .returned (.int .i64 r) ∧ Below w.heap.size w w' := by
 have hu39 := Tryz.underlying39
 have HR0 := Aside0.mk hr0
 have HC0 := Aside0.mk hc0
 clear hr0 hc0
 have HR1 := Aside0.mk hr1
 have HC1 := Aside0.mk hc1
 clear hr1 hc1
 have HB := Aside0.mk (Below.refl w.heap.size w)
 have H : (if (l0.length : Int) = (l1.length : Int) then (spec_CompareShapes.l0 k l0 l1 0) else (if (l0.length : Int) < (l1.length : Int) then (some (-1)) else (some 1))) = some r := h
 clear h
 by_cases c3 : (l0.length : Int) = (l1.length : Int)
 ·rw [if_pos c3] at H
  have c3b0 : ((l0.length : Int) == (l1.length : Int)) = true := beq_iff_eq.mpr c3
  have c3b1 : ((l0.length : Int) != (l1.length : Int)) = false := bne_eq_false_iff_eq.mpr c3
  have c3b2 : (l0.length == l1.length) = true := by first | simpa using c3 | (simp at c3 ⊢; omega)
  clear c3
  have H' := Aside0.mk H
  clear H
  go_enter Tryz.func52, Tryz.ntmps52
  go_wp2
  go_loopg [5] k (fun kq v5 w' => ∃ (x5_1 : Int), v5 = .int .i64 x5_1 ∧ Aside0 (spec_CompareShapes.l0 kq l0 l1 x5_1 = some r) ∧ Aside0 (kq ≤ k) ∧ Aside0 (Below w.heap.size w w'))
  case atStart => exact ⟨(0), r3_, H', ⟨Nat.le_refl _⟩, ⟨bB_⟩⟩
  case round =>
   clear H'
   try clear c1
   try clear p2
   try clear c3
   try clear c3b0
   try clear c3b1
   try clear c3b2
   obtain ⟨x5_1, rfl, HA, HK1, HB⟩ := hrel
   cases gk with
   | zero => exact absurd HA.out (by simp [spec_CompareShapes.l0])
   | succ k1 =>
    have H := HA.out
    clear HA
    simp only [spec_CompareShapes.l0] at H
    by_cases c4 : x5_1 < (l0.length : Int)
    ·rw [if_pos c4] at H
     have c4b0 : decide (x5_1 < (l0.length : Int)) = true := decide_eq_true c4
     clear c4
     by_cases c5 : 0 ≤ x5_1
     ·rw [if_pos c5] at H
      have c5b0 : decide (0 ≤ x5_1) = true := decide_eq_true c5
      clear c5
      by_cases c6 : x5_1 < (l1.length : Int)
      ·rw [if_pos c6] at H
       have c6b0 : decide (x5_1 < (l1.length : Int)) = true := decide_eq_true c6
       clear c6
       replace H := Option.bind_eq_some_iff.mp H
       obtain ⟨t420, A70, H⟩ := H
       try dsimp only at H
       have A7 := Aside0.mk A70
       clear A70
       by_cases c8 : t420 = true
       ·subst c8
        have H1 : (some (-1)) = some r := by rw [if_pos rfl] at H; exact H
        clear H
        have H := H1
        clear H1
        obtain rfl := Option.some.inj H
        try go_wp2
        replace HB := Aside0.mk (below_drew1 HB.out)
        have p418 : 0 ≤ (x5_1 : Int) := of_decide_eq_true aS_
        have q418 : x5_1 < (l0.length : Int) := of_decide_eq_true aS_
        obtain ⟨ad418, e418, hx418_0, hx418_1⟩ := at_T39 HR0.out x5_1 p418 q418
        have hw418_1 := hx418_1
        have hw418_0 := hx418_0
        cases e418
        replace hx418_0 := (HB.out.cell (World.block_lt_of_cell? w _ hx418_0)).trans hx418_0
        replace hx418_1 := (HB.out.cell (World.block_lt_of_cell? w _ hx418_1)).trans hx418_1
        replace p418 := eq_true p418
        replace q418 := eq_true q418
        have p419 : 0 ≤ (x5_1 : Int) := of_decide_eq_true aS_
        have q419 : x5_1 < (l1.length : Int) := of_decide_eq_true aS_
        obtain ⟨ad419, e419, hx419_0, hx419_1⟩ := at_T39 HR1.out x5_1 p419 q419
        have hw419_1 := hx419_1
        have hw419_0 := hx419_0
        cases e419
        replace hx419_0 := (HB.out.cell (World.block_lt_of_cell? w _ hx419_0)).trans hx419_0
        replace hx419_1 := (HB.out.cell (World.block_lt_of_cell? w _ hx419_1)).trans hx419_1
        replace p419 := eq_true p419
        replace q419 := eq_true q419
        refine start_ (n := 9) (S := fun w' => w'.cell? (ad418.add ((x5_1).toNat * 2)) = some (.int .i64 ((rd_T39 l0 x5_1).f0)) ∧ w'.cell? ⟨(ad418.add ((x5_1).toNat * 2)).block, (ad418.add ((x5_1).toNat * 2)).off + 1, none⟩ = some (.int .i64 ((rd_T39 l0 x5_1).f1)) ∧ w'.cell? (ad419.add ((x5_1).toNat * 2)) = some (.int .i64 ((rd_T39 l1 x5_1).f0)) ∧ w'.cell? ⟨(ad419.add ((x5_1).toNat * 2)).block, (ad419.add ((x5_1).toNat * 2)).off + 1, none⟩ = some (.int .i64 ((rd_T39 l1 x5_1).f1))) (ds := []) #[F, F, F, F, F, F, F, F, F] (by kernel_rfl) rfl rfl ⟨((HB.out.cell (World.block_lt_of_cell? w _ hw418_0)).trans hw418_0), ((HB.out.cell (World.block_lt_of_cell? w _ hw418_1)).trans hw418_1), ((HB.out.cell (World.block_lt_of_cell? w _ hw419_0)).trans hw419_0), ((HB.out.cell (World.block_lt_of_cell? w _ hw419_1)).trans hw419_1)⟩ (fun hHeld => ?_); refine with_tabW spec_CompareShapes.tab8 spec_CompareShapes.bits8 (fun HT_ HW_ => ?_)
        generalize wr.drew = w9 at HB hx418_0 hx418_1 hx419_0 hx419_1 hHeld ⊢
        refine pu_ HT_ 0 (some 22) #[T,F,F,F,F,F,F,F,F] ?_
        refine pu_ HT_ 1 (some 23) #[T,T,F,F,F,F,F,F,F] ?_
        refine pu_ HT_ 2 (some 24) #[T,T,T,F,F,F,F,F,F] ?_
        refine pu_ HT_ 4 (some 26) #[T,T,T,F,T,F,F,F,F] ?_
        refine pu_ HT_ 5 (some 27) #[T,T,T,F,T,T,F,F,F] ?_
        refine pu_ HT_ 6 (some 28) #[T,T,T,F,T,T,T,F,F] ?_
        refine take_ (i := 3) (N := some 25) (v := ?_) (a' := ?_) #[T, T, T, T, T, T, T, F, F] rfl rfl (take_ofW HT_.out HW_.out (by kernel_rfl)) (fun _ _ _ h => h) (Or.inl ⟨by rfl, ?_⟩) hHeld ?_ ?_
        rotate_left
        ·rintro w' ⟨s0, s1, s2, s3⟩
         go_simp
         with_reducible rfl
        rotate_left
        ·simp only [Act.put, List.setIfInBounds_toArray, List.set_cons_zero, List.set_cons_succ, i64_w, i32_w]
         rfl
        refine take_ (i := 7) (N := some 29) (v := ?_) (a' := ?_) #[T, T, T, T, T, T, T, T, F] rfl rfl (take_ofW HT_.out HW_.out (by kernel_rfl)) (fun _ _ _ h => h) (Or.inl ⟨by rfl, ?_⟩) hHeld ?_ ?_
        rotate_left
        ·rintro w' ⟨s0, s1, s2, s3⟩
         go_simp
         with_reducible rfl
        rotate_left
        ·simp only [Act.put, List.setIfInBounds_toArray, List.set_cons_zero, List.set_cons_succ, i64_w, i32_w]
         rfl
        refine one_ (i := 8) (N := some 30) #[T, T, T, T, T, T, T, T, T] rfl rfl (one_of HT_.out (by kernel_rfl)) (by decide) (fun K hK => ?_)
        refine goes_ Tryz.func66 (by kernel_rfl) rfl #[.agg #[.int .i64 ((rd_T39 l0 x5_1).f0), .int .i64 ((rd_T39 l0 x5_1).f1)], .agg #[.int .i64 ((rd_T39 l1 x5_1).f0), .int .i64 ((rd_T39 l1 x5_1).f1)]] (by rfl) rfl rfl mA_ ?_
        with_reducible refine (spec_l02Less.calls ((rd_T39 l0 x5_1).f0) ((rd_T39 l0 x5_1).f1) ((rd_T39 l1 x5_1).f0) ((rd_T39 l1 x5_1).f1) true _ A7.out).mono ?_
        rintro e w10 ⟨rfl, hb⟩
        refine ⟨_, rfl, ?_⟩
        replace HB := Aside0.mk (below_step bB_ hb)
        (try clear hb)
        refine hK.out _ _ ⟨((HB.out.cell (World.block_lt_of_cell? w _ hw418_0)).trans hw418_0), ((HB.out.cell (World.block_lt_of_cell? w _ hw418_1)).trans hw418_1), ((HB.out.cell (World.block_lt_of_cell? w _ hw419_0)).trans hw419_0), ((HB.out.cell (World.block_lt_of_cell? w _ hw419_1)).trans hw419_1)⟩ (fun hHeld => ?_)
        clear hK K
        refine no_ (some 30) ?_
        refine done_ (done_of HT_.out (by kernel_rfl)) ?_
        try go_wp2
        go_ret
        exact ⟨r2_, bB_⟩
       ·replace c8 := Bool.eq_false_iff.mpr c8
        subst c8
        have H1 : ((spec_l02Less.f ((rd_T39 l1 x5_1).f0) ((rd_T39 l1 x5_1).f1) ((rd_T39 l0 x5_1).f0) ((rd_T39 l0 x5_1).f1)).bind fun t423 => (if t423 = true then (some 1) else (spec_CompareShapes.l0 k1 l0 l1 (wrap64 (x5_1 + 1))))) = some r := by rw [if_neg (show ¬ (false = true) by decide)] at H; exact H
        clear H
        have H := H1
        clear H1
        replace H := Option.bind_eq_some_iff.mp H
        obtain ⟨t423, A110, H⟩ := H
        try dsimp only at H
        have A11 := Aside0.mk A110
        clear A110
        by_cases c12 : t423 = true
        ·subst c12
         have H1 : (some 1) = some r := by rw [if_pos rfl] at H; exact H
         clear H
         have H := H1
         clear H1
         obtain rfl := Option.some.inj H
         try go_wp2
         replace HB := Aside0.mk (below_drew1 HB.out)
         have p418 : 0 ≤ (x5_1 : Int) := of_decide_eq_true aS_
         have q418 : x5_1 < (l0.length : Int) := of_decide_eq_true aS_
         obtain ⟨ad418, e418, hx418_0, hx418_1⟩ := at_T39 HR0.out x5_1 p418 q418
         have hw418_1 := hx418_1
         have hw418_0 := hx418_0
         cases e418
         replace hx418_0 := (HB.out.cell (World.block_lt_of_cell? w _ hx418_0)).trans hx418_0
         replace hx418_1 := (HB.out.cell (World.block_lt_of_cell? w _ hx418_1)).trans hx418_1
         replace p418 := eq_true p418
         replace q418 := eq_true q418
         have p419 : 0 ≤ (x5_1 : Int) := of_decide_eq_true aS_
         have q419 : x5_1 < (l1.length : Int) := of_decide_eq_true aS_
         obtain ⟨ad419, e419, hx419_0, hx419_1⟩ := at_T39 HR1.out x5_1 p419 q419
         have hw419_1 := hx419_1
         have hw419_0 := hx419_0
         cases e419
         replace hx419_0 := (HB.out.cell (World.block_lt_of_cell? w _ hx419_0)).trans hx419_0
         replace hx419_1 := (HB.out.cell (World.block_lt_of_cell? w _ hx419_1)).trans hx419_1
         replace p419 := eq_true p419
         replace q419 := eq_true q419
         refine start_ (n := 9) (S := fun w' => w'.cell? (ad418.add ((x5_1).toNat * 2)) = some (.int .i64 ((rd_T39 l0 x5_1).f0)) ∧ w'.cell? ⟨(ad418.add ((x5_1).toNat * 2)).block, (ad418.add ((x5_1).toNat * 2)).off + 1, none⟩ = some (.int .i64 ((rd_T39 l0 x5_1).f1)) ∧ w'.cell? (ad419.add ((x5_1).toNat * 2)) = some (.int .i64 ((rd_T39 l1 x5_1).f0)) ∧ w'.cell? ⟨(ad419.add ((x5_1).toNat * 2)).block, (ad419.add ((x5_1).toNat * 2)).off + 1, none⟩ = some (.int .i64 ((rd_T39 l1 x5_1).f1))) (ds := []) #[F, F, F, F, F, F, F, F, F] (by kernel_rfl) rfl rfl ⟨((HB.out.cell (World.block_lt_of_cell? w _ hw418_0)).trans hw418_0), ((HB.out.cell (World.block_lt_of_cell? w _ hw418_1)).trans hw418_1), ((HB.out.cell (World.block_lt_of_cell? w _ hw419_0)).trans hw419_0), ((HB.out.cell (World.block_lt_of_cell? w _ hw419_1)).trans hw419_1)⟩ (fun hHeld => ?_); refine with_tabW spec_CompareShapes.tab8 spec_CompareShapes.bits8 (fun HT_ HW_ => ?_)
         generalize wr.drew = w13 at HB hx418_0 hx418_1 hx419_0 hx419_1 hHeld ⊢
         refine pu_ HT_ 0 (some 22) #[T,F,F,F,F,F,F,F,F] ?_
         refine pu_ HT_ 1 (some 23) #[T,T,F,F,F,F,F,F,F] ?_
         refine pu_ HT_ 2 (some 24) #[T,T,T,F,F,F,F,F,F] ?_
         refine pu_ HT_ 4 (some 26) #[T,T,T,F,T,F,F,F,F] ?_
         refine pu_ HT_ 5 (some 27) #[T,T,T,F,T,T,F,F,F] ?_
         refine pu_ HT_ 6 (some 28) #[T,T,T,F,T,T,T,F,F] ?_
         refine take_ (i := 3) (N := some 25) (v := ?_) (a' := ?_) #[T, T, T, T, T, T, T, F, F] rfl rfl (take_ofW HT_.out HW_.out (by kernel_rfl)) (fun _ _ _ h => h) (Or.inl ⟨by rfl, ?_⟩) hHeld ?_ ?_
         rotate_left
         ·rintro w' ⟨s0, s1, s2, s3⟩
          go_simp
          with_reducible rfl
         rotate_left
         ·simp only [Act.put, List.setIfInBounds_toArray, List.set_cons_zero, List.set_cons_succ, i64_w, i32_w]
          rfl
         refine take_ (i := 7) (N := some 29) (v := ?_) (a' := ?_) #[T, T, T, T, T, T, T, T, F] rfl rfl (take_ofW HT_.out HW_.out (by kernel_rfl)) (fun _ _ _ h => h) (Or.inl ⟨by rfl, ?_⟩) hHeld ?_ ?_
         rotate_left
         ·rintro w' ⟨s0, s1, s2, s3⟩
          go_simp
          with_reducible rfl
         rotate_left
         ·simp only [Act.put, List.setIfInBounds_toArray, List.set_cons_zero, List.set_cons_succ, i64_w, i32_w]
          rfl
         refine one_ (i := 8) (N := some 30) #[T, T, T, T, T, T, T, T, T] rfl rfl (one_of HT_.out (by kernel_rfl)) (by decide) (fun K hK => ?_)
         refine goes_ Tryz.func66 (by kernel_rfl) rfl #[.agg #[.int .i64 ((rd_T39 l0 x5_1).f0), .int .i64 ((rd_T39 l0 x5_1).f1)], .agg #[.int .i64 ((rd_T39 l1 x5_1).f0), .int .i64 ((rd_T39 l1 x5_1).f1)]] (by rfl) rfl rfl mA_ ?_
         with_reducible refine (spec_l02Less.calls ((rd_T39 l0 x5_1).f0) ((rd_T39 l0 x5_1).f1) ((rd_T39 l1 x5_1).f0) ((rd_T39 l1 x5_1).f1) false _ A7.out).mono ?_
         rintro e w14 ⟨rfl, hb⟩
         refine ⟨_, rfl, ?_⟩
         replace HB := Aside0.mk (below_step bB_ hb)
         (try clear hb)
         refine hK.out _ _ ⟨((HB.out.cell (World.block_lt_of_cell? w _ hw418_0)).trans hw418_0), ((HB.out.cell (World.block_lt_of_cell? w _ hw418_1)).trans hw418_1), ((HB.out.cell (World.block_lt_of_cell? w _ hw419_0)).trans hw419_0), ((HB.out.cell (World.block_lt_of_cell? w _ hw419_1)).trans hw419_1)⟩ (fun hHeld => ?_)
         clear hK K
         refine no_ (some 30) ?_
         refine done_ (done_of HT_.out (by kernel_rfl)) ?_
         try go_wp2
         replace HB := Aside0.mk (below_drew1 HB.out)
         have p421 : 0 ≤ (x5_1 : Int) := of_decide_eq_true aS_
         have q421 : x5_1 < (l1.length : Int) := of_decide_eq_true aS_
         obtain ⟨ad421, e421, hx421_0, hx421_1⟩ := at_T39 HR1.out x5_1 p421 q421
         have hw421_1 := hx421_1
         have hw421_0 := hx421_0
         obtain rfl : ad419 = ad421 := (by injection e421)
         replace hx421_0 := (HB.out.cell (World.block_lt_of_cell? w _ hx421_0)).trans hx421_0
         replace hx421_1 := (HB.out.cell (World.block_lt_of_cell? w _ hx421_1)).trans hx421_1
         replace p421 := eq_true p421
         replace q421 := eq_true q421
         have p422 : 0 ≤ (x5_1 : Int) := of_decide_eq_true aS_
         have q422 : x5_1 < (l0.length : Int) := of_decide_eq_true aS_
         obtain ⟨ad422, e422, hx422_0, hx422_1⟩ := at_T39 HR0.out x5_1 p422 q422
         have hw422_1 := hx422_1
         have hw422_0 := hx422_0
         obtain rfl : ad418 = ad422 := (by injection e422)
         replace hx422_0 := (HB.out.cell (World.block_lt_of_cell? w _ hx422_0)).trans hx422_0
         replace hx422_1 := (HB.out.cell (World.block_lt_of_cell? w _ hx422_1)).trans hx422_1
         replace p422 := eq_true p422
         replace q422 := eq_true q422
         refine start_ (n := 9) (S := fun w' => w'.cell? (ad419.add ((x5_1).toNat * 2)) = some (.int .i64 ((rd_T39 l1 x5_1).f0)) ∧ w'.cell? ⟨(ad419.add ((x5_1).toNat * 2)).block, (ad419.add ((x5_1).toNat * 2)).off + 1, none⟩ = some (.int .i64 ((rd_T39 l1 x5_1).f1)) ∧ w'.cell? (ad418.add ((x5_1).toNat * 2)) = some (.int .i64 ((rd_T39 l0 x5_1).f0)) ∧ w'.cell? ⟨(ad418.add ((x5_1).toNat * 2)).block, (ad418.add ((x5_1).toNat * 2)).off + 1, none⟩ = some (.int .i64 ((rd_T39 l0 x5_1).f1))) (ds := []) #[F, F, F, F, F, F, F, F, F] (by kernel_rfl) rfl rfl ⟨((HB.out.cell (World.block_lt_of_cell? w _ hw421_0)).trans hw421_0), ((HB.out.cell (World.block_lt_of_cell? w _ hw421_1)).trans hw421_1), ((HB.out.cell (World.block_lt_of_cell? w _ hw422_0)).trans hw422_0), ((HB.out.cell (World.block_lt_of_cell? w _ hw422_1)).trans hw422_1)⟩ (fun hHeld => ?_); refine with_tabW spec_CompareShapes.tab10 spec_CompareShapes.bits10 (fun HT_ HW_ => ?_)
         generalize w14.drew = w15 at HB hx421_0 hx421_1 hx422_0 hx422_1 hHeld ⊢
         refine pu_ HT_ 0 (some 31) #[T,F,F,F,F,F,F,F,F] ?_
         refine pu_ HT_ 1 (some 32) #[T,T,F,F,F,F,F,F,F] ?_
         refine pu_ HT_ 2 (some 33) #[T,T,T,F,F,F,F,F,F] ?_
         refine pu_ HT_ 4 (some 35) #[T,T,T,F,T,F,F,F,F] ?_
         refine pu_ HT_ 5 (some 36) #[T,T,T,F,T,T,F,F,F] ?_
         refine pu_ HT_ 6 (some 37) #[T,T,T,F,T,T,T,F,F] ?_
         refine take_ (i := 3) (N := some 34) (v := ?_) (a' := ?_) #[T, T, T, T, T, T, T, F, F] rfl rfl (take_ofW HT_.out HW_.out (by kernel_rfl)) (fun _ _ _ h => h) (Or.inl ⟨by rfl, ?_⟩) hHeld ?_ ?_
         rotate_left
         ·rintro w' ⟨s0, s1, s2, s3⟩
          go_simp
          with_reducible rfl
         rotate_left
         ·simp only [Act.put, List.setIfInBounds_toArray, List.set_cons_zero, List.set_cons_succ, i64_w, i32_w]
          rfl
         refine take_ (i := 7) (N := some 38) (v := ?_) (a' := ?_) #[T, T, T, T, T, T, T, T, F] rfl rfl (take_ofW HT_.out HW_.out (by kernel_rfl)) (fun _ _ _ h => h) (Or.inl ⟨by rfl, ?_⟩) hHeld ?_ ?_
         rotate_left
         ·rintro w' ⟨s0, s1, s2, s3⟩
          go_simp
          with_reducible rfl
         rotate_left
         ·simp only [Act.put, List.setIfInBounds_toArray, List.set_cons_zero, List.set_cons_succ, i64_w, i32_w]
          rfl
         refine one_ (i := 8) (N := some 39) #[T, T, T, T, T, T, T, T, T] rfl rfl (one_of HT_.out (by kernel_rfl)) (by decide) (fun K hK => ?_)
         refine goes_ Tryz.func66 (by kernel_rfl) rfl #[.agg #[.int .i64 ((rd_T39 l1 x5_1).f0), .int .i64 ((rd_T39 l1 x5_1).f1)], .agg #[.int .i64 ((rd_T39 l0 x5_1).f0), .int .i64 ((rd_T39 l0 x5_1).f1)]] (by rfl) rfl rfl mA_ ?_
         with_reducible refine (spec_l02Less.calls ((rd_T39 l1 x5_1).f0) ((rd_T39 l1 x5_1).f1) ((rd_T39 l0 x5_1).f0) ((rd_T39 l0 x5_1).f1) true _ A11.out).mono ?_
         rintro e w16 ⟨rfl, hb⟩
         refine ⟨_, rfl, ?_⟩
         replace HB := Aside0.mk (below_step bB_ hb)
         (try clear hb)
         refine hK.out _ _ ⟨((HB.out.cell (World.block_lt_of_cell? w _ hw421_0)).trans hw421_0), ((HB.out.cell (World.block_lt_of_cell? w _ hw421_1)).trans hw421_1), ((HB.out.cell (World.block_lt_of_cell? w _ hw422_0)).trans hw422_0), ((HB.out.cell (World.block_lt_of_cell? w _ hw422_1)).trans hw422_1)⟩ (fun hHeld => ?_)
         clear hK K
         refine no_ (some 39) ?_
         refine done_ (done_of HT_.out (by kernel_rfl)) ?_
         try go_wp2
         go_ret
         exact ⟨r2_, bB_⟩
        ·replace c12 := Bool.eq_false_iff.mpr c12
         subst c12
         have H1 : (spec_CompareShapes.l0 k1 l0 l1 (wrap64 (x5_1 + 1))) = some r := by rw [if_neg (show ¬ (false = true) by decide)] at H; exact H
         clear H
         have H := H1
         clear H1
         have H' := Aside0.mk H
         clear H
         try go_wp2
         replace HB := Aside0.mk (below_drew1 HB.out)
         have p418 : 0 ≤ (x5_1 : Int) := of_decide_eq_true aS_
         have q418 : x5_1 < (l0.length : Int) := of_decide_eq_true aS_
         obtain ⟨ad418, e418, hx418_0, hx418_1⟩ := at_T39 HR0.out x5_1 p418 q418
         have hw418_1 := hx418_1
         have hw418_0 := hx418_0
         cases e418
         replace hx418_0 := (HB.out.cell (World.block_lt_of_cell? w _ hx418_0)).trans hx418_0
         replace hx418_1 := (HB.out.cell (World.block_lt_of_cell? w _ hx418_1)).trans hx418_1
         replace p418 := eq_true p418
         replace q418 := eq_true q418
         have p419 : 0 ≤ (x5_1 : Int) := of_decide_eq_true aS_
         have q419 : x5_1 < (l1.length : Int) := of_decide_eq_true aS_
         obtain ⟨ad419, e419, hx419_0, hx419_1⟩ := at_T39 HR1.out x5_1 p419 q419
         have hw419_1 := hx419_1
         have hw419_0 := hx419_0
         cases e419
         replace hx419_0 := (HB.out.cell (World.block_lt_of_cell? w _ hx419_0)).trans hx419_0
         replace hx419_1 := (HB.out.cell (World.block_lt_of_cell? w _ hx419_1)).trans hx419_1
         replace p419 := eq_true p419
         replace q419 := eq_true q419
         refine start_ (n := 9) (S := fun w' => w'.cell? (ad418.add ((x5_1).toNat * 2)) = some (.int .i64 ((rd_T39 l0 x5_1).f0)) ∧ w'.cell? ⟨(ad418.add ((x5_1).toNat * 2)).block, (ad418.add ((x5_1).toNat * 2)).off + 1, none⟩ = some (.int .i64 ((rd_T39 l0 x5_1).f1)) ∧ w'.cell? (ad419.add ((x5_1).toNat * 2)) = some (.int .i64 ((rd_T39 l1 x5_1).f0)) ∧ w'.cell? ⟨(ad419.add ((x5_1).toNat * 2)).block, (ad419.add ((x5_1).toNat * 2)).off + 1, none⟩ = some (.int .i64 ((rd_T39 l1 x5_1).f1))) (ds := []) #[F, F, F, F, F, F, F, F, F] (by kernel_rfl) rfl rfl ⟨((HB.out.cell (World.block_lt_of_cell? w _ hw418_0)).trans hw418_0), ((HB.out.cell (World.block_lt_of_cell? w _ hw418_1)).trans hw418_1), ((HB.out.cell (World.block_lt_of_cell? w _ hw419_0)).trans hw419_0), ((HB.out.cell (World.block_lt_of_cell? w _ hw419_1)).trans hw419_1)⟩ (fun hHeld => ?_); refine with_tabW spec_CompareShapes.tab8 spec_CompareShapes.bits8 (fun HT_ HW_ => ?_)
         generalize wr.drew = w17 at HB hx418_0 hx418_1 hx419_0 hx419_1 hHeld ⊢
         refine pu_ HT_ 0 (some 22) #[T,F,F,F,F,F,F,F,F] ?_
         refine pu_ HT_ 1 (some 23) #[T,T,F,F,F,F,F,F,F] ?_
         refine pu_ HT_ 2 (some 24) #[T,T,T,F,F,F,F,F,F] ?_
         refine pu_ HT_ 4 (some 26) #[T,T,T,F,T,F,F,F,F] ?_
         refine pu_ HT_ 5 (some 27) #[T,T,T,F,T,T,F,F,F] ?_
         refine pu_ HT_ 6 (some 28) #[T,T,T,F,T,T,T,F,F] ?_
         refine take_ (i := 3) (N := some 25) (v := ?_) (a' := ?_) #[T, T, T, T, T, T, T, F, F] rfl rfl (take_ofW HT_.out HW_.out (by kernel_rfl)) (fun _ _ _ h => h) (Or.inl ⟨by rfl, ?_⟩) hHeld ?_ ?_
         rotate_left
         ·rintro w' ⟨s0, s1, s2, s3⟩
          go_simp
          with_reducible rfl
         rotate_left
         ·simp only [Act.put, List.setIfInBounds_toArray, List.set_cons_zero, List.set_cons_succ, i64_w, i32_w]
          rfl
         refine take_ (i := 7) (N := some 29) (v := ?_) (a' := ?_) #[T, T, T, T, T, T, T, T, F] rfl rfl (take_ofW HT_.out HW_.out (by kernel_rfl)) (fun _ _ _ h => h) (Or.inl ⟨by rfl, ?_⟩) hHeld ?_ ?_
         rotate_left
         ·rintro w' ⟨s0, s1, s2, s3⟩
          go_simp
          with_reducible rfl
         rotate_left
         ·simp only [Act.put, List.setIfInBounds_toArray, List.set_cons_zero, List.set_cons_succ, i64_w, i32_w]
          rfl
         refine one_ (i := 8) (N := some 30) #[T, T, T, T, T, T, T, T, T] rfl rfl (one_of HT_.out (by kernel_rfl)) (by decide) (fun K hK => ?_)
         refine goes_ Tryz.func66 (by kernel_rfl) rfl #[.agg #[.int .i64 ((rd_T39 l0 x5_1).f0), .int .i64 ((rd_T39 l0 x5_1).f1)], .agg #[.int .i64 ((rd_T39 l1 x5_1).f0), .int .i64 ((rd_T39 l1 x5_1).f1)]] (by rfl) rfl rfl mA_ ?_
         with_reducible refine (spec_l02Less.calls ((rd_T39 l0 x5_1).f0) ((rd_T39 l0 x5_1).f1) ((rd_T39 l1 x5_1).f0) ((rd_T39 l1 x5_1).f1) false _ A7.out).mono ?_
         rintro e w18 ⟨rfl, hb⟩
         refine ⟨_, rfl, ?_⟩
         replace HB := Aside0.mk (below_step bB_ hb)
         (try clear hb)
         refine hK.out _ _ ⟨((HB.out.cell (World.block_lt_of_cell? w _ hw418_0)).trans hw418_0), ((HB.out.cell (World.block_lt_of_cell? w _ hw418_1)).trans hw418_1), ((HB.out.cell (World.block_lt_of_cell? w _ hw419_0)).trans hw419_0), ((HB.out.cell (World.block_lt_of_cell? w _ hw419_1)).trans hw419_1)⟩ (fun hHeld => ?_)
         clear hK K
         refine no_ (some 30) ?_
         refine done_ (done_of HT_.out (by kernel_rfl)) ?_
         try go_wp2
         replace HB := Aside0.mk (below_drew1 HB.out)
         have p421 : 0 ≤ (x5_1 : Int) := of_decide_eq_true aS_
         have q421 : x5_1 < (l1.length : Int) := of_decide_eq_true aS_
         obtain ⟨ad421, e421, hx421_0, hx421_1⟩ := at_T39 HR1.out x5_1 p421 q421
         have hw421_1 := hx421_1
         have hw421_0 := hx421_0
         obtain rfl : ad419 = ad421 := (by injection e421)
         replace hx421_0 := (HB.out.cell (World.block_lt_of_cell? w _ hx421_0)).trans hx421_0
         replace hx421_1 := (HB.out.cell (World.block_lt_of_cell? w _ hx421_1)).trans hx421_1
         replace p421 := eq_true p421
         replace q421 := eq_true q421
         have p422 : 0 ≤ (x5_1 : Int) := of_decide_eq_true aS_
         have q422 : x5_1 < (l0.length : Int) := of_decide_eq_true aS_
         obtain ⟨ad422, e422, hx422_0, hx422_1⟩ := at_T39 HR0.out x5_1 p422 q422
         have hw422_1 := hx422_1
         have hw422_0 := hx422_0
         obtain rfl : ad418 = ad422 := (by injection e422)
         replace hx422_0 := (HB.out.cell (World.block_lt_of_cell? w _ hx422_0)).trans hx422_0
         replace hx422_1 := (HB.out.cell (World.block_lt_of_cell? w _ hx422_1)).trans hx422_1
         replace p422 := eq_true p422
         replace q422 := eq_true q422
         refine start_ (n := 9) (S := fun w' => w'.cell? (ad419.add ((x5_1).toNat * 2)) = some (.int .i64 ((rd_T39 l1 x5_1).f0)) ∧ w'.cell? ⟨(ad419.add ((x5_1).toNat * 2)).block, (ad419.add ((x5_1).toNat * 2)).off + 1, none⟩ = some (.int .i64 ((rd_T39 l1 x5_1).f1)) ∧ w'.cell? (ad418.add ((x5_1).toNat * 2)) = some (.int .i64 ((rd_T39 l0 x5_1).f0)) ∧ w'.cell? ⟨(ad418.add ((x5_1).toNat * 2)).block, (ad418.add ((x5_1).toNat * 2)).off + 1, none⟩ = some (.int .i64 ((rd_T39 l0 x5_1).f1))) (ds := []) #[F, F, F, F, F, F, F, F, F] (by kernel_rfl) rfl rfl ⟨((HB.out.cell (World.block_lt_of_cell? w _ hw421_0)).trans hw421_0), ((HB.out.cell (World.block_lt_of_cell? w _ hw421_1)).trans hw421_1), ((HB.out.cell (World.block_lt_of_cell? w _ hw422_0)).trans hw422_0), ((HB.out.cell (World.block_lt_of_cell? w _ hw422_1)).trans hw422_1)⟩ (fun hHeld => ?_); refine with_tabW spec_CompareShapes.tab10 spec_CompareShapes.bits10 (fun HT_ HW_ => ?_)
         generalize w18.drew = w19 at HB hx421_0 hx421_1 hx422_0 hx422_1 hHeld ⊢
         refine pu_ HT_ 0 (some 31) #[T,F,F,F,F,F,F,F,F] ?_
         refine pu_ HT_ 1 (some 32) #[T,T,F,F,F,F,F,F,F] ?_
         refine pu_ HT_ 2 (some 33) #[T,T,T,F,F,F,F,F,F] ?_
         refine pu_ HT_ 4 (some 35) #[T,T,T,F,T,F,F,F,F] ?_
         refine pu_ HT_ 5 (some 36) #[T,T,T,F,T,T,F,F,F] ?_
         refine pu_ HT_ 6 (some 37) #[T,T,T,F,T,T,T,F,F] ?_
         refine take_ (i := 3) (N := some 34) (v := ?_) (a' := ?_) #[T, T, T, T, T, T, T, F, F] rfl rfl (take_ofW HT_.out HW_.out (by kernel_rfl)) (fun _ _ _ h => h) (Or.inl ⟨by rfl, ?_⟩) hHeld ?_ ?_
         rotate_left
         ·rintro w' ⟨s0, s1, s2, s3⟩
          go_simp
          with_reducible rfl
         rotate_left
         ·simp only [Act.put, List.setIfInBounds_toArray, List.set_cons_zero, List.set_cons_succ, i64_w, i32_w]
          rfl
         refine take_ (i := 7) (N := some 38) (v := ?_) (a' := ?_) #[T, T, T, T, T, T, T, T, F] rfl rfl (take_ofW HT_.out HW_.out (by kernel_rfl)) (fun _ _ _ h => h) (Or.inl ⟨by rfl, ?_⟩) hHeld ?_ ?_
         rotate_left
         ·rintro w' ⟨s0, s1, s2, s3⟩
          go_simp
          with_reducible rfl
         rotate_left
         ·simp only [Act.put, List.setIfInBounds_toArray, List.set_cons_zero, List.set_cons_succ, i64_w, i32_w]
          rfl
         refine one_ (i := 8) (N := some 39) #[T, T, T, T, T, T, T, T, T] rfl rfl (one_of HT_.out (by kernel_rfl)) (by decide) (fun K hK => ?_)
         refine goes_ Tryz.func66 (by kernel_rfl) rfl #[.agg #[.int .i64 ((rd_T39 l1 x5_1).f0), .int .i64 ((rd_T39 l1 x5_1).f1)], .agg #[.int .i64 ((rd_T39 l0 x5_1).f0), .int .i64 ((rd_T39 l0 x5_1).f1)]] (by rfl) rfl rfl mA_ ?_
         with_reducible refine (spec_l02Less.calls ((rd_T39 l1 x5_1).f0) ((rd_T39 l1 x5_1).f1) ((rd_T39 l0 x5_1).f0) ((rd_T39 l0 x5_1).f1) false _ A11.out).mono ?_
         rintro e w20 ⟨rfl, hb⟩
         refine ⟨_, rfl, ?_⟩
         replace HB := Aside0.mk (below_step bB_ hb)
         (try clear hb)
         refine hK.out _ _ ⟨((HB.out.cell (World.block_lt_of_cell? w _ hw421_0)).trans hw421_0), ((HB.out.cell (World.block_lt_of_cell? w _ hw421_1)).trans hw421_1), ((HB.out.cell (World.block_lt_of_cell? w _ hw422_0)).trans hw422_0), ((HB.out.cell (World.block_lt_of_cell? w _ hw422_1)).trans hw422_1)⟩ (fun hHeld => ?_)
         clear hK K
         refine no_ (some 39) ?_
         refine done_ (done_of HT_.out (by kernel_rfl)) ?_
         try go_wp2
         go_roundg k1
         case measure => have := HK1.out; omega
         case rel => exact ⟨(wrap64 (x5_1 + 1)), r3_, H', ⟨by have := HK1.out; omega⟩, ⟨bB_⟩⟩
      ·rw [if_neg c6] at H
       exact absurd H (by simp)
     ·rw [if_neg c5] at H
      exact absurd H (by simp)
    ·rw [if_neg c4] at H
     have c4b0 : decide (x5_1 < (l0.length : Int)) = false := decide_eq_false c4
     clear c4
     obtain rfl := Option.some.inj H
     go_wp2
     go_ret
     exact ⟨r2_, bB_⟩
 ·rw [if_neg c3] at H
  have c3b0 : ((l0.length : Int) == (l1.length : Int)) = false := beq_eq_false_iff_ne.mpr c3
  have c3b1 : ((l0.length : Int) != (l1.length : Int)) = true := bne_iff_ne.mpr c3
  have c3b2 : (l0.length == l1.length) = false := by first | simpa using c3 | (simp at c3 ⊢; omega)
  by_cases c21 : (l0.length : Int) < (l1.length : Int)
  ·rw [if_pos c21] at H
   have c21b0 : decide ((l0.length : Int) < (l1.length : Int)) = true := decide_eq_true c21
   have c21b1 : decide (l0.length < l1.length) = true := decide_eq_true (Int.ofNat_lt.mp c21)
   clear c21
   obtain rfl := Option.some.inj H
   go_enter Tryz.func52, Tryz.ntmps52
   go_wp2
   go_ret
   exact ⟨r2_, bB_⟩
  ·rw [if_neg c21] at H
   have c21b0 : decide ((l0.length : Int) < (l1.length : Int)) = false := decide_eq_false c21
   have c21b1 : decide (l0.length < l1.length) = false := decide_eq_false (fun h => c21 (Int.ofNat_lt.mpr h))
   clear c21
   obtain rfl := Option.some.inj H
   go_enter Tryz.func52, Tryz.ntmps52
   go_wp2
   go_ret
   exact ⟨r2_, bB_⟩

/-! ### spec_l03Add: function 27 -/
def spec_l03Add.l0 : Nat → List (List (S39)) → List (S39) → List (List (S39)) → Bool → Int → Option ((List (List (S39))))
 | 0, _, _, _, _, _ => none
 | k + 1, x0, x1, x5, x6, x7 => if x7 < (x0.length : Int) then (if 0 ≤ x7 then ((spec_CompareShapes.f k x1 (rd_L3 x0 x7)).bind fun t431 => (if t431 = 0 then (some x0) else (if t431 < 0 then (if x6 = true then (if x5.length < 5864062014805 then (spec_l03Add.l0 k x0 x1 (x5 ++ [rd_L3 x0 x7]) x6 (wrap64 (x7 + 1))) else (none)) else (if x5.length < 5864062014805 then ((some (x5 ++ [x1] : List (List (S39)))).bind fun y436 => (if y436.length < 5864062014805 then (spec_l03Add.l0 k x0 x1 (y436 ++ [rd_L3 x0 x7]) true (wrap64 (x7 + 1))) else (none))) else (none))) else (if x5.length < 5864062014805 then (spec_l03Add.l0 k x0 x1 (x5 ++ [rd_L3 x0 x7]) x6 (wrap64 (x7 + 1))) else (none))))) else (none)) else (if x6 = true then (some x5) else (if x5.length < 5864062014805 then (some (x5 ++ [x1])) else (none)))
def spec_l03Add.f (k : Nat) (l0 : List (List (S39))) (l1 : List (S39)) : Option ((List (List (S39)))) := spec_l03Add.l0 k l0 l1 (([] : List (List (S39)))) false 0
theorem spec_l03Add.mono_l : ∀ k, (∀ y0 y1 y2 y3 y4, LeO (spec_l03Add.l0 k y0 y1 y2 y3 y4) (spec_l03Add.l0 (k + 1) y0 y1 y2 y3 y4))
 | 0 => fun _ _ _ _ _ r h => by simp [spec_l03Add.l0] at h
 | k + 1 => by
  have ih0 := spec_l03Add.mono_l k
  ·intro y0 y1 y2 y3 y4
   unfold spec_l03Add.l0
   repeat' first
   | (with_reducible exact ih0 _ _ _ _ _)
   | (with_reducible exact spec_CompareShapes.mono _ _ _)
   | (with_reducible exact LeO.refl _)
   | (with_reducible exact LeO.none _)
   | (with_reducible refine LeO.ite ?_ ?_)
   | (with_reducible refine LeO.bind ?_ (fun _ => ?_))
   | exact ih0 _ _ _ _ _
   | exact spec_CompareShapes.mono _ _ _
   | exact LeO.none _
   | refine LeO.ite ?_ ?_
   | refine LeO.bind ?_ (fun _ => ?_)
theorem spec_l03Add.mono : ∀ a0 a1 k, LeO (spec_l03Add.f k a0 a1) (spec_l03Add.f (k + 1) a0 a1) := by
 intro a0 a1 k
 have ih0 := spec_l03Add.mono_l k
 unfold spec_l03Add.f
 repeat' first
   | (with_reducible exact ih0 _ _ _ _ _)
   | (with_reducible exact spec_CompareShapes.mono _ _ _)
   | (with_reducible exact LeO.refl _)
   | (with_reducible exact LeO.none _)
   | (with_reducible refine LeO.ite ?_ ?_)
   | (with_reducible refine LeO.bind ?_ (fun _ => ?_))
   | exact ih0 _ _ _ _ _
   | exact spec_CompareShapes.mono _ _ _
   | exact LeO.none _
   | refine LeO.ite ?_ ?_
   | refine LeO.bind ?_ (fun _ => ?_)
set_option maxHeartbeats 8000000 in
set_option maxRecDepth 100000 in
theorem spec_l03Add.calls (k : Nat) (P0_ : Nat → Prop) (A0 : Option Addr) (c0 : Nat) (l0 : List (List (S39))) (P1_ : Nat → Prop) (A1 : Option Addr) (c1 : Nat) (l1 : List (S39)) (r : List (List (S39))) (w : World) (hs0 : Kd.V (Kd.slice 39 k39) 24 w w.heap.size (fun k_ => P0_ k_) (.slice A0 l0.length c0) l0) (hs1 : Kd.V k39 39 w w.heap.size (fun k_ => P1_ k_) (.slice A1 l1.length c1) l1) (h : spec_l03Add.f k l0 l1 = some r) :
  Calls Tryz.prog 27 #[.slice A0 l0.length c0, .slice A1 l1.length c1] w fun e w' => ∃ v0_ : Value, e = .returned (v0_) ∧ Kd.V (Kd.slice 39 k39) 24 w' w.heap.size (fun k_ => ((P0_ k_ ∨ P1_ k_) ∨ w.heap.size ≤ k_)) v0_ r ∧ Below w.heap.size w w' := by
 have HO0 := Aside0.mk (show Kd.V (Kd.slice 39 k39) 24 w w.heap.size (fun k_ => ((P0_ k_ ∨ P1_ k_) ∨ w.heap.size ≤ k_)) (.slice A0 l0.length c0) l0 from Kd.V_mono hs0 (fun k_ hk => .inl (.inl hk)))
 have HO1 := Aside0.mk (show Kd.V k39 39 w w.heap.size (fun k_ => ((P0_ k_ ∨ P1_ k_) ∨ w.heap.size ≤ k_)) (.slice A1 l1.length c1) l1 from Kd.V_mono hs1 (fun k_ hk => .inl (.inr hk)))
 have HB := Aside0.mk (Below.refl w.heap.size w)
 have H : (spec_l03Add.l0 k l0 l1 (([] : List (List (S39)))) false 0) = some r := h
 clear h
 obtain ⟨y424, hY_⟩ : ∃ y_ : List (List (S39)), y_ = (([] : List (List (S39)))) := ⟨_, rfl⟩
 replace H : (spec_l03Add.l0 k l0 l1 y424 false 0) = some r := yY_
 have Ny424 := Aside0.mk hY_
 clear hY_
 have H' := Aside0.mk H
 clear H
 go_enter Tryz.func27, Tryz.ntmps27
 go_wp2_with (first | ((with_reducible refine gate_dst (N := 9) rfl ?_); refine Kd.N_lit (Kd.slice 39 k39) _ 24 ?hg (N' := 9) ?hd (xs := ([] : List (List (S39)))) (inner := []) (ok := (fun k_ => ((P0_ k_ ∨ P1_ k_) ∨ w.heap.size ≤ k_))) (okp := (fun k_ => ((P0_ k_ ∨ P1_ k_) ∨ w.heap.size ≤ k_))) ?hr ?hp (fun _ hk => hk) ((show ∀ k_, w.heap.size ≤ k_ → (fun k_ => ((P0_ k_ ∨ P1_ k_) ∨ w.heap.size ≤ k_)) k_ from fun k_ hk => (.inr (Nat.le_trans (below_size bB_) hk))) _ (Nat.le_refl _)) (Below.refl _ _) (Nat.le_refl _) (by simp) ?_; (case hd => rfl); (case hg => rfl); (case hr => first | (go_simp; done) | (go_simp; rfl)); (case hp => exact (Reps.none _ _)); intro v425 w3 ho4 hb hg_ hnew_; clear hg_ hnew_; (first | rw [← Ny424.out] at ho4 | (simp only [Int.reduceToNat] at ho4; rw [← Ny424.out] at ho4)); replace HO0 := Aside0.mk (Kd.V_elder' (by (with_reducible repeat (first | apply Kd.V_alloc | apply Kd.V_drewN | apply Kd.V_drew)); exact HO0.out) (Kd.N_base ho4) hb); replace HO1 := Aside0.mk (Kd.V_elder' (by (with_reducible repeat (first | apply Kd.V_alloc | apply Kd.V_drewN | apply Kd.V_drew)); exact HO1.out) (Kd.N_base ho4) hb); have HO426 := Aside0.mk (Kd.N_lower ho4 (below_size bB_)); replace HB := Aside0.mk (below_step bB_ hb); clear hb ho4))
 go_loopg [5, 6, 7] k (fun kq v5 v6 v7 w' => ∃ (x5_1 : List (List (S39))) (x6_1 : Bool) (x7_1 : Int), v6 = .bool x6_1 ∧ v7 = .int .i64 x7_1 ∧ Aside0 (spec_l03Add.l0 kq l0 l1 x5_1 x6_1 x7_1 = some r) ∧ Aside0 (kq ≤ k) ∧ Aside0 (Kd.V (Kd.slice 39 k39) 24 w' w.heap.size (fun k_ => ((P0_ k_ ∨ P1_ k_) ∨ w.heap.size ≤ k_) ∧ some k_ ≠ (v5 : Value).ownBlock) (.slice A0 l0.length c0) l0) ∧ Aside0 (Kd.V k39 39 w' w.heap.size (fun k_ => ((P0_ k_ ∨ P1_ k_) ∨ w.heap.size ≤ k_) ∧ some k_ ≠ (v5 : Value).ownBlock) (.slice A1 l1.length c1) l1) ∧ Aside0 (Kd.N (Kd.slice 39 k39) 24 w' w.heap.size (fun k_ => ((P0_ k_ ∨ P1_ k_) ∨ w.heap.size ≤ k_)) v5 x5_1) ∧ Aside0 (Below w.heap.size w w'))
 case atStart => exact ⟨(y424), (false), (0), r3_, r3_, H', ⟨Nat.le_refl _⟩, ⟨by (with_reducible repeat (first | apply Kd.V_alloc | apply Kd.V_drewN | apply Kd.V_drew)); exact HO0.out⟩, ⟨by (with_reducible repeat (first | apply Kd.V_alloc | apply Kd.V_drewN | apply Kd.V_drew)); exact HO1.out⟩, ⟨by (with_reducible repeat (first | apply Kd.N_alloc | apply Kd.N_drewN | apply Kd.N_drew)); exact HO426.out⟩, ⟨bB_⟩⟩
 case round =>
  clear H'
  try clear c1
  try clear c2
  try clear p2
  obtain ⟨x5_1, x6_1, x7_1, rfl, rfl, HA, HK1, HO_0, HO_1, HO_5, HB⟩ := hrel
  cases gk with
  | zero => exact absurd HA.out (by simp [spec_l03Add.l0])
  | succ k1 =>
   have H := HA.out
   clear HA
   simp only [spec_l03Add.l0] at H
   by_cases c5 : x7_1 < (l0.length : Int)
   ·rw [if_pos c5] at H
    have c5b0 : decide (x7_1 < (l0.length : Int)) = true := decide_eq_true c5
    clear c5
    by_cases c6 : 0 ≤ x7_1
    ·rw [if_pos c6] at H
     have c6b0 : decide (0 ≤ x7_1) = true := decide_eq_true c6
     clear c6
     replace H := Option.bind_eq_some_iff.mp H
     obtain ⟨t431, A70, H⟩ := H
     try dsimp only at H
     have A7 := Aside0.mk A70
     clear A70
     by_cases c8 : t431 = 0
     ·rw [if_pos c8] at H
      have c8b0 : (t431 == 0) = true := beq_iff_eq.mpr c8
      have c8b1 : (t431 != 0) = false := bne_eq_false_iff_eq.mpr c8
      clear c8
      obtain rfl := Option.some.inj H
      have p430 : 0 ≤ (x7_1 : Int) := of_decide_eq_true aS_
      have q430 : x7_1 < (l0.length : Int) := of_decide_eq_true aS_
      obtain ⟨ad430, A430_0, c430_0, e430, hx430_0, hl430_0, hi430_0⟩ := at_L3 (Kd.V_reads' HO_0.out).2.2 x7_1 p430 q430
      cases e430
      obtain ⟨ce430, hce430, hMe430, hcc430⟩ := Kd.V_get HO_0.out [] x7_1 p430 (by first | exact q430 | exact of_decide_eq_true aS_ | (have e_ := (Kd.V_reads' HO_0.out).1; omega))
      obtain ⟨ua430_0, uc430_0, rfl, ul430_0, ge430_0⟩ := Kd.FK_slice_open hMe430
      have hv430_0 := hcc430 0 _ rfl
      rw [Nat.add_zero, show ((Kd.slice 39 k39)).sz = 1 from rfl, Nat.mul_one] at hv430_0
      replace hv430_0 := Option.some.inj (hv430_0.symm.trans hx430_0)
      injection hv430_0 with hva_ hvn_ hvc_
      rw [hva_] at ge430_0
      rw [hvc_] at ul430_0
      have HL430_0 := Aside0.mk (show Kd.V k39 39 _ w.heap.size _ _ (rd_L3 l0 x7_1) from Kd.V_mk ul430_0 ge430_0)
      clear hva_ hvn_ hvc_ ge430_0 ul430_0
      clear hcc430 hce430
      have HR430_0 := Aside0.mk hi430_0
      have HC430_0 := Aside0.mk hl430_0
      clear hi430_0 hl430_0
      replace p430 := eq_true p430
      replace q430 := eq_true q430
      go_wp2_with (first | ((with_reducible refine gate_callee (f := 52) rfl ?_); refine gL_ (some 21) Tryz.func52 #[.slice A1 l1.length c1, .slice A430_0 (rd_L3 l0 x7_1).length c430_0] ?_; (with_reducible refine (spec_CompareShapes.calls k1 _ _ l1 _ _ (rd_L3 l0 x7_1) t431 _ ?side1 ?side2 ?side3 ?side4 A7.out).mono ?_); (case side1 => exact cS_ ((Kd.V_reads' HO_1.out).2.2)); (case side2 => exact (Kd.V_reads' HO_1.out).2.1); (case side3 => exact cS_ (by repeat (first | (with_reducible exact HR430_0.out) | (with_reducible refine Kd.C_alloc ?_ _) | (with_reducible refine Kd.C_drewN ?_ _) | (with_reducible refine Kd.C_drew ?_) | exact HR430_0.out))); (case side4 => exact HC430_0.out); rintro e w9 ⟨rfl, hb⟩; refine ⟨_, rfl, ?_⟩; replace HO_0 := Aside0.mk (Kd.V_below (by (with_reducible repeat (first | apply Kd.V_alloc | apply Kd.V_drewN | apply Kd.V_drew)); exact HO_0.out) hb); replace HO_1 := Aside0.mk (Kd.V_below (by (with_reducible repeat (first | apply Kd.V_alloc | apply Kd.V_drewN | apply Kd.V_drew)); exact HO_1.out) hb); replace HO_5 := Aside0.mk (Kd.N_below (by (with_reducible repeat (first | apply Kd.N_alloc | apply Kd.N_drewN | apply Kd.N_drew)); exact HO_5.out) hb); replace HL430_0 := Aside0.mk (Kd.V_below (by (with_reducible repeat (first | apply Kd.V_alloc | apply Kd.V_drewN | apply Kd.V_drew)); exact HL430_0.out) hb); replace HR430_0 := Aside0.mk (Kd.C_below (by repeat (first | (with_reducible exact HR430_0.out) | (with_reducible refine Kd.C_alloc ?_ _) | (with_reducible refine Kd.C_drewN ?_ _) | (with_reducible refine Kd.C_drew ?_) | exact HR430_0.out)) hb); replace HB := Aside0.mk (below_step bB_ hb); (try clear hb)))
      go_ret
      exact ⟨_, r2_, by (with_reducible repeat (first | apply Kd.V_alloc | apply Kd.V_drewN | apply Kd.V_drew)); exact Kd.V_mono HO_0.out (fun _ hk => hk.1), bB_⟩
     ·rw [if_neg c8] at H
      have c8b0 : (t431 == 0) = false := beq_eq_false_iff_ne.mpr c8
      have c8b1 : (t431 != 0) = true := bne_iff_ne.mpr c8
      by_cases c10 : t431 < 0
      ·rw [if_pos c10] at H
       have c10b0 : decide (t431 < 0) = true := decide_eq_true c10
       clear c10
       by_cases c11 : x6_1 = true
       ·subst c11
        have H1 : (if x5_1.length < 5864062014805 then (spec_l03Add.l0 k1 l0 l1 (x5_1 ++ [rd_L3 l0 x7_1]) true (wrap64 (x7_1 + 1))) else (none)) = some r := by rw [if_pos rfl] at H; exact H
        clear H
        have H := H1
        clear H1
        by_cases c12 : x5_1.length < 5864062014805
        ·rw [if_pos c12] at H
         have LMc12 := Aside0.mk c12
         clear c12
         obtain ⟨y433, hY_⟩ : ∃ y_ : List (List (S39)), y_ = (x5_1 ++ [rd_L3 l0 x7_1]) := ⟨_, rfl⟩
         replace H : (spec_l03Add.l0 k1 l0 l1 y433 true (wrap64 (x7_1 + 1))) = some r := yY_
         have Ny433 := Aside0.mk hY_
         clear hY_
         have H' := Aside0.mk H
         clear H
         have p430 : 0 ≤ (x7_1 : Int) := of_decide_eq_true aS_
         have q430 : x7_1 < (l0.length : Int) := of_decide_eq_true aS_
         obtain ⟨ad430, A430_0, c430_0, e430, hx430_0, hl430_0, hi430_0⟩ := at_L3 (Kd.V_reads' HO_0.out).2.2 x7_1 p430 q430
         cases e430
         obtain ⟨ce430, hce430, hMe430, hcc430⟩ := Kd.V_get HO_0.out [] x7_1 p430 (by first | exact q430 | exact of_decide_eq_true aS_ | (have e_ := (Kd.V_reads' HO_0.out).1; omega))
         obtain ⟨ua430_0, uc430_0, rfl, ul430_0, ge430_0⟩ := Kd.FK_slice_open hMe430
         have hv430_0 := hcc430 0 _ rfl
         rw [Nat.add_zero, show ((Kd.slice 39 k39)).sz = 1 from rfl, Nat.mul_one] at hv430_0
         replace hv430_0 := Option.some.inj (hv430_0.symm.trans hx430_0)
         injection hv430_0 with hva_ hvn_ hvc_
         rw [hva_] at ge430_0
         rw [hvc_] at ul430_0
         have HL430_0 := Aside0.mk (show Kd.V k39 39 _ w.heap.size _ _ (rd_L3 l0 x7_1) from Kd.V_mk ul430_0 ge430_0)
         clear hva_ hvn_ hvc_ ge430_0 ul430_0
         clear hcc430 hce430
         have HR430_0 := Aside0.mk hi430_0
         have HC430_0 := Aside0.mk hl430_0
         clear hi430_0 hl430_0
         replace p430 := eq_true p430
         replace q430 := eq_true q430
         go_wp2_with (first | ((with_reducible refine gate_callee (f := 52) rfl ?_); refine gL_ (some 21) Tryz.func52 #[.slice A1 l1.length c1, .slice A430_0 (rd_L3 l0 x7_1).length c430_0] ?_; (with_reducible refine (spec_CompareShapes.calls k1 _ _ l1 _ _ (rd_L3 l0 x7_1) t431 _ ?side1 ?side2 ?side3 ?side4 A7.out).mono ?_); (case side1 => exact cS_ ((Kd.V_reads' HO_1.out).2.2)); (case side2 => exact (Kd.V_reads' HO_1.out).2.1); (case side3 => exact cS_ (by repeat (first | (with_reducible exact HR430_0.out) | (with_reducible refine Kd.C_alloc ?_ _) | (with_reducible refine Kd.C_drewN ?_ _) | (with_reducible refine Kd.C_drew ?_) | exact HR430_0.out))); (case side4 => exact HC430_0.out); rintro e w13 ⟨rfl, hb⟩; refine ⟨_, rfl, ?_⟩; replace HO_0 := Aside0.mk (Kd.V_below (by (with_reducible repeat (first | apply Kd.V_alloc | apply Kd.V_drewN | apply Kd.V_drew)); exact HO_0.out) hb); replace HO_1 := Aside0.mk (Kd.V_below (by (with_reducible repeat (first | apply Kd.V_alloc | apply Kd.V_drewN | apply Kd.V_drew)); exact HO_1.out) hb); replace HO_5 := Aside0.mk (Kd.N_below (by (with_reducible repeat (first | apply Kd.N_alloc | apply Kd.N_drewN | apply Kd.N_drew)); exact HO_5.out) hb); replace HL430_0 := Aside0.mk (Kd.V_below (by (with_reducible repeat (first | apply Kd.V_alloc | apply Kd.V_drewN | apply Kd.V_drew)); exact HL430_0.out) hb); replace HR430_0 := Aside0.mk (Kd.C_below (by repeat (first | (with_reducible exact HR430_0.out) | (with_reducible refine Kd.C_alloc ?_ _) | (with_reducible refine Kd.C_drewN ?_ _) | (with_reducible refine Kd.C_drew ?_) | exact HR430_0.out)) hb); replace HB := Aside0.mk (below_step bB_ hb); (try clear hb); have p432 : 0 ≤ (x7_1 : Int) := of_decide_eq_true aS_; have q432 : x7_1 < (l0.length : Int) := of_decide_eq_true aS_; obtain ⟨ad432, A432_0, c432_0, e432, hx432_0, hl432_0, hi432_0⟩ := at_L3 (Kd.V_reads' HO_0.out).2.2 x7_1 p432 q432; obtain rfl : ad430 = ad432 := (by injection e432); obtain ⟨ce432, hce432, hMe432, hcc432⟩ := Kd.V_get HO_0.out [] x7_1 p432 (by first | exact q432 | exact of_decide_eq_true aS_ | (have e_ := (Kd.V_reads' HO_0.out).1; omega)); obtain ⟨ua432_0, uc432_0, rfl, ul432_0, ge432_0⟩ := Kd.FK_slice_open hMe432; have hv432_0 := hcc432 0 _ rfl; rw [Nat.add_zero, show ((Kd.slice 39 k39)).sz = 1 from rfl, Nat.mul_one] at hv432_0; replace hv432_0 := Option.some.inj (hv432_0.symm.trans hx432_0); injection hv432_0 with hva_ hvn_ hvc_; rw [hva_] at ge432_0; rw [hvc_] at ul432_0; have HL432_0 := Aside0.mk (show Kd.V k39 39 _ w.heap.size _ _ (rd_L3 l0 x7_1) from Kd.V_mk ul432_0 ge432_0); clear hva_ hvn_ hvc_ ge432_0 ul432_0; clear hcc432 hce432; have HR432_0 := Aside0.mk hi432_0; have HC432_0 := Aside0.mk hl432_0; clear hi432_0 hl432_0; replace p432 := eq_true p432; replace q432 := eq_true q432) | ((with_reducible refine gate_builtin (b := .append) (xs := #[.tmp 35, .tmp 40]) rfl ?_); at_builtin; refine Kd.N_append (Kd.slice 39 k39) (w0 := w) w.heap.size rfl (.tmp 35) (.tmp 40) 26 24 (.slice none 0 0) 24 rfl Tryz.underlying26 info24 rfl (by decide) (by omega) u5 x5_1 (rd_L3 l0 x7_1) [.slice A432_0 (rd_L3 l0 x7_1).length c432_0] (fun k_ => ((P0_ k_ ∨ P1_ k_) ∨ w.heap.size ≤ k_)) (fun k_ => ((fun k_ => ((P0_ k_ ∨ P1_ k_) ∨ w.heap.size ≤ k_))) k_ ∧ some k_ ≠ (u5 : Value).ownBlock) rfl rfl ?aP (fun _ hk => hk) ?aF ?aO ?aB ?aS ?aL ?_; (case aP => exact (Kd.FK_slice_mk (Kd.V_reads' (Kd.V_mono (ok' := (fun k_ => ((fun k_ => ((P0_ k_ ∨ P1_ k_) ∨ w.heap.size ≤ k_))) k_ ∧ some k_ ≠ (u5 : Value).ownBlock)) (HL432_0.out) (fun k_ hk => ⟨hk.1, hk.2⟩))).2.1 (Kd.V_F (Kd.V_mono (ok' := (fun k_ => ((fun k_ => ((P0_ k_ ∨ P1_ k_) ∨ w.heap.size ≤ k_))) k_ ∧ some k_ ≠ (u5 : Value).ownBlock)) (HL432_0.out) (fun k_ hk => ⟨hk.1, hk.2⟩))))); (case aB => exact bB_); (case aF => exact (fun k_ hk => (.inr (Nat.le_trans (below_size bB_) hk)))); (case aO => exact (by (with_reducible repeat (first | apply Kd.N_alloc | apply Kd.N_drewN | apply Kd.N_drew)); exact HO_5.out)); (case aS => exact (below_size bB_)); (case aL => have := LMc12.out; omega); intro v434 w14 ho hb hg hat; rw [← Ny433.out] at ho; replace HO_0 := Aside0.mk (Kd.V_afterv (ok := (fun k_ => ((P0_ k_ ∨ P1_ k_) ∨ w.heap.size ≤ k_))) (by (with_reducible repeat (first | apply Kd.V_alloc | apply Kd.V_drewN | apply Kd.V_drew)); exact HO_0.out) hg hat); replace HO_1 := Aside0.mk (Kd.V_afterv (ok := (fun k_ => ((P0_ k_ ∨ P1_ k_) ∨ w.heap.size ≤ k_))) (by (with_reducible repeat (first | apply Kd.V_alloc | apply Kd.V_drewN | apply Kd.V_drew)); exact HO_1.out) hg hat); replace HL430_0 := Aside0.mk (Kd.V_afterv (ok := (fun k_ => ((P0_ k_ ∨ P1_ k_) ∨ w.heap.size ≤ k_))) (by (with_reducible repeat (first | apply Kd.V_alloc | apply Kd.V_drewN | apply Kd.V_drew)); exact HL430_0.out) hg hat); replace HL432_0 := Aside0.mk (Kd.V_afterv (ok := (fun k_ => ((P0_ k_ ∨ P1_ k_) ∨ w.heap.size ≤ k_))) (by (with_reducible repeat (first | apply Kd.V_alloc | apply Kd.V_drewN | apply Kd.V_drew)); exact HL432_0.out) hg hat); replace HB := Aside0.mk (hb); have HO435 := Aside0.mk (ho); clear HO_5; clear ho hb hg hat))
         go_roundg k1
         case measure => have := HK1.out; omega
         case rel => exact ⟨(y433), (true), (wrap64 (x7_1 + 1)), r3_, r3_, H', ⟨by have := HK1.out; omega⟩, ⟨by (with_reducible repeat (first | apply Kd.V_alloc | apply Kd.V_drewN | apply Kd.V_drew)); exact HO_0.out⟩, ⟨by (with_reducible repeat (first | apply Kd.V_alloc | apply Kd.V_drewN | apply Kd.V_drew)); exact HO_1.out⟩, ⟨by (with_reducible repeat (first | apply Kd.N_alloc | apply Kd.N_drewN | apply Kd.N_drew)); exact HO435.out⟩, ⟨bB_⟩⟩
        ·rw [if_neg c12] at H
         exact absurd H (by simp)
       ·replace c11 := Bool.eq_false_iff.mpr c11
        subst c11
        have H1 : (if x5_1.length < 5864062014805 then ((some (x5_1 ++ [l1] : List (List (S39)))).bind fun y436 => (if y436.length < 5864062014805 then (spec_l03Add.l0 k1 l0 l1 (y436 ++ [rd_L3 l0 x7_1]) true (wrap64 (x7_1 + 1))) else (none))) else (none)) = some r := by rw [if_neg (show ¬ (false = true) by decide)] at H; exact H
        clear H
        have H := H1
        clear H1
        by_cases c15 : x5_1.length < 5864062014805
        ·rw [if_pos c15] at H
         have LMc15 := Aside0.mk c15
         clear c15
         obtain ⟨y436, hY_⟩ : ∃ y_ : List (List (S39)), y_ = (x5_1 ++ [l1]) := ⟨_, rfl⟩
         replace H : (if y436.length < 5864062014805 then (spec_l03Add.l0 k1 l0 l1 (y436 ++ [rd_L3 l0 x7_1]) true (wrap64 (x7_1 + 1))) else (none)) = some r := yY_
         have Ny436 := Aside0.mk hY_
         clear hY_
         by_cases c16 : y436.length < 5864062014805
         ·rw [if_pos c16] at H
          have LMc16 := Aside0.mk c16
          clear c16
          obtain ⟨y440, hY_⟩ : ∃ y_ : List (List (S39)), y_ = (y436 ++ [rd_L3 l0 x7_1]) := ⟨_, rfl⟩
          replace H : (spec_l03Add.l0 k1 l0 l1 y440 true (wrap64 (x7_1 + 1))) = some r := yY_
          have Ny440 := Aside0.mk hY_
          clear hY_
          have H' := Aside0.mk H
          clear H
          have p430 : 0 ≤ (x7_1 : Int) := of_decide_eq_true aS_
          have q430 : x7_1 < (l0.length : Int) := of_decide_eq_true aS_
          obtain ⟨ad430, A430_0, c430_0, e430, hx430_0, hl430_0, hi430_0⟩ := at_L3 (Kd.V_reads' HO_0.out).2.2 x7_1 p430 q430
          cases e430
          obtain ⟨ce430, hce430, hMe430, hcc430⟩ := Kd.V_get HO_0.out [] x7_1 p430 (by first | exact q430 | exact of_decide_eq_true aS_ | (have e_ := (Kd.V_reads' HO_0.out).1; omega))
          obtain ⟨ua430_0, uc430_0, rfl, ul430_0, ge430_0⟩ := Kd.FK_slice_open hMe430
          have hv430_0 := hcc430 0 _ rfl
          rw [Nat.add_zero, show ((Kd.slice 39 k39)).sz = 1 from rfl, Nat.mul_one] at hv430_0
          replace hv430_0 := Option.some.inj (hv430_0.symm.trans hx430_0)
          injection hv430_0 with hva_ hvn_ hvc_
          rw [hva_] at ge430_0
          rw [hvc_] at ul430_0
          have HL430_0 := Aside0.mk (show Kd.V k39 39 _ w.heap.size _ _ (rd_L3 l0 x7_1) from Kd.V_mk ul430_0 ge430_0)
          clear hva_ hvn_ hvc_ ge430_0 ul430_0
          clear hcc430 hce430
          have HR430_0 := Aside0.mk hi430_0
          have HC430_0 := Aside0.mk hl430_0
          clear hi430_0 hl430_0
          replace p430 := eq_true p430
          replace q430 := eq_true q430
          go_wp2_with (first | ((with_reducible refine gate_callee (f := 52) rfl ?_); refine gL_ (some 21) Tryz.func52 #[.slice A1 l1.length c1, .slice A430_0 (rd_L3 l0 x7_1).length c430_0] ?_; (with_reducible refine (spec_CompareShapes.calls k1 _ _ l1 _ _ (rd_L3 l0 x7_1) t431 _ ?side1 ?side2 ?side3 ?side4 A7.out).mono ?_); (case side1 => exact cS_ ((Kd.V_reads' HO_1.out).2.2)); (case side2 => exact (Kd.V_reads' HO_1.out).2.1); (case side3 => exact cS_ (by repeat (first | (with_reducible exact HR430_0.out) | (with_reducible refine Kd.C_alloc ?_ _) | (with_reducible refine Kd.C_drewN ?_ _) | (with_reducible refine Kd.C_drew ?_) | exact HR430_0.out))); (case side4 => exact HC430_0.out); rintro e w17 ⟨rfl, hb⟩; refine ⟨_, rfl, ?_⟩; replace HO_0 := Aside0.mk (Kd.V_below (by (with_reducible repeat (first | apply Kd.V_alloc | apply Kd.V_drewN | apply Kd.V_drew)); exact HO_0.out) hb); replace HO_1 := Aside0.mk (Kd.V_below (by (with_reducible repeat (first | apply Kd.V_alloc | apply Kd.V_drewN | apply Kd.V_drew)); exact HO_1.out) hb); replace HO_5 := Aside0.mk (Kd.N_below (by (with_reducible repeat (first | apply Kd.N_alloc | apply Kd.N_drewN | apply Kd.N_drew)); exact HO_5.out) hb); replace HL430_0 := Aside0.mk (Kd.V_below (by (with_reducible repeat (first | apply Kd.V_alloc | apply Kd.V_drewN | apply Kd.V_drew)); exact HL430_0.out) hb); replace HR430_0 := Aside0.mk (Kd.C_below (by repeat (first | (with_reducible exact HR430_0.out) | (with_reducible refine Kd.C_alloc ?_ _) | (with_reducible refine Kd.C_drewN ?_ _) | (with_reducible refine Kd.C_drew ?_) | exact HR430_0.out)) hb); replace HB := Aside0.mk (below_step bB_ hb); (try clear hb)) | ((with_reducible refine gate_builtin (b := .append) (xs := #[.tmp 31, .tmp 33]) rfl ?_); at_builtin; refine Kd.N_append (Kd.slice 39 k39) (w0 := w) w.heap.size rfl (.tmp 31) (.tmp 33) 26 24 (.slice none 0 0) 24 rfl Tryz.underlying26 info24 rfl (by decide) (by omega) u5 x5_1 l1 [.slice A1 l1.length c1] (fun k_ => ((P0_ k_ ∨ P1_ k_) ∨ w.heap.size ≤ k_)) (fun k_ => ((fun k_ => ((P0_ k_ ∨ P1_ k_) ∨ w.heap.size ≤ k_))) k_ ∧ some k_ ≠ (u5 : Value).ownBlock) rfl rfl ?aP (fun _ hk => hk) ?aF ?aO ?aB ?aS ?aL ?_; (case aP => exact (Kd.FK_slice_mk (Kd.V_reads' (Kd.V_mono (ok' := (fun k_ => ((fun k_ => ((P0_ k_ ∨ P1_ k_) ∨ w.heap.size ≤ k_))) k_ ∧ some k_ ≠ (u5 : Value).ownBlock)) (HO_1.out) (fun k_ hk => ⟨hk.1, hk.2⟩))).2.1 (Kd.V_F (Kd.V_mono (ok' := (fun k_ => ((fun k_ => ((P0_ k_ ∨ P1_ k_) ∨ w.heap.size ≤ k_))) k_ ∧ some k_ ≠ (u5 : Value).ownBlock)) (HO_1.out) (fun k_ hk => ⟨hk.1, hk.2⟩))))); (case aB => exact bB_); (case aF => exact (fun k_ hk => (.inr (Nat.le_trans (below_size bB_) hk)))); (case aO => exact (by (with_reducible repeat (first | apply Kd.N_alloc | apply Kd.N_drewN | apply Kd.N_drew)); exact HO_5.out)); (case aS => exact (below_size bB_)); (case aL => have := LMc15.out; omega); intro v437 w18 ho hb hg hat; rw [← Ny436.out] at ho; replace HO_0 := Aside0.mk (Kd.V_afterv (ok := (fun k_ => ((P0_ k_ ∨ P1_ k_) ∨ w.heap.size ≤ k_))) (by (with_reducible repeat (first | apply Kd.V_alloc | apply Kd.V_drewN | apply Kd.V_drew)); exact HO_0.out) hg hat); replace HO_1 := Aside0.mk (Kd.V_afterv (ok := (fun k_ => ((P0_ k_ ∨ P1_ k_) ∨ w.heap.size ≤ k_))) (by (with_reducible repeat (first | apply Kd.V_alloc | apply Kd.V_drewN | apply Kd.V_drew)); exact HO_1.out) hg hat); replace HL430_0 := Aside0.mk (Kd.V_afterv (ok := (fun k_ => ((P0_ k_ ∨ P1_ k_) ∨ w.heap.size ≤ k_))) (by (with_reducible repeat (first | apply Kd.V_alloc | apply Kd.V_drewN | apply Kd.V_drew)); exact HL430_0.out) hg hat); replace HB := Aside0.mk (hb); have HO438 := Aside0.mk (ho); clear HO_5; clear ho hb hg hat; have p439 : 0 ≤ (x7_1 : Int) := of_decide_eq_true aS_; have q439 : x7_1 < (l0.length : Int) := of_decide_eq_true aS_; obtain ⟨ad439, A439_0, c439_0, e439, hx439_0, hl439_0, hi439_0⟩ := at_L3 (Kd.V_reads' HO_0.out).2.2 x7_1 p439 q439; obtain rfl : ad430 = ad439 := (by injection e439); obtain ⟨ce439, hce439, hMe439, hcc439⟩ := Kd.V_get HO_0.out [] x7_1 p439 (by first | exact q439 | exact of_decide_eq_true aS_ | (have e_ := (Kd.V_reads' HO_0.out).1; omega)); obtain ⟨ua439_0, uc439_0, rfl, ul439_0, ge439_0⟩ := Kd.FK_slice_open hMe439; have hv439_0 := hcc439 0 _ rfl; rw [Nat.add_zero, show ((Kd.slice 39 k39)).sz = 1 from rfl, Nat.mul_one] at hv439_0; replace hv439_0 := Option.some.inj (hv439_0.symm.trans hx439_0); injection hv439_0 with hva_ hvn_ hvc_; rw [hva_] at ge439_0; rw [hvc_] at ul439_0; have HL439_0 := Aside0.mk (show Kd.V k39 39 _ w.heap.size _ _ (rd_L3 l0 x7_1) from Kd.V_mk ul439_0 ge439_0); clear hva_ hvn_ hvc_ ge439_0 ul439_0; clear hcc439 hce439; have HR439_0 := Aside0.mk hi439_0; have HC439_0 := Aside0.mk hl439_0; clear hi439_0 hl439_0; replace p439 := eq_true p439; replace q439 := eq_true q439) | ((with_reducible refine gate_builtin (b := .append) (xs := #[.tmp 35, .tmp 40]) rfl ?_); at_builtin; refine Kd.N_append (Kd.slice 39 k39) (w0 := w) w.heap.size rfl (.tmp 35) (.tmp 40) 26 24 (.slice none 0 0) 24 rfl Tryz.underlying26 info24 rfl (by decide) (by omega) v437 y436 (rd_L3 l0 x7_1) [.slice A439_0 (rd_L3 l0 x7_1).length c439_0] (fun k_ => ((P0_ k_ ∨ P1_ k_) ∨ w.heap.size ≤ k_)) (fun k_ => ((fun k_ => ((P0_ k_ ∨ P1_ k_) ∨ w.heap.size ≤ k_))) k_ ∧ some k_ ≠ (v437 : Value).ownBlock) rfl rfl ?aP (fun _ hk => hk) ?aF ?aO ?aB ?aS ?aL ?_; (case aP => exact (Kd.FK_slice_mk (Kd.V_reads' (Kd.V_mono (ok' := (fun k_ => ((fun k_ => ((P0_ k_ ∨ P1_ k_) ∨ w.heap.size ≤ k_))) k_ ∧ some k_ ≠ (v437 : Value).ownBlock)) (HL439_0.out) (fun k_ hk => ⟨hk.1, hk.2⟩))).2.1 (Kd.V_F (Kd.V_mono (ok' := (fun k_ => ((fun k_ => ((P0_ k_ ∨ P1_ k_) ∨ w.heap.size ≤ k_))) k_ ∧ some k_ ≠ (v437 : Value).ownBlock)) (HL439_0.out) (fun k_ hk => ⟨hk.1, hk.2⟩))))); (case aB => exact bB_); (case aF => exact (fun k_ hk => (.inr (Nat.le_trans (below_size bB_) hk)))); (case aO => exact (by (with_reducible repeat (first | apply Kd.N_alloc | apply Kd.N_drewN | apply Kd.N_drew)); exact HO438.out)); (case aS => exact (below_size bB_)); (case aL => have := LMc16.out; omega); intro v441 w19 ho hb hg hat; rw [← Ny440.out] at ho; replace HO_0 := Aside0.mk (Kd.V_afterv (ok := (fun k_ => ((P0_ k_ ∨ P1_ k_) ∨ w.heap.size ≤ k_))) (by (with_reducible repeat (first | apply Kd.V_alloc | apply Kd.V_drewN | apply Kd.V_drew)); exact HO_0.out) hg hat); replace HO_1 := Aside0.mk (Kd.V_afterv (ok := (fun k_ => ((P0_ k_ ∨ P1_ k_) ∨ w.heap.size ≤ k_))) (by (with_reducible repeat (first | apply Kd.V_alloc | apply Kd.V_drewN | apply Kd.V_drew)); exact HO_1.out) hg hat); replace HL430_0 := Aside0.mk (Kd.V_afterv (ok := (fun k_ => ((P0_ k_ ∨ P1_ k_) ∨ w.heap.size ≤ k_))) (by (with_reducible repeat (first | apply Kd.V_alloc | apply Kd.V_drewN | apply Kd.V_drew)); exact HL430_0.out) hg hat); replace HL439_0 := Aside0.mk (Kd.V_afterv (ok := (fun k_ => ((P0_ k_ ∨ P1_ k_) ∨ w.heap.size ≤ k_))) (by (with_reducible repeat (first | apply Kd.V_alloc | apply Kd.V_drewN | apply Kd.V_drew)); exact HL439_0.out) hg hat); replace HB := Aside0.mk (hb); have HO442 := Aside0.mk (ho); clear HO438; clear ho hb hg hat))
          go_roundg k1
          case measure => have := HK1.out; omega
          case rel => exact ⟨(y440), (true), (wrap64 (x7_1 + 1)), r3_, r3_, H', ⟨by have := HK1.out; omega⟩, ⟨by (with_reducible repeat (first | apply Kd.V_alloc | apply Kd.V_drewN | apply Kd.V_drew)); exact HO_0.out⟩, ⟨by (with_reducible repeat (first | apply Kd.V_alloc | apply Kd.V_drewN | apply Kd.V_drew)); exact HO_1.out⟩, ⟨by (with_reducible repeat (first | apply Kd.N_alloc | apply Kd.N_drewN | apply Kd.N_drew)); exact HO442.out⟩, ⟨bB_⟩⟩
         ·rw [if_neg c16] at H
          exact absurd H (by simp)
        ·rw [if_neg c15] at H
         exact absurd H (by simp)
      ·rw [if_neg c10] at H
       have c10b0 : decide (t431 < 0) = false := decide_eq_false c10
       clear c10
       by_cases c20 : x5_1.length < 5864062014805
       ·rw [if_pos c20] at H
        have LMc20 := Aside0.mk c20
        clear c20
        obtain ⟨y444, hY_⟩ : ∃ y_ : List (List (S39)), y_ = (x5_1 ++ [rd_L3 l0 x7_1]) := ⟨_, rfl⟩
        replace H : (spec_l03Add.l0 k1 l0 l1 y444 x6_1 (wrap64 (x7_1 + 1))) = some r := yY_
        have Ny444 := Aside0.mk hY_
        clear hY_
        have H' := Aside0.mk H
        clear H
        have p430 : 0 ≤ (x7_1 : Int) := of_decide_eq_true aS_
        have q430 : x7_1 < (l0.length : Int) := of_decide_eq_true aS_
        obtain ⟨ad430, A430_0, c430_0, e430, hx430_0, hl430_0, hi430_0⟩ := at_L3 (Kd.V_reads' HO_0.out).2.2 x7_1 p430 q430
        cases e430
        obtain ⟨ce430, hce430, hMe430, hcc430⟩ := Kd.V_get HO_0.out [] x7_1 p430 (by first | exact q430 | exact of_decide_eq_true aS_ | (have e_ := (Kd.V_reads' HO_0.out).1; omega))
        obtain ⟨ua430_0, uc430_0, rfl, ul430_0, ge430_0⟩ := Kd.FK_slice_open hMe430
        have hv430_0 := hcc430 0 _ rfl
        rw [Nat.add_zero, show ((Kd.slice 39 k39)).sz = 1 from rfl, Nat.mul_one] at hv430_0
        replace hv430_0 := Option.some.inj (hv430_0.symm.trans hx430_0)
        injection hv430_0 with hva_ hvn_ hvc_
        rw [hva_] at ge430_0
        rw [hvc_] at ul430_0
        have HL430_0 := Aside0.mk (show Kd.V k39 39 _ w.heap.size _ _ (rd_L3 l0 x7_1) from Kd.V_mk ul430_0 ge430_0)
        clear hva_ hvn_ hvc_ ge430_0 ul430_0
        clear hcc430 hce430
        have HR430_0 := Aside0.mk hi430_0
        have HC430_0 := Aside0.mk hl430_0
        clear hi430_0 hl430_0
        replace p430 := eq_true p430
        replace q430 := eq_true q430
        go_wp2_with (first | ((with_reducible refine gate_callee (f := 52) rfl ?_); refine gL_ (some 21) Tryz.func52 #[.slice A1 l1.length c1, .slice A430_0 (rd_L3 l0 x7_1).length c430_0] ?_; (with_reducible refine (spec_CompareShapes.calls k1 _ _ l1 _ _ (rd_L3 l0 x7_1) t431 _ ?side1 ?side2 ?side3 ?side4 A7.out).mono ?_); (case side1 => exact cS_ ((Kd.V_reads' HO_1.out).2.2)); (case side2 => exact (Kd.V_reads' HO_1.out).2.1); (case side3 => exact cS_ (by repeat (first | (with_reducible exact HR430_0.out) | (with_reducible refine Kd.C_alloc ?_ _) | (with_reducible refine Kd.C_drewN ?_ _) | (with_reducible refine Kd.C_drew ?_) | exact HR430_0.out))); (case side4 => exact HC430_0.out); rintro e w21 ⟨rfl, hb⟩; refine ⟨_, rfl, ?_⟩; replace HO_0 := Aside0.mk (Kd.V_below (by (with_reducible repeat (first | apply Kd.V_alloc | apply Kd.V_drewN | apply Kd.V_drew)); exact HO_0.out) hb); replace HO_1 := Aside0.mk (Kd.V_below (by (with_reducible repeat (first | apply Kd.V_alloc | apply Kd.V_drewN | apply Kd.V_drew)); exact HO_1.out) hb); replace HO_5 := Aside0.mk (Kd.N_below (by (with_reducible repeat (first | apply Kd.N_alloc | apply Kd.N_drewN | apply Kd.N_drew)); exact HO_5.out) hb); replace HL430_0 := Aside0.mk (Kd.V_below (by (with_reducible repeat (first | apply Kd.V_alloc | apply Kd.V_drewN | apply Kd.V_drew)); exact HL430_0.out) hb); replace HR430_0 := Aside0.mk (Kd.C_below (by repeat (first | (with_reducible exact HR430_0.out) | (with_reducible refine Kd.C_alloc ?_ _) | (with_reducible refine Kd.C_drewN ?_ _) | (with_reducible refine Kd.C_drew ?_) | exact HR430_0.out)) hb); replace HB := Aside0.mk (below_step bB_ hb); (try clear hb); have p443 : 0 ≤ (x7_1 : Int) := of_decide_eq_true aS_; have q443 : x7_1 < (l0.length : Int) := of_decide_eq_true aS_; obtain ⟨ad443, A443_0, c443_0, e443, hx443_0, hl443_0, hi443_0⟩ := at_L3 (Kd.V_reads' HO_0.out).2.2 x7_1 p443 q443; obtain rfl : ad430 = ad443 := (by injection e443); obtain ⟨ce443, hce443, hMe443, hcc443⟩ := Kd.V_get HO_0.out [] x7_1 p443 (by first | exact q443 | exact of_decide_eq_true aS_ | (have e_ := (Kd.V_reads' HO_0.out).1; omega)); obtain ⟨ua443_0, uc443_0, rfl, ul443_0, ge443_0⟩ := Kd.FK_slice_open hMe443; have hv443_0 := hcc443 0 _ rfl; rw [Nat.add_zero, show ((Kd.slice 39 k39)).sz = 1 from rfl, Nat.mul_one] at hv443_0; replace hv443_0 := Option.some.inj (hv443_0.symm.trans hx443_0); injection hv443_0 with hva_ hvn_ hvc_; rw [hva_] at ge443_0; rw [hvc_] at ul443_0; have HL443_0 := Aside0.mk (show Kd.V k39 39 _ w.heap.size _ _ (rd_L3 l0 x7_1) from Kd.V_mk ul443_0 ge443_0); clear hva_ hvn_ hvc_ ge443_0 ul443_0; clear hcc443 hce443; have HR443_0 := Aside0.mk hi443_0; have HC443_0 := Aside0.mk hl443_0; clear hi443_0 hl443_0; replace p443 := eq_true p443; replace q443 := eq_true q443) | ((with_reducible refine gate_builtin (b := .append) (xs := #[.tmp 35, .tmp 40]) rfl ?_); at_builtin; refine Kd.N_append (Kd.slice 39 k39) (w0 := w) w.heap.size rfl (.tmp 35) (.tmp 40) 26 24 (.slice none 0 0) 24 rfl Tryz.underlying26 info24 rfl (by decide) (by omega) u5 x5_1 (rd_L3 l0 x7_1) [.slice A443_0 (rd_L3 l0 x7_1).length c443_0] (fun k_ => ((P0_ k_ ∨ P1_ k_) ∨ w.heap.size ≤ k_)) (fun k_ => ((fun k_ => ((P0_ k_ ∨ P1_ k_) ∨ w.heap.size ≤ k_))) k_ ∧ some k_ ≠ (u5 : Value).ownBlock) rfl rfl ?aP (fun _ hk => hk) ?aF ?aO ?aB ?aS ?aL ?_; (case aP => exact (Kd.FK_slice_mk (Kd.V_reads' (Kd.V_mono (ok' := (fun k_ => ((fun k_ => ((P0_ k_ ∨ P1_ k_) ∨ w.heap.size ≤ k_))) k_ ∧ some k_ ≠ (u5 : Value).ownBlock)) (HL443_0.out) (fun k_ hk => ⟨hk.1, hk.2⟩))).2.1 (Kd.V_F (Kd.V_mono (ok' := (fun k_ => ((fun k_ => ((P0_ k_ ∨ P1_ k_) ∨ w.heap.size ≤ k_))) k_ ∧ some k_ ≠ (u5 : Value).ownBlock)) (HL443_0.out) (fun k_ hk => ⟨hk.1, hk.2⟩))))); (case aB => exact bB_); (case aF => exact (fun k_ hk => (.inr (Nat.le_trans (below_size bB_) hk)))); (case aO => exact (by (with_reducible repeat (first | apply Kd.N_alloc | apply Kd.N_drewN | apply Kd.N_drew)); exact HO_5.out)); (case aS => exact (below_size bB_)); (case aL => have := LMc20.out; omega); intro v445 w22 ho hb hg hat; rw [← Ny444.out] at ho; replace HO_0 := Aside0.mk (Kd.V_afterv (ok := (fun k_ => ((P0_ k_ ∨ P1_ k_) ∨ w.heap.size ≤ k_))) (by (with_reducible repeat (first | apply Kd.V_alloc | apply Kd.V_drewN | apply Kd.V_drew)); exact HO_0.out) hg hat); replace HO_1 := Aside0.mk (Kd.V_afterv (ok := (fun k_ => ((P0_ k_ ∨ P1_ k_) ∨ w.heap.size ≤ k_))) (by (with_reducible repeat (first | apply Kd.V_alloc | apply Kd.V_drewN | apply Kd.V_drew)); exact HO_1.out) hg hat); replace HL430_0 := Aside0.mk (Kd.V_afterv (ok := (fun k_ => ((P0_ k_ ∨ P1_ k_) ∨ w.heap.size ≤ k_))) (by (with_reducible repeat (first | apply Kd.V_alloc | apply Kd.V_drewN | apply Kd.V_drew)); exact HL430_0.out) hg hat); replace HL443_0 := Aside0.mk (Kd.V_afterv (ok := (fun k_ => ((P0_ k_ ∨ P1_ k_) ∨ w.heap.size ≤ k_))) (by (with_reducible repeat (first | apply Kd.V_alloc | apply Kd.V_drewN | apply Kd.V_drew)); exact HL443_0.out) hg hat); replace HB := Aside0.mk (hb); have HO446 := Aside0.mk (ho); clear HO_5; clear ho hb hg hat))
        go_roundg k1
        case measure => have := HK1.out; omega
        case rel => exact ⟨(y444), (x6_1), (wrap64 (x7_1 + 1)), r3_, r3_, H', ⟨by have := HK1.out; omega⟩, ⟨by (with_reducible repeat (first | apply Kd.V_alloc | apply Kd.V_drewN | apply Kd.V_drew)); exact HO_0.out⟩, ⟨by (with_reducible repeat (first | apply Kd.V_alloc | apply Kd.V_drewN | apply Kd.V_drew)); exact HO_1.out⟩, ⟨by (with_reducible repeat (first | apply Kd.N_alloc | apply Kd.N_drewN | apply Kd.N_drew)); exact HO446.out⟩, ⟨bB_⟩⟩
       ·rw [if_neg c20] at H
        exact absurd H (by simp)
    ·rw [if_neg c6] at H
     exact absurd H (by simp)
   ·rw [if_neg c5] at H
    have c5b0 : decide (x7_1 < (l0.length : Int)) = false := decide_eq_false c5
    clear c5
    by_cases c23 : x6_1 = true
    ·subst c23
     have H1 : (some x5_1) = some r := by rw [if_pos rfl] at H; exact H
     clear H
     have H := H1
     clear H1
     obtain rfl := Option.some.inj H
     go_wp2
     go_ret
     exact ⟨_, r2_, Kd.N_V (by (with_reducible repeat (first | apply Kd.N_alloc | apply Kd.N_drewN | apply Kd.N_drew)); exact HO_5.out), bB_⟩
    ·replace c23 := Bool.eq_false_iff.mpr c23
     subst c23
     have H1 : (if x5_1.length < 5864062014805 then (some (x5_1 ++ [l1])) else (none)) = some r := by rw [if_neg (show ¬ (false = true) by decide)] at H; exact H
     clear H
     have H := H1
     clear H1
     by_cases c24 : x5_1.length < 5864062014805
     ·rw [if_pos c24] at H
      have LMc24 := Aside0.mk c24
      clear c24
      obtain ⟨y427, hY_⟩ : ∃ y_ : List (List (S39)), y_ = (x5_1 ++ [l1]) := ⟨_, rfl⟩
      replace H : (some y427) = some r := yY_
      have Ny427 := Aside0.mk hY_
      clear hY_
      obtain rfl := Option.some.inj H
      go_wp2_with (first | ((with_reducible refine gate_builtin (b := .append) (xs := #[.tmp 44, .tmp 46]) rfl ?_); at_builtin; refine Kd.N_append (Kd.slice 39 k39) (w0 := w) w.heap.size rfl (.tmp 44) (.tmp 46) 26 24 (.slice none 0 0) 24 rfl Tryz.underlying26 info24 rfl (by decide) (by omega) u5 x5_1 l1 [.slice A1 l1.length c1] (fun k_ => ((P0_ k_ ∨ P1_ k_) ∨ w.heap.size ≤ k_)) (fun k_ => ((fun k_ => ((P0_ k_ ∨ P1_ k_) ∨ w.heap.size ≤ k_))) k_ ∧ some k_ ≠ (u5 : Value).ownBlock) rfl rfl ?aP (fun _ hk => hk) ?aF ?aO ?aB ?aS ?aL ?_; (case aP => exact (Kd.FK_slice_mk (Kd.V_reads' (Kd.V_mono (ok' := (fun k_ => ((fun k_ => ((P0_ k_ ∨ P1_ k_) ∨ w.heap.size ≤ k_))) k_ ∧ some k_ ≠ (u5 : Value).ownBlock)) (HO_1.out) (fun k_ hk => ⟨hk.1, hk.2⟩))).2.1 (Kd.V_F (Kd.V_mono (ok' := (fun k_ => ((fun k_ => ((P0_ k_ ∨ P1_ k_) ∨ w.heap.size ≤ k_))) k_ ∧ some k_ ≠ (u5 : Value).ownBlock)) (HO_1.out) (fun k_ hk => ⟨hk.1, hk.2⟩))))); (case aB => exact bB_); (case aF => exact (fun k_ hk => (.inr (Nat.le_trans (below_size bB_) hk)))); (case aO => exact (by (with_reducible repeat (first | apply Kd.N_alloc | apply Kd.N_drewN | apply Kd.N_drew)); exact HO_5.out)); (case aS => exact (below_size bB_)); (case aL => have := LMc24.out; omega); intro v428 w25 ho hb hg hat; rw [← Ny427.out] at ho; replace HO_0 := Aside0.mk (Kd.V_afterv (ok := (fun k_ => ((P0_ k_ ∨ P1_ k_) ∨ w.heap.size ≤ k_))) (by (with_reducible repeat (first | apply Kd.V_alloc | apply Kd.V_drewN | apply Kd.V_drew)); exact HO_0.out) hg hat); replace HO_1 := Aside0.mk (Kd.V_afterv (ok := (fun k_ => ((P0_ k_ ∨ P1_ k_) ∨ w.heap.size ≤ k_))) (by (with_reducible repeat (first | apply Kd.V_alloc | apply Kd.V_drewN | apply Kd.V_drew)); exact HO_1.out) hg hat); replace HB := Aside0.mk (hb); have HO429 := Aside0.mk (ho); clear HO_5; clear ho hb hg hat))
      go_ret
      exact ⟨_, r2_, Kd.N_V (by (with_reducible repeat (first | apply Kd.N_alloc | apply Kd.N_drewN | apply Kd.N_drew)); exact HO429.out), bB_⟩
     ·rw [if_neg c24] at H
      exact absurd H (by simp)

/-! ### spec_ShrinkShape: function 7 -/
def spec_ShrinkShape.l0 : Nat → List (S39) → List (List (S39)) → Int → Option ((List (List (S39))) × Int)
 | 0, _, _, _ => none
 | k + 1, x0, x5, x6 => if x6 < (x0.length : Int) then ((spec_l05Without.f x0 x6).bind fun t451 => ((spec_l02Parts.f k t451).bind fun t454 => ((spec_l02One.f k t454).bind fun t457 => (if t457 = true then ((spec_l02Normal.f k t451).bind fun t458 => ((spec_l03Add.f k x5 t458).bind fun t461 => (spec_ShrinkShape.l0 k x0 t461 (wrap64 (x6 + 1))))) else (spec_ShrinkShape.l0 k x0 x5 (wrap64 (x6 + 1))))))) else (some (x5, 0))
def spec_ShrinkShape.f (k : Nat) (l0 : List (S39)) : Option ((List (List (S39))) × Int) := (spec_l05Code.f k l0).bind fun t447 => (if t447 = 0 then (if (l0.length : Int) = 1 then (some (([] : List (List (S39))), 5)) else (spec_ShrinkShape.l0 k l0 (([] : List (List (S39)))) 0)) else (some (([] : List (List (S39))), t447)))
theorem spec_ShrinkShape.mono_l : ∀ k, (∀ y0 y1 y2, LeO (spec_ShrinkShape.l0 k y0 y1 y2) (spec_ShrinkShape.l0 (k + 1) y0 y1 y2))
 | 0 => fun _ _ _ r h => by simp [spec_ShrinkShape.l0] at h
 | k + 1 => by
  have ih0 := spec_ShrinkShape.mono_l k
  ·intro y0 y1 y2
   unfold spec_ShrinkShape.l0
   repeat' first
   | (with_reducible exact ih0 _ _ _)
   | (with_reducible exact spec_l02Normal.mono _ _)
   | (with_reducible exact spec_l02One.mono _ _)
   | (with_reducible exact spec_l02Parts.mono _ _)
   | (with_reducible exact spec_l03Add.mono _ _ _)
   | (with_reducible exact spec_l05Code.mono _ _)
   | (with_reducible exact LeO.refl _)
   | (with_reducible exact LeO.none _)
   | (with_reducible refine LeO.ite ?_ ?_)
   | (with_reducible refine LeO.bind ?_ (fun _ => ?_))
   | exact ih0 _ _ _
   | exact spec_l02Normal.mono _ _
   | exact spec_l02One.mono _ _
   | exact spec_l02Parts.mono _ _
   | exact spec_l03Add.mono _ _ _
   | exact spec_l05Code.mono _ _
   | exact LeO.none _
   | refine LeO.ite ?_ ?_
   | refine LeO.bind ?_ (fun _ => ?_)
theorem spec_ShrinkShape.mono : ∀ a0 k, LeO (spec_ShrinkShape.f k a0) (spec_ShrinkShape.f (k + 1) a0) := by
 intro a0 k
 have ih0 := spec_ShrinkShape.mono_l k
 unfold spec_ShrinkShape.f
 repeat' first
   | (with_reducible exact ih0 _ _ _)
   | (with_reducible exact spec_l02Normal.mono _ _)
   | (with_reducible exact spec_l02One.mono _ _)
   | (with_reducible exact spec_l02Parts.mono _ _)
   | (with_reducible exact spec_l03Add.mono _ _ _)
   | (with_reducible exact spec_l05Code.mono _ _)
   | (with_reducible exact LeO.refl _)
   | (with_reducible exact LeO.none _)
   | (with_reducible refine LeO.ite ?_ ?_)
   | (with_reducible refine LeO.bind ?_ (fun _ => ?_))
   | exact ih0 _ _ _
   | exact spec_l02Normal.mono _ _
   | exact spec_l02One.mono _ _
   | exact spec_l02Parts.mono _ _
   | exact spec_l03Add.mono _ _ _
   | exact spec_l05Code.mono _ _
   | exact LeO.none _
   | refine LeO.ite ?_ ?_
   | refine LeO.bind ?_ (fun _ => ?_)
set_option maxHeartbeats 8000000 in
set_option maxRecDepth 100000 in
theorem spec_ShrinkShape.calls (k : Nat) (A0 : Option Addr) (c0 : Nat) (l0 : List (S39)) (r1 : List (List (S39))) (r2 : Int) (w : World) (hr0 : Kd.C k39 w A0 l0.length l0) (hc0 : l0.length ≤ c0) (h : spec_ShrinkShape.f k l0 = some (r1, r2)) :
  Calls Tryz.prog 7 #[.slice A0 l0.length c0] w fun e w' => ∃ v0_ : Value, e = .returned (.tuple #[v0_, .int .i64 r2]) ∧ Kd.V (Kd.slice 39 k39) 24 w' w.heap.size (fun k_ => (w.heap.size ≤ k_)) v0_ r1 ∧ Below w.heap.size w w' := by
 have HR0 := Aside0.mk hr0
 have HC0 := Aside0.mk hc0
 clear hr0 hc0
 have HB := Aside0.mk (Below.refl w.heap.size w)
 have H : ((spec_l05Code.f k l0).bind fun t447 => (if t447 = 0 then (if (l0.length : Int) = 1 then (some (([] : List (List (S39))), 5)) else (spec_ShrinkShape.l0 k l0 (([] : List (List (S39)))) 0)) else (some (([] : List (List (S39))), t447)))) = some (r1, r2) := h
 clear h
 replace H := Option.bind_eq_some_iff.mp H
 obtain ⟨t447, A20, H⟩ := H
 try dsimp only at H
 have A2 := Aside0.mk A20
 clear A20
 by_cases c3 : t447 = 0
 ·rw [if_pos c3] at H
  have c3b0 : (t447 == 0) = true := beq_iff_eq.mpr c3
  have c3b1 : (t447 != 0) = false := bne_eq_false_iff_eq.mpr c3
  clear c3
  by_cases c4 : (l0.length : Int) = 1
  ·rw [if_pos c4] at H
   have c4b0 : ((l0.length : Int) == 1) = true := beq_iff_eq.mpr c4
   have c4b1 : ((l0.length : Int) != 1) = false := bne_eq_false_iff_eq.mpr c4
   clear c4
   simp only [Option.some.injEq, Prod.mk.injEq] at H
   obtain ⟨rfl, rfl⟩ := H
   go_enter Tryz.func7, Tryz.ntmps7
   go_wp2_with (first | ((with_reducible refine gate_callee (f := 23) rfl ?_); refine gL_ (some 9) Tryz.func23 #[.slice A0 l0.length c0] ?_; (with_reducible refine (spec_l05Code.calls k _ _ l0 t447 _ ?side1 ?side2 A2.out).mono ?_); (case side1 => exact cS_ HR0.out); (case side2 => exact HC0.out); rintro e w5 ⟨rfl, hb⟩; refine ⟨_, rfl, ?_⟩; replace HB := Aside0.mk (below_step bB_ hb); (try clear hb)))
   go_ret2
   exact ⟨_, r2_, Kd.S_V (base := w.heap.size) (Kd.S_nil _ _ _ _ _), bB_⟩
  ·rw [if_neg c4] at H
   have c4b0 : ((l0.length : Int) == 1) = false := beq_eq_false_iff_ne.mpr c4
   have c4b1 : ((l0.length : Int) != 1) = true := bne_iff_ne.mpr c4
   obtain ⟨y448, hY_⟩ : ∃ y_ : List (List (S39)), y_ = (([] : List (List (S39)))) := ⟨_, rfl⟩
   replace H : (spec_ShrinkShape.l0 k l0 y448 0) = some (r1, r2) := yY_
   have Ny448 := Aside0.mk hY_
   clear hY_
   have H' := Aside0.mk H
   clear H
   go_enter Tryz.func7, Tryz.ntmps7
   go_wp2_with (first | ((with_reducible refine gate_callee (f := 23) rfl ?_); refine gL_ (some 9) Tryz.func23 #[.slice A0 l0.length c0] ?_; (with_reducible refine (spec_l05Code.calls k _ _ l0 t447 _ ?side1 ?side2 A2.out).mono ?_); (case side1 => exact cS_ HR0.out); (case side2 => exact HC0.out); rintro e w6 ⟨rfl, hb⟩; refine ⟨_, rfl, ?_⟩; replace HB := Aside0.mk (below_step bB_ hb); (try clear hb)) | ((with_reducible refine gate_dst (N := 16) rfl ?_); refine Kd.S_lit (Kd.slice 39 k39) _ 24 ?hg (N := 16) ?hd (xs := ([] : List (List (S39)))) (inner := []) (ok := fun _ => True) (okp := fun _ => True) ?hr ?hp (fun _ hk => hk) trivial (Below.refl _ _) (Nat.le_refl _) (by simp) ?_; (case hd => rfl); (case hg => rfl); (case hr => first | (go_simp; done) | (go_simp; rfl)); (case hp => exact (Reps.none _ _)); intro v449 w7 ho8 hb hg_ hnew_; clear hg_ hnew_; (first | rw [← Ny448.out] at ho8 | (simp only [Int.reduceToNat] at ho8; rw [← Ny448.out] at ho8)); have HO450 := Aside0.mk (Kd.S_lower (Kd.S_newM (M := fun k_ => (w.heap.size ≤ k_)) ho8 (below_size bB_) (fun k_ h_ => h_)) (below_size bB_)); replace HB := Aside0.mk (below_step bB_ hb); clear hb ho8))
   go_loopg [5, 6] k (fun kq v5 v6 w' => ∃ (x5_1 : List (List (S39))) (x6_1 : Int), v6 = .int .i64 x6_1 ∧ Aside0 (spec_ShrinkShape.l0 kq l0 x5_1 x6_1 = some (r1, r2)) ∧ Aside0 (kq ≤ k) ∧ Aside0 (Kd.V (Kd.slice 39 k39) 24 w' w.heap.size (fun k_ => (w.heap.size ≤ k_)) v5 x5_1) ∧ Aside0 (Below w.heap.size w w'))
   case atStart => exact ⟨(y448), (0), r3_, H', ⟨Nat.le_refl _⟩, ⟨Kd.S_V (sS_ (Kd.S_mono HO450.out (fun _ hk => hk.1)))⟩, ⟨bB_⟩⟩
   case round =>
    clear H'
    try clear c2
    try clear p2
    try clear c3
    try clear c3b0
    try clear c3b1
    try clear c4
    try clear c4b0
    try clear c4b1
    try clear c7
    obtain ⟨x5_1, x6_1, rfl, HA, HK1, HO_5, HB⟩ := hrel
    cases gk with
    | zero => exact absurd HA.out (by simp [spec_ShrinkShape.l0])
    | succ k1 =>
     have H := HA.out
     clear HA
     simp only [spec_ShrinkShape.l0] at H
     by_cases c9 : x6_1 < (l0.length : Int)
     ·rw [if_pos c9] at H
      have c9b0 : decide (x6_1 < (l0.length : Int)) = true := decide_eq_true c9
      clear c9
      replace H := Option.bind_eq_some_iff.mp H
      obtain ⟨t451, A100, H⟩ := H
      try dsimp only at H
      have A10 := Aside0.mk A100
      clear A100
      replace H := Option.bind_eq_some_iff.mp H
      obtain ⟨t454, A110, H⟩ := H
      try dsimp only at H
      have A11 := Aside0.mk A110
      clear A110
      replace H := Option.bind_eq_some_iff.mp H
      obtain ⟨t457, A120, H⟩ := H
      try dsimp only at H
      have A12 := Aside0.mk A120
      clear A120
      by_cases c13 : t457 = true
      ·subst c13
       have H1 : ((spec_l02Normal.f k1 t451).bind fun t458 => ((spec_l03Add.f k1 x5_1 t458).bind fun t461 => (spec_ShrinkShape.l0 k1 l0 t461 (wrap64 (x6_1 + 1))))) = some (r1, r2) := by rw [if_pos rfl] at H; exact H
       clear H
       have H := H1
       clear H1
       replace H := Option.bind_eq_some_iff.mp H
       obtain ⟨t458, A140, H⟩ := H
       try dsimp only at H
       have A14 := Aside0.mk A140
       clear A140
       replace H := Option.bind_eq_some_iff.mp H
       obtain ⟨t461, A150, H⟩ := H
       try dsimp only at H
       have A15 := Aside0.mk A150
       clear A150
       have H' := Aside0.mk H
       clear H
       go_wp2_with (first | ((with_reducible refine gate_callee (f := 24) rfl ?_); refine gL_ (some 25) Tryz.func24 #[.slice A0 l0.length c0, .int .i64 x6_1] ?_; (with_reducible refine (spec_l05Without.calls _ _ l0 x6_1 t451 _ ?side1 ?side2 A10.out).mono ?_); (case side1 => exact cS_ (Kd.C_below HR0.out HB.out)); (case side2 => exact HC0.out); rintro e w16 ⟨v452, rfl, ho0, hb⟩; refine ⟨_, rfl, ?_⟩; replace HO_5 := Aside0.mk (Kd.V_elder' (by (with_reducible repeat (first | apply Kd.V_alloc | apply Kd.V_drewN | apply Kd.V_drew)); exact HO_5.out) (Kd.R_base ho0) hb); have HO453 := Aside0.mk (Kd.R_lower (Kd.R_newM (M := fun k_ => (w.heap.size ≤ k_)) ho0 (below_size bB_) (fun k_ h_ => h_)) (below_size bB_)); replace HB := Aside0.mk (below_step bB_ hb); (try clear hb ho0); obtain ⟨Ao17, co17, eo17⟩ := Kd.R_slice HO453.out; subst eo17) | ((with_reducible refine gate_callee (f := 26) rfl ?_); refine gL_ (some 27) Tryz.func26 #[.slice Ao17 t451.length co17] ?_; (with_reducible refine (spec_l02Parts.calls k1 _ _ t451 t454 _ ?side1 ?side2 A11.out).mono ?_); (case side1 => exact cS_ ((Kd.R_reads' HO453.out).2.2)); (case side2 => exact (Kd.R_reads' HO453.out).2.1); rintro e w18 ⟨v455, rfl, ho0, hb⟩; refine ⟨_, rfl, ?_⟩; replace HO_5 := Aside0.mk (Kd.V_elder' (by (with_reducible repeat (first | apply Kd.V_alloc | apply Kd.V_drewN | apply Kd.V_drew)); exact HO_5.out) (Kd.R_base ho0) hb); replace HO453 := Aside0.mk (Kd.R_below (rS_ HO453.out) hb); have HO456 := Aside0.mk (Kd.R_lower (Kd.R_newM (M := fun k_ => (w.heap.size ≤ k_)) ho0 (below_size bB_) (fun k_ h_ => h_)) (below_size bB_)); replace HB := Aside0.mk (below_step bB_ hb); (try clear hb ho0); obtain ⟨Ao19, co19, eo19⟩ := Kd.R_slice HO456.out; subst eo19) | ((with_reducible refine gate_callee (f := 25) rfl ?_); refine gL_ (some 28) Tryz.func25 #[.slice Ao19 t454.length co19] ?_; (with_reducible refine (spec_l02One.calls k1 _ _ t454 true _ ?side1 ?side2 A12.out).mono ?_); (case side1 => exact cS_ ((Kd.R_reads' HO456.out).2.2)); (case side2 => exact (Kd.R_reads' HO456.out).2.1); rintro e w' ⟨rfl, ⟨nd, rfl⟩⟩; refine ⟨_, rfl, ?_⟩) | ((with_reducible refine gate_callee (f := 28) rfl ?_); refine gL_ (some 31) Tryz.func28 #[.slice Ao17 t451.length co17] ?_; (with_reducible refine (spec_l02Normal.calls k1 _ _ t451 t458 _ ?side1 ?side2 A14.out).mono ?_); (case side1 => exact cS_ ((Kd.R_reads' HO453.out).2.2)); (case side2 => exact (Kd.R_reads' HO453.out).2.1); rintro e w20 ⟨v459, rfl, ho0, hb⟩; refine ⟨_, rfl, ?_⟩; replace HO_5 := Aside0.mk (Kd.V_elder' (by (with_reducible repeat (first | apply Kd.V_alloc | apply Kd.V_drewN | apply Kd.V_drew)); exact HO_5.out) (Kd.R_base ho0) hb); replace HO456 := Aside0.mk (Kd.R_below (rS_ HO456.out) hb); have HO460 := Aside0.mk (Kd.R_lower (Kd.R_new' (Kd.R_newM (M := fun k_ => (w.heap.size ≤ k_)) ho0 (below_size bB_) (fun k_ h_ => h_)) (Kd.R_lt (rS_ HO453.out))) (below_size bB_)); replace HO453 := Aside0.mk (Kd.R_elder' (rS_ HO453.out) (Kd.R_base ho0) hb); replace HB := Aside0.mk (below_step bB_ hb); (try clear hb ho0); obtain ⟨Ao21, co21, eo21⟩ := Kd.V_slice HO_5.out; subst eo21; obtain ⟨Ao22, co22, eo22⟩ := Kd.R_slice HO460.out; subst eo22) | ((with_reducible refine gate_callee (f := 27) rfl ?_); refine gL_ (some 32) Tryz.func27 #[.slice Ao21 x5_1.length co21, .slice Ao22 t458.length co22] ?_; (with_reducible refine (spec_l03Add.calls k1 (fun k_ => ((((w.heap.size ≤ k_) ∧ some k_ ≠ (.slice Ao17 t451.length co17 : Value).ownBlock) ∧ some k_ ≠ (.slice Ao19 t454.length co19 : Value).ownBlock) ∧ some k_ ≠ (.slice Ao22 t458.length co22 : Value).ownBlock)) _ _ x5_1 (fun k_ => some k_ = (.slice Ao22 t458.length co22 : Value).ownBlock) _ _ t458 t461 _ ?side1 ?side2 A15.out).mono ?_); (case side1 => exact HO_5.out); (case side2 => exact Kd.R_V (Kd.R_tight rfl (Kd.R_apart' (HO460.out) (Kd.R_typed HO456.out) (by decide)))); rintro e w23 ⟨v462, rfl, ho0, hb⟩; refine ⟨_, rfl, ?_⟩; replace HO_5 := Aside0.mk (Kd.V_below (by (with_reducible repeat (first | apply Kd.V_alloc | apply Kd.V_drewN | apply Kd.V_drew)); exact HO_5.out) hb); have HO463 := Aside0.mk (Kd.V_lower (Kd.V_mono (ok' := fun k_ => (w.heap.size ≤ k_) ∧ some k_ ≠ (.slice Ao17 t451.length co17 : Value).ownBlock ∧ some k_ ≠ (.slice Ao19 t454.length co19 : Value).ownBlock) ho0 (fun k_ hk_ => ⟨Or.elim hk_ (fun hs_ => Or.elim hs_ (fun hs_ => hs_.1.1.1) (fun hs_ => ((Kd.R_apart' (HO460.out) (Kd.R_typed HO456.out) (by decide)).1 k_ hs_.symm).1.1.1)) (fun hn_ => (Nat.le_trans (below_size bB_) hn_)), Or.elim hk_ (fun hs_ => Or.elim hs_ (fun hs_ => hs_.1.1.2) (fun hs_ => ((Kd.R_apart' (HO460.out) (Kd.R_typed HO456.out) (by decide)).1 k_ hs_.symm).1.2)) (fun hn_ => (Kd.fresh' (Kd.R_lt (rS_ HO453.out)) k_ hn_)), Or.elim hk_ (fun hs_ => Or.elim hs_ (fun hs_ => hs_.1.2) (fun hs_ => ((Kd.R_apart' (HO460.out) (Kd.R_typed HO456.out) (by decide)).1 k_ hs_.symm).2)) (fun hn_ => (Kd.fresh' (Kd.R_lt (rS_ HO456.out)) k_ hn_))⟩)) (below_size bB_)); replace HO453 := Aside0.mk (Kd.R_below (rS_ HO453.out) hb); replace HO456 := Aside0.mk (Kd.R_below (rS_ HO456.out) hb); replace HO460 := Aside0.mk (Kd.R_below (rS_ HO460.out) hb); replace HB := Aside0.mk (below_step bB_ hb); (try clear hb ho0)))
       go_roundg k1
       case measure => have := HK1.out; omega
       case rel => exact ⟨(t461), (wrap64 (x6_1 + 1)), r3_, H', ⟨by have := HK1.out; omega⟩, ⟨by (with_reducible repeat (first | apply Kd.V_alloc | apply Kd.V_drewN | apply Kd.V_drew)); exact Kd.V_mono HO463.out (fun _ hk => hk.1)⟩, ⟨bB_⟩⟩
      ·replace c13 := Bool.eq_false_iff.mpr c13
       subst c13
       have H1 : (spec_ShrinkShape.l0 k1 l0 x5_1 (wrap64 (x6_1 + 1))) = some (r1, r2) := by rw [if_neg (show ¬ (false = true) by decide)] at H; exact H
       clear H
       have H := H1
       clear H1
       have H' := Aside0.mk H
       clear H
       go_wp2_with (first | ((with_reducible refine gate_callee (f := 24) rfl ?_); refine gL_ (some 25) Tryz.func24 #[.slice A0 l0.length c0, .int .i64 x6_1] ?_; (with_reducible refine (spec_l05Without.calls _ _ l0 x6_1 t451 _ ?side1 ?side2 A10.out).mono ?_); (case side1 => exact cS_ (Kd.C_below HR0.out HB.out)); (case side2 => exact HC0.out); rintro e w24 ⟨v452, rfl, ho0, hb⟩; refine ⟨_, rfl, ?_⟩; replace HO_5 := Aside0.mk (Kd.V_elder' (by (with_reducible repeat (first | apply Kd.V_alloc | apply Kd.V_drewN | apply Kd.V_drew)); exact HO_5.out) (Kd.R_base ho0) hb); have HO453 := Aside0.mk (Kd.R_lower (Kd.R_newM (M := fun k_ => (w.heap.size ≤ k_)) ho0 (below_size bB_) (fun k_ h_ => h_)) (below_size bB_)); replace HB := Aside0.mk (below_step bB_ hb); (try clear hb ho0); obtain ⟨Ao25, co25, eo25⟩ := Kd.R_slice HO453.out; subst eo25) | ((with_reducible refine gate_callee (f := 26) rfl ?_); refine gL_ (some 27) Tryz.func26 #[.slice Ao25 t451.length co25] ?_; (with_reducible refine (spec_l02Parts.calls k1 _ _ t451 t454 _ ?side1 ?side2 A11.out).mono ?_); (case side1 => exact cS_ ((Kd.R_reads' HO453.out).2.2)); (case side2 => exact (Kd.R_reads' HO453.out).2.1); rintro e w26 ⟨v455, rfl, ho0, hb⟩; refine ⟨_, rfl, ?_⟩; replace HO_5 := Aside0.mk (Kd.V_elder' (by (with_reducible repeat (first | apply Kd.V_alloc | apply Kd.V_drewN | apply Kd.V_drew)); exact HO_5.out) (Kd.R_base ho0) hb); replace HO453 := Aside0.mk (Kd.R_below (rS_ HO453.out) hb); have HO456 := Aside0.mk (Kd.R_lower (Kd.R_newM (M := fun k_ => (w.heap.size ≤ k_)) ho0 (below_size bB_) (fun k_ h_ => h_)) (below_size bB_)); replace HB := Aside0.mk (below_step bB_ hb); (try clear hb ho0); obtain ⟨Ao27, co27, eo27⟩ := Kd.R_slice HO456.out; subst eo27) | ((with_reducible refine gate_callee (f := 25) rfl ?_); refine gL_ (some 28) Tryz.func25 #[.slice Ao27 t454.length co27] ?_; (with_reducible refine (spec_l02One.calls k1 _ _ t454 false _ ?side1 ?side2 A12.out).mono ?_); (case side1 => exact cS_ ((Kd.R_reads' HO456.out).2.2)); (case side2 => exact (Kd.R_reads' HO456.out).2.1); rintro e w' ⟨rfl, ⟨nd, rfl⟩⟩; refine ⟨_, rfl, ?_⟩))
       go_roundg k1
       case measure => have := HK1.out; omega
       case rel => exact ⟨(x5_1), (wrap64 (x6_1 + 1)), r3_, H', ⟨by have := HK1.out; omega⟩, ⟨by (with_reducible repeat (first | apply Kd.V_alloc | apply Kd.V_drewN | apply Kd.V_drew)); exact Kd.V_mono HO_5.out (fun _ hk => hk.1.1)⟩, ⟨bB_⟩⟩
     ·rw [if_neg c9] at H
      have c9b0 : decide (x6_1 < (l0.length : Int)) = false := decide_eq_false c9
      clear c9
      simp only [Option.some.injEq, Prod.mk.injEq] at H
      obtain ⟨rfl, rfl⟩ := H
      go_wp2
      go_ret2
      exact ⟨_, r2_, by (with_reducible repeat (first | apply Kd.V_alloc | apply Kd.V_drewN | apply Kd.V_drew)); exact HO_5.out, bB_⟩
 ·rw [if_neg c3] at H
  have c3b0 : (t447 == 0) = false := beq_eq_false_iff_ne.mpr c3
  have c3b1 : (t447 != 0) = true := bne_iff_ne.mpr c3
  simp only [Option.some.injEq, Prod.mk.injEq] at H
  obtain ⟨rfl, rfl⟩ := H
  go_enter Tryz.func7, Tryz.ntmps7
  go_wp2_with (first | ((with_reducible refine gate_callee (f := 23) rfl ?_); refine gL_ (some 9) Tryz.func23 #[.slice A0 l0.length c0] ?_; (with_reducible refine (spec_l05Code.calls k _ _ l0 t447 _ ?side1 ?side2 A2.out).mono ?_); (case side1 => exact cS_ HR0.out); (case side2 => exact HC0.out); rintro e w28 ⟨rfl, hb⟩; refine ⟨_, rfl, ?_⟩; replace HB := Aside0.mk (below_step bB_ hb); (try clear hb)))
  go_ret2
  exact ⟨_, r2_, Kd.S_V (base := w.heap.size) (Kd.S_nil _ _ _ _ _), bB_⟩

/-! ### spec_DrawGrowShape: function 8 -/
def spec_DrawGrowShape.f (k : Nat) (l0 : List Int) : Option ((List (S39))) := (spec_l01From.f k l0).bind fun bt464 => ((spec_l02Draw.f k bt464.1 bt464.2.1 bt464.2.2).bind fun bt468 => (some bt468.1))
theorem spec_DrawGrowShape.mono : ∀ a0 k, LeO (spec_DrawGrowShape.f k a0) (spec_DrawGrowShape.f (k + 1) a0) := by
 intro a0 k
 unfold spec_DrawGrowShape.f
 repeat' first
   | (with_reducible exact spec_l01From.mono _ _)
   | (with_reducible exact spec_l02Draw.mono _ _ _ _)
   | (with_reducible exact LeO.refl _)
   | (with_reducible exact LeO.none _)
   | (with_reducible refine LeO.ite ?_ ?_)
   | (with_reducible refine LeO.bind ?_ (fun _ => ?_))
   | exact spec_l01From.mono _ _
   | exact spec_l02Draw.mono _ _ _ _
   | exact LeO.none _
   | refine LeO.ite ?_ ?_
   | refine LeO.bind ?_ (fun _ => ?_)
set_option maxHeartbeats 8000000 in
set_option maxRecDepth 100000 in
theorem spec_DrawGrowShape.calls (k : Nat) (A0 : Option Addr) (c0 : Nat) (l0 : List Int) (r : List (S39)) (w : World) (hr0 : Kd.C (Kd.int .u8) w A0 l0.length l0) (hc0 : l0.length ≤ c0) (h : spec_DrawGrowShape.f k l0 = some r) :
  Calls Tryz.prog 8 #[.slice A0 l0.length c0] w fun e w' => ∃ v0_ : Value, e = .returned (v0_) ∧ Kd.R k39 39 w' w.heap.size (fun _ => True) v0_ r ∧ Below w.heap.size w w' := by
 have HR0 := Aside0.mk hr0
 have HC0 := Aside0.mk hc0
 clear hr0 hc0
 have HB := Aside0.mk (Below.refl w.heap.size w)
 have H : ((spec_l01From.f k l0).bind fun bt464 => ((spec_l02Draw.f k bt464.1 bt464.2.1 bt464.2.2).bind fun bt468 => (some bt468.1))) = some r := h
 clear h
 replace H := Option.bind_eq_some_iff.mp H
 obtain ⟨⟨t464, t465, t466⟩, A20, H⟩ := H
 try dsimp only at H
 have A2 := Aside0.mk A20
 clear A20
 replace H := Option.bind_eq_some_iff.mp H
 obtain ⟨⟨t468, t471, t472⟩, A30, H⟩ := H
 try dsimp only at H
 have A3 := Aside0.mk A30
 clear A30
 obtain rfl := Option.some.inj H
 go_enter Tryz.func8, Tryz.ntmps8
 go_wp2_with (first | ((with_reducible refine gate_callee (f := 15) rfl ?_); refine gL_ (some 4) Tryz.func15 #[.slice A0 l0.length c0] ?_; (with_reducible refine (spec_l01From.calls k _ _ l0 t464 t465 t466 w _ ?side1 ?side2 ?side3 A2.out).mono ?_); (case side1 => repeat (first | (with_reducible first | exact HB.out | apply below_alloc | apply pw_below_drewN | apply below_drew1) | exact HB.out)); (case side2 => exact HR0.out); (case side3 => exact HC0.out); rintro e w4 ⟨g467, rfl, hi, hb, hb2⟩; refine ⟨_, rfl, ?_⟩; replace HB := Aside0.mk (hb); have HI467 := Aside0.mk (hi); (try clear hb hb2 hi)) | ((with_reducible refine gate_callee (f := 14) rfl ?_); refine gL_ (some 5) Tryz.func14 #[.pointer (some ⟨g467, 0, none⟩)] ?_; (with_reducible refine (spec_l02Draw.calls k g467 t464 t465 t466 t468 t471 t472 w _ ?side1 ?side2 A3.out).mono ?_); (case side1 => repeat (first | (with_reducible first | exact HI467.out | apply IsS57.alloc | apply IsS57.drewN | apply IsS57.drew | apply IsS57.set_1 | apply IsS57.set_2) | exact HI467.out)); (case side2 => repeat (first | (with_reducible first | exact HB.out | apply below_alloc | apply pw_below_drewN | apply below_drew1 | refine below_set ?_ (IsS57.ge HI467.out)) | exact HB.out)); rintro e w5 ⟨v469, rfl, ho0, hi, hb, hk⟩; refine ⟨_, rfl, ?_⟩; have HO470 := Aside0.mk (Kd.R_lower ho0 (below_size (by repeat (first | (with_reducible first | exact HB.out | apply below_alloc | apply pw_below_drewN | apply below_drew1 | refine below_set ?_ (IsS57.ge HI467.out)) | exact HB.out)))); replace HB := Aside0.mk (hb); replace HI467 := Aside0.mk (hi); (try clear hb hk hi ho0)))
 go_ret
 exact ⟨_, r2_, rS_ HO470.out, by repeat (first | (with_reducible first | exact HB.out | apply below_alloc | apply pw_below_drewN | apply below_drew1 | refine below_set ?_ (IsS57.ge HI467.out)) | exact HB.out)⟩

/-! ### impl_reach: function 54 -/
def impl_reach.l0 : Nat → List (S39) → Int → Int → Int → Int → Option (Int × Int)
 | 0, _, _, _, _, _ => none
 | k + 1, x9, x10, x11, x476000, x476001 => if x11 < x10 then (if 0 ≤ x11 then (if x11 < (x9.length : Int) then (impl_reach.l0 k x9 x10 (wrap64 (x11 + 1)) (mx x476000 ((rd_T39 x9 x11).f0)) (mx x476001 ((rd_T39 x9 x11).f1))) else (none)) else (none)) else (some (x476000, x476001))
def impl_reach.f (k : Nat) (l0 : List (S39)) : Option (Int × Int) := if 0 < (l0.length : Int) then (impl_reach.l0 k l0 (l0.length : Int) 0 ((rd_T39 l0 0).f0) ((rd_T39 l0 0).f1)) else (none)
theorem impl_reach.mono_l : ∀ k, (∀ y0 y1 y2 y3 y4, LeO (impl_reach.l0 k y0 y1 y2 y3 y4) (impl_reach.l0 (k + 1) y0 y1 y2 y3 y4))
 | 0 => fun _ _ _ _ _ r h => by simp [impl_reach.l0] at h
 | k + 1 => by
  have ih0 := impl_reach.mono_l k
  ·intro y0 y1 y2 y3 y4
   unfold impl_reach.l0
   repeat' first
   | (with_reducible exact ih0 _ _ _ _ _)
   | (with_reducible exact LeO.refl _)
   | (with_reducible exact LeO.none _)
   | (with_reducible refine LeO.ite ?_ ?_)
   | (with_reducible refine LeO.bind ?_ (fun _ => ?_))
   | exact ih0 _ _ _ _ _
   | exact LeO.none _
   | refine LeO.ite ?_ ?_
   | refine LeO.bind ?_ (fun _ => ?_)
theorem impl_reach.mono : ∀ a0 k, LeO (impl_reach.f k a0) (impl_reach.f (k + 1) a0) := by
 intro a0 k
 have ih0 := impl_reach.mono_l k
 unfold impl_reach.f
 repeat' first
   | (with_reducible exact ih0 _ _ _ _ _)
   | (with_reducible exact LeO.refl _)
   | (with_reducible exact LeO.none _)
   | (with_reducible refine LeO.ite ?_ ?_)
   | (with_reducible refine LeO.bind ?_ (fun _ => ?_))
   | exact ih0 _ _ _ _ _
   | exact LeO.none _
   | refine LeO.ite ?_ ?_
   | refine LeO.bind ?_ (fun _ => ?_)
set_option maxHeartbeats 8000000 in
set_option maxRecDepth 100000 in
theorem impl_reach.calls (k : Nat) (A0 : Option Addr) (c0 : Nat) (l0 : List (S39)) (r1 : Int) (r2 : Int) (w : World) (hr0 : Kd.C k39 w A0 l0.length l0) (hc0 : l0.length ≤ c0) (h : impl_reach.f k l0 = some (r1, r2)) :
  Calls Tryz.prog 54 #[.slice A0 l0.length c0] w fun e w' => e = .returned (.agg #[.int .i64 r1, .int .i64 r2]) ∧ Below w.heap.size w w' := by
 have hu39 := Tryz.underlying39
 have HR0 := Aside0.mk hr0
 have HC0 := Aside0.mk hc0
 clear hr0 hc0
 have HB := Aside0.mk (Below.refl w.heap.size w)
 have H : (if 0 < (l0.length : Int) then (impl_reach.l0 k l0 (l0.length : Int) 0 ((rd_T39 l0 0).f0) ((rd_T39 l0 0).f1)) else (none)) = some (r1, r2) := h
 clear h
 by_cases c2 : 0 < (l0.length : Int)
 ·rw [if_pos c2] at H
  have c2b0 : decide (0 < (l0.length : Int)) = true := decide_eq_true c2
  have c2b1 : decide (0 < l0.length) = true := decide_eq_true (by omega)
  clear c2
  have H' := Aside0.mk H
  clear H
  go_enter Tryz.func54, Tryz.ntmps54
  go_wp2_with (first | ((with_reducible refine gate_dst (N := 2) rfl ?_); refine box_event ?hg (N := 2) ?hd (cs := #[.int .i64 0, .int .i64 0]) (t := 39) ?hr ?_; (case hd => rfl); (case hg => rfl); (case hr => first | (go_simp; done) | (go_simp; rfl)); intro gb473 hg w3 hbox hb; have BK473 := Aside0.mk (hbox); have GW473 := Aside0.mk ((by rw [hg]; exact (below_size bB_) : w.heap.size ≤ gb473)); have GE473 := Aside0.mk ((by rw [hg]; exact (below_size bB_) : w.heap.size ≤ gb473)); replace HB := Aside0.mk (below_step bB_ hb); clear hb hbox hg; have p474 : 0 ≤ (0 : Int) := (by omega); have q474 : 0 < (l0.length : Int) := of_decide_eq_true aS_; obtain ⟨ad474, e474, hx474_0, hx474_1⟩ := at_T39 HR0.out 0 p474 q474; cases e474; have qi474 : (0 < l0.length) = True := eq_true (by omega); (try rw [show ((0 : Int)).toNat = 0 from rfl] at hx474_0); (try rw [show 0 * 2 = 0 from rfl] at hx474_0); (try rw [Addr.add_zero'] at hx474_0); (try rw [show ((0 : Int)).toNat = 0 from rfl] at hx474_1); (try rw [show 0 * 2 = 0 from rfl] at hx474_1); (try rw [Addr.add_zero'] at hx474_1); replace hx474_0 := (HB.out.cell (World.block_lt_of_cell? w _ hx474_0)).trans hx474_0; replace hx474_1 := (HB.out.cell (World.block_lt_of_cell? w _ hx474_1)).trans hx474_1; replace p474 := eq_true p474; replace q474 := eq_true q474) | ((with_reducible refine gate_dst (N := 3) rfl ?_); refine box_event ?hg (N := 3) ?hd (cs := #[.int .i64 0, .int .i64 0]) (t := 39) ?hr ?_; (case hd => rfl); (case hg => rfl); (case hr => first | (go_simp; done) | (go_simp; rfl)); intro gb475 hg w4 hbox hb; have BK475 := Aside0.mk (hbox); have GW475 := Aside0.mk ((by rw [hg]; exact (below_size (by repeat (first | (with_reducible first | exact HB.out | apply below_alloc | apply pw_below_drewN | apply below_drew1 | refine below_set ?_ GE473.out) | exact HB.out))) : w.heap.size ≤ gb475)); have GE475 := Aside0.mk ((by rw [hg]; exact (below_size (by repeat (first | (with_reducible first | exact HB.out | apply below_alloc | apply pw_below_drewN | apply below_drew1 | refine below_set ?_ GE473.out) | exact HB.out))) : w.heap.size ≤ gb475)); replace HB := Aside0.mk (below_step (by repeat (first | (with_reducible first | exact HB.out | apply below_alloc | apply pw_below_drewN | apply below_drew1 | refine below_set ?_ GE473.out) | exact HB.out)) hb); have NB473_475 := Aside0.mk ((by rw [hg]; exact Nat.ne_of_lt (blk_lt (g := gb473) (o := .cells #[.int .i64 0, .int .i64 0] 39 (0, 0)) (by (with_reducible repeat (first | refine blk_drewN ?_ _ | refine blk_drew ?_ | refine blk_alloc ?_ _)); exact BK473.out)) : gb473 ≠ gb475)); have NB475_473 := Aside0.mk ((by rw [hg]; exact Nat.ne_of_gt (blk_lt (g := gb473) (o := .cells #[.int .i64 0, .int .i64 0] 39 (0, 0)) (by (with_reducible repeat (first | refine blk_drewN ?_ _ | refine blk_drew ?_ | refine blk_alloc ?_ _)); exact BK473.out)) : gb475 ≠ gb473)); replace BK473 := Aside0.mk (blk_below (g := gb473) (o := .cells #[.int .i64 0, .int .i64 0] 39 (0, 0)) (by (with_reducible repeat (first | refine blk_drewN ?_ _ | refine blk_drew ?_ | refine blk_alloc ?_ _)); exact BK473.out) hb); clear hb hbox hg; have hnb5 := NB475_473.out; have hnc5 := NB473_475.out; have hcz6_0 : w4.cell? ⟨gb475, 0, none⟩ = some (.int .i64 0) := (blk_cell BK475.out 0).trans rfl; have hcz6_1 : w4.cell? ⟨gb475, 1, none⟩ = some (.int .i64 0) := (blk_cell BK475.out 1).trans rfl; have hfz6_0 := blk_frozen BK475.out 0; have hfz6_1 := blk_frozen BK475.out 1))
  go_loopg [11] k (fun kq v11 w' => ∃ (x11_1 : Int) (x476000_1 : Int) (x476001_1 : Int), v11 = .int .i64 x11_1 ∧ Aside0 (impl_reach.l0 kq l0 (l0.length : Int) x11_1 x476000_1 x476001_1 = some (r1, r2)) ∧ Aside0 (kq ≤ k) ∧ Aside0 (w'.heap[gb473]? = some (.cells #[.int .i64 0, .int .i64 0] 39 (0, 0))) ∧ Aside0 (w'.heap[gb475]? = some (.cells #[.int .i64 x476000_1, .int .i64 x476001_1] 39 (0, 0))) ∧ Aside0 (Below w.heap.size w w'))
  case atStart => exact ⟨(0), ((rd_T39 l0 0).f0), ((rd_T39 l0 0).f1), r3_, H', ⟨Nat.le_refl _⟩, ⟨by (with_reducible repeat (first | refine blk_drewN ?_ _ | refine blk_drew ?_ | refine blk_alloc ?_ _)); refine blk_far ?_ NB473_475.out _; (with_reducible repeat (first | refine blk_drewN ?_ _ | refine blk_drew ?_ | refine blk_alloc ?_ _)); refine blk_far ?_ NB473_475.out _; (with_reducible repeat (first | refine blk_drewN ?_ _ | refine blk_drew ?_ | refine blk_alloc ?_ _)); exact BK473.out⟩, ⟨by (with_reducible repeat (first | refine blk_drewN ?_ _ | refine blk_drew ?_ | refine blk_alloc ?_ _)); refine blk_put (cs := #[.int .i64 ((rd_T39 l0 0).f0), .int .i64 0]) ?_ 1 _ rfl; (with_reducible repeat (first | refine blk_drewN ?_ _ | refine blk_drew ?_ | refine blk_alloc ?_ _)); refine blk_put (cs := #[.int .i64 0, .int .i64 0]) ?_ 0 _ rfl; (with_reducible repeat (first | refine blk_drewN ?_ _ | refine blk_drew ?_ | refine blk_alloc ?_ _)); exact BK475.out⟩, ⟨by repeat (first | (with_reducible first | exact HB.out | apply below_alloc | apply pw_below_drewN | apply below_drew1 | refine below_set ?_ GE473.out | refine below_set ?_ GE475.out) | exact HB.out)⟩⟩
  case round =>
   clear H'
   try clear c2
   try clear c2b0
   try clear c2b1
   try clear p2
   try clear p4
   try clear q4
   try clear hx4
   try clear qi4
   try clear c5
   try clear hcz6_0
   try clear hcz6_1
   try clear hfz6_0
   try clear hfz6_1
   try clear hx474_0
   try clear hx474_1
   try clear p474
   try clear q474
   obtain ⟨x11_1, x476000_1, x476001_1, rfl, HA, HK1, BK473, BK475, HB⟩ := hrel
   cases gk with
   | zero => exact absurd HA.out (by simp [impl_reach.l0])
   | succ k1 =>
    have H := HA.out
    clear HA
    simp only [impl_reach.l0] at H
    by_cases c7 : x11_1 < (l0.length : Int)
    ·rw [if_pos c7] at H
     have c7b0 : decide (x11_1 < (l0.length : Int)) = true := decide_eq_true c7
     clear c7
     by_cases c8 : 0 ≤ x11_1
     ·rw [if_pos c8] at H
      have c8b0 : decide (0 ≤ x11_1) = true := decide_eq_true c8
      clear c8
      by_cases c9 : x11_1 < (l0.length : Int)
      ·rw [if_pos c9] at H
       have c9b0 : decide (x11_1 < (l0.length : Int)) = true := decide_eq_true c9
       clear c9
       obtain ⟨ji10, hji10⟩ : ∃ j_ : Int, (mx x476000_1 ((rd_T39 l0 x11_1).f0)) = j_ := ⟨_, rfl⟩
       replace H : (impl_reach.l0 k1 l0 (l0.length : Int) (wrap64 (x11_1 + 1)) ji10 (mx x476001_1 ((rd_T39 l0 x11_1).f1))) = some (r1, r2) := by first | (rw [hji10] at H; exact H) | (simp only [hji10] at H ⊢; exact H)
       have hji10_ : (if x476000_1 < ((rd_T39 l0 x11_1).f0) then ((rd_T39 l0 x11_1).f0) else x476000_1) = ji10 := hji10
       obtain ⟨ji11, hji11⟩ : ∃ j_ : Int, (mx x476001_1 ((rd_T39 l0 x11_1).f1)) = j_ := ⟨_, rfl⟩
       replace H : (impl_reach.l0 k1 l0 (l0.length : Int) (wrap64 (x11_1 + 1)) ji10 ji11) = some (r1, r2) := by first | (rw [hji11] at H; exact H) | (simp only [hji11] at H ⊢; exact H)
       have hji11_ : (if x476001_1 < ((rd_T39 l0 x11_1).f1) then ((rd_T39 l0 x11_1).f1) else x476001_1) = ji11 := hji11
       have H' := Aside0.mk H
       clear H
       have p476 : 0 ≤ (x11_1 : Int) := of_decide_eq_true aS_
       have q476 : x11_1 < (l0.length : Int) := of_decide_eq_true aS_
       obtain ⟨ad476, e476, hx476_0, hx476_1⟩ := at_T39 HR0.out x11_1 p476 q476
       obtain rfl : ad474 = ad476 := (by injection e476)
       replace hx476_0 := (HB.out.cell (World.block_lt_of_cell? w _ hx476_0)).trans hx476_0
       replace hx476_1 := (HB.out.cell (World.block_lt_of_cell? w _ hx476_1)).trans hx476_1
       replace p476 := eq_true p476
       replace q476 := eq_true q476
       go_wp2_with (first | ((with_reducible refine gate_dst (N := 5) rfl ?_); refine box_event ?hg (N := 5) ?hd (cs := #[.int .i64 0, .int .i64 0]) (t := 39) ?hr ?_; (case hd => rfl); (case hg => rfl); (case hr => first | (go_simp; done) | (go_simp; rfl)); intro gb477 hg w12 hbox hb; have BK477 := Aside0.mk (hbox); have GW477 := Aside0.mk ((by rw [hg]; exact (below_size (by repeat (first | (with_reducible first | exact HB.out | apply below_alloc | apply pw_below_drewN | apply below_drew1 | refine below_set ?_ GE473.out | refine below_set ?_ GE475.out) | exact HB.out))) : w.heap.size ≤ gb477)); have GE477 := Aside0.mk ((by rw [hg]; exact (below_size (by repeat (first | (with_reducible first | exact HB.out | apply below_alloc | apply pw_below_drewN | apply below_drew1 | refine below_set ?_ GE473.out | refine below_set ?_ GE475.out) | exact HB.out))) : w.heap.size ≤ gb477)); replace HB := Aside0.mk (below_step (by repeat (first | (with_reducible first | exact HB.out | apply below_alloc | apply pw_below_drewN | apply below_drew1 | refine below_set ?_ GE473.out | refine below_set ?_ GE475.out) | exact HB.out)) hb); have NB473_477 := Aside0.mk ((by rw [hg]; exact Nat.ne_of_lt (blk_lt (g := gb473) (o := .cells #[.int .i64 0, .int .i64 0] 39 (0, 0)) (by (with_reducible repeat (first | refine blk_drewN ?_ _ | refine blk_drew ?_ | refine blk_alloc ?_ _)); exact BK473.out)) : gb473 ≠ gb477)); have NB477_473 := Aside0.mk ((by rw [hg]; exact Nat.ne_of_gt (blk_lt (g := gb473) (o := .cells #[.int .i64 0, .int .i64 0] 39 (0, 0)) (by (with_reducible repeat (first | refine blk_drewN ?_ _ | refine blk_drew ?_ | refine blk_alloc ?_ _)); exact BK473.out)) : gb477 ≠ gb473)); replace BK473 := Aside0.mk (blk_below (g := gb473) (o := .cells #[.int .i64 0, .int .i64 0] 39 (0, 0)) (by (with_reducible repeat (first | refine blk_drewN ?_ _ | refine blk_drew ?_ | refine blk_alloc ?_ _)); exact BK473.out) hb); have NB475_477 := Aside0.mk ((by rw [hg]; exact Nat.ne_of_lt (blk_lt (g := gb475) (o := .cells #[.int .i64 x476000_1, .int .i64 x476001_1] 39 (0, 0)) (by (with_reducible repeat (first | refine blk_drewN ?_ _ | refine blk_drew ?_ | refine blk_alloc ?_ _)); exact BK475.out)) : gb475 ≠ gb477)); have NB477_475 := Aside0.mk ((by rw [hg]; exact Nat.ne_of_gt (blk_lt (g := gb475) (o := .cells #[.int .i64 x476000_1, .int .i64 x476001_1] 39 (0, 0)) (by (with_reducible repeat (first | refine blk_drewN ?_ _ | refine blk_drew ?_ | refine blk_alloc ?_ _)); exact BK475.out)) : gb477 ≠ gb475)); replace BK475 := Aside0.mk (blk_below (g := gb475) (o := .cells #[.int .i64 x476000_1, .int .i64 x476001_1] 39 (0, 0)) (by (with_reducible repeat (first | refine blk_drewN ?_ _ | refine blk_drew ?_ | refine blk_alloc ?_ _)); exact BK475.out) hb); clear hb hbox hg; have hnb13 := NB477_473.out; have hnc13 := NB473_477.out; have hnb14 := NB477_475.out; have hnc14 := NB475_477.out; have hcz15_0 : w12.cell? ⟨gb477, 0, none⟩ = some (.int .i64 0) := (blk_cell BK477.out 0).trans rfl; have hcz15_1 : w12.cell? ⟨gb477, 1, none⟩ = some (.int .i64 0) := (blk_cell BK477.out 1).trans rfl; have hfz15_0 := blk_frozen BK477.out 0; have hfz15_1 := blk_frozen BK477.out 1; have hnb16 := NB475_473.out; have hnc16 := NB473_475.out; have hcz17_0 : w12.cell? ⟨gb475, 0, none⟩ = some (.int .i64 x476000_1) := (blk_cell BK475.out 0).trans rfl; have hcz17_1 : w12.cell? ⟨gb475, 1, none⟩ = some (.int .i64 x476001_1) := (blk_cell BK475.out 1).trans rfl; have hfz17_0 := blk_frozen BK475.out 0; have hfz17_1 := blk_frozen BK475.out 1))
       go_roundg k1
       case measure => have := HK1.out; omega
       case rel => exact ⟨(wrap64 (x11_1 + 1)), (ji10), (ji11), r3_, H', ⟨by have := HK1.out; omega⟩, ⟨by (with_reducible repeat (first | refine blk_drewN ?_ _ | refine blk_drew ?_ | refine blk_alloc ?_ _)); refine blk_far ?_ NB473_475.out _; (with_reducible repeat (first | refine blk_drewN ?_ _ | refine blk_drew ?_ | refine blk_alloc ?_ _)); refine blk_far ?_ NB473_475.out _; (with_reducible repeat (first | refine blk_drewN ?_ _ | refine blk_drew ?_ | refine blk_alloc ?_ _)); refine blk_far ?_ NB473_477.out _; (with_reducible repeat (first | refine blk_drewN ?_ _ | refine blk_drew ?_ | refine blk_alloc ?_ _)); refine blk_far ?_ NB473_477.out _; (with_reducible repeat (first | refine blk_drewN ?_ _ | refine blk_drew ?_ | refine blk_alloc ?_ _)); exact BK473.out⟩, ⟨by (with_reducible repeat (first | refine blk_drewN ?_ _ | refine blk_drew ?_ | refine blk_alloc ?_ _)); refine blk_put (cs := #[.int .i64 ji10, .int .i64 x476001_1]) ?_ 1 _ rfl; (with_reducible repeat (first | refine blk_drewN ?_ _ | refine blk_drew ?_ | refine blk_alloc ?_ _)); refine blk_put (cs := #[.int .i64 x476000_1, .int .i64 x476001_1]) ?_ 0 _ rfl; (with_reducible repeat (first | refine blk_drewN ?_ _ | refine blk_drew ?_ | refine blk_alloc ?_ _)); refine blk_far ?_ NB475_477.out _; (with_reducible repeat (first | refine blk_drewN ?_ _ | refine blk_drew ?_ | refine blk_alloc ?_ _)); refine blk_far ?_ NB475_477.out _; (with_reducible repeat (first | refine blk_drewN ?_ _ | refine blk_drew ?_ | refine blk_alloc ?_ _)); exact BK475.out⟩, ⟨by repeat (first | (with_reducible first | exact HB.out | apply below_alloc | apply pw_below_drewN | apply below_drew1 | refine below_set ?_ GE473.out | refine below_set ?_ GE475.out | refine below_set ?_ GE477.out) | exact HB.out)⟩⟩
      ·rw [if_neg c9] at H
       exact absurd H (by simp)
     ·rw [if_neg c8] at H
      exact absurd H (by simp)
    ·rw [if_neg c7] at H
     have c7b0 : decide (x11_1 < (l0.length : Int)) = false := decide_eq_false c7
     clear c7
     simp only [Option.some.injEq, Prod.mk.injEq] at H
     obtain ⟨rfl, rfl⟩ := H
     have hnb18 := NB475_473.out
     have hnc18 := NB473_475.out
     have hcz19_0 : wr.cell? ⟨gb475, 0, none⟩ = some (.int .i64 x476000_1) := (blk_cell BK475.out 0).trans rfl
     have hcz19_1 : wr.cell? ⟨gb475, 1, none⟩ = some (.int .i64 x476001_1) := (blk_cell BK475.out 1).trans rfl
     have hfz19_0 := blk_frozen BK475.out 0
     have hfz19_1 := blk_frozen BK475.out 1
     have hcz20_0 : wr.cell? ⟨gb473, 0, none⟩ = some (.int .i64 0) := (blk_cell BK473.out 0).trans rfl
     have hcz20_1 : wr.cell? ⟨gb473, 1, none⟩ = some (.int .i64 0) := (blk_cell BK473.out 1).trans rfl
     have hfz20_0 := blk_frozen BK473.out 0
     have hfz20_1 := blk_frozen BK473.out 1
     go_wp2
     refine bodyPost_ret (results_cell_row rfl _ _ gb473 39 #[.int .i64 x476000_1, .int .i64 x476001_1] (0, 0) _ rfl (by (with_reducible repeat (first | refine blk_drewN ?_ _ | refine blk_drew ?_ | refine blk_alloc ?_ _)); refine blk_put (cs := #[.int .i64 x476000_1, .int .i64 0]) ?_ 1 _ rfl; (with_reducible repeat (first | refine blk_drewN ?_ _ | refine blk_drew ?_ | refine blk_alloc ?_ _)); refine blk_put (cs := #[.int .i64 0, .int .i64 0]) ?_ 0 _ rfl; (with_reducible repeat (first | refine blk_drewN ?_ _ | refine blk_drew ?_ | refine blk_alloc ?_ _)); exact BK473.out) Tryz.underlying39 rfl (by kernel_rfl)) rfl ?_
     exact ⟨r2_, by repeat (first | (with_reducible first | exact HB.out | apply below_alloc | apply pw_below_drewN | apply below_drew1 | refine below_set ?_ GE473.out | refine below_set ?_ GE475.out) | exact HB.out)⟩
 ·rw [if_neg c2] at H
  exact absurd H (by simp)

/-! ### impl_sizeOf: function 29 -/
def impl_sizeOf.f (k : Nat) (l0 : List (S39)) : Option (Int × Int) := (impl_corner.f k l0).bind fun bt478 => ((impl_reach.f k l0).bind fun bt480 => (some (wrap64 ((wrap64 (bt480.1 - bt478.1)) + 1), wrap64 ((wrap64 (bt480.2 - bt478.2)) + 1))))
theorem impl_sizeOf.mono : ∀ a0 k, LeO (impl_sizeOf.f k a0) (impl_sizeOf.f (k + 1) a0) := by
 intro a0 k
 unfold impl_sizeOf.f
 repeat' first
   | (with_reducible exact impl_corner.mono _ _)
   | (with_reducible exact impl_reach.mono _ _)
   | (with_reducible exact LeO.refl _)
   | (with_reducible exact LeO.none _)
   | (with_reducible refine LeO.ite ?_ ?_)
   | (with_reducible refine LeO.bind ?_ (fun _ => ?_))
   | exact impl_corner.mono _ _
   | exact impl_reach.mono _ _
   | exact LeO.none _
   | refine LeO.ite ?_ ?_
   | refine LeO.bind ?_ (fun _ => ?_)
set_option maxHeartbeats 8000000 in
set_option maxRecDepth 100000 in
theorem impl_sizeOf.calls (k : Nat) (A0 : Option Addr) (c0 : Nat) (l0 : List (S39)) (r1 : Int) (r2 : Int) (w : World) (hr0 : Kd.C k39 w A0 l0.length l0) (hc0 : l0.length ≤ c0) (h : impl_sizeOf.f k l0 = some (r1, r2)) :
  Calls Tryz.prog 29 #[.slice A0 l0.length c0] w fun e w' => e = .returned (.tuple #[.int .i64 r1, .int .i64 r2]) ∧ Below w.heap.size w w' := by
 have hu39 := Tryz.underlying39
 have HR0 := Aside0.mk hr0
 have HC0 := Aside0.mk hc0
 clear hr0 hc0
 have HB := Aside0.mk (Below.refl w.heap.size w)
 have H : ((impl_corner.f k l0).bind fun bt478 => ((impl_reach.f k l0).bind fun bt480 => (some (wrap64 ((wrap64 (bt480.1 - bt478.1)) + 1), wrap64 ((wrap64 (bt480.2 - bt478.2)) + 1))))) = some (r1, r2) := h
 clear h
 replace H := Option.bind_eq_some_iff.mp H
 obtain ⟨⟨t478, t479⟩, A20, H⟩ := H
 try dsimp only at H
 have A2 := Aside0.mk A20
 clear A20
 replace H := Option.bind_eq_some_iff.mp H
 obtain ⟨⟨t480, t481⟩, A30, H⟩ := H
 try dsimp only at H
 have A3 := Aside0.mk A30
 clear A30
 simp only [Option.some.injEq, Prod.mk.injEq] at H
 obtain ⟨rfl, rfl⟩ := H
 go_enter Tryz.func29, Tryz.ntmps29
 go_wp2_with (first | (go_at_call 42; (with_reducible refine (impl_corner.calls k _ _ l0 t478 t479 _ ?side1 ?side2 A2.out).mono ?_); (case side1 => exact cS_ HR0.out); (case side2 => exact HC0.out); rintro e w4 ⟨rfl, hb⟩; replace HB := Aside0.mk (below_step bB_ hb); (try clear hb)) | (go_at_call 54; (with_reducible refine (impl_reach.calls k _ _ l0 t480 t481 _ ?side1 ?side2 A3.out).mono ?_); (case side1 => exact cS_ (Kd.C_below HR0.out HB.out)); (case side2 => exact HC0.out); rintro e w5 ⟨rfl, hb⟩; replace HB := Aside0.mk (below_step bB_ hb); (try clear hb)) | ((with_reducible refine gate_dst (N := 4) rfl ?_); refine box_event ?hg (N := 4) ?hd (cs := #[.int .i64 0, .int .i64 0]) (t := 39) ?hr ?_; (case hd => rfl); (case hg => rfl); (case hr => first | (go_simp; done) | (go_simp; rfl)); intro gb482 hg w6 hbox hb; have BK482 := Aside0.mk (hbox); have GW482 := Aside0.mk ((by rw [hg]; exact (below_size bB_) : w.heap.size ≤ gb482)); have GE482 := Aside0.mk ((by rw [hg]; exact (below_size bB_) : w.heap.size ≤ gb482)); replace HB := Aside0.mk (below_step bB_ hb); clear hb hbox hg) | ((with_reducible refine gate_dst (N := 5) rfl ?_); refine box_event ?hg (N := 5) ?hd (cs := #[.int .i64 0, .int .i64 0]) (t := 39) ?hr ?_; (case hd => rfl); (case hg => rfl); (case hr => first | (go_simp; done) | (go_simp; rfl)); intro gb483 hg w7 hbox hb; have BK483 := Aside0.mk (hbox); have GW483 := Aside0.mk ((by rw [hg]; exact (below_size (by repeat (first | (with_reducible first | exact HB.out | apply below_alloc | apply pw_below_drewN | apply below_drew1 | refine below_set ?_ GE482.out) | exact HB.out))) : w.heap.size ≤ gb483)); have GE483 := Aside0.mk ((by rw [hg]; exact (below_size (by repeat (first | (with_reducible first | exact HB.out | apply below_alloc | apply pw_below_drewN | apply below_drew1 | refine below_set ?_ GE482.out) | exact HB.out))) : w.heap.size ≤ gb483)); replace HB := Aside0.mk (below_step (by repeat (first | (with_reducible first | exact HB.out | apply below_alloc | apply pw_below_drewN | apply below_drew1 | refine below_set ?_ GE482.out) | exact HB.out)) hb); have NB482_483 := Aside0.mk ((by rw [hg]; exact Nat.ne_of_lt (blk_lt (g := gb482) (o := .cells #[.int .i64 0, .int .i64 0] 39 (0, 0)) (by (with_reducible repeat (first | refine blk_drewN ?_ _ | refine blk_drew ?_ | refine blk_alloc ?_ _)); exact BK482.out)) : gb482 ≠ gb483)); have NB483_482 := Aside0.mk ((by rw [hg]; exact Nat.ne_of_gt (blk_lt (g := gb482) (o := .cells #[.int .i64 0, .int .i64 0] 39 (0, 0)) (by (with_reducible repeat (first | refine blk_drewN ?_ _ | refine blk_drew ?_ | refine blk_alloc ?_ _)); exact BK482.out)) : gb483 ≠ gb482)); replace BK482 := Aside0.mk (blk_below (g := gb482) (o := .cells #[.int .i64 0, .int .i64 0] 39 (0, 0)) (by (with_reducible repeat (first | refine blk_drewN ?_ _ | refine blk_drew ?_ | refine blk_alloc ?_ _)); exact BK482.out) hb); clear hb hbox hg; have hnb8 := NB482_483.out; have hnc8 := NB483_482.out; have hcz9_0 : w7.cell? ⟨gb482, 0, none⟩ = some (.int .i64 0) := (blk_cell BK482.out 0).trans rfl; have hcz9_1 : w7.cell? ⟨gb482, 1, none⟩ = some (.int .i64 0) := (blk_cell BK482.out 1).trans rfl; have hfz9_0 := blk_frozen BK482.out 0; have hfz9_1 := blk_frozen BK482.out 1; have hcz10_0 : w7.cell? ⟨gb483, 0, none⟩ = some (.int .i64 0) := (blk_cell BK483.out 0).trans rfl; have hcz10_1 : w7.cell? ⟨gb483, 1, none⟩ = some (.int .i64 0) := (blk_cell BK483.out 1).trans rfl; have hfz10_0 := blk_frozen BK483.out 0; have hfz10_1 := blk_frozen BK483.out 1))
 repeat (go_quiet (first | (go_at_call 42; (with_reducible refine (impl_corner.calls k _ _ l0 t478 t479 _ ?side1 ?side2 A2.out).mono ?_); (case side1 => exact cS_ HR0.out); (case side2 => exact HC0.out); rintro e w4 ⟨rfl, hb⟩; replace HB := Aside0.mk (below_step bB_ hb); (try clear hb)) | (go_at_call 54; (with_reducible refine (impl_reach.calls k _ _ l0 t480 t481 _ ?side1 ?side2 A3.out).mono ?_); (case side1 => exact cS_ (Kd.C_below HR0.out HB.out)); (case side2 => exact HC0.out); rintro e w5 ⟨rfl, hb⟩; replace HB := Aside0.mk (below_step bB_ hb); (try clear hb)) | ((with_reducible refine gate_dst (N := 4) rfl ?_); refine box_event ?hg (N := 4) ?hd (cs := #[.int .i64 0, .int .i64 0]) (t := 39) ?hr ?_; (case hd => rfl); (case hg => rfl); (case hr => first | (go_simp; done) | (go_simp; rfl)); intro gb482 hg w6 hbox hb; have BK482 := Aside0.mk (hbox); have GW482 := Aside0.mk ((by rw [hg]; exact (below_size bB_) : w.heap.size ≤ gb482)); have GE482 := Aside0.mk ((by rw [hg]; exact (below_size bB_) : w.heap.size ≤ gb482)); replace HB := Aside0.mk (below_step bB_ hb); clear hb hbox hg) | ((with_reducible refine gate_dst (N := 5) rfl ?_); refine box_event ?hg (N := 5) ?hd (cs := #[.int .i64 0, .int .i64 0]) (t := 39) ?hr ?_; (case hd => rfl); (case hg => rfl); (case hr => first | (go_simp; done) | (go_simp; rfl)); intro gb483 hg w7 hbox hb; have BK483 := Aside0.mk (hbox); have GW483 := Aside0.mk ((by rw [hg]; exact (below_size (by repeat (first | (with_reducible first | exact HB.out | apply below_alloc | apply pw_below_drewN | apply below_drew1 | refine below_set ?_ GE482.out) | exact HB.out))) : w.heap.size ≤ gb483)); have GE483 := Aside0.mk ((by rw [hg]; exact (below_size (by repeat (first | (with_reducible first | exact HB.out | apply below_alloc | apply pw_below_drewN | apply below_drew1 | refine below_set ?_ GE482.out) | exact HB.out))) : w.heap.size ≤ gb483)); replace HB := Aside0.mk (below_step (by repeat (first | (with_reducible first | exact HB.out | apply below_alloc | apply pw_below_drewN | apply below_drew1 | refine below_set ?_ GE482.out) | exact HB.out)) hb); have NB482_483 := Aside0.mk ((by rw [hg]; exact Nat.ne_of_lt (blk_lt (g := gb482) (o := .cells #[.int .i64 0, .int .i64 0] 39 (0, 0)) (by (with_reducible repeat (first | refine blk_drewN ?_ _ | refine blk_drew ?_ | refine blk_alloc ?_ _)); exact BK482.out)) : gb482 ≠ gb483)); have NB483_482 := Aside0.mk ((by rw [hg]; exact Nat.ne_of_gt (blk_lt (g := gb482) (o := .cells #[.int .i64 0, .int .i64 0] 39 (0, 0)) (by (with_reducible repeat (first | refine blk_drewN ?_ _ | refine blk_drew ?_ | refine blk_alloc ?_ _)); exact BK482.out)) : gb483 ≠ gb482)); replace BK482 := Aside0.mk (blk_below (g := gb482) (o := .cells #[.int .i64 0, .int .i64 0] 39 (0, 0)) (by (with_reducible repeat (first | refine blk_drewN ?_ _ | refine blk_drew ?_ | refine blk_alloc ?_ _)); exact BK482.out) hb); clear hb hbox hg; have hnb8 := NB482_483.out; have hnc8 := NB483_482.out; have hcz9_0 : w7.cell? ⟨gb482, 0, none⟩ = some (.int .i64 0) := (blk_cell BK482.out 0).trans rfl; have hcz9_1 : w7.cell? ⟨gb482, 1, none⟩ = some (.int .i64 0) := (blk_cell BK482.out 1).trans rfl; have hfz9_0 := blk_frozen BK482.out 0; have hfz9_1 := blk_frozen BK482.out 1; have hcz10_0 : w7.cell? ⟨gb483, 0, none⟩ = some (.int .i64 0) := (blk_cell BK483.out 0).trans rfl; have hcz10_1 : w7.cell? ⟨gb483, 1, none⟩ = some (.int .i64 0) := (blk_cell BK483.out 1).trans rfl; have hfz10_0 := blk_frozen BK483.out 0; have hfz10_1 := blk_frozen BK483.out 1)); try go_wp2_with (first | (go_at_call 42; (with_reducible refine (impl_corner.calls k _ _ l0 t478 t479 _ ?side1 ?side2 A2.out).mono ?_); (case side1 => exact cS_ HR0.out); (case side2 => exact HC0.out); rintro e w4 ⟨rfl, hb⟩; replace HB := Aside0.mk (below_step bB_ hb); (try clear hb)) | (go_at_call 54; (with_reducible refine (impl_reach.calls k _ _ l0 t480 t481 _ ?side1 ?side2 A3.out).mono ?_); (case side1 => exact cS_ (Kd.C_below HR0.out HB.out)); (case side2 => exact HC0.out); rintro e w5 ⟨rfl, hb⟩; replace HB := Aside0.mk (below_step bB_ hb); (try clear hb)) | ((with_reducible refine gate_dst (N := 4) rfl ?_); refine box_event ?hg (N := 4) ?hd (cs := #[.int .i64 0, .int .i64 0]) (t := 39) ?hr ?_; (case hd => rfl); (case hg => rfl); (case hr => first | (go_simp; done) | (go_simp; rfl)); intro gb482 hg w6 hbox hb; have BK482 := Aside0.mk (hbox); have GW482 := Aside0.mk ((by rw [hg]; exact (below_size bB_) : w.heap.size ≤ gb482)); have GE482 := Aside0.mk ((by rw [hg]; exact (below_size bB_) : w.heap.size ≤ gb482)); replace HB := Aside0.mk (below_step bB_ hb); clear hb hbox hg) | ((with_reducible refine gate_dst (N := 5) rfl ?_); refine box_event ?hg (N := 5) ?hd (cs := #[.int .i64 0, .int .i64 0]) (t := 39) ?hr ?_; (case hd => rfl); (case hg => rfl); (case hr => first | (go_simp; done) | (go_simp; rfl)); intro gb483 hg w7 hbox hb; have BK483 := Aside0.mk (hbox); have GW483 := Aside0.mk ((by rw [hg]; exact (below_size (by repeat (first | (with_reducible first | exact HB.out | apply below_alloc | apply pw_below_drewN | apply below_drew1 | refine below_set ?_ GE482.out) | exact HB.out))) : w.heap.size ≤ gb483)); have GE483 := Aside0.mk ((by rw [hg]; exact (below_size (by repeat (first | (with_reducible first | exact HB.out | apply below_alloc | apply pw_below_drewN | apply below_drew1 | refine below_set ?_ GE482.out) | exact HB.out))) : w.heap.size ≤ gb483)); replace HB := Aside0.mk (below_step (by repeat (first | (with_reducible first | exact HB.out | apply below_alloc | apply pw_below_drewN | apply below_drew1 | refine below_set ?_ GE482.out) | exact HB.out)) hb); have NB482_483 := Aside0.mk ((by rw [hg]; exact Nat.ne_of_lt (blk_lt (g := gb482) (o := .cells #[.int .i64 0, .int .i64 0] 39 (0, 0)) (by (with_reducible repeat (first | refine blk_drewN ?_ _ | refine blk_drew ?_ | refine blk_alloc ?_ _)); exact BK482.out)) : gb482 ≠ gb483)); have NB483_482 := Aside0.mk ((by rw [hg]; exact Nat.ne_of_gt (blk_lt (g := gb482) (o := .cells #[.int .i64 0, .int .i64 0] 39 (0, 0)) (by (with_reducible repeat (first | refine blk_drewN ?_ _ | refine blk_drew ?_ | refine blk_alloc ?_ _)); exact BK482.out)) : gb483 ≠ gb482)); replace BK482 := Aside0.mk (blk_below (g := gb482) (o := .cells #[.int .i64 0, .int .i64 0] 39 (0, 0)) (by (with_reducible repeat (first | refine blk_drewN ?_ _ | refine blk_drew ?_ | refine blk_alloc ?_ _)); exact BK482.out) hb); clear hb hbox hg; have hnb8 := NB482_483.out; have hnc8 := NB483_482.out; have hcz9_0 : w7.cell? ⟨gb482, 0, none⟩ = some (.int .i64 0) := (blk_cell BK482.out 0).trans rfl; have hcz9_1 : w7.cell? ⟨gb482, 1, none⟩ = some (.int .i64 0) := (blk_cell BK482.out 1).trans rfl; have hfz9_0 := blk_frozen BK482.out 0; have hfz9_1 := blk_frozen BK482.out 1; have hcz10_0 : w7.cell? ⟨gb483, 0, none⟩ = some (.int .i64 0) := (blk_cell BK483.out 0).trans rfl; have hcz10_1 : w7.cell? ⟨gb483, 1, none⟩ = some (.int .i64 0) := (blk_cell BK483.out 1).trans rfl; have hfz10_0 := blk_frozen BK483.out 0; have hfz10_1 := blk_frozen BK483.out 1)))
 go_ret2
 exact ⟨r2_, by repeat (first | (with_reducible first | exact HB.out | apply below_alloc | apply pw_below_drewN | apply below_drew1 | refine below_set ?_ GE482.out | refine below_set ?_ GE483.out) | exact HB.out)⟩

end Go.Proofs.YtbkafaoehheioaaGreat.X
