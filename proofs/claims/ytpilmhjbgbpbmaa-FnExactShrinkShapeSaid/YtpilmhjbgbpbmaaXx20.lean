-- xprint.py
import Derived.Test.YtpilmhjbgbpbmaaXx0
import Derived.Test.YtpilmhjbgbpbmaaXx7
import Derived.Test.YtpilmhjbgbpbmaaXx11
namespace Go.Proofs.Ytpilmhjbgbpbmaa.X
open Go.RowKit Go.Proofs.YtpilmhjbgbpbmaaW.PrintWords Go.Proofs.YtpilmhjbgbpbmaaW.PrintLast Go.Proofs.YtpilmhjbgbpbmaaW.PrintMore
attribute [local go_sem] max2_int min2_int max_two min_two max_three min_three max_four min_four   -- for this text's walks alone
set_option linter.unusedVariables false
set_option linter.unusedSimpArgs false

/-! ### laws_eqCellSS: function 40 -/
def laws_eqCellSS.l0 : Nat → List (List (S42)) → List (List (S42)) → Int → Option (Bool)
 | 0, _, _, _ => none
 | k + 1, x0, x1, x5 => if x5 < (x0.length : Int) then (if 0 ≤ x5 then (if x5 < (x1.length : Int) then ((laws_eqCellS.f k (rd_L3 x0 x5) (rd_L3 x1 x5)).bind fun t941 => (if t941 = true then (laws_eqCellSS.l0 k x0 x1 (wrap64 (x5 + 1))) else (some false))) else (none)) else (none)) else (some true)
def laws_eqCellSS.f (k : Nat) (l0 : List (List (S42))) (l1 : List (List (S42))) : Option (Bool) := if (l0.length : Int) = (l1.length : Int) then (laws_eqCellSS.l0 k l0 l1 0) else (some false)
theorem laws_eqCellSS.mono_l : ∀ k, (∀ y0 y1 y2, LeO (laws_eqCellSS.l0 k y0 y1 y2) (laws_eqCellSS.l0 (k + 1) y0 y1 y2))
 | 0 => fun _ _ _ r h => by simp [laws_eqCellSS.l0] at h
 | k + 1 => by
  have ih0 := laws_eqCellSS.mono_l k
  ·intro y0 y1 y2
   unfold laws_eqCellSS.l0
   repeat' first
   | (with_reducible exact ih0 _ _ _)
   | (with_reducible exact laws_eqCellS.mono _ _ _)
   | (with_reducible exact LeO.refl _)
   | (with_reducible exact LeO.none _)
   | (with_reducible refine LeO.ite ?_ ?_)
   | (with_reducible refine LeO.bind ?_ (fun _ => ?_))
   | exact ih0 _ _ _
   | exact laws_eqCellS.mono _ _ _
   | exact LeO.none _
   | refine LeO.ite ?_ ?_
   | refine LeO.bind ?_ (fun _ => ?_)
theorem laws_eqCellSS.mono : ∀ a0 a1 k, LeO (laws_eqCellSS.f k a0 a1) (laws_eqCellSS.f (k + 1) a0 a1) := by
 intro a0 a1 k
 have ih0 := laws_eqCellSS.mono_l k
 unfold laws_eqCellSS.f
 repeat' first
   | (with_reducible exact ih0 _ _ _)
   | (with_reducible exact laws_eqCellS.mono _ _ _)
   | (with_reducible exact LeO.refl _)
   | (with_reducible exact LeO.none _)
   | (with_reducible refine LeO.ite ?_ ?_)
   | (with_reducible refine LeO.bind ?_ (fun _ => ?_))
   | exact ih0 _ _ _
   | exact laws_eqCellS.mono _ _ _
   | exact LeO.none _
   | refine LeO.ite ?_ ?_
   | refine LeO.bind ?_ (fun _ => ?_)
def laws_eqCellSS.T6 : Bool × List (List Nat × List Nat) := (true, [([], []), ([], []), ([0, 1], [0, 1]), ([2], [2]), ([], []), ([], []), ([4, 5], [4, 5]), ([6], [6]), ([3, 7], [3, 7]), ([8], [8])])
def laws_eqCellSS.B6 : List Nat := [0, 0, 3, 7, 0, 0, 48, 112, 255, 511]
theorem laws_eqCellSS.tab6 : rtab .any (opsOf Try.f40 6) = laws_eqCellSS.T6 := by kernel_rfl
theorem laws_eqCellSS.bits6 : waitsOk laws_eqCellSS.T6.2 laws_eqCellSS.B6 = true := by kernel_rfl
set_option maxHeartbeats 8000000 in
set_option maxRecDepth 100000 in
theorem laws_eqCellSS.calls (k : Nat) (A0 : Option Addr) (c0 : Nat) (l0 : List (List (S42))) (A1 : Option Addr) (c1 : Nat) (l1 : List (List (S42))) (r : Bool) (w : World) (hr0 : Kd.C (Kd.slice 42 k42) w A0 l0.length l0) (hc0 : l0.length ≤ c0) (hr1 : Kd.C (Kd.slice 42 k42) w A1 l1.length l1) (hc1 : l1.length ≤ c1) (h : laws_eqCellSS.f k l0 l1 = some r) :
  Calls Try.prog 40 #[.slice A0 l0.length c0, .slice A1 l1.length c1] w fun e w' => e = .returned (.bool r) ∧ Below w.heap.size w w' := by
 have HR0 := Aside0.mk hr0
 have HC0 := Aside0.mk hc0
 clear hr0 hc0
 have HR1 := Aside0.mk hr1
 have HC1 := Aside0.mk hc1
 clear hr1 hc1
 have HB := Aside0.mk (Below.refl w.heap.size w)
 have H : (if (l0.length : Int) = (l1.length : Int) then (laws_eqCellSS.l0 k l0 l1 0) else (some false)) = some r := h
 clear h
 by_cases c3 : (l0.length : Int) = (l1.length : Int)
 ·rw [if_pos c3] at H
  have c3b0 : ((l0.length : Int) == (l1.length : Int)) = true := beq_iff_eq.mpr c3
  have c3b1 : ((l0.length : Int) != (l1.length : Int)) = false := bne_eq_false_iff_eq.mpr c3
  have c3b2 : (l0.length == l1.length) = true := by first | simpa using c3 | (simp at c3 ⊢; omega)
  clear c3
  have H' := Aside0.mk H
  clear H
  go_enter Try.func40, Try.ntmps40
  go_wp2
  go_loopg [5] k (fun kq v5 w' => ∃ (x5_1 : Int), v5 = .int .i64 x5_1 ∧ Aside0 (laws_eqCellSS.l0 kq l0 l1 x5_1 = some r) ∧ Aside0 (kq ≤ k) ∧ Aside0 (Below w.heap.size w w'))
  case atStart => exact ⟨(0), (by first | rfl | (simp; done) | (simp [*]; done)), H', ⟨Nat.le_refl _⟩, ⟨by repeat (with_reducible first | exact HB.out | apply below_alloc | apply pw_below_drewN | apply below_drew1)⟩⟩
  case round =>
   clear H'
   try clear c1
   try clear p2
   try clear c3
   try clear c3b0
   try clear c3b1
   try clear c3b2
   obtain ⟨x5_1, rfl, HA, HK1, HB⟩ := hrel
   cases gk with
   | zero => exact absurd HA.out (by simp [laws_eqCellSS.l0])
   | succ k1 =>
    have H := HA.out
    clear HA
    simp only [laws_eqCellSS.l0] at H
    by_cases c4 : x5_1 < (l0.length : Int)
    ·rw [if_pos c4] at H
     have c4b0 : decide (x5_1 < (l0.length : Int)) = true := decide_eq_true c4
     clear c4
     by_cases c5 : 0 ≤ x5_1
     ·rw [if_pos c5] at H
      have c5b0 : decide (0 ≤ x5_1) = true := decide_eq_true c5
      clear c5
      by_cases c6 : x5_1 < (l1.length : Int)
      ·rw [if_pos c6] at H
       have c6b0 : decide (x5_1 < (l1.length : Int)) = true := decide_eq_true c6
       clear c6
       replace H := Option.bind_eq_some_iff.mp H
       obtain ⟨t941, A70, H⟩ := H
       replace H : (if t941 = true then (laws_eqCellSS.l0 k1 l0 l1 (wrap64 (x5_1 + 1))) else (some false)) = some r := H
       have A7 := Aside0.mk A70
       clear A70
       by_cases c8 : t941 = true
       ·subst c8
        have H1 : (laws_eqCellSS.l0 k1 l0 l1 (wrap64 (x5_1 + 1))) = some r := by rw [if_pos rfl] at H; exact H
        clear H
        have H := H1
        clear H1
        have H' := Aside0.mk H
        clear H
        try go_wp2
        have n0_ := Aside0.mk (below_drew1 HB.out)
        clear HB
        have HB := n0_
        clear n0_
        have p939 : 0 ≤ (x5_1 : Int) := of_decide_eq_true (by first | (with_reducible assumption) | assumption)
        have q939 : x5_1 < (l0.length : Int) := of_decide_eq_true (by first | (with_reducible assumption) | assumption)
        obtain ⟨ad939, A939_0, c939_0, e939, hx939_0, hl939_0, hi939_0⟩ := at_L3 HR0.out x5_1 p939 q939
        have hw939_0 := hx939_0
        cases e939
        replace hx939_0 := (HB.out.cell (World.block_lt_of_cell? w _ hx939_0)).trans hx939_0
        have HR939_0 := Aside0.mk hi939_0
        have HC939_0 := Aside0.mk hl939_0
        clear hi939_0 hl939_0
        replace p939 := eq_true p939
        replace q939 := eq_true q939
        have p940 : 0 ≤ (x5_1 : Int) := of_decide_eq_true (by first | (with_reducible assumption) | assumption)
        have q940 : x5_1 < (l1.length : Int) := of_decide_eq_true (by first | (with_reducible assumption) | assumption)
        obtain ⟨ad940, A940_0, c940_0, e940, hx940_0, hl940_0, hi940_0⟩ := at_L3 HR1.out x5_1 p940 q940
        have hw940_0 := hx940_0
        cases e940
        replace hx940_0 := (HB.out.cell (World.block_lt_of_cell? w _ hx940_0)).trans hx940_0
        have HR940_0 := Aside0.mk hi940_0
        have HC940_0 := Aside0.mk hl940_0
        clear hi940_0 hl940_0
        replace p940 := eq_true p940
        replace q940 := eq_true q940
        refine start_ (n := 10) (S := fun w' => w'.cell? (ad939.add (x5_1).toNat) = some (.slice A939_0 (rd_L3 l0 x5_1).length c939_0) ∧ w'.cell? (ad940.add (x5_1).toNat) = some (.slice A940_0 (rd_L3 l1 x5_1).length c940_0)) (ds := []) #[F, F, F, F, F, F, F, F, F, F] (by kernel_rfl) rfl rfl ⟨((HB.out.cell (World.block_lt_of_cell? w _ hw939_0)).trans hw939_0), ((HB.out.cell (World.block_lt_of_cell? w _ hw940_0)).trans hw940_0)⟩ (fun hHeld => ?_); refine with_tabW laws_eqCellSS.tab6 laws_eqCellSS.bits6 (fun HT_ HW_ => ?_)
        generalize wr.drew = w9 at HB HR939_0 HR940_0 hx939_0 hx940_0 hHeld ⊢
        refine pure_ (i := 0) (N := some 17) (v := ?_) (a' := ?_) #[T, F, F, F, F, F, F, F, F, F] rfl rfl (any_of HT_.out (by kernel_rfl)) (fun _ _ _ h => h) (Or.inl ⟨by rfl, ?_⟩) ?_ ?_
        rotate_left
        ·intro w'
         go_simp
         with_reducible rfl
        rotate_left
        ·simp only [Act.put, List.setIfInBounds_toArray, List.set_cons_zero, List.set_cons_succ, i64_w, i32_w]
         rfl
        refine pure_ (i := 1) (N := some 18) (v := ?_) (a' := ?_) #[T, T, F, F, F, F, F, F, F, F] rfl rfl (any_of HT_.out (by kernel_rfl)) (fun _ _ _ h => h) (Or.inl ⟨by rfl, ?_⟩) ?_ ?_
        rotate_left
        ·intro w'
         go_simp
         with_reducible rfl
        rotate_left
        ·simp only [Act.put, List.setIfInBounds_toArray, List.set_cons_zero, List.set_cons_succ, i64_w, i32_w]
         rfl
        refine pure_ (i := 2) (N := some 19) (v := ?_) (a' := ?_) #[T, T, T, F, F, F, F, F, F, F] rfl rfl (any_of HT_.out (by kernel_rfl)) (fun _ _ _ h => h) (Or.inl ⟨by rfl, ?_⟩) ?_ ?_
        rotate_left
        ·intro w'
         go_simp
         with_reducible rfl
        rotate_left
        ·simp only [Act.put, List.setIfInBounds_toArray, List.set_cons_zero, List.set_cons_succ, i64_w, i32_w]
         rfl
        refine pure_ (i := 4) (N := some 21) (v := ?_) (a' := ?_) #[T, T, T, F, T, F, F, F, F, F] rfl rfl (any_of HT_.out (by kernel_rfl)) (fun _ _ _ h => h) (Or.inl ⟨by rfl, ?_⟩) ?_ ?_
        rotate_left
        ·intro w'
         go_simp
         with_reducible rfl
        rotate_left
        ·simp only [Act.put, List.setIfInBounds_toArray, List.set_cons_zero, List.set_cons_succ, i64_w, i32_w]
         rfl
        refine pure_ (i := 5) (N := some 22) (v := ?_) (a' := ?_) #[T, T, T, F, T, T, F, F, F, F] rfl rfl (any_of HT_.out (by kernel_rfl)) (fun _ _ _ h => h) (Or.inl ⟨by rfl, ?_⟩) ?_ ?_
        rotate_left
        ·intro w'
         go_simp
         with_reducible rfl
        rotate_left
        ·simp only [Act.put, List.setIfInBounds_toArray, List.set_cons_zero, List.set_cons_succ, i64_w, i32_w]
         rfl
        refine pure_ (i := 6) (N := some 23) (v := ?_) (a' := ?_) #[T, T, T, F, T, T, T, F, F, F] rfl rfl (any_of HT_.out (by kernel_rfl)) (fun _ _ _ h => h) (Or.inl ⟨by rfl, ?_⟩) ?_ ?_
        rotate_left
        ·intro w'
         go_simp
         with_reducible rfl
        rotate_left
        ·simp only [Act.put, List.setIfInBounds_toArray, List.set_cons_zero, List.set_cons_succ, i64_w, i32_w]
         rfl
        refine take_ (i := 3) (N := some 20) (v := ?_) (a' := ?_) #[T, T, T, T, T, T, T, F, F, F] rfl rfl (take_ofW HT_.out HW_.out (by kernel_rfl)) (fun _ _ _ h => h) (Or.inl ⟨by rfl, ?_⟩) hHeld ?_ ?_
        rotate_left
        ·rintro w' ⟨s0, s1⟩
         go_simp
         with_reducible rfl
        rotate_left
        ·simp only [Act.put, List.setIfInBounds_toArray, List.set_cons_zero, List.set_cons_succ, i64_w, i32_w]
         rfl
        refine take_ (i := 7) (N := some 24) (v := ?_) (a' := ?_) #[T, T, T, T, T, T, T, T, F, F] rfl rfl (take_ofW HT_.out HW_.out (by kernel_rfl)) (fun _ _ _ h => h) (Or.inl ⟨by rfl, ?_⟩) hHeld ?_ ?_
        rotate_left
        ·rintro w' ⟨s0, s1⟩
         go_simp
         with_reducible rfl
        rotate_left
        ·simp only [Act.put, List.setIfInBounds_toArray, List.set_cons_zero, List.set_cons_succ, i64_w, i32_w]
         rfl
        refine one_ (i := 8) (N := some 25) #[T, T, T, T, T, T, T, T, T, F] rfl rfl (one_of HT_.out (by kernel_rfl)) (by decide) (fun K hK => ?_)
        refine goes_ Try.func18 (by kernel_rfl) rfl #[.slice A939_0 (rd_L3 l0 x5_1).length c939_0, .slice A940_0 (rd_L3 l1 x5_1).length c940_0] (by rfl) rfl rfl (by (try simp only [List.map_toArray, List.map_cons, List.map_nil]); first | done | rfl) ?_
        with_reducible refine (laws_eqCellS.calls k1 _ _ (rd_L3 l0 x5_1) _ _ (rd_L3 l1 x5_1) true _ ?side1 ?side2 ?side3 ?side4 A7.out).mono ?_
        (case side1 => repeat (first | exact (Kd.C_below HR939_0.out HB.out) | (with_reducible refine Kd.C_alloc ?_ _) | (with_reducible refine Kd.C_drewN ?_ _) | (with_reducible refine Kd.C_drew ?_)))
        (case side2 => exact HC939_0.out)
        (case side3 => repeat (first | exact (Kd.C_below HR940_0.out HB.out) | (with_reducible refine Kd.C_alloc ?_ _) | (with_reducible refine Kd.C_drewN ?_ _) | (with_reducible refine Kd.C_drew ?_)))
        (case side4 => exact HC940_0.out)
        rintro e w10 ⟨rfl, hb⟩
        refine ⟨_, rfl, ?_⟩
        have n0_ := Aside0.mk (below_step (by repeat (with_reducible first | exact HB.out | apply below_alloc | apply pw_below_drewN | apply below_drew1)) hb)
        clear HB
        have HB := n0_
        clear n0_
        (try clear hb)
        refine hK.out _ _ ⟨((HB.out.cell (World.block_lt_of_cell? w _ hw939_0)).trans hw939_0), ((HB.out.cell (World.block_lt_of_cell? w _ hw940_0)).trans hw940_0)⟩ (fun hHeld => ?_)
        clear hK K
        refine norm_ (a' := ?_) ?_ ?_
        rotate_left
        ·show Act.put _ (some 25) _ = _
         simp only [Act.put, List.setIfInBounds_toArray, List.set_cons_zero, List.set_cons_succ, i64_w, i32_w]
         rfl
        refine pure_ (i := 9) (N := some 26) (v := ?_) (a' := ?_) #[T, T, T, T, T, T, T, T, T, T] rfl rfl (any_of HT_.out (by kernel_rfl)) (fun _ _ _ h => h) (Or.inl ⟨by rfl, ?_⟩) ?_ ?_
        rotate_left
        ·intro w'
         go_simp
         with_reducible rfl
        rotate_left
        ·simp only [Act.put, List.setIfInBounds_toArray, List.set_cons_zero, List.set_cons_succ, i64_w, i32_w]
         rfl
        refine done_ (done_of HT_.out (by kernel_rfl)) ?_
        try go_wp2
        go_roundg k1
        case measure => have := HK1.out; omega
        case rel => exact ⟨(wrap64 (x5_1 + 1)), (by first | rfl | (simp; done) | (simp [*]; done)), H', ⟨by have := HK1.out; omega⟩, ⟨by repeat (with_reducible first | exact HB.out | apply below_alloc | apply pw_below_drewN | apply below_drew1)⟩⟩
       ·replace c8 := Bool.eq_false_iff.mpr c8
        subst c8
        have H1 : (some false) = some r := by rw [if_neg (show ¬ (false = true) by decide)] at H; exact H
        clear H
        have H := H1
        clear H1
        obtain rfl := Option.some.inj H
        try go_wp2
        have n0_ := Aside0.mk (below_drew1 HB.out)
        clear HB
        have HB := n0_
        clear n0_
        have p939 : 0 ≤ (x5_1 : Int) := of_decide_eq_true (by first | (with_reducible assumption) | assumption)
        have q939 : x5_1 < (l0.length : Int) := of_decide_eq_true (by first | (with_reducible assumption) | assumption)
        obtain ⟨ad939, A939_0, c939_0, e939, hx939_0, hl939_0, hi939_0⟩ := at_L3 HR0.out x5_1 p939 q939
        have hw939_0 := hx939_0
        cases e939
        replace hx939_0 := (HB.out.cell (World.block_lt_of_cell? w _ hx939_0)).trans hx939_0
        have HR939_0 := Aside0.mk hi939_0
        have HC939_0 := Aside0.mk hl939_0
        clear hi939_0 hl939_0
        replace p939 := eq_true p939
        replace q939 := eq_true q939
        have p940 : 0 ≤ (x5_1 : Int) := of_decide_eq_true (by first | (with_reducible assumption) | assumption)
        have q940 : x5_1 < (l1.length : Int) := of_decide_eq_true (by first | (with_reducible assumption) | assumption)
        obtain ⟨ad940, A940_0, c940_0, e940, hx940_0, hl940_0, hi940_0⟩ := at_L3 HR1.out x5_1 p940 q940
        have hw940_0 := hx940_0
        cases e940
        replace hx940_0 := (HB.out.cell (World.block_lt_of_cell? w _ hx940_0)).trans hx940_0
        have HR940_0 := Aside0.mk hi940_0
        have HC940_0 := Aside0.mk hl940_0
        clear hi940_0 hl940_0
        replace p940 := eq_true p940
        replace q940 := eq_true q940
        refine start_ (n := 10) (S := fun w' => w'.cell? (ad939.add (x5_1).toNat) = some (.slice A939_0 (rd_L3 l0 x5_1).length c939_0) ∧ w'.cell? (ad940.add (x5_1).toNat) = some (.slice A940_0 (rd_L3 l1 x5_1).length c940_0)) (ds := []) #[F, F, F, F, F, F, F, F, F, F] (by kernel_rfl) rfl rfl ⟨((HB.out.cell (World.block_lt_of_cell? w _ hw939_0)).trans hw939_0), ((HB.out.cell (World.block_lt_of_cell? w _ hw940_0)).trans hw940_0)⟩ (fun hHeld => ?_); refine with_tabW laws_eqCellSS.tab6 laws_eqCellSS.bits6 (fun HT_ HW_ => ?_)
        generalize wr.drew = w11 at HB HR939_0 HR940_0 hx939_0 hx940_0 hHeld ⊢
        refine pure_ (i := 0) (N := some 17) (v := ?_) (a' := ?_) #[T, F, F, F, F, F, F, F, F, F] rfl rfl (any_of HT_.out (by kernel_rfl)) (fun _ _ _ h => h) (Or.inl ⟨by rfl, ?_⟩) ?_ ?_
        rotate_left
        ·intro w'
         go_simp
         with_reducible rfl
        rotate_left
        ·simp only [Act.put, List.setIfInBounds_toArray, List.set_cons_zero, List.set_cons_succ, i64_w, i32_w]
         rfl
        refine pure_ (i := 1) (N := some 18) (v := ?_) (a' := ?_) #[T, T, F, F, F, F, F, F, F, F] rfl rfl (any_of HT_.out (by kernel_rfl)) (fun _ _ _ h => h) (Or.inl ⟨by rfl, ?_⟩) ?_ ?_
        rotate_left
        ·intro w'
         go_simp
         with_reducible rfl
        rotate_left
        ·simp only [Act.put, List.setIfInBounds_toArray, List.set_cons_zero, List.set_cons_succ, i64_w, i32_w]
         rfl
        refine pure_ (i := 2) (N := some 19) (v := ?_) (a' := ?_) #[T, T, T, F, F, F, F, F, F, F] rfl rfl (any_of HT_.out (by kernel_rfl)) (fun _ _ _ h => h) (Or.inl ⟨by rfl, ?_⟩) ?_ ?_
        rotate_left
        ·intro w'
         go_simp
         with_reducible rfl
        rotate_left
        ·simp only [Act.put, List.setIfInBounds_toArray, List.set_cons_zero, List.set_cons_succ, i64_w, i32_w]
         rfl
        refine pure_ (i := 4) (N := some 21) (v := ?_) (a' := ?_) #[T, T, T, F, T, F, F, F, F, F] rfl rfl (any_of HT_.out (by kernel_rfl)) (fun _ _ _ h => h) (Or.inl ⟨by rfl, ?_⟩) ?_ ?_
        rotate_left
        ·intro w'
         go_simp
         with_reducible rfl
        rotate_left
        ·simp only [Act.put, List.setIfInBounds_toArray, List.set_cons_zero, List.set_cons_succ, i64_w, i32_w]
         rfl
        refine pure_ (i := 5) (N := some 22) (v := ?_) (a' := ?_) #[T, T, T, F, T, T, F, F, F, F] rfl rfl (any_of HT_.out (by kernel_rfl)) (fun _ _ _ h => h) (Or.inl ⟨by rfl, ?_⟩) ?_ ?_
        rotate_left
        ·intro w'
         go_simp
         with_reducible rfl
        rotate_left
        ·simp only [Act.put, List.setIfInBounds_toArray, List.set_cons_zero, List.set_cons_succ, i64_w, i32_w]
         rfl
        refine pure_ (i := 6) (N := some 23) (v := ?_) (a' := ?_) #[T, T, T, F, T, T, T, F, F, F] rfl rfl (any_of HT_.out (by kernel_rfl)) (fun _ _ _ h => h) (Or.inl ⟨by rfl, ?_⟩) ?_ ?_
        rotate_left
        ·intro w'
         go_simp
         with_reducible rfl
        rotate_left
        ·simp only [Act.put, List.setIfInBounds_toArray, List.set_cons_zero, List.set_cons_succ, i64_w, i32_w]
         rfl
        refine take_ (i := 3) (N := some 20) (v := ?_) (a' := ?_) #[T, T, T, T, T, T, T, F, F, F] rfl rfl (take_ofW HT_.out HW_.out (by kernel_rfl)) (fun _ _ _ h => h) (Or.inl ⟨by rfl, ?_⟩) hHeld ?_ ?_
        rotate_left
        ·rintro w' ⟨s0, s1⟩
         go_simp
         with_reducible rfl
        rotate_left
        ·simp only [Act.put, List.setIfInBounds_toArray, List.set_cons_zero, List.set_cons_succ, i64_w, i32_w]
         rfl
        refine take_ (i := 7) (N := some 24) (v := ?_) (a' := ?_) #[T, T, T, T, T, T, T, T, F, F] rfl rfl (take_ofW HT_.out HW_.out (by kernel_rfl)) (fun _ _ _ h => h) (Or.inl ⟨by rfl, ?_⟩) hHeld ?_ ?_
        rotate_left
        ·rintro w' ⟨s0, s1⟩
         go_simp
         with_reducible rfl
        rotate_left
        ·simp only [Act.put, List.setIfInBounds_toArray, List.set_cons_zero, List.set_cons_succ, i64_w, i32_w]
         rfl
        refine one_ (i := 8) (N := some 25) #[T, T, T, T, T, T, T, T, T, F] rfl rfl (one_of HT_.out (by kernel_rfl)) (by decide) (fun K hK => ?_)
        refine goes_ Try.func18 (by kernel_rfl) rfl #[.slice A939_0 (rd_L3 l0 x5_1).length c939_0, .slice A940_0 (rd_L3 l1 x5_1).length c940_0] (by rfl) rfl rfl (by (try simp only [List.map_toArray, List.map_cons, List.map_nil]); first | done | rfl) ?_
        with_reducible refine (laws_eqCellS.calls k1 _ _ (rd_L3 l0 x5_1) _ _ (rd_L3 l1 x5_1) false _ ?side1 ?side2 ?side3 ?side4 A7.out).mono ?_
        (case side1 => repeat (first | exact (Kd.C_below HR939_0.out HB.out) | (with_reducible refine Kd.C_alloc ?_ _) | (with_reducible refine Kd.C_drewN ?_ _) | (with_reducible refine Kd.C_drew ?_)))
        (case side2 => exact HC939_0.out)
        (case side3 => repeat (first | exact (Kd.C_below HR940_0.out HB.out) | (with_reducible refine Kd.C_alloc ?_ _) | (with_reducible refine Kd.C_drewN ?_ _) | (with_reducible refine Kd.C_drew ?_)))
        (case side4 => exact HC940_0.out)
        rintro e w12 ⟨rfl, hb⟩
        refine ⟨_, rfl, ?_⟩
        have n0_ := Aside0.mk (below_step (by repeat (with_reducible first | exact HB.out | apply below_alloc | apply pw_below_drewN | apply below_drew1)) hb)
        clear HB
        have HB := n0_
        clear n0_
        (try clear hb)
        refine hK.out _ _ ⟨((HB.out.cell (World.block_lt_of_cell? w _ hw939_0)).trans hw939_0), ((HB.out.cell (World.block_lt_of_cell? w _ hw940_0)).trans hw940_0)⟩ (fun hHeld => ?_)
        clear hK K
        refine norm_ (a' := ?_) ?_ ?_
        rotate_left
        ·show Act.put _ (some 25) _ = _
         simp only [Act.put, List.setIfInBounds_toArray, List.set_cons_zero, List.set_cons_succ, i64_w, i32_w]
         rfl
        refine pure_ (i := 9) (N := some 26) (v := ?_) (a' := ?_) #[T, T, T, T, T, T, T, T, T, T] rfl rfl (any_of HT_.out (by kernel_rfl)) (fun _ _ _ h => h) (Or.inl ⟨by rfl, ?_⟩) ?_ ?_
        rotate_left
        ·intro w'
         go_simp
         with_reducible rfl
        rotate_left
        ·simp only [Act.put, List.setIfInBounds_toArray, List.set_cons_zero, List.set_cons_succ, i64_w, i32_w]
         rfl
        refine done_ (done_of HT_.out (by kernel_rfl)) ?_
        try go_wp2
        go_ret
        exact ⟨by first | rfl | (simp [*] <;> rfl), by repeat (with_reducible first | exact HB.out | apply below_alloc | apply pw_below_drewN | apply below_drew1)⟩
      ·rw [if_neg c6] at H
       exact absurd H (by simp)
     ·rw [if_neg c5] at H
      exact absurd H (by simp)
    ·rw [if_neg c4] at H
     have c4b0 : decide (x5_1 < (l0.length : Int)) = false := decide_eq_false c4
     clear c4
     obtain rfl := Option.some.inj H
     go_wp2
     go_ret
     exact ⟨by first | rfl | (simp [*] <;> rfl), by repeat (with_reducible first | exact HB.out | apply below_alloc | apply pw_below_drewN | apply below_drew1)⟩
 ·rw [if_neg c3] at H
  have c3b0 : ((l0.length : Int) == (l1.length : Int)) = false := beq_eq_false_iff_ne.mpr c3
  have c3b1 : ((l0.length : Int) != (l1.length : Int)) = true := bne_iff_ne.mpr c3
  have c3b2 : (l0.length == l1.length) = false := by first | simpa using c3 | (simp at c3 ⊢; omega)
  obtain rfl := Option.some.inj H
  go_enter Try.func40, Try.ntmps40
  go_wp2
  go_ret
  exact ⟨by first | rfl | (simp [*] <;> rfl), by repeat (with_reducible first | exact HB.out | apply below_alloc | apply pw_below_drewN | apply below_drew1)⟩

/-! ### laws_markCellSS: function 41, by hand -/
-- COMMONS none
theorem ite_some_ {c : Prop} [Decidable c] {α : Type} {x : Option α} {r : α} (h : (if c then x else none) = some r) : c ∧ x = some r := by
 by_cases g : c
 ·rw [if_pos g] at h; exact ⟨g, h⟩
 ·rw [if_neg g] at h; cases h
def laws_markCellSS.f (k : Nat) : List (List S42) → Int → Option (Int × List (List S42))
 | [], m => some (m, [])
 | s :: r, m => (laws_markCellS.f k s m).bind fun p => (laws_markCellSS.f k r p.1).bind fun q => some (q.1, p.2 :: q.2)
theorem laws_markCellSS.mono : ∀ a0 a1 k, LeO (laws_markCellSS.f k a0 a1) (laws_markCellSS.f (k + 1) a0 a1) := by
 intro a0
 induction a0 with
 | nil => intro a1 k; exact LeO.refl _
 | cons s r ih => intro a1 k; exact LeO.bind (laws_markCellS.mono _ _ _) fun p => LeO.bind (ih p.1 k) fun _ => LeO.refl _
set_option maxHeartbeats 8000000 in
set_option maxRecDepth 100000 in
theorem laws_markCellSS.calls (k : Nat) (u : Value) (l : List (List S42)) (a1 r1 : Int) (r2 : List (List S42)) (w0 w : World) (hB : Below w0.heap.size w0 w) (hS : Kd.S (Kd.slice 42 k42) 27 w w0.heap.size (fun _ => True) u l) (h : laws_markCellSS.f k l a1 = some (r1, r2)) :
  Calls Try.prog 41 #[u, .int .i64 a1] w fun e w' => e = .returned (.int .i64 r1) ∧ Kd.S (Kd.slice 42 k42) 27 w' w0.heap.size (fun _ => True) u r2 ∧ Below w0.heap.size w0 w' := by
 have hu1 := Try.underlying43
 have hu2 := Try.underlying27
 obtain ⟨A, c, eu⟩ := Kd.S_slice hS
 subst eu
 have HL := Aside0.mk (Kd.S_reads' hS).2.2.2.1
 have HS := Aside0.mk hS
 have HB := Aside0.mk hB
 have HM := Aside0.mk h
 clear hS hB h
 go_enter Try.func41, Try.ntmps41
 go_wp2_with fail
 go_loopg [1, 5] l.length (fun gk v1 v5 wr => ∃ (i : Nat) (m : Int) (cur rest : List (List S42)), v1 = .int .i64 m ∧ v5 = .int .i64 i ∧ Aside0 (gk + i = l.length) ∧ Aside0 (cur.length = l.length) ∧ Aside0 (laws_markCellSS.f k (cur.drop i) m = some (r1, rest)) ∧ Aside0 (cur.take i ++ rest = r2) ∧ Aside0 (Kd.S (Kd.slice 42 k42) 27 wr w0.heap.size (fun _ => True) (.slice A l.length c) cur) ∧ Aside0 (Below w0.heap.size w0 wr))
 case atStart => exact ⟨0, a1, l, r2, rfl, rfl, ⟨rfl⟩, ⟨rfl⟩, HM, ⟨rfl⟩, HS, HB⟩
 case round =>
  clear HM HS HB
  obtain ⟨i, m, cur, rest, rfl, rfl, HI, HC, HM, HR, HS, HB⟩ := hrel
  cases gk with
  | zero =>
   have hi : i = l.length := by have := HI.out; omega
   have d1 : decide ((i : Int) < (l.length : Int)) = false := decide_eq_false (by omega)
   have d2 : decide (i < l.length) = false := decide_eq_false (by omega)
   have hm := HM.out
   have hr := HR.out
   rw [hi, ← HC.out, List.drop_length] at hm
   rw [hi, ← HC.out, List.take_length] at hr
   have hm2 : some (m, []) = some (r1, rest) := hm
   simp only [Option.some.injEq, Prod.mk.injEq] at hm2
   obtain ⟨rfl, rfl⟩ := hm2
   rw [List.append_nil] at hr
   subst hr
   clear hi hm HM HR
   go_wp2_with fail
   go_ret
   exact ⟨rfl, HS.out, HB.out⟩
  | succ gi =>
   have hi : i < l.length := by have := HI.out; omega
   have hic : i < cur.length := by rw [HC.out]; exact hi
   have hbig : l.length ≤ 9223372036854775807 := HL.out
   have p1 : 0 ≤ (i : Int) := by omega
   have q1 : (i : Int) < (l.length : Int) := by omega
   have d1 : decide ((i : Int) < (l.length : Int)) = true := decide_eq_true q1
   have d2 : decide (i < l.length) = true := decide_eq_true hi
   obtain ⟨g, cg, eg, _, _, _⟩ := Kd.S_form HS.out (by omega)
   injection eg with e1 e2 e3
   subst e1
   subst e3
   clear e2
   obtain ⟨oki, cs, hcl, ⟨v, ecs, hR⟩, hcc, hoki, hH⟩ := Kd.S_lend HS.out [] (i : Int) p1 q1
   subst ecs
   have hx := hcc 0 v rfl
   rw [Int.toNat_natCast, show i * (Kd.slice 42 k42).sz + 0 = i from Nat.mul_one i] at hx
   have hdr : cur.drop i = cur.getD i [] :: cur.drop (i + 1) := by
    rw [List.getD_eq_getElem?_getD, List.getElem?_eq_getElem hic, List.drop_eq_getElem_cons hic]; rfl
   have hm := HM.out
   rw [hdr] at hm
   obtain ⟨⟨m1, s1⟩, hm1, hm2⟩ := Option.bind_eq_some_iff.mp hm
   obtain ⟨⟨m2, rest2⟩, hm3, hm4⟩ := Option.bind_eq_some_iff.mp hm2
   simp only [Option.some.injEq, Prod.mk.injEq] at hm4
   obtain ⟨rfl, rfl⟩ := hm4
   rw [Int.toNat_natCast] at hR
   have HR1 := Aside0.mk hR
   have HH := Aside0.mk hH
   have HM1 := Aside0.mk hm1
   have hset : (cur.set i s1).drop (i + 1) = cur.drop (i + 1) := List.drop_set_of_lt (by omega)
   have HM3 := Aside0.mk (show laws_markCellSS.f k ((cur.set i s1).drop (i + 1)) m1 = some (m2, rest2) by rw [hset]; exact hm3)
   have HR2 := Aside0.mk (show (cur.set i s1).take (i + 1) ++ rest2 = r2 by
    rw [← HR.out, List.take_add_one, List.take_set_of_le (by omega), List.getElem?_set_self hic]; simp)
   have HC2 := Aside0.mk (show (cur.set i s1).length = l.length by rw [List.length_set]; exact HC.out)
   obtain ⟨B, cB, eB⟩ := Kd.R_slice hR
   subst eB
   clear hcc hcl hdr hm hm1 hm2 hm3 hset hR hH HM HR HS
   generalize cur.getD i [] = x at *
   go_wp2_with fail
   refine (laws_markCellS.calls k oki (.slice B x.length cB) x m m1 s1 w0 _ HB.out HR1.out HM1.out).mono ?_
   rintro e w2 ⟨rfl, hR2, hb2, hk2⟩
   have HS2 := Aside0.mk (Kd.H_back (Kd.H_kept (Kd.H_widen HH.out) hk2 (fun k _ hn hk => hn (.inl hk))) (x' := s1) ⟨_, rfl, hR2⟩ (fun k hk => hk.elim .inl (fun h => .inr ⟨trivial, h⟩)))
   rw [Int.toNat_natCast] at HS2
   have HB2 := Aside0.mk hb2
   clear hR2 hb2 hk2 HH HR1 HB
   go_wp2_with fail
   go_roundg gi
   case measure => omega
   case rel => exact ⟨i + 1, m1, cur.set i s1, rest2, rfl, by go_num, ⟨by have := HI.out; omega⟩, HC2, HM3, HR2, HS2, HB2⟩

/-! ### laws_heldCellSS: function 42 -/
def laws_heldCellSS.l0 : Nat → List (List (S42)) → Int → Int → Option (Int)
 | 0, _, _, _ => none
 | k + 1, x0, x1, x5 => if x5 < (x0.length : Int) then (if 0 ≤ x5 then ((laws_heldCellS.f k (rd_L3 x0 x5) x1).bind fun t943 => (if t943 < 0 then (some (-1)) else (laws_heldCellSS.l0 k x0 t943 (wrap64 (x5 + 1))))) else (none)) else (some x1)
def laws_heldCellSS.f (k : Nat) (l0 : List (List (S42))) (a1 : Int) : Option (Int) := laws_heldCellSS.l0 k l0 a1 0
theorem laws_heldCellSS.mono_l : ∀ k, (∀ y0 y1 y2, LeO (laws_heldCellSS.l0 k y0 y1 y2) (laws_heldCellSS.l0 (k + 1) y0 y1 y2))
 | 0 => fun _ _ _ r h => by simp [laws_heldCellSS.l0] at h
 | k + 1 => by
  have ih0 := laws_heldCellSS.mono_l k
  ·intro y0 y1 y2
   unfold laws_heldCellSS.l0
   repeat' first
   | (with_reducible exact ih0 _ _ _)
   | (with_reducible exact laws_heldCellS.mono _ _ _)
   | (with_reducible exact LeO.refl _)
   | (with_reducible exact LeO.none _)
   | (with_reducible refine LeO.ite ?_ ?_)
   | (with_reducible refine LeO.bind ?_ (fun _ => ?_))
   | exact ih0 _ _ _
   | exact laws_heldCellS.mono _ _ _
   | exact LeO.none _
   | refine LeO.ite ?_ ?_
   | refine LeO.bind ?_ (fun _ => ?_)
theorem laws_heldCellSS.mono : ∀ a0 a1 k, LeO (laws_heldCellSS.f k a0 a1) (laws_heldCellSS.f (k + 1) a0 a1) := by
 intro a0 a1 k
 have ih0 := laws_heldCellSS.mono_l k
 unfold laws_heldCellSS.f
 repeat' first
   | (with_reducible exact ih0 _ _ _)
   | (with_reducible exact laws_heldCellS.mono _ _ _)
   | (with_reducible exact LeO.refl _)
   | (with_reducible exact LeO.none _)
   | (with_reducible refine LeO.ite ?_ ?_)
   | (with_reducible refine LeO.bind ?_ (fun _ => ?_))
   | exact ih0 _ _ _
   | exact laws_heldCellS.mono _ _ _
   | exact LeO.none _
   | refine LeO.ite ?_ ?_
   | refine LeO.bind ?_ (fun _ => ?_)
set_option maxHeartbeats 8000000 in
set_option maxRecDepth 100000 in
theorem laws_heldCellSS.calls (k : Nat) (A0 : Option Addr) (c0 : Nat) (l0 : List (List (S42))) (a1 : Int) (r : Int) (w : World) (hr0 : Kd.C (Kd.slice 42 k42) w A0 l0.length l0) (hc0 : l0.length ≤ c0) (h : laws_heldCellSS.f k l0 a1 = some r) :
  Calls Try.prog 42 #[.slice A0 l0.length c0, .int .i64 a1] w fun e w' => e = .returned (.int .i64 r) ∧ Drawn0 w w' := by
 have HR0 := Aside0.mk hr0
 have HC0 := Aside0.mk hc0
 clear hr0 hc0
 have H : (laws_heldCellSS.l0 k l0 a1 0) = some r := h
 clear h
 have H' := Aside0.mk H
 clear H
 go_enter Try.func42, Try.ntmps42
 go_wp2
 go_loopg [1, 5] k (fun kq v1 v5 w' => ∃ (x1_1 : Int) (x5_1 : Int), v1 = .int .i64 x1_1 ∧ v5 = .int .i64 x5_1 ∧ Aside0 (laws_heldCellSS.l0 kq l0 x1_1 x5_1 = some r) ∧ Aside0 (kq ≤ k) ∧ Drawn0 w w')
 case atStart => exact ⟨(a1), (0), (by first | rfl | (simp; done) | (simp [*]; done)), (by first | rfl | (simp; done) | (simp [*]; done)), H', ⟨Nat.le_refl _⟩, by repeat (first | exact Drawn0.refl _ | apply Drawn0.step)⟩
 case round =>
  clear H'
  try clear p2
  obtain ⟨x1_1, x5_1, rfl, rfl, HA, HK1, ⟨m1, rfl⟩⟩ := hrel
  cases gk with
  | zero => exact absurd HA.out (by simp [laws_heldCellSS.l0])
  | succ k1 =>
   have H := HA.out
   clear HA
   simp only [laws_heldCellSS.l0] at H
   by_cases c3 : x5_1 < (l0.length : Int)
   ·rw [if_pos c3] at H
    have c3b0 : decide (x5_1 < (l0.length : Int)) = true := decide_eq_true c3
    clear c3
    by_cases c4 : 0 ≤ x5_1
    ·rw [if_pos c4] at H
     have c4b0 : decide (0 ≤ x5_1) = true := decide_eq_true c4
     clear c4
     replace H := Option.bind_eq_some_iff.mp H
     obtain ⟨t943, A50, H⟩ := H
     replace H : (if t943 < 0 then (some (-1)) else (laws_heldCellSS.l0 k1 l0 t943 (wrap64 (x5_1 + 1)))) = some r := H
     have A5 := Aside0.mk A50
     clear A50
     by_cases c6 : t943 < 0
     ·rw [if_pos c6] at H
      have c6b0 : decide (t943 < 0) = true := decide_eq_true c6
      clear c6
      obtain rfl := Option.some.inj H
      have p942 : 0 ≤ (x5_1 : Int) := of_decide_eq_true (by first | (with_reducible assumption) | assumption)
      have q942 : x5_1 < (l0.length : Int) := of_decide_eq_true (by first | (with_reducible assumption) | assumption)
      obtain ⟨ad942, A942_0, c942_0, e942, hx942_0, hl942_0, hi942_0⟩ := at_L3 HR0.out x5_1 p942 q942
      cases e942
      have HR942_0 := Aside0.mk hi942_0
      have HC942_0 := Aside0.mk hl942_0
      clear hi942_0 hl942_0
      replace p942 := eq_true p942
      replace q942 := eq_true q942
      go_wp2_with (first | ((with_reducible refine gate_callee (f := 24) rfl ?_); refine goesL_ (some 17) rfl rfl Try.func24 (by kernel_rfl) rfl #[.slice A942_0 (rd_L3 l0 x5_1).length c942_0, .int .i64 x1_1] rfl (by (try simp only [List.map_toArray, List.map_cons, List.map_nil]); first | done | rfl) ?_; (with_reducible refine (laws_heldCellS.calls k1 _ _ (rd_L3 l0 x5_1) x1_1 t943 _ ?side1 ?side2 A5.out).mono ?_); (case side1 => repeat (first | exact HR942_0.out | (with_reducible refine Kd.C_alloc ?_ _) | (with_reducible refine Kd.C_drewN ?_ _) | (with_reducible refine Kd.C_drew ?_))); (case side2 => exact HC942_0.out); rintro e w' ⟨rfl, ⟨nd, rfl⟩⟩; refine ⟨_, rfl, ?_⟩))
      go_ret
      exact ⟨by first | rfl | (simp; done) | (simp [*]; done), by repeat (first | exact Drawn0.refl _ | apply Drawn0.step)⟩
     ·rw [if_neg c6] at H
      have c6b0 : decide (t943 < 0) = false := decide_eq_false c6
      clear c6
      have H' := Aside0.mk H
      clear H
      have p942 : 0 ≤ (x5_1 : Int) := of_decide_eq_true (by first | (with_reducible assumption) | assumption)
      have q942 : x5_1 < (l0.length : Int) := of_decide_eq_true (by first | (with_reducible assumption) | assumption)
      obtain ⟨ad942, A942_0, c942_0, e942, hx942_0, hl942_0, hi942_0⟩ := at_L3 HR0.out x5_1 p942 q942
      cases e942
      have HR942_0 := Aside0.mk hi942_0
      have HC942_0 := Aside0.mk hl942_0
      clear hi942_0 hl942_0
      replace p942 := eq_true p942
      replace q942 := eq_true q942
      go_wp2_with (first | ((with_reducible refine gate_callee (f := 24) rfl ?_); refine goesL_ (some 17) rfl rfl Try.func24 (by kernel_rfl) rfl #[.slice A942_0 (rd_L3 l0 x5_1).length c942_0, .int .i64 x1_1] rfl (by (try simp only [List.map_toArray, List.map_cons, List.map_nil]); first | done | rfl) ?_; (with_reducible refine (laws_heldCellS.calls k1 _ _ (rd_L3 l0 x5_1) x1_1 t943 _ ?side1 ?side2 A5.out).mono ?_); (case side1 => repeat (first | exact HR942_0.out | (with_reducible refine Kd.C_alloc ?_ _) | (with_reducible refine Kd.C_drewN ?_ _) | (with_reducible refine Kd.C_drew ?_))); (case side2 => exact HC942_0.out); rintro e w' ⟨rfl, ⟨nd, rfl⟩⟩; refine ⟨_, rfl, ?_⟩))
      go_roundg k1
      case measure => have := HK1.out; omega
      case rel => exact ⟨(t943), (wrap64 (x5_1 + 1)), (by first | rfl | (simp; done) | (simp [*]; done)), (by first | rfl | (simp; done) | (simp [*]; done)), H', ⟨by have := HK1.out; omega⟩, by repeat (first | exact Drawn0.refl _ | apply Drawn0.step)⟩
    ·rw [if_neg c4] at H
     exact absurd H (by simp)
   ·rw [if_neg c3] at H
    have c3b0 : decide (x5_1 < (l0.length : Int)) = false := decide_eq_false c3
    clear c3
    obtain rfl := Option.some.inj H
    go_wp2
    go_ret
    exact ⟨by first | rfl | (simp; done) | (simp [*]; done), by repeat (first | exact Drawn0.refl _ | apply Drawn0.step)⟩

end Go.Proofs.Ytpilmhjbgbpbmaa.X
