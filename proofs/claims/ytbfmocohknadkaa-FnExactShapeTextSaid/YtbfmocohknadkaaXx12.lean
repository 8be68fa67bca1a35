-- xprint.py
import Derived.Test.YtbfmocohknadkaaXx0
namespace Go.Proofs.Ytbfmocohknadkaa.X
open Go.RowKit Go.Proofs.YtbfmocohknadkaaW.PrintWords Go.Proofs.YtbfmocohknadkaaW.PrintLast Go.Proofs.YtbfmocohknadkaaW.PrintMore
attribute [local go_sem] max2_int min2_int max_two min_two max_three min_three max_four min_four   -- for this text's walks alone
set_option linter.unusedVariables false
set_option linter.unusedSimpArgs false

/-! ### spec_l02Move: function 95 -/
def spec_l02Move.l0 : Nat → List (S57) → Int → Int → List (S57) → Int → Option ((List (S57)))
 | 0, _, _, _, _, _ => none
 | k + 1, x0, x1, x2, x7, x8 => if x8 < (x0.length : Int) then (if 0 ≤ x8 then (if x7.length < 8796093022208 then (spec_l02Move.l0 k x0 x1 x2 (x7 ++ [(⟨wrap64 (((rd_T57 x0 x8).f0) + x1), wrap64 (((rd_T57 x0 x8).f1) + x2)⟩ : S57)]) (wrap64 (x8 + 1))) else (none)) else (none)) else (some x7)
def spec_l02Move.f (k : Nat) (l0 : List (S57)) (a1 : Int) (a2 : Int) : Option ((List (S57))) := spec_l02Move.l0 k l0 a1 a2 (([] : List (S57))) 0
theorem spec_l02Move.mono_l : ∀ k, (∀ y0 y1 y2 y3 y4, LeO (spec_l02Move.l0 k y0 y1 y2 y3 y4) (spec_l02Move.l0 (k + 1) y0 y1 y2 y3 y4))
 | 0 => fun _ _ _ _ _ r h => by simp [spec_l02Move.l0] at h
 | k + 1 => by
  have ih0 := spec_l02Move.mono_l k
  ·intro y0 y1 y2 y3 y4
   unfold spec_l02Move.l0
   repeat' first
   | (with_reducible exact ih0 _ _ _ _ _)
   | (with_reducible exact LeO.refl _)
   | (with_reducible exact LeO.none _)
   | (with_reducible refine LeO.ite ?_ ?_)
   | (with_reducible refine LeO.bind ?_ (fun _ => ?_))
   | exact ih0 _ _ _ _ _
   | exact LeO.none _
   | refine LeO.ite ?_ ?_
   | refine LeO.bind ?_ (fun _ => ?_)
theorem spec_l02Move.mono : ∀ a0 a1 a2 k, LeO (spec_l02Move.f k a0 a1 a2) (spec_l02Move.f (k + 1) a0 a1 a2) := by
 intro a0 a1 a2 k
 have ih0 := spec_l02Move.mono_l k
 unfold spec_l02Move.f
 repeat' first
   | (with_reducible exact ih0 _ _ _ _ _)
   | (with_reducible exact LeO.refl _)
   | (with_reducible exact LeO.none _)
   | (with_reducible refine LeO.ite ?_ ?_)
   | (with_reducible refine LeO.bind ?_ (fun _ => ?_))
   | exact ih0 _ _ _ _ _
   | exact LeO.none _
   | refine LeO.ite ?_ ?_
   | refine LeO.bind ?_ (fun _ => ?_)
def spec_l02Move.T5 : Bool × List (List Nat × List Nat) := (true, [([], []), ([], []), ([], []), ([1, 2], [1, 2]), ([3], [3]), ([4], [4]), ([], []), ([5, 6], [5, 6]), ([], []), ([], []), ([8, 9], [8, 9]), ([10], [10]), ([11], [11]), ([], []), ([12, 13], [12, 13]), ([7, 14], [7, 14]), ([15], [15]), ([0, 16], [0, 16]), ([17, 17, 0, 1, 2, 3, 4, 5, 6, 7, 8, 9, 10, 11, 12, 13, 14, 15, 16, 17], [0, 17])])
def spec_l02Move.B5 : List Nat := [0, 0, 0, 6, 14, 30, 0, 126, 0, 0, 768, 1792, 3840, 0, 16128, 32766, 65534, 131071, 262143]
theorem spec_l02Move.tab5 : rtab .any (opsOf Try.f95 5) = spec_l02Move.T5 := by kernel_rfl
theorem spec_l02Move.bits5 : waitsOk spec_l02Move.T5.2 spec_l02Move.B5 = true := by kernel_rfl
set_option maxHeartbeats 8000000 in
set_option maxRecDepth 100000 in
theorem spec_l02Move.calls (k : Nat) (A0 : Option Addr) (c0 : Nat) (l0 : List (S57)) (a1 : Int) (a2 : Int) (r : List (S57)) (w : World) (hr0 : Kd.C k57 w A0 l0.length l0) (hc0 : l0.length ≤ c0) (h : spec_l02Move.f k l0 a1 a2 = some r) :
  Calls Try.prog 95 #[.slice A0 l0.length c0, .int .i64 a1, .int .i64 a2] w fun e w' => ∃ v0_ : Value, e = .returned (v0_) ∧ Kd.R k57 57 w' w.heap.size (fun _ => True) v0_ r ∧ Below w.heap.size w w' := by
 have hu57 := Try.underlying57
 have HR0 := Aside0.mk hr0
 have HC0 := Aside0.mk hc0
 clear hr0 hc0
 have HB := Aside0.mk (Below.refl w.heap.size w)
 have H : (spec_l02Move.l0 k l0 a1 a2 (([] : List (S57))) 0) = some r := h
 clear h
 obtain ⟨y341, hY_⟩ : ∃ y_ : List (S57), y_ = (([] : List (S57))) := ⟨_, rfl⟩
 replace H : (spec_l02Move.l0 k l0 a1 a2 y341 0) = some r := yY_
 have Ny341 := Aside0.mk hY_
 clear hY_
 have H' := Aside0.mk H
 clear H
 go_enter Try.func95, Try.ntmps95
 go_wp2_with (first | ((with_reducible refine gate_dst (N := 9) rfl ?_); refine Kd.R_lit k57 _ 57 ?hg (N := 9) ?hd (xs := ([] : List (S57))) (inner := []) (ok := fun _ => True) (okp := fun _ => True) ?hr ?hp (fun _ hk => hk) trivial (Below.refl _ _) (Nat.le_refl _) (by simp) ?_; (case hd => rfl); (case hg => rfl); (case hr => first | (go_simp; done) | (go_simp; rfl)); (case hp => exact (Reps.none _ _)); intro v342 w4 ho5 hb hg_ hnew_; clear hg_ hnew_; (first | rw [← Ny341.out] at ho5 | (simp only [Int.reduceToNat] at ho5; rw [← Ny341.out] at ho5)); have HO343 := Aside0.mk (Kd.R_lower ho5 (below_size bB_)); replace HB := Aside0.mk (below_step bB_ hb); clear hb ho5))
 go_loopg [7, 8] k (fun kq v7 v8 w' => ∃ (x7_1 : List (S57)) (x8_1 : Int), v8 = .int .i64 x8_1 ∧ Aside0 (spec_l02Move.l0 kq l0 a1 a2 x7_1 x8_1 = some r) ∧ Aside0 (kq ≤ k) ∧ Aside0 (Kd.R k57 57 w' w.heap.size (fun _ => True) v7 x7_1) ∧ Aside0 (Below w.heap.size w w'))
 case atStart => exact ⟨(y341), (0), r3_, H', ⟨Nat.le_refl _⟩, ⟨rS_ HO343.out⟩, ⟨bB_⟩⟩
 case round =>
  clear H'
  try clear p2
  obtain ⟨x7_1, x8_1, rfl, HA, HK1, HO_7, HB⟩ := hrel
  cases gk with
  | zero => exact absurd HA.out (by simp [spec_l02Move.l0])
  | succ k1 =>
   have H := HA.out
   clear HA
   simp only [spec_l02Move.l0] at H
   by_cases c6 : x8_1 < (l0.length : Int)
   ·rw [if_pos c6] at H
    have c6b0 : decide (x8_1 < (l0.length : Int)) = true := decide_eq_true c6
    clear c6
    by_cases c7 : 0 ≤ x8_1
    ·rw [if_pos c7] at H
     have c7b0 : decide (0 ≤ x8_1) = true := decide_eq_true c7
     clear c7
     by_cases c8 : x7_1.length < 8796093022208
     ·rw [if_pos c8] at H
      have LMc8 := Aside0.mk c8
      clear c8
      obtain ⟨y346, hY_⟩ : ∃ y_ : List (S57), y_ = (x7_1 ++ [(⟨wrap64 (((rd_T57 l0 x8_1).f0) + a1), wrap64 (((rd_T57 l0 x8_1).f1) + a2)⟩ : S57)]) := ⟨_, rfl⟩
      replace H : (spec_l02Move.l0 k1 l0 a1 a2 y346 (wrap64 (x8_1 + 1))) = some r := yY_
      have Ny346 := Aside0.mk hY_
      clear hY_
      have H' := Aside0.mk H
      clear H
      try go_wp2
      replace HO_7 := Aside0.mk (Kd.R_drew HO_7.out)
      replace HB := Aside0.mk (below_drew1 HB.out)
      have p344 : 0 ≤ (x8_1 : Int) := of_decide_eq_true aS_
      have q344 : x8_1 < (l0.length : Int) := of_decide_eq_true aS_
      obtain ⟨ad344, e344, hx344_0, hx344_1⟩ := at_T57 HR0.out x8_1 p344 q344
      have hw344_1 := hx344_1
      have hw344_0 := hx344_0
      cases e344
      replace hx344_0 := (HB.out.cell (World.block_lt_of_cell? w _ hx344_0)).trans hx344_0
      replace hx344_1 := (HB.out.cell (World.block_lt_of_cell? w _ hx344_1)).trans hx344_1
      replace p344 := eq_true p344
      replace q344 := eq_true q344
      have p345 : 0 ≤ (x8_1 : Int) := of_decide_eq_true aS_
      have q345 : x8_1 < (l0.length : Int) := of_decide_eq_true aS_
      obtain ⟨ad345, e345, hx345_0, hx345_1⟩ := at_T57 HR0.out x8_1 p345 q345
      have hw345_1 := hx345_1
      have hw345_0 := hx345_0
      obtain rfl : ad344 = ad345 := (by injection e345)
      replace hx345_0 := (HB.out.cell (World.block_lt_of_cell? w _ hx345_0)).trans hx345_0
      replace hx345_1 := (HB.out.cell (World.block_lt_of_cell? w _ hx345_1)).trans hx345_1
      replace p345 := eq_true p345
      replace q345 := eq_true q345
      refine start_ (n := 19) (S := fun w' => w'.cell? (ad344.add ((x8_1).toNat * 2)) = some (.int .i64 ((rd_T57 l0 x8_1).f0)) ∧ w'.cell? ⟨(ad344.add ((x8_1).toNat * 2)).block, (ad344.add ((x8_1).toNat * 2)).off + 1, none⟩ = some (.int .i64 ((rd_T57 l0 x8_1).f1)) ∧ w'.cell? (ad344.add ((x8_1).toNat * 2)) = some (.int .i64 ((rd_T57 l0 x8_1).f0)) ∧ w'.cell? ⟨(ad344.add ((x8_1).toNat * 2)).block, (ad344.add ((x8_1).toNat * 2)).off + 1, none⟩ = some (.int .i64 ((rd_T57 l0 x8_1).f1))) (ds := []) #[F, F, F, F, F, F, F, F, F, F, F, F, F, F, F, F, F, F, F] (by kernel_rfl) rfl rfl ⟨((HB.out.cell (World.block_lt_of_cell? w _ hw344_0)).trans hw344_0), ((HB.out.cell (World.block_lt_of_cell? w _ hw344_1)).trans hw344_1), ((HB.out.cell (World.block_lt_of_cell? w _ hw345_0)).trans hw345_0), ((HB.out.cell (World.block_lt_of_cell? w _ hw345_1)).trans hw345_1)⟩ (fun hHeld => ?_); refine with_tabW spec_l02Move.tab5 spec_l02Move.bits5 (fun HT_ HW_ => ?_)
      generalize wr.drew = w9 at HO_7 HB hx344_0 hx344_1 hx345_0 hx345_1 hHeld ⊢
      refine pu_ HT_ 0 (some 16) #[T,F,F,F,F,F,F,F,F,F,F,F,F,F,F,F,F,F,F] ?_
      refine pu_ HT_ 1 (some 17) #[T,T,F,F,F,F,F,F,F,F,F,F,F,F,F,F,F,F,F] ?_
      refine pu_ HT_ 2 (some 18) #[T,T,T,F,F,F,F,F,F,F,F,F,F,F,F,F,F,F,F] ?_
      refine pu_ HT_ 3 (some 19) #[T,T,T,T,F,F,F,F,F,F,F,F,F,F,F,F,F,F,F] ?_
      refine pu_ HT_ 4 (some 20) #[T,T,T,T,T,F,F,F,F,F,F,F,F,F,F,F,F,F,F] ?_
      refine pu_ HT_ 6 (some 22) #[T,T,T,T,T,F,T,F,F,F,F,F,F,F,F,F,F,F,F] ?_
      refine pu_ HT_ 8 (some 24) #[T,T,T,T,T,F,T,F,T,F,F,F,F,F,F,F,F,F,F] ?_
      refine pu_ HT_ 9 (some 25) #[T,T,T,T,T,F,T,F,T,T,F,F,F,F,F,F,F,F,F] ?_
      refine pu_ HT_ 10 (some 26) #[T,T,T,T,T,F,T,F,T,T,T,F,F,F,F,F,F,F,F] ?_
      refine pu_ HT_ 11 (some 27) #[T,T,T,T,T,F,T,F,T,T,T,T,F,F,F,F,F,F,F] ?_
      refine pu_ HT_ 13 (some 29) #[T,T,T,T,T,F,T,F,T,T,T,T,F,T,F,F,F,F,F] ?_
      refine take_ (i := 5) (N := some 21) (v := ?_) (a' := ?_) #[T, T, T, T, T, T, T, F, T, T, T, T, F, T, F, F, F, F, F] rfl rfl (take_ofW HT_.out HW_.out (by kernel_rfl)) (fun _ _ _ h => h) (Or.inl ⟨by rfl, ?_⟩) hHeld ?_ ?_
      rotate_left
      ·rintro w' ⟨s0, s1, s2, s3⟩
       go_simp
       with_reducible rfl
      rotate_left
      ·simp only [Act.put, List.setIfInBounds_toArray, List.set_cons_zero, List.set_cons_succ, i64_w, i32_w]
       rfl
      refine pu_ HT_ 7 (some 23) #[T,T,T,T,T,T,T,T,T,T,T,T,F,T,F,F,F,F,F] ?_
      refine take_ (i := 12) (N := some 28) (v := ?_) (a' := ?_) #[T, T, T, T, T, T, T, T, T, T, T, T, T, T, F, F, F, F, F] rfl rfl (take_ofW HT_.out HW_.out (by kernel_rfl)) (fun _ _ _ h => h) (Or.inl ⟨by rfl, ?_⟩) hHeld ?_ ?_
      rotate_left
      ·rintro w' ⟨s0, s1, s2, s3⟩
       go_simp
       with_reducible rfl
      rotate_left
      ·simp only [Act.put, List.setIfInBounds_toArray, List.set_cons_zero, List.set_cons_succ, i64_w, i32_w]
       rfl
      refine pu_ HT_ 14 (some 30) #[T,T,T,T,T,T,T,T,T,T,T,T,T,T,T,F,F,F,F] ?_
      refine pu_ HT_ 15 (some 31) #[T,T,T,T,T,T,T,T,T,T,T,T,T,T,T,T,F,F,F] ?_
      refine one_ (i := 16) (N := some 32) #[T, T, T, T, T, T, T, T, T, T, T, T, T, T, T, T, T, F, F] rfl rfl (one_of HT_.out (by kernel_rfl)) (by decide) (fun K hK => ?_)
      refine value_ (w1 := ?_) (v := ?_) (by rfl) rfl ?_ ?_
      rotate_left 2
      ·go_simp
       constructor
       ·rfl
       ·rfl
      refine hK.out _ _ ⟨(World.cell?_alloc_lt _ _ _ (World.block_lt_of_cell? _ _ (((HB.out.cell (World.block_lt_of_cell? w _ hw344_0)).trans hw344_0)))).trans (((HB.out.cell (World.block_lt_of_cell? w _ hw344_0)).trans hw344_0)), (World.cell?_alloc_lt _ _ _ (World.block_lt_of_cell? _ _ (((HB.out.cell (World.block_lt_of_cell? w _ hw344_1)).trans hw344_1)))).trans (((HB.out.cell (World.block_lt_of_cell? w _ hw344_1)).trans hw344_1)), (World.cell?_alloc_lt _ _ _ (World.block_lt_of_cell? _ _ (((HB.out.cell (World.block_lt_of_cell? w _ hw345_0)).trans hw345_0)))).trans (((HB.out.cell (World.block_lt_of_cell? w _ hw345_0)).trans hw345_0)), (World.cell?_alloc_lt _ _ _ (World.block_lt_of_cell? _ _ (((HB.out.cell (World.block_lt_of_cell? w _ hw345_1)).trans hw345_1)))).trans (((HB.out.cell (World.block_lt_of_cell? w _ hw345_1)).trans hw345_1))⟩ (fun hHeld => ?_)
      clear hK K
      refine no_ (some 32) ?_
      refine one_ (i := 17) (N := some 33) #[T, T, T, T, T, T, T, T, T, T, T, T, T, T, T, T, T, T, F] rfl rfl (one_of HT_.out (by kernel_rfl)) (by decide) (fun K hK => ?_)
      refine Kd.R_append_step k57 (w0 := w) w.heap.size (by rfl) (.tmp 16) (.tmp 32) 30 57 (.agg #[(.int .i64 0), (.int .i64 0)]) 16 rfl Try.underlying30 info57 rfl (by decide) (by omega) u7 x7_1 (⟨wrap64 (((rd_T57 l0 x8_1).f0) + a1), wrap64 (((rd_T57 l0 x8_1).f1) + a2)⟩ : S57) [.int .i64 (wrap64 (((rd_T57 l0 x8_1).f0) + a1)), .int .i64 (wrap64 (((rd_T57 l0 x8_1).f1) + a2))] (fun _ => True) (fun _ => False) rfl rfl ?aP (fun _ hk => hk.elim) ?aF ?aO ?aB ?aS ?aL ?_
      (case aP => exact k57_mkM _ _ _ (⟨wrap64 (((rd_T57 l0 x8_1).f0) + a1), wrap64 (((rd_T57 l0 x8_1).f1) + a2)⟩ : S57))
      (case aB => exact bB_)
      (case aF => exact (fun _ _ => trivial))
      (case aO => exact (rS_ HO_7.out))
      (case aS => exact (below_size bB_))
      (case aL => have := LMc8.out; omega)
      intro v347 w10 ho hb hg hat
      rw [← Ny346.out] at ho
      replace HB := Aside0.mk (hb)
      have HO348 := Aside0.mk (ho)
      clear HO_7
      clear ho hb hg hat
      refine hK.out _ _ ⟨((HB.out.cell (World.block_lt_of_cell? w _ hw344_0)).trans hw344_0), ((HB.out.cell (World.block_lt_of_cell? w _ hw344_1)).trans hw344_1), ((HB.out.cell (World.block_lt_of_cell? w _ hw345_0)).trans hw345_0), ((HB.out.cell (World.block_lt_of_cell? w _ hw345_1)).trans hw345_1)⟩ (fun hHeld => ?_)
      clear hK K
      refine no_ (some 33) ?_
      refine pu_ HT_ 18 (some 7) #[T,T,T,T,T,T,T,T,T,T,T,T,T,T,T,T,T,T,T] ?_
      refine done_ (done_of HT_.out (by kernel_rfl)) ?_
      try go_wp2
      go_roundg k1
      case measure => have := HK1.out; omega
      case rel => exact ⟨(y346), (wrap64 (x8_1 + 1)), r3_, H', ⟨by have := HK1.out; omega⟩, ⟨rS_ HO348.out⟩, ⟨bB_⟩⟩
     ·rw [if_neg c8] at H
      exact absurd H (by simp)
    ·rw [if_neg c7] at H
     exact absurd H (by simp)
   ·rw [if_neg c6] at H
    have c6b0 : decide (x8_1 < (l0.length : Int)) = false := decide_eq_false c6
    clear c6
    obtain rfl := Option.some.inj H
    go_wp2
    go_ret
    exact ⟨_, r2_, rS_ HO_7.out, bB_⟩

/-! ### spec_l02Least: function 80 -/
def spec_l02Least.l0 : Nat → List (S57) → Int → Int → Int → Option (Int × Int)
 | 0, _, _, _, _ => none
 | k + 1, x0, x4, x5, x6 => if x6 < (x0.length : Int) then (if 0 ≤ x6 then (spec_l02Least.l0 k x0 (mn x4 ((rd_T57 x0 x6).f0)) (mn x5 ((rd_T57 x0 x6).f1)) (wrap64 (x6 + 1))) else (none)) else (some (x4, x5))
def spec_l02Least.f (k : Nat) (l0 : List (S57)) : Option (Int × Int) := if 0 < (l0.length : Int) then (spec_l02Least.l0 k l0 ((rd_T57 l0 0).f0) ((rd_T57 l0 0).f1) 1) else (none)
theorem spec_l02Least.mono_l : ∀ k, (∀ y0 y1 y2 y3, LeO (spec_l02Least.l0 k y0 y1 y2 y3) (spec_l02Least.l0 (k + 1) y0 y1 y2 y3))
 | 0 => fun _ _ _ _ r h => by simp [spec_l02Least.l0] at h
 | k + 1 => by
  have ih0 := spec_l02Least.mono_l k
  ·intro y0 y1 y2 y3
   unfold spec_l02Least.l0
   repeat' first
   | (with_reducible exact ih0 _ _ _ _)
   | (with_reducible exact LeO.refl _)
   | (with_reducible exact LeO.none _)
   | (with_reducible refine LeO.ite ?_ ?_)
   | (with_reducible refine LeO.bind ?_ (fun _ => ?_))
   | exact ih0 _ _ _ _
   | exact LeO.none _
   | refine LeO.ite ?_ ?_
   | refine LeO.bind ?_ (fun _ => ?_)
theorem spec_l02Least.mono : ∀ a0 k, LeO (spec_l02Least.f k a0) (spec_l02Least.f (k + 1) a0) := by
 intro a0 k
 have ih0 := spec_l02Least.mono_l k
 unfold spec_l02Least.f
 repeat' first
   | (with_reducible exact ih0 _ _ _ _)
   | (with_reducible exact LeO.refl _)
   | (with_reducible exact LeO.none _)
   | (with_reducible refine LeO.ite ?_ ?_)
   | (with_reducible refine LeO.bind ?_ (fun _ => ?_))
   | exact ih0 _ _ _ _
   | exact LeO.none _
   | refine LeO.ite ?_ ?_
   | refine LeO.bind ?_ (fun _ => ?_)
set_option maxHeartbeats 8000000 in
set_option maxRecDepth 100000 in
theorem spec_l02Least.calls (k : Nat) (A0 : Option Addr) (c0 : Nat) (l0 : List (S57)) (r1 : Int) (r2 : Int) (w : World) (hr0 : Kd.C k57 w A0 l0.length l0) (hc0 : l0.length ≤ c0) (h : spec_l02Least.f k l0 = some (r1, r2)) :
  Calls Try.prog 80 #[.slice A0 l0.length c0] w fun e w' => e = .returned (.tuple #[.int .i64 r1, .int .i64 r2]) ∧ Below w.heap.size w w' := by
 have HR0 := Aside0.mk hr0
 have HC0 := Aside0.mk hc0
 clear hr0 hc0
 have HB := Aside0.mk (Below.refl w.heap.size w)
 have H : (if 0 < (l0.length : Int) then (spec_l02Least.l0 k l0 ((rd_T57 l0 0).f0) ((rd_T57 l0 0).f1) 1) else (none)) = some (r1, r2) := h
 clear h
 by_cases c2 : 0 < (l0.length : Int)
 ·rw [if_pos c2] at H
  have c2b0 : decide (0 < (l0.length : Int)) = true := decide_eq_true c2
  have c2b1 : decide (0 < l0.length) = true := decide_eq_true (by omega)
  clear c2
  have H' := Aside0.mk H
  clear H
  have p364 : 0 ≤ (0 : Int) := (by omega)
  have q364 : 0 < (l0.length : Int) := of_decide_eq_true aS_
  obtain ⟨ad364, e364, hx364_0, hx364_1⟩ := at_T57 HR0.out 0 p364 q364
  cases e364
  have qi364 : (0 < l0.length) = True := eq_true (by omega)
  (try rw [show ((0 : Int)).toNat = 0 from rfl] at hx364_0)
  (try rw [show 0 * 2 = 0 from rfl] at hx364_0)
  (try rw [Addr.add_zero'] at hx364_0)
  (try rw [show ((0 : Int)).toNat = 0 from rfl] at hx364_1)
  (try rw [show 0 * 2 = 0 from rfl] at hx364_1)
  (try rw [Addr.add_zero'] at hx364_1)
  replace p364 := eq_true p364
  replace q364 := eq_true q364
  have p365 : 0 ≤ (0 : Int) := (by omega)
  have q365 : 0 < (l0.length : Int) := of_decide_eq_true aS_
  obtain ⟨ad365, e365, hx365_0, hx365_1⟩ := at_T57 HR0.out 0 p365 q365
  obtain rfl : ad364 = ad365 := (by injection e365)
  have qi365 : (0 < l0.length) = True := eq_true (by omega)
  (try rw [show ((0 : Int)).toNat = 0 from rfl] at hx365_0)
  (try rw [show 0 * 2 = 0 from rfl] at hx365_0)
  (try rw [Addr.add_zero'] at hx365_0)
  (try rw [show ((0 : Int)).toNat = 0 from rfl] at hx365_1)
  (try rw [show 0 * 2 = 0 from rfl] at hx365_1)
  (try rw [Addr.add_zero'] at hx365_1)
  replace p365 := eq_true p365
  replace q365 := eq_true q365
  go_enter Try.func80, Try.ntmps80
  go_wp2
  repeat (go_quiet (fail); try go_wp2)
  go_loopg [4, 5, 6] k (fun kq v4 v5 v6 w' => ∃ (x4_1 : Int) (x5_1 : Int) (x6_1 : Int), v4 = .int .i64 x4_1 ∧ v5 = .int .i64 x5_1 ∧ v6 = .int .i64 x6_1 ∧ Aside0 (spec_l02Least.l0 kq l0 x4_1 x5_1 x6_1 = some (r1, r2)) ∧ Aside0 (kq ≤ k) ∧ Aside0 (Below w.heap.size w w'))
  case atStart => exact ⟨((rd_T57 l0 0).f0), ((rd_T57 l0 0).f1), (1), r3_, r3_, r3_, H', ⟨Nat.le_refl _⟩, ⟨bB_⟩⟩
  case round =>
   clear H'
   try clear c2
   try clear c2b0
   try clear c2b1
   try clear p2
   try clear hx364_0
   try clear hx364_1
   try clear hx365_0
   try clear hx365_1
   try clear p364
   try clear p365
   try clear q364
   try clear q365
   obtain ⟨x4_1, x5_1, x6_1, rfl, rfl, rfl, HA, HK1, HB⟩ := hrel
   cases gk with
   | zero => exact absurd HA.out (by simp [spec_l02Least.l0])
   | succ k1 =>
    have H := HA.out
    clear HA
    simp only [spec_l02Least.l0] at H
    by_cases c3 : x6_1 < (l0.length : Int)
    ·rw [if_pos c3] at H
     have c3b0 : decide (x6_1 < (l0.length : Int)) = true := decide_eq_true c3
     clear c3
     by_cases c4 : 0 ≤ x6_1
     ·rw [if_pos c4] at H
      have c4b0 : decide (0 ≤ x6_1) = true := decide_eq_true c4
      clear c4
      obtain ⟨ji5, hji5⟩ : ∃ j_ : Int, (mn x4_1 ((rd_T57 l0 x6_1).f0)) = j_ := ⟨_, rfl⟩
      replace H : (spec_l02Least.l0 k1 l0 ji5 (mn x5_1 ((rd_T57 l0 x6_1).f1)) (wrap64 (x6_1 + 1))) = some (r1, r2) := by first | (rw [hji5] at H; exact H) | (simp only [hji5] at H ⊢; exact H)
      have hji5_ : (if ((rd_T57 l0 x6_1).f0) < x4_1 then ((rd_T57 l0 x6_1).f0) else x4_1) = ji5 := hji5
      obtain ⟨ji6, hji6⟩ : ∃ j_ : Int, (mn x5_1 ((rd_T57 l0 x6_1).f1)) = j_ := ⟨_, rfl⟩
      replace H : (spec_l02Least.l0 k1 l0 ji5 ji6 (wrap64 (x6_1 + 1))) = some (r1, r2) := by first | (rw [hji6] at H; exact H) | (simp only [hji6] at H ⊢; exact H)
      have hji6_ : (if ((rd_T57 l0 x6_1).f1) < x5_1 then ((rd_T57 l0 x6_1).f1) else x5_1) = ji6 := hji6
      have H' := Aside0.mk H
      clear H
      have p366 : 0 ≤ (x6_1 : Int) := of_decide_eq_true aS_
      have q366 : x6_1 < (l0.length : Int) := of_decide_eq_true aS_
      obtain ⟨ad366, e366, hx366_0, hx366_1⟩ := at_T57 HR0.out x6_1 p366 q366
      obtain rfl : ad364 = ad366 := (by injection e366)
      replace hx366_0 := (HB.out.cell (World.block_lt_of_cell? w _ hx366_0)).trans hx366_0
      replace hx366_1 := (HB.out.cell (World.block_lt_of_cell? w _ hx366_1)).trans hx366_1
      replace p366 := eq_true p366
      replace q366 := eq_true q366
      have p367 : 0 ≤ (x6_1 : Int) := of_decide_eq_true aS_
      have q367 : x6_1 < (l0.length : Int) := of_decide_eq_true aS_
      obtain ⟨ad367, e367, hx367_0, hx367_1⟩ := at_T57 HR0.out x6_1 p367 q367
      obtain rfl : ad364 = ad367 := (by injection e367)
      replace hx367_0 := (HB.out.cell (World.block_lt_of_cell? w _ hx367_0)).trans hx367_0
      replace hx367_1 := (HB.out.cell (World.block_lt_of_cell? w _ hx367_1)).trans hx367_1
      replace p367 := eq_true p367
      replace q367 := eq_true q367
      go_wp2
      repeat (go_quiet (fail); try go_wp2)
      go_roundg k1
      case measure => have := HK1.out; omega
      case rel => exact ⟨(ji5), (ji6), (wrap64 (x6_1 + 1)), (by first | rfl | (simp; done) | (simp only [← hji5] <;> (first | rfl | simp)) | (simp [*]; done)), (by first | rfl | (simp; done) | (simp only [← hji6] <;> (first | rfl | simp)) | (simp [*]; done)), r3_, H', ⟨by have := HK1.out; omega⟩, ⟨bB_⟩⟩
     ·rw [if_neg c4] at H
      exact absurd H (by simp)
    ·rw [if_neg c3] at H
     have c3b0 : decide (x6_1 < (l0.length : Int)) = false := decide_eq_false c3
     clear c3
     simp only [Option.some.injEq, Prod.mk.injEq] at H
     obtain ⟨rfl, rfl⟩ := H
     go_wp2
     repeat (go_quiet (fail); try go_wp2)
     go_ret2
     exact ⟨r2_, bB_⟩
 ·rw [if_neg c2] at H
  exact absurd H (by simp)

/-! ### spec_l02Normal: function 105 -/
def spec_l02Normal.f (k : Nat) (l0 : List (S57)) : Option ((List (S57))) := (spec_l02Least.f k l0).bind fun bt368 => ((spec_l02Move.f k l0 (wrap64 (-bt368.1)) (wrap64 (-bt368.2))).bind fun t370 => (some t370))
theorem spec_l02Normal.mono : ∀ a0 k, LeO (spec_l02Normal.f k a0) (spec_l02Normal.f (k + 1) a0) := by
 intro a0 k
 unfold spec_l02Normal.f
 repeat' first
   | (with_reducible exact spec_l02Least.mono _ _)
   | (with_reducible exact spec_l02Move.mono _ _ _ _)
   | (with_reducible exact LeO.refl _)
   | (with_reducible exact LeO.none _)
   | (with_reducible refine LeO.ite ?_ ?_)
   | (with_reducible refine LeO.bind ?_ (fun _ => ?_))
   | exact spec_l02Least.mono _ _
   | exact spec_l02Move.mono _ _ _ _
   | exact LeO.none _
   | refine LeO.ite ?_ ?_
   | refine LeO.bind ?_ (fun _ => ?_)
set_option maxHeartbeats 8000000 in
set_option maxRecDepth 100000 in
theorem spec_l02Normal.calls (k : Nat) (A0 : Option Addr) (c0 : Nat) (l0 : List (S57)) (r : List (S57)) (w : World) (hr0 : Kd.C k57 w A0 l0.length l0) (hc0 : l0.length ≤ c0) (h : spec_l02Normal.f k l0 = some r) :
  Calls Try.prog 105 #[.slice A0 l0.length c0] w fun e w' => ∃ v0_ : Value, e = .returned (v0_) ∧ Kd.R k57 57 w' w.heap.size (fun _ => True) v0_ r ∧ Below w.heap.size w w' := by
 have HR0 := Aside0.mk hr0
 have HC0 := Aside0.mk hc0
 clear hr0 hc0
 have HB := Aside0.mk (Below.refl w.heap.size w)
 have H : ((spec_l02Least.f k l0).bind fun bt368 => ((spec_l02Move.f k l0 (wrap64 (-bt368.1)) (wrap64 (-bt368.2))).bind fun t370 => (some t370))) = some r := h
 clear h
 replace H := Option.bind_eq_some_iff.mp H
 obtain ⟨⟨t368, t369⟩, A20, H⟩ := H
 try dsimp only at H
 have A2 := Aside0.mk A20
 clear A20
 replace H := Option.bind_eq_some_iff.mp H
 obtain ⟨t370, A30, H⟩ := H
 try dsimp only at H
 have A3 := Aside0.mk A30
 clear A30
 obtain rfl := Option.some.inj H
 go_enter Try.func105, Try.ntmps105
 go_wp2_with (first | ((with_reducible refine gate_callee (f := 80) rfl ?_); refine gL_ (some 7) Try.func80 #[.slice A0 l0.length c0] ?_; (with_reducible refine (spec_l02Least.calls k _ _ l0 t368 t369 _ ?side1 ?side2 A2.out).mono ?_); (case side1 => exact cS_ HR0.out); (case side2 => exact HC0.out); rintro e w4 ⟨rfl, hb⟩; refine ⟨_, rfl, ?_⟩; replace HB := Aside0.mk (below_step bB_ hb); (try clear hb)) | ((with_reducible refine gate_callee (f := 95) rfl ?_); refine gL_ (some 15) Try.func95 #[.slice A0 l0.length c0, .int .i64 (wrap64 (-t368)), .int .i64 (wrap64 (-t369))] ?_; (with_reducible refine (spec_l02Move.calls k _ _ l0 (wrap64 (-t368)) (wrap64 (-t369)) t370 _ ?side1 ?side2 A3.out).mono ?_); (case side1 => exact cS_ (Kd.C_below HR0.out HB.out)); (case side2 => exact HC0.out); rintro e w5 ⟨v371, rfl, ho0, hb⟩; refine ⟨_, rfl, ?_⟩; have HO372 := Aside0.mk (Kd.R_lower ho0 (below_size bB_)); replace HB := Aside0.mk (below_step bB_ hb); (try clear hb ho0)))
 go_ret
 exact ⟨_, r2_, rS_ HO372.out, bB_⟩

end Go.Proofs.Ytbfmocohknadkaa.X
