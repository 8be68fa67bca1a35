-- xprint.py
import Derived.Test.YtpilmhjbgbpbmaaDoorXx0
import Derived.Test.YtpilmhjbgbpbmaaDoorXx1
import Derived.Test.YtpilmhjbgbpbmaaDoorXx2
namespace Go.Proofs.YtpilmhjbgbpbmaaDoor.X
open Go.RowKit Go.Proofs.YtpilmhjbgbpbmaaDoorW.PrintWords Go.Proofs.YtpilmhjbgbpbmaaDoorW.PrintLast Go.Proofs.YtpilmhjbgbpbmaaDoorW.PrintMore
attribute [local go_sem] max2_int min2_int max_two min_two max_three min_three max_four min_four   -- for this text's walks alone
set_option linter.unusedVariables false
set_option linter.unusedSimpArgs false

attribute [local go_sem high] eqA43
/-! ### spec_l02Move: function 43 -/
def spec_l02Move.l0 : Nat → List (S43) → Int → Int → List (S43) → Int → Option ((List (S43)))
 | 0, _, _, _, _, _ => none
 | k + 1, x0, x1, x2, x7, x8 => if x8 < (x0.length : Int) then (if 0 ≤ x8 then (if x7.length < 8796093022208 then (spec_l02Move.l0 k x0 x1 x2 (x7 ++ [(⟨wrap64 (((rd_T43 x0 x8).f0) + x1), wrap64 (((rd_T43 x0 x8).f1) + x2)⟩ : S43)]) (wrap64 (x8 + 1))) else (none)) else (none)) else (some x7)
def spec_l02Move.f (k : Nat) (l0 : List (S43)) (a1 : Int) (a2 : Int) : Option ((List (S43))) := spec_l02Move.l0 k l0 a1 a2 (([] : List (S43))) 0
theorem spec_l02Move.mono_l : ∀ k, (∀ y0 y1 y2 y3 y4, LeO (spec_l02Move.l0 k y0 y1 y2 y3 y4) (spec_l02Move.l0 (k + 1) y0 y1 y2 y3 y4))
 | 0 => fun _ _ _ _ _ r h => by simp [spec_l02Move.l0] at h
 | k + 1 => by
  have ih0 := spec_l02Move.mono_l k
  ·intro y0 y1 y2 y3 y4
   unfold spec_l02Move.l0
   repeat' first
   | (with_reducible exact ih0 _ _ _ _ _)
   | (with_reducible exact LeO.refl _)
   | (with_reducible exact LeO.none _)
   | (with_reducible refine LeO.ite ?_ ?_)
   | (with_reducible refine LeO.bind ?_ (fun _ => ?_))
   | exact ih0 _ _ _ _ _
   | exact LeO.none _
   | refine LeO.ite ?_ ?_
   | refine LeO.bind ?_ (fun _ => ?_)
theorem spec_l02Move.mono : ∀ a0 a1 a2 k, LeO (spec_l02Move.f k a0 a1 a2) (spec_l02Move.f (k + 1) a0 a1 a2) := by
 intro a0 a1 a2 k
 have ih0 := spec_l02Move.mono_l k
 unfold spec_l02Move.f
 repeat' first
   | (with_reducible exact ih0 _ _ _ _ _)
   | (with_reducible exact LeO.refl _)
   | (with_reducible exact LeO.none _)
   | (with_reducible refine LeO.ite ?_ ?_)
   | (with_reducible refine LeO.bind ?_ (fun _ => ?_))
   | exact ih0 _ _ _ _ _
   | exact LeO.none _
   | refine LeO.ite ?_ ?_
   | refine LeO.bind ?_ (fun _ => ?_)
def spec_l02Move.T5 : Bool × List (List Nat × List Nat) := (true, [([], []), ([], []), ([], []), ([1, 2], [1, 2]), ([3], [3]), ([4], [4]), ([], []), ([5, 6], [5, 6]), ([], []), ([], []), ([8, 9], [8, 9]), ([10], [10]), ([11], [11]), ([], []), ([12, 13], [12, 13]), ([7, 14], [7, 14]), ([15], [15]), ([0, 16], [0, 16]), ([17, 17, 0, 1, 2, 3, 4, 5, 6, 7, 8, 9, 10, 11, 12, 13, 14, 15, 16, 17], [0, 17])])
def spec_l02Move.B5 : List Nat := [0, 0, 0, 6, 14, 30, 0, 126, 0, 0, 768, 1792, 3840, 0, 16128, 32766, 65534, 131071, 262143]
theorem spec_l02Move.tab5 : rtab .any (opsOf Tryd.f43 5) = spec_l02Move.T5 := by kernel_rfl
theorem spec_l02Move.bits5 : waitsOk spec_l02Move.T5.2 spec_l02Move.B5 = true := by kernel_rfl
set_option maxHeartbeats 8000000 in
set_option maxRecDepth 100000 in
theorem spec_l02Move.calls (k : Nat) (A0 : Option Addr) (c0 : Nat) (l0 : List (S43)) (a1 : Int) (a2 : Int) (r : List (S43)) (w : World) (hr0 : Kd.C k43 w A0 l0.length l0) (hc0 : l0.length ≤ c0) (h : spec_l02Move.f k l0 a1 a2 = some r) :
  Calls Tryd.prog 43 #[.slice A0 l0.length c0, .int .i64 a1, .int .i64 a2] w fun e w' => ∃ v0_ : Value, e = .returned (v0_) ∧ Kd.R k43 43 w' w.heap.size (fun _ => True) v0_ r ∧ Below w.heap.size w w' := by
 have hu43 := Tryd.underlying43
 have HR0 := Aside0.mk hr0
 have HC0 := Aside0.mk hc0
 clear hr0 hc0
 have HB := Aside0.mk (Below.refl w.heap.size w)
 have H : (spec_l02Move.l0 k l0 a1 a2 (([] : List (S43))) 0) = some r := h
 clear h
 obtain ⟨y103, hY_⟩ : ∃ y_ : List (S43), y_ = (([] : List (S43))) := ⟨_, rfl⟩
 replace H : (spec_l02Move.l0 k l0 a1 a2 y103 0) = some r := yY_
 have Ny103 := Aside0.mk hY_
 clear hY_
 have H' := Aside0.mk H
 clear H
 go_enter Tryd.func43, Tryd.ntmps43
 go_wp2_with (first | ((with_reducible refine gate_dst (N := 9) rfl ?_); refine Kd.R_lit k43 _ 43 ?hg (N := 9) ?hd (xs := ([] : List (S43))) (inner := []) (ok := fun _ => True) (okp := fun _ => True) ?hr ?hp (fun _ hk => hk) trivial (Below.refl _ _) (Nat.le_refl _) (by simp) ?_; (case hd => rfl); (case hg => rfl); (case hr => first | (go_simp; done) | (go_simp; rfl)); (case hp => exact (Reps.none _ _)); intro v104 w4 ho5 hb hg_ hnew_; clear hg_ hnew_; (first | rw [← Ny103.out] at ho5 | (simp only [Int.reduceToNat] at ho5; rw [← Ny103.out] at ho5)); have HO105 := Aside0.mk (Kd.R_lower ho5 (below_size bB_)); replace HB := Aside0.mk (below_step bB_ hb); clear hb ho5))
 go_loopg [7, 8] k (fun kq v7 v8 w' => ∃ (x7_1 : List (S43)) (x8_1 : Int), v8 = .int .i64 x8_1 ∧ Aside0 (spec_l02Move.l0 kq l0 a1 a2 x7_1 x8_1 = some r) ∧ Aside0 (kq ≤ k) ∧ Aside0 (Kd.R k43 43 w' w.heap.size (fun _ => True) v7 x7_1) ∧ Aside0 (Below w.heap.size w w'))
 case atStart => exact ⟨(y103), (0), r3_, H', ⟨Nat.le_refl _⟩, ⟨rS_ HO105.out⟩, ⟨bB_⟩⟩
 case round =>
  clear H'
  try clear p2
  try clear c4
  obtain ⟨x7_1, x8_1, rfl, HA, HK1, HO_7, HB⟩ := hrel
  cases gk with
  | zero => exact absurd HA.out (by simp [spec_l02Move.l0])
  | succ k1 =>
   have H := HA.out
   clear HA
   simp only [spec_l02Move.l0] at H
   by_cases c6 : x8_1 < (l0.length : Int)
   ·rw [if_pos c6] at H
    have c6b0 : decide (x8_1 < (l0.length : Int)) = true := decide_eq_true c6
    clear c6
    by_cases c7 : 0 ≤ x8_1
    ·rw [if_pos c7] at H
     have c7b0 : decide (0 ≤ x8_1) = true := decide_eq_true c7
     clear c7
     by_cases c8 : x7_1.length < 8796093022208
     ·rw [if_pos c8] at H
      have LMc8 := Aside0.mk c8
      clear c8
      obtain ⟨y108, hY_⟩ : ∃ y_ : List (S43), y_ = (x7_1 ++ [(⟨wrap64 (((rd_T43 l0 x8_1).f0) + a1), wrap64 (((rd_T43 l0 x8_1).f1) + a2)⟩ : S43)]) := ⟨_, rfl⟩
      replace H : (spec_l02Move.l0 k1 l0 a1 a2 y108 (wrap64 (x8_1 + 1))) = some r := yY_
      have Ny108 := Aside0.mk hY_
      clear hY_
      have H' := Aside0.mk H
      clear H
      try go_wp2
      replace HO_7 := Aside0.mk (Kd.R_drew HO_7.out)
      replace HB := Aside0.mk (below_drew1 HB.out)
      have p106 : 0 ≤ (x8_1 : Int) := of_decide_eq_true aS_
      have q106 : x8_1 < (l0.length : Int) := of_decide_eq_true aS_
      obtain ⟨ad106, e106, hx106_0, hx106_1⟩ := at_T43 HR0.out x8_1 p106 q106
      have hw106_1 := hx106_1
      have hw106_0 := hx106_0
      cases e106
      replace hx106_0 := (HB.out.cell (World.block_lt_of_cell? w _ hx106_0)).trans hx106_0
      replace hx106_1 := (HB.out.cell (World.block_lt_of_cell? w _ hx106_1)).trans hx106_1
      replace p106 := eq_true p106
      replace q106 := eq_true q106
      have p107 : 0 ≤ (x8_1 : Int) := of_decide_eq_true aS_
      have q107 : x8_1 < (l0.length : Int) := of_decide_eq_true aS_
      obtain ⟨ad107, e107, hx107_0, hx107_1⟩ := at_T43 HR0.out x8_1 p107 q107
      have hw107_1 := hx107_1
      have hw107_0 := hx107_0
      obtain rfl : ad106 = ad107 := (by injection e107)
      replace hx107_0 := (HB.out.cell (World.block_lt_of_cell? w _ hx107_0)).trans hx107_0
      replace hx107_1 := (HB.out.cell (World.block_lt_of_cell? w _ hx107_1)).trans hx107_1
      replace p107 := eq_true p107
      replace q107 := eq_true q107
      refine start_ (n := 19) (S := fun w' => w'.cell? (ad106.add ((x8_1).toNat * 2)) = some (.int .i64 ((rd_T43 l0 x8_1).f0)) ∧ w'.cell? ⟨(ad106.add ((x8_1).toNat * 2)).block, (ad106.add ((x8_1).toNat * 2)).off + 1, none⟩ = some (.int .i64 ((rd_T43 l0 x8_1).f1)) ∧ w'.cell? (ad106.add ((x8_1).toNat * 2)) = some (.int .i64 ((rd_T43 l0 x8_1).f0)) ∧ w'.cell? ⟨(ad106.add ((x8_1).toNat * 2)).block, (ad106.add ((x8_1).toNat * 2)).off + 1, none⟩ = some (.int .i64 ((rd_T43 l0 x8_1).f1))) (ds := []) #[F, F, F, F, F, F, F, F, F, F, F, F, F, F, F, F, F, F, F] (by kernel_rfl) rfl rfl ⟨((HB.out.cell (World.block_lt_of_cell? w _ hw106_0)).trans hw106_0), ((HB.out.cell (World.block_lt_of_cell? w _ hw106_1)).trans hw106_1), ((HB.out.cell (World.block_lt_of_cell? w _ hw107_0)).trans hw107_0), ((HB.out.cell (World.block_lt_of_cell? w _ hw107_1)).trans hw107_1)⟩ (fun hHeld => ?_); refine with_tabW spec_l02Move.tab5 spec_l02Move.bits5 (fun HT_ HW_ => ?_)
      generalize wr.drew = w9 at HO_7 HB hx106_0 hx106_1 hx107_0 hx107_1 hHeld ⊢
      refine pu_ HT_ 0 (some 16) #[T,F,F,F,F,F,F,F,F,F,F,F,F,F,F,F,F,F,F] ?_
      refine pu_ HT_ 1 (some 17) #[T,T,F,F,F,F,F,F,F,F,F,F,F,F,F,F,F,F,F] ?_
      refine pu_ HT_ 2 (some 18) #[T,T,T,F,F,F,F,F,F,F,F,F,F,F,F,F,F,F,F] ?_
      refine pu_ HT_ 3 (some 19) #[T,T,T,T,F,F,F,F,F,F,F,F,F,F,F,F,F,F,F] ?_
      refine pu_ HT_ 4 (some 20) #[T,T,T,T,T,F,F,F,F,F,F,F,F,F,F,F,F,F,F] ?_
      refine pu_ HT_ 6 (some 22) #[T,T,T,T,T,F,T,F,F,F,F,F,F,F,F,F,F,F,F] ?_
      refine pu_ HT_ 8 (some 24) #[T,T,T,T,T,F,T,F,T,F,F,F,F,F,F,F,F,F,F] ?_
      refine pu_ HT_ 9 (some 25) #[T,T,T,T,T,F,T,F,T,T,F,F,F,F,F,F,F,F,F] ?_
      refine pu_ HT_ 10 (some 26) #[T,T,T,T,T,F,T,F,T,T,T,F,F,F,F,F,F,F,F] ?_
      refine pu_ HT_ 11 (some 27) #[T,T,T,T,T,F,T,F,T,T,T,T,F,F,F,F,F,F,F] ?_
      refine pu_ HT_ 13 (some 29) #[T,T,T,T,T,F,T,F,T,T,T,T,F,T,F,F,F,F,F] ?_
      refine take_ (i := 5) (N := some 21) (v := ?_) (a' := ?_) #[T, T, T, T, T, T, T, F, T, T, T, T, F, T, F, F, F, F, F] rfl rfl (take_ofW HT_.out HW_.out (by kernel_rfl)) (fun _ _ _ h => h) (Or.inl ⟨by rfl, ?_⟩) hHeld ?_ ?_
      rotate_left
      ·rintro w' ⟨s0, s1, s2, s3⟩
       go_simp
       with_reducible rfl
      rotate_left
      ·simp only [Act.put, List.setIfInBounds_toArray, List.set_cons_zero, List.set_cons_succ, i64_w, i32_w]
       rfl
      refine pu_ HT_ 7 (some 23) #[T,T,T,T,T,T,T,T,T,T,T,T,F,T,F,F,F,F,F] ?_
      refine take_ (i := 12) (N := some 28) (v := ?_) (a' := ?_) #[T, T, T, T, T, T, T, T, T, T, T, T, T, T, F, F, F, F, F] rfl rfl (take_ofW HT_.out HW_.out (by kernel_rfl)) (fun _ _ _ h => h) (Or.inl ⟨by rfl, ?_⟩) hHeld ?_ ?_
      rotate_left
      ·rintro w' ⟨s0, s1, s2, s3⟩
       go_simp
       with_reducible rfl
      rotate_left
      ·simp only [Act.put, List.setIfInBounds_toArray, List.set_cons_zero, List.set_cons_succ, i64_w, i32_w]
       rfl
      refine pu_ HT_ 14 (some 30) #[T,T,T,T,T,T,T,T,T,T,T,T,T,T,T,F,F,F,F] ?_
      refine pu_ HT_ 15 (some 31) #[T,T,T,T,T,T,T,T,T,T,T,T,T,T,T,T,F,F,F] ?_
      refine one_ (i := 16) (N := some 32) #[T, T, T, T, T, T, T, T, T, T, T, T, T, T, T, T, T, F, F] rfl rfl (one_of HT_.out (by kernel_rfl)) (by decide) (fun K hK => ?_)
      refine value_ (w1 := ?_) (v := ?_) (by rfl) rfl ?_ ?_
      rotate_left 2
      ·go_simp
       constructor
       ·rfl
       ·rfl
      refine hK.out _ _ ⟨(World.cell?_alloc_lt _ _ _ (World.block_lt_of_cell? _ _ (((HB.out.cell (World.block_lt_of_cell? w _ hw106_0)).trans hw106_0)))).trans (((HB.out.cell (World.block_lt_of_cell? w _ hw106_0)).trans hw106_0)), (World.cell?_alloc_lt _ _ _ (World.block_lt_of_cell? _ _ (((HB.out.cell (World.block_lt_of_cell? w _ hw106_1)).trans hw106_1)))).trans (((HB.out.cell (World.block_lt_of_cell? w _ hw106_1)).trans hw106_1)), (World.cell?_alloc_lt _ _ _ (World.block_lt_of_cell? _ _ (((HB.out.cell (World.block_lt_of_cell? w _ hw107_0)).trans hw107_0)))).trans (((HB.out.cell (World.block_lt_of_cell? w _ hw107_0)).trans hw107_0)), (World.cell?_alloc_lt _ _ _ (World.block_lt_of_cell? _ _ (((HB.out.cell (World.block_lt_of_cell? w _ hw107_1)).trans hw107_1)))).trans (((HB.out.cell (World.block_lt_of_cell? w _ hw107_1)).trans hw107_1))⟩ (fun hHeld => ?_)
      clear hK K
      refine no_ (some 32) ?_
      refine one_ (i := 17) (N := some 33) #[T, T, T, T, T, T, T, T, T, T, T, T, T, T, T, T, T, T, F] rfl rfl (one_of HT_.out (by kernel_rfl)) (by decide) (fun K hK => ?_)
      refine Kd.R_append_step k43 (w0 := w) w.heap.size (by rfl) (.tmp 16) (.tmp 32) 24 43 (.agg #[(.int .i64 0), (.int .i64 0)]) 16 rfl Tryd.underlying24 info43 rfl (by decide) (by omega) u7 x7_1 (⟨wrap64 (((rd_T43 l0 x8_1).f0) + a1), wrap64 (((rd_T43 l0 x8_1).f1) + a2)⟩ : S43) [.int .i64 (wrap64 (((rd_T43 l0 x8_1).f0) + a1)), .int .i64 (wrap64 (((rd_T43 l0 x8_1).f1) + a2))] (fun _ => True) (fun _ => False) rfl rfl ?aP (fun _ hk => hk.elim) ?aF ?aO ?aB ?aS ?aL ?_
      (case aP => exact k43_mkM _ _ _ (⟨wrap64 (((rd_T43 l0 x8_1).f0) + a1), wrap64 (((rd_T43 l0 x8_1).f1) + a2)⟩ : S43))
      (case aB => exact bB_)
      (case aF => exact (fun _ _ => trivial))
      (case aO => exact (rS_ HO_7.out))
      (case aS => exact (below_size bB_))
      (case aL => have := LMc8.out; omega)
      intro v109 w10 ho hb hg hat
      rw [← Ny108.out] at ho
      replace HB := Aside0.mk (hb)
      have HO110 := Aside0.mk (ho)
      clear HO_7
      clear ho hb hg hat
      refine hK.out _ _ ⟨((HB.out.cell (World.block_lt_of_cell? w _ hw106_0)).trans hw106_0), ((HB.out.cell (World.block_lt_of_cell? w _ hw106_1)).trans hw106_1), ((HB.out.cell (World.block_lt_of_cell? w _ hw107_0)).trans hw107_0), ((HB.out.cell (World.block_lt_of_cell? w _ hw107_1)).trans hw107_1)⟩ (fun hHeld => ?_)
      clear hK K
      refine no_ (some 33) ?_
      refine pu_ HT_ 18 (some 7) #[T,T,T,T,T,T,T,T,T,T,T,T,T,T,T,T,T,T,T] ?_
      refine done_ (done_of HT_.out (by kernel_rfl)) ?_
      try go_wp2
      go_roundg k1
      case measure => have := HK1.out; omega
      case rel => exact ⟨(y108), (wrap64 (x8_1 + 1)), r3_, H', ⟨by have := HK1.out; omega⟩, ⟨rS_ HO110.out⟩, ⟨bB_⟩⟩
     ·rw [if_neg c8] at H
      exact absurd H (by simp)
    ·rw [if_neg c7] at H
     exact absurd H (by simp)
   ·rw [if_neg c6] at H
    have c6b0 : decide (x8_1 < (l0.length : Int)) = false := decide_eq_false c6
    clear c6
    obtain rfl := Option.some.inj H
    go_wp2
    go_ret
    exact ⟨_, r2_, rS_ HO_7.out, bB_⟩

/-! ### spec_l02Least: function 51 -/
def spec_l02Least.l0 : Nat → List (S43) → Int → Int → Int → Option (Int × Int)
 | 0, _, _, _, _ => none
 | k + 1, x0, x4, x5, x6 => if x6 < (x0.length : Int) then (if 0 ≤ x6 then (spec_l02Least.l0 k x0 (mn x4 ((rd_T43 x0 x6).f0)) (mn x5 ((rd_T43 x0 x6).f1)) (wrap64 (x6 + 1))) else (none)) else (some (x4, x5))
def spec_l02Least.f (k : Nat) (l0 : List (S43)) : Option (Int × Int) := if 0 < (l0.length : Int) then (spec_l02Least.l0 k l0 ((rd_T43 l0 0).f0) ((rd_T43 l0 0).f1) 1) else (none)
theorem spec_l02Least.mono_l : ∀ k, (∀ y0 y1 y2 y3, LeO (spec_l02Least.l0 k y0 y1 y2 y3) (spec_l02Least.l0 (k + 1) y0 y1 y2 y3))
 | 0 => fun _ _ _ _ r h => by simp [spec_l02Least.l0] at h
 | k + 1 => by
  have ih0 := spec_l02Least.mono_l k
  ·intro y0 y1 y2 y3
   unfold spec_l02Least.l0
   repeat' first
   | (with_reducible exact ih0 _ _ _ _)
   | (with_reducible exact LeO.refl _)
   | (with_reducible exact LeO.none _)
   | (with_reducible refine LeO.ite ?_ ?_)
   | (with_reducible refine LeO.bind ?_ (fun _ => ?_))
   | exact ih0 _ _ _ _
   | exact LeO.none _
   | refine LeO.ite ?_ ?_
   | refine LeO.bind ?_ (fun _ => ?_)
theorem spec_l02Least.mono : ∀ a0 k, LeO (spec_l02Least.f k a0) (spec_l02Least.f (k + 1) a0) := by
 intro a0 k
 have ih0 := spec_l02Least.mono_l k
 unfold spec_l02Least.f
 repeat' first
   | (with_reducible exact ih0 _ _ _ _)
   | (with_reducible exact LeO.refl _)
   | (with_reducible exact LeO.none _)
   | (with_reducible refine LeO.ite ?_ ?_)
   | (with_reducible refine LeO.bind ?_ (fun _ => ?_))
   | exact ih0 _ _ _ _
   | exact LeO.none _
   | refine LeO.ite ?_ ?_
   | refine LeO.bind ?_ (fun _ => ?_)
set_option maxHeartbeats 8000000 in
set_option maxRecDepth 100000 in
theorem spec_l02Least.calls (k : Nat) (A0 : Option Addr) (c0 : Nat) (l0 : List (S43)) (r1 : Int) (r2 : Int) (w : World) (hr0 : Kd.C k43 w A0 l0.length l0) (hc0 : l0.length ≤ c0) (h : spec_l02Least.f k l0 = some (r1, r2)) :
  Calls Tryd.prog 51 #[.slice A0 l0.length c0] w fun e w' => e = .returned (.tuple #[.int .i64 r1, .int .i64 r2]) ∧ Below w.heap.size w w' := by
 have HR0 := Aside0.mk hr0
 have HC0 := Aside0.mk hc0
 clear hr0 hc0
 have HB := Aside0.mk (Below.refl w.heap.size w)
 have H : (if 0 < (l0.length : Int) then (spec_l02Least.l0 k l0 ((rd_T43 l0 0).f0) ((rd_T43 l0 0).f1) 1) else (none)) = some (r1, r2) := h
 clear h
 by_cases c2 : 0 < (l0.length : Int)
 ·rw [if_pos c2] at H
  have c2b0 : decide (0 < (l0.length : Int)) = true := decide_eq_true c2
  have c2b1 : decide (0 < l0.length) = true := decide_eq_true (by omega)
  clear c2
  have H' := Aside0.mk H
  clear H
  have p111 : 0 ≤ (0 : Int) := (by omega)
  have q111 : 0 < (l0.length : Int) := of_decide_eq_true aS_
  obtain ⟨ad111, e111, hx111_0, hx111_1⟩ := at_T43 HR0.out 0 p111 q111
  cases e111
  have qi111 : (0 < l0.length) = True := eq_true (by omega)
  (try rw [show ((0 : Int)).toNat = 0 from rfl] at hx111_0)
  (try rw [show 0 * 2 = 0 from rfl] at hx111_0)
  (try rw [Addr.add_zero'] at hx111_0)
  (try rw [show ((0 : Int)).toNat = 0 from rfl] at hx111_1)
  (try rw [show 0 * 2 = 0 from rfl] at hx111_1)
  (try rw [Addr.add_zero'] at hx111_1)
  replace p111 := eq_true p111
  replace q111 := eq_true q111
  have p112 : 0 ≤ (0 : Int) := (by omega)
  have q112 : 0 < (l0.length : Int) := of_decide_eq_true aS_
  obtain ⟨ad112, e112, hx112_0, hx112_1⟩ := at_T43 HR0.out 0 p112 q112
  obtain rfl : ad111 = ad112 := (by injection e112)
  have qi112 : (0 < l0.length) = True := eq_true (by omega)
  (try rw [show ((0 : Int)).toNat = 0 from rfl] at hx112_0)
  (try rw [show 0 * 2 = 0 from rfl] at hx112_0)
  (try rw [Addr.add_zero'] at hx112_0)
  (try rw [show ((0 : Int)).toNat = 0 from rfl] at hx112_1)
  (try rw [show 0 * 2 = 0 from rfl] at hx112_1)
  (try rw [Addr.add_zero'] at hx112_1)
  replace p112 := eq_true p112
  replace q112 := eq_true q112
  go_enter Tryd.func51, Tryd.ntmps51
  go_wp2
  repeat (go_quiet (fail); try go_wp2)
  go_loopg [4, 5, 6] k (fun kq v4 v5 v6 w' => ∃ (x4_1 : Int) (x5_1 : Int) (x6_1 : Int), v4 = .int .i64 x4_1 ∧ v5 = .int .i64 x5_1 ∧ v6 = .int .i64 x6_1 ∧ Aside0 (spec_l02Least.l0 kq l0 x4_1 x5_1 x6_1 = some (r1, r2)) ∧ Aside0 (kq ≤ k) ∧ Aside0 (Below w.heap.size w w'))
  case atStart => exact ⟨((rd_T43 l0 0).f0), ((rd_T43 l0 0).f1), (1), r3_, r3_, r3_, H', ⟨Nat.le_refl _⟩, ⟨bB_⟩⟩
  case round =>
   clear H'
   try clear p1
   try clear q1
   try clear hx1
   try clear qi1
   try clear c2
   try clear c2b0
   try clear c2b1
   try clear p2
   try clear hx111_0
   try clear hx111_1
   try clear hx112_0
   try clear hx112_1
   try clear p111
   try clear p112
   try clear q111
   try clear q112
   obtain ⟨x4_1, x5_1, x6_1, rfl, rfl, rfl, HA, HK1, HB⟩ := hrel
   cases gk with
   | zero => exact absurd HA.out (by simp [spec_l02Least.l0])
   | succ k1 =>
    have H := HA.out
    clear HA
    simp only [spec_l02Least.l0] at H
    by_cases c3 : x6_1 < (l0.length : Int)
    ·rw [if_pos c3] at H
     have c3b0 : decide (x6_1 < (l0.length : Int)) = true := decide_eq_true c3
     clear c3
     by_cases c4 : 0 ≤ x6_1
     ·rw [if_pos c4] at H
      have c4b0 : decide (0 ≤ x6_1) = true := decide_eq_true c4
      clear c4
      obtain ⟨ji5, hji5⟩ : ∃ j_ : Int, (mn x4_1 ((rd_T43 l0 x6_1).f0)) = j_ := ⟨_, rfl⟩
      replace H : (spec_l02Least.l0 k1 l0 ji5 (mn x5_1 ((rd_T43 l0 x6_1).f1)) (wrap64 (x6_1 + 1))) = some (r1, r2) := by first | (rw [hji5] at H; exact H) | (simp only [hji5] at H ⊢; exact H)
      have hji5_ : (if ((rd_T43 l0 x6_1).f0) < x4_1 then ((rd_T43 l0 x6_1).f0) else x4_1) = ji5 := hji5
      obtain ⟨ji6, hji6⟩ : ∃ j_ : Int, (mn x5_1 ((rd_T43 l0 x6_1).f1)) = j_ := ⟨_, rfl⟩
      replace H : (spec_l02Least.l0 k1 l0 ji5 ji6 (wrap64 (x6_1 + 1))) = some (r1, r2) := by first | (rw [hji6] at H; exact H) | (simp only [hji6] at H ⊢; exact H)
      have hji6_ : (if ((rd_T43 l0 x6_1).f1) < x5_1 then ((rd_T43 l0 x6_1).f1) else x5_1) = ji6 := hji6
      have H' := Aside0.mk H
      clear H
      have p113 : 0 ≤ (x6_1 : Int) := of_decide_eq_true aS_
      have q113 : x6_1 < (l0.length : Int) := of_decide_eq_true aS_
      obtain ⟨ad113, e113, hx113_0, hx113_1⟩ := at_T43 HR0.out x6_1 p113 q113
      obtain rfl : ad111 = ad113 := (by injection e113)
      replace hx113_0 := (HB.out.cell (World.block_lt_of_cell? w _ hx113_0)).trans hx113_0
      replace hx113_1 := (HB.out.cell (World.block_lt_of_cell? w _ hx113_1)).trans hx113_1
      replace p113 := eq_true p113
      replace q113 := eq_true q113
      have p114 : 0 ≤ (x6_1 : Int) := of_decide_eq_true aS_
      have q114 : x6_1 < (l0.length : Int) := of_decide_eq_true aS_
      obtain ⟨ad114, e114, hx114_0, hx114_1⟩ := at_T43 HR0.out x6_1 p114 q114
      obtain rfl : ad111 = ad114 := (by injection e114)
      replace hx114_0 := (HB.out.cell (World.block_lt_of_cell? w _ hx114_0)).trans hx114_0
      replace hx114_1 := (HB.out.cell (World.block_lt_of_cell? w _ hx114_1)).trans hx114_1
      replace p114 := eq_true p114
      replace q114 := eq_true q114
      go_wp2
      repeat (go_quiet (fail); try go_wp2)
      go_roundg k1
      case measure => have := HK1.out; omega
      case rel => exact ⟨(ji5), (ji6), (wrap64 (x6_1 + 1)), (by first | rfl | (simp; done) | (simp only [← hji5] <;> (first | rfl | simp)) | (simp [*]; done)), (by first | rfl | (simp; done) | (simp only [← hji6] <;> (first | rfl | simp)) | (simp [*]; done)), r3_, H', ⟨by have := HK1.out; omega⟩, ⟨bB_⟩⟩
     ·rw [if_neg c4] at H
      exact absurd H (by simp)
    ·rw [if_neg c3] at H
     have c3b0 : decide (x6_1 < (l0.length : Int)) = false := decide_eq_false c3
     clear c3
     simp only [Option.some.injEq, Prod.mk.injEq] at H
     obtain ⟨rfl, rfl⟩ := H
     go_wp2
     repeat (go_quiet (fail); try go_wp2)
     go_ret2
     exact ⟨r2_, bB_⟩
 ·rw [if_neg c2] at H
  exact absurd H (by simp)

/-! ### spec_l02Normal: function 30 -/
def spec_l02Normal.f (k : Nat) (l0 : List (S43)) : Option ((List (S43))) := (spec_l02Least.f k l0).bind fun bt115 => ((spec_l02Move.f k l0 (wrap64 (-bt115.1)) (wrap64 (-bt115.2))).bind fun t117 => (some t117))
theorem spec_l02Normal.mono : ∀ a0 k, LeO (spec_l02Normal.f k a0) (spec_l02Normal.f (k + 1) a0) := by
 intro a0 k
 unfold spec_l02Normal.f
 repeat' first
   | (with_reducible exact spec_l02Least.mono _ _)
   | (with_reducible exact spec_l02Move.mono _ _ _ _)
   | (with_reducible exact LeO.refl _)
   | (with_reducible exact LeO.none _)
   | (with_reducible refine LeO.ite ?_ ?_)
   | (with_reducible refine LeO.bind ?_ (fun _ => ?_))
   | exact spec_l02Least.mono _ _
   | exact spec_l02Move.mono _ _ _ _
   | exact LeO.none _
   | refine LeO.ite ?_ ?_
   | refine LeO.bind ?_ (fun _ => ?_)
set_option maxHeartbeats 8000000 in
set_option maxRecDepth 100000 in
theorem spec_l02Normal.calls (k : Nat) (A0 : Option Addr) (c0 : Nat) (l0 : List (S43)) (r : List (S43)) (w : World) (hr0 : Kd.C k43 w A0 l0.length l0) (hc0 : l0.length ≤ c0) (h : spec_l02Normal.f k l0 = some r) :
  Calls Tryd.prog 30 #[.slice A0 l0.length c0] w fun e w' => ∃ v0_ : Value, e = .returned (v0_) ∧ Kd.R k43 43 w' w.heap.size (fun _ => True) v0_ r ∧ Below w.heap.size w w' := by
 have HR0 := Aside0.mk hr0
 have HC0 := Aside0.mk hc0
 clear hr0 hc0
 have HB := Aside0.mk (Below.refl w.heap.size w)
 have H : ((spec_l02Least.f k l0).bind fun bt115 => ((spec_l02Move.f k l0 (wrap64 (-bt115.1)) (wrap64 (-bt115.2))).bind fun t117 => (some t117))) = some r := h
 clear h
 replace H := Option.bind_eq_some_iff.mp H
 obtain ⟨⟨t115, t116⟩, A20, H⟩ := H
 try dsimp only at H
 have A2 := Aside0.mk A20
 clear A20
 replace H := Option.bind_eq_some_iff.mp H
 obtain ⟨t117, A30, H⟩ := H
 try dsimp only at H
 have A3 := Aside0.mk A30
 clear A30
 obtain rfl := Option.some.inj H
 go_enter Tryd.func30, Tryd.ntmps30
 go_wp2_with (first | ((with_reducible refine gate_callee (f := 51) rfl ?_); refine gL_ (some 7) Tryd.func51 #[.slice A0 l0.length c0] ?_; (with_reducible refine (spec_l02Least.calls k _ _ l0 t115 t116 _ ?side1 ?side2 A2.out).mono ?_); (case side1 => exact cS_ HR0.out); (case side2 => exact HC0.out); rintro e w4 ⟨rfl, hb⟩; refine ⟨_, rfl, ?_⟩; replace HB := Aside0.mk (below_step bB_ hb); (try clear hb)) | ((with_reducible refine gate_callee (f := 43) rfl ?_); refine gL_ (some 15) Tryd.func43 #[.slice A0 l0.length c0, .int .i64 (wrap64 (-t115)), .int .i64 (wrap64 (-t116))] ?_; (with_reducible refine (spec_l02Move.calls k _ _ l0 (wrap64 (-t115)) (wrap64 (-t116)) t117 _ ?side1 ?side2 A3.out).mono ?_); (case side1 => exact cS_ (Kd.C_below HR0.out HB.out)); (case side2 => exact HC0.out); rintro e w5 ⟨v118, rfl, ho0, hb⟩; refine ⟨_, rfl, ?_⟩; have HO119 := Aside0.mk (Kd.R_lower ho0 (below_size bB_)); replace HB := Aside0.mk (below_step bB_ hb); (try clear hb ho0)))
 go_ret
 exact ⟨_, r2_, rS_ HO119.out, bB_⟩

/-! ### spec_l02Index: function 32 -/
def spec_l02Index.l0 : Nat → List (S43) → Int → Int → Int → Option (Int)
 | 0, _, _, _, _ => none
 | k + 1, x0, x5, x121000, x121001 => if x5 < (x0.length : Int) then (if 0 ≤ x5 then (if (((rd_T43 x0 x5).f0) == x121000 && (((rd_T43 x0 x5).f1) == x121001)) = true then (some x5) else (spec_l02Index.l0 k x0 (wrap64 (x5 + 1)) x121000 x121001)) else (none)) else (some (-1))
def spec_l02Index.f (k : Nat) (l0 : List (S43)) (a1_0 : Int) (a1_1 : Int) : Option (Int) := spec_l02Index.l0 k l0 0 a1_0 a1_1
theorem spec_l02Index.mono_l : ∀ k, (∀ y0 y1 y2 y3, LeO (spec_l02Index.l0 k y0 y1 y2 y3) (spec_l02Index.l0 (k + 1) y0 y1 y2 y3))
 | 0 => fun _ _ _ _ r h => by simp [spec_l02Index.l0] at h
 | k + 1 => by
  have ih0 := spec_l02Index.mono_l k
  ·intro y0 y1 y2 y3
   unfold spec_l02Index.l0
   repeat' first
   | (with_reducible exact ih0 _ _ _ _)
   | (with_reducible exact LeO.refl _)
   | (with_reducible exact LeO.none _)
   | (with_reducible refine LeO.ite ?_ ?_)
   | (with_reducible refine LeO.bind ?_ (fun _ => ?_))
   | exact ih0 _ _ _ _
   | exact LeO.none _
   | refine LeO.ite ?_ ?_
   | refine LeO.bind ?_ (fun _ => ?_)
theorem spec_l02Index.mono : ∀ a0 a1 a2 k, LeO (spec_l02Index.f k a0 a1 a2) (spec_l02Index.f (k + 1) a0 a1 a2) := by
 intro a0 a1 a2 k
 have ih0 := spec_l02Index.mono_l k
 unfold spec_l02Index.f
 repeat' first
   | (with_reducible exact ih0 _ _ _ _)
   | (with_reducible exact LeO.refl _)
   | (with_reducible exact LeO.none _)
   | (with_reducible refine LeO.ite ?_ ?_)
   | (with_reducible refine LeO.bind ?_ (fun _ => ?_))
   | exact ih0 _ _ _ _
   | exact LeO.none _
   | refine LeO.ite ?_ ?_
   | refine LeO.bind ?_ (fun _ => ?_)
set_option maxHeartbeats 8000000 in
set_option maxRecDepth 100000 in
theorem spec_l02Index.calls (k : Nat) (A0 : Option Addr) (c0 : Nat) (l0 : List (S43)) (a1_0 : Int) (a1_1 : Int) (r : Int) (w : World) (hr0 : Kd.C k43 w A0 l0.length l0) (hc0 : l0.length ≤ c0) (h : spec_l02Index.f k l0 a1_0 a1_1 = some r) :
  Calls Tryd.prog 32 #[.slice A0 l0.length c0, .agg #[.int .i64 a1_0, .int .i64 a1_1]] w fun e w' => e = .returned (.int .i64 r) ∧ Below w.heap.size w w' := by
 have hu43 := Tryd.underlying43
 have HR0 := Aside0.mk hr0
 have HC0 := Aside0.mk hc0
 clear hr0 hc0
 have HB := Aside0.mk (Below.refl w.heap.size w)
 have H : (spec_l02Index.l0 k l0 0 a1_0 a1_1) = some r := h
 clear h
 have H' := Aside0.mk H
 clear H
 go_enter Tryd.func32, Tryd.ntmps32
 go_wp2_with (first | ((with_reducible refine gate_dst (N := 3) rfl ?_); refine box_event ?hg (N := 3) ?hd (cs := #[.int .i64 a1_0, .int .i64 a1_1]) (t := 43) ?hr ?_; (case hd => rfl); (case hg => rfl); (case hr => first | (go_simp; done) | (go_simp; rfl)); intro gb120 hg w3 hbox hb; have BK120 := Aside0.mk (hbox); have GW120 := Aside0.mk ((by rw [hg]; exact (below_size bB_) : w.heap.size ≤ gb120)); have GE120 := Aside0.mk ((by rw [hg]; exact (below_size bB_) : w.heap.size ≤ gb120)); replace HB := Aside0.mk (below_step bB_ hb); clear hb hbox hg))
 repeat (go_quiet (first | ((with_reducible refine gate_dst (N := 3) rfl ?_); refine box_event ?hg (N := 3) ?hd (cs := #[.int .i64 a1_0, .int .i64 a1_1]) (t := 43) ?hr ?_; (case hd => rfl); (case hg => rfl); (case hr => first | (go_simp; done) | (go_simp; rfl)); intro gb120 hg w3 hbox hb; have BK120 := Aside0.mk (hbox); have GW120 := Aside0.mk ((by rw [hg]; exact (below_size bB_) : w.heap.size ≤ gb120)); have GE120 := Aside0.mk ((by rw [hg]; exact (below_size bB_) : w.heap.size ≤ gb120)); replace HB := Aside0.mk (below_step bB_ hb); clear hb hbox hg)); try go_wp2_with (first | ((with_reducible refine gate_dst (N := 3) rfl ?_); refine box_event ?hg (N := 3) ?hd (cs := #[.int .i64 a1_0, .int .i64 a1_1]) (t := 43) ?hr ?_; (case hd => rfl); (case hg => rfl); (case hr => first | (go_simp; done) | (go_simp; rfl)); intro gb120 hg w3 hbox hb; have BK120 := Aside0.mk (hbox); have GW120 := Aside0.mk ((by rw [hg]; exact (below_size bB_) : w.heap.size ≤ gb120)); have GE120 := Aside0.mk ((by rw [hg]; exact (below_size bB_) : w.heap.size ≤ gb120)); replace HB := Aside0.mk (below_step bB_ hb); clear hb hbox hg)))
 go_loopg [5] k (fun kq v5 w' => ∃ (x5_1 : Int), v5 = .int .i64 x5_1 ∧ Aside0 (spec_l02Index.l0 kq l0 x5_1 a1_0 a1_1 = some r) ∧ Aside0 (kq ≤ k) ∧ Aside0 (w'.heap[gb120]? = some (.cells #[.int .i64 a1_0, .int .i64 a1_1] 43 (0, 0))) ∧ Aside0 (Below w.heap.size w w'))
 case atStart => exact ⟨(0), r3_, H', ⟨Nat.le_refl _⟩, ⟨by (with_reducible repeat (first | refine blk_drewN ?_ _ | refine blk_drew ?_ | refine blk_alloc ?_ _)); exact BK120.out⟩, ⟨by repeat (first | (with_reducible first | exact HB.out | apply below_alloc | apply pw_below_drewN | apply below_drew1 | refine below_set ?_ GE120.out) | exact HB.out)⟩⟩
 case round =>
  clear H'
  try clear p2
  try clear c3
  obtain ⟨x5_1, rfl, HA, HK1, BK120, HB⟩ := hrel
  cases gk with
  | zero => exact absurd HA.out (by simp [spec_l02Index.l0])
  | succ k1 =>
   have H := HA.out
   clear HA
   simp only [spec_l02Index.l0] at H
   by_cases c4 : x5_1 < (l0.length : Int)
   ·rw [if_pos c4] at H
    have c4b0 : decide (x5_1 < (l0.length : Int)) = true := decide_eq_true c4
    clear c4
    by_cases c5 : 0 ≤ x5_1
    ·rw [if_pos c5] at H
     have c5b0 : decide (0 ≤ x5_1) = true := decide_eq_true c5
     clear c5
     by_cases c6 : (((rd_T43 l0 x5_1).f0) == a1_0 && (((rd_T43 l0 x5_1).f1) == a1_1)) = true
     ·rw [if_pos c6] at H
      have c6b0 : (((rd_T43 l0 x5_1).f0) == a1_0 && (((rd_T43 l0 x5_1).f1) == a1_1)) = true := c6
      (try (have c6b1 : decide (((rd_T43 l0 x5_1).f0) = a1_0 && (((rd_T43 l0 x5_1).f1) == a1_1)) = true := by simpa using c6))
      (try (have c6b2 : (((rd_T43 l0 x5_1).f0) == a1_0 && (((rd_T43 l0 x5_1).f1) == a1_1)) = true := by simpa using c6))
      clear c6
      obtain rfl := Option.some.inj H
      have p121 : 0 ≤ (x5_1 : Int) := of_decide_eq_true aS_
      have q121 : x5_1 < (l0.length : Int) := of_decide_eq_true aS_
      obtain ⟨ad121, e121, hx121_0, hx121_1⟩ := at_T43 HR0.out x5_1 p121 q121
      cases e121
      replace hx121_0 := (HB.out.cell (World.block_lt_of_cell? w _ hx121_0)).trans hx121_0
      replace hx121_1 := (HB.out.cell (World.block_lt_of_cell? w _ hx121_1)).trans hx121_1
      replace p121 := eq_true p121
      replace q121 := eq_true q121
      have hcz7_0 : wr.cell? ⟨gb120, 0, none⟩ = some (.int .i64 a1_0) := (blk_cell BK120.out 0).trans rfl
      have hcz7_1 : wr.cell? ⟨gb120, 1, none⟩ = some (.int .i64 a1_1) := (blk_cell BK120.out 1).trans rfl
      have hfz7_0 := blk_frozen BK120.out 0
      have hfz7_1 := blk_frozen BK120.out 1
      go_wp2
      repeat (go_quiet (fail); try go_wp2)
      go_ret
      exact ⟨r2_, by repeat (first | (with_reducible first | exact HB.out | apply below_alloc | apply pw_below_drewN | apply below_drew1 | refine below_set ?_ GE120.out) | exact HB.out)⟩
     ·rw [if_neg c6] at H
      have c6b0 : (((rd_T43 l0 x5_1).f0) == a1_0 && (((rd_T43 l0 x5_1).f1) == a1_1)) = false := by simpa using c6
      (try (have c6b1 : decide (((rd_T43 l0 x5_1).f0) = a1_0 && (((rd_T43 l0 x5_1).f1) == a1_1)) = false := by simpa using c6))
      (try (have c6b2 : (((rd_T43 l0 x5_1).f0) == a1_0 && (((rd_T43 l0 x5_1).f1) == a1_1)) = false := by simpa using c6))
      (try (have c6b3 : ¬ (((rd_T43 l0 x5_1).f0) = a1_0 && (((rd_T43 l0 x5_1).f1) == a1_1)) := by simpa using c6))
      clear c6
      have H' := Aside0.mk H
      clear H
      have p121 : 0 ≤ (x5_1 : Int) := of_decide_eq_true aS_
      have q121 : x5_1 < (l0.length : Int) := of_decide_eq_true aS_
      obtain ⟨ad121, e121, hx121_0, hx121_1⟩ := at_T43 HR0.out x5_1 p121 q121
      cases e121
      replace hx121_0 := (HB.out.cell (World.block_lt_of_cell? w _ hx121_0)).trans hx121_0
      replace hx121_1 := (HB.out.cell (World.block_lt_of_cell? w _ hx121_1)).trans hx121_1
      replace p121 := eq_true p121
      replace q121 := eq_true q121
      have hcz8_0 : wr.cell? ⟨gb120, 0, none⟩ = some (.int .i64 a1_0) := (blk_cell BK120.out 0).trans rfl
      have hcz8_1 : wr.cell? ⟨gb120, 1, none⟩ = some (.int .i64 a1_1) := (blk_cell BK120.out 1).trans rfl
      have hfz8_0 := blk_frozen BK120.out 0
      have hfz8_1 := blk_frozen BK120.out 1
      go_wp2
      repeat (go_quiet (fail); try go_wp2)
      go_roundg k1
      case measure => have := HK1.out; omega
      case rel => exact ⟨(wrap64 (x5_1 + 1)), r3_, H', ⟨by have := HK1.out; omega⟩, ⟨by (with_reducible repeat (first | refine blk_drewN ?_ _ | refine blk_drew ?_ | refine blk_alloc ?_ _)); exact BK120.out⟩, ⟨by repeat (first | (with_reducible first | exact HB.out | apply below_alloc | apply pw_below_drewN | apply below_drew1 | refine below_set ?_ GE120.out) | exact HB.out)⟩⟩
    ·rw [if_neg c5] at H
     exact absurd H (by simp)
   ·rw [if_neg c4] at H
    have c4b0 : decide (x5_1 < (l0.length : Int)) = false := decide_eq_false c4
    clear c4
    obtain rfl := Option.some.inj H
    go_wp2
    repeat (go_quiet (fail); try go_wp2)
    go_ret
    exact ⟨r2_, by repeat (first | (with_reducible first | exact HB.out | apply below_alloc | apply pw_below_drewN | apply below_drew1 | refine below_set ?_ GE120.out) | exact HB.out)⟩

/-! ### spec_l02Less: function 39 -/
def spec_l02Less.f (a0_0 : Int) (a0_1 : Int) (a1_0 : Int) (a1_1 : Int) : Option (Bool) := if a0_1 < a1_1 then (some true) else (if a0_1 = a1_1 then (some (decide (a0_0 < a1_0))) else (some false))
set_option maxHeartbeats 8000000 in
set_option maxRecDepth 100000 in
theorem spec_l02Less.calls (a0_0 : Int) (a0_1 : Int) (a1_0 : Int) (a1_1 : Int) (r : Bool) (w : World) (h : spec_l02Less.f a0_0 a0_1 a1_0 a1_1 = some r) :
  Calls Tryd.prog 39 #[.agg #[.int .i64 a0_0, .int .i64 a0_1], .agg #[.int .i64 a1_0, .int .i64 a1_1]] w fun e w' => e = .returned (.bool r) ∧ Below w.heap.size w w' := by
 have hu43 := Tryd.underlying43
 have HB := Aside0.mk (Below.refl w.heap.size w)
 have H : (if a0_1 < a1_1 then (some true) else (if a0_1 = a1_1 then (some (decide (a0_0 < a1_0))) else (some false))) = some r := h
 clear h
 by_cases c3 : a0_1 < a1_1
 ·rw [if_pos c3] at H
  have c3b0 : decide (a0_1 < a1_1) = true := decide_eq_true c3
  clear c3
  obtain rfl := Option.some.inj H
  go_enter Tryd.func39, Tryd.ntmps39
  go_wp2_with (first | ((with_reducible refine gate_dst (N := 2) rfl ?_); refine box_event ?hg (N := 2) ?hd (cs := #[.int .i64 a0_0, .int .i64 a0_1]) (t := 43) ?hr ?_; (case hd => rfl); (case hg => rfl); (case hr => first | (go_simp; done) | (go_simp; rfl)); intro gb122 hg w4 hbox hb; have BK122 := Aside0.mk (hbox); have GW122 := Aside0.mk ((by rw [hg]; exact (below_size bB_) : w.heap.size ≤ gb122)); have GE122 := Aside0.mk ((by rw [hg]; exact (below_size bB_) : w.heap.size ≤ gb122)); replace HB := Aside0.mk (below_step bB_ hb); clear hb hbox hg) | ((with_reducible refine gate_dst (N := 3) rfl ?_); refine box_event ?hg (N := 3) ?hd (cs := #[.int .i64 a1_0, .int .i64 a1_1]) (t := 43) ?hr ?_; (case hd => rfl); (case hg => rfl); (case hr => first | (go_simp; done) | (go_simp; rfl)); intro gb123 hg w5 hbox hb; have BK123 := Aside0.mk (hbox); have GW123 := Aside0.mk ((by rw [hg]; exact (below_size (by repeat (first | (with_reducible first | exact HB.out | apply below_alloc | apply pw_below_drewN | apply below_drew1 | refine below_set ?_ GE122.out) | exact HB.out))) : w.heap.size ≤ gb123)); have GE123 := Aside0.mk ((by rw [hg]; exact (below_size (by repeat (first | (with_reducible first | exact HB.out | apply below_alloc | apply pw_below_drewN | apply below_drew1 | refine below_set ?_ GE122.out) | exact HB.out))) : w.heap.size ≤ gb123)); replace HB := Aside0.mk (below_step (by repeat (first | (with_reducible first | exact HB.out | apply below_alloc | apply pw_below_drewN | apply below_drew1 | refine below_set ?_ GE122.out) | exact HB.out)) hb); have NB122_123 := Aside0.mk ((by rw [hg]; exact Nat.ne_of_lt (blk_lt (g := gb122) (o := .cells #[.int .i64 a0_0, .int .i64 a0_1] 43 (0, 0)) (by (with_reducible repeat (first | refine blk_drewN ?_ _ | refine blk_drew ?_ | refine blk_alloc ?_ _)); exact BK122.out)) : gb122 ≠ gb123)); have NB123_122 := Aside0.mk ((by rw [hg]; exact Nat.ne_of_gt (blk_lt (g := gb122) (o := .cells #[.int .i64 a0_0, .int .i64 a0_1] 43 (0, 0)) (by (with_reducible repeat (first | refine blk_drewN ?_ _ | refine blk_drew ?_ | refine blk_alloc ?_ _)); exact BK122.out)) : gb123 ≠ gb122)); replace BK122 := Aside0.mk (blk_below (g := gb122) (o := .cells #[.int .i64 a0_0, .int .i64 a0_1] 43 (0, 0)) (by (with_reducible repeat (first | refine blk_drewN ?_ _ | refine blk_drew ?_ | refine blk_alloc ?_ _)); exact BK122.out) hb); clear hb hbox hg; have hnb6 := NB122_123.out; have hnc6 := NB123_122.out; have hcz7_0 : w5.cell? ⟨gb122, 0, none⟩ = some (.int .i64 a0_0) := (blk_cell BK122.out 0).trans rfl; have hcz7_1 : w5.cell? ⟨gb122, 1, none⟩ = some (.int .i64 a0_1) := (blk_cell BK122.out 1).trans rfl; have hfz7_0 := blk_frozen BK122.out 0; have hfz7_1 := blk_frozen BK122.out 1; have hcz8_0 : w5.cell? ⟨gb123, 0, none⟩ = some (.int .i64 a1_0) := (blk_cell BK123.out 0).trans rfl; have hcz8_1 : w5.cell? ⟨gb123, 1, none⟩ = some (.int .i64 a1_1) := (blk_cell BK123.out 1).trans rfl; have hfz8_0 := blk_frozen BK123.out 0; have hfz8_1 := blk_frozen BK123.out 1))
  go_ret
  exact ⟨r2_, by repeat (first | (with_reducible first | exact HB.out | apply below_alloc | apply pw_below_drewN | apply below_drew1 | refine below_set ?_ GE122.out | refine below_set ?_ GE123.out) | exact HB.out)⟩
 ·rw [if_neg c3] at H
  have c3b0 : decide (a0_1 < a1_1) = false := decide_eq_false c3
  clear c3
  by_cases c9 : a0_1 = a1_1
  ·rw [if_pos c9] at H
   have c9b0 : (a0_1 == a1_1) = true := beq_iff_eq.mpr c9
   have c9b1 : (a0_1 != a1_1) = false := bne_eq_false_iff_eq.mpr c9
   clear c9
   obtain rfl := Option.some.inj H
   go_enter Tryd.func39, Tryd.ntmps39
   go_wp2_with (first | ((with_reducible refine gate_dst (N := 2) rfl ?_); refine box_event ?hg (N := 2) ?hd (cs := #[.int .i64 a0_0, .int .i64 a0_1]) (t := 43) ?hr ?_; (case hd => rfl); (case hg => rfl); (case hr => first | (go_simp; done) | (go_simp; rfl)); intro gb122 hg w10 hbox hb; have BK122 := Aside0.mk (hbox); have GW122 := Aside0.mk ((by rw [hg]; exact (below_size bB_) : w.heap.size ≤ gb122)); have GE122 := Aside0.mk ((by rw [hg]; exact (below_size bB_) : w.heap.size ≤ gb122)); replace HB := Aside0.mk (below_step bB_ hb); clear hb hbox hg) | ((with_reducible refine gate_dst (N := 3) rfl ?_); refine box_event ?hg (N := 3) ?hd (cs := #[.int .i64 a1_0, .int .i64 a1_1]) (t := 43) ?hr ?_; (case hd => rfl); (case hg => rfl); (case hr => first | (go_simp; done) | (go_simp; rfl)); intro gb123 hg w11 hbox hb; have BK123 := Aside0.mk (hbox); have GW123 := Aside0.mk ((by rw [hg]; exact (below_size (by repeat (first | (with_reducible first | exact HB.out | apply below_alloc | apply pw_below_drewN | apply below_drew1 | refine below_set ?_ GE122.out) | exact HB.out))) : w.heap.size ≤ gb123)); have GE123 := Aside0.mk ((by rw [hg]; exact (below_size (by repeat (first | (with_reducible first | exact HB.out | apply below_alloc | apply pw_below_drewN | apply below_drew1 | refine below_set ?_ GE122.out) | exact HB.out))) : w.heap.size ≤ gb123)); replace HB := Aside0.mk (below_step (by repeat (first | (with_reducible first | exact HB.out | apply below_alloc | apply pw_below_drewN | apply below_drew1 | refine below_set ?_ GE122.out) | exact HB.out)) hb); have NB122_123 := Aside0.mk ((by rw [hg]; exact Nat.ne_of_lt (blk_lt (g := gb122) (o := .cells #[.int .i64 a0_0, .int .i64 a0_1] 43 (0, 0)) (by (with_reducible repeat (first | refine blk_drewN ?_ _ | refine blk_drew ?_ | refine blk_alloc ?_ _)); exact BK122.out)) : gb122 ≠ gb123)); have NB123_122 := Aside0.mk ((by rw [hg]; exact Nat.ne_of_gt (blk_lt (g := gb122) (o := .cells #[.int .i64 a0_0, .int .i64 a0_1] 43 (0, 0)) (by (with_reducible repeat (first | refine blk_drewN ?_ _ | refine blk_drew ?_ | refine blk_alloc ?_ _)); exact BK122.out)) : gb123 ≠ gb122)); replace BK122 := Aside0.mk (blk_below (g := gb122) (o := .cells #[.int .i64 a0_0, .int .i64 a0_1] 43 (0, 0)) (by (with_reducible repeat (first | refine blk_drewN ?_ _ | refine blk_drew ?_ | refine blk_alloc ?_ _)); exact BK122.out) hb); clear hb hbox hg; have hnb12 := NB122_123.out; have hnc12 := NB123_122.out; have hcz13_0 : w11.cell? ⟨gb122, 0, none⟩ = some (.int .i64 a0_0) := (blk_cell BK122.out 0).trans rfl; have hcz13_1 : w11.cell? ⟨gb122, 1, none⟩ = some (.int .i64 a0_1) := (blk_cell BK122.out 1).trans rfl; have hfz13_0 := blk_frozen BK122.out 0; have hfz13_1 := blk_frozen BK122.out 1; have hcz14_0 : w11.cell? ⟨gb123, 0, none⟩ = some (.int .i64 a1_0) := (blk_cell BK123.out 0).trans rfl; have hcz14_1 : w11.cell? ⟨gb123, 1, none⟩ = some (.int .i64 a1_1) := (blk_cell BK123.out 1).trans rfl; have hfz14_0 := blk_frozen BK123.out 0; have hfz14_1 := blk_frozen BK123.out 1))
   go_ret
   exact ⟨r2_, by repeat (first | (with_reducible first | exact HB.out | apply below_alloc | apply pw_below_drewN | apply below_drew1 | refine below_set ?_ GE122.out | refine below_set ?_ GE123.out) | exact HB.out)⟩
  ·rw [if_neg c9] at H
   have c9b0 : (a0_1 == a1_1) = false := beq_eq_false_iff_ne.mpr c9
   have c9b1 : (a0_1 != a1_1) = true := bne_iff_ne.mpr c9
   obtain rfl := Option.some.inj H
   go_enter Tryd.func39, Tryd.ntmps39
   go_wp2_with (first | ((with_reducible refine gate_dst (N := 2) rfl ?_); refine box_event ?hg (N := 2) ?hd (cs := #[.int .i64 a0_0, .int .i64 a0_1]) (t := 43) ?hr ?_; (case hd => rfl); (case hg => rfl); (case hr => first | (go_simp; done) | (go_simp; rfl)); intro gb122 hg w15 hbox hb; have BK122 := Aside0.mk (hbox); have GW122 := Aside0.mk ((by rw [hg]; exact (below_size bB_) : w.heap.size ≤ gb122)); have GE122 := Aside0.mk ((by rw [hg]; exact (below_size bB_) : w.heap.size ≤ gb122)); replace HB := Aside0.mk (below_step bB_ hb); clear hb hbox hg) | ((with_reducible refine gate_dst (N := 3) rfl ?_); refine box_event ?hg (N := 3) ?hd (cs := #[.int .i64 a1_0, .int .i64 a1_1]) (t := 43) ?hr ?_; (case hd => rfl); (case hg => rfl); (case hr => first | (go_simp; done) | (go_simp; rfl)); intro gb123 hg w16 hbox hb; have BK123 := Aside0.mk (hbox); have GW123 := Aside0.mk ((by rw [hg]; exact (below_size (by repeat (first | (with_reducible first | exact HB.out | apply below_alloc | apply pw_below_drewN | apply below_drew1 | refine below_set ?_ GE122.out) | exact HB.out))) : w.heap.size ≤ gb123)); have GE123 := Aside0.mk ((by rw [hg]; exact (below_size (by repeat (first | (with_reducible first | exact HB.out | apply below_alloc | apply pw_below_drewN | apply below_drew1 | refine below_set ?_ GE122.out) | exact HB.out))) : w.heap.size ≤ gb123)); replace HB := Aside0.mk (below_step (by repeat (first | (with_reducible first | exact HB.out | apply below_alloc | apply pw_below_drewN | apply below_drew1 | refine below_set ?_ GE122.out) | exact HB.out)) hb); have NB122_123 := Aside0.mk ((by rw [hg]; exact Nat.ne_of_lt (blk_lt (g := gb122) (o := .cells #[.int .i64 a0_0, .int .i64 a0_1] 43 (0, 0)) (by (with_reducible repeat (first | refine blk_drewN ?_ _ | refine blk_drew ?_ | refine blk_alloc ?_ _)); exact BK122.out)) : gb122 ≠ gb123)); have NB123_122 := Aside0.mk ((by rw [hg]; exact Nat.ne_of_gt (blk_lt (g := gb122) (o := .cells #[.int .i64 a0_0, .int .i64 a0_1] 43 (0, 0)) (by (with_reducible repeat (first | refine blk_drewN ?_ _ | refine blk_drew ?_ | refine blk_alloc ?_ _)); exact BK122.out)) : gb123 ≠ gb122)); replace BK122 := Aside0.mk (blk_below (g := gb122) (o := .cells #[.int .i64 a0_0, .int .i64 a0_1] 43 (0, 0)) (by (with_reducible repeat (first | refine blk_drewN ?_ _ | refine blk_drew ?_ | refine blk_alloc ?_ _)); exact BK122.out) hb); clear hb hbox hg; have hnb17 := NB122_123.out; have hnc17 := NB123_122.out; have hcz18_0 : w16.cell? ⟨gb122, 0, none⟩ = some (.int .i64 a0_0) := (blk_cell BK122.out 0).trans rfl; have hcz18_1 : w16.cell? ⟨gb122, 1, none⟩ = some (.int .i64 a0_1) := (blk_cell BK122.out 1).trans rfl; have hfz18_0 := blk_frozen BK122.out 0; have hfz18_1 := blk_frozen BK122.out 1; have hcz19_0 : w16.cell? ⟨gb123, 0, none⟩ = some (.int .i64 a1_0) := (blk_cell BK123.out 0).trans rfl; have hcz19_1 : w16.cell? ⟨gb123, 1, none⟩ = some (.int .i64 a1_1) := (blk_cell BK123.out 1).trans rfl; have hfz19_0 := blk_frozen BK123.out 0; have hfz19_1 := blk_frozen BK123.out 1))
   go_ret
   exact ⟨r2_, by repeat (first | (with_reducible first | exact HB.out | apply below_alloc | apply pw_below_drewN | apply below_drew1 | refine below_set ?_ GE122.out | refine below_set ?_ GE123.out) | exact HB.out)⟩

/-! ### spec_l02Insert: function 34 -/
def spec_l02Insert.l0 : Nat → List (S43) → List (S43) → Bool → Int → Int → Int → Option ((List (S43)))
 | 0, _, _, _, _, _, _ => none
 | k + 1, x0, x5, x6, x7, x125000, x125001 => if x7 < (x0.length : Int) then (if x6 = true then (if 0 ≤ x7 then (if x5.length < 8796093022208 then (spec_l02Insert.l0 k x0 (x5 ++ [(⟨(rd_T43 x0 x7).f0, (rd_T43 x0 x7).f1⟩ : S43)]) x6 (wrap64 (x7 + 1)) x125000 x125001) else (none)) else (none)) else (if 0 ≤ x7 then ((spec_l02Less.f x125000 x125001 ((rd_T43 x0 x7).f0) ((rd_T43 x0 x7).f1)).bind fun t133 => (if t133 = true then (if x5.length < 8796093022208 then ((some (x5 ++ [(⟨x125000, x125001⟩ : S43)] : List (S43))).bind fun y134 => (if y134.length < 8796093022208 then (spec_l02Insert.l0 k x0 (y134 ++ [(⟨(rd_T43 x0 x7).f0, (rd_T43 x0 x7).f1⟩ : S43)]) true (wrap64 (x7 + 1)) x125000 x125001) else (none))) else (none)) else (if x5.length < 8796093022208 then (spec_l02Insert.l0 k x0 (x5 ++ [(⟨(rd_T43 x0 x7).f0, (rd_T43 x0 x7).f1⟩ : S43)]) x6 (wrap64 (x7 + 1)) x125000 x125001) else (none)))) else (none))) else (if x6 = true then (some x5) else (if x5.length < 8796093022208 then (some (x5 ++ [(⟨x125000, x125001⟩ : S43)])) else (none)))
def spec_l02Insert.f (k : Nat) (l0 : List (S43)) (a1_0 : Int) (a1_1 : Int) : Option ((List (S43))) := spec_l02Insert.l0 k l0 (([] : List (S43))) false 0 a1_0 a1_1
theorem spec_l02Insert.mono_l : ∀ k, (∀ y0 y1 y2 y3 y4 y5, LeO (spec_l02Insert.l0 k y0 y1 y2 y3 y4 y5) (spec_l02Insert.l0 (k + 1) y0 y1 y2 y3 y4 y5))
 | 0 => fun _ _ _ _ _ _ r h => by simp [spec_l02Insert.l0] at h
 | k + 1 => by
  have ih0 := spec_l02Insert.mono_l k
  ·intro y0 y1 y2 y3 y4 y5
   unfold spec_l02Insert.l0
   repeat' first
   | (with_reducible exact ih0 _ _ _ _ _ _)
   | (with_reducible exact LeO.refl _)
   | (with_reducible exact LeO.none _)
   | (with_reducible refine LeO.ite ?_ ?_)
   | (with_reducible refine LeO.bind ?_ (fun _ => ?_))
   | exact ih0 _ _ _ _ _ _
   | exact LeO.none _
   | refine LeO.ite ?_ ?_
   | refine LeO.bind ?_ (fun _ => ?_)
theorem spec_l02Insert.mono : ∀ a0 a1 a2 k, LeO (spec_l02Insert.f k a0 a1 a2) (spec_l02Insert.f (k + 1) a0 a1 a2) := by
 intro a0 a1 a2 k
 have ih0 := spec_l02Insert.mono_l k
 unfold spec_l02Insert.f
 repeat' first
   | (with_reducible exact ih0 _ _ _ _ _ _)
   | (with_reducible exact LeO.refl _)
   | (with_reducible exact LeO.none _)
   | (with_reducible refine LeO.ite ?_ ?_)
   | (with_reducible refine LeO.bind ?_ (fun _ => ?_))
   | exact ih0 _ _ _ _ _ _
   | exact LeO.none _
   | refine LeO.ite ?_ ?_
   | refine LeO.bind ?_ (fun _ => ?_)
def spec_l02Insert.T6 : Bool × List (List Nat × List Nat) := (true, [([], []), ([0], [0]), ([1], [1]), ([2], [2]), ([2], [2]), ([2], [2]), ([4, 5, 2], [2, 4, 5]), ([6, 2], [2, 6]), ([3, 7, 2, 2], [2, 3, 7]), ([2, 8], [2, 8])])
def spec_l02Insert.B6 : List Nat := [0, 1, 3, 7, 7, 7, 55, 119, 255, 511]
theorem spec_l02Insert.tab6 : rtab .any (opsOf Tryd.f34 6) = spec_l02Insert.T6 := by kernel_rfl
theorem spec_l02Insert.bits6 : waitsOk spec_l02Insert.T6.2 spec_l02Insert.B6 = true := by kernel_rfl
set_option maxHeartbeats 8000000 in
set_option maxRecDepth 100000 in
theorem spec_l02Insert.calls (k : Nat) (A0 : Option Addr) (c0 : Nat) (l0 : List (S43)) (a1_0 : Int) (a1_1 : Int) (r : List (S43)) (w : World) (hr0 : Kd.C k43 w A0 l0.length l0) (hc0 : l0.length ≤ c0) (h : spec_l02Insert.f k l0 a1_0 a1_1 = some r) :
  Calls Tryd.prog 34 #[.slice A0 l0.length c0, .agg #[.int .i64 a1_0, .int .i64 a1_1]] w fun e w' => ∃ v0_ : Value, e = .returned (v0_) ∧ Kd.R k43 43 w' w.heap.size (fun _ => True) v0_ r ∧ Below w.heap.size w w' := by
 have hu43 := Tryd.underlying43
 have HR0 := Aside0.mk hr0
 have HC0 := Aside0.mk hc0
 clear hr0 hc0
 have HB := Aside0.mk (Below.refl w.heap.size w)
 have H : (spec_l02Insert.l0 k l0 (([] : List (S43))) false 0 a1_0 a1_1) = some r := h
 clear h
 obtain ⟨y125, hY_⟩ : ∃ y_ : List (S43), y_ = (([] : List (S43))) := ⟨_, rfl⟩
 replace H : (spec_l02Insert.l0 k l0 y125 false 0 a1_0 a1_1) = some r := yY_
 have Ny125 := Aside0.mk hY_
 clear hY_
 have H' := Aside0.mk H
 clear H
 go_enter Tryd.func34, Tryd.ntmps34
 go_wp2_with (first | ((with_reducible refine gate_dst (N := 3) rfl ?_); refine box_event ?hg (N := 3) ?hd (cs := #[.int .i64 a1_0, .int .i64 a1_1]) (t := 43) ?hr ?_; (case hd => rfl); (case hg => rfl); (case hr => first | (go_simp; done) | (go_simp; rfl)); intro gb124 hg w3 hbox hb; have BK124 := Aside0.mk (hbox); have GW124 := Aside0.mk ((by rw [hg]; exact (below_size bB_) : w.heap.size ≤ gb124)); have GE124 := Aside0.mk ((by rw [hg]; exact (below_size bB_) : w.heap.size ≤ gb124)); replace HB := Aside0.mk (below_step bB_ hb); clear hb hbox hg) | ((with_reducible refine gate_dst (N := 8) rfl ?_); refine Kd.R_lit k43 _ 43 ?hg (N := 8) ?hd (xs := ([] : List (S43))) (inner := []) (ok := fun _ => True) (okp := fun _ => True) ?hr ?hp (fun _ hk => hk) trivial (Below.refl _ _) (Nat.le_refl _) (by simp) ?_; (case hd => rfl); (case hg => rfl); (case hr => first | (go_simp; done) | (go_simp; rfl)); (case hp => exact (Reps.none _ _)); intro v126 w4 ho5 hb hg_ hnew_; clear hg_ hnew_; (first | rw [← Ny125.out] at ho5 | (simp only [Int.reduceToNat] at ho5; rw [← Ny125.out] at ho5)); have HO127 := Aside0.mk (Kd.R_lower (Kd.R_newB ho5 (g := gb124) (o := .cells #[.int .i64 a1_0, .int .i64 a1_1] 43 (0, 0)) (by (with_reducible repeat (first | refine blk_drewN ?_ _ | refine blk_drew ?_ | refine blk_alloc ?_ _)); exact BK124.out)) (below_size (by repeat (first | (with_reducible first | exact HB.out | apply below_alloc | apply pw_below_drewN | apply below_drew1 | refine below_set ?_ GE124.out) | exact HB.out)))); replace BK124 := Aside0.mk (blk_below (g := gb124) (o := .cells #[.int .i64 a1_0, .int .i64 a1_1] 43 (0, 0)) (by (with_reducible repeat (first | refine blk_drewN ?_ _ | refine blk_drew ?_ | refine blk_alloc ?_ _)); exact BK124.out) hb); replace HB := Aside0.mk (below_step (by repeat (first | (with_reducible first | exact HB.out | apply below_alloc | apply pw_below_drewN | apply below_drew1 | refine below_set ?_ GE124.out) | exact HB.out)) hb); clear hb ho5))
 go_loopg [5, 6, 7] k (fun kq v5 v6 v7 w' => ∃ (x5_1 : List (S43)) (x6_1 : Bool) (x7_1 : Int), v6 = .bool x6_1 ∧ v7 = .int .i64 x7_1 ∧ Aside0 (spec_l02Insert.l0 kq l0 x5_1 x6_1 x7_1 a1_0 a1_1 = some r) ∧ Aside0 (kq ≤ k) ∧ Aside0 (Kd.R k43 43 w' w.heap.size (fun k_ => k_ ≠ gb124) v5 x5_1) ∧ Aside0 (w'.heap[gb124]? = some (.cells #[.int .i64 a1_0, .int .i64 a1_1] 43 (0, 0))) ∧ Aside0 (Below w.heap.size w w'))
 case atStart => exact ⟨(y125), (false), (0), r3_, r3_, H', ⟨Nat.le_refl _⟩, ⟨rS_ (Kd.R_mono HO127.out (fun _ hk => hk.2))⟩, ⟨by (with_reducible repeat (first | refine blk_drewN ?_ _ | refine blk_drew ?_ | refine blk_alloc ?_ _)); exact BK124.out⟩, ⟨by repeat (first | (with_reducible first | exact HB.out | apply below_alloc | apply pw_below_drewN | apply below_drew1 | refine below_set ?_ GE124.out) | exact HB.out)⟩⟩
 case round =>
  clear H'
  try clear p2
  try clear c3
  obtain ⟨x5_1, x6_1, x7_1, rfl, rfl, HA, HK1, HO_5, BK124, HB⟩ := hrel
  cases gk with
  | zero => exact absurd HA.out (by simp [spec_l02Insert.l0])
  | succ k1 =>
   have H := HA.out
   clear HA
   simp only [spec_l02Insert.l0] at H
   by_cases c6 : x7_1 < (l0.length : Int)
   ·rw [if_pos c6] at H
    have c6b0 : decide (x7_1 < (l0.length : Int)) = true := decide_eq_true c6
    clear c6
    by_cases c7 : x6_1 = true
    ·subst c7
     have H1 : (if 0 ≤ x7_1 then (if x5_1.length < 8796093022208 then (spec_l02Insert.l0 k1 l0 (x5_1 ++ [(⟨(rd_T43 l0 x7_1).f0, (rd_T43 l0 x7_1).f1⟩ : S43)]) true (wrap64 (x7_1 + 1)) a1_0 a1_1) else (none)) else (none)) = some r := by rw [if_pos rfl] at H; exact H
     clear H
     have H := H1
     clear H1
     by_cases c8 : 0 ≤ x7_1
     ·rw [if_pos c8] at H
      have c8b0 : decide (0 ≤ x7_1) = true := decide_eq_true c8
      clear c8
      by_cases c9 : x5_1.length < 8796093022208
      ·rw [if_pos c9] at H
       have LMc9 := Aside0.mk c9
       clear c9
       obtain ⟨y129, hY_⟩ : ∃ y_ : List (S43), y_ = (x5_1 ++ [(⟨(rd_T43 l0 x7_1).f0, (rd_T43 l0 x7_1).f1⟩ : S43)]) := ⟨_, rfl⟩
       replace H : (spec_l02Insert.l0 k1 l0 y129 true (wrap64 (x7_1 + 1)) a1_0 a1_1) = some r := yY_
       have Ny129 := Aside0.mk hY_
       clear hY_
       have H' := Aside0.mk H
       clear H
       try go_wp2
       replace HO_5 := Aside0.mk (Kd.R_drew HO_5.out)
       replace BK124 := Aside0.mk (blk_drew BK124.out)
       replace HB := Aside0.mk (below_drew1 HB.out)
       refine start_ (n := 10) (S := fun w' => True) (ds := []) #[F, F, F, F, F, F, F, F, F, F] (by kernel_rfl) rfl rfl trivial (fun hHeld => ?_); refine with_tabW spec_l02Insert.tab6 spec_l02Insert.bits6 (fun HT_ HW_ => ?_)
       generalize wr.drew = w10 at HO_5 BK124 HB hHeld ⊢
       refine pu_ HT_ 0 (some 15) #[T,F,F,F,F,F,F,F,F,F] ?_
       refine pu_ HT_ 1 (some 16) #[T,T,F,F,F,F,F,F,F,F] ?_
       refine pu_ HT_ 2 (some 17) #[T,T,T,F,F,F,F,F,F,F] ?_
       refine pn_ HT_ 3 (some 18) #[T,T,T,T,F,F,F,F,F,F] ?_
       refine pn_ HT_ 4 (some 19) #[T,T,T,T,T,F,F,F,F,F] ?_
       refine pn_ HT_ 5 (some 20) #[T,T,T,T,T,T,F,F,F,F] ?_
       refine pn_ HT_ 6 (some 21) #[T,T,T,T,T,T,T,F,F,F] ?_
       refine pn_ HT_ 7 (some 22) #[T,T,T,T,T,T,T,T,F,F] ?_
       refine pn_ HT_ 8 (some 23) #[T,T,T,T,T,T,T,T,T,F] ?_
       refine pu_ HT_ 9 (some 24) #[T,T,T,T,T,T,T,T,T,T] ?_
       refine done_ (done_of HT_.out (by kernel_rfl)) ?_
       have p128 : 0 ≤ (x7_1 : Int) := of_decide_eq_true aS_
       have q128 : x7_1 < (l0.length : Int) := of_decide_eq_true aS_
       obtain ⟨ad128, e128, hx128_0, hx128_1⟩ := at_T43 HR0.out x7_1 p128 q128
       cases e128
       replace hx128_0 := (HB.out.cell (World.block_lt_of_cell? w _ hx128_0)).trans hx128_0
       replace hx128_1 := (HB.out.cell (World.block_lt_of_cell? w _ hx128_1)).trans hx128_1
       replace p128 := eq_true p128
       replace q128 := eq_true q128
       try go_wp2_with (first | ((with_reducible refine gate_builtin (b := .append) (xs := #[.tmp 29, .tmp 34]) rfl ?_); at_builtin; refine Kd.R_append k43 (w0 := w) w.heap.size rfl (.tmp 29) (.tmp 34) 24 43 (.agg #[(.int .i64 0), (.int .i64 0)]) 16 rfl Tryd.underlying24 info43 rfl (by decide) (by omega) u5 x5_1 (⟨(rd_T43 l0 x7_1).f0, (rd_T43 l0 x7_1).f1⟩ : S43) [.int .i64 ((rd_T43 l0 x7_1).f0), .int .i64 ((rd_T43 l0 x7_1).f1)] (fun k_ => k_ ≠ gb124) (fun _ => False) rfl rfl ?aP (fun _ hk => hk.elim) ?aF ?aO ?aB ?aS ?aL ?_; (case aP => exact k43_mkM _ _ _ (⟨(rd_T43 l0 x7_1).f0, (rd_T43 l0 x7_1).f1⟩ : S43)); (case aB => exact (by repeat (first | (with_reducible first | exact HB.out | apply below_alloc | apply pw_below_drewN | apply below_drew1 | refine below_set ?_ GE124.out) | exact HB.out))); (case aF => exact (fun k_ hk => Kd.freshB (g := gb124) (o := .cells #[.int .i64 a1_0, .int .i64 a1_1] 43 (0, 0)) (by (with_reducible repeat (first | refine blk_drewN ?_ _ | refine blk_drew ?_ | refine blk_alloc ?_ _)); exact BK124.out) k_ hk)); (case aO => exact (rS_ HO_5.out)); (case aS => exact (below_size (by repeat (first | (with_reducible first | exact HB.out | apply below_alloc | apply pw_below_drewN | apply below_drew1 | refine below_set ?_ GE124.out) | exact HB.out)))); (case aL => have := LMc9.out; omega); intro v130 w11 ho hb hg hat; rw [← Ny129.out] at ho; replace BK124 := Aside0.mk (blk_grown (g := gb124) (o := .cells #[.int .i64 a1_0, .int .i64 a1_1] 43 (0, 0)) (by (with_reducible repeat (first | refine blk_drewN ?_ _ | refine blk_drew ?_ | refine blk_alloc ?_ _)); exact BK124.out) hg (Kd.R_away HO_5.out (fun _ hk => hk))); replace HB := Aside0.mk (hb); have HO131 := Aside0.mk (ho); clear HO_5; clear ho hb hg hat))
       go_roundg k1
       case measure => have := HK1.out; omega
       case rel => exact ⟨(y129), (true), (wrap64 (x7_1 + 1)), r3_, r3_, H', ⟨by have := HK1.out; omega⟩, ⟨rS_ HO131.out⟩, ⟨by (with_reducible repeat (first | refine blk_drewN ?_ _ | refine blk_drew ?_ | refine blk_alloc ?_ _)); exact BK124.out⟩, ⟨by repeat (first | (with_reducible first | exact HB.out | apply below_alloc | apply pw_below_drewN | apply below_drew1 | refine below_set ?_ GE124.out) | exact HB.out)⟩⟩
      ·rw [if_neg c9] at H
       exact absurd H (by simp)
     ·rw [if_neg c8] at H
      exact absurd H (by simp)
    ·replace c7 := Bool.eq_false_iff.mpr c7
     subst c7
     have H1 : (if 0 ≤ x7_1 then ((spec_l02Less.f a1_0 a1_1 ((rd_T43 l0 x7_1).f0) ((rd_T43 l0 x7_1).f1)).bind fun t133 => (if t133 = true then (if x5_1.length < 8796093022208 then ((some (x5_1 ++ [(⟨a1_0, a1_1⟩ : S43)] : List (S43))).bind fun y134 => (if y134.length < 8796093022208 then (spec_l02Insert.l0 k1 l0 (y134 ++ [(⟨(rd_T43 l0 x7_1).f0, (rd_T43 l0 x7_1).f1⟩ : S43)]) true (wrap64 (x7_1 + 1)) a1_0 a1_1) else (none))) else (none)) else (if x5_1.length < 8796093022208 then (spec_l02Insert.l0 k1 l0 (x5_1 ++ [(⟨(rd_T43 l0 x7_1).f0, (rd_T43 l0 x7_1).f1⟩ : S43)]) false (wrap64 (x7_1 + 1)) a1_0 a1_1) else (none)))) else (none)) = some r := by rw [if_neg (show ¬ (false = true) by decide)] at H; exact H
     clear H
     have H := H1
     clear H1
     by_cases c12 : 0 ≤ x7_1
     ·rw [if_pos c12] at H
      have c12b0 : decide (0 ≤ x7_1) = true := decide_eq_true c12
      clear c12
      replace H := Option.bind_eq_some_iff.mp H
      obtain ⟨t133, A130, H⟩ := H
      try dsimp only at H
      have A13 := Aside0.mk A130
      clear A130
      by_cases c14 : t133 = true
      ·subst c14
       have H1 : (if x5_1.length < 8796093022208 then ((some (x5_1 ++ [(⟨a1_0, a1_1⟩ : S43)] : List (S43))).bind fun y134 => (if y134.length < 8796093022208 then (spec_l02Insert.l0 k1 l0 (y134 ++ [(⟨(rd_T43 l0 x7_1).f0, (rd_T43 l0 x7_1).f1⟩ : S43)]) true (wrap64 (x7_1 + 1)) a1_0 a1_1) else (none))) else (none)) = some r := by rw [if_pos rfl] at H; exact H
       clear H
       have H := H1
       clear H1
       by_cases c15 : x5_1.length < 8796093022208
       ·rw [if_pos c15] at H
        have LMc15 := Aside0.mk c15
        clear c15
        obtain ⟨y134, hY_⟩ : ∃ y_ : List (S43), y_ = (x5_1 ++ [(⟨a1_0, a1_1⟩ : S43)]) := ⟨_, rfl⟩
        replace H : (if y134.length < 8796093022208 then (spec_l02Insert.l0 k1 l0 (y134 ++ [(⟨(rd_T43 l0 x7_1).f0, (rd_T43 l0 x7_1).f1⟩ : S43)]) true (wrap64 (x7_1 + 1)) a1_0 a1_1) else (none)) = some r := yY_
        have Ny134 := Aside0.mk hY_
        clear hY_
        by_cases c16 : y134.length < 8796093022208
        ·rw [if_pos c16] at H
         have LMc16 := Aside0.mk c16
         clear c16
         obtain ⟨y138, hY_⟩ : ∃ y_ : List (S43), y_ = (y134 ++ [(⟨(rd_T43 l0 x7_1).f0, (rd_T43 l0 x7_1).f1⟩ : S43)]) := ⟨_, rfl⟩
         replace H : (spec_l02Insert.l0 k1 l0 y138 true (wrap64 (x7_1 + 1)) a1_0 a1_1) = some r := yY_
         have Ny138 := Aside0.mk hY_
         clear hY_
         have H' := Aside0.mk H
         clear H
         try go_wp2
         replace HO_5 := Aside0.mk (Kd.R_drew HO_5.out)
         replace BK124 := Aside0.mk (blk_drew BK124.out)
         replace HB := Aside0.mk (below_drew1 HB.out)
         have p132 : 0 ≤ (x7_1 : Int) := of_decide_eq_true aS_
         have q132 : x7_1 < (l0.length : Int) := of_decide_eq_true aS_
         obtain ⟨ad132, e132, hx132_0, hx132_1⟩ := at_T43 HR0.out x7_1 p132 q132
         have hw132_1 := hx132_1
         have hw132_0 := hx132_0
         cases e132
         replace hx132_0 := (HB.out.cell (World.block_lt_of_cell? w _ hx132_0)).trans hx132_0
         replace hx132_1 := (HB.out.cell (World.block_lt_of_cell? w _ hx132_1)).trans hx132_1
         replace p132 := eq_true p132
         replace q132 := eq_true q132
         refine start_ (n := 10) (S := fun w' => w'.cell? ⟨gb124, 0, none⟩ = some (.int .i64 a1_0) ∧ w'.cell? ⟨gb124, 1, none⟩ = some (.int .i64 a1_1) ∧ w'.cell? (ad132.add ((x7_1).toNat * 2)) = some (.int .i64 ((rd_T43 l0 x7_1).f0)) ∧ w'.cell? ⟨(ad132.add ((x7_1).toNat * 2)).block, (ad132.add ((x7_1).toNat * 2)).off + 1, none⟩ = some (.int .i64 ((rd_T43 l0 x7_1).f1))) (ds := []) #[F, F, F, F, F, F, F, F, F, F] (by kernel_rfl) rfl rfl ⟨(blk_cell BK124.out 0).trans rfl, (blk_cell BK124.out 1).trans rfl, ((HB.out.cell (World.block_lt_of_cell? w _ hw132_0)).trans hw132_0), ((HB.out.cell (World.block_lt_of_cell? w _ hw132_1)).trans hw132_1)⟩ (fun hHeld => ?_); refine with_tabW spec_l02Insert.tab6 spec_l02Insert.bits6 (fun HT_ HW_ => ?_)
         generalize wr.drew = w17 at HO_5 BK124 HB hx132_0 hx132_1 hHeld ⊢
         refine pu_ HT_ 0 (some 15) #[T,F,F,F,F,F,F,F,F,F] ?_
         refine pu_ HT_ 1 (some 16) #[T,T,F,F,F,F,F,F,F,F] ?_
         refine pu_ HT_ 2 (some 17) #[T,T,T,F,F,F,F,F,F,F] ?_
         refine pu_ HT_ 4 (some 19) #[T,T,T,F,T,F,F,F,F,F] ?_
         refine pu_ HT_ 5 (some 20) #[T,T,T,F,T,T,F,F,F,F] ?_
         refine pu_ HT_ 6 (some 21) #[T,T,T,F,T,T,T,F,F,F] ?_
         refine take_ (i := 3) (N := some 18) (v := ?_) (a' := ?_) #[T, T, T, T, T, T, T, F, F, F] rfl rfl (take_ofW HT_.out HW_.out (by kernel_rfl)) (fun _ _ _ h => h) (Or.inl ⟨by rfl, ?_⟩) hHeld ?_ ?_
         rotate_left
         ·rintro w' ⟨s0, s1, s2, s3⟩
          go_simp
          with_reducible rfl
         rotate_left
         ·simp only [Act.put, List.setIfInBounds_toArray, List.set_cons_zero, List.set_cons_succ, i64_w, i32_w]
          rfl
         refine take_ (i := 7) (N := some 22) (v := ?_) (a' := ?_) #[T, T, T, T, T, T, T, T, F, F] rfl rfl (take_ofW HT_.out HW_.out (by kernel_rfl)) (fun _ _ _ h => h) (Or.inl ⟨by rfl, ?_⟩) hHeld ?_ ?_
         rotate_left
         ·rintro w' ⟨s0, s1, s2, s3⟩
          go_simp
          with_reducible rfl
         rotate_left
         ·simp only [Act.put, List.setIfInBounds_toArray, List.set_cons_zero, List.set_cons_succ, i64_w, i32_w]
          rfl
         refine one_ (i := 8) (N := some 23) #[T, T, T, T, T, T, T, T, T, F] rfl rfl (one_of HT_.out (by kernel_rfl)) (by decide) (fun K hK => ?_)
         refine goes_ Tryd.func39 (by kernel_rfl) rfl #[.agg #[.int .i64 a1_0, .int .i64 a1_1], .agg #[.int .i64 ((rd_T43 l0 x7_1).f0), .int .i64 ((rd_T43 l0 x7_1).f1)]] (by rfl) rfl rfl mA_ ?_
         with_reducible refine (spec_l02Less.calls a1_0 a1_1 ((rd_T43 l0 x7_1).f0) ((rd_T43 l0 x7_1).f1) true _ A13.out).mono ?_
         rintro e w18 ⟨rfl, hb⟩
         refine ⟨_, rfl, ?_⟩
         replace HO_5 := Aside0.mk (Kd.R_below (rS_ HO_5.out) hb)
         replace BK124 := Aside0.mk (blk_below (g := gb124) (o := .cells #[.int .i64 a1_0, .int .i64 a1_1] 43 (0, 0)) (by (with_reducible repeat (first | refine blk_drewN ?_ _ | refine blk_drew ?_ | refine blk_alloc ?_ _)); exact BK124.out) hb)
         replace HB := Aside0.mk (below_step (by repeat (first | (with_reducible first | exact HB.out | apply below_alloc | apply pw_below_drewN | apply below_drew1 | refine below_set ?_ GE124.out) | exact HB.out)) hb)
         (try clear hb)
         refine hK.out _ _ ⟨(blk_cell BK124.out 0).trans rfl, (blk_cell BK124.out 1).trans rfl, ((HB.out.cell (World.block_lt_of_cell? w _ hw132_0)).trans hw132_0), ((HB.out.cell (World.block_lt_of_cell? w _ hw132_1)).trans hw132_1)⟩ (fun hHeld => ?_)
         clear hK K
         refine no_ (some 23) ?_
         refine pu_ HT_ 9 (some 24) #[T,T,T,T,T,T,T,T,T,T] ?_
         refine done_ (done_of HT_.out (by kernel_rfl)) ?_
         have hcz19_0 : w18.cell? ⟨gb124, 0, none⟩ = some (.int .i64 a1_0) := (blk_cell BK124.out 0).trans rfl
         have hcz19_1 : w18.cell? ⟨gb124, 1, none⟩ = some (.int .i64 a1_1) := (blk_cell BK124.out 1).trans rfl
         have hfz19_0 := blk_frozen BK124.out 0
         have hfz19_1 := blk_frozen BK124.out 1
         try go_wp2_with (first | ((with_reducible refine gate_builtin (b := .append) (xs := #[.tmp 25, .tmp 27]) rfl ?_); at_builtin; refine Kd.R_append k43 (w0 := w) w.heap.size rfl (.tmp 25) (.tmp 27) 24 43 (.agg #[(.int .i64 0), (.int .i64 0)]) 16 rfl Tryd.underlying24 info43 rfl (by decide) (by omega) u5 x5_1 (⟨a1_0, a1_1⟩ : S43) [.int .i64 a1_0, .int .i64 a1_1] (fun k_ => k_ ≠ gb124) (fun _ => False) rfl rfl ?aP (fun _ hk => hk.elim) ?aF ?aO ?aB ?aS ?aL ?_; (case aP => exact k43_mkM _ _ _ (⟨a1_0, a1_1⟩ : S43)); (case aB => exact (by repeat (first | (with_reducible first | exact HB.out | apply below_alloc | apply pw_below_drewN | apply below_drew1 | refine below_set ?_ GE124.out) | exact HB.out))); (case aF => exact (fun k_ hk => Kd.freshB (g := gb124) (o := .cells #[.int .i64 a1_0, .int .i64 a1_1] 43 (0, 0)) (by (with_reducible repeat (first | refine blk_drewN ?_ _ | refine blk_drew ?_ | refine blk_alloc ?_ _)); exact BK124.out) k_ hk)); (case aO => exact (rS_ HO_5.out)); (case aS => exact (below_size (by repeat (first | (with_reducible first | exact HB.out | apply below_alloc | apply pw_below_drewN | apply below_drew1 | refine below_set ?_ GE124.out) | exact HB.out)))); (case aL => have := LMc15.out; omega); intro v135 w20 ho hb hg hat; rw [← Ny134.out] at ho; replace BK124 := Aside0.mk (blk_grown (g := gb124) (o := .cells #[.int .i64 a1_0, .int .i64 a1_1] 43 (0, 0)) (by (with_reducible repeat (first | refine blk_drewN ?_ _ | refine blk_drew ?_ | refine blk_alloc ?_ _)); exact BK124.out) hg (Kd.R_away HO_5.out (fun _ hk => hk))); replace HB := Aside0.mk (hb); have HO136 := Aside0.mk (ho); clear HO_5; clear ho hb hg hat; have p137 : 0 ≤ (x7_1 : Int) := of_decide_eq_true aS_; have q137 : x7_1 < (l0.length : Int) := of_decide_eq_true aS_; obtain ⟨ad137, e137, hx137_0, hx137_1⟩ := at_T43 HR0.out x7_1 p137 q137; obtain rfl : ad132 = ad137 := (by injection e137); replace hx137_0 := (HB.out.cell (World.block_lt_of_cell? w _ hx137_0)).trans hx137_0; replace hx137_1 := (HB.out.cell (World.block_lt_of_cell? w _ hx137_1)).trans hx137_1; replace p137 := eq_true p137; replace q137 := eq_true q137) | ((with_reducible refine gate_builtin (b := .append) (xs := #[.tmp 29, .tmp 34]) rfl ?_); at_builtin; refine Kd.R_append k43 (w0 := w) w.heap.size rfl (.tmp 29) (.tmp 34) 24 43 (.agg #[(.int .i64 0), (.int .i64 0)]) 16 rfl Tryd.underlying24 info43 rfl (by decide) (by omega) v135 y134 (⟨(rd_T43 l0 x7_1).f0, (rd_T43 l0 x7_1).f1⟩ : S43) [.int .i64 ((rd_T43 l0 x7_1).f0), .int .i64 ((rd_T43 l0 x7_1).f1)] (fun k_ => k_ ≠ gb124) (fun _ => False) rfl rfl ?aP (fun _ hk => hk.elim) ?aF ?aO ?aB ?aS ?aL ?_; (case aP => exact k43_mkM _ _ _ (⟨(rd_T43 l0 x7_1).f0, (rd_T43 l0 x7_1).f1⟩ : S43)); (case aB => exact (by repeat (first | (with_reducible first | exact HB.out | apply below_alloc | apply pw_below_drewN | apply below_drew1 | refine below_set ?_ GE124.out) | exact HB.out))); (case aF => exact (fun k_ hk => Kd.freshB (g := gb124) (o := .cells #[.int .i64 a1_0, .int .i64 a1_1] 43 (0, 0)) (by (with_reducible repeat (first | refine blk_drewN ?_ _ | refine blk_drew ?_ | refine blk_alloc ?_ _)); exact BK124.out) k_ hk)); (case aO => exact (rS_ HO136.out)); (case aS => exact (below_size (by repeat (first | (with_reducible first | exact HB.out | apply below_alloc | apply pw_below_drewN | apply below_drew1 | refine below_set ?_ GE124.out) | exact HB.out)))); (case aL => have := LMc16.out; omega); intro v139 w21 ho hb hg hat; rw [← Ny138.out] at ho; replace BK124 := Aside0.mk (blk_grown (g := gb124) (o := .cells #[.int .i64 a1_0, .int .i64 a1_1] 43 (0, 0)) (by (with_reducible repeat (first | refine blk_drewN ?_ _ | refine blk_drew ?_ | refine blk_alloc ?_ _)); exact BK124.out) hg (Kd.R_away HO136.out (fun _ hk => hk))); replace HB := Aside0.mk (hb); have HO140 := Aside0.mk (ho); clear HO136; clear ho hb hg hat))
         go_roundg k1
         case measure => have := HK1.out; omega
         case rel => exact ⟨(y138), (true), (wrap64 (x7_1 + 1)), r3_, r3_, H', ⟨by have := HK1.out; omega⟩, ⟨rS_ HO140.out⟩, ⟨by (with_reducible repeat (first | refine blk_drewN ?_ _ | refine blk_drew ?_ | refine blk_alloc ?_ _)); exact BK124.out⟩, ⟨by repeat (first | (with_reducible first | exact HB.out | apply below_alloc | apply pw_below_drewN | apply below_drew1 | refine below_set ?_ GE124.out) | exact HB.out)⟩⟩
        ·rw [if_neg c16] at H
         exact absurd H (by simp)
       ·rw [if_neg c15] at H
        exact absurd H (by simp)
      ·replace c14 := Bool.eq_false_iff.mpr c14
       subst c14
       have H1 : (if x5_1.length < 8796093022208 then (spec_l02Insert.l0 k1 l0 (x5_1 ++ [(⟨(rd_T43 l0 x7_1).f0, (rd_T43 l0 x7_1).f1⟩ : S43)]) false (wrap64 (x7_1 + 1)) a1_0 a1_1) else (none)) = some r := by rw [if_neg (show ¬ (false = true) by decide)] at H; exact H
       clear H
       have H := H1
       clear H1
       by_cases c22 : x5_1.length < 8796093022208
       ·rw [if_pos c22] at H
        have LMc22 := Aside0.mk c22
        clear c22
        obtain ⟨y142, hY_⟩ : ∃ y_ : List (S43), y_ = (x5_1 ++ [(⟨(rd_T43 l0 x7_1).f0, (rd_T43 l0 x7_1).f1⟩ : S43)]) := ⟨_, rfl⟩
        replace H : (spec_l02Insert.l0 k1 l0 y142 false (wrap64 (x7_1 + 1)) a1_0 a1_1) = some r := yY_
        have Ny142 := Aside0.mk hY_
        clear hY_
        have H' := Aside0.mk H
        clear H
        try go_wp2
        replace HO_5 := Aside0.mk (Kd.R_drew HO_5.out)
        replace BK124 := Aside0.mk (blk_drew BK124.out)
        replace HB := Aside0.mk (below_drew1 HB.out)
        have p132 : 0 ≤ (x7_1 : Int) := of_decide_eq_true aS_
        have q132 : x7_1 < (l0.length : Int) := of_decide_eq_true aS_
        obtain ⟨ad132, e132, hx132_0, hx132_1⟩ := at_T43 HR0.out x7_1 p132 q132
        have hw132_1 := hx132_1
        have hw132_0 := hx132_0
        cases e132
        replace hx132_0 := (HB.out.cell (World.block_lt_of_cell? w _ hx132_0)).trans hx132_0
        replace hx132_1 := (HB.out.cell (World.block_lt_of_cell? w _ hx132_1)).trans hx132_1
        replace p132 := eq_true p132
        replace q132 := eq_true q132
        refine start_ (n := 10) (S := fun w' => w'.cell? ⟨gb124, 0, none⟩ = some (.int .i64 a1_0) ∧ w'.cell? ⟨gb124, 1, none⟩ = some (.int .i64 a1_1) ∧ w'.cell? (ad132.add ((x7_1).toNat * 2)) = some (.int .i64 ((rd_T43 l0 x7_1).f0)) ∧ w'.cell? ⟨(ad132.add ((x7_1).toNat * 2)).block, (ad132.add ((x7_1).toNat * 2)).off + 1, none⟩ = some (.int .i64 ((rd_T43 l0 x7_1).f1))) (ds := []) #[F, F, F, F, F, F, F, F, F, F] (by kernel_rfl) rfl rfl ⟨(blk_cell BK124.out 0).trans rfl, (blk_cell BK124.out 1).trans rfl, ((HB.out.cell (World.block_lt_of_cell? w _ hw132_0)).trans hw132_0), ((HB.out.cell (World.block_lt_of_cell? w _ hw132_1)).trans hw132_1)⟩ (fun hHeld => ?_); refine with_tabW spec_l02Insert.tab6 spec_l02Insert.bits6 (fun HT_ HW_ => ?_)
        generalize wr.drew = w23 at HO_5 BK124 HB hx132_0 hx132_1 hHeld ⊢
        refine pu_ HT_ 0 (some 15) #[T,F,F,F,F,F,F,F,F,F] ?_
        refine pu_ HT_ 1 (some 16) #[T,T,F,F,F,F,F,F,F,F] ?_
        refine pu_ HT_ 2 (some 17) #[T,T,T,F,F,F,F,F,F,F] ?_
        refine pu_ HT_ 4 (some 19) #[T,T,T,F,T,F,F,F,F,F] ?_
        refine pu_ HT_ 5 (some 20) #[T,T,T,F,T,T,F,F,F,F] ?_
        refine pu_ HT_ 6 (some 21) #[T,T,T,F,T,T,T,F,F,F] ?_
        refine take_ (i := 3) (N := some 18) (v := ?_) (a' := ?_) #[T, T, T, T, T, T, T, F, F, F] rfl rfl (take_ofW HT_.out HW_.out (by kernel_rfl)) (fun _ _ _ h => h) (Or.inl ⟨by rfl, ?_⟩) hHeld ?_ ?_
        rotate_left
        ·rintro w' ⟨s0, s1, s2, s3⟩
         go_simp
         with_reducible rfl
        rotate_left
        ·simp only [Act.put, List.setIfInBounds_toArray, List.set_cons_zero, List.set_cons_succ, i64_w, i32_w]
         rfl
        refine take_ (i := 7) (N := some 22) (v := ?_) (a' := ?_) #[T, T, T, T, T, T, T, T, F, F] rfl rfl (take_ofW HT_.out HW_.out (by kernel_rfl)) (fun _ _ _ h => h) (Or.inl ⟨by rfl, ?_⟩) hHeld ?_ ?_
        rotate_left
        ·rintro w' ⟨s0, s1, s2, s3⟩
         go_simp
         with_reducible rfl
        rotate_left
        ·simp only [Act.put, List.setIfInBounds_toArray, List.set_cons_zero, List.set_cons_succ, i64_w, i32_w]
         rfl
        refine one_ (i := 8) (N := some 23) #[T, T, T, T, T, T, T, T, T, F] rfl rfl (one_of HT_.out (by kernel_rfl)) (by decide) (fun K hK => ?_)
        refine goes_ Tryd.func39 (by kernel_rfl) rfl #[.agg #[.int .i64 a1_0, .int .i64 a1_1], .agg #[.int .i64 ((rd_T43 l0 x7_1).f0), .int .i64 ((rd_T43 l0 x7_1).f1)]] (by rfl) rfl rfl mA_ ?_
        with_reducible refine (spec_l02Less.calls a1_0 a1_1 ((rd_T43 l0 x7_1).f0) ((rd_T43 l0 x7_1).f1) false _ A13.out).mono ?_
        rintro e w24 ⟨rfl, hb⟩
        refine ⟨_, rfl, ?_⟩
        replace HO_5 := Aside0.mk (Kd.R_below (rS_ HO_5.out) hb)
        replace BK124 := Aside0.mk (blk_below (g := gb124) (o := .cells #[.int .i64 a1_0, .int .i64 a1_1] 43 (0, 0)) (by (with_reducible repeat (first | refine blk_drewN ?_ _ | refine blk_drew ?_ | refine blk_alloc ?_ _)); exact BK124.out) hb)
        replace HB := Aside0.mk (below_step (by repeat (first | (with_reducible first | exact HB.out | apply below_alloc | apply pw_below_drewN | apply below_drew1 | refine below_set ?_ GE124.out) | exact HB.out)) hb)
        (try clear hb)
        refine hK.out _ _ ⟨(blk_cell BK124.out 0).trans rfl, (blk_cell BK124.out 1).trans rfl, ((HB.out.cell (World.block_lt_of_cell? w _ hw132_0)).trans hw132_0), ((HB.out.cell (World.block_lt_of_cell? w _ hw132_1)).trans hw132_1)⟩ (fun hHeld => ?_)
        clear hK K
        refine no_ (some 23) ?_
        refine pu_ HT_ 9 (some 24) #[T,T,T,T,T,T,T,T,T,T] ?_
        refine done_ (done_of HT_.out (by kernel_rfl)) ?_
        have p141 : 0 ≤ (x7_1 : Int) := of_decide_eq_true aS_
        have q141 : x7_1 < (l0.length : Int) := of_decide_eq_true aS_
        obtain ⟨ad141, e141, hx141_0, hx141_1⟩ := at_T43 HR0.out x7_1 p141 q141
        obtain rfl : ad132 = ad141 := (by injection e141)
        replace hx141_0 := (HB.out.cell (World.block_lt_of_cell? w _ hx141_0)).trans hx141_0
        replace hx141_1 := (HB.out.cell (World.block_lt_of_cell? w _ hx141_1)).trans hx141_1
        replace p141 := eq_true p141
        replace q141 := eq_true q141
        try go_wp2_with (first | ((with_reducible refine gate_builtin (b := .append) (xs := #[.tmp 29, .tmp 34]) rfl ?_); at_builtin; refine Kd.R_append k43 (w0 := w) w.heap.size rfl (.tmp 29) (.tmp 34) 24 43 (.agg #[(.int .i64 0), (.int .i64 0)]) 16 rfl Tryd.underlying24 info43 rfl (by decide) (by omega) u5 x5_1 (⟨(rd_T43 l0 x7_1).f0, (rd_T43 l0 x7_1).f1⟩ : S43) [.int .i64 ((rd_T43 l0 x7_1).f0), .int .i64 ((rd_T43 l0 x7_1).f1)] (fun k_ => k_ ≠ gb124) (fun _ => False) rfl rfl ?aP (fun _ hk => hk.elim) ?aF ?aO ?aB ?aS ?aL ?_; (case aP => exact k43_mkM _ _ _ (⟨(rd_T43 l0 x7_1).f0, (rd_T43 l0 x7_1).f1⟩ : S43)); (case aB => exact (by repeat (first | (with_reducible first | exact HB.out | apply below_alloc | apply pw_below_drewN | apply below_drew1 | refine below_set ?_ GE124.out) | exact HB.out))); (case aF => exact (fun k_ hk => Kd.freshB (g := gb124) (o := .cells #[.int .i64 a1_0, .int .i64 a1_1] 43 (0, 0)) (by (with_reducible repeat (first | refine blk_drewN ?_ _ | refine blk_drew ?_ | refine blk_alloc ?_ _)); exact BK124.out) k_ hk)); (case aO => exact (rS_ HO_5.out)); (case aS => exact (below_size (by repeat (first | (with_reducible first | exact HB.out | apply below_alloc | apply pw_below_drewN | apply below_drew1 | refine below_set ?_ GE124.out) | exact HB.out)))); (case aL => have := LMc22.out; omega); intro v143 w25 ho hb hg hat; rw [← Ny142.out] at ho; replace BK124 := Aside0.mk (blk_grown (g := gb124) (o := .cells #[.int .i64 a1_0, .int .i64 a1_1] 43 (0, 0)) (by (with_reducible repeat (first | refine blk_drewN ?_ _ | refine blk_drew ?_ | refine blk_alloc ?_ _)); exact BK124.out) hg (Kd.R_away HO_5.out (fun _ hk => hk))); replace HB := Aside0.mk (hb); have HO144 := Aside0.mk (ho); clear HO_5; clear ho hb hg hat))
        go_roundg k1
        case measure => have := HK1.out; omega
        case rel => exact ⟨(y142), (false), (wrap64 (x7_1 + 1)), r3_, r3_, H', ⟨by have := HK1.out; omega⟩, ⟨rS_ HO144.out⟩, ⟨by (with_reducible repeat (first | refine blk_drewN ?_ _ | refine blk_drew ?_ | refine blk_alloc ?_ _)); exact BK124.out⟩, ⟨by repeat (first | (with_reducible first | exact HB.out | apply below_alloc | apply pw_below_drewN | apply below_drew1 | refine below_set ?_ GE124.out) | exact HB.out)⟩⟩
       ·rw [if_neg c22] at H
        exact absurd H (by simp)
     ·rw [if_neg c12] at H
      exact absurd H (by simp)
   ·rw [if_neg c6] at H
    have c6b0 : decide (x7_1 < (l0.length : Int)) = false := decide_eq_false c6
    clear c6
    by_cases c26 : x6_1 = true
    ·subst c26
     have H1 : (some x5_1) = some r := by rw [if_pos rfl] at H; exact H
     clear H
     have H := H1
     clear H1
     obtain rfl := Option.some.inj H
     go_wp2
     go_ret
     exact ⟨_, r2_, rS_ (Kd.R_mono HO_5.out (fun _ hk => trivial)), by repeat (first | (with_reducible first | exact HB.out | apply below_alloc | apply pw_below_drewN | apply below_drew1 | refine below_set ?_ GE124.out) | exact HB.out)⟩
    ·replace c26 := Bool.eq_false_iff.mpr c26
     subst c26
     have H1 : (if x5_1.length < 8796093022208 then (some (x5_1 ++ [(⟨a1_0, a1_1⟩ : S43)])) else (none)) = some r := by rw [if_neg (show ¬ (false = true) by decide)] at H; exact H
     clear H
     have H := H1
     clear H1
     by_cases c27 : x5_1.length < 8796093022208
     ·rw [if_pos c27] at H
      have LMc27 := Aside0.mk c27
      clear c27
      obtain ⟨y145, hY_⟩ : ∃ y_ : List (S43), y_ = (x5_1 ++ [(⟨a1_0, a1_1⟩ : S43)]) := ⟨_, rfl⟩
      replace H : (some y145) = some r := yY_
      have Ny145 := Aside0.mk hY_
      clear hY_
      obtain rfl := Option.some.inj H
      have hcz28_0 : wr.cell? ⟨gb124, 0, none⟩ = some (.int .i64 a1_0) := (blk_cell BK124.out 0).trans rfl
      have hcz28_1 : wr.cell? ⟨gb124, 1, none⟩ = some (.int .i64 a1_1) := (blk_cell BK124.out 1).trans rfl
      have hfz28_0 := blk_frozen BK124.out 0
      have hfz28_1 := blk_frozen BK124.out 1
      go_wp2_with (first | ((with_reducible refine gate_builtin (b := .append) (xs := #[.tmp 38, .tmp 40]) rfl ?_); at_builtin; refine Kd.R_append k43 (w0 := w) w.heap.size rfl (.tmp 38) (.tmp 40) 24 43 (.agg #[(.int .i64 0), (.int .i64 0)]) 16 rfl Tryd.underlying24 info43 rfl (by decide) (by omega) u5 x5_1 (⟨a1_0, a1_1⟩ : S43) [.int .i64 a1_0, .int .i64 a1_1] (fun k_ => k_ ≠ gb124) (fun _ => False) rfl rfl ?aP (fun _ hk => hk.elim) ?aF ?aO ?aB ?aS ?aL ?_; (case aP => exact k43_mkM _ _ _ (⟨a1_0, a1_1⟩ : S43)); (case aB => exact (by repeat (first | (with_reducible first | exact HB.out | apply below_alloc | apply pw_below_drewN | apply below_drew1 | refine below_set ?_ GE124.out) | exact HB.out))); (case aF => exact (fun k_ hk => Kd.freshB (g := gb124) (o := .cells #[.int .i64 a1_0, .int .i64 a1_1] 43 (0, 0)) (by (with_reducible repeat (first | refine blk_drewN ?_ _ | refine blk_drew ?_ | refine blk_alloc ?_ _)); exact BK124.out) k_ hk)); (case aO => exact (rS_ HO_5.out)); (case aS => exact (below_size (by repeat (first | (with_reducible first | exact HB.out | apply below_alloc | apply pw_below_drewN | apply below_drew1 | refine below_set ?_ GE124.out) | exact HB.out)))); (case aL => have := LMc27.out; omega); intro v146 w29 ho hb hg hat; rw [← Ny145.out] at ho; replace BK124 := Aside0.mk (blk_grown (g := gb124) (o := .cells #[.int .i64 a1_0, .int .i64 a1_1] 43 (0, 0)) (by (with_reducible repeat (first | refine blk_drewN ?_ _ | refine blk_drew ?_ | refine blk_alloc ?_ _)); exact BK124.out) hg (Kd.R_away HO_5.out (fun _ hk => hk))); replace HB := Aside0.mk (hb); have HO147 := Aside0.mk (ho); clear HO_5; clear ho hb hg hat))
      go_ret
      exact ⟨_, r2_, rS_ (Kd.R_mono HO147.out (fun _ hk => trivial)), by repeat (first | (with_reducible first | exact HB.out | apply below_alloc | apply pw_below_drewN | apply below_drew1 | refine below_set ?_ GE124.out) | exact HB.out)⟩
     ·rw [if_neg c27] at H
      exact absurd H (by simp)

/-! ### spec_l02Around: function 52 -/
def spec_l02Around.f (a0_0 : Int) (a0_1 : Int) : Option ((List (S43))) := some (([(⟨a0_0, wrap64 (a0_1 - 1)⟩ : S43), (⟨wrap64 (a0_0 - 1), a0_1⟩ : S43), (⟨wrap64 (a0_0 + 1), a0_1⟩ : S43), (⟨a0_0, wrap64 (a0_1 + 1)⟩ : S43)] : List (S43)))
set_option maxHeartbeats 8000000 in
set_option maxRecDepth 100000 in
theorem spec_l02Around.calls (a0_0 : Int) (a0_1 : Int) (r : List (S43)) (w : World) (h : spec_l02Around.f a0_0 a0_1 = some r) :
  Calls Tryd.prog 52 #[.agg #[.int .i64 a0_0, .int .i64 a0_1]] w fun e w' => ∃ v0_ : Value, e = .returned (v0_) ∧ Kd.R k43 43 w' w.heap.size (fun _ => True) v0_ r ∧ Below w.heap.size w w' := by
 have hu43 := Tryd.underlying43
 have HB := Aside0.mk (Below.refl w.heap.size w)
 have H : (some (([(⟨a0_0, wrap64 (a0_1 - 1)⟩ : S43), (⟨wrap64 (a0_0 - 1), a0_1⟩ : S43), (⟨wrap64 (a0_0 + 1), a0_1⟩ : S43), (⟨a0_0, wrap64 (a0_1 + 1)⟩ : S43)] : List (S43)))) = some r := h
 clear h
 obtain ⟨y149, hY_⟩ : ∃ y_ : List (S43), y_ = (([(⟨a0_0, wrap64 (a0_1 - 1)⟩ : S43), (⟨wrap64 (a0_0 - 1), a0_1⟩ : S43), (⟨wrap64 (a0_0 + 1), a0_1⟩ : S43), (⟨a0_0, wrap64 (a0_1 + 1)⟩ : S43)] : List (S43))) := ⟨_, rfl⟩
 replace H : (some y149) = some r := yY_
 have Ny149 := Aside0.mk hY_
 clear hY_
 obtain rfl := Option.some.inj H
 go_enter Tryd.func52, Tryd.ntmps52
 go_wp2_with (first | ((with_reducible refine gate_dst (N := 1) rfl ?_); refine box_event ?hg (N := 1) ?hd (cs := #[.int .i64 a0_0, .int .i64 a0_1]) (t := 43) ?hr ?_; (case hd => rfl); (case hg => rfl); (case hr => first | (go_simp; done) | (go_simp; rfl)); intro gb148 hg w2 hbox hb; have BK148 := Aside0.mk (hbox); have GW148 := Aside0.mk ((by rw [hg]; exact (below_size bB_) : w.heap.size ≤ gb148)); have GE148 := Aside0.mk ((by rw [hg]; exact (below_size bB_) : w.heap.size ≤ gb148)); replace HB := Aside0.mk (below_step bB_ hb); clear hb hbox hg; have hcz3_0 : w2.cell? ⟨gb148, 0, none⟩ = some (.int .i64 a0_0) := (blk_cell BK148.out 0).trans rfl; have hcz3_1 : w2.cell? ⟨gb148, 1, none⟩ = some (.int .i64 a0_1) := (blk_cell BK148.out 1).trans rfl; have hfz3_0 := blk_frozen BK148.out 0; have hfz3_1 := blk_frozen BK148.out 1) | ((with_reducible refine gate_dst (N := 27) rfl ?_); refine Kd.R_lit k43 _ 43 ?hg (N := 27) ?hd (xs := ([(⟨a0_0, wrap64 (a0_1 - 1)⟩ : S43), (⟨wrap64 (a0_0 - 1), a0_1⟩ : S43), (⟨wrap64 (a0_0 + 1), a0_1⟩ : S43), (⟨a0_0, wrap64 (a0_1 + 1)⟩ : S43)] : List (S43))) (inner := [.int .i64 a0_0, .int .i64 (wrap64 (a0_1 - 1)), .int .i64 (wrap64 (a0_0 - 1)), .int .i64 a0_1, .int .i64 (wrap64 (a0_0 + 1)), .int .i64 a0_1, .int .i64 a0_0, .int .i64 (wrap64 (a0_1 + 1))]) (ok := fun _ => True) (okp := fun _ => True) ?hr ?hp (fun _ hk => hk) trivial (Below.refl _ _) (Nat.le_refl _) (by simp) ?_; (case hd => rfl); (case hg => rfl); (case hr => first | (go_simp; done) | (go_simp; rfl)); (case hp => exact (Reps.c2 (show Kd.M k43 _ _ _ (⟨a0_0, wrap64 (a0_1 - 1)⟩ : S43) [.int .i64 a0_0, .int .i64 (wrap64 (a0_1 - 1))] from (k43_mkM _ _ _ (⟨a0_0, wrap64 (a0_1 - 1)⟩ : S43) )) (Reps.c2 (show Kd.M k43 _ _ _ (⟨wrap64 (a0_0 - 1), a0_1⟩ : S43) [.int .i64 (wrap64 (a0_0 - 1)), .int .i64 a0_1] from (k43_mkM _ _ _ (⟨wrap64 (a0_0 - 1), a0_1⟩ : S43) )) (Reps.c2 (show Kd.M k43 _ _ _ (⟨wrap64 (a0_0 + 1), a0_1⟩ : S43) [.int .i64 (wrap64 (a0_0 + 1)), .int .i64 a0_1] from (k43_mkM _ _ _ (⟨wrap64 (a0_0 + 1), a0_1⟩ : S43) )) (Reps.c2 (show Kd.M k43 _ _ _ (⟨a0_0, wrap64 (a0_1 + 1)⟩ : S43) [.int .i64 a0_0, .int .i64 (wrap64 (a0_1 + 1))] from (k43_mkM _ _ _ (⟨a0_0, wrap64 (a0_1 + 1)⟩ : S43) )) (Reps.none _ _)))))); intro v150 w4 ho5 hb hg_ hnew_; clear hg_ hnew_; (first | rw [← Ny149.out] at ho5 | (simp only [Int.reduceToNat] at ho5; rw [← Ny149.out] at ho5)); have HO151 := Aside0.mk (Kd.R_lower (Kd.R_newB ho5 (g := gb148) (o := .cells #[.int .i64 a0_0, .int .i64 a0_1] 43 (0, 0)) (by (with_reducible repeat (first | refine blk_drewN ?_ _ | refine blk_drew ?_ | refine blk_alloc ?_ _)); exact BK148.out)) (below_size (by repeat (first | (with_reducible first | exact HB.out | apply below_alloc | apply pw_below_drewN | apply below_drew1 | refine below_set ?_ GE148.out) | exact HB.out)))); replace BK148 := Aside0.mk (blk_below (g := gb148) (o := .cells #[.int .i64 a0_0, .int .i64 a0_1] 43 (0, 0)) (by (with_reducible repeat (first | refine blk_drewN ?_ _ | refine blk_drew ?_ | refine blk_alloc ?_ _)); exact BK148.out) hb); replace HB := Aside0.mk (below_step (by repeat (first | (with_reducible first | exact HB.out | apply below_alloc | apply pw_below_drewN | apply below_drew1 | refine below_set ?_ GE148.out) | exact HB.out)) hb); clear hb ho5))
 go_ret
 exact ⟨_, r2_, rS_ (Kd.R_mono HO151.out (fun _ hk => trivial)), by repeat (first | (with_reducible first | exact HB.out | apply below_alloc | apply pw_below_drewN | apply below_drew1 | refine below_set ?_ GE148.out) | exact HB.out)⟩

/-! ### spec_l02Neighbours: function 33 -/
mutual
def spec_l02Neighbours.l0 : Nat → List (S43) → List (S43) → Int → Option ((List (S43)))
 | 0, _, _, _ => none
 | k + 1, x0, x3, x4 => if x4 < (x0.length : Int) then (if 0 ≤ x4 then ((spec_l02Around.f ((rd_T43 x0 x4).f0) ((rd_T43 x0 x4).f1)).bind fun t156 => (spec_l02Neighbours.l1 k x0 x3 x4 t156 0)) else (none)) else (some x3)
def spec_l02Neighbours.l1 : Nat → List (S43) → List (S43) → Int → List (S43) → Int → Option ((List (S43)))
 | 0, _, _, _, _, _ => none
 | k + 1, x0, x3, x4, x5, x6 => if x6 < 4 then (if 0 ≤ x6 then (if x6 < (x5.length : Int) then ((spec_l02Index.f k x0 ((rd_T43 x5 x6).f0) ((rd_T43 x5 x6).f1)).bind fun t160 => (if t160 < 0 then ((spec_l02Index.f k x3 ((rd_T43 x5 x6).f0) ((rd_T43 x5 x6).f1)).bind fun t162 => (if t162 < 0 then ((spec_l02Insert.f k x3 ((rd_T43 x5 x6).f0) ((rd_T43 x5 x6).f1)).bind fun t164 => (spec_l02Neighbours.l1 k x0 t164 x4 x5 (wrap64 (x6 + 1)))) else (spec_l02Neighbours.l1 k x0 x3 x4 x5 (wrap64 (x6 + 1))))) else (spec_l02Neighbours.l1 k x0 x3 x4 x5 (wrap64 (x6 + 1))))) else (none)) else (none)) else (spec_l02Neighbours.l0 k x0 x3 (wrap64 (x4 + 1)))
end
def spec_l02Neighbours.f (k : Nat) (l0 : List (S43)) : Option ((List (S43))) := spec_l02Neighbours.l0 k l0 (([] : List (S43))) 0
theorem spec_l02Neighbours.mono_l : ∀ k, (∀ y0 y1 y2, LeO (spec_l02Neighbours.l0 k y0 y1 y2) (spec_l02Neighbours.l0 (k + 1) y0 y1 y2)) ∧ (∀ y0 y1 y2 y3 y4, LeO (spec_l02Neighbours.l1 k y0 y1 y2 y3 y4) (spec_l02Neighbours.l1 (k + 1) y0 y1 y2 y3 y4))
 | 0 => ⟨fun _ _ _ r h => by simp [spec_l02Neighbours.l0] at h, fun _ _ _ _ _ r h => by simp [spec_l02Neighbours.l1] at h⟩
 | k + 1 => by
  obtain ⟨ih0, ih1⟩ := spec_l02Neighbours.mono_l k
  refine ⟨?_, ?_⟩
  ·intro y0 y1 y2
   unfold spec_l02Neighbours.l0
   repeat' first
   | (with_reducible exact ih0 _ _ _)
   | (with_reducible exact ih1 _ _ _ _ _)
   | (with_reducible exact spec_l02Index.mono _ _ _ _)
   | (with_reducible exact spec_l02Insert.mono _ _ _ _)
   | (with_reducible exact LeO.refl _)
   | (with_reducible exact LeO.none _)
   | (with_reducible refine LeO.ite ?_ ?_)
   | (with_reducible refine LeO.bind ?_ (fun _ => ?_))
   | exact ih0 _ _ _
   | exact ih1 _ _ _ _ _
   | exact spec_l02Index.mono _ _ _ _
   | exact spec_l02Insert.mono _ _ _ _
   | exact LeO.none _
   | refine LeO.ite ?_ ?_
   | refine LeO.bind ?_ (fun _ => ?_)
  ·intro y0 y1 y2 y3 y4
   unfold spec_l02Neighbours.l1
   repeat' first
   | (with_reducible exact ih0 _ _ _)
   | (with_reducible exact ih1 _ _ _ _ _)
   | (with_reducible exact spec_l02Index.mono _ _ _ _)
   | (with_reducible exact spec_l02Insert.mono _ _ _ _)
   | (with_reducible exact LeO.refl _)
   | (with_reducible exact LeO.none _)
   | (with_reducible refine LeO.ite ?_ ?_)
   | (with_reducible refine LeO.bind ?_ (fun _ => ?_))
   | exact ih0 _ _ _
   | exact ih1 _ _ _ _ _
   | exact spec_l02Index.mono _ _ _ _
   | exact spec_l02Insert.mono _ _ _ _
   | exact LeO.none _
   | refine LeO.ite ?_ ?_
   | refine LeO.bind ?_ (fun _ => ?_)
theorem spec_l02Neighbours.mono : ∀ a0 k, LeO (spec_l02Neighbours.f k a0) (spec_l02Neighbours.f (k + 1) a0) := by
 intro a0 k
 obtain ⟨ih0, ih1⟩ := spec_l02Neighbours.mono_l k
 unfold spec_l02Neighbours.f
 repeat' first
   | (with_reducible exact ih0 _ _ _)
   | (with_reducible exact ih1 _ _ _ _ _)
   | (with_reducible exact spec_l02Index.mono _ _ _ _)
   | (with_reducible exact spec_l02Insert.mono _ _ _ _)
   | (with_reducible exact LeO.refl _)
   | (with_reducible exact LeO.none _)
   | (with_reducible refine LeO.ite ?_ ?_)
   | (with_reducible refine LeO.bind ?_ (fun _ => ?_))
   | exact ih0 _ _ _
   | exact ih1 _ _ _ _ _
   | exact spec_l02Index.mono _ _ _ _
   | exact spec_l02Insert.mono _ _ _ _
   | exact LeO.none _
   | refine LeO.ite ?_ ?_
   | refine LeO.bind ?_ (fun _ => ?_)
set_option maxHeartbeats 8000000 in
set_option maxRecDepth 100000 in
theorem spec_l02Neighbours.calls (k : Nat) (A0 : Option Addr) (c0 : Nat) (l0 : List (S43)) (r : List (S43)) (w : World) (hr0 : Kd.C k43 w A0 l0.length l0) (hc0 : l0.length ≤ c0) (h : spec_l02Neighbours.f k l0 = some r) :
  Calls Tryd.prog 33 #[.slice A0 l0.length c0] w fun e w' => ∃ v0_ : Value, e = .returned (v0_) ∧ Kd.R k43 43 w' w.heap.size (fun _ => True) v0_ r ∧ Below w.heap.size w w' := by
 have hu43 := Tryd.underlying43
 have HR0 := Aside0.mk hr0
 have HC0 := Aside0.mk hc0
 clear hr0 hc0
 have HB := Aside0.mk (Below.refl w.heap.size w)
 have H : (spec_l02Neighbours.l0 k l0 (([] : List (S43))) 0) = some r := h
 clear h
 obtain ⟨y152, hY_⟩ : ∃ y_ : List (S43), y_ = (([] : List (S43))) := ⟨_, rfl⟩
 replace H : (spec_l02Neighbours.l0 k l0 y152 0) = some r := yY_
 have Ny152 := Aside0.mk hY_
 clear hY_
 have H' := Aside0.mk H
 clear H
 go_enter Tryd.func33, Tryd.ntmps33
 go_wp2_with (first | ((with_reducible refine gate_dst (N := 7) rfl ?_); refine Kd.R_lit k43 _ 43 ?hg (N := 7) ?hd (xs := ([] : List (S43))) (inner := []) (ok := fun _ => True) (okp := fun _ => True) ?hr ?hp (fun _ hk => hk) trivial (Below.refl _ _) (Nat.le_refl _) (by simp) ?_; (case hd => rfl); (case hg => rfl); (case hr => first | (go_simp; done) | (go_simp; rfl)); (case hp => exact (Reps.none _ _)); intro v153 w2 ho3 hb hg_ hnew_; clear hg_ hnew_; (first | rw [← Ny152.out] at ho3 | (simp only [Int.reduceToNat] at ho3; rw [← Ny152.out] at ho3)); have HO154 := Aside0.mk (Kd.R_lower ho3 (below_size bB_)); replace HB := Aside0.mk (below_step bB_ hb); clear hb ho3))
 go_loopg [3, 4] k (fun kq v3 v4 w' => ∃ (x3_1 : List (S43)) (x4_1 : Int), v4 = .int .i64 x4_1 ∧ Aside0 (spec_l02Neighbours.l0 kq l0 x3_1 x4_1 = some r) ∧ Aside0 (kq ≤ k) ∧ Aside0 (Kd.R k43 43 w' w.heap.size (fun _ => True) v3 x3_1) ∧ Aside0 (Below w.heap.size w w'))
 case atStart => exact ⟨(y152), (0), r3_, H', ⟨Nat.le_refl _⟩, ⟨rS_ HO154.out⟩, ⟨bB_⟩⟩
 case round =>
  clear H'
  try clear p2
  try clear c3
  obtain ⟨x3_1, x4_1, rfl, HA, HK1, HO_3, HB⟩ := hrel
  cases gk with
  | zero => exact absurd HA.out (by simp [spec_l02Neighbours.l0])
  | succ k1 =>
   have H := HA.out
   clear HA
   simp only [spec_l02Neighbours.l0] at H
   by_cases c4 : x4_1 < (l0.length : Int)
   ·rw [if_pos c4] at H
    have c4b0 : decide (x4_1 < (l0.length : Int)) = true := decide_eq_true c4
    clear c4
    by_cases c5 : 0 ≤ x4_1
    ·rw [if_pos c5] at H
     have c5b0 : decide (0 ≤ x4_1) = true := decide_eq_true c5
     clear c5
     replace H := Option.bind_eq_some_iff.mp H
     obtain ⟨t156, A60, H⟩ := H
     try dsimp only at H
     have A6 := Aside0.mk A60
     clear A60
     have H' := Aside0.mk H
     clear H
     have p155 : 0 ≤ (x4_1 : Int) := of_decide_eq_true aS_
     have q155 : x4_1 < (l0.length : Int) := of_decide_eq_true aS_
     obtain ⟨ad155, e155, hx155_0, hx155_1⟩ := at_T43 HR0.out x4_1 p155 q155
     cases e155
     replace hx155_0 := (HB.out.cell (World.block_lt_of_cell? w _ hx155_0)).trans hx155_0
     replace hx155_1 := (HB.out.cell (World.block_lt_of_cell? w _ hx155_1)).trans hx155_1
     replace p155 := eq_true p155
     replace q155 := eq_true q155
     go_wp2_with (first | ((with_reducible refine gate_callee (f := 52) rfl ?_); refine gL_ (some 18) Tryd.func52 #[.agg #[.int .i64 ((rd_T43 l0 x4_1).f0), .int .i64 ((rd_T43 l0 x4_1).f1)]] ?_; (with_reducible refine (spec_l02Around.calls ((rd_T43 l0 x4_1).f0) ((rd_T43 l0 x4_1).f1) t156 _ A6.out).mono ?_); rintro e w7 ⟨v157, rfl, ho0, hb⟩; refine ⟨_, rfl, ?_⟩; have HO158 := Aside0.mk (Kd.R_lower (Kd.R_new' ho0 (Kd.R_lt (rS_ HO_3.out))) (below_size bB_)); replace HO_3 := Aside0.mk (Kd.R_elder' (rS_ HO_3.out) (Kd.R_base ho0) hb); replace HB := Aside0.mk (below_step bB_ hb); (try clear hb ho0)))
     go_loopg [3, 6] k1 (fun kq v3 v6 w' => ∃ (x3_2 : List (S43)) (x6_2 : Int), v6 = .int .i64 x6_2 ∧ Aside0 (spec_l02Neighbours.l1 kq l0 x3_2 x4_1 t156 x6_2 = some r) ∧ Aside0 (kq ≤ k1) ∧ Aside0 (Kd.R k43 43 w' w.heap.size (fun k_ => some k_ ≠ (v157 : Value).ownBlock) v3 x3_2) ∧ Aside0 (Kd.R k43 43 w' w.heap.size (fun k_ => some k_ ≠ (v3 : Value).ownBlock) v157 t156) ∧ Aside0 (Below w.heap.size w w'))
     case atStart => exact ⟨(x3_1), (0), r3_, H', ⟨Nat.le_refl _⟩, ⟨rS_ (Kd.R_mono HO_3.out (fun _ hk => hk.2))⟩, ⟨rS_ (Kd.R_mono HO158.out (fun _ hk => hk.2))⟩, ⟨bB_⟩⟩
     case round =>
      clear H'
      try clear p1
      try clear q1
      try clear hx1
      try clear p2
      try clear c3
      try clear c4
      try clear c4b0
      try clear c5
      try clear c5b0
      try clear hx155_0
      try clear hx155_1
      try clear p155
      try clear p2
      try clear q155
      obtain ⟨x3_2, x6_2, rfl, HA, HK2, HO_3, HO_5, HB⟩ := hrel
      cases gk with
      | zero => exact absurd HA.out (by simp [spec_l02Neighbours.l1])
      | succ k2 =>
       have H := HA.out
       clear HA
       simp only [spec_l02Neighbours.l1] at H
       by_cases c8 : x6_2 < 4
       ·rw [if_pos c8] at H
        have c8b0 : decide (x6_2 < 4) = true := decide_eq_true c8
        clear c8
        by_cases c9 : 0 ≤ x6_2
        ·rw [if_pos c9] at H
         have c9b0 : decide (0 ≤ x6_2) = true := decide_eq_true c9
         clear c9
         by_cases c10 : x6_2 < (t156.length : Int)
         ·rw [if_pos c10] at H
          have c10b0 : decide (x6_2 < (t156.length : Int)) = true := decide_eq_true c10
          clear c10
          replace H := Option.bind_eq_some_iff.mp H
          obtain ⟨t160, A110, H⟩ := H
          try dsimp only at H
          have A11 := Aside0.mk A110
          clear A110
          by_cases c12 : t160 < 0
          ·rw [if_pos c12] at H
           have c12b0 : decide (t160 < 0) = true := decide_eq_true c12
           clear c12
           replace H := Option.bind_eq_some_iff.mp H
           obtain ⟨t162, A130, H⟩ := H
           try dsimp only at H
           have A13 := Aside0.mk A130
           clear A130
           by_cases c14 : t162 < 0
           ·rw [if_pos c14] at H
            have c14b0 : decide (t162 < 0) = true := decide_eq_true c14
            clear c14
            replace H := Option.bind_eq_some_iff.mp H
            obtain ⟨t164, A150, H⟩ := H
            try dsimp only at H
            have A15 := Aside0.mk A150
            clear A150
            have H' := Aside0.mk H
            clear H
            obtain ⟨Ao16, co16, eo16⟩ := Kd.R_slice HO_5.out
            subst eo16
            have p159 : 0 ≤ (x6_2 : Int) := of_decide_eq_true aS_
            have q159 : x6_2 < (t156.length : Int) := of_decide_eq_true aS_
            obtain ⟨ad159, e159, hx159_0, hx159_1⟩ := at_T43 (Kd.R_reads' HO_5.out).2.2 x6_2 p159 q159
            cases e159
            replace p159 := eq_true p159
            replace q159 := eq_true q159
            go_wp2_with (first | ((with_reducible refine gate_callee (f := 32) rfl ?_); refine gL_ (some 28) Tryd.func32 #[.slice (some ad155) l0.length c0, .agg #[.int .i64 ((rd_T43 t156 x6_2).f0), .int .i64 ((rd_T43 t156 x6_2).f1)]] ?_; (with_reducible refine (spec_l02Index.calls k2 _ _ l0 ((rd_T43 t156 x6_2).f0) ((rd_T43 t156 x6_2).f1) t160 _ ?side1 ?side2 A11.out).mono ?_); (case side1 => exact cS_ (Kd.C_below HR0.out HB.out)); (case side2 => exact HC0.out); rintro e w17 ⟨rfl, hb⟩; refine ⟨_, rfl, ?_⟩; replace HO_3 := Aside0.mk (Kd.R_below (rS_ HO_3.out) hb); replace HO_5 := Aside0.mk (Kd.R_below (rS_ HO_5.out) hb); replace HB := Aside0.mk (below_step bB_ hb); (try clear hb); have p161 : 0 ≤ (x6_2 : Int) := of_decide_eq_true aS_; have q161 : x6_2 < (t156.length : Int) := of_decide_eq_true aS_; obtain ⟨ad161, e161, hx161_0, hx161_1⟩ := at_T43 (Kd.R_reads' HO_5.out).2.2 x6_2 p161 q161; obtain rfl : ad159 = ad161 := (by injection e161); replace p161 := eq_true p161; replace q161 := eq_true q161; obtain ⟨Ao18, co18, eo18⟩ := Kd.R_slice HO_3.out; subst eo18) | (go_at_call 32; (with_reducible refine (spec_l02Index.calls k2 _ _ x3_2 ((rd_T43 t156 x6_2).f0) ((rd_T43 t156 x6_2).f1) t162 _ ?side1 ?side2 A13.out).mono ?_); (case side1 => exact cS_ ((Kd.R_reads' HO_3.out).2.2)); (case side2 => exact (Kd.R_reads' HO_3.out).2.1); rintro e w19 ⟨rfl, hb⟩; replace HO_3 := Aside0.mk (Kd.R_below (rS_ HO_3.out) hb); replace HO_5 := Aside0.mk (Kd.R_below (rS_ HO_5.out) hb); replace HB := Aside0.mk (below_step bB_ hb); (try clear hb); have p163 : 0 ≤ (x6_2 : Int) := of_decide_eq_true aS_; have q163 : x6_2 < (t156.length : Int) := of_decide_eq_true aS_; obtain ⟨ad163, e163, hx163_0, hx163_1⟩ := at_T43 (Kd.R_reads' HO_5.out).2.2 x6_2 p163 q163; obtain rfl : ad159 = ad163 := (by injection e163); replace p163 := eq_true p163; replace q163 := eq_true q163) | ((with_reducible refine gate_callee (f := 34) rfl ?_); refine gL_ (some 44) Tryd.func34 #[.slice Ao18 x3_2.length co18, .agg #[.int .i64 ((rd_T43 t156 x6_2).f0), .int .i64 ((rd_T43 t156 x6_2).f1)]] ?_; (with_reducible refine (spec_l02Insert.calls k2 _ _ x3_2 ((rd_T43 t156 x6_2).f0) ((rd_T43 t156 x6_2).f1) t164 _ ?side1 ?side2 A15.out).mono ?_); (case side1 => exact cS_ ((Kd.R_reads' HO_3.out).2.2)); (case side2 => exact (Kd.R_reads' HO_3.out).2.1); rintro e w20 ⟨v165, rfl, ho0, hb⟩; refine ⟨_, rfl, ?_⟩; have HO166 := Aside0.mk (Kd.R_lower (Kd.R_new' (Kd.R_new' ho0 (Kd.R_lt (rS_ HO_3.out))) (Kd.R_lt (rS_ HO_5.out))) (below_size bB_)); replace HO_3 := Aside0.mk (Kd.R_elder' (rS_ HO_3.out) (Kd.R_base ho0) hb); replace HO_5 := Aside0.mk (Kd.R_elder' (rS_ HO_5.out) (Kd.R_base ho0) hb); replace HB := Aside0.mk (below_step bB_ hb); (try clear hb ho0)))
            go_roundg k2
            case measure => have := HK1.out; have := HK2.out; omega
            case rel => exact ⟨(t164), (wrap64 (x6_2 + 1)), r3_, H', ⟨by have := HK1.out; have := HK2.out; omega⟩, ⟨rS_ (Kd.R_mono HO166.out (fun _ hk => hk.2))⟩, ⟨rS_ (Kd.R_mono HO_5.out (fun _ hk => hk.2))⟩, ⟨bB_⟩⟩
           ·rw [if_neg c14] at H
            have c14b0 : decide (t162 < 0) = false := decide_eq_false c14
            clear c14
            have H' := Aside0.mk H
            clear H
            obtain ⟨Ao21, co21, eo21⟩ := Kd.R_slice HO_5.out
            subst eo21
            have p159 : 0 ≤ (x6_2 : Int) := of_decide_eq_true aS_
            have q159 : x6_2 < (t156.length : Int) := of_decide_eq_true aS_
            obtain ⟨ad159, e159, hx159_0, hx159_1⟩ := at_T43 (Kd.R_reads' HO_5.out).2.2 x6_2 p159 q159
            cases e159
            replace p159 := eq_true p159
            replace q159 := eq_true q159
            go_wp2_with (first | ((with_reducible refine gate_callee (f := 32) rfl ?_); refine gL_ (some 28) Tryd.func32 #[.slice (some ad155) l0.length c0, .agg #[.int .i64 ((rd_T43 t156 x6_2).f0), .int .i64 ((rd_T43 t156 x6_2).f1)]] ?_; (with_reducible refine (spec_l02Index.calls k2 _ _ l0 ((rd_T43 t156 x6_2).f0) ((rd_T43 t156 x6_2).f1) t160 _ ?side1 ?side2 A11.out).mono ?_); (case side1 => exact cS_ (Kd.C_below HR0.out HB.out)); (case side2 => exact HC0.out); rintro e w22 ⟨rfl, hb⟩; refine ⟨_, rfl, ?_⟩; replace HO_3 := Aside0.mk (Kd.R_below (rS_ HO_3.out) hb); replace HO_5 := Aside0.mk (Kd.R_below (rS_ HO_5.out) hb); replace HB := Aside0.mk (below_step bB_ hb); (try clear hb); have p161 : 0 ≤ (x6_2 : Int) := of_decide_eq_true aS_; have q161 : x6_2 < (t156.length : Int) := of_decide_eq_true aS_; obtain ⟨ad161, e161, hx161_0, hx161_1⟩ := at_T43 (Kd.R_reads' HO_5.out).2.2 x6_2 p161 q161; obtain rfl : ad159 = ad161 := (by injection e161); replace p161 := eq_true p161; replace q161 := eq_true q161; obtain ⟨Ao23, co23, eo23⟩ := Kd.R_slice HO_3.out; subst eo23) | (go_at_call 32; (with_reducible refine (spec_l02Index.calls k2 _ _ x3_2 ((rd_T43 t156 x6_2).f0) ((rd_T43 t156 x6_2).f1) t162 _ ?side1 ?side2 A13.out).mono ?_); (case side1 => exact cS_ ((Kd.R_reads' HO_3.out).2.2)); (case side2 => exact (Kd.R_reads' HO_3.out).2.1); rintro e w24 ⟨rfl, hb⟩; replace HO_3 := Aside0.mk (Kd.R_below (rS_ HO_3.out) hb); replace HO_5 := Aside0.mk (Kd.R_below (rS_ HO_5.out) hb); replace HB := Aside0.mk (below_step bB_ hb); (try clear hb)))
            go_roundg k2
            case measure => have := HK1.out; have := HK2.out; omega
            case rel => exact ⟨(x3_2), (wrap64 (x6_2 + 1)), r3_, H', ⟨by have := HK1.out; have := HK2.out; omega⟩, ⟨rS_ HO_3.out⟩, ⟨rS_ HO_5.out⟩, ⟨bB_⟩⟩
          ·rw [if_neg c12] at H
           have c12b0 : decide (t160 < 0) = false := decide_eq_false c12
           clear c12
           have H' := Aside0.mk H
           clear H
           obtain ⟨Ao25, co25, eo25⟩ := Kd.R_slice HO_5.out
           subst eo25
           have p159 : 0 ≤ (x6_2 : Int) := of_decide_eq_true aS_
           have q159 : x6_2 < (t156.length : Int) := of_decide_eq_true aS_
           obtain ⟨ad159, e159, hx159_0, hx159_1⟩ := at_T43 (Kd.R_reads' HO_5.out).2.2 x6_2 p159 q159
           cases e159
           replace p159 := eq_true p159
           replace q159 := eq_true q159
           go_wp2_with (first | ((with_reducible refine gate_callee (f := 32) rfl ?_); refine gL_ (some 28) Tryd.func32 #[.slice (some ad155) l0.length c0, .agg #[.int .i64 ((rd_T43 t156 x6_2).f0), .int .i64 ((rd_T43 t156 x6_2).f1)]] ?_; (with_reducible refine (spec_l02Index.calls k2 _ _ l0 ((rd_T43 t156 x6_2).f0) ((rd_T43 t156 x6_2).f1) t160 _ ?side1 ?side2 A11.out).mono ?_); (case side1 => exact cS_ (Kd.C_below HR0.out HB.out)); (case side2 => exact HC0.out); rintro e w26 ⟨rfl, hb⟩; refine ⟨_, rfl, ?_⟩; replace HO_3 := Aside0.mk (Kd.R_below (rS_ HO_3.out) hb); replace HO_5 := Aside0.mk (Kd.R_below (rS_ HO_5.out) hb); replace HB := Aside0.mk (below_step bB_ hb); (try clear hb)))
           go_roundg k2
           case measure => have := HK1.out; have := HK2.out; omega
           case rel => exact ⟨(x3_2), (wrap64 (x6_2 + 1)), r3_, H', ⟨by have := HK1.out; have := HK2.out; omega⟩, ⟨rS_ HO_3.out⟩, ⟨rS_ HO_5.out⟩, ⟨bB_⟩⟩
         ·rw [if_neg c10] at H
          exact absurd H (by simp)
        ·rw [if_neg c9] at H
         exact absurd H (by simp)
       ·rw [if_neg c8] at H
        have c8b0 : decide (x6_2 < 4) = false := decide_eq_false c8
        clear c8
        have H' := Aside0.mk H
        clear H
        go_wp2
        go_roundg k2
        case measure => have := HK1.out; have := HK2.out; omega
        case rel => exact ⟨(x3_2), (wrap64 (x4_1 + 1)), r3_, H', ⟨by have := HK1.out; have := HK2.out; omega⟩, ⟨rS_ (Kd.R_mono HO_3.out (fun _ hk => trivial))⟩, ⟨bB_⟩⟩
    ·rw [if_neg c5] at H
     exact absurd H (by simp)
   ·rw [if_neg c4] at H
    have c4b0 : decide (x4_1 < (l0.length : Int)) = false := decide_eq_false c4
    clear c4
    obtain rfl := Option.some.inj H
    go_wp2
    go_ret
    exact ⟨_, r2_, rS_ HO_3.out, bB_⟩

/-! ### spec_l02DrawPoly: function 20 -/
def spec_l02DrawPoly.l0 : Nat → List (S43) → Int → List Int → Int → Int → Option ((List (S43)) × Int × Int)
 | 0, _, _, _, _, _ => none
 | k + 1, x5, x6, x1000, x1001, x1002 => if x6 > 0 then ((spec_l02Neighbours.f k x5).bind fun t173 => ((spec_l01Next.f x1000 x1001 x1002 (t173.length : Int)).bind fun bt176 => (if 0 ≤ bt176.1 then (if bt176.1 < (t173.length : Int) then ((spec_l02Insert.f k x5 ((rd_T43 t173 bt176.1).f0) ((rd_T43 t173 bt176.1).f1)).bind fun t180 => (spec_l02DrawPoly.l0 k t180 (wrap64 (x6 - 1)) x1000 bt176.2.1 bt176.2.2)) else (none)) else (none)))) else ((spec_l02Normal.f k x5).bind fun t183 => (some (t183, x1001, x1002)))
def spec_l02DrawPoly.f (k : Nat) (s0_0 : List Int) (s0_1 : Int) (s0_2 : Int) (a1 : Int) : Option ((List (S43)) × Int × Int) := (spec_l01Next.f s0_0 s0_1 s0_2 a1).bind fun bt170 => (spec_l02DrawPoly.l0 k (([(⟨0, 0⟩ : S43)] : List (S43))) bt170.1 s0_0 bt170.2.1 bt170.2.2)
theorem spec_l02DrawPoly.mono_l : ∀ k, (∀ y0 y1 y2 y3 y4, LeO (spec_l02DrawPoly.l0 k y0 y1 y2 y3 y4) (spec_l02DrawPoly.l0 (k + 1) y0 y1 y2 y3 y4))
 | 0 => fun _ _ _ _ _ r h => by simp [spec_l02DrawPoly.l0] at h
 | k + 1 => by
  have ih0 := spec_l02DrawPoly.mono_l k
  ·intro y0 y1 y2 y3 y4
   unfold spec_l02DrawPoly.l0
   repeat' first
   | (with_reducible exact ih0 _ _ _ _ _)
   | (with_reducible exact spec_l02Insert.mono _ _ _ _)
   | (with_reducible exact spec_l02Neighbours.mono _ _)
   | (with_reducible exact spec_l02Normal.mono _ _)
   | (with_reducible exact LeO.refl _)
   | (with_reducible exact LeO.none _)
   | (with_reducible refine LeO.ite ?_ ?_)
   | (with_reducible refine LeO.bind ?_ (fun _ => ?_))
   | exact ih0 _ _ _ _ _
   | exact spec_l02Insert.mono _ _ _ _
   | exact spec_l02Neighbours.mono _ _
   | exact spec_l02Normal.mono _ _
   | exact LeO.none _
   | refine LeO.ite ?_ ?_
   | refine LeO.bind ?_ (fun _ => ?_)
theorem spec_l02DrawPoly.mono : ∀ a0 a1 a2 a3 k, LeO (spec_l02DrawPoly.f k a0 a1 a2 a3) (spec_l02DrawPoly.f (k + 1) a0 a1 a2 a3) := by
 intro a0 a1 a2 a3 k
 have ih0 := spec_l02DrawPoly.mono_l k
 unfold spec_l02DrawPoly.f
 repeat' first
   | (with_reducible exact ih0 _ _ _ _ _)
   | (with_reducible exact spec_l02Insert.mono _ _ _ _)
   | (with_reducible exact spec_l02Neighbours.mono _ _)
   | (with_reducible exact spec_l02Normal.mono _ _)
   | (with_reducible exact LeO.refl _)
   | (with_reducible exact LeO.none _)
   | (with_reducible refine LeO.ite ?_ ?_)
   | (with_reducible refine LeO.bind ?_ (fun _ => ?_))
   | exact ih0 _ _ _ _ _
   | exact spec_l02Insert.mono _ _ _ _
   | exact spec_l02Neighbours.mono _ _
   | exact spec_l02Normal.mono _ _
   | exact LeO.none _
   | refine LeO.ite ?_ ?_
   | refine LeO.bind ?_ (fun _ => ?_)
set_option maxHeartbeats 8000000 in
set_option maxRecDepth 100000 in
theorem spec_l02DrawPoly.calls (k : Nat) (g : Nat) (s0_0 : List Int) (s0_1 : Int) (s0_2 : Int) (a1 : Int) (r1 : List (S43)) (r2 : Int) (r3 : Int) (w0 w : World) (hI : IsS55 w0 w g s0_0 s0_1 s0_2) (hB : Below w0.heap.size w0 w) (h : spec_l02DrawPoly.f k s0_0 s0_1 s0_2 a1 = some (r1, r2, r3)) :
  Calls Tryd.prog 20 #[.pointer (some ⟨g, 0, none⟩), .int .i64 a1] w fun e w' => ∃ v0_ : Value, e = .returned (v0_) ∧ Kd.R k43 43 w' w.heap.size (fun _ => True) v0_ r1 ∧ IsS55 w0 w' g s0_0 r2 r3 ∧ Below w0.heap.size w0 w' ∧ KeepBut w w' g none := by
 have hu43 := Tryd.underlying43
 have HI0 := Aside0.mk hI
 have HK := Aside0.mk (KeepBut.refl w g none)
 have HL := Aside0.mk hB.size
 clear hI
 have HW0 := Aside0.mk hB.size
 have HB := Aside0.mk hB
 clear hB
 have H : ((spec_l01Next.f s0_0 s0_1 s0_2 a1).bind fun bt170 => (spec_l02DrawPoly.l0 k (([(⟨0, 0⟩ : S43)] : List (S43))) bt170.1 s0_0 bt170.2.1 bt170.2.2)) = some (r1, r2, r3) := h
 clear h
 obtain ⟨y167, hY_⟩ : ∃ y_ : List (S43), y_ = (([(⟨0, 0⟩ : S43)] : List (S43))) := ⟨_, rfl⟩
 replace H : ((spec_l01Next.f s0_0 s0_1 s0_2 a1).bind fun bt170 => (spec_l02DrawPoly.l0 k y167 bt170.1 s0_0 bt170.2.1 bt170.2.2)) = some (r1, r2, r3) := yY_
 have Ny167 := Aside0.mk hY_
 clear hY_
 replace H := Option.bind_eq_some_iff.mp H
 obtain ⟨⟨t170, t171, t172⟩, A30, H⟩ := H
 try dsimp only at H
 have A3 := Aside0.mk A30
 clear A30
 have H' := Aside0.mk H
 clear H
 go_enter Tryd.func20, Tryd.ntmps20
 go_wp2_with (first | ((with_reducible refine gate_dst (N := 9) rfl ?_); refine Kd.R_lit k43 _ 43 ?hg (N := 9) ?hd (xs := ([(⟨0, 0⟩ : S43)] : List (S43))) (inner := [.int .i64 0, .int .i64 0]) (ok := fun _ => True) (okp := fun _ => True) ?hr ?hp (fun _ hk => hk) trivial (Below.refl _ _) (Nat.le_refl _) (by simp) ?_; (case hd => rfl); (case hg => rfl); (case hr => first | (go_simp; done) | (go_simp; rfl)); (case hp => exact (Reps.c2 (show Kd.M k43 _ _ _ (⟨0, 0⟩ : S43) [.int .i64 0, .int .i64 0] from (k43_mkM _ _ _ (⟨0, 0⟩ : S43) )) (Reps.none _ _))); intro v168 w4 ho5 hb hg_ hnew_; clear hg_ hnew_; (first | rw [← Ny167.out] at ho5 | (simp only [Int.reduceToNat] at ho5; rw [← Ny167.out] at ho5)); have HO169 := Aside0.mk (Kd.R_lower ho5 (keep_size (w := w) (g := g) (row := none) kK_)); replace HK := Aside0.mk (KeepBut.trans kK_ (KeepBut.of_below hb g none) (.inl rfl)); replace HB := Aside0.mk (below_step bS55_ hb); replace HI0 := Aside0.mk (IsS55.below iS55_ hb); clear hb ho5) | ((with_reducible refine gate_callee (f := 19) rfl ?_); refine gL_ (some 12) Tryd.func19 #[.pointer (some ⟨g, 0, none⟩), .int .i64 a1] ?_; (with_reducible refine (spec_l01Next.calls g s0_0 s0_1 s0_2 a1 t170 t171 t172 w0 _ ?side1 ?side2 A3.out).mono ?_); (case side1 => exact iS55_); (case side2 => exact bS55_); rintro e w6 ⟨rfl, hi, hb, hk⟩; refine ⟨_, rfl, ?_⟩; replace HO169 := Aside0.mk (Kd.R_mono (Kd.R_keep (IsS55.apart (show IsS55 w0 _ g s0_0 s0_1 s0_2 from iS55_) (rS_ HO169.out) (by decide)) hk (fun _ h => h.2)) (fun _ h => h.1)); replace HK := Aside0.mk (KeepBut.trans kK_ hk (.inl rfl)); replace HB := Aside0.mk (hb); replace HI0 := Aside0.mk (hi); (try clear hb hk hi)))
 go_loopg [5, 6] k (fun kq v5 v6 w' => ∃ (x5_1 : List (S43)) (x6_1 : Int) (x1001_1 : Int) (x1002_1 : Int), v6 = .int .i64 x6_1 ∧ Aside0 (spec_l02DrawPoly.l0 kq x5_1 x6_1 s0_0 x1001_1 x1002_1 = some (r1, r2, r3)) ∧ Aside0 (kq ≤ k) ∧ Aside0 (Kd.R k43 43 w' w.heap.size (fun _ => True) v5 x5_1) ∧ Aside0 (IsS55 w0 w' g s0_0 x1001_1 x1002_1) ∧ Aside0 (KeepBut w w' g none) ∧ Aside0 (Below w0.heap.size w0 w'))
 case atStart => exact ⟨(y167), (t170), (t171), (t172), r3_, H', ⟨Nat.le_refl _⟩, ⟨rS_ HO169.out⟩, ⟨iS55_⟩, ⟨kK_⟩, ⟨bS55_⟩⟩
 case round =>
  clear H'
  try clear c1
  try clear c2
  try clear p2
  obtain ⟨x5_1, x6_1, x1001_1, x1002_1, rfl, HA, HK1, HO_5, HI0, HK, HB⟩ := hrel
  cases gk with
  | zero => exact absurd HA.out (by simp [spec_l02DrawPoly.l0])
  | succ k1 =>
   have H := HA.out
   clear HA
   simp only [spec_l02DrawPoly.l0] at H
   by_cases c7 : x6_1 > 0
   ·rw [if_pos c7] at H
    have c7b0 : decide (0 < x6_1) = true := decide_eq_true c7
    clear c7
    replace H := Option.bind_eq_some_iff.mp H
    obtain ⟨t173, A80, H⟩ := H
    try dsimp only at H
    have A8 := Aside0.mk A80
    clear A80
    replace H := Option.bind_eq_some_iff.mp H
    obtain ⟨⟨t176, t177, t178⟩, A90, H⟩ := H
    try dsimp only at H
    have A9 := Aside0.mk A90
    clear A90
    by_cases c10 : 0 ≤ t176
    ·rw [if_pos c10] at H
     have c10b0 : decide (0 ≤ t176) = true := decide_eq_true c10
     clear c10
     by_cases c11 : t176 < (t173.length : Int)
     ·rw [if_pos c11] at H
      have c11b0 : decide (t176 < (t173.length : Int)) = true := decide_eq_true c11
      clear c11
      replace H := Option.bind_eq_some_iff.mp H
      obtain ⟨t180, A120, H⟩ := H
      try dsimp only at H
      have A12 := Aside0.mk A120
      clear A120
      have H' := Aside0.mk H
      clear H
      obtain ⟨Ao13, co13, eo13⟩ := Kd.R_slice HO_5.out
      subst eo13
      go_wp2_with (first | ((with_reducible refine gate_callee (f := 33) rfl ?_); refine gL_ (some 18) Tryd.func33 #[.slice Ao13 x5_1.length co13] ?_; (with_reducible refine (spec_l02Neighbours.calls k1 _ _ x5_1 t173 _ ?side1 ?side2 A8.out).mono ?_); (case side1 => exact cS_ ((Kd.R_reads' HO_5.out).2.2)); (case side2 => exact (Kd.R_reads' HO_5.out).2.1); rintro e w14 ⟨v174, rfl, ho0, hb⟩; refine ⟨_, rfl, ?_⟩; have HO175 := Aside0.mk (Kd.R_lower (Kd.R_new' ho0 (Kd.R_lt (rS_ HO_5.out))) (keep_size (w := w) (g := g) (row := none) kK_)); replace HO_5 := Aside0.mk (Kd.R_elder' (rS_ HO_5.out) (Kd.R_base ho0) hb); replace HK := Aside0.mk (KeepBut.trans kK_ (KeepBut.of_below hb g none) (.inl rfl)); replace HB := Aside0.mk (below_step bS55_ hb); replace HI0 := Aside0.mk (IsS55.below iS55_ hb); (try clear hb ho0); obtain ⟨Ao15, co15, eo15⟩ := Kd.R_slice HO175.out; subst eo15) | ((with_reducible refine gate_callee (f := 19) rfl ?_); refine gL_ (some 24) Tryd.func19 #[.pointer (some ⟨g, 0, none⟩), .int .i64 (t173.length : Int)] ?_; (with_reducible refine (spec_l01Next.calls g s0_0 x1001_1 x1002_1 (t173.length : Int) t176 t177 t178 w0 _ ?side1 ?side2 A9.out).mono ?_); (case side1 => exact iS55_); (case side2 => exact bS55_); rintro e w16 ⟨rfl, hi, hb, hk⟩; refine ⟨_, rfl, ?_⟩; replace HO_5 := Aside0.mk (Kd.R_mono (Kd.R_keep (IsS55.apart (show IsS55 w0 _ g s0_0 x1001_1 x1002_1 from iS55_) (rS_ HO_5.out) (by decide)) hk (fun _ h => h.2)) (fun _ h => h.1)); replace HO175 := Aside0.mk (Kd.R_mono (Kd.R_keep (IsS55.apart (show IsS55 w0 _ g s0_0 x1001_1 x1002_1 from iS55_) (rS_ HO175.out) (by decide)) hk (fun _ h => h.2)) (fun _ h => h.1)); replace HK := Aside0.mk (KeepBut.trans kK_ hk (.inl rfl)); replace HB := Aside0.mk (hb); replace HI0 := Aside0.mk (hi); (try clear hb hk hi); have p179 : 0 ≤ (t176 : Int) := of_decide_eq_true aS_; have q179 : t176 < (t173.length : Int) := of_decide_eq_true aS_; obtain ⟨ad179, e179, hx179_0, hx179_1⟩ := at_T43 (Kd.R_reads' HO175.out).2.2 t176 p179 q179; cases e179; replace p179 := eq_true p179; replace q179 := eq_true q179) | ((with_reducible refine gate_callee (f := 34) rfl ?_); refine gL_ (some 27) Tryd.func34 #[.slice Ao13 x5_1.length co13, .agg #[.int .i64 ((rd_T43 t173 t176).f0), .int .i64 ((rd_T43 t173 t176).f1)]] ?_; (with_reducible refine (spec_l02Insert.calls k1 _ _ x5_1 ((rd_T43 t173 t176).f0) ((rd_T43 t173 t176).f1) t180 _ ?side1 ?side2 A12.out).mono ?_); (case side1 => exact cS_ ((Kd.R_reads' HO_5.out).2.2)); (case side2 => exact (Kd.R_reads' HO_5.out).2.1); rintro e w17 ⟨v181, rfl, ho0, hb⟩; refine ⟨_, rfl, ?_⟩; have HO182 := Aside0.mk (Kd.R_lower (Kd.R_new' (Kd.R_new' ho0 (Kd.R_lt (rS_ HO_5.out))) (Kd.R_lt (rS_ HO175.out))) (keep_size (w := w) (g := g) (row := none) kK_)); replace HO_5 := Aside0.mk (Kd.R_elder' (rS_ HO_5.out) (Kd.R_base ho0) hb); replace HO175 := Aside0.mk (Kd.R_elder' (rS_ HO175.out) (Kd.R_base ho0) hb); replace HK := Aside0.mk (KeepBut.trans kK_ (KeepBut.of_below hb g none) (.inl rfl)); replace HB := Aside0.mk (below_step bS55_ hb); replace HI0 := Aside0.mk (IsS55.below iS55_ hb); (try clear hb ho0)))
      go_roundg k1
      case measure => have := HK1.out; omega
      case rel => exact ⟨(t180), (wrap64 (x6_1 - 1)), (t177), (t178), r3_, H', ⟨by have := HK1.out; omega⟩, ⟨rS_ (Kd.R_mono HO182.out (fun _ hk => trivial))⟩, ⟨iS55_⟩, ⟨kK_⟩, ⟨bS55_⟩⟩
     ·rw [if_neg c11] at H
      exact absurd H (by simp)
    ·rw [if_neg c10] at H
     exact absurd H (by simp)
   ·rw [if_neg c7] at H
    have c7b0 : decide (0 < x6_1) = false := decide_eq_false c7
    clear c7
    replace H := Option.bind_eq_some_iff.mp H
    obtain ⟨t183, A180, H⟩ := H
    try dsimp only at H
    have A18 := Aside0.mk A180
    clear A180
    simp only [Option.some.injEq, Prod.mk.injEq] at H
    obtain ⟨rfl, rfl, rfl⟩ := H
    obtain ⟨Ao19, co19, eo19⟩ := Kd.R_slice HO_5.out
    subst eo19
    go_wp2_with (first | ((with_reducible refine gate_callee (f := 30) rfl ?_); refine gL_ (some 29) Tryd.func30 #[.slice Ao19 x5_1.length co19] ?_; (with_reducible refine (spec_l02Normal.calls k1 _ _ x5_1 t183 _ ?side1 ?side2 A18.out).mono ?_); (case side1 => exact cS_ ((Kd.R_reads' HO_5.out).2.2)); (case side2 => exact (Kd.R_reads' HO_5.out).2.1); rintro e w20 ⟨v184, rfl, ho0, hb⟩; refine ⟨_, rfl, ?_⟩; have HO185 := Aside0.mk (Kd.R_lower (Kd.R_new' ho0 (Kd.R_lt (rS_ HO_5.out))) (keep_size (w := w) (g := g) (row := none) kK_)); replace HO_5 := Aside0.mk (Kd.R_elder' (rS_ HO_5.out) (Kd.R_base ho0) hb); replace HK := Aside0.mk (KeepBut.trans kK_ (KeepBut.of_below hb g none) (.inl rfl)); replace HB := Aside0.mk (below_step bS55_ hb); replace HI0 := Aside0.mk (IsS55.below iS55_ hb); (try clear hb ho0)))
    go_ret
    exact ⟨_, r2_, rS_ (Kd.R_mono HO185.out (fun _ hk => trivial)), iS55_, bS55_, kK_⟩

/-! ### spec_l02Sort: function 44 -/
def spec_l02Sort.l0 : Nat → List (S43) → List (S43) → Int → Option ((List (S43)))
 | 0, _, _, _ => none
 | k + 1, x0, x3, x4 => if x4 < (x0.length : Int) then (if 0 ≤ x4 then ((spec_l02Insert.f k x3 ((rd_T43 x0 x4).f0) ((rd_T43 x0 x4).f1)).bind fun t190 => (spec_l02Sort.l0 k x0 t190 (wrap64 (x4 + 1)))) else (none)) else (some x3)
def spec_l02Sort.f (k : Nat) (l0 : List (S43)) : Option ((List (S43))) := spec_l02Sort.l0 k l0 (([] : List (S43))) 0
theorem spec_l02Sort.mono_l : ∀ k, (∀ y0 y1 y2, LeO (spec_l02Sort.l0 k y0 y1 y2) (spec_l02Sort.l0 (k + 1) y0 y1 y2))
 | 0 => fun _ _ _ r h => by simp [spec_l02Sort.l0] at h
 | k + 1 => by
  have ih0 := spec_l02Sort.mono_l k
  ·intro y0 y1 y2
   unfold spec_l02Sort.l0
   repeat' first
   | (with_reducible exact ih0 _ _ _)
   | (with_reducible exact spec_l02Insert.mono _ _ _ _)
   | (with_reducible exact LeO.refl _)
   | (with_reducible exact LeO.none _)
   | (with_reducible refine LeO.ite ?_ ?_)
   | (with_reducible refine LeO.bind ?_ (fun _ => ?_))
   | exact ih0 _ _ _
   | exact spec_l02Insert.mono _ _ _ _
   | exact LeO.none _
   | refine LeO.ite ?_ ?_
   | refine LeO.bind ?_ (fun _ => ?_)
theorem spec_l02Sort.mono : ∀ a0 k, LeO (spec_l02Sort.f k a0) (spec_l02Sort.f (k + 1) a0) := by
 intro a0 k
 have ih0 := spec_l02Sort.mono_l k
 unfold spec_l02Sort.f
 repeat' first
   | (with_reducible exact ih0 _ _ _)
   | (with_reducible exact spec_l02Insert.mono _ _ _ _)
   | (with_reducible exact LeO.refl _)
   | (with_reducible exact LeO.none _)
   | (with_reducible refine LeO.ite ?_ ?_)
   | (with_reducible refine LeO.bind ?_ (fun _ => ?_))
   | exact ih0 _ _ _
   | exact spec_l02Insert.mono _ _ _ _
   | exact LeO.none _
   | refine LeO.ite ?_ ?_
   | refine LeO.bind ?_ (fun _ => ?_)
set_option maxHeartbeats 8000000 in
set_option maxRecDepth 100000 in
theorem spec_l02Sort.calls (k : Nat) (A0 : Option Addr) (c0 : Nat) (l0 : List (S43)) (r : List (S43)) (w : World) (hr0 : Kd.C k43 w A0 l0.length l0) (hc0 : l0.length ≤ c0) (h : spec_l02Sort.f k l0 = some r) :
  Calls Tryd.prog 44 #[.slice A0 l0.length c0] w fun e w' => ∃ v0_ : Value, e = .returned (v0_) ∧ Kd.R k43 43 w' w.heap.size (fun _ => True) v0_ r ∧ Below w.heap.size w w' := by
 have hu43 := Tryd.underlying43
 have HR0 := Aside0.mk hr0
 have HC0 := Aside0.mk hc0
 clear hr0 hc0
 have HB := Aside0.mk (Below.refl w.heap.size w)
 have H : (spec_l02Sort.l0 k l0 (([] : List (S43))) 0) = some r := h
 clear h
 obtain ⟨y186, hY_⟩ : ∃ y_ : List (S43), y_ = (([] : List (S43))) := ⟨_, rfl⟩
 replace H : (spec_l02Sort.l0 k l0 y186 0) = some r := yY_
 have Ny186 := Aside0.mk hY_
 clear hY_
 have H' := Aside0.mk H
 clear H
 go_enter Tryd.func44, Tryd.ntmps44
 go_wp2_with (first | ((with_reducible refine gate_dst (N := 5) rfl ?_); refine Kd.R_lit k43 _ 43 ?hg (N := 5) ?hd (xs := ([] : List (S43))) (inner := []) (ok := fun _ => True) (okp := fun _ => True) ?hr ?hp (fun _ hk => hk) trivial (Below.refl _ _) (Nat.le_refl _) (by simp) ?_; (case hd => rfl); (case hg => rfl); (case hr => first | (go_simp; done) | (go_simp; rfl)); (case hp => exact (Reps.none _ _)); intro v187 w2 ho3 hb hg_ hnew_; clear hg_ hnew_; (first | rw [← Ny186.out] at ho3 | (simp only [Int.reduceToNat] at ho3; rw [← Ny186.out] at ho3)); have HO188 := Aside0.mk (Kd.R_lower ho3 (below_size bB_)); replace HB := Aside0.mk (below_step bB_ hb); clear hb ho3))
 go_loopg [3, 4] k (fun kq v3 v4 w' => ∃ (x3_1 : List (S43)) (x4_1 : Int), v4 = .int .i64 x4_1 ∧ Aside0 (spec_l02Sort.l0 kq l0 x3_1 x4_1 = some r) ∧ Aside0 (kq ≤ k) ∧ Aside0 (Kd.R k43 43 w' w.heap.size (fun _ => True) v3 x3_1) ∧ Aside0 (Below w.heap.size w w'))
 case atStart => exact ⟨(y186), (0), r3_, H', ⟨Nat.le_refl _⟩, ⟨rS_ HO188.out⟩, ⟨bB_⟩⟩
 case round =>
  clear H'
  try clear p2
  obtain ⟨x3_1, x4_1, rfl, HA, HK1, HO_3, HB⟩ := hrel
  cases gk with
  | zero => exact absurd HA.out (by simp [spec_l02Sort.l0])
  | succ k1 =>
   have H := HA.out
   clear HA
   simp only [spec_l02Sort.l0] at H
   by_cases c4 : x4_1 < (l0.length : Int)
   ·rw [if_pos c4] at H
    have c4b0 : decide (x4_1 < (l0.length : Int)) = true := decide_eq_true c4
    clear c4
    by_cases c5 : 0 ≤ x4_1
    ·rw [if_pos c5] at H
     have c5b0 : decide (0 ≤ x4_1) = true := decide_eq_true c5
     clear c5
     replace H := Option.bind_eq_some_iff.mp H
     obtain ⟨t190, A60, H⟩ := H
     try dsimp only at H
     have A6 := Aside0.mk A60
     clear A60
     have H' := Aside0.mk H
     clear H
     have p189 : 0 ≤ (x4_1 : Int) := of_decide_eq_true aS_
     have q189 : x4_1 < (l0.length : Int) := of_decide_eq_true aS_
     obtain ⟨ad189, e189, hx189_0, hx189_1⟩ := at_T43 HR0.out x4_1 p189 q189
     cases e189
     replace hx189_0 := (HB.out.cell (World.block_lt_of_cell? w _ hx189_0)).trans hx189_0
     replace hx189_1 := (HB.out.cell (World.block_lt_of_cell? w _ hx189_1)).trans hx189_1
     replace p189 := eq_true p189
     replace q189 := eq_true q189
     obtain ⟨Ao7, co7, eo7⟩ := Kd.R_slice HO_3.out
     subst eo7
     go_wp2_with (first | ((with_reducible refine gate_callee (f := 34) rfl ?_); refine gL_ (some 17) Tryd.func34 #[.slice Ao7 x3_1.length co7, .agg #[.int .i64 ((rd_T43 l0 x4_1).f0), .int .i64 ((rd_T43 l0 x4_1).f1)]] ?_; (with_reducible refine (spec_l02Insert.calls k1 _ _ x3_1 ((rd_T43 l0 x4_1).f0) ((rd_T43 l0 x4_1).f1) t190 _ ?side1 ?side2 A6.out).mono ?_); (case side1 => exact cS_ ((Kd.R_reads' HO_3.out).2.2)); (case side2 => exact (Kd.R_reads' HO_3.out).2.1); rintro e w8 ⟨v191, rfl, ho0, hb⟩; refine ⟨_, rfl, ?_⟩; have HO192 := Aside0.mk (Kd.R_lower (Kd.R_new' ho0 (Kd.R_lt (rS_ HO_3.out))) (below_size bB_)); replace HO_3 := Aside0.mk (Kd.R_elder' (rS_ HO_3.out) (Kd.R_base ho0) hb); replace HB := Aside0.mk (below_step bB_ hb); (try clear hb ho0)))
     go_roundg k1
     case measure => have := HK1.out; omega
     case rel => exact ⟨(t190), (wrap64 (x4_1 + 1)), r3_, H', ⟨by have := HK1.out; omega⟩, ⟨rS_ (Kd.R_mono HO192.out (fun _ hk => trivial))⟩, ⟨bB_⟩⟩
    ·rw [if_neg c5] at H
     exact absurd H (by simp)
   ·rw [if_neg c4] at H
    have c4b0 : decide (x4_1 < (l0.length : Int)) = false := decide_eq_false c4
    clear c4
    obtain rfl := Option.some.inj H
    go_wp2
    go_ret
    exact ⟨_, r2_, rS_ HO_3.out, bB_⟩

end Go.Proofs.YtpilmhjbgbpbmaaDoor.X
