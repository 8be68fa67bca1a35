-- xprint.py
import Derived.Test.YtpilmhjbgbpbmaaXx0
import Derived.Test.YtpilmhjbgbpbmaaXx4
import Derived.Test.YtpilmhjbgbpbmaaXx8
import Derived.Test.YtpilmhjbgbpbmaaXx9
import Derived.Test.YtpilmhjbgbpbmaaXx10
import Derived.Test.YtpilmhjbgbpbmaaXx14
import Derived.Test.YtpilmhjbgbpbmaaXx18
import Derived.Test.YtpilmhjbgbpbmaaXx21
namespace Go.Proofs.Ytpilmhjbgbpbmaa.X
open Go.RowKit Go.Proofs.YtpilmhjbgbpbmaaW.PrintWords Go.Proofs.YtpilmhjbgbpbmaaW.PrintLast Go.Proofs.YtpilmhjbgbpbmaaW.PrintMore
attribute [local go_sem] max2_int min2_int max_two min_two max_three min_three max_four min_four   -- for this text's walks alone
set_option linter.unusedVariables false
set_option linter.unusedSimpArgs false

/-! ### spec_l05Own: function 81 -/
mutual
def spec_l05Own.l0 : Nat → List (List (S42)) → Int → List (List (S42)) → Int → Option ((List (List (S42))))
 | 0, _, _, _, _ => none
 | k + 1, x0, x1, x5, x6 => if x6 < (x0.length : Int) then (spec_l05Own.l1 k x0 x1 x5 x6 true 1) else (some x5)
def spec_l05Own.l1 : Nat → List (List (S42)) → Int → List (List (S42)) → Int → Bool → Int → Option ((List (List (S42))))
 | 0, _, _, _, _, _, _ => none
 | k + 1, x0, x1, x5, x6, x7, x8 => if x8 < x1 then (if x7 = true then (if 0 ≤ x6 then (if x6 < (x0.length : Int) then ((spec_l03Form.f k (rd_L3 x0 x6) x8).bind fun t953 => ((spec_CompareShapes.f k (rd_L3 x0 x6) t953).bind fun t956 => (spec_l05Own.l1 k x0 x1 x5 x6 (decide (t956 ≤ 0)) (wrap64 (x8 + 1))))) else (none)) else (none)) else (spec_l05Own.l1 k x0 x1 x5 x6 false (wrap64 (x8 + 1)))) else (if x7 = true then (if 0 ≤ x6 then (if x6 < (x0.length : Int) then (if x5.length < 5864062014805 then (spec_l05Own.l0 k x0 x1 (x5 ++ [rd_L3 x0 x6]) (wrap64 (x6 + 1))) else (none)) else (none)) else (none)) else (spec_l05Own.l0 k x0 x1 x5 (wrap64 (x6 + 1))))
end
def spec_l05Own.f (k : Nat) (l0 : List (List (S42))) (a1 : Int) : Option ((List (List (S42)))) := spec_l05Own.l0 k l0 a1 (([] : List (List (S42)))) 0
theorem spec_l05Own.mono_l : ∀ k, (∀ y0 y1 y2 y3, LeO (spec_l05Own.l0 k y0 y1 y2 y3) (spec_l05Own.l0 (k + 1) y0 y1 y2 y3)) ∧ (∀ y0 y1 y2 y3 y4 y5, LeO (spec_l05Own.l1 k y0 y1 y2 y3 y4 y5) (spec_l05Own.l1 (k + 1) y0 y1 y2 y3 y4 y5))
 | 0 => ⟨fun _ _ _ _ r h => by simp [spec_l05Own.l0] at h, fun _ _ _ _ _ _ r h => by simp [spec_l05Own.l1] at h⟩
 | k + 1 => by
  obtain ⟨ih0, ih1⟩ := spec_l05Own.mono_l k
  refine ⟨?_, ?_⟩
  ·intro y0 y1 y2 y3
   unfold spec_l05Own.l0
   repeat' first
   | (with_reducible exact ih0 _ _ _ _)
   | (with_reducible exact ih1 _ _ _ _ _ _)
   | (with_reducible exact spec_CompareShapes.mono _ _ _)
   | (with_reducible exact spec_l03Form.mono _ _ _)
   | (with_reducible exact LeO.refl _)
   | (with_reducible exact LeO.none _)
   | (with_reducible refine LeO.ite ?_ ?_)
   | (with_reducible refine LeO.bind ?_ (fun _ => ?_))
   | exact ih0 _ _ _ _
   | exact ih1 _ _ _ _ _ _
   | exact spec_CompareShapes.mono _ _ _
   | exact spec_l03Form.mono _ _ _
   | exact LeO.none _
   | refine LeO.ite ?_ ?_
   | refine LeO.bind ?_ (fun _ => ?_)
  ·intro y0 y1 y2 y3 y4 y5
   unfold spec_l05Own.l1
   repeat' first
   | (with_reducible exact ih0 _ _ _ _)
   | (with_reducible exact ih1 _ _ _ _ _ _)
   | (with_reducible exact spec_CompareShapes.mono _ _ _)
   | (with_reducible exact spec_l03Form.mono _ _ _)
   | (with_reducible exact LeO.refl _)
   | (with_reducible exact LeO.none _)
   | (with_reducible refine LeO.ite ?_ ?_)
   | (with_reducible refine LeO.bind ?_ (fun _ => ?_))
   | exact ih0 _ _ _ _
   | exact ih1 _ _ _ _ _ _
   | exact spec_CompareShapes.mono _ _ _
   | exact spec_l03Form.mono _ _ _
   | exact LeO.none _
   | refine LeO.ite ?_ ?_
   | refine LeO.bind ?_ (fun _ => ?_)
theorem spec_l05Own.mono : ∀ a0 a1 k, LeO (spec_l05Own.f k a0 a1) (spec_l05Own.f (k + 1) a0 a1) := by
 intro a0 a1 k
 obtain ⟨ih0, ih1⟩ := spec_l05Own.mono_l k
 unfold spec_l05Own.f
 repeat' first
   | (with_reducible exact ih0 _ _ _ _)
   | (with_reducible exact ih1 _ _ _ _ _ _)
   | (with_reducible exact spec_CompareShapes.mono _ _ _)
   | (with_reducible exact spec_l03Form.mono _ _ _)
   | (with_reducible exact LeO.refl _)
   | (with_reducible exact LeO.none _)
   | (with_reducible refine LeO.ite ?_ ?_)
   | (with_reducible refine LeO.bind ?_ (fun _ => ?_))
   | exact ih0 _ _ _ _
   | exact ih1 _ _ _ _ _ _
   | exact spec_CompareShapes.mono _ _ _
   | exact spec_l03Form.mono _ _ _
   | exact LeO.none _
   | refine LeO.ite ?_ ?_
   | refine LeO.bind ?_ (fun _ => ?_)
def spec_l05Own.T9 : Bool × List (List Nat × List Nat) := (true, [([], []), ([0], [0]), ([1], [1]), ([1], [1]), ([2, 3, 1], [1, 2, 3]), ([4, 1], [1, 4]), ([1], [1]), ([1], [1]), ([6, 7, 1], [1, 6, 7]), ([8, 1], [1, 8]), ([1], [1]), ([9, 10, 1, 1], [1, 9, 10]), ([5, 11, 11, 1], [1, 5, 11]), ([12, 1], [1, 12]), ([1, 13], [1, 13]), ([14, 12, 0, 1, 2, 3, 4, 5, 6, 7, 8, 9, 10, 11, 12, 13, 14], [0, 14])])
def spec_l05Own.B9 : List Nat := [0, 1, 3, 3, 15, 31, 3, 3, 195, 451, 3, 1987, 4095, 8191, 16383, 32767]
theorem spec_l05Own.tab9 : rtab .any (opsOf Try.f81 9) = spec_l05Own.T9 := by kernel_rfl
theorem spec_l05Own.bits9 : waitsOk spec_l05Own.T9.2 spec_l05Own.B9 = true := by kernel_rfl
set_option maxHeartbeats 8000000 in
set_option maxRecDepth 100000 in
theorem spec_l05Own.calls (k : Nat) (P0_ : Nat → Prop) (A0 : Option Addr) (c0 : Nat) (l0 : List (List (S42))) (a1 : Int) (r : List (List (S42))) (w : World) (hs0 : Kd.V (Kd.slice 42 k42) 27 w w.heap.size (fun k_ => P0_ k_) (.slice A0 l0.length c0) l0) (h : spec_l05Own.f k l0 a1 = some r) :
  Calls Try.prog 81 #[.slice A0 l0.length c0, .int .i64 a1] w fun e w' => ∃ v0_ : Value, e = .returned (v0_) ∧ Kd.N (Kd.slice 42 k42) 27 w' w.heap.size (fun k_ => (P0_ k_ ∨ w.heap.size ≤ k_)) v0_ r ∧ Below w.heap.size w w' := by
 have HO0 := Aside0.mk (show Kd.V (Kd.slice 42 k42) 27 w w.heap.size (fun k_ => (P0_ k_ ∨ w.heap.size ≤ k_)) (.slice A0 l0.length c0) l0 from Kd.V_mono hs0 (fun k_ hk => .inl hk))
 have HB := Aside0.mk (Below.refl w.heap.size w)
 have H : (spec_l05Own.l0 k l0 a1 (([] : List (List (S42)))) 0) = some r := h
 clear h
 obtain ⟨y948, hy948⟩ : ∃ y_ : List (List (S42)), y_ = (([] : List (List (S42)))) := ⟨_, rfl⟩
 replace H : (spec_l05Own.l0 k l0 a1 y948 0) = some r := by first | (rw [hy948]; with_reducible exact H) | (have H2_ := (Option.bind_some _ _).symm.trans H; rw [hy948]; with_reducible exact H2_) | (have H2_ := (Option.bind_some _ _).symm.trans H; with_reducible exact H2_) | with_reducible exact H | (rw [hy948]; exact H) | exact H
 have Ny948 := Aside0.mk hy948
 clear hy948
 have H' := Aside0.mk H
 clear H
 go_enter Try.func81, Try.ntmps81
 go_wp2_with (first | ((with_reducible refine gate_dst (N := 9) rfl ?_); refine Kd.N_lit (Kd.slice 42 k42) _ 27 ?hg (N' := 9) ?hd (xs := ([] : List (List (S42)))) (inner := []) (ok := (fun k_ => (P0_ k_ ∨ w.heap.size ≤ k_))) (okp := (fun k_ => (P0_ k_ ∨ w.heap.size ≤ k_))) ?hr ?hp (fun _ hk => hk) ((show ∀ k_, w.heap.size ≤ k_ → (fun k_ => (P0_ k_ ∨ w.heap.size ≤ k_)) k_ from fun k_ hk => (.inr (Nat.le_trans (below_size (by repeat (with_reducible first | exact HB.out | apply below_alloc | apply pw_below_drewN | apply below_drew1))) hk))) _ (Nat.le_refl _)) (Below.refl _ _) (Nat.le_refl _) (by simp) ?_; (case hd => rfl); (case hg => rfl); (case hr => first | (go_simp; done) | (go_simp; rfl)); (case hp => exact (Reps.none _ _)); intro v949 w3 ho4 hb hg_ hnew_; clear hg_ hnew_; (first | rw [← Ny948.out] at ho4 | (simp only [Int.reduceToNat] at ho4; rw [← Ny948.out] at ho4)); have n0_ := Aside0.mk (Kd.V_elder' (by (with_reducible repeat (first | apply Kd.V_alloc | apply Kd.V_drewN | apply Kd.V_drew)); exact HO0.out) (Kd.N_base ho4) hb); have n1_ := Aside0.mk (Kd.N_lower ho4 (below_size (by repeat (with_reducible first | exact HB.out | apply below_alloc | apply pw_below_drewN | apply below_drew1)))); have n2_ := Aside0.mk (below_step (by repeat (with_reducible first | exact HB.out | apply below_alloc | apply pw_below_drewN | apply below_drew1)) hb); clear HO0; clear HB; have HO0 := n0_; have HO950 := n1_; have HB := n2_; clear n0_ n1_ n2_; clear hb ho4))
 go_loopg [5, 6] k (fun kq v5 v6 w' => ∃ (x5_1 : List (List (S42))) (x6_1 : Int), v6 = .int .i64 x6_1 ∧ Aside0 (spec_l05Own.l0 kq l0 a1 x5_1 x6_1 = some r) ∧ Aside0 (kq ≤ k) ∧ Aside0 (Kd.V (Kd.slice 42 k42) 27 w' w.heap.size (fun k_ => (P0_ k_ ∨ w.heap.size ≤ k_) ∧ some k_ ≠ (v5 : Value).ownBlock) (.slice A0 l0.length c0) l0) ∧ Aside0 (Kd.N (Kd.slice 42 k42) 27 w' w.heap.size (fun k_ => (P0_ k_ ∨ w.heap.size ≤ k_)) v5 x5_1) ∧ Aside0 (Below w.heap.size w w'))
 case atStart => exact ⟨(y948), (0), (by first | rfl | (simp; done) | (simp [*]; done)), H', ⟨Nat.le_refl _⟩, ⟨by (with_reducible repeat (first | apply Kd.V_alloc | apply Kd.V_drewN | apply Kd.V_drew)); exact HO0.out⟩, ⟨by (with_reducible repeat (first | apply Kd.N_alloc | apply Kd.N_drewN | apply Kd.N_drew)); exact HO950.out⟩, ⟨by repeat (with_reducible first | exact HB.out | apply below_alloc | apply pw_below_drewN | apply below_drew1)⟩⟩
 case round =>
  clear H'
  try clear p2
  obtain ⟨x5_1, x6_1, rfl, HA, HK1, HO_0, HO_5, HB⟩ := hrel
  cases gk with
  | zero => exact absurd HA.out (by simp [spec_l05Own.l0])
  | succ k1 =>
   have H := HA.out
   clear HA
   simp only [spec_l05Own.l0] at H
   by_cases c5 : x6_1 < (l0.length : Int)
   ·rw [if_pos c5] at H
    have c5b0 : decide (x6_1 < (l0.length : Int)) = true := decide_eq_true c5
    clear c5
    have H' := Aside0.mk H
    clear H
    go_wp2
    go_loopg [7, 8] k1 (fun kq v7 v8 w' => ∃ (x7_2 : Bool) (x8_2 : Int), v7 = .bool x7_2 ∧ v8 = .int .i64 x8_2 ∧ Aside0 (spec_l05Own.l1 kq l0 a1 x5_1 x6_1 x7_2 x8_2 = some r) ∧ Aside0 (kq ≤ k1) ∧ Aside0 (Kd.V (Kd.slice 42 k42) 27 w' w.heap.size (fun k_ => (P0_ k_ ∨ w.heap.size ≤ k_) ∧ some k_ ≠ (u5 : Value).ownBlock) (.slice A0 l0.length c0) l0) ∧ Aside0 (Kd.N (Kd.slice 42 k42) 27 w' w.heap.size (fun k_ => (P0_ k_ ∨ w.heap.size ≤ k_)) u5 x5_1) ∧ Aside0 (Below w.heap.size w w'))
    case atStart => exact ⟨(true), (1), (by first | rfl | (simp; done) | (simp [*]; done)), (by first | rfl | (simp; done) | (simp [*]; done)), H', ⟨Nat.le_refl _⟩, ⟨by (with_reducible repeat (first | apply Kd.V_alloc | apply Kd.V_drewN | apply Kd.V_drew)); exact HO_0.out⟩, ⟨by (with_reducible repeat (first | apply Kd.N_alloc | apply Kd.N_drewN | apply Kd.N_drew)); exact HO_5.out⟩, ⟨by repeat (with_reducible first | exact HB.out | apply below_alloc | apply pw_below_drewN | apply below_drew1)⟩⟩
    case round =>
     clear H'
     try clear p2
     try clear c5
     try clear c5b0
     try clear p2
     obtain ⟨x7_2, x8_2, rfl, rfl, HA, HK2, HO_0, HO_5, HB⟩ := hrel
     cases gk with
     | zero => exact absurd HA.out (by simp [spec_l05Own.l1])
     | succ k2 =>
      have H := HA.out
      clear HA
      simp only [spec_l05Own.l1] at H
      by_cases c6 : x8_2 < a1
      ·rw [if_pos c6] at H
       have c6b0 : decide (x8_2 < a1) = true := decide_eq_true c6
       clear c6
       by_cases c7 : x7_2 = true
       ·subst c7
        have H1 : (if 0 ≤ x6_1 then (if x6_1 < (l0.length : Int) then ((spec_l03Form.f k2 (rd_L3 l0 x6_1) x8_2).bind fun t953 => ((spec_CompareShapes.f k2 (rd_L3 l0 x6_1) t953).bind fun t956 => (spec_l05Own.l1 k2 l0 a1 x5_1 x6_1 (decide (t956 ≤ 0)) (wrap64 (x8_2 + 1))))) else (none)) else (none)) = some r := by rw [if_pos rfl] at H; exact H
        clear H
        have H := H1
        clear H1
        by_cases c8 : 0 ≤ x6_1
        ·rw [if_pos c8] at H
         have c8b0 : decide (0 ≤ x6_1) = true := decide_eq_true c8
         clear c8
         by_cases c9 : x6_1 < (l0.length : Int)
         ·rw [if_pos c9] at H
          have c9b0 : decide (x6_1 < (l0.length : Int)) = true := decide_eq_true c9
          clear c9
          replace H := Option.bind_eq_some_iff.mp H
          obtain ⟨t953, A100, H⟩ := H
          replace H : ((spec_CompareShapes.f k2 (rd_L3 l0 x6_1) t953).bind fun t956 => (spec_l05Own.l1 k2 l0 a1 x5_1 x6_1 (decide (t956 ≤ 0)) (wrap64 (x8_2 + 1)))) = some r := H
          have A10 := Aside0.mk A100
          clear A100
          replace H := Option.bind_eq_some_iff.mp H
          obtain ⟨t956, A110, H⟩ := H
          replace H : (spec_l05Own.l1 k2 l0 a1 x5_1 x6_1 (decide (t956 ≤ 0)) (wrap64 (x8_2 + 1))) = some r := H
          have A11 := Aside0.mk A110
          clear A110
          have H' := Aside0.mk H
          clear H
          try go_wp2
          have n0_ := Aside0.mk (Kd.V_drew HO_0.out)
          have n1_ := Aside0.mk (Kd.N_drew HO_5.out)
          have n2_ := Aside0.mk (below_drew1 HB.out)
          clear HO_0
          clear HO_5
          clear HB
          have HO_0 := n0_
          have HO_5 := n1_
          have HB := n2_
          clear n0_ n1_ n2_
          have p951 : 0 ≤ (x6_1 : Int) := of_decide_eq_true (by first | (with_reducible assumption) | assumption)
          have q951 : x6_1 < (l0.length : Int) := of_decide_eq_true (by first | (with_reducible assumption) | assumption)
          obtain ⟨ad951, A951_0, c951_0, e951, hx951_0, hl951_0, hi951_0⟩ := at_L3 (Kd.V_reads' HO_0.out).2.2 x6_1 p951 q951
          cases e951
          obtain ⟨ce951, hce951, hMe951, hcc951⟩ := Kd.V_get HO_0.out [] x6_1 p951 (by first | exact q951 | exact of_decide_eq_true (by first | (with_reducible assumption) | assumption) | (have e_ := (Kd.V_reads' HO_0.out).1; omega))
          obtain ⟨ua951_0, uc951_0, rfl, ul951_0, ge951_0⟩ := Kd.FK_slice_open hMe951
          have hv951_0 := hcc951 0 _ rfl
          rw [Nat.add_zero, show ((Kd.slice 42 k42)).sz = 1 from rfl, Nat.mul_one] at hv951_0
          replace hv951_0 := Option.some.inj (hv951_0.symm.trans hx951_0)
          injection hv951_0 with hva_ hvn_ hvc_
          rw [hva_] at ge951_0
          rw [hvc_] at ul951_0
          have HL951_0 := Aside0.mk (show Kd.V k42 42 _ w.heap.size _ _ (rd_L3 l0 x6_1) from Kd.V_mk ul951_0 ge951_0)
          clear hva_ hvn_ hvc_ ge951_0 ul951_0
          clear hcc951 hce951
          have HR951_0 := Aside0.mk hi951_0
          have HC951_0 := Aside0.mk hl951_0
          clear hi951_0 hl951_0
          replace p951 := eq_true p951
          replace q951 := eq_true q951
          have p952 : 0 ≤ (x6_1 : Int) := of_decide_eq_true (by first | (with_reducible assumption) | assumption)
          have q952 : x6_1 < (l0.length : Int) := of_decide_eq_true (by first | (with_reducible assumption) | assumption)
          obtain ⟨ad952, A952_0, c952_0, e952, hx952_0, hl952_0, hi952_0⟩ := at_L3 (Kd.V_reads' HO_0.out).2.2 x6_1 p952 q952
          obtain rfl : ad951 = ad952 := (by injection e952)
          obtain ⟨ce952, hce952, hMe952, hcc952⟩ := Kd.V_get HO_0.out [] x6_1 p952 (by first | exact q952 | exact of_decide_eq_true (by first | (with_reducible assumption) | assumption) | (have e_ := (Kd.V_reads' HO_0.out).1; omega))
          obtain ⟨ua952_0, uc952_0, rfl, ul952_0, ge952_0⟩ := Kd.FK_slice_open hMe952
          have hv952_0 := hcc952 0 _ rfl
          rw [Nat.add_zero, show ((Kd.slice 42 k42)).sz = 1 from rfl, Nat.mul_one] at hv952_0
          replace hv952_0 := Option.some.inj (hv952_0.symm.trans hx952_0)
          injection hv952_0 with hva_ hvn_ hvc_
          rw [hva_] at ge952_0
          rw [hvc_] at ul952_0
          have HL952_0 := Aside0.mk (show Kd.V k42 42 _ w.heap.size _ _ (rd_L3 l0 x6_1) from Kd.V_mk ul952_0 ge952_0)
          clear hva_ hvn_ hvc_ ge952_0 ul952_0
          clear hcc952 hce952
          have HR952_0 := Aside0.mk hi952_0
          have HC952_0 := Aside0.mk hl952_0
          clear hi952_0 hl952_0
          replace p952 := eq_true p952
          replace q952 := eq_true q952
          have ea_ := Option.some.inj (hx951_0.symm.trans hx952_0)
          injection ea_ with ea_ en_ ec_
          subst ea_
          subst ec_
          clear en_
          refine start_ (n := 16) (S := fun w' => w'.cell? (ad951.add (x6_1).toNat) = some (.slice A951_0 (rd_L3 l0 x6_1).length c951_0) ∧ w'.cell? (ad951.add (x6_1).toNat) = some (.slice A951_0 (rd_L3 l0 x6_1).length c951_0)) (ds := []) #[F, F, F, F, F, F, F, F, F, F, F, F, F, F, F, F] (by kernel_rfl) rfl rfl ⟨hx951_0, hx952_0⟩ (fun hHeld => ?_); refine with_tabW spec_l05Own.tab9 spec_l05Own.bits9 (fun HT_ HW_ => ?_)
          generalize wr.drew = w12 at HO_0 HO_5 HB HL951_0 HL952_0 HR951_0 HR952_0 hx951_0 hx952_0 hHeld ⊢
          refine pure_ (i := 0) (N := some 21) (v := ?_) (a' := ?_) #[T, F, F, F, F, F, F, F, F, F, F, F, F, F, F, F] rfl rfl (any_of HT_.out (by kernel_rfl)) (fun _ _ _ h => h) (Or.inl ⟨by rfl, ?_⟩) ?_ ?_
          rotate_left
          ·intro w'
           go_simp
           with_reducible rfl
          rotate_left
          ·simp only [Act.put, List.setIfInBounds_toArray, List.set_cons_zero, List.set_cons_succ, i64_w, i32_w]
           rfl
          refine pure_ (i := 1) (N := some 22) (v := ?_) (a' := ?_) #[T, T, F, F, F, F, F, F, F, F, F, F, F, F, F, F] rfl rfl (any_of HT_.out (by kernel_rfl)) (fun _ _ _ h => h) (Or.inl ⟨by rfl, ?_⟩) ?_ ?_
          rotate_left
          ·intro w'
           go_simp
           with_reducible rfl
          rotate_left
          ·simp only [Act.put, List.setIfInBounds_toArray, List.set_cons_zero, List.set_cons_succ, i64_w, i32_w]
           rfl
          refine pure_ (i := 2) (N := some 23) (v := ?_) (a' := ?_) #[T, T, T, F, F, F, F, F, F, F, F, F, F, F, F, F] rfl rfl (any_of HT_.out (by kernel_rfl)) (fun _ _ _ h => h) (Or.inl ⟨by rfl, ?_⟩) ?_ ?_
          rotate_left
          ·intro w'
           go_simp
           with_reducible rfl
          rotate_left
          ·simp only [Act.put, List.setIfInBounds_toArray, List.set_cons_zero, List.set_cons_succ, i64_w, i32_w]
           rfl
          refine pure_ (i := 3) (N := some 24) (v := ?_) (a' := ?_) #[T, T, T, T, F, F, F, F, F, F, F, F, F, F, F, F] rfl rfl (any_of HT_.out (by kernel_rfl)) (fun _ _ _ h => h) (Or.inl ⟨by rfl, ?_⟩) ?_ ?_
          rotate_left
          ·intro w'
           go_simp
           with_reducible rfl
          rotate_left
          ·simp only [Act.put, List.setIfInBounds_toArray, List.set_cons_zero, List.set_cons_succ, i64_w, i32_w]
           rfl
          refine pure_ (i := 4) (N := some 25) (v := ?_) (a' := ?_) #[T, T, T, T, T, F, F, F, F, F, F, F, F, F, F, F] rfl rfl (any_of HT_.out (by kernel_rfl)) (fun _ _ _ h => h) (Or.inl ⟨by rfl, ?_⟩) ?_ ?_
          rotate_left
          ·intro w'
           go_simp
           with_reducible rfl
          rotate_left
          ·simp only [Act.put, List.setIfInBounds_toArray, List.set_cons_zero, List.set_cons_succ, i64_w, i32_w]
           rfl
          refine pure_ (i := 6) (N := some 27) (v := ?_) (a' := ?_) #[T, T, T, T, T, F, T, F, F, F, F, F, F, F, F, F] rfl rfl (any_of HT_.out (by kernel_rfl)) (fun _ _ _ h => h) (Or.inl ⟨by rfl, ?_⟩) ?_ ?_
          rotate_left
          ·intro w'
           go_simp
           with_reducible rfl
          rotate_left
          ·simp only [Act.put, List.setIfInBounds_toArray, List.set_cons_zero, List.set_cons_succ, i64_w, i32_w]
           rfl
          refine pure_ (i := 7) (N := some 28) (v := ?_) (a' := ?_) #[T, T, T, T, T, F, T, T, F, F, F, F, F, F, F, F] rfl rfl (any_of HT_.out (by kernel_rfl)) (fun _ _ _ h => h) (Or.inl ⟨by rfl, ?_⟩) ?_ ?_
          rotate_left
          ·intro w'
           go_simp
           with_reducible rfl
          rotate_left
          ·simp only [Act.put, List.setIfInBounds_toArray, List.set_cons_zero, List.set_cons_succ, i64_w, i32_w]
           rfl
          refine pure_ (i := 8) (N := some 29) (v := ?_) (a' := ?_) #[T, T, T, T, T, F, T, T, T, F, F, F, F, F, F, F] rfl rfl (any_of HT_.out (by kernel_rfl)) (fun _ _ _ h => h) (Or.inl ⟨by rfl, ?_⟩) ?_ ?_
          rotate_left
          ·intro w'
           go_simp
           with_reducible rfl
          rotate_left
          ·simp only [Act.put, List.setIfInBounds_toArray, List.set_cons_zero, List.set_cons_succ, i64_w, i32_w]
           rfl
          refine pure_ (i := 10) (N := some 31) (v := ?_) (a' := ?_) #[T, T, T, T, T, F, T, T, T, F, T, F, F, F, F, F] rfl rfl (any_of HT_.out (by kernel_rfl)) (fun _ _ _ h => h) (Or.inl ⟨by rfl, ?_⟩) ?_ ?_
          rotate_left
          ·intro w'
           go_simp
           with_reducible rfl
          rotate_left
          ·simp only [Act.put, List.setIfInBounds_toArray, List.set_cons_zero, List.set_cons_succ, i64_w, i32_w]
           rfl
          refine take_ (i := 5) (N := some 26) (v := ?_) (a' := ?_) #[T, T, T, T, T, T, T, T, T, F, T, F, F, F, F, F] rfl rfl (take_ofW HT_.out HW_.out (by kernel_rfl)) (fun _ _ _ h => h) (Or.inl ⟨by rfl, ?_⟩) hHeld ?_ ?_
          rotate_left
          ·rintro w' ⟨s0, s1⟩
           go_simp
           with_reducible rfl
          rotate_left
          ·simp only [Act.put, List.setIfInBounds_toArray, List.set_cons_zero, List.set_cons_succ, i64_w, i32_w]
           rfl
          refine take_ (i := 9) (N := some 30) (v := ?_) (a' := ?_) #[T, T, T, T, T, T, T, T, T, T, T, F, F, F, F, F] rfl rfl (take_ofW HT_.out HW_.out (by kernel_rfl)) (fun _ _ _ h => h) (Or.inl ⟨by rfl, ?_⟩) hHeld ?_ ?_
          rotate_left
          ·rintro w' ⟨s0, s1⟩
           go_simp
           with_reducible rfl
          rotate_left
          ·simp only [Act.put, List.setIfInBounds_toArray, List.set_cons_zero, List.set_cons_succ, i64_w, i32_w]
           rfl
          refine one_ (i := 11) (N := some 32) #[T, T, T, T, T, T, T, T, T, T, T, T, F, F, F, F] rfl rfl (one_of HT_.out (by kernel_rfl)) (by decide) (fun K hK => ?_)
          refine goes_ Try.func55 (by kernel_rfl) rfl #[.slice A951_0 (rd_L3 l0 x6_1).length c951_0, .int .i64 x8_2] (by rfl) rfl rfl (by (try simp only [List.map_toArray, List.map_cons, List.map_nil]); first | done | rfl) ?_
          with_reducible refine (spec_l03Form.calls k2 _ _ (rd_L3 l0 x6_1) x8_2 t953 _ ?side1 ?side2 A10.out).mono ?_
          (case side1 => repeat (first | exact (by repeat (first | (with_reducible exact HR952_0.out) | (with_reducible refine Kd.C_alloc ?_ _) | (with_reducible refine Kd.C_drewN ?_ _) | (with_reducible refine Kd.C_drew ?_) | exact HR952_0.out)) | (with_reducible refine Kd.C_alloc ?_ _) | (with_reducible refine Kd.C_drewN ?_ _) | (with_reducible refine Kd.C_drew ?_)))
          (case side2 => exact HC952_0.out)
          rintro e w13 ⟨v954, rfl, ho0, hb⟩
          have HS0_ := (hb.cell (World.block_lt_of_cell? _ _ (hHeld.1))).trans (hHeld.1)
          have HS1_ := (hb.cell (World.block_lt_of_cell? _ _ (hHeld.2))).trans (hHeld.2)
          refine ⟨_, rfl, ?_⟩
          have n0_ := Aside0.mk (Kd.V_elder' (by (with_reducible repeat (first | apply Kd.V_alloc | apply Kd.V_drewN | apply Kd.V_drew)); exact HO_0.out) (Kd.R_base ho0) hb)
          have n1_ := Aside0.mk (Kd.N_elder' (by (with_reducible repeat (first | apply Kd.N_alloc | apply Kd.N_drewN | apply Kd.N_drew)); exact HO_5.out) (Kd.R_base ho0) hb)
          have n2_ := Aside0.mk (Kd.V_elder' (by (with_reducible repeat (first | apply Kd.V_alloc | apply Kd.V_drewN | apply Kd.V_drew)); exact HL951_0.out) (Kd.R_base ho0) hb)
          have n3_ := Aside0.mk (Kd.V_elder' (by (with_reducible repeat (first | apply Kd.V_alloc | apply Kd.V_drewN | apply Kd.V_drew)); exact HL952_0.out) (Kd.R_base ho0) hb)
          have n4_ := Aside0.mk (Kd.R_lower (Kd.R_newM (M := fun k_ => (w.heap.size ≤ k_)) ho0 (below_size (by repeat (with_reducible first | exact HB.out | apply below_alloc | apply pw_below_drewN | apply below_drew1))) (fun k_ h_ => h_)) (below_size (by repeat (with_reducible first | exact HB.out | apply below_alloc | apply pw_below_drewN | apply below_drew1))))
          have n5_ := Aside0.mk (Kd.C_below (by repeat (first | (with_reducible exact HR951_0.out) | (with_reducible refine Kd.C_alloc ?_ _) | (with_reducible refine Kd.C_drewN ?_ _) | (with_reducible refine Kd.C_drew ?_) | exact HR951_0.out)) hb)
          have n6_ := Aside0.mk (Kd.C_below (by repeat (first | (with_reducible exact HR952_0.out) | (with_reducible refine Kd.C_alloc ?_ _) | (with_reducible refine Kd.C_drewN ?_ _) | (with_reducible refine Kd.C_drew ?_) | exact HR952_0.out)) hb)
          have n7_ := Aside0.mk (below_step (by repeat (with_reducible first | exact HB.out | apply below_alloc | apply pw_below_drewN | apply below_drew1)) hb)
          clear HO_0
          clear HO_5
          clear HL951_0
          clear HL952_0
          clear HR951_0
          clear HR952_0
          clear HB
          have HO_0 := n0_
          have HO_5 := n1_
          have HL951_0 := n2_
          have HL952_0 := n3_
          have HO955 := n4_
          have HR951_0 := n5_
          have HR952_0 := n6_
          have HB := n7_
          clear n0_ n1_ n2_ n3_ n4_ n5_ n6_ n7_
          (try clear hb)
          (try clear ho0)
          obtain ⟨Ao14, co14, eo14⟩ := Kd.R_slice HO955.out
          (first | subst eo14 | (injection eo14 with f1_ f2_ f3_; have f4_ := f1_.symm; have f5_ := f3_.symm; clear f1_ f2_ f3_; subst f4_; subst f5_))
          refine hK.out _ _ ⟨HS0_, HS1_⟩ (fun hHeld => ?_)
          clear hK K
          refine norm_ (a' := ?_) ?_ ?_
          rotate_left
          ·show Act.put _ (some 32) _ = _
           simp only [Act.put, List.setIfInBounds_toArray, List.set_cons_zero, List.set_cons_succ, i64_w, i32_w]
           rfl
          refine one_ (i := 12) (N := some 33) #[T, T, T, T, T, T, T, T, T, T, T, T, T, F, F, F] rfl rfl (one_of HT_.out (by kernel_rfl)) (by decide) (fun K hK => ?_)
          refine goes_ Try.func54 (by kernel_rfl) rfl #[.slice A951_0 (rd_L3 l0 x6_1).length c951_0, .slice Ao14 t953.length co14] (by rfl) rfl rfl (by (try simp only [List.map_toArray, List.map_cons, List.map_nil]); first | done | rfl) ?_
          with_reducible refine (spec_CompareShapes.calls k2 _ _ (rd_L3 l0 x6_1) _ _ t953 t956 _ ?side1 ?side2 ?side3 ?side4 A11.out).mono ?_
          (case side1 => repeat (first | exact (by repeat (first | (with_reducible exact HR951_0.out) | (with_reducible refine Kd.C_alloc ?_ _) | (with_reducible refine Kd.C_drewN ?_ _) | (with_reducible refine Kd.C_drew ?_) | exact HR951_0.out)) | (with_reducible refine Kd.C_alloc ?_ _) | (with_reducible refine Kd.C_drewN ?_ _) | (with_reducible refine Kd.C_drew ?_)))
          (case side2 => exact HC951_0.out)
          (case side3 => repeat (first | exact (Kd.R_reads' HO955.out).2.2 | (with_reducible refine Kd.C_alloc ?_ _) | (with_reducible refine Kd.C_drewN ?_ _) | (with_reducible refine Kd.C_drew ?_)))
          (case side4 => exact (Kd.R_reads' HO955.out).2.1)
          rintro e w15 ⟨rfl, hb⟩
          have HS0_ := (hb.cell (World.block_lt_of_cell? _ _ (hHeld.1))).trans (hHeld.1)
          have HS1_ := (hb.cell (World.block_lt_of_cell? _ _ (hHeld.2))).trans (hHeld.2)
          refine ⟨_, rfl, ?_⟩
          have n0_ := Aside0.mk (Kd.V_below (by (with_reducible repeat (first | apply Kd.V_alloc | apply Kd.V_drewN | apply Kd.V_drew)); exact HO_0.out) hb)
          have n1_ := Aside0.mk (Kd.N_below (by (with_reducible repeat (first | apply Kd.N_alloc | apply Kd.N_drewN | apply Kd.N_drew)); exact HO_5.out) hb)
          have n2_ := Aside0.mk (Kd.V_below (by (with_reducible repeat (first | apply Kd.V_alloc | apply Kd.V_drewN | apply Kd.V_drew)); exact HL951_0.out) hb)
          have n3_ := Aside0.mk (Kd.V_below (by (with_reducible repeat (first | apply Kd.V_alloc | apply Kd.V_drewN | apply Kd.V_drew)); exact HL952_0.out) hb)
          have n4_ := Aside0.mk (Kd.R_below (by (with_reducible repeat (first | apply Kd.R_alloc | apply Kd.R_drewN | apply Kd.R_drew)); exact HO955.out) hb)
          have n5_ := Aside0.mk (Kd.C_below (by repeat (first | (with_reducible exact HR951_0.out) | (with_reducible refine Kd.C_alloc ?_ _) | (with_reducible refine Kd.C_drewN ?_ _) | (with_reducible refine Kd.C_drew ?_) | exact HR951_0.out)) hb)
          have n6_ := Aside0.mk (Kd.C_below (by repeat (first | (with_reducible exact HR952_0.out) | (with_reducible refine Kd.C_alloc ?_ _) | (with_reducible refine Kd.C_drewN ?_ _) | (with_reducible refine Kd.C_drew ?_) | exact HR952_0.out)) hb)
          have n7_ := Aside0.mk (below_step (by repeat (with_reducible first | exact HB.out | apply below_alloc | apply pw_below_drewN | apply below_drew1)) hb)
          clear HO_0
          clear HO_5
          clear HL951_0
          clear HL952_0
          clear HO955
          clear HR951_0
          clear HR952_0
          clear HB
          have HO_0 := n0_
          have HO_5 := n1_
          have HL951_0 := n2_
          have HL952_0 := n3_
          have HO955 := n4_
          have HR951_0 := n5_
          have HR952_0 := n6_
          have HB := n7_
          clear n0_ n1_ n2_ n3_ n4_ n5_ n6_ n7_
          (try clear hb)
          refine hK.out _ _ ⟨HS0_, HS1_⟩ (fun hHeld => ?_)
          clear hK K
          refine norm_ (a' := ?_) ?_ ?_
          rotate_left
          ·show Act.put _ (some 33) _ = _
           simp only [Act.put, List.setIfInBounds_toArray, List.set_cons_zero, List.set_cons_succ, i64_w, i32_w]
           rfl
          refine pure_ (i := 13) (N := some 34) (v := ?_) (a' := ?_) #[T, T, T, T, T, T, T, T, T, T, T, T, T, T, F, F] rfl rfl (any_of HT_.out (by kernel_rfl)) (fun _ _ _ h => h) (Or.inl ⟨by rfl, ?_⟩) ?_ ?_
          rotate_left
          ·intro w'
           go_simp
           with_reducible rfl
          rotate_left
          ·simp only [Act.put, List.setIfInBounds_toArray, List.set_cons_zero, List.set_cons_succ, i64_w, i32_w]
           rfl
          refine pure_ (i := 14) (N := some 35) (v := ?_) (a' := ?_) #[T, T, T, T, T, T, T, T, T, T, T, T, T, T, T, F] rfl rfl (any_of HT_.out (by kernel_rfl)) (fun _ _ _ h => h) (Or.inl ⟨by rfl, ?_⟩) ?_ ?_
          rotate_left
          ·intro w'
           go_simp
           with_reducible rfl
          rotate_left
          ·simp only [Act.put, List.setIfInBounds_toArray, List.set_cons_zero, List.set_cons_succ, i64_w, i32_w]
           rfl
          refine pure_ (i := 15) (N := some 7) (v := ?_) (a' := ?_) #[T, T, T, T, T, T, T, T, T, T, T, T, T, T, T, T] rfl rfl (any_of HT_.out (by kernel_rfl)) (fun _ _ _ h => h) (Or.inl ⟨by rfl, ?_⟩) ?_ ?_
          rotate_left
          ·intro w'
           go_simp
           with_reducible rfl
          rotate_left
          ·simp only [Act.put, List.setIfInBounds_toArray, List.set_cons_zero, List.set_cons_succ, i64_w, i32_w]
           rfl
          refine done_ (done_of HT_.out (by kernel_rfl)) ?_
          try go_wp2
          go_roundg k2
          case measure => have := HK1.out; have := HK2.out; omega
          case rel => exact ⟨(decide (t956 ≤ 0)), (wrap64 (x8_2 + 1)), (by first | rfl | (simp; done) | (simp [*]; done)), (by first | rfl | (simp; done) | (simp [*]; done)), H', ⟨by have := HK1.out; have := HK2.out; omega⟩, ⟨by (with_reducible repeat (first | apply Kd.V_alloc | apply Kd.V_drewN | apply Kd.V_drew)); exact Kd.V_mono HO_0.out (fun _ hk => ⟨hk.1.1, hk.1.2⟩)⟩, ⟨by (with_reducible repeat (first | apply Kd.N_alloc | apply Kd.N_drewN | apply Kd.N_drew)); exact Kd.N_mono HO_5.out (fun _ hk => hk.1)⟩, ⟨by repeat (with_reducible first | exact HB.out | apply below_alloc | apply pw_below_drewN | apply below_drew1)⟩⟩
         ·rw [if_neg c9] at H
          exact absurd H (by simp)
        ·rw [if_neg c8] at H
         exact absurd H (by simp)
       ·replace c7 := Bool.eq_false_iff.mpr c7
        subst c7
        have H1 : (spec_l05Own.l1 k2 l0 a1 x5_1 x6_1 false (wrap64 (x8_2 + 1))) = some r := by rw [if_neg (show ¬ (false = true) by decide)] at H; exact H
        clear H
        have H := H1
        clear H1
        have H' := Aside0.mk H
        clear H
        try go_wp2
        have n0_ := Aside0.mk (Kd.V_drew HO_0.out)
        have n1_ := Aside0.mk (Kd.N_drew HO_5.out)
        have n2_ := Aside0.mk (below_drew1 HB.out)
        clear HO_0
        clear HO_5
        clear HB
        have HO_0 := n0_
        have HO_5 := n1_
        have HB := n2_
        clear n0_ n1_ n2_
        refine start_ (n := 16) (S := fun w' => True) (ds := []) #[F, F, F, F, F, F, F, F, F, F, F, F, F, F, F, F] (by kernel_rfl) rfl rfl trivial (fun hHeld => ?_); refine with_tabW spec_l05Own.tab9 spec_l05Own.bits9 (fun HT_ HW_ => ?_)
        generalize wr.drew = w16 at HO_0 HO_5 HB hHeld ⊢
        refine pure_ (i := 0) (N := some 21) (v := ?_) (a' := ?_) #[T, F, F, F, F, F, F, F, F, F, F, F, F, F, F, F] rfl rfl (any_of HT_.out (by kernel_rfl)) (fun _ _ _ h => h) (Or.inl ⟨by rfl, ?_⟩) ?_ ?_
        rotate_left
        ·intro w'
         go_simp
         with_reducible rfl
        rotate_left
        ·simp only [Act.put, List.setIfInBounds_toArray, List.set_cons_zero, List.set_cons_succ, i64_w, i32_w]
         rfl
        refine pure_ (i := 1) (N := some 22) (v := ?_) (a' := ?_) #[T, T, F, F, F, F, F, F, F, F, F, F, F, F, F, F] rfl rfl (any_of HT_.out (by kernel_rfl)) (fun _ _ _ h => h) (Or.inl ⟨by rfl, ?_⟩) ?_ ?_
        rotate_left
        ·intro w'
         go_simp
         with_reducible rfl
        rotate_left
        ·simp only [Act.put, List.setIfInBounds_toArray, List.set_cons_zero, List.set_cons_succ, i64_w, i32_w]
         rfl
        refine pure_ (i := 2) (N := some 23) (v := undef) (a' := ?_) #[T, T, T, F, F, F, F, F, F, F, F, F, F, F, F, F] rfl rfl (any_of HT_.out (by kernel_rfl)) (fun _ _ _ h => h) (Or.inr ⟨by rfl, rfl⟩) ?_ ?_
        rotate_left
        ·simp only [Act.put, List.setIfInBounds_toArray, List.set_cons_zero, List.set_cons_succ, i64_w, i32_w]
         rfl
        refine pure_ (i := 3) (N := some 24) (v := undef) (a' := ?_) #[T, T, T, T, F, F, F, F, F, F, F, F, F, F, F, F] rfl rfl (any_of HT_.out (by kernel_rfl)) (fun _ _ _ h => h) (Or.inr ⟨by rfl, rfl⟩) ?_ ?_
        rotate_left
        ·simp only [Act.put, List.setIfInBounds_toArray, List.set_cons_zero, List.set_cons_succ, i64_w, i32_w]
         rfl
        refine pure_ (i := 4) (N := some 25) (v := undef) (a' := ?_) #[T, T, T, T, T, F, F, F, F, F, F, F, F, F, F, F] rfl rfl (any_of HT_.out (by kernel_rfl)) (fun _ _ _ h => h) (Or.inr ⟨by rfl, rfl⟩) ?_ ?_
        rotate_left
        ·simp only [Act.put, List.setIfInBounds_toArray, List.set_cons_zero, List.set_cons_succ, i64_w, i32_w]
         rfl
        refine pure_ (i := 5) (N := some 26) (v := undef) (a' := ?_) #[T, T, T, T, T, T, F, F, F, F, F, F, F, F, F, F] rfl rfl (any_of HT_.out (by kernel_rfl)) (fun _ _ _ h => h) (Or.inr ⟨by rfl, rfl⟩) ?_ ?_
        rotate_left
        ·simp only [Act.put, List.setIfInBounds_toArray, List.set_cons_zero, List.set_cons_succ, i64_w, i32_w]
         rfl
        refine pure_ (i := 6) (N := some 27) (v := undef) (a' := ?_) #[T, T, T, T, T, T, T, F, F, F, F, F, F, F, F, F] rfl rfl (any_of HT_.out (by kernel_rfl)) (fun _ _ _ h => h) (Or.inr ⟨by rfl, rfl⟩) ?_ ?_
        rotate_left
        ·simp only [Act.put, List.setIfInBounds_toArray, List.set_cons_zero, List.set_cons_succ, i64_w, i32_w]
         rfl
        refine pure_ (i := 7) (N := some 28) (v := undef) (a' := ?_) #[T, T, T, T, T, T, T, T, F, F, F, F, F, F, F, F] rfl rfl (any_of HT_.out (by kernel_rfl)) (fun _ _ _ h => h) (Or.inr ⟨by rfl, rfl⟩) ?_ ?_
        rotate_left
        ·simp only [Act.put, List.setIfInBounds_toArray, List.set_cons_zero, List.set_cons_succ, i64_w, i32_w]
         rfl
        refine pure_ (i := 8) (N := some 29) (v := undef) (a' := ?_) #[T, T, T, T, T, T, T, T, T, F, F, F, F, F, F, F] rfl rfl (any_of HT_.out (by kernel_rfl)) (fun _ _ _ h => h) (Or.inr ⟨by rfl, rfl⟩) ?_ ?_
        rotate_left
        ·simp only [Act.put, List.setIfInBounds_toArray, List.set_cons_zero, List.set_cons_succ, i64_w, i32_w]
         rfl
        refine pure_ (i := 9) (N := some 30) (v := undef) (a' := ?_) #[T, T, T, T, T, T, T, T, T, T, F, F, F, F, F, F] rfl rfl (any_of HT_.out (by kernel_rfl)) (fun _ _ _ h => h) (Or.inr ⟨by rfl, rfl⟩) ?_ ?_
        rotate_left
        ·simp only [Act.put, List.setIfInBounds_toArray, List.set_cons_zero, List.set_cons_succ, i64_w, i32_w]
         rfl
        refine pure_ (i := 10) (N := some 31) (v := undef) (a' := ?_) #[T, T, T, T, T, T, T, T, T, T, T, F, F, F, F, F] rfl rfl (any_of HT_.out (by kernel_rfl)) (fun _ _ _ h => h) (Or.inr ⟨by rfl, rfl⟩) ?_ ?_
        rotate_left
        ·simp only [Act.put, List.setIfInBounds_toArray, List.set_cons_zero, List.set_cons_succ, i64_w, i32_w]
         rfl
        refine pure_ (i := 11) (N := some 32) (v := undef) (a' := ?_) #[T, T, T, T, T, T, T, T, T, T, T, T, F, F, F, F] rfl rfl (any_of HT_.out (by kernel_rfl)) (fun _ _ _ h => h) (Or.inr ⟨by rfl, rfl⟩) ?_ ?_
        rotate_left
        ·simp only [Act.put, List.setIfInBounds_toArray, List.set_cons_zero, List.set_cons_succ, i64_w, i32_w]
         rfl
        refine pure_ (i := 12) (N := some 33) (v := undef) (a' := ?_) #[T, T, T, T, T, T, T, T, T, T, T, T, T, F, F, F] rfl rfl (any_of HT_.out (by kernel_rfl)) (fun _ _ _ h => h) (Or.inr ⟨by rfl, rfl⟩) ?_ ?_
        rotate_left
        ·simp only [Act.put, List.setIfInBounds_toArray, List.set_cons_zero, List.set_cons_succ, i64_w, i32_w]
         rfl
        refine pure_ (i := 13) (N := some 34) (v := undef) (a' := ?_) #[T, T, T, T, T, T, T, T, T, T, T, T, T, T, F, F] rfl rfl (any_of HT_.out (by kernel_rfl)) (fun _ _ _ h => h) (Or.inr ⟨by rfl, rfl⟩) ?_ ?_
        rotate_left
        ·simp only [Act.put, List.setIfInBounds_toArray, List.set_cons_zero, List.set_cons_succ, i64_w, i32_w]
         rfl
        refine pure_ (i := 14) (N := some 35) (v := ?_) (a' := ?_) #[T, T, T, T, T, T, T, T, T, T, T, T, T, T, T, F] rfl rfl (any_of HT_.out (by kernel_rfl)) (fun _ _ _ h => h) (Or.inl ⟨by rfl, ?_⟩) ?_ ?_
        rotate_left
        ·intro w'
         go_simp
         with_reducible rfl
        rotate_left
        ·simp only [Act.put, List.setIfInBounds_toArray, List.set_cons_zero, List.set_cons_succ, i64_w, i32_w]
         rfl
        refine pure_ (i := 15) (N := some 7) (v := ?_) (a' := ?_) #[T, T, T, T, T, T, T, T, T, T, T, T, T, T, T, T] rfl rfl (any_of HT_.out (by kernel_rfl)) (fun _ _ _ h => h) (Or.inl ⟨by rfl, ?_⟩) ?_ ?_
        rotate_left
        ·intro w'
         go_simp
         with_reducible rfl
        rotate_left
        ·simp only [Act.put, List.setIfInBounds_toArray, List.set_cons_zero, List.set_cons_succ, i64_w, i32_w]
         rfl
        refine done_ (done_of HT_.out (by kernel_rfl)) ?_
        try go_wp2
        go_roundg k2
        case measure => have := HK1.out; have := HK2.out; omega
        case rel => exact ⟨(false), (wrap64 (x8_2 + 1)), (by first | rfl | (simp; done) | (simp [*]; done)), (by first | rfl | (simp; done) | (simp [*]; done)), H', ⟨by have := HK1.out; have := HK2.out; omega⟩, ⟨by (with_reducible repeat (first | apply Kd.V_alloc | apply Kd.V_drewN | apply Kd.V_drew)); exact HO_0.out⟩, ⟨by (with_reducible repeat (first | apply Kd.N_alloc | apply Kd.N_drewN | apply Kd.N_drew)); exact HO_5.out⟩, ⟨by repeat (with_reducible first | exact HB.out | apply below_alloc | apply pw_below_drewN | apply below_drew1)⟩⟩
      ·rw [if_neg c6] at H
       have c6b0 : decide (x8_2 < a1) = false := decide_eq_false c6
       clear c6
       by_cases c17 : x7_2 = true
       ·subst c17
        have H1 : (if 0 ≤ x6_1 then (if x6_1 < (l0.length : Int) then (if x5_1.length < 5864062014805 then (spec_l05Own.l0 k2 l0 a1 (x5_1 ++ [rd_L3 l0 x6_1]) (wrap64 (x6_1 + 1))) else (none)) else (none)) else (none)) = some r := by rw [if_pos rfl] at H; exact H
        clear H
        have H := H1
        clear H1
        by_cases c18 : 0 ≤ x6_1
        ·rw [if_pos c18] at H
         have c18b0 : decide (0 ≤ x6_1) = true := decide_eq_true c18
         clear c18
         by_cases c19 : x6_1 < (l0.length : Int)
         ·rw [if_pos c19] at H
          have c19b0 : decide (x6_1 < (l0.length : Int)) = true := decide_eq_true c19
          clear c19
          by_cases c20 : x5_1.length < 5864062014805
          ·rw [if_pos c20] at H
           have LMc20 := Aside0.mk c20
           clear c20
           obtain ⟨y958, hy958⟩ : ∃ y_ : List (List (S42)), y_ = (x5_1 ++ [rd_L3 l0 x6_1]) := ⟨_, rfl⟩
           replace H : (spec_l05Own.l0 k2 l0 a1 y958 (wrap64 (x6_1 + 1))) = some r := by first | (rw [hy958]; with_reducible exact H) | (have H2_ := (Option.bind_some _ _).symm.trans H; rw [hy958]; with_reducible exact H2_) | (have H2_ := (Option.bind_some _ _).symm.trans H; with_reducible exact H2_) | with_reducible exact H | (rw [hy958]; exact H) | exact H
           have Ny958 := Aside0.mk hy958
           clear hy958
           have H' := Aside0.mk H
           clear H
           have p957 : 0 ≤ (x6_1 : Int) := of_decide_eq_true (by first | (with_reducible assumption) | assumption)
           have q957 : x6_1 < (l0.length : Int) := of_decide_eq_true (by first | (with_reducible assumption) | assumption)
           obtain ⟨ad957, A957_0, c957_0, e957, hx957_0, hl957_0, hi957_0⟩ := at_L3 (Kd.V_reads' HO_0.out).2.2 x6_1 p957 q957
           cases e957
           obtain ⟨ce957, hce957, hMe957, hcc957⟩ := Kd.V_get HO_0.out [] x6_1 p957 (by first | exact q957 | exact of_decide_eq_true (by first | (with_reducible assumption) | assumption) | (have e_ := (Kd.V_reads' HO_0.out).1; omega))
           obtain ⟨ua957_0, uc957_0, rfl, ul957_0, ge957_0⟩ := Kd.FK_slice_open hMe957
           have hv957_0 := hcc957 0 _ rfl
           rw [Nat.add_zero, show ((Kd.slice 42 k42)).sz = 1 from rfl, Nat.mul_one] at hv957_0
           replace hv957_0 := Option.some.inj (hv957_0.symm.trans hx957_0)
           injection hv957_0 with hva_ hvn_ hvc_
           rw [hva_] at ge957_0
           rw [hvc_] at ul957_0
           have HL957_0 := Aside0.mk (show Kd.V k42 42 _ w.heap.size _ _ (rd_L3 l0 x6_1) from Kd.V_mk ul957_0 ge957_0)
           clear hva_ hvn_ hvc_ ge957_0 ul957_0
           clear hcc957 hce957
           have HR957_0 := Aside0.mk hi957_0
           have HC957_0 := Aside0.mk hl957_0
           clear hi957_0 hl957_0
           replace p957 := eq_true p957
           replace q957 := eq_true q957
           go_wp2_with (first | ((with_reducible refine gate_builtin (b := .append) (xs := #[.tmp 37, .tmp 42]) rfl ?_); at_builtin; refine Kd.N_append (Kd.slice 42 k42) (w0 := w) w.heap.size rfl (.tmp 37) (.tmp 42) 43 27 (.slice none 0 0) 24 rfl Try.underlying43 info27 rfl (by decide) (by omega) u5 x5_1 (rd_L3 l0 x6_1) [.slice A957_0 (rd_L3 l0 x6_1).length c957_0] (fun k_ => (P0_ k_ ∨ w.heap.size ≤ k_)) (fun k_ => ((fun k_ => (P0_ k_ ∨ w.heap.size ≤ k_))) k_ ∧ some k_ ≠ (u5 : Value).ownBlock) rfl rfl ?aP (fun _ hk => hk) ?aF ?aO ?aB ?aS ?aL ?_; (case aP => exact (Kd.FK_slice_mk (Kd.V_reads' (Kd.V_mono (ok' := (fun k_ => ((fun k_ => (P0_ k_ ∨ w.heap.size ≤ k_))) k_ ∧ some k_ ≠ (u5 : Value).ownBlock)) (HL957_0.out) (fun k_ hk => ⟨hk.1, hk.2⟩))).2.1 (Kd.V_F (Kd.V_mono (ok' := (fun k_ => ((fun k_ => (P0_ k_ ∨ w.heap.size ≤ k_))) k_ ∧ some k_ ≠ (u5 : Value).ownBlock)) (HL957_0.out) (fun k_ hk => ⟨hk.1, hk.2⟩))))); (case aB => exact (by repeat (with_reducible first | exact HB.out | apply below_alloc | apply pw_below_drewN | apply below_drew1))); (case aF => exact (fun k_ hk => (.inr (Nat.le_trans (below_size (by repeat (with_reducible first | exact HB.out | apply below_alloc | apply pw_below_drewN | apply below_drew1))) hk)))); (case aO => exact (by (with_reducible repeat (first | apply Kd.N_alloc | apply Kd.N_drewN | apply Kd.N_drew)); exact HO_5.out)); (case aS => exact (below_size (by repeat (with_reducible first | exact HB.out | apply below_alloc | apply pw_below_drewN | apply below_drew1)))); (case aL => have := LMc20.out; omega); intro v959 w21 ho hb hg hat; rw [← Ny958.out] at ho; have n0_ := Aside0.mk (Kd.V_afterv (ok := (fun k_ => (P0_ k_ ∨ w.heap.size ≤ k_))) (by (with_reducible repeat (first | apply Kd.V_alloc | apply Kd.V_drewN | apply Kd.V_drew)); exact HO_0.out) hg hat); have n1_ := Aside0.mk (Kd.V_afterv (ok := (fun k_ => (P0_ k_ ∨ w.heap.size ≤ k_))) (by (with_reducible repeat (first | apply Kd.V_alloc | apply Kd.V_drewN | apply Kd.V_drew)); exact HL957_0.out) hg hat); have n2_ := Aside0.mk (hb); have n3_ := Aside0.mk (ho); clear HO_0; clear HL957_0; clear HB; clear HO_5; have HO_0 := n0_; have HL957_0 := n1_; have HB := n2_; have HO960 := n3_; clear n0_ n1_ n2_ n3_; clear ho hb hg hat))
           go_roundg k2
           case measure => have := HK1.out; have := HK2.out; omega
           case rel => exact ⟨(y958), (wrap64 (x6_1 + 1)), (by first | rfl | (simp; done) | (simp [*]; done)), H', ⟨by have := HK1.out; have := HK2.out; omega⟩, ⟨by (with_reducible repeat (first | apply Kd.V_alloc | apply Kd.V_drewN | apply Kd.V_drew)); exact HO_0.out⟩, ⟨by (with_reducible repeat (first | apply Kd.N_alloc | apply Kd.N_drewN | apply Kd.N_drew)); exact HO960.out⟩, ⟨by repeat (with_reducible first | exact HB.out | apply below_alloc | apply pw_below_drewN | apply below_drew1)⟩⟩
          ·rw [if_neg c20] at H
           exact absurd H (by simp)
         ·rw [if_neg c19] at H
          exact absurd H (by simp)
        ·rw [if_neg c18] at H
         exact absurd H (by simp)
       ·replace c17 := Bool.eq_false_iff.mpr c17
        subst c17
        have H1 : (spec_l05Own.l0 k2 l0 a1 x5_1 (wrap64 (x6_1 + 1))) = some r := by rw [if_neg (show ¬ (false = true) by decide)] at H; exact H
        clear H
        have H := H1
        clear H1
        have H' := Aside0.mk H
        clear H
        go_wp2
        go_roundg k2
        case measure => have := HK1.out; have := HK2.out; omega
        case rel => exact ⟨(x5_1), (wrap64 (x6_1 + 1)), (by first | rfl | (simp; done) | (simp [*]; done)), H', ⟨by have := HK1.out; have := HK2.out; omega⟩, ⟨by (with_reducible repeat (first | apply Kd.V_alloc | apply Kd.V_drewN | apply Kd.V_drew)); exact HO_0.out⟩, ⟨by (with_reducible repeat (first | apply Kd.N_alloc | apply Kd.N_drewN | apply Kd.N_drew)); exact HO_5.out⟩, ⟨by repeat (with_reducible first | exact HB.out | apply below_alloc | apply pw_below_drewN | apply below_drew1)⟩⟩
   ·rw [if_neg c5] at H
    have c5b0 : decide (x6_1 < (l0.length : Int)) = false := decide_eq_false c5
    clear c5
    obtain rfl := Option.some.inj H
    go_wp2
    go_ret
    exact ⟨_, by first | rfl | (simp [*] <;> rfl), by (with_reducible repeat (first | apply Kd.N_alloc | apply Kd.N_drewN | apply Kd.N_drew)); exact HO_5.out, by repeat (with_reducible first | exact HB.out | apply below_alloc | apply pw_below_drewN | apply below_drew1)⟩

/-! ### impl_ownForms: function 82, by hand -/
-- COMMONS none
def impl_ownForms.own (k : Nat) (a1 : Int) (s : List S42) : Option Bool := (impl_forms.f k s a1).bind fun o => if o.length = 0 then none else slices_Equal_Cell.f k (minS_ o) s
def impl_ownForms.sel (k : Nat) (a1 : Int) : List (List S42) → Option (List (List S42))
 | [] => some []
 | s :: r => (impl_ownForms.own k a1 s).bind fun b => (impl_ownForms.sel k a1 r).bind fun t => some (if b = true then s :: t else t)
def impl_ownForms.f (k : Nat) (a0 a1 : Int) : Option (List (List S42)) := (impl_fixedShapes.f k a0).bind fun l => if l.length ≤ 1000000 then impl_ownForms.sel k a1 l else none
theorem impl_ownForms.own_mono (k : Nat) (a1 : Int) (s : List S42) : LeO (impl_ownForms.own k a1 s) (impl_ownForms.own (k + 1) a1 s) :=
 LeO.bind (impl_forms.mono _ _ _) fun _ => LeO.ite (LeO.refl _) (slices_Equal_Cell.mono _ _ _)
theorem impl_ownForms.sel_mono (k : Nat) (a1 : Int) : ∀ l, LeO (impl_ownForms.sel k a1 l) (impl_ownForms.sel (k + 1) a1 l) := by
 intro l
 induction l with
 | nil => exact LeO.refl _
 | cons s r ih => exact LeO.bind (impl_ownForms.own_mono k a1 s) fun _ => LeO.bind ih fun _ => LeO.refl _
theorem impl_ownForms.mono : ∀ a0 a1 k, LeO (impl_ownForms.f k a0 a1) (impl_ownForms.f (k + 1) a0 a1) := by
 intro a0 a1 k
 unfold impl_ownForms.f
 exact LeO.bind (impl_fixedShapes.mono _ _) fun l => LeO.ite (impl_ownForms.sel_mono k a1 l) (LeO.refl _)
set_option maxHeartbeats 8000000 in
set_option maxRecDepth 100000 in
theorem impl_ownForms.calls (k : Nat) (a0 a1 : Int) (r : List (List S42)) (w : World) (h : impl_ownForms.f k a0 a1 = some r) :
  Calls Try.prog 82 #[.int .i64 a0, .int .i64 a1] w fun e w' => ∃ v0_ : Value, e = .returned (v0_) ∧ Kd.S (Kd.slice 42 k42) 27 w' w.heap.size (fun _ => True) v0_ r ∧ Below w.heap.size w w' := by
 have hu1 := Try.underlying43
 obtain ⟨l, hl, h2⟩ := Option.bind_eq_some_iff.mp h
 by_cases hx : l.length ≤ 1000000
 rotate_left
 ·rw [if_neg hx] at h2; exact absurd h2 (by simp)
 rw [if_pos hx] at h2
 have HL := Aside0.mk hl
 have HSEL := Aside0.mk h2
 have HX := Aside0.mk hx
 have HB0 := Aside0.mk (Below.refl w.heap.size w)
 clear h hl h2 hx
 go_enter Try.func82, Try.ntmps82
 go_wp2_with ((with_reducible refine gate_dst (N := 8) rfl ?_); refine Kd.S_lit (Kd.slice 42 k42) _ 27 ?hg (N := 8) ?hd (xs := ([] : List (List S42))) (inner := []) (ok := fun _ => True) (okp := fun _ => True) ?hr ?hp (fun _ hk => hk) trivial (Below.refl _ _) (Nat.le_refl _) (by simp) ?_; (case hd => rfl); (case hg => rfl); (case hr => first | (go_simp; done) | (go_simp; rfl)); (case hp => exact (Reps.none _ _)); intro v8 w8 ho8 hb8 hg_ hnew_; clear hg_ hnew_; have HO := Aside0.mk ho8; have HB := Aside0.mk hb8; clear ho8 hb8 HB0)
 refine (impl_fixedShapes.calls k a0 l _ HL.out).mono ?_
 rintro e w2 ⟨v10, rfl, hS, hb⟩
 obtain ⟨A10, c10, e10⟩ := Kd.S_slice hS
 subst e10
 obtain ⟨A8, c8, e8⟩ := Kd.S_slice HO.out
 subst e8
 obtain ⟨es, hes, hown, hPR⟩ := S_split hS
 have hel : es.length = l.length := by rw [← hes, List.length_map]
 obtain ⟨os, hos, hown8, _⟩ := S_split HO.out
 have hos0 : os = [] := List.length_eq_zero_iff.1 (by have := congrArg List.length hos; simpa using this)
 subst hos0
 have h8lt := Kd.S_lt HO.out
 have HRL := Aside0.mk (Kd.R_lower (show rawK_.R 27 w2 w8.heap.size (fun k_ => True ∧ some k_ ≠ (Value.slice A8 ([] : List (List S42)).length c8).ownBlock) (.slice A10 l.length c10) (es.map Prod.fst) from Kd.R_mono (Kd.R_tight rfl (raw_R (by rw [List.length_map]; exact hown) (one_fst hPR))) (fun k_ hk => ⟨trivial, fun e_ => by
  have h1 := Kd.S_base hS k_ hk.symm
  have h2 := h8lt k_ e_.symm
  omega⟩)) (below_size HB.out))
 have HRO := Aside0.mk (Kd.R_below (show rawK_.R 27 w8 w.heap.size (fun _ => True) (.slice A8 ([] : List (List S42)).length c8) (([] : List (Value × List S42)).map Prod.fst) from raw_R (by simpa using hown8) (by simp)) hb)
 have HPR := Aside0.mk (show PR_ w2 w.heap.size none es from ⟨fun x hx => Kd.R_lower (Kd.R_mono (hPR.own x hx) (fun _ _ => by simp)) (below_size HB.out), hPR.apart⟩)
 have HB2 := Aside0.mk (below_step HB.out hb)
 have HES := Aside0.mk hes
 have HEL := Aside0.mk hel
 clear hS hb hown hPR hel hos hown8 h8lt HB HO HL hes
 go_wp2_with fail
 go_loopg [5, 12] l.length (fun gk v5 v12 wr => ∃ (i : Nat) (sel : List (Value × List S42)) (rest : List (List S42)), v12 = .int .i64 i ∧ Aside0 (gk + i = l.length) ∧ Aside0 (impl_ownForms.sel k a1 (l.drop i) = some rest) ∧ Aside0 (sel.map Prod.snd ++ rest = r) ∧ Aside0 (sel.Sublist (es.take i)) ∧ Aside0 (rawK_.R 27 wr w.heap.size (fun k_ => True ∧ some k_ ≠ (v5 : Value).ownBlock) (.slice A10 l.length c10) (es.map Prod.fst)) ∧ Aside0 (rawK_.R 27 wr w.heap.size (fun _ => True) v5 (sel.map Prod.fst)) ∧ Aside0 (PR_ wr w.heap.size none es) ∧ Aside0 (Below w.heap.size w wr))
 case atStart => exact ⟨0, [], r, rfl, ⟨rfl⟩, HSEL, ⟨rfl⟩, ⟨List.nil_sublist _⟩, HRL, HRO, HPR, HB2⟩
 case round =>
  clear HSEL HRL HRO HPR HB2
  obtain ⟨i, sel, rest, rfl, HI, HSEL, HR, HSUB, HRL, HRO, HPR, HB⟩ := hrel
  obtain ⟨A5, c5, e5⟩ := Kd.R_slice HRO.out
  rw [List.length_map] at e5
  subst e5
  cases gk with
  | zero =>
   have hi : i = l.length := by have := HI.out; omega
   have d3 : decide ((i : Int) < (l.length : Int)) = false := decide_eq_false (by omega)
   have d4 : decide (i < l.length) = false := decide_eq_false (by omega)
   have hs := HSEL.out
   rw [hi, List.drop_length] at hs
   have hs2 : some [] = some rest := hs
   obtain rfl := Option.some.inj hs2
   have hr := HR.out
   rw [List.append_nil] at hr
   have hsub := HSUB.out.trans (List.take_sublist i es)
   have hty := Kd.R_typed HRO.out
   have hres : Kd.S (Kd.slice 42 k42) 27 wr w.heap.size (fun _ => True) (.slice A5 sel.length c5) (sel.map Prod.snd) := by
    have ho := raw_own HRO.out
    rw [List.length_map] at ho
    exact S_join (es := sel) ho ⟨fun x hx => Kd.R_mono (Kd.R_apart' (HPR.out.own x (hsub.subset hx)) hty (by decide)) (fun _ hk => hk.2), HPR.out.apart.sublist hsub⟩
   rw [hr] at hres
   have HRES := Aside0.mk hres
   clear hi hs hs2 hr hsub hty hres HSEL HR HSUB HRL HRO HPR
   go_wp2_with fail
   go_ret
   exact ⟨_, rfl, HRES.out, HB.out⟩
  | succ gi =>
   have hi : i < l.length := by have := HI.out; omega
   have hie : i < es.length := by rw [HEL.out]; exact hi
   have p1 : 0 ≤ (i : Int) := by omega
   have q1 : (i : Int) < (l.length : Int) := by omega
   have d3 : decide ((i : Int) < (l.length : Int)) = true := decide_eq_true q1
   have d4 : decide (i < l.length) = true := decide_eq_true hi
   have hbig : l.length ≤ 1000000 := HX.out
   obtain ⟨ad, cc, eA, hcl, ⟨ecc, _⟩, hcells⟩ := ReadsRow.get_ (Kd.R_reads' HRL.out).2.2 (Value.slice none 0 0) (i : Int) p1 (by rw [List.length_map, HEL.out]; exact q1)
   subst eA
   subst ecc
   have hx := hcells 0 _ rfl
   rw [Int.toNat_natCast, show i * rawK_.sz + 0 = i from Nat.mul_one i] at hx
   have hget : (es.map Prod.fst).getD i (.slice none 0 0) = (gE_ es i).1 := by
    rw [List.getD_eq_getElem?_getD, List.getElem?_map, gE_get es i hie]; rfl
   rw [hget] at hx
   have hdr : l.drop i = (gE_ es i).2 :: l.drop (i + 1) := by
    have e1 : l[i]? = some (gE_ es i).2 := by rw [← HES.out, List.getElem?_map, gE_get es i hie]; rfl
    rw [List.drop_eq_getElem_cons hi]
    rw [List.getElem?_eq_getElem hi] at e1
    rw [Option.some.inj e1]
   have htk : es.take (i + 1) = es.take i ++ [gE_ es i] := by rw [List.take_add_one, gE_get es i hie]; rfl
   obtain ⟨B, cB, eB, hlB, hCB⟩ := Kd.R_reads (HPR.out.own _ (gE_mem es i hie))
   have hmem := gE_mem es i hie
   have hs := HSEL.out
   rw [hdr] at hs
   obtain ⟨b, hb, hs2⟩ := Option.bind_eq_some_iff.mp hs
   obtain ⟨t, ht, hs3⟩ := Option.bind_eq_some_iff.mp hs2
   obtain rfl := Option.some.inj hs3
   obtain ⟨o, ho, hb2⟩ := Option.bind_eq_some_iff.mp hb
   by_cases hon : o.length = 0
   ·rw [if_pos hon] at hb2; exact absurd hb2 (by simp)
   rw [if_neg hon] at hb2
   have HTK := Aside0.mk htk
   have HMEM := Aside0.mk hmem
   generalize gE_ es i = x at *
   obtain ⟨xv, xl⟩ := x
   try simp only at eB hlB hCB hx ho hb2
   subst eB
   have HCB := Aside0.mk hCB
   have HLB := Aside0.mk hlB
   have HOF := Aside0.mk ho
   have HON := Aside0.mk (show 0 < o.length by omega)
   have HEQ := Aside0.mk hb2
   have HT := Aside0.mk ht
   clear hcells hcl hget hdr htk hmem hs hs2 hs3 hb ho hon hb2 ht hCB hlB HSEL hie
   cases b with
   | false =>
    simp only [Bool.false_eq_true, if_false] at HR
    go_wp2_with fail
    refine (impl_forms.calls k B cB xl a1 o _ HCB.out HLB.out HOF.out).mono ?_
    rintro e w3 ⟨v18, rfl, hS18, hb18⟩
    obtain ⟨A18, c18, e18⟩ := Kd.S_slice hS18
    subst e18
    have HS18 := Aside0.mk hS18
    have HB18 := Aside0.mk hb18
    clear hS18 hb18 hx
    go_wp2_with fail
    refine (leastOf_walk _ o wr w3 HB18.out HS18.out HON.out).mono ?_
    rintro e w4 ⟨v19, rfl, hR19, hb19⟩
    obtain ⟨A19, c19, e19, hl19, hC19⟩ := Kd.R_reads hR19
    subst e19
    have HC19 := Aside0.mk hC19
    have HL19 := Aside0.mk hl19
    have HB19 := Aside0.mk hb19
    clear hR19 hb19 hC19 hl19 HS18 HB18
    go_wp2_with fail
    refine (slices_Equal_Cell.calls k A19 c19 (minS_ o) B cB xl false _ HC19.out HL19.out (Kd.C_below HCB.out HB19.out) HLB.out HEQ.out).mono ?_
    rintro e w5 ⟨rfl, hd⟩
    obtain ⟨md, rfl⟩ := hd.out
    have HRL2 := Aside0.mk (Kd.R_drewN (Kd.R_below HRL.out HB19.out) md)
    have HRO2 := Aside0.mk (Kd.R_drewN (Kd.R_below HRO.out HB19.out) md)
    have HPR2 := Aside0.mk (show PR_ (w4.drewN md) w.heap.size none es from ⟨fun x hx => Kd.R_drewN (Kd.R_below (HPR.out.own x hx) HB19.out) md, HPR.out.apart⟩)
    have HB2 := Aside0.mk (pw_below_drewN (below_step HB.out HB19.out) md)
    clear hd HRL HRO HPR HB HB19 HC19 HL19 HCB HLB HOF HON HEQ
    generalize w4.drewN md = w6 at *
    go_wp2_with fail
    go_roundg gi
    case measure => omega
    case rel => exact ⟨i + 1, sel, t, by go_num, ⟨by have := HI.out; omega⟩, HT, HR, ⟨by rw [HTK.out]; exact HSUB.out.trans (List.sublist_append_left _ _)⟩, HRL2, HRO2, HPR2, HB2⟩
   | true =>
    simp only [if_true] at HR
    go_wp2_with fail
    refine (impl_forms.calls k B cB xl a1 o _ HCB.out HLB.out HOF.out).mono ?_
    rintro e w3 ⟨v18, rfl, hS18, hb18⟩
    obtain ⟨A18, c18, e18⟩ := Kd.S_slice hS18
    subst e18
    have HS18 := Aside0.mk hS18
    have HB18 := Aside0.mk hb18
    clear hS18 hb18 hx
    go_wp2_with fail
    refine (leastOf_walk _ o wr w3 HB18.out HS18.out HON.out).mono ?_
    rintro e w4 ⟨v19, rfl, hR19, hb19⟩
    obtain ⟨A19, c19, e19, hl19, hC19⟩ := Kd.R_reads hR19
    subst e19
    have HC19 := Aside0.mk hC19
    have HL19 := Aside0.mk hl19
    have HB19 := Aside0.mk hb19
    clear hR19 hb19 hC19 hl19 HS18 HB18
    go_wp2_with fail
    refine (slices_Equal_Cell.calls k A19 c19 (minS_ o) B cB xl true _ HC19.out HL19.out (Kd.C_below HCB.out HB19.out) HLB.out HEQ.out).mono ?_
    rintro e w5 ⟨rfl, hd⟩
    obtain ⟨md, rfl⟩ := hd.out
    have HRL2 := Aside0.mk (Kd.R_drewN (Kd.R_below HRL.out HB19.out) md)
    have HRO2 := Aside0.mk (Kd.R_drewN (Kd.R_below HRO.out HB19.out) md)
    have HPR2 := Aside0.mk (show PR_ (w4.drewN md) w.heap.size none es from ⟨fun x hx => Kd.R_drewN (Kd.R_below (HPR.out.own x hx) HB19.out) md, HPR.out.apart⟩)
    have HB2 := Aside0.mk (pw_below_drewN (below_step HB.out HB19.out) md)
    clear hd HRL HRO HPR HB HB19 HC19 HL19 HCB HLB HOF HON HEQ
    generalize w4.drewN md = w6 at *
    have hsel : sel.length ≤ 1000000 := by
     have h1 := HSUB.out.length_le
     rw [List.length_take] at h1
     have := HEL.out
     omega
    have HKEY : Aside0 (∀ (v25 : Value) (w25 : World), rawK_.R 27 w25 w.heap.size (fun _ => True) v25 (sel.map Prod.fst ++ [Value.slice B xl.length cB]) → Below w.heap.size w w25 → w6.grownBy w25 (Value.slice A5 sel.length c5).ownBlock → (v25.ownBlock = (Value.slice A5 sel.length c5).ownBlock ∨ ∃ b, v25.ownBlock = some b ∧ w6.heap.size ≤ b) → rawK_.R 27 w25 w.heap.size (fun k_ => True ∧ some k_ ≠ v25.ownBlock) (.slice (some ad) l.length c10) (es.map Prod.fst) ∧ rawK_.R 27 w25 w.heap.size (fun _ => True) v25 ((sel ++ [(Value.slice B xl.length cB, xl)]).map Prod.fst) ∧ PR_ w25 w.heap.size none es ∧ Below w.heap.size w w25) := ⟨by
     intro v25 w25 hr hb hg hat
     refine ⟨Kd.R_after HRL2.out hg hat, by rw [List.map_append]; exact hr, ⟨fun y hy => ?_, HPR2.out.apart⟩, hb⟩
     have h1 := Kd.R_apart' (HPR2.out.own y hy) (Kd.R_typed HRO2.out) (by decide)
     exact Kd.R_mono (Kd.R_step h1 (fun k hk hl => hg.block k hl hk.2)) (fun _ hk => hk.1)⟩
    have HSL := Aside0.mk hsel
    clear hsel HRL2 HPR2
    go_wp2_with ((with_reducible refine gate_builtin (b := .append) (xs := #[.tmp 22, .tmp 24]) rfl ?_); at_builtin; refine Kd.R_append rawK_ (w0 := w) w.heap.size rfl (.tmp 22) (.tmp 24) 43 27 (.slice none 0 0) 24 rfl Try.underlying43 info27 rfl (by decide) (by omega) (.slice A5 sel.length c5) (sel.map Prod.fst) (Value.slice B xl.length cB) [Value.slice B xl.length cB] (fun _ => True) (fun _ => False) rfl rfl ⟨rfl, rfl⟩ (fun _ h => h.elim) (fun _ _ => trivial) HRO2.out HB2.out (below_size HB2.out) (by have := HSL.out; rw [List.length_map]; omega) ?_; intro v25 w25 hr hb hg hat; have hk_ := HKEY.out _ _ hr hb hg hat; clear hr hb hg hat HKEY)
    go_roundg gi
    case measure => omega
    case rel => exact ⟨i + 1, sel ++ [(Value.slice B xl.length cB, xl)], t, by go_num, ⟨by have := HI.out; omega⟩, HT, ⟨by rw [List.map_append, List.append_assoc]; exact HR.out⟩, ⟨by rw [HTK.out]; exact HSUB.out.append (List.Sublist.refl _)⟩, ⟨hk_.1⟩, ⟨hk_.2.1⟩, ⟨hk_.2.2.1⟩, ⟨hk_.2.2.2⟩⟩

end Go.Proofs.Ytpilmhjbgbpbmaa.X
