-- xprint.py
import Derived.Test.YtpilmhjbgbpbmaaXx0
import Derived.Test.YtpilmhjbgbpbmaaXx2
import Derived.Test.YtpilmhjbgbpbmaaXx3
import Derived.Test.YtpilmhjbgbpbmaaXx4
import Derived.Test.YtpilmhjbgbpbmaaXx6
import Derived.Test.YtpilmhjbgbpbmaaXx8
import Derived.Test.YtpilmhjbgbpbmaaXx16
import Derived.Test.YtpilmhjbgbpbmaaXx19
namespace Go.Proofs.Ytpilmhjbgbpbmaa.X
open Go.RowKit Go.Proofs.YtpilmhjbgbpbmaaW.PrintWords Go.Proofs.YtpilmhjbgbpbmaaW.PrintLast Go.Proofs.YtpilmhjbgbpbmaaW.PrintMore
attribute [local go_sem] max2_int min2_int max_two min_two max_three min_three max_four min_four   -- for this text's walks alone
set_option linter.unusedVariables false
set_option linter.unusedSimpArgs false

/-! ### spec_l05Order: function 76 -/
def spec_l05Order.f (a0 : Int) : Option (Bool) := (spec_l01In.f a0 1 6).bind fun t825 => (some t825)
set_option maxHeartbeats 8000000 in
set_option maxRecDepth 100000 in
theorem spec_l05Order.calls (a0 : Int) (r : Bool) (w : World) (h : spec_l05Order.f a0 = some r) :
  Calls Try.prog 76 #[.int .i64 a0] w fun e w' => e = .returned (.bool r) ∧ Drawn0 w w' := by
 have H : ((spec_l01In.f a0 1 6).bind fun t825 => (some t825)) = some r := h
 clear h
 replace H := Option.bind_eq_some_iff.mp H
 obtain ⟨t825, A20, H⟩ := H
 replace H : (some t825) = some r := H
 have A2 := Aside0.mk A20
 clear A20
 obtain rfl := Option.some.inj H
 go_enter Try.func76, Try.ntmps76
 go_wp2_with (first | ((with_reducible refine gate_callee (f := 104) rfl ?_); refine goesL_ (some 4) rfl rfl Try.func104 (by kernel_rfl) rfl #[.int .i64 a0, .int .i64 1, .int .i64 6] rfl (by (try simp only [List.map_toArray, List.map_cons, List.map_nil]); first | done | rfl) ?_; (with_reducible refine (spec_l01In.calls a0 1 6 t825 _ A2.out).mono ?_); rintro e w' ⟨rfl, ⟨nd, rfl⟩⟩; refine ⟨_, rfl, ?_⟩))
 go_ret
 exact ⟨by first | rfl | (simp; done) | (simp [*]; done), by repeat (first | exact Drawn0.refl _ | apply Drawn0.step)⟩

/-! ### spec_l05Grow: function 112 -/
def spec_l05Grow.l0 : Nat → List (List (S42)) → List (S42) → List (S42) → Int → Option ((List (List (S42))))
 | 0, _, _, _, _ => none
 | k + 1, x0, x1, x5, x6 => if x6 < (x5.length : Int) then (if 0 ≤ x6 then ((spec_l02Insert.f k x1 ((rd_T42 x5 x6).f0) ((rd_T42 x5 x6).f1)).bind fun t830 => ((spec_l02Normal.f k t830).bind fun t833 => ((spec_l03Add.f k x0 t833).bind fun t836 => (spec_l05Grow.l0 k t836 x1 x5 (wrap64 (x6 + 1)))))) else (none)) else (some x0)
def spec_l05Grow.f (k : Nat) (l0 : List (List (S42))) (l1 : List (S42)) : Option ((List (List (S42)))) := (spec_l02Neighbours.f k l1).bind fun t826 => (spec_l05Grow.l0 k l0 l1 t826 0)
theorem spec_l05Grow.mono_l : ∀ k, (∀ y0 y1 y2 y3, LeO (spec_l05Grow.l0 k y0 y1 y2 y3) (spec_l05Grow.l0 (k + 1) y0 y1 y2 y3))
 | 0 => fun _ _ _ _ r h => by simp [spec_l05Grow.l0] at h
 | k + 1 => by
  have ih0 := spec_l05Grow.mono_l k
  ·intro y0 y1 y2 y3
   unfold spec_l05Grow.l0
   repeat' first
   | (with_reducible exact ih0 _ _ _ _)
   | (with_reducible exact spec_l02Insert.mono _ _ _ _)
   | (with_reducible exact spec_l02Neighbours.mono _ _)
   | (with_reducible exact spec_l02Normal.mono _ _)
   | (with_reducible exact spec_l03Add.mono _ _ _)
   | (with_reducible exact LeO.refl _)
   | (with_reducible exact LeO.none _)
   | (with_reducible refine LeO.ite ?_ ?_)
   | (with_reducible refine LeO.bind ?_ (fun _ => ?_))
   | exact ih0 _ _ _ _
   | exact spec_l02Insert.mono _ _ _ _
   | exact spec_l02Neighbours.mono _ _
   | exact spec_l02Normal.mono _ _
   | exact spec_l03Add.mono _ _ _
   | exact LeO.none _
   | refine LeO.ite ?_ ?_
   | refine LeO.bind ?_ (fun _ => ?_)
theorem spec_l05Grow.mono : ∀ a0 a1 k, LeO (spec_l05Grow.f k a0 a1) (spec_l05Grow.f (k + 1) a0 a1) := by
 intro a0 a1 k
 have ih0 := spec_l05Grow.mono_l k
 unfold spec_l05Grow.f
 repeat' first
   | (with_reducible exact ih0 _ _ _ _)
   | (with_reducible exact spec_l02Insert.mono _ _ _ _)
   | (with_reducible exact spec_l02Neighbours.mono _ _)
   | (with_reducible exact spec_l02Normal.mono _ _)
   | (with_reducible exact spec_l03Add.mono _ _ _)
   | (with_reducible exact LeO.refl _)
   | (with_reducible exact LeO.none _)
   | (with_reducible refine LeO.ite ?_ ?_)
   | (with_reducible refine LeO.bind ?_ (fun _ => ?_))
   | exact ih0 _ _ _ _
   | exact spec_l02Insert.mono _ _ _ _
   | exact spec_l02Neighbours.mono _ _
   | exact spec_l02Normal.mono _ _
   | exact spec_l03Add.mono _ _ _
   | exact LeO.none _
   | refine LeO.ite ?_ ?_
   | refine LeO.bind ?_ (fun _ => ?_)
set_option maxHeartbeats 8000000 in
set_option maxRecDepth 100000 in
theorem spec_l05Grow.calls (k : Nat) (P0_ : Nat → Prop) (A0 : Option Addr) (c0 : Nat) (l0 : List (List (S42))) (A1 : Option Addr) (c1 : Nat) (l1 : List (S42)) (r : List (List (S42))) (w : World) (hs0 : Kd.V (Kd.slice 42 k42) 27 w w.heap.size (fun k_ => P0_ k_) (.slice A0 l0.length c0) l0) (hr1 : Kd.C k42 w A1 l1.length l1) (hc1 : l1.length ≤ c1) (h : spec_l05Grow.f k l0 l1 = some r) :
  Calls Try.prog 112 #[.slice A0 l0.length c0, .slice A1 l1.length c1] w fun e w' => ∃ v0_ : Value, e = .returned (v0_) ∧ Kd.V (Kd.slice 42 k42) 27 w' w.heap.size (fun k_ => (P0_ k_ ∨ w.heap.size ≤ k_)) v0_ r ∧ Below w.heap.size w w' := by
 have hu42 := Try.underlying42
 have HO0 := Aside0.mk (show Kd.V (Kd.slice 42 k42) 27 w w.heap.size (fun k_ => (P0_ k_ ∨ w.heap.size ≤ k_)) (.slice A0 l0.length c0) l0 from Kd.V_mono hs0 (fun k_ hk => .inl hk))
 have HR1 := Aside0.mk hr1
 have HC1 := Aside0.mk hc1
 clear hr1 hc1
 have HB := Aside0.mk (Below.refl w.heap.size w)
 have H : ((spec_l02Neighbours.f k l1).bind fun t826 => (spec_l05Grow.l0 k l0 l1 t826 0)) = some r := h
 clear h
 replace H := Option.bind_eq_some_iff.mp H
 obtain ⟨t826, A30, H⟩ := H
 replace H : (spec_l05Grow.l0 k l0 l1 t826 0) = some r := H
 have A3 := Aside0.mk A30
 clear A30
 have H' := Aside0.mk H
 clear H
 go_enter Try.func112, Try.ntmps112
 go_wp2_with (first | ((with_reducible refine gate_callee (f := 72) rfl ?_); refine goesL_ (some 8) rfl rfl Try.func72 (by kernel_rfl) rfl #[.slice A1 l1.length c1] rfl (by (try simp only [List.map_toArray, List.map_cons, List.map_nil]); first | done | rfl) ?_; (with_reducible refine (spec_l02Neighbours.calls k _ _ l1 t826 _ ?side1 ?side2 A3.out).mono ?_); (case side1 => repeat (first | exact HR1.out | (with_reducible refine Kd.C_alloc ?_ _) | (with_reducible refine Kd.C_drewN ?_ _) | (with_reducible refine Kd.C_drew ?_))); (case side2 => exact HC1.out); rintro e w4 ⟨v827, rfl, ho0, hb⟩; refine ⟨_, rfl, ?_⟩; have n0_ := Aside0.mk (Kd.V_elder' (by (with_reducible repeat (first | apply Kd.V_alloc | apply Kd.V_drewN | apply Kd.V_drew)); exact HO0.out) (Kd.R_base ho0) hb); have n1_ := Aside0.mk (Kd.R_lower (Kd.R_newM (M := fun k_ => (w.heap.size ≤ k_)) ho0 (below_size (by repeat (with_reducible first | exact HB.out | apply below_alloc | apply pw_below_drewN | apply below_drew1))) (fun k_ h_ => h_)) (below_size (by repeat (with_reducible first | exact HB.out | apply below_alloc | apply pw_below_drewN | apply below_drew1)))); have n2_ := Aside0.mk (below_step (by repeat (with_reducible first | exact HB.out | apply below_alloc | apply pw_below_drewN | apply below_drew1)) hb); clear HO0; clear HB; have HO0 := n0_; have HO828 := n1_; have HB := n2_; clear n0_ n1_ n2_; (try clear hb); (try clear ho0)))
 go_loopg [0, 6] k (fun kq v0 v6 w' => ∃ (x0_1 : List (List (S42))) (x6_1 : Int), v6 = .int .i64 x6_1 ∧ Aside0 (spec_l05Grow.l0 kq x0_1 l1 t826 x6_1 = some r) ∧ Aside0 (kq ≤ k) ∧ Aside0 (Kd.V (Kd.slice 42 k42) 27 w' w.heap.size (fun k_ => (P0_ k_ ∨ w.heap.size ≤ k_) ∧ some k_ ≠ (v827 : Value).ownBlock) v0 x0_1) ∧ Aside0 (Kd.R k42 42 w' w.heap.size (fun k_ => (w.heap.size ≤ k_)) v827 t826) ∧ Aside0 (Below w.heap.size w w'))
 case atStart => exact ⟨(l0), (0), (by first | rfl | (simp; done) | (simp [*]; done)), H', ⟨Nat.le_refl _⟩, ⟨by (with_reducible repeat (first | apply Kd.V_alloc | apply Kd.V_drewN | apply Kd.V_drew)); exact HO0.out⟩, ⟨by (with_reducible repeat (first | apply Kd.R_alloc | apply Kd.R_drewN | apply Kd.R_drew)); exact Kd.R_mono HO828.out (fun _ hk => hk.1)⟩, ⟨by repeat (with_reducible first | exact HB.out | apply below_alloc | apply pw_below_drewN | apply below_drew1)⟩⟩
 case round =>
  clear H'
  try clear c1
  try clear p2
  obtain ⟨x0_1, x6_1, rfl, HA, HK1, HO_0, HO_5, HB⟩ := hrel
  cases gk with
  | zero => exact absurd HA.out (by simp [spec_l05Grow.l0])
  | succ k1 =>
   have H := HA.out
   clear HA
   simp only [spec_l05Grow.l0] at H
   by_cases c5 : x6_1 < (t826.length : Int)
   ·rw [if_pos c5] at H
    have c5b0 : decide (x6_1 < (t826.length : Int)) = true := decide_eq_true c5
    clear c5
    by_cases c6 : 0 ≤ x6_1
    ·rw [if_pos c6] at H
     have c6b0 : decide (0 ≤ x6_1) = true := decide_eq_true c6
     clear c6
     replace H := Option.bind_eq_some_iff.mp H
     obtain ⟨t830, A70, H⟩ := H
     replace H : ((spec_l02Normal.f k1 t830).bind fun t833 => ((spec_l03Add.f k1 x0_1 t833).bind fun t836 => (spec_l05Grow.l0 k1 t836 l1 t826 (wrap64 (x6_1 + 1))))) = some r := H
     have A7 := Aside0.mk A70
     clear A70
     replace H := Option.bind_eq_some_iff.mp H
     obtain ⟨t833, A80, H⟩ := H
     replace H : ((spec_l03Add.f k1 x0_1 t833).bind fun t836 => (spec_l05Grow.l0 k1 t836 l1 t826 (wrap64 (x6_1 + 1)))) = some r := H
     have A8 := Aside0.mk A80
     clear A80
     replace H := Option.bind_eq_some_iff.mp H
     obtain ⟨t836, A90, H⟩ := H
     replace H : (spec_l05Grow.l0 k1 t836 l1 t826 (wrap64 (x6_1 + 1))) = some r := H
     have A9 := Aside0.mk A90
     clear A90
     have H' := Aside0.mk H
     clear H
     obtain ⟨Ao10, co10, eo10⟩ := Kd.R_slice HO_5.out
     subst eo10
     have p829 : 0 ≤ (x6_1 : Int) := of_decide_eq_true (by first | (with_reducible assumption) | assumption)
     have q829 : x6_1 < (t826.length : Int) := of_decide_eq_true (by first | (with_reducible assumption) | assumption)
     obtain ⟨ad829, e829, hx829_0, hx829_1⟩ := at_T42 (Kd.R_reads' HO_5.out).2.2 x6_1 p829 q829
     cases e829
     replace p829 := eq_true p829
     replace q829 := eq_true q829
     go_wp2_with (first | ((with_reducible refine gate_callee (f := 109) rfl ?_); refine goesL_ (some 21) rfl rfl Try.func109 (by kernel_rfl) rfl #[.slice A1 l1.length c1, .agg #[.int .i64 ((rd_T42 t826 x6_1).f0), .int .i64 ((rd_T42 t826 x6_1).f1)]] rfl (by (try simp only [List.map_toArray, List.map_cons, List.map_nil]); first | done | rfl) ?_; (with_reducible refine (spec_l02Insert.calls k1 _ _ l1 ((rd_T42 t826 x6_1).f0) ((rd_T42 t826 x6_1).f1) t830 _ ?side1 ?side2 A7.out).mono ?_); (case side1 => repeat (first | exact (Kd.C_below HR1.out HB.out) | (with_reducible refine Kd.C_alloc ?_ _) | (with_reducible refine Kd.C_drewN ?_ _) | (with_reducible refine Kd.C_drew ?_))); (case side2 => exact HC1.out); rintro e w11 ⟨v831, rfl, ho0, hb⟩; refine ⟨_, rfl, ?_⟩; have n0_ := Aside0.mk (Kd.V_elder' (by (with_reducible repeat (first | apply Kd.V_alloc | apply Kd.V_drewN | apply Kd.V_drew)); exact HO_0.out) (Kd.R_base ho0) hb); have n1_ := Aside0.mk (Kd.R_elder' (by (with_reducible repeat (first | apply Kd.R_alloc | apply Kd.R_drewN | apply Kd.R_drew)); exact HO_5.out) (Kd.R_base ho0) hb); have n2_ := Aside0.mk (Kd.R_lower (Kd.R_new' (Kd.R_newM (M := fun k_ => (w.heap.size ≤ k_)) ho0 (below_size (by repeat (with_reducible first | exact HB.out | apply below_alloc | apply pw_below_drewN | apply below_drew1))) (fun k_ h_ => h_)) (Kd.R_lt (by (with_reducible repeat (first | apply Kd.R_alloc | apply Kd.R_drewN | apply Kd.R_drew)); exact HO_5.out))) (below_size (by repeat (with_reducible first | exact HB.out | apply below_alloc | apply pw_below_drewN | apply below_drew1)))); have n3_ := Aside0.mk (below_step (by repeat (with_reducible first | exact HB.out | apply below_alloc | apply pw_below_drewN | apply below_drew1)) hb); clear HO_0; clear HO_5; clear HB; have HO_0 := n0_; have HO_5 := n1_; have HO832 := n2_; have HB := n3_; clear n0_ n1_ n2_ n3_; (try clear hb); (try clear ho0); obtain ⟨Ao12, co12, eo12⟩ := Kd.R_slice HO832.out; subst eo12) | ((with_reducible refine gate_callee (f := 86) rfl ?_); refine goesL_ (some 22) rfl rfl Try.func86 (by kernel_rfl) rfl #[.slice Ao12 t830.length co12] rfl (by (try simp only [List.map_toArray, List.map_cons, List.map_nil]); first | done | rfl) ?_; (with_reducible refine (spec_l02Normal.calls k1 _ _ t830 t833 _ ?side1 ?side2 A8.out).mono ?_); (case side1 => repeat (first | exact (Kd.R_reads' HO832.out).2.2 | (with_reducible refine Kd.C_alloc ?_ _) | (with_reducible refine Kd.C_drewN ?_ _) | (with_reducible refine Kd.C_drew ?_))); (case side2 => exact (Kd.R_reads' HO832.out).2.1); rintro e w13 ⟨v834, rfl, ho0, hb⟩; refine ⟨_, rfl, ?_⟩; have n0_ := Aside0.mk (Kd.V_elder' (by (with_reducible repeat (first | apply Kd.V_alloc | apply Kd.V_drewN | apply Kd.V_drew)); exact HO_0.out) (Kd.R_base ho0) hb); have n1_ := Aside0.mk (Kd.R_elder' (by (with_reducible repeat (first | apply Kd.R_alloc | apply Kd.R_drewN | apply Kd.R_drew)); exact HO_5.out) (Kd.R_base ho0) hb); have n2_ := Aside0.mk (Kd.R_elder' (by (with_reducible repeat (first | apply Kd.R_alloc | apply Kd.R_drewN | apply Kd.R_drew)); exact HO832.out) (Kd.R_base ho0) hb); have n3_ := Aside0.mk (Kd.R_lower (Kd.R_new' (Kd.R_new' (Kd.R_newM (M := fun k_ => (w.heap.size ≤ k_)) ho0 (below_size (by repeat (with_reducible first | exact HB.out | apply below_alloc | apply pw_below_drewN | apply below_drew1))) (fun k_ h_ => h_)) (Kd.R_lt (by (with_reducible repeat (first | apply Kd.R_alloc | apply Kd.R_drewN | apply Kd.R_drew)); exact HO_5.out))) (Kd.R_lt (by (with_reducible repeat (first | apply Kd.R_alloc | apply Kd.R_drewN | apply Kd.R_drew)); exact HO832.out))) (below_size (by repeat (with_reducible first | exact HB.out | apply below_alloc | apply pw_below_drewN | apply below_drew1)))); have n4_ := Aside0.mk (below_step (by repeat (with_reducible first | exact HB.out | apply below_alloc | apply pw_below_drewN | apply below_drew1)) hb); clear HO_0; clear HO_5; clear HO832; clear HB; have HO_0 := n0_; have HO_5 := n1_; have HO832 := n2_; have HO835 := n3_; have HB := n4_; clear n0_ n1_ n2_ n3_ n4_; (try clear hb); (try clear ho0); obtain ⟨Ao14, co14, eo14⟩ := Kd.V_slice HO_0.out; subst eo14; obtain ⟨Ao15, co15, eo15⟩ := Kd.R_slice HO835.out; subst eo15) | ((with_reducible refine gate_callee (f := 85) rfl ?_); refine goesL_ (some 23) rfl rfl Try.func85 (by kernel_rfl) rfl #[.slice Ao14 x0_1.length co14, .slice Ao15 t833.length co15] rfl (by (try simp only [List.map_toArray, List.map_cons, List.map_nil]); first | done | rfl) ?_; (with_reducible refine (spec_l03Add.calls k1 (fun k_ => ((((P0_ k_ ∨ w.heap.size ≤ k_) ∧ some k_ ≠ (.slice (some ad829) t826.length co10 : Value).ownBlock) ∧ some k_ ≠ (.slice Ao12 t830.length co12 : Value).ownBlock) ∧ some k_ ≠ (.slice Ao15 t833.length co15 : Value).ownBlock)) _ _ x0_1 (fun k_ => some k_ = (.slice Ao15 t833.length co15 : Value).ownBlock) _ _ t833 t836 _ ?side1 ?side2 A9.out).mono ?_); (case side1 => exact HO_0.out); (case side2 => exact Kd.R_V (Kd.R_tight rfl (HO835.out))); rintro e w16 ⟨v837, rfl, ho0, hb⟩; refine ⟨_, rfl, ?_⟩; have n0_ := Aside0.mk (Kd.V_below (by (with_reducible repeat (first | apply Kd.V_alloc | apply Kd.V_drewN | apply Kd.V_drew)); exact HO_0.out) hb); have n1_ := Aside0.mk (Kd.R_below (by (with_reducible repeat (first | apply Kd.R_alloc | apply Kd.R_drewN | apply Kd.R_drew)); exact HO_5.out) hb); have n2_ := Aside0.mk (Kd.R_below (by (with_reducible repeat (first | apply Kd.R_alloc | apply Kd.R_drewN | apply Kd.R_drew)); exact HO832.out) hb); have n3_ := Aside0.mk (Kd.R_below (by (with_reducible repeat (first | apply Kd.R_alloc | apply Kd.R_drewN | apply Kd.R_drew)); exact HO835.out) hb); have n4_ := Aside0.mk (Kd.V_lower (Kd.V_mono (ok' := fun k_ => (P0_ k_ ∨ w.heap.size ≤ k_) ∧ some k_ ≠ (.slice (some ad829) t826.length co10 : Value).ownBlock ∧ some k_ ≠ (.slice Ao12 t830.length co12 : Value).ownBlock) ho0 (fun k_ hk_ => ⟨Or.elim hk_ (fun hs_ => Or.elim hs_ (fun hs_ => hs_.1.1.1) (fun hs_ => (.inr (((HO835.out).1 k_ hs_.symm).1.1.1)))) (fun hn_ => (.inr (Nat.le_trans (below_size (by repeat (with_reducible first | exact HB.out | apply below_alloc | apply pw_below_drewN | apply below_drew1))) hn_))), Or.elim hk_ (fun hs_ => Or.elim hs_ (fun hs_ => hs_.1.1.2) (fun hs_ => ((HO835.out).1 k_ hs_.symm).1.2)) (fun hn_ => (Kd.fresh' (Kd.R_lt (by (with_reducible repeat (first | apply Kd.R_alloc | apply Kd.R_drewN | apply Kd.R_drew)); exact HO_5.out)) k_ hn_)), Or.elim hk_ (fun hs_ => Or.elim hs_ (fun hs_ => hs_.1.2) (fun hs_ => ((HO835.out).1 k_ hs_.symm).2)) (fun hn_ => (Kd.fresh' (Kd.R_lt (by (with_reducible repeat (first | apply Kd.R_alloc | apply Kd.R_drewN | apply Kd.R_drew)); exact HO832.out)) k_ hn_))⟩)) (below_size (by repeat (with_reducible first | exact HB.out | apply below_alloc | apply pw_below_drewN | apply below_drew1)))); have n5_ := Aside0.mk (below_step (by repeat (with_reducible first | exact HB.out | apply below_alloc | apply pw_below_drewN | apply below_drew1)) hb); clear HO_0; clear HO_5; clear HO832; clear HO835; clear HB; have HO_0 := n0_; have HO_5 := n1_; have HO832 := n2_; have HO835 := n3_; have HO838 := n4_; have HB := n5_; clear n0_ n1_ n2_ n3_ n4_ n5_; (try clear hb); (try clear ho0)))
     go_roundg k1
     case measure => have := HK1.out; omega
     case rel => exact ⟨(t836), (wrap64 (x6_1 + 1)), (by first | rfl | (simp; done) | (simp [*]; done)), H', ⟨by have := HK1.out; omega⟩, ⟨by (with_reducible repeat (first | apply Kd.V_alloc | apply Kd.V_drewN | apply Kd.V_drew)); exact Kd.V_mono HO838.out (fun _ hk => ⟨hk.1, hk.2.1⟩)⟩, ⟨by (with_reducible repeat (first | apply Kd.R_alloc | apply Kd.R_drewN | apply Kd.R_drew)); exact Kd.R_mono HO_5.out (fun _ hk => hk.1.1)⟩, ⟨by repeat (with_reducible first | exact HB.out | apply below_alloc | apply pw_below_drewN | apply below_drew1)⟩⟩
    ·rw [if_neg c6] at H
     exact absurd H (by simp)
   ·rw [if_neg c5] at H
    have c5b0 : decide (x6_1 < (t826.length : Int)) = false := decide_eq_false c5
    clear c5
    obtain rfl := Option.some.inj H
    obtain ⟨Ao17, co17, eo17⟩ := Kd.R_slice HO_5.out
    subst eo17
    go_wp2
    go_ret
    exact ⟨_, by first | rfl | (simp [*] <;> rfl), by (with_reducible repeat (first | apply Kd.V_alloc | apply Kd.V_drewN | apply Kd.V_drew)); exact Kd.V_mono HO_0.out (fun _ hk => hk.1), by repeat (with_reducible first | exact HB.out | apply below_alloc | apply pw_below_drewN | apply below_drew1)⟩

/-! ### spec_l05Fixed: function 77 -/
mutual
def spec_l05Fixed.l0 : Nat → Int → List (List (S42)) → Int → Option ((List (List (S42))))
 | 0, _, _, _ => none
 | k + 1, x0, x3, x4 => if x4 < x0 then (spec_l05Fixed.l1 k x0 x3 x4 (([] : List (List (S42)))) 0) else (some x3)
def spec_l05Fixed.l1 : Nat → Int → List (List (S42)) → Int → List (List (S42)) → Int → Option ((List (List (S42))))
 | 0, _, _, _, _, _ => none
 | k + 1, x0, x3, x4, x5, x6 => if x6 < (x3.length : Int) then (if 0 ≤ x6 then ((spec_l05Grow.f k x5 (rd_L3 x3 x6)).bind fun t849 => (spec_l05Fixed.l1 k x0 x3 x4 t849 (wrap64 (x6 + 1)))) else (none)) else (spec_l05Fixed.l0 k x0 x5 (wrap64 (x4 + 1)))
end
def spec_l05Fixed.f (k : Nat) (a0 : Int) : Option ((List (List (S42)))) := spec_l05Fixed.l0 k a0 (([(([(⟨0, 0⟩ : S42)] : List (S42)))] : List (List (S42)))) 1
theorem spec_l05Fixed.mono_l : ∀ k, (∀ y0 y1 y2, LeO (spec_l05Fixed.l0 k y0 y1 y2) (spec_l05Fixed.l0 (k + 1) y0 y1 y2)) ∧ (∀ y0 y1 y2 y3 y4, LeO (spec_l05Fixed.l1 k y0 y1 y2 y3 y4) (spec_l05Fixed.l1 (k + 1) y0 y1 y2 y3 y4))
 | 0 => ⟨fun _ _ _ r h => by simp [spec_l05Fixed.l0] at h, fun _ _ _ _ _ r h => by simp [spec_l05Fixed.l1] at h⟩
 | k + 1 => by
  obtain ⟨ih0, ih1⟩ := spec_l05Fixed.mono_l k
  refine ⟨?_, ?_⟩
  ·intro y0 y1 y2
   unfold spec_l05Fixed.l0
   repeat' first
   | (with_reducible exact ih0 _ _ _)
   | (with_reducible exact ih1 _ _ _ _ _)
   | (with_reducible exact spec_l05Grow.mono _ _ _)
   | (with_reducible exact LeO.refl _)
   | (with_reducible exact LeO.none _)
   | (with_reducible refine LeO.ite ?_ ?_)
   | (with_reducible refine LeO.bind ?_ (fun _ => ?_))
   | exact ih0 _ _ _
   | exact ih1 _ _ _ _ _
   | exact spec_l05Grow.mono _ _ _
   | exact LeO.none _
   | refine LeO.ite ?_ ?_
   | refine LeO.bind ?_ (fun _ => ?_)
  ·intro y0 y1 y2 y3 y4
   unfold spec_l05Fixed.l1
   repeat' first
   | (with_reducible exact ih0 _ _ _)
   | (with_reducible exact ih1 _ _ _ _ _)
   | (with_reducible exact spec_l05Grow.mono _ _ _)
   | (with_reducible exact LeO.refl _)
   | (with_reducible exact LeO.none _)
   | (with_reducible refine LeO.ite ?_ ?_)
   | (with_reducible refine LeO.bind ?_ (fun _ => ?_))
   | exact ih0 _ _ _
   | exact ih1 _ _ _ _ _
   | exact spec_l05Grow.mono _ _ _
   | exact LeO.none _
   | refine LeO.ite ?_ ?_
   | refine LeO.bind ?_ (fun _ => ?_)
theorem spec_l05Fixed.mono : ∀ a0 k, LeO (spec_l05Fixed.f k a0) (spec_l05Fixed.f (k + 1) a0) := by
 intro a0 k
 obtain ⟨ih0, ih1⟩ := spec_l05Fixed.mono_l k
 unfold spec_l05Fixed.f
 repeat' first
   | (with_reducible exact ih0 _ _ _)
   | (with_reducible exact ih1 _ _ _ _ _)
   | (with_reducible exact spec_l05Grow.mono _ _ _)
   | (with_reducible exact LeO.refl _)
   | (with_reducible exact LeO.none _)
   | (with_reducible refine LeO.ite ?_ ?_)
   | (with_reducible refine LeO.bind ?_ (fun _ => ?_))
   | exact ih0 _ _ _
   | exact ih1 _ _ _ _ _
   | exact spec_l05Grow.mono _ _ _
   | exact LeO.none _
   | refine LeO.ite ?_ ?_
   | refine LeO.bind ?_ (fun _ => ?_)
set_option maxHeartbeats 8000000 in
set_option maxRecDepth 100000 in
theorem spec_l05Fixed.calls (k : Nat) (a0 : Int) (r : List (List (S42))) (w : World) (h : spec_l05Fixed.f k a0 = some r) :
  Calls Try.prog 77 #[.int .i64 a0] w fun e w' => ∃ v0_ : Value, e = .returned (v0_) ∧ Kd.V (Kd.slice 42 k42) 27 w' w.heap.size (fun k_ => (w.heap.size ≤ k_)) v0_ r ∧ Below w.heap.size w w' := by
 have hu42 := Try.underlying42
 have HB := Aside0.mk (Below.refl w.heap.size w)
 have H : (spec_l05Fixed.l0 k a0 (([(([(⟨0, 0⟩ : S42)] : List (S42)))] : List (List (S42)))) 1) = some r := h
 clear h
 obtain ⟨y839, hy839⟩ : ∃ y_ : List (S42), y_ = (([(⟨0, 0⟩ : S42)] : List (S42))) := ⟨_, rfl⟩
 replace H : (spec_l05Fixed.l0 k a0 (([y839] : List (List (S42)))) 1) = some r := by first | (rw [hy839]; with_reducible exact H) | (have H2_ := (Option.bind_some _ _).symm.trans H; rw [hy839]; with_reducible exact H2_) | (have H2_ := (Option.bind_some _ _).symm.trans H; with_reducible exact H2_) | with_reducible exact H | (rw [hy839]; exact H) | exact H
 have Ny839 := Aside0.mk hy839
 clear hy839
 obtain ⟨y842, hy842⟩ : ∃ y_ : List (List (S42)), y_ = (([y839] : List (List (S42)))) := ⟨_, rfl⟩
 replace H : (spec_l05Fixed.l0 k a0 y842 1) = some r := by first | (rw [hy842]; with_reducible exact H) | (have H2_ := (Option.bind_some _ _).symm.trans H; rw [hy842]; with_reducible exact H2_) | (have H2_ := (Option.bind_some _ _).symm.trans H; with_reducible exact H2_) | with_reducible exact H | (rw [hy842]; exact H) | exact H
 have Ny842 := Aside0.mk hy842
 clear hy842
 have H' := Aside0.mk H
 clear H
 go_enter Try.func77, Try.ntmps77
 go_wp2_with (first | ((with_reducible refine gate_dst (N := 8) rfl ?_); refine Kd.R_lit k42 _ 42 ?hg (N := 8) ?hd (xs := ([(⟨0, 0⟩ : S42)] : List (S42))) (inner := [.int .i64 0, .int .i64 0]) (ok := fun _ => True) (okp := fun _ => True) ?hr ?hp (fun _ hk => hk) trivial (Below.refl _ _) (Nat.le_refl _) (by simp) ?_; (case hd => rfl); (case hg => rfl); (case hr => first | (go_simp; done) | (go_simp; rfl)); (case hp => exact (Reps.c2 (show Kd.M k42 _ _ _ (⟨0, 0⟩ : S42) [.int .i64 0, .int .i64 0] from (k42_mkM _ _ _ (⟨0, 0⟩ : S42) )) (Reps.none _ _))); intro v840 w2 ho3 hb hg_ hnew_; clear hg_ hnew_; (first | rw [← Ny839.out] at ho3 | (simp only [Int.reduceToNat] at ho3; rw [← Ny839.out] at ho3)); have n0_ := Aside0.mk (Kd.R_lower (Kd.R_newM (M := fun k_ => (w.heap.size ≤ k_)) ho3 (below_size (by repeat (with_reducible first | exact HB.out | apply below_alloc | apply pw_below_drewN | apply below_drew1))) (fun k_ h_ => h_)) (below_size (by repeat (with_reducible first | exact HB.out | apply below_alloc | apply pw_below_drewN | apply below_drew1)))); have n1_ := Aside0.mk (below_step (by repeat (with_reducible first | exact HB.out | apply below_alloc | apply pw_below_drewN | apply below_drew1)) hb); clear HB; have HO841 := n0_; have HB := n1_; clear n0_ n1_; clear hb ho3; obtain ⟨Ao4, co4, eo4⟩ := Kd.R_slice HO841.out; subst eo4) | ((with_reducible refine gate_dst (N := 9) rfl ?_); refine Kd.N_lit (Kd.slice 42 k42) _ 27 ?hg (N' := 9) ?hd (xs := ([y839] : List (List (S42)))) (inner := [.slice Ao4 y839.length co4]) (ok := (fun k_ => (w.heap.size ≤ k_))) (okp := (fun k_ => (w.heap.size ≤ k_))) ?hr ?hp (fun _ hk => hk) ((show ∀ k_, w2.heap.size ≤ k_ → (fun k_ => (w.heap.size ≤ k_)) k_ from fun k_ hk => (Nat.le_trans (below_size (by repeat (with_reducible first | exact HB.out | apply below_alloc | apply pw_below_drewN | apply below_drew1))) hk)) _ (Nat.le_refl _)) (Below.refl _ _) (Nat.le_refl _) (by simp) ?_; (case hd => rfl); (case hg => rfl); (case hr => first | (go_simp; done) | (go_simp; rfl)); (case hp => exact (Reps.one (show Kd.FK (Kd.slice 42 k42) _ _ y839 [.slice Ao4 y839.length co4] from (Kd.FK_slice_mk (Kd.R_reads' (Kd.R_mono (ok' := (fun k_ => (w.heap.size ≤ k_))) (HO841.out) (fun k_ hk => hk.1))).2.1 (Kd.R_F (Kd.R_mono (ok' := (fun k_ => (w.heap.size ≤ k_))) (HO841.out) (fun k_ hk => hk.1))))) (Reps.none _ _))); intro v843 w5 ho6 hb hg_ hnew_; clear hg_ hnew_; (first | rw [← Ny842.out] at ho6 | (simp only [Int.reduceToNat] at ho6; rw [← Ny842.out] at ho6)); have n0_ := Aside0.mk (Kd.N_lower ho6 (below_size (by repeat (with_reducible first | exact HB.out | apply below_alloc | apply pw_below_drewN | apply below_drew1)))); have n1_ := Aside0.mk (below_step (by repeat (with_reducible first | exact HB.out | apply below_alloc | apply pw_below_drewN | apply below_drew1)) hb); clear HB; clear HO841; have HO844 := n0_; have HB := n1_; clear n0_ n1_; clear hb ho6))
 go_loopg [3, 4] k (fun kq v3 v4 w' => ∃ (x3_1 : List (List (S42))) (x4_1 : Int), v4 = .int .i64 x4_1 ∧ Aside0 (spec_l05Fixed.l0 kq a0 x3_1 x4_1 = some r) ∧ Aside0 (kq ≤ k) ∧ Aside0 (Kd.V (Kd.slice 42 k42) 27 w' w.heap.size (fun k_ => (w.heap.size ≤ k_)) v3 x3_1) ∧ Aside0 (Below w.heap.size w w'))
 case atStart => exact ⟨(y842), (1), (by first | rfl | (simp; done) | (simp [*]; done)), H', ⟨Nat.le_refl _⟩, ⟨Kd.N_V (by (with_reducible repeat (first | apply Kd.N_alloc | apply Kd.N_drewN | apply Kd.N_drew)); exact HO844.out)⟩, ⟨by repeat (with_reducible first | exact HB.out | apply below_alloc | apply pw_below_drewN | apply below_drew1)⟩⟩
 case round =>
  clear H'
  try clear c2
  try clear p2
  obtain ⟨x3_1, x4_1, rfl, HA, HK1, HO_3, HB⟩ := hrel
  cases gk with
  | zero => exact absurd HA.out (by simp [spec_l05Fixed.l0])
  | succ k1 =>
   have H := HA.out
   clear HA
   simp only [spec_l05Fixed.l0] at H
   by_cases c7 : x4_1 < a0
   ·rw [if_pos c7] at H
    have c7b0 : decide (x4_1 < a0) = true := decide_eq_true c7
    clear c7
    obtain ⟨y845, hy845⟩ : ∃ y_ : List (List (S42)), y_ = (([] : List (List (S42)))) := ⟨_, rfl⟩
    replace H : (spec_l05Fixed.l1 k1 a0 x3_1 x4_1 y845 0) = some r := by first | (rw [hy845]; with_reducible exact H) | (have H2_ := (Option.bind_some _ _).symm.trans H; rw [hy845]; with_reducible exact H2_) | (have H2_ := (Option.bind_some _ _).symm.trans H; with_reducible exact H2_) | with_reducible exact H | (rw [hy845]; exact H) | exact H
    have Ny845 := Aside0.mk hy845
    clear hy845
    have H' := Aside0.mk H
    clear H
    go_wp2_with (first | ((with_reducible refine gate_dst (N := 15) rfl ?_); refine Kd.N_lit (Kd.slice 42 k42) _ 27 ?hg (N' := 15) ?hd (xs := ([] : List (List (S42)))) (inner := []) (ok := (fun k_ => (w.heap.size ≤ k_))) (okp := (fun k_ => (w.heap.size ≤ k_))) ?hr ?hp (fun _ hk => hk) ((show ∀ k_, wr.heap.size ≤ k_ → (fun k_ => (w.heap.size ≤ k_)) k_ from fun k_ hk => (Nat.le_trans (below_size (by repeat (with_reducible first | exact HB.out | apply below_alloc | apply pw_below_drewN | apply below_drew1))) hk)) _ (Nat.le_refl _)) (Below.refl _ _) (Nat.le_refl _) (by simp) ?_; (case hd => rfl); (case hg => rfl); (case hr => first | (go_simp; done) | (go_simp; rfl)); (case hp => exact (Reps.none _ _)); intro v846 w8 ho9 hb hg_ hnew_; clear hg_ hnew_; (first | rw [← Ny845.out] at ho9 | (simp only [Int.reduceToNat] at ho9; rw [← Ny845.out] at ho9)); have n0_ := Aside0.mk (Kd.V_elder' (by (with_reducible repeat (first | apply Kd.V_alloc | apply Kd.V_drewN | apply Kd.V_drew)); exact HO_3.out) (Kd.N_base ho9) hb); have n1_ := Aside0.mk (Kd.N_lower ho9 (below_size (by repeat (with_reducible first | exact HB.out | apply below_alloc | apply pw_below_drewN | apply below_drew1)))); have n2_ := Aside0.mk (below_step (by repeat (with_reducible first | exact HB.out | apply below_alloc | apply pw_below_drewN | apply below_drew1)) hb); clear HO_3; clear HB; have HO_3 := n0_; have HO847 := n1_; have HB := n2_; clear n0_ n1_ n2_; clear hb ho9))
    go_loopg [5, 6] k1 (fun kq v5 v6 w' => ∃ (x5_2 : List (List (S42))) (x6_2 : Int), v6 = .int .i64 x6_2 ∧ Aside0 (spec_l05Fixed.l1 kq a0 x3_1 x4_1 x5_2 x6_2 = some r) ∧ Aside0 (kq ≤ k1) ∧ Aside0 (Kd.V (Kd.slice 42 k42) 27 w' w.heap.size (fun k_ => (w.heap.size ≤ k_)) u3 x3_1) ∧ Aside0 (Kd.V (Kd.slice 42 k42) 27 w' w.heap.size (fun k_ => (w.heap.size ≤ k_)) v5 x5_2) ∧ Aside0 (Below w.heap.size w w'))
    case atStart => exact ⟨(y845), (0), (by first | rfl | (simp; done) | (simp [*]; done)), H', ⟨Nat.le_refl _⟩, ⟨by (with_reducible repeat (first | apply Kd.V_alloc | apply Kd.V_drewN | apply Kd.V_drew)); exact Kd.V_mono HO_3.out (fun _ hk => hk.1)⟩, ⟨Kd.N_V (by (with_reducible repeat (first | apply Kd.N_alloc | apply Kd.N_drewN | apply Kd.N_drew)); exact HO847.out)⟩, ⟨by repeat (with_reducible first | exact HB.out | apply below_alloc | apply pw_below_drewN | apply below_drew1)⟩⟩
    case round =>
     clear H'
     try clear c2
     try clear p2
     try clear c7
     try clear c7b0
     try clear p2
     obtain ⟨x5_2, x6_2, rfl, HA, HK2, HO_3, HO_5, HB⟩ := hrel
     cases gk with
     | zero => exact absurd HA.out (by simp [spec_l05Fixed.l1])
     | succ k2 =>
      have H := HA.out
      clear HA
      simp only [spec_l05Fixed.l1] at H
      by_cases c10 : x6_2 < (x3_1.length : Int)
      ·rw [if_pos c10] at H
       have c10b0 : decide (x6_2 < (x3_1.length : Int)) = true := decide_eq_true c10
       clear c10
       by_cases c11 : 0 ≤ x6_2
       ·rw [if_pos c11] at H
        have c11b0 : decide (0 ≤ x6_2) = true := decide_eq_true c11
        clear c11
        replace H := Option.bind_eq_some_iff.mp H
        obtain ⟨t849, A120, H⟩ := H
        replace H : (spec_l05Fixed.l1 k2 a0 x3_1 x4_1 t849 (wrap64 (x6_2 + 1))) = some r := H
        have A12 := Aside0.mk A120
        clear A120
        have H' := Aside0.mk H
        clear H
        obtain ⟨Ao13, co13, eo13⟩ := Kd.V_slice HO_3.out
        subst eo13
        have p848 : 0 ≤ (x6_2 : Int) := of_decide_eq_true (by first | (with_reducible assumption) | assumption)
        have q848 : x6_2 < (x3_1.length : Int) := of_decide_eq_true (by first | (with_reducible assumption) | assumption)
        obtain ⟨ad848, A848_0, c848_0, e848, hx848_0, hl848_0, hi848_0⟩ := at_L3 (Kd.V_reads' HO_3.out).2.2 x6_2 p848 q848
        cases e848
        obtain ⟨ce848, hce848, hMe848, hcc848⟩ := Kd.V_get HO_3.out [] x6_2 p848 (by first | exact q848 | exact of_decide_eq_true (by first | (with_reducible assumption) | assumption) | (have e_ := (Kd.V_reads' HO_3.out).1; omega))
        obtain ⟨ua848_0, uc848_0, rfl, ul848_0, ge848_0⟩ := Kd.FK_slice_open hMe848
        have hv848_0 := hcc848 0 _ rfl
        rw [Nat.add_zero, show ((Kd.slice 42 k42)).sz = 1 from rfl, Nat.mul_one] at hv848_0
        replace hv848_0 := Option.some.inj (hv848_0.symm.trans hx848_0)
        injection hv848_0 with hva_ hvn_ hvc_
        rw [hva_] at ge848_0
        rw [hvc_] at ul848_0
        have HL848_0 := Aside0.mk (show Kd.V k42 42 _ w.heap.size _ _ (rd_L3 x3_1 x6_2) from Kd.V_mk ul848_0 ge848_0)
        clear hva_ hvn_ hvc_ ge848_0 ul848_0
        clear hcc848 hce848
        have HR848_0 := Aside0.mk hi848_0
        have HC848_0 := Aside0.mk hl848_0
        clear hi848_0 hl848_0
        replace p848 := eq_true p848
        replace q848 := eq_true q848
        obtain ⟨Ao14, co14, eo14⟩ := Kd.V_slice HO_5.out
        subst eo14
        go_wp2_with (first | ((with_reducible refine gate_callee (f := 112) rfl ?_); refine goesL_ (some 27) rfl rfl Try.func112 (by kernel_rfl) rfl #[.slice Ao14 x5_2.length co14, .slice A848_0 (rd_L3 x3_1 x6_2).length c848_0] rfl (by (try simp only [List.map_toArray, List.map_cons, List.map_nil]); first | done | rfl) ?_; (with_reducible refine (spec_l05Grow.calls k2 (fun k_ => (w.heap.size ≤ k_)) _ _ x5_2 _ _ (rd_L3 x3_1 x6_2) t849 _ ?side1 ?side2 ?side3 A12.out).mono ?_); (case side1 => exact HO_5.out); (case side2 => repeat (first | exact (by repeat (first | (with_reducible exact HR848_0.out) | (with_reducible refine Kd.C_alloc ?_ _) | (with_reducible refine Kd.C_drewN ?_ _) | (with_reducible refine Kd.C_drew ?_) | exact HR848_0.out)) | (with_reducible refine Kd.C_alloc ?_ _) | (with_reducible refine Kd.C_drewN ?_ _) | (with_reducible refine Kd.C_drew ?_))); (case side3 => exact HC848_0.out); rintro e w15 ⟨v850, rfl, ho0, hb⟩; refine ⟨_, rfl, ?_⟩; have n0_ := Aside0.mk (Kd.V_below (by (with_reducible repeat (first | apply Kd.V_alloc | apply Kd.V_drewN | apply Kd.V_drew)); exact HO_3.out) hb); have n1_ := Aside0.mk (Kd.V_below (by (with_reducible repeat (first | apply Kd.V_alloc | apply Kd.V_drewN | apply Kd.V_drew)); exact HO_5.out) hb); have n2_ := Aside0.mk (Kd.V_below (by (with_reducible repeat (first | apply Kd.V_alloc | apply Kd.V_drewN | apply Kd.V_drew)); exact HL848_0.out) hb); have n3_ := Aside0.mk (Kd.V_lower (Kd.V_mono (ok' := fun k_ => (w.heap.size ≤ k_)) ho0 (fun k_ hk_ => Or.elim hk_ (fun hs_ => hs_) (fun hn_ => (Nat.le_trans (below_size (by repeat (with_reducible first | exact HB.out | apply below_alloc | apply pw_below_drewN | apply below_drew1))) hn_)))) (below_size (by repeat (with_reducible first | exact HB.out | apply below_alloc | apply pw_below_drewN | apply below_drew1)))); have n4_ := Aside0.mk (Kd.C_below (by repeat (first | (with_reducible exact HR848_0.out) | (with_reducible refine Kd.C_alloc ?_ _) | (with_reducible refine Kd.C_drewN ?_ _) | (with_reducible refine Kd.C_drew ?_) | exact HR848_0.out)) hb); have n5_ := Aside0.mk (below_step (by repeat (with_reducible first | exact HB.out | apply below_alloc | apply pw_below_drewN | apply below_drew1)) hb); clear HO_3; clear HO_5; clear HL848_0; clear HR848_0; clear HB; have HO_3 := n0_; have HO_5 := n1_; have HL848_0 := n2_; have HO851 := n3_; have HR848_0 := n4_; have HB := n5_; clear n0_ n1_ n2_ n3_ n4_ n5_; (try clear hb); (try clear ho0)))
        go_roundg k2
        case measure => have := HK1.out; have := HK2.out; omega
        case rel => exact ⟨(t849), (wrap64 (x6_2 + 1)), (by first | rfl | (simp; done) | (simp [*]; done)), H', ⟨by have := HK1.out; have := HK2.out; omega⟩, ⟨by (with_reducible repeat (first | apply Kd.V_alloc | apply Kd.V_drewN | apply Kd.V_drew)); exact HO_3.out⟩, ⟨by (with_reducible repeat (first | apply Kd.V_alloc | apply Kd.V_drewN | apply Kd.V_drew)); exact HO851.out⟩, ⟨by repeat (with_reducible first | exact HB.out | apply below_alloc | apply pw_below_drewN | apply below_drew1)⟩⟩
       ·rw [if_neg c11] at H
        exact absurd H (by simp)
      ·rw [if_neg c10] at H
       have c10b0 : decide (x6_2 < (x3_1.length : Int)) = false := decide_eq_false c10
       clear c10
       have H' := Aside0.mk H
       clear H
       obtain ⟨Ao16, co16, eo16⟩ := Kd.V_slice HO_3.out
       subst eo16
       go_wp2
       go_roundg k2
       case measure => have := HK1.out; have := HK2.out; omega
       case rel => exact ⟨(x5_2), (wrap64 (x4_1 + 1)), (by first | rfl | (simp; done) | (simp [*]; done)), H', ⟨by have := HK1.out; have := HK2.out; omega⟩, ⟨by (with_reducible repeat (first | apply Kd.V_alloc | apply Kd.V_drewN | apply Kd.V_drew)); exact HO_5.out⟩, ⟨by repeat (with_reducible first | exact HB.out | apply below_alloc | apply pw_below_drewN | apply below_drew1)⟩⟩
   ·rw [if_neg c7] at H
    have c7b0 : decide (x4_1 < a0) = false := decide_eq_false c7
    clear c7
    obtain rfl := Option.some.inj H
    go_wp2
    go_ret
    exact ⟨_, by first | rfl | (simp [*] <;> rfl), by (with_reducible repeat (first | apply Kd.V_alloc | apply Kd.V_drewN | apply Kd.V_drew)); exact HO_3.out, by repeat (with_reducible first | exact HB.out | apply below_alloc | apply pw_below_drewN | apply below_drew1)⟩

/-! ### impl_isOrder: function 78 -/
def impl_isOrder.f (a0 : Int) : Option (Bool) := (impl_within.f a0 1 6).bind fun t856 => (some t856)
set_option maxHeartbeats 8000000 in
set_option maxRecDepth 100000 in
theorem impl_isOrder.calls (a0 : Int) (r : Bool) (w : World) (h : impl_isOrder.f a0 = some r) :
  Calls Try.prog 78 #[.int .i64 a0] w fun e w' => e = .returned (.bool r) ∧ Drawn0 w w' := by
 have H : ((impl_within.f a0 1 6).bind fun t856 => (some t856)) = some r := h
 clear h
 replace H := Option.bind_eq_some_iff.mp H
 obtain ⟨t856, A20, H⟩ := H
 replace H : (some t856) = some r := H
 have A2 := Aside0.mk A20
 clear A20
 obtain rfl := Option.some.inj H
 go_enter Try.func78, Try.ntmps78
 go_wp2_with (first | ((with_reducible refine gate_callee (f := 113) rfl ?_); refine goesL_ (some 4) rfl rfl Try.func113 (by kernel_rfl) rfl #[.int .i64 a0, .int .i64 1, .int .i64 6] rfl (by (try simp only [List.map_toArray, List.map_cons, List.map_nil]); first | done | rfl) ?_; (with_reducible refine (impl_within.calls a0 1 6 t856 _ A2.out).mono ?_); rintro e w' ⟨rfl, ⟨nd, rfl⟩⟩; refine ⟨_, rfl, ?_⟩))
 go_ret
 exact ⟨by first | rfl | (simp; done) | (simp [*]; done), by repeat (first | exact Drawn0.refl _ | apply Drawn0.step)⟩

/-! ### impl_grown: function 127 -/
/-- a call through a variable's function -/
theorem goesV_ {P : Program} {ops : Array Oper} {Q : Exit → Act → World → Prop} {oi : Oper} {N : Option Tmp} {a : Act} {w : World} {K : Act → World → Prop} {f : FuncId} {fn : Func} {x : Operand} {as_ : Array Operand} {ts : Array TypeId} (hf : P.funcs[f]? = some fn) (hname : (fn.name == "runtime.NumGoroutine") = false) (hb : fn.body.isSome = true) (args : Array Value)
  (hw : Region.wanted oi (yielded ops a.tmps) = true) (hN : oi.dst = N) (hop : oi.op = .call { callee := .value x, args := as_, argTypes := ts }) (hx : a.eval x = .func (.func f) #[] #[]) (hargs : as_.map a.eval = args)
  (h : Calls P f args w fun e w' => ∃ v, e = .returned v ∧ K (a.put N v) w') : if Region.wanted oi (yielded ops a.tmps) = true then Oper.wp P oi a w K Q else K (a.put N undef) w := by
 refine call_ f args hw hN ?_ h
 have he := enters_ hf hname hb args w
 unfold execOp
 simp [hop, hx, resolve, Deferred.ofValue, invoke, hargs, he]
def impl_grown.l0 : Nat → List (S42) → List (List (S42)) → List (S42) → Int → Int → Option ((List (List (S42))))
 | 0, _, _, _, _, _ => none
 | k + 1, x0, x7, x13, x14, x15 => if x15 < x14 then (if 0 ≤ x15 then (if x15 < (x13.length : Int) then ((slices_Clone_Cell.f x0).bind fun t902 => ((some (([(⟨(rd_T42 x13 x15).f0, (rd_T42 x13 x15).f1⟩ : S42)] : List (S42)) : List (S42))).bind fun y905 => (if t902.length + y905.length < 8796093022208 then ((impl_sorted.f (t902 ++ y905)).bind fun t911 => ((impl_normal.f k t911).bind fun t914 => ((some (([t914] : List (List (S42))) : List (List (S42)))).bind fun y917 => (if x7.length + y917.length < 5864062014805 then (impl_grown.l0 k x0 (x7 ++ y917) x13 x14 (wrap64 (x15 + 1))) else (none))))) else (none)))) else (none)) else (none)) else ((impl_tidyShapes.f k x7).bind fun t923 => (some t923))
def impl_grown.f (k : Nat) (l0 : List (S42))   : Option ((List (List (S42)))) := (impl_beside.f k l0).bind fun t897 => (impl_grown.l0 k l0 (([] : List (List (S42)))) t897 (t897.length : Int) 0)
theorem impl_grown.mono_l : ∀ k, (∀ y0 y1 y2 y3 y4, LeO (impl_grown.l0 k y0 y1 y2 y3 y4) (impl_grown.l0 (k + 1) y0 y1 y2 y3 y4))
 | 0 => fun _ _ _ _ _ r h => by simp [impl_grown.l0] at h
 | k + 1 => by
  have ih0 := impl_grown.mono_l k
  ·intro y0 y1 y2 y3 y4
   unfold impl_grown.l0
   repeat' first
   | (with_reducible exact ih0 _ _ _ _ _)
   | (with_reducible exact impl_beside.mono _ _)
   | (with_reducible exact impl_normal.mono _ _)
   | (with_reducible exact impl_tidyShapes.mono _ _)
   | (with_reducible exact LeO.refl _)
   | (with_reducible exact LeO.none _)
   | (with_reducible refine LeO.ite ?_ ?_)
   | (with_reducible refine LeO.bind ?_ (fun _ => ?_))
   | exact ih0 _ _ _ _ _
   | exact impl_beside.mono _ _
   | exact impl_normal.mono _ _
   | exact impl_tidyShapes.mono _ _
   | exact LeO.none _
   | refine LeO.ite ?_ ?_
   | refine LeO.bind ?_ (fun _ => ?_)
theorem impl_grown.mono : ∀ a0 k, LeO (impl_grown.f k a0) (impl_grown.f (k + 1) a0) := by
 intro a0 k
 have ih0 := impl_grown.mono_l k
 unfold impl_grown.f
 repeat' first
   | (with_reducible exact ih0 _ _ _ _ _)
   | (with_reducible exact impl_beside.mono _ _)
   | (with_reducible exact impl_normal.mono _ _)
   | (with_reducible exact impl_tidyShapes.mono _ _)
   | (with_reducible exact LeO.refl _)
   | (with_reducible exact LeO.none _)
   | (with_reducible refine LeO.ite ?_ ?_)
   | (with_reducible refine LeO.bind ?_ (fun _ => ?_))
   | exact ih0 _ _ _ _ _
   | exact impl_beside.mono _ _
   | exact impl_normal.mono _ _
   | exact impl_tidyShapes.mono _ _
   | exact LeO.none _
   | refine LeO.ite ?_ ?_
   | refine LeO.bind ?_ (fun _ => ?_)
def impl_grown.T5 : Bool × List (List Nat × List Nat) := (true, [([], []), ([], []), ([], []), ([2], [2]), ([], []), ([4], [4]), ([3, 5, 3], [3, 5]), ([6, 6], [6]), ([1, 7, 7], [1, 7]), ([8], [8]), ([0, 9, 8], [0, 9]), ([10, 10, 0, 1, 2, 3, 4, 5, 6, 7, 8, 9, 10], [0, 10])])
def impl_grown.B5 : List Nat := [0, 0, 0, 4, 0, 16, 60, 124, 254, 510, 1023, 2047]
theorem impl_grown.tab5 : rtab .any (opsOf Try.f127 5) = impl_grown.T5 := by kernel_rfl
theorem impl_grown.bits5 : waitsOk impl_grown.T5.2 impl_grown.B5 = true := by kernel_rfl
set_option maxHeartbeats 8000000 in
set_option maxRecDepth 100000 in
theorem impl_grown.calls (k : Nat) (A0 : Option Addr) (c0 : Nat) (l0 : List (S42))   (r : List (List (S42))) (w : World) (hr0 : Kd.C k42 w A0 l0.length l0) (hc0 : l0.length ≤ c0) (h : impl_grown.f k l0 = some r) :
  Calls Try.prog 127 #[.slice A0 l0.length c0, .func (.func 68) #[] #[], .func (.func 90) #[] #[]] w fun e w' => ∃ v0_ : Value, e = .returned (v0_) ∧ Kd.S (Kd.slice 42 k42) 27 w' w.heap.size (fun _ => True) v0_ r ∧ Below w.heap.size w w' := by
 have hu42 := Try.underlying42
 have HR0 := Aside0.mk hr0
 have HC0 := Aside0.mk hc0
 clear hr0 hc0
 have HB := Aside0.mk (Below.refl w.heap.size w)
 have H : ((impl_beside.f k l0).bind fun t897 => (impl_grown.l0 k l0 (([] : List (List (S42)))) t897 (t897.length : Int) 0)) = some r := h
 clear h
 obtain ⟨y894, hy894⟩ : ∃ y_ : List (List (S42)), y_ = (([] : List (List (S42)))) := ⟨_, rfl⟩
 replace H : ((impl_beside.f k l0).bind fun t897 => (impl_grown.l0 k l0 y894 t897 (t897.length : Int) 0)) = some r := by first | (rw [hy894]; with_reducible exact H) | (have H2_ := (Option.bind_some _ _).symm.trans H; rw [hy894]; with_reducible exact H2_) | (have H2_ := (Option.bind_some _ _).symm.trans H; with_reducible exact H2_) | with_reducible exact H | (rw [hy894]; exact H) | exact H
 have Ny894 := Aside0.mk hy894
 clear hy894
 replace H := Option.bind_eq_some_iff.mp H
 obtain ⟨t897, A40, H⟩ := H
 replace H : (impl_grown.l0 k l0 y894 t897 (t897.length : Int) 0) = some r := H
 have A4 := Aside0.mk A40
 clear A40
 have H' := Aside0.mk H
 clear H
 go_enter Try.func127, Try.ntmps127
 go_wp2_with (first | ((with_reducible refine gate_dst (N := 10) rfl ?_); refine Kd.S_lit (Kd.slice 42 k42) _ 27 ?hg (N := 10) ?hd (xs := ([] : List (List (S42)))) (inner := []) (ok := (fun k_ => (w.heap.size ≤ k_))) (okp := (fun k_ => (w.heap.size ≤ k_))) ?hr ?hp (fun _ hk => hk) ((show ∀ k_, w.heap.size ≤ k_ → (fun k_ => (w.heap.size ≤ k_)) k_ from fun k_ hk => (Nat.le_trans (below_size (by repeat (with_reducible first | exact HB.out | apply below_alloc | apply pw_below_drewN | apply below_drew1))) hk)) _ (Nat.le_refl _)) (Below.refl _ _) (Nat.le_refl _) (by simp) ?_; (case hd => rfl); (case hg => rfl); (case hr => first | (go_simp; done) | (go_simp; rfl)); (case hp => exact (Reps.none _ _)); intro v895 w5 ho6 hb hg_ hnew_; clear hg_ hnew_; (first | rw [← Ny894.out] at ho6 | (simp only [Int.reduceToNat] at ho6; rw [← Ny894.out] at ho6)); have n0_ := Aside0.mk (Kd.S_lower ho6 (below_size (by repeat (with_reducible first | exact HB.out | apply below_alloc | apply pw_below_drewN | apply below_drew1)))); have n1_ := Aside0.mk (below_step (by repeat (with_reducible first | exact HB.out | apply below_alloc | apply pw_below_drewN | apply below_drew1)) hb); clear HB; have HO896 := n0_; have HB := n1_; clear n0_ n1_; clear hb ho6) | ((with_reducible refine gate_callee (f := 71) rfl ?_); refine goesL_ (some 13) rfl rfl Try.func71 (by kernel_rfl) rfl #[.slice A0 l0.length c0, .func (.func 68) #[] #[]] rfl (by (try simp only [List.map_toArray, List.map_cons, List.map_nil]); first | done | rfl) ?_; (with_reducible refine (impl_beside.calls k _ _ l0  t897 _ ?side1 ?side2 A4.out).mono ?_); (case side1 => repeat (first | exact (Kd.C_below HR0.out HB.out) | (with_reducible refine Kd.C_alloc ?_ _) | (with_reducible refine Kd.C_drewN ?_ _) | (with_reducible refine Kd.C_drew ?_))); (case side2 => exact HC0.out); rintro e w7 ⟨v898, rfl, ho0, hb⟩; refine ⟨_, rfl, ?_⟩; have n0_ := Aside0.mk (Kd.S_elder' (by (with_reducible repeat (first | apply Kd.S_alloc | apply Kd.S_drewN | apply Kd.S_drew)); exact HO896.out) (Kd.R_base ho0) hb); have n1_ := Aside0.mk (Kd.R_lower (Kd.R_newM (M := fun k_ => (w.heap.size ≤ k_)) ho0 (below_size (by repeat (with_reducible first | exact HB.out | apply below_alloc | apply pw_below_drewN | apply below_drew1))) (fun k_ h_ => h_)) (below_size (by repeat (with_reducible first | exact HB.out | apply below_alloc | apply pw_below_drewN | apply below_drew1)))); have n2_ := Aside0.mk (below_step (by repeat (with_reducible first | exact HB.out | apply below_alloc | apply pw_below_drewN | apply below_drew1)) hb); clear HO896; clear HB; have HO896 := n0_; have HO899 := n1_; have HB := n2_; clear n0_ n1_ n2_; (try clear hb); (try clear ho0); obtain ⟨Ao8, co8, eo8⟩ := Kd.R_slice HO899.out; subst eo8))
 go_loopg [7, 15] k (fun kq v7 v15 w' => ∃ (x7_1 : List (List (S42))) (x15_1 : Int), v15 = .int .i64 x15_1 ∧ Aside0 (impl_grown.l0 kq l0 x7_1 t897 (t897.length : Int) x15_1 = some r) ∧ Aside0 (kq ≤ k) ∧ Aside0 (Kd.S (Kd.slice 42 k42) 27 w' w.heap.size (fun k_ => (w.heap.size ≤ k_) ∧ some k_ ≠ ((.slice Ao8 t897.length co8) : Value).ownBlock) v7 x7_1) ∧ Aside0 (Kd.R k42 42 w' w.heap.size (fun k_ => (w.heap.size ≤ k_)) (.slice Ao8 t897.length co8) t897) ∧ Aside0 (Below w.heap.size w w'))
 case atStart => exact ⟨(y894), (0), (by first | rfl | (simp; done) | (simp [*]; done)), H', ⟨Nat.le_refl _⟩, ⟨by (with_reducible repeat (first | apply Kd.S_alloc | apply Kd.S_drewN | apply Kd.S_drew)); exact HO896.out⟩, ⟨by (with_reducible repeat (first | apply Kd.R_alloc | apply Kd.R_drewN | apply Kd.R_drew)); exact Kd.R_mono HO899.out (fun _ hk => hk.1)⟩, ⟨by repeat (with_reducible first | exact HB.out | apply below_alloc | apply pw_below_drewN | apply below_drew1)⟩⟩
 case round =>
  clear H'
  try clear c1
  try clear p2
  try clear c7
  obtain ⟨x7_1, x15_1, rfl, HA, HK1, HO_7, HO_13, HB⟩ := hrel
  cases gk with
  | zero => exact absurd HA.out (by simp [impl_grown.l0])
  | succ k1 =>
   have H := HA.out
   clear HA
   simp only [impl_grown.l0] at H
   by_cases c9 : x15_1 < (t897.length : Int)
   ·rw [if_pos c9] at H
    have c9b0 : decide (x15_1 < (t897.length : Int)) = true := decide_eq_true c9
    clear c9
    by_cases c10 : 0 ≤ x15_1
    ·rw [if_pos c10] at H
     have c10b0 : decide (0 ≤ x15_1) = true := decide_eq_true c10
     clear c10
     by_cases c11 : x15_1 < (t897.length : Int)
     ·rw [if_pos c11] at H
      have c11b0 : decide (x15_1 < (t897.length : Int)) = true := decide_eq_true c11
      clear c11
      replace H := Option.bind_eq_some_iff.mp H
      obtain ⟨t902, A120, H⟩ := H
      replace H : ((some (([(⟨(rd_T42 t897 x15_1).f0, (rd_T42 t897 x15_1).f1⟩ : S42)] : List (S42)) : List (S42))).bind fun y905 => (if t902.length + y905.length < 8796093022208 then ((impl_sorted.f (t902 ++ y905)).bind fun t911 => ((impl_normal.f k1 t911).bind fun t914 => ((some (([t914] : List (List (S42))) : List (List (S42)))).bind fun y917 => (if x7_1.length + y917.length < 5864062014805 then (impl_grown.l0 k1 l0 (x7_1 ++ y917) t897 (t897.length : Int) (wrap64 (x15_1 + 1))) else (none))))) else (none))) = some r := H
      have A12 := Aside0.mk A120
      clear A120
      obtain ⟨y905, hy905⟩ : ∃ y_ : List (S42), y_ = (([(⟨(rd_T42 t897 x15_1).f0, (rd_T42 t897 x15_1).f1⟩ : S42)] : List (S42))) := ⟨_, rfl⟩
      replace H : (if t902.length + y905.length < 8796093022208 then ((impl_sorted.f (t902 ++ y905)).bind fun t911 => ((impl_normal.f k1 t911).bind fun t914 => ((some (([t914] : List (List (S42))) : List (List (S42)))).bind fun y917 => (if x7_1.length + y917.length < 5864062014805 then (impl_grown.l0 k1 l0 (x7_1 ++ y917) t897 (t897.length : Int) (wrap64 (x15_1 + 1))) else (none))))) else (none)) = some r := by first | (rw [hy905]; with_reducible exact H) | (have H2_ := (Option.bind_some _ _).symm.trans H; rw [hy905]; with_reducible exact H2_) | (have H2_ := (Option.bind_some _ _).symm.trans H; with_reducible exact H2_) | with_reducible exact H | (rw [hy905]; exact H) | exact H
      have Ny905 := Aside0.mk hy905
      clear hy905
      by_cases c13 : t902.length + y905.length < 8796093022208
      ·rw [if_pos c13] at H
       have LMc13 := Aside0.mk c13
       clear c13
       obtain ⟨y908, hy908⟩ : ∃ y_ : List (S42), y_ = (t902 ++ y905) := ⟨_, rfl⟩
       replace H : ((impl_sorted.f y908).bind fun t911 => ((impl_normal.f k1 t911).bind fun t914 => ((some (([t914] : List (List (S42))) : List (List (S42)))).bind fun y917 => (if x7_1.length + y917.length < 5864062014805 then (impl_grown.l0 k1 l0 (x7_1 ++ y917) t897 (t897.length : Int) (wrap64 (x15_1 + 1))) else (none))))) = some r := by first | (rw [hy908]; with_reducible exact H) | (have H2_ := (Option.bind_some _ _).symm.trans H; rw [hy908]; with_reducible exact H2_) | (have H2_ := (Option.bind_some _ _).symm.trans H; with_reducible exact H2_) | with_reducible exact H | (rw [hy908]; exact H) | exact H
       have Ny908 := Aside0.mk hy908
       clear hy908
       replace H := Option.bind_eq_some_iff.mp H
       obtain ⟨t911, A140, H⟩ := H
       replace H : ((impl_normal.f k1 t911).bind fun t914 => ((some (([t914] : List (List (S42))) : List (List (S42)))).bind fun y917 => (if x7_1.length + y917.length < 5864062014805 then (impl_grown.l0 k1 l0 (x7_1 ++ y917) t897 (t897.length : Int) (wrap64 (x15_1 + 1))) else (none)))) = some r := H
       have A14 := Aside0.mk A140
       clear A140
       replace H := Option.bind_eq_some_iff.mp H
       obtain ⟨t914, A150, H⟩ := H
       replace H : ((some (([t914] : List (List (S42))) : List (List (S42)))).bind fun y917 => (if x7_1.length + y917.length < 5864062014805 then (impl_grown.l0 k1 l0 (x7_1 ++ y917) t897 (t897.length : Int) (wrap64 (x15_1 + 1))) else (none))) = some r := H
       have A15 := Aside0.mk A150
       clear A150
       obtain ⟨y917, hy917⟩ : ∃ y_ : List (List (S42)), y_ = (([t914] : List (List (S42)))) := ⟨_, rfl⟩
       replace H : (if x7_1.length + y917.length < 5864062014805 then (impl_grown.l0 k1 l0 (x7_1 ++ y917) t897 (t897.length : Int) (wrap64 (x15_1 + 1))) else (none)) = some r := by first | (rw [hy917]; with_reducible exact H) | (have H2_ := (Option.bind_some _ _).symm.trans H; rw [hy917]; with_reducible exact H2_) | (have H2_ := (Option.bind_some _ _).symm.trans H; with_reducible exact H2_) | with_reducible exact H | (rw [hy917]; exact H) | exact H
       have Ny917 := Aside0.mk hy917
       clear hy917
       by_cases c16 : x7_1.length + y917.length < 5864062014805
       ·rw [if_pos c16] at H
        have LMc16 := Aside0.mk c16
        clear c16
        obtain ⟨y920, hy920⟩ : ∃ y_ : List (List (S42)), y_ = (x7_1 ++ y917) := ⟨_, rfl⟩
        replace H : (impl_grown.l0 k1 l0 y920 t897 (t897.length : Int) (wrap64 (x15_1 + 1))) = some r := by first | (rw [hy920]; with_reducible exact H) | (have H2_ := (Option.bind_some _ _).symm.trans H; rw [hy920]; with_reducible exact H2_) | (have H2_ := (Option.bind_some _ _).symm.trans H; with_reducible exact H2_) | with_reducible exact H | (rw [hy920]; exact H) | exact H
        have Ny920 := Aside0.mk hy920
        clear hy920
        have H' := Aside0.mk H
        clear H
        have p900 : 0 ≤ (x15_1 : Int) := of_decide_eq_true (by first | (with_reducible assumption) | assumption)
        have q900 : x15_1 < (t897.length : Int) := of_decide_eq_true (by first | (with_reducible assumption) | assumption)
        obtain ⟨ad900, e900, hx900_0, hx900_1⟩ := at_T42 (Kd.R_reads' HO_13.out).2.2 x15_1 p900 q900
        cases e900
        replace p900 := eq_true p900
        replace q900 := eq_true q900
        try go_wp2_with (first | ((with_reducible refine gate_dst (N := 9) rfl ?_); refine box_event ?hg (N := 9) ?hd (cs := #[.int .i64 0, .int .i64 0]) (t := 42) ?hr ?_; (case hd => rfl); (case hg => rfl); (case hr => first | (go_simp; done) | (go_simp; rfl)); intro gb901 hg w17 hbox hb; have n0_ := Aside0.mk (Kd.S_below (Kd.S_elderB (by (with_reducible repeat (first | apply Kd.S_alloc | apply Kd.S_drewN | apply Kd.S_drew)); exact HO_7.out) gb901 (Nat.le_of_eq hg.symm)) hb); have n1_ := Aside0.mk (Kd.R_below (Kd.R_elderB (by (with_reducible repeat (first | apply Kd.R_alloc | apply Kd.R_drewN | apply Kd.R_drew)); exact HO_13.out) gb901 (Nat.le_of_eq hg.symm)) hb); have n2_ := Aside0.mk (below_step (by repeat (with_reducible first | exact HB.out | apply below_alloc | apply pw_below_drewN | apply below_drew1)) hb); have n3_ := Aside0.mk (hbox); have n4_ := Aside0.mk ((by rw [hg]; exact (below_size (by repeat (with_reducible first | exact HB.out | apply below_alloc | apply pw_below_drewN | apply below_drew1))) : w.heap.size ≤ gb901)); have n5_ := Aside0.mk ((by rw [hg]; exact (below_size (by repeat (with_reducible first | exact HB.out | apply below_alloc | apply pw_below_drewN | apply below_drew1))) : w.heap.size ≤ gb901)); clear HO_7; clear HO_13; clear HB; have HO_7 := n0_; have HO_13 := n1_; have HB := n2_; have BK901 := n3_; have GW901 := n4_; have GE901 := n5_; clear n0_ n1_ n2_ n3_ n4_ n5_; clear hb hbox hg; have hcz18_0 : w17.cell? ⟨gb901, 0, none⟩ = some (.int .i64 0) := (blk_cell BK901.out 0).trans rfl; have hcz18_1 : w17.cell? ⟨gb901, 1, none⟩ = some (.int .i64 0) := (blk_cell BK901.out 1).trans rfl; have hfz18_0 := blk_frozen BK901.out 0; have hfz18_1 := blk_frozen BK901.out 1; obtain ⟨Ao19, co19, eo19⟩ := Kd.S_slice HO_7.out; subst eo19))
        have n0_ : Aside0 (Kd.S (Kd.slice 42 k42) 27 ((w17.setCell ⟨gb901, 0, none⟩ (.int .i64 ((rd_T42 t897 x15_1).f0))).setCell ⟨gb901, 1, none⟩ (.int .i64 ((rd_T42 t897 x15_1).f1))) w.heap.size (fun k_ => (w.heap.size ≤ k_) ∧ some k_ ≠ (.slice (some ad900) t897.length co8 : Value).ownBlock ∧ k_ ≠ gb901) (.slice Ao19 x7_1.length co19) x7_1) := ⟨by (with_reducible repeat (first | apply Kd.S_alloc | apply Kd.S_drewN | apply Kd.S_drew)); exact Kd.S_mono (Kd.S_far (p := ⟨gb901, 1, none⟩) (Kd.S_far (p := ⟨gb901, 0, none⟩) (Kd.S_mono HO_7.out (fun k_ hk => (⟨hk, hk.2⟩ : _ ∧ k_ ≠ gb901))) (fun _ hk => hk.2) (.int .i64 ((rd_T42 t897 x15_1).f0))) (fun _ hk => hk.2) (.int .i64 ((rd_T42 t897 x15_1).f1))) (fun _ hk => ⟨hk.1.1.1, ⟨hk.1.1.2, hk.1.2⟩⟩)⟩
        have n1_ : Aside0 (Kd.R k42 42 ((w17.setCell ⟨gb901, 0, none⟩ (.int .i64 ((rd_T42 t897 x15_1).f0))).setCell ⟨gb901, 1, none⟩ (.int .i64 ((rd_T42 t897 x15_1).f1))) w.heap.size (fun k_ => (w.heap.size ≤ k_) ∧ k_ ≠ gb901) (.slice (some ad900) t897.length co8) t897) := ⟨by (with_reducible repeat (first | apply Kd.R_alloc | apply Kd.R_drewN | apply Kd.R_drew)); exact Kd.R_mono (Kd.R_far (p := ⟨gb901, 1, none⟩) (Kd.R_far (p := ⟨gb901, 0, none⟩) (Kd.R_mono HO_13.out (fun k_ hk => (⟨hk, hk.2⟩ : _ ∧ k_ ≠ gb901))) (fun _ hk => hk.2) (.int .i64 ((rd_T42 t897 x15_1).f0))) (fun _ hk => hk.2) (.int .i64 ((rd_T42 t897 x15_1).f1))) (fun _ hk => ⟨hk.1.1, hk.1.2⟩)⟩
        have n2_ : Aside0 (((w17.setCell ⟨gb901, 0, none⟩ (.int .i64 ((rd_T42 t897 x15_1).f0))).setCell ⟨gb901, 1, none⟩ (.int .i64 ((rd_T42 t897 x15_1).f1))).heap[gb901]? = some (.cells #[.int .i64 ((rd_T42 t897 x15_1).f0), .int .i64 ((rd_T42 t897 x15_1).f1)] 42 (0, 0))) := ⟨by (with_reducible repeat (first | refine blk_drewN ?_ _ | refine blk_drew ?_ | refine blk_alloc ?_ _)); refine blk_put (cs := #[.int .i64 ((rd_T42 t897 x15_1).f0), .int .i64 0]) ?_ 1 _ rfl; (with_reducible repeat (first | refine blk_drewN ?_ _ | refine blk_drew ?_ | refine blk_alloc ?_ _)); refine blk_put (cs := #[.int .i64 0, .int .i64 0]) ?_ 0 _ rfl; (with_reducible repeat (first | refine blk_drewN ?_ _ | refine blk_drew ?_ | refine blk_alloc ?_ _)); exact BK901.out⟩
        have n3_ : Aside0 (Below w.heap.size w ((w17.setCell ⟨gb901, 0, none⟩ (.int .i64 ((rd_T42 t897 x15_1).f0))).setCell ⟨gb901, 1, none⟩ (.int .i64 ((rd_T42 t897 x15_1).f1)))) := ⟨by repeat (first | (with_reducible first | exact HB.out | apply below_alloc | apply pw_below_drewN | apply below_drew1 | refine below_set ?_ GE901.out) | exact HB.out)⟩
        (try clear HO_7)
        (try clear HO_13)
        (try clear BK901)
        (try clear HB)
        generalize ((w17.setCell ⟨gb901, 0, none⟩ (.int .i64 ((rd_T42 t897 x15_1).f0))).setCell ⟨gb901, 1, none⟩ (.int .i64 ((rd_T42 t897 x15_1).f1))) = w20 at n0_ n1_ n2_ n3_ ⊢
        have HO_7 := n0_
        have HO_13 := n1_
        have BK901 := n2_
        have HB := n3_
        clear n0_ n1_ n2_ n3_
        have n0_ := Aside0.mk (Kd.S_drew HO_7.out)
        have n1_ := Aside0.mk (Kd.R_drew HO_13.out)
        have n2_ := Aside0.mk (blk_drew BK901.out)
        have n3_ := Aside0.mk (below_drew1 HB.out)
        clear HO_7
        clear HO_13
        clear BK901
        clear HB
        have HO_7 := n0_
        have HO_13 := n1_
        have BK901 := n2_
        have HB := n3_
        clear n0_ n1_ n2_ n3_
        refine start_ (n := 12) (S := fun w' => w'.cell? ⟨gb901, 0, none⟩ = some (.int .i64 ((rd_T42 t897 x15_1).f0)) ∧ w'.cell? ⟨gb901, 1, none⟩ = some (.int .i64 ((rd_T42 t897 x15_1).f1))) (ds := []) #[F, F, F, F, F, F, F, F, F, F, F, F] (by kernel_rfl) rfl rfl ⟨(blk_cell BK901.out 0).trans rfl, (blk_cell BK901.out 1).trans rfl⟩ (fun hHeld => ?_); refine with_tabW impl_grown.tab5 impl_grown.bits5 (fun HT_ HW_ => ?_)
        generalize w20.drew = w21 at HO_7 HO_13 BK901 HB hHeld ⊢
        refine pure_ (i := 0) (N := some 19) (v := ?_) (a' := ?_) #[T, F, F, F, F, F, F, F, F, F, F, F] rfl rfl (any_of HT_.out (by kernel_rfl)) (fun _ _ _ h => h) (Or.inl ⟨by rfl, ?_⟩) ?_ ?_
        rotate_left
        ·intro w'
         go_simp
         with_reducible rfl
        rotate_left
        ·simp only [Act.put, List.setIfInBounds_toArray, List.set_cons_zero, List.set_cons_succ, i64_w, i32_w]
         rfl
        refine pure_ (i := 1) (N := some 20) (v := ?_) (a' := ?_) #[T, T, F, F, F, F, F, F, F, F, F, F] rfl rfl (any_of HT_.out (by kernel_rfl)) (fun _ _ _ h => h) (Or.inl ⟨by rfl, ?_⟩) ?_ ?_
        rotate_left
        ·intro w'
         go_simp
         with_reducible rfl
        rotate_left
        ·simp only [Act.put, List.setIfInBounds_toArray, List.set_cons_zero, List.set_cons_succ, i64_w, i32_w]
         rfl
        refine pure_ (i := 2) (N := some 21) (v := ?_) (a' := ?_) #[T, T, T, F, F, F, F, F, F, F, F, F] rfl rfl (any_of HT_.out (by kernel_rfl)) (fun _ _ _ h => h) (Or.inl ⟨by rfl, ?_⟩) ?_ ?_
        rotate_left
        ·intro w'
         go_simp
         with_reducible rfl
        rotate_left
        ·simp only [Act.put, List.setIfInBounds_toArray, List.set_cons_zero, List.set_cons_succ, i64_w, i32_w]
         rfl
        refine take_ (i := 4) (N := some 23) (v := ?_) (a' := ?_) #[T, T, T, F, T, F, F, F, F, F, F, F] rfl rfl (take_ofW HT_.out HW_.out (by kernel_rfl)) (fun _ _ _ h => h) (Or.inl ⟨by rfl, ?_⟩) hHeld ?_ ?_
        rotate_left
        ·rintro w' ⟨s0, s1⟩
         go_simp
         with_reducible rfl
        rotate_left
        ·simp only [Act.put, List.setIfInBounds_toArray, List.set_cons_zero, List.set_cons_succ, i64_w, i32_w]
         rfl
        refine join_ (σ := Value × Value) 6 #[T, T, T, T, T, T, F, F, F, F, F, F] (fun s_ => [(22, s_.1), (24, s_.2)]) (fun s_ w' => (w'.cell? ⟨gb901, 0, none⟩ = some (.int .i64 ((rd_T42 t897 x15_1).f0)) ∧ w'.cell? ⟨gb901, 1, none⟩ = some (.int .i64 ((rd_T42 t897 x15_1).f1))) ∧ (Kd.R k42 42 w' w.heap.size (fun k_ => (w.heap.size ≤ k_) ∧ some k_ ≠ (s_.2 : Value).ownBlock ∧ some k_ ≠ (.slice (some ad900) t897.length co8 : Value).ownBlock ∧ k_ ≠ gb901) s_.1 t902) ∧ (Kd.R k42 42 w' w.heap.size (fun k_ => (w.heap.size ≤ k_) ∧ some k_ ≠ (s_.1 : Value).ownBlock ∧ some k_ ≠ (.slice (some ad900) t897.length co8 : Value).ownBlock ∧ k_ ≠ gb901) s_.2 y905) ∧ (Kd.R k42 42 w' w.heap.size (fun k_ => (w.heap.size ≤ k_) ∧ some k_ ≠ (s_.1 : Value).ownBlock ∧ some k_ ≠ (s_.2 : Value).ownBlock ∧ k_ ≠ gb901) (.slice (some ad900) t897.length co8) t897) ∧ (Kd.S (Kd.slice 42 k42) 27 w' w.heap.size (fun k_ => (w.heap.size ≤ k_) ∧ some k_ ≠ (s_.1 : Value).ownBlock ∧ some k_ ≠ (s_.2 : Value).ownBlock ∧ some k_ ≠ (.slice (some ad900) t897.length co8 : Value).ownBlock ∧ k_ ≠ gb901) (.slice Ao19 x7_1.length co19) x7_1) ∧ (w'.heap[gb901]? = some (.cells #[.int .i64 ((rd_T42 t897 x15_1).f0), .int .i64 ((rd_T42 t897 x15_1).f1)] 42 (0, 0))) ∧ (Below w.heap.size w w')) ?_ ?_
        rotate_left
        ·intro hCont
         refine two_ (i := 3) (j := 5) (Ni := some 22) (Nj := some 24) #[T, T, T, T, T, F, F, F, F, F, F, F] #[T, T, T, F, T, T, F, F, F, F, F, F] rfl rfl rfl rfl (two_of HT_.out (by kernel_rfl)) (by decide) (by decide) (fun K hK => ?_) (fun K hK => ?_)
         ·skip
          refine goes_ Try.func89 (by kernel_rfl) rfl #[.slice A0 l0.length c0] (by rfl) rfl rfl (by (try simp only [List.map_toArray, List.map_cons, List.map_nil]); first | done | rfl) ?_
          with_reducible refine (slices_Clone_Cell.calls _ _ l0 t902 _ ?side1 ?side2 A12.out).mono ?_
          (case side1 => repeat (first | exact (Kd.C_below HR0.out HB.out) | (with_reducible refine Kd.C_alloc ?_ _) | (with_reducible refine Kd.C_drewN ?_ _) | (with_reducible refine Kd.C_drew ?_)))
          (case side2 => exact HC0.out)
          rintro e w22 ⟨v903, rfl, ho0, hb⟩
          refine ⟨_, rfl, ?_⟩
          have n0_ := Aside0.mk (Kd.S_elder' (by (with_reducible repeat (first | apply Kd.S_alloc | apply Kd.S_drewN | apply Kd.S_drew)); exact HO_7.out) (Kd.R_base ho0) hb)
          have n1_ := Aside0.mk (Kd.R_elder' (by (with_reducible repeat (first | apply Kd.R_alloc | apply Kd.R_drewN | apply Kd.R_drew)); exact HO_13.out) (Kd.R_base ho0) hb)
          have n2_ := Aside0.mk (Kd.R_lower (Kd.R_newB (Kd.R_new' (Kd.R_newM (M := fun k_ => (w.heap.size ≤ k_)) ho0 (below_size (by repeat (first | (with_reducible first | exact HB.out | apply below_alloc | apply pw_below_drewN | apply below_drew1 | refine below_set ?_ GE901.out) | exact HB.out))) (fun k_ h_ => h_)) (Kd.R_lt (by (with_reducible repeat (first | apply Kd.R_alloc | apply Kd.R_drewN | apply Kd.R_drew)); exact HO_13.out))) (g := gb901) (o := .cells #[.int .i64 ((rd_T42 t897 x15_1).f0), .int .i64 ((rd_T42 t897 x15_1).f1)] 42 (0, 0)) (by (with_reducible repeat (first | refine blk_drewN ?_ _ | refine blk_drew ?_ | refine blk_alloc ?_ _)); exact BK901.out)) (below_size (by repeat (first | (with_reducible first | exact HB.out | apply below_alloc | apply pw_below_drewN | apply below_drew1 | refine below_set ?_ GE901.out) | exact HB.out))))
          have n3_ := Aside0.mk (blk_below (g := gb901) (o := .cells #[.int .i64 ((rd_T42 t897 x15_1).f0), .int .i64 ((rd_T42 t897 x15_1).f1)] 42 (0, 0)) (by (with_reducible repeat (first | refine blk_drewN ?_ _ | refine blk_drew ?_ | refine blk_alloc ?_ _)); exact BK901.out) hb)
          have n4_ := Aside0.mk (below_step (by repeat (first | (with_reducible first | exact HB.out | apply below_alloc | apply pw_below_drewN | apply below_drew1 | refine below_set ?_ GE901.out) | exact HB.out)) hb)
          clear HO_7
          clear HO_13
          clear BK901
          clear HB
          have HO_7 := n0_
          have HO_13 := n1_
          have HO904 := n2_
          have BK901 := n3_
          have HB := n4_
          clear n0_ n1_ n2_ n3_ n4_
          (try clear hb)
          (try clear ho0)
          refine hK.out _ _ ⟨(blk_cell BK901.out 0).trans rfl, (blk_cell BK901.out 1).trans rfl⟩ (fun hHeld => ?_)
          clear hK K
          refine norm_ (a' := ?_) ?_ ?_
          rotate_left
          ·show Act.put _ (some 22) _ = _
           simp only [Act.put, List.setIfInBounds_toArray, List.set_cons_zero, List.set_cons_succ, i64_w, i32_w]
           rfl
          refine one_ (i := 5) (N := some 24) #[T, T, T, T, T, T, F, F, F, F, F, F] rfl rfl (one_of HT_.out (by kernel_rfl)) (by decide) (fun K hK => ?_)
          refine Kd.R_lit_step k42 _ 42 ?hg (N := 24) ?hd (xs := ([(⟨(rd_T42 t897 x15_1).f0, (rd_T42 t897 x15_1).f1⟩ : S42)] : List (S42))) (inner := [.int .i64 ((rd_T42 t897 x15_1).f0), .int .i64 ((rd_T42 t897 x15_1).f1)]) (ok := fun _ => True) (okp := fun _ => True) ?hr ?hp (fun _ hk => hk) trivial (Below.refl _ _) (Nat.le_refl _) (by simp) ?_; (case hd => rfl); (case hg => rfl); (case hr => first | (go_simp; done) | (go_simp; rfl)); (case hp => exact (Reps.c2 (show Kd.M k42 _ _ _ (⟨(rd_T42 t897 x15_1).f0, (rd_T42 t897 x15_1).f1⟩ : S42) [.int .i64 ((rd_T42 t897 x15_1).f0), .int .i64 ((rd_T42 t897 x15_1).f1)] from (k42_mkM _ _ _ (⟨(rd_T42 t897 x15_1).f0, (rd_T42 t897 x15_1).f1⟩ : S42) )) (Reps.none _ _)))
          intro v906 w23 ho24 hb hg_ hnew_
          clear hg_ hnew_
          (first | rw [← Ny905.out] at ho24 | (simp only [Int.reduceToNat] at ho24; rw [← Ny905.out] at ho24))
          have n0_ := Aside0.mk (Kd.S_elder' (by (with_reducible repeat (first | apply Kd.S_alloc | apply Kd.S_drewN | apply Kd.S_drew)); exact HO_7.out) (Kd.R_base ho24) hb)
          have n1_ := Aside0.mk (Kd.R_elder' (by (with_reducible repeat (first | apply Kd.R_alloc | apply Kd.R_drewN | apply Kd.R_drew)); exact HO_13.out) (Kd.R_base ho24) hb)
          have n2_ := Aside0.mk (Kd.R_elder' (by (with_reducible repeat (first | apply Kd.R_alloc | apply Kd.R_drewN | apply Kd.R_drew)); exact HO904.out) (Kd.R_base ho24) hb)
          have n3_ := Aside0.mk (Kd.R_lower (Kd.R_newB (Kd.R_new' (Kd.R_new' (Kd.R_newM (M := fun k_ => (w.heap.size ≤ k_)) ho24 (below_size (by repeat (first | (with_reducible first | exact HB.out | apply below_alloc | apply pw_below_drewN | apply below_drew1 | refine below_set ?_ GE901.out) | exact HB.out))) (fun k_ h_ => h_)) (Kd.R_lt (by (with_reducible repeat (first | apply Kd.R_alloc | apply Kd.R_drewN | apply Kd.R_drew)); exact HO_13.out))) (Kd.R_lt (by (with_reducible repeat (first | apply Kd.R_alloc | apply Kd.R_drewN | apply Kd.R_drew)); exact HO904.out))) (g := gb901) (o := .cells #[.int .i64 ((rd_T42 t897 x15_1).f0), .int .i64 ((rd_T42 t897 x15_1).f1)] 42 (0, 0)) (by (with_reducible repeat (first | refine blk_drewN ?_ _ | refine blk_drew ?_ | refine blk_alloc ?_ _)); exact BK901.out)) (below_size (by repeat (first | (with_reducible first | exact HB.out | apply below_alloc | apply pw_below_drewN | apply below_drew1 | refine below_set ?_ GE901.out) | exact HB.out))))
          have n4_ := Aside0.mk (blk_below (g := gb901) (o := .cells #[.int .i64 ((rd_T42 t897 x15_1).f0), .int .i64 ((rd_T42 t897 x15_1).f1)] 42 (0, 0)) (by (with_reducible repeat (first | refine blk_drewN ?_ _ | refine blk_drew ?_ | refine blk_alloc ?_ _)); exact BK901.out) hb)
          have n5_ := Aside0.mk (below_step (by repeat (first | (with_reducible first | exact HB.out | apply below_alloc | apply pw_below_drewN | apply below_drew1 | refine below_set ?_ GE901.out) | exact HB.out)) hb)
          clear HO_7
          clear HO_13
          clear HO904
          clear BK901
          clear HB
          have HO_7 := n0_
          have HO_13 := n1_
          have HO904 := n2_
          have HO907 := n3_
          have BK901 := n4_
          have HB := n5_
          clear n0_ n1_ n2_ n3_ n4_ n5_
          clear hb ho24
          refine hK.out _ _ ⟨(blk_cell BK901.out 0).trans rfl, (blk_cell BK901.out 1).trans rfl⟩ (fun hHeld => ?_)
          clear hK K
          refine norm_ (a' := ?_) ?_ ?_
          rotate_left
          ·show Act.put _ (some 24) _ = _
           simp only [Act.put, List.setIfInBounds_toArray, List.set_cons_zero, List.set_cons_succ, i64_w, i32_w]
           rfl
          exact norm_ (by simp only [putAll, Act.put, List.setIfInBounds_toArray, List.set_cons_zero, List.set_cons_succ]) (hCont (v903, v906) _ ⟨hHeld, (by (with_reducible repeat (first | apply Kd.R_alloc | apply Kd.R_drewN | apply Kd.R_drew)); exact Kd.R_mono HO904.out (fun _ hk => ⟨hk.1.1.1.1, ⟨hk.2, ⟨hk.1.1.2, hk.1.2⟩⟩⟩)), (by (with_reducible repeat (first | apply Kd.R_alloc | apply Kd.R_drewN | apply Kd.R_drew)); exact Kd.R_mono HO907.out (fun _ hk => ⟨hk.1.1.1.1, ⟨hk.1.2, ⟨hk.1.1.2, hk.2⟩⟩⟩)), (by (with_reducible repeat (first | apply Kd.R_alloc | apply Kd.R_drewN | apply Kd.R_drew)); exact Kd.R_mono HO_13.out (fun _ hk => ⟨hk.1.1.1, ⟨hk.1.2, ⟨hk.2, hk.1.1.2⟩⟩⟩)), (by (with_reducible repeat (first | apply Kd.S_alloc | apply Kd.S_drewN | apply Kd.S_drew)); exact Kd.S_mono HO_7.out (fun _ hk => ⟨hk.1.1.1, ⟨hk.1.2, ⟨hk.2, ⟨hk.1.1.2.1, hk.1.1.2.2⟩⟩⟩⟩)), (by (with_reducible repeat (first | refine blk_drewN ?_ _ | refine blk_drew ?_ | refine blk_alloc ?_ _)); exact BK901.out), (by repeat (first | (with_reducible first | exact HB.out | apply below_alloc | apply pw_below_drewN | apply below_drew1 | refine below_set ?_ GE901.out) | exact HB.out))⟩)
         ·skip
          refine Kd.R_lit_step k42 _ 42 ?hg (N := 24) ?hd (xs := ([(⟨(rd_T42 t897 x15_1).f0, (rd_T42 t897 x15_1).f1⟩ : S42)] : List (S42))) (inner := [.int .i64 ((rd_T42 t897 x15_1).f0), .int .i64 ((rd_T42 t897 x15_1).f1)]) (ok := fun _ => True) (okp := fun _ => True) ?hr ?hp (fun _ hk => hk) trivial (Below.refl _ _) (Nat.le_refl _) (by simp) ?_; (case hd => rfl); (case hg => rfl); (case hr => first | (go_simp; done) | (go_simp; rfl)); (case hp => exact (Reps.c2 (show Kd.M k42 _ _ _ (⟨(rd_T42 t897 x15_1).f0, (rd_T42 t897 x15_1).f1⟩ : S42) [.int .i64 ((rd_T42 t897 x15_1).f0), .int .i64 ((rd_T42 t897 x15_1).f1)] from (k42_mkM _ _ _ (⟨(rd_T42 t897 x15_1).f0, (rd_T42 t897 x15_1).f1⟩ : S42) )) (Reps.none _ _)))
          intro v906 w22 ho23 hb hg_ hnew_
          clear hg_ hnew_
          (first | rw [← Ny905.out] at ho23 | (simp only [Int.reduceToNat] at ho23; rw [← Ny905.out] at ho23))
          have n0_ := Aside0.mk (Kd.S_elder' (by (with_reducible repeat (first | apply Kd.S_alloc | apply Kd.S_drewN | apply Kd.S_drew)); exact HO_7.out) (Kd.R_base ho23) hb)
          have n1_ := Aside0.mk (Kd.R_elder' (by (with_reducible repeat (first | apply Kd.R_alloc | apply Kd.R_drewN | apply Kd.R_drew)); exact HO_13.out) (Kd.R_base ho23) hb)
          have n2_ := Aside0.mk (Kd.R_lower (Kd.R_newB (Kd.R_new' (Kd.R_newM (M := fun k_ => (w.heap.size ≤ k_)) ho23 (below_size (by repeat (first | (with_reducible first | exact HB.out | apply below_alloc | apply pw_below_drewN | apply below_drew1 | refine below_set ?_ GE901.out) | exact HB.out))) (fun k_ h_ => h_)) (Kd.R_lt (by (with_reducible repeat (first | apply Kd.R_alloc | apply Kd.R_drewN | apply Kd.R_drew)); exact HO_13.out))) (g := gb901) (o := .cells #[.int .i64 ((rd_T42 t897 x15_1).f0), .int .i64 ((rd_T42 t897 x15_1).f1)] 42 (0, 0)) (by (with_reducible repeat (first | refine blk_drewN ?_ _ | refine blk_drew ?_ | refine blk_alloc ?_ _)); exact BK901.out)) (below_size (by repeat (first | (with_reducible first | exact HB.out | apply below_alloc | apply pw_below_drewN | apply below_drew1 | refine below_set ?_ GE901.out) | exact HB.out))))
          have n3_ := Aside0.mk (blk_below (g := gb901) (o := .cells #[.int .i64 ((rd_T42 t897 x15_1).f0), .int .i64 ((rd_T42 t897 x15_1).f1)] 42 (0, 0)) (by (with_reducible repeat (first | refine blk_drewN ?_ _ | refine blk_drew ?_ | refine blk_alloc ?_ _)); exact BK901.out) hb)
          have n4_ := Aside0.mk (below_step (by repeat (first | (with_reducible first | exact HB.out | apply below_alloc | apply pw_below_drewN | apply below_drew1 | refine below_set ?_ GE901.out) | exact HB.out)) hb)
          clear HO_7
          clear HO_13
          clear BK901
          clear HB
          have HO_7 := n0_
          have HO_13 := n1_
          have HO907 := n2_
          have BK901 := n3_
          have HB := n4_
          clear n0_ n1_ n2_ n3_ n4_
          clear hb ho23
          refine hK.out _ _ ⟨(blk_cell BK901.out 0).trans rfl, (blk_cell BK901.out 1).trans rfl⟩ (fun hHeld => ?_)
          clear hK K
          refine norm_ (a' := ?_) ?_ ?_
          rotate_left
          ·show Act.put _ (some 24) _ = _
           simp only [Act.put, List.setIfInBounds_toArray, List.set_cons_zero, List.set_cons_succ, i64_w, i32_w]
           rfl
          refine one_ (i := 3) (N := some 22) #[T, T, T, T, T, T, F, F, F, F, F, F] rfl rfl (one_of HT_.out (by kernel_rfl)) (by decide) (fun K hK => ?_)
          refine goes_ Try.func89 (by kernel_rfl) rfl #[.slice A0 l0.length c0] (by rfl) rfl rfl (by (try simp only [List.map_toArray, List.map_cons, List.map_nil]); first | done | rfl) ?_
          with_reducible refine (slices_Clone_Cell.calls _ _ l0 t902 _ ?side1 ?side2 A12.out).mono ?_
          (case side1 => repeat (first | exact (Kd.C_below HR0.out HB.out) | (with_reducible refine Kd.C_alloc ?_ _) | (with_reducible refine Kd.C_drewN ?_ _) | (with_reducible refine Kd.C_drew ?_)))
          (case side2 => exact HC0.out)
          rintro e w24 ⟨v903, rfl, ho0, hb⟩
          refine ⟨_, rfl, ?_⟩
          have n0_ := Aside0.mk (Kd.S_elder' (by (with_reducible repeat (first | apply Kd.S_alloc | apply Kd.S_drewN | apply Kd.S_drew)); exact HO_7.out) (Kd.R_base ho0) hb)
          have n1_ := Aside0.mk (Kd.R_elder' (by (with_reducible repeat (first | apply Kd.R_alloc | apply Kd.R_drewN | apply Kd.R_drew)); exact HO_13.out) (Kd.R_base ho0) hb)
          have n2_ := Aside0.mk (Kd.R_elder' (by (with_reducible repeat (first | apply Kd.R_alloc | apply Kd.R_drewN | apply Kd.R_drew)); exact HO907.out) (Kd.R_base ho0) hb)
          have n3_ := Aside0.mk (Kd.R_lower (Kd.R_newB (Kd.R_new' (Kd.R_new' (Kd.R_newM (M := fun k_ => (w.heap.size ≤ k_)) ho0 (below_size (by repeat (first | (with_reducible first | exact HB.out | apply below_alloc | apply pw_below_drewN | apply below_drew1 | refine below_set ?_ GE901.out) | exact HB.out))) (fun k_ h_ => h_)) (Kd.R_lt (by (with_reducible repeat (first | apply Kd.R_alloc | apply Kd.R_drewN | apply Kd.R_drew)); exact HO_13.out))) (Kd.R_lt (by (with_reducible repeat (first | apply Kd.R_alloc | apply Kd.R_drewN | apply Kd.R_drew)); exact HO907.out))) (g := gb901) (o := .cells #[.int .i64 ((rd_T42 t897 x15_1).f0), .int .i64 ((rd_T42 t897 x15_1).f1)] 42 (0, 0)) (by (with_reducible repeat (first | refine blk_drewN ?_ _ | refine blk_drew ?_ | refine blk_alloc ?_ _)); exact BK901.out)) (below_size (by repeat (first | (with_reducible first | exact HB.out | apply below_alloc | apply pw_below_drewN | apply below_drew1 | refine below_set ?_ GE901.out) | exact HB.out))))
          have n4_ := Aside0.mk (blk_below (g := gb901) (o := .cells #[.int .i64 ((rd_T42 t897 x15_1).f0), .int .i64 ((rd_T42 t897 x15_1).f1)] 42 (0, 0)) (by (with_reducible repeat (first | refine blk_drewN ?_ _ | refine blk_drew ?_ | refine blk_alloc ?_ _)); exact BK901.out) hb)
          have n5_ := Aside0.mk (below_step (by repeat (first | (with_reducible first | exact HB.out | apply below_alloc | apply pw_below_drewN | apply below_drew1 | refine below_set ?_ GE901.out) | exact HB.out)) hb)
          clear HO_7
          clear HO_13
          clear HO907
          clear BK901
          clear HB
          have HO_7 := n0_
          have HO_13 := n1_
          have HO907 := n2_
          have HO904 := n3_
          have BK901 := n4_
          have HB := n5_
          clear n0_ n1_ n2_ n3_ n4_ n5_
          (try clear hb)
          (try clear ho0)
          refine hK.out _ _ ⟨(blk_cell BK901.out 0).trans rfl, (blk_cell BK901.out 1).trans rfl⟩ (fun hHeld => ?_)
          clear hK K
          refine norm_ (a' := ?_) ?_ ?_
          rotate_left
          ·show Act.put _ (some 22) _ = _
           simp only [Act.put, List.setIfInBounds_toArray, List.set_cons_zero, List.set_cons_succ, i64_w, i32_w]
           rfl
          exact norm_ (by simp only [putAll, Act.put, List.setIfInBounds_toArray, List.set_cons_zero, List.set_cons_succ]) (hCont (v903, v906) _ ⟨hHeld, (by (with_reducible repeat (first | apply Kd.R_alloc | apply Kd.R_drewN | apply Kd.R_drew)); exact Kd.R_mono HO904.out (fun _ hk => ⟨hk.1.1.1.1, ⟨hk.1.2, ⟨hk.1.1.2, hk.2⟩⟩⟩)), (by (with_reducible repeat (first | apply Kd.R_alloc | apply Kd.R_drewN | apply Kd.R_drew)); exact Kd.R_mono HO907.out (fun _ hk => ⟨hk.1.1.1.1, ⟨hk.2, ⟨hk.1.1.2, hk.1.2⟩⟩⟩)), (by (with_reducible repeat (first | apply Kd.R_alloc | apply Kd.R_drewN | apply Kd.R_drew)); exact Kd.R_mono HO_13.out (fun _ hk => ⟨hk.1.1.1, ⟨hk.2, ⟨hk.1.2, hk.1.1.2⟩⟩⟩)), (by (with_reducible repeat (first | apply Kd.S_alloc | apply Kd.S_drewN | apply Kd.S_drew)); exact Kd.S_mono HO_7.out (fun _ hk => ⟨hk.1.1.1, ⟨hk.2, ⟨hk.1.2, ⟨hk.1.1.2.1, hk.1.1.2.2⟩⟩⟩⟩)), (by (with_reducible repeat (first | refine blk_drewN ?_ _ | refine blk_drew ?_ | refine blk_alloc ?_ _)); exact BK901.out), (by repeat (first | (with_reducible first | exact HB.out | apply below_alloc | apply pw_below_drewN | apply below_drew1 | refine below_set ?_ GE901.out) | exact HB.out))⟩)
        rintro ⟨v903, v906⟩ w25 ⟨hS_, h0_, h1_, h2_, h3_, h4_, h5_⟩
        have n0_ : Aside0 (Kd.R k42 42 w25 w.heap.size (fun k_ => (w.heap.size ≤ k_) ∧ some k_ ≠ (v906 : Value).ownBlock ∧ some k_ ≠ (.slice (some ad900) t897.length co8 : Value).ownBlock ∧ k_ ≠ gb901) v903 t902) := ⟨h0_⟩
        have n1_ : Aside0 (Kd.R k42 42 w25 w.heap.size (fun k_ => (w.heap.size ≤ k_) ∧ some k_ ≠ (v903 : Value).ownBlock ∧ some k_ ≠ (.slice (some ad900) t897.length co8 : Value).ownBlock ∧ k_ ≠ gb901) v906 y905) := ⟨h1_⟩
        have n2_ : Aside0 (Kd.R k42 42 w25 w.heap.size (fun k_ => (w.heap.size ≤ k_) ∧ some k_ ≠ (v903 : Value).ownBlock ∧ some k_ ≠ (v906 : Value).ownBlock ∧ k_ ≠ gb901) (.slice (some ad900) t897.length co8) t897) := ⟨h2_⟩
        have n3_ : Aside0 (Kd.S (Kd.slice 42 k42) 27 w25 w.heap.size (fun k_ => (w.heap.size ≤ k_) ∧ some k_ ≠ (v903 : Value).ownBlock ∧ some k_ ≠ (v906 : Value).ownBlock ∧ some k_ ≠ (.slice (some ad900) t897.length co8 : Value).ownBlock ∧ k_ ≠ gb901) (.slice Ao19 x7_1.length co19) x7_1) := ⟨h3_⟩
        have n4_ : Aside0 (w25.heap[gb901]? = some (.cells #[.int .i64 ((rd_T42 t897 x15_1).f0), .int .i64 ((rd_T42 t897 x15_1).f1)] 42 (0, 0))) := ⟨h4_⟩
        have n5_ : Aside0 (Below w.heap.size w w25) := ⟨h5_⟩
        clear HO_7
        clear HO_13
        clear BK901
        clear HB
        clear h0_ h1_ h2_ h3_ h4_ h5_
        have HO904 := n0_
        have HO907 := n1_
        have HO_13 := n2_
        have HO_7 := n3_
        have BK901 := n4_
        have HB := n5_
        clear n0_ n1_ n2_ n3_ n4_ n5_
        have hHeld : w25.cell? ⟨gb901, 0, none⟩ = some (.int .i64 ((rd_T42 t897 x15_1).f0)) ∧ w25.cell? ⟨gb901, 1, none⟩ = some (.int .i64 ((rd_T42 t897 x15_1).f1)) := hS_
        obtain ⟨Ao27, co27, eo27⟩ := Kd.R_slice HO907.out
        (first | subst eo27 | (injection eo27 with f1_ f2_ f3_; have f4_ := f1_.symm; have f5_ := f3_.symm; clear f1_ f2_ f3_; subst f4_; subst f5_))
        refine norm_ (a' := ?_) ?_ ?_
        rotate_left
        ·simp only [putAll, Act.put, List.setIfInBounds_toArray, List.set_cons_zero, List.set_cons_succ]
         rfl
        refine one_ (i := 6) (N := some 25) #[T, T, T, T, T, T, T, F, F, F, F, F] rfl rfl (one_of HT_.out (by kernel_rfl)) (by decide) (fun K hK => ?_)
        refine Kd.R_append_rows_step k42 (w0 := w) w.heap.size (by rfl) (.tmp 22) (.tmp 24) 27 42 (.agg #[(.int .i64 0), (.int .i64 0)]) 16 rfl Try.underlying27 info42 rfl (by decide) (by omega) v903 t902 y905 _ _ _ (fun k_ => (w.heap.size ≤ k_) ∧ some k_ ≠ (.slice (some ad900) t897.length co8 : Value).ownBlock ∧ some k_ ≠ (.slice Ao27 y905.length co27 : Value).ownBlock ∧ k_ ≠ gb901) (fun _ => False) rfl rfl ?aO ?aR (fun _ _ h => h) (fun _ h => h.elim) ?aF ?aB ?aS ?aL ?_
        (case aR => repeat (first | exact (Kd.R_reads' HO907.out).2.2 | (with_reducible refine Kd.C_alloc ?_ _) | (with_reducible refine Kd.C_drewN ?_ _) | (with_reducible refine Kd.C_drew ?_)))
        (case aB => exact (by repeat (first | (with_reducible first | exact HB.out | apply below_alloc | apply pw_below_drewN | apply below_drew1 | refine below_set ?_ GE901.out) | exact HB.out)))
        (case aF => exact (fun k_ hk => ⟨(Nat.le_trans (below_size (by repeat (first | (with_reducible first | exact HB.out | apply below_alloc | apply pw_below_drewN | apply below_drew1 | refine below_set ?_ GE901.out) | exact HB.out))) hk), Kd.fresh' (Kd.R_lt (by (with_reducible repeat (first | apply Kd.R_alloc | apply Kd.R_drewN | apply Kd.R_drew)); exact HO_13.out)) k_ hk, Kd.fresh' (Kd.R_lt (by (with_reducible repeat (first | apply Kd.R_alloc | apply Kd.R_drewN | apply Kd.R_drew)); exact HO907.out)) k_ hk, Kd.freshB (g := gb901) (o := .cells #[.int .i64 ((rd_T42 t897 x15_1).f0), .int .i64 ((rd_T42 t897 x15_1).f1)] 42 (0, 0)) (by (with_reducible repeat (first | refine blk_drewN ?_ _ | refine blk_drew ?_ | refine blk_alloc ?_ _)); exact BK901.out) k_ hk⟩))
        (case aO => exact (by (with_reducible repeat (first | apply Kd.R_alloc | apply Kd.R_drewN | apply Kd.R_drew)); exact Kd.R_mono HO904.out (fun _ hk => ⟨hk.1, ⟨hk.2.2.1, ⟨hk.2.1, hk.2.2.2⟩⟩⟩)))
        (case aS => exact (below_size (by repeat (first | (with_reducible first | exact HB.out | apply below_alloc | apply pw_below_drewN | apply below_drew1 | refine below_set ?_ GE901.out) | exact HB.out))))
        (case aL => have := LMc13.out; omega)
        intro v909 w26 ho hb hg hat
        rw [← Ny908.out] at ho
        have n0_ := Aside0.mk (Kd.S_after (ok := (fun k_ => (w.heap.size ≤ k_) ∧ some k_ ≠ (.slice (some ad900) t897.length co8 : Value).ownBlock ∧ some k_ ≠ (.slice Ao27 y905.length co27 : Value).ownBlock ∧ k_ ≠ gb901)) (by (with_reducible repeat (first | apply Kd.S_alloc | apply Kd.S_drewN | apply Kd.S_drew)); exact Kd.S_mono HO_7.out (fun _ hk => ⟨⟨hk.1, ⟨hk.2.2.2.1, ⟨hk.2.2.1, hk.2.2.2.2⟩⟩⟩, hk.2.1⟩)) hg hat)
        have n1_ := Aside0.mk (Kd.R_after (ok := (fun k_ => (w.heap.size ≤ k_) ∧ some k_ ≠ (.slice Ao27 y905.length co27 : Value).ownBlock ∧ k_ ≠ gb901)) (by (with_reducible repeat (first | apply Kd.R_alloc | apply Kd.R_drewN | apply Kd.R_drew)); exact Kd.R_mono HO_13.out (fun _ hk => ⟨⟨hk.1, ⟨hk.2.2.1, hk.2.2.2⟩⟩, hk.2.1⟩)) hg hat)
        have n2_ := Aside0.mk (blk_grown (g := gb901) (o := .cells #[.int .i64 ((rd_T42 t897 x15_1).f0), .int .i64 ((rd_T42 t897 x15_1).f1)] 42 (0, 0)) (by (with_reducible repeat (first | refine blk_drewN ?_ _ | refine blk_drew ?_ | refine blk_alloc ?_ _)); exact BK901.out) hg (Kd.R_away HO904.out (fun _ hk => hk.2.2.2)))
        have n3_ := Aside0.mk (Kd.R_after (ok := (fun k_ => (w.heap.size ≤ k_) ∧ some k_ ≠ (.slice (some ad900) t897.length co8 : Value).ownBlock ∧ k_ ≠ gb901)) (by (with_reducible repeat (first | apply Kd.R_alloc | apply Kd.R_drewN | apply Kd.R_drew)); exact Kd.R_mono HO907.out (fun _ hk => ⟨⟨hk.1, ⟨hk.2.2.1, hk.2.2.2⟩⟩, hk.2.1⟩)) hg hat)
        have n4_ := Aside0.mk (hb)
        have n5_ := Aside0.mk (ho)
        clear HO_7
        clear HO_13
        clear BK901
        clear HO907
        clear HB
        clear HO904
        have HO_7 := n0_
        have HO_13 := n1_
        have BK901 := n2_
        have HO907 := n3_
        have HB := n4_
        have HO910 := n5_
        clear n0_ n1_ n2_ n3_ n4_ n5_
        clear ho hb hg hat
        obtain ⟨Ao28, co28, eo28⟩ := Kd.R_slice HO910.out
        (first | subst eo28 | (injection eo28 with f1_ f2_ f3_; have f4_ := f1_.symm; have f5_ := f3_.symm; clear f1_ f2_ f3_; subst f4_; subst f5_))
        refine hK.out _ _ ⟨(blk_cell BK901.out 0).trans rfl, (blk_cell BK901.out 1).trans rfl⟩ (fun hHeld => ?_)
        clear hK K
        refine norm_ (a' := ?_) ?_ ?_
        rotate_left
        ·show Act.put _ (some 25) _ = _
         simp only [Act.put, List.setIfInBounds_toArray, List.set_cons_zero, List.set_cons_succ, i64_w, i32_w]
         rfl
        refine one_ (i := 7) (N := some 26) #[T, T, T, T, T, T, T, T, F, F, F, F] rfl rfl (one_of HT_.out (by kernel_rfl)) (by decide) (fun K hK => ?_)
        refine goes_ Try.func122 (by kernel_rfl) rfl #[.slice Ao28 y908.length co28] (by rfl) rfl rfl (by (try simp only [List.map_toArray, List.map_cons, List.map_nil]); first | done | rfl) ?_
        with_reducible refine (impl_sorted.calls _ _ y908 t911 _ ?side1 ?side2 A14.out).mono ?_
        (case side1 => repeat (first | exact (Kd.R_reads' HO910.out).2.2 | (with_reducible refine Kd.C_alloc ?_ _) | (with_reducible refine Kd.C_drewN ?_ _) | (with_reducible refine Kd.C_drew ?_)))
        (case side2 => exact (Kd.R_reads' HO910.out).2.1)
        rintro e w29 ⟨v912, rfl, ho0, hb⟩
        refine ⟨_, rfl, ?_⟩
        have n0_ := Aside0.mk (Kd.S_elder' (by (with_reducible repeat (first | apply Kd.S_alloc | apply Kd.S_drewN | apply Kd.S_drew)); exact HO_7.out) (Kd.R_base ho0) hb)
        have n1_ := Aside0.mk (Kd.R_elder' (by (with_reducible repeat (first | apply Kd.R_alloc | apply Kd.R_drewN | apply Kd.R_drew)); exact HO_13.out) (Kd.R_base ho0) hb)
        have n2_ := Aside0.mk (Kd.R_elder' (by (with_reducible repeat (first | apply Kd.R_alloc | apply Kd.R_drewN | apply Kd.R_drew)); exact HO907.out) (Kd.R_base ho0) hb)
        have n3_ := Aside0.mk (Kd.R_elder' (by (with_reducible repeat (first | apply Kd.R_alloc | apply Kd.R_drewN | apply Kd.R_drew)); exact HO910.out) (Kd.R_base ho0) hb)
        have n4_ := Aside0.mk (Kd.R_lower (Kd.R_newB (Kd.R_new' (Kd.R_new' (Kd.R_new' (Kd.R_newM (M := fun k_ => (w.heap.size ≤ k_)) ho0 (below_size (by repeat (first | (with_reducible first | exact HB.out | apply below_alloc | apply pw_below_drewN | apply below_drew1 | refine below_set ?_ GE901.out) | exact HB.out))) (fun k_ h_ => h_)) (Kd.R_lt (by (with_reducible repeat (first | apply Kd.R_alloc | apply Kd.R_drewN | apply Kd.R_drew)); exact HO_13.out))) (Kd.R_lt (by (with_reducible repeat (first | apply Kd.R_alloc | apply Kd.R_drewN | apply Kd.R_drew)); exact HO907.out))) (Kd.R_lt (by (with_reducible repeat (first | apply Kd.R_alloc | apply Kd.R_drewN | apply Kd.R_drew)); exact HO910.out))) (g := gb901) (o := .cells #[.int .i64 ((rd_T42 t897 x15_1).f0), .int .i64 ((rd_T42 t897 x15_1).f1)] 42 (0, 0)) (by (with_reducible repeat (first | refine blk_drewN ?_ _ | refine blk_drew ?_ | refine blk_alloc ?_ _)); exact BK901.out)) (below_size (by repeat (first | (with_reducible first | exact HB.out | apply below_alloc | apply pw_below_drewN | apply below_drew1 | refine below_set ?_ GE901.out) | exact HB.out))))
        have n5_ := Aside0.mk (blk_below (g := gb901) (o := .cells #[.int .i64 ((rd_T42 t897 x15_1).f0), .int .i64 ((rd_T42 t897 x15_1).f1)] 42 (0, 0)) (by (with_reducible repeat (first | refine blk_drewN ?_ _ | refine blk_drew ?_ | refine blk_alloc ?_ _)); exact BK901.out) hb)
        have n6_ := Aside0.mk (below_step (by repeat (first | (with_reducible first | exact HB.out | apply below_alloc | apply pw_below_drewN | apply below_drew1 | refine below_set ?_ GE901.out) | exact HB.out)) hb)
        clear HO_7
        clear HO_13
        clear HO907
        clear HO910
        clear BK901
        clear HB
        have HO_7 := n0_
        have HO_13 := n1_
        have HO907 := n2_
        have HO910 := n3_
        have HO913 := n4_
        have BK901 := n5_
        have HB := n6_
        clear n0_ n1_ n2_ n3_ n4_ n5_ n6_
        (try clear hb)
        (try clear ho0)
        obtain ⟨Ao30, co30, eo30⟩ := Kd.R_slice HO913.out
        (first | subst eo30 | (injection eo30 with f1_ f2_ f3_; have f4_ := f1_.symm; have f5_ := f3_.symm; clear f1_ f2_ f3_; subst f4_; subst f5_))
        refine hK.out _ _ ⟨(blk_cell BK901.out 0).trans rfl, (blk_cell BK901.out 1).trans rfl⟩ (fun hHeld => ?_)
        clear hK K
        refine norm_ (a' := ?_) ?_ ?_
        rotate_left
        ·show Act.put _ (some 26) _ = _
         simp only [Act.put, List.setIfInBounds_toArray, List.set_cons_zero, List.set_cons_succ, i64_w, i32_w]
         rfl
        refine one_ (i := 8) (N := some 27) #[T, T, T, T, T, T, T, T, T, F, F, F] rfl rfl (one_of HT_.out (by kernel_rfl)) (by decide) (fun K hK => ?_)
        refine goesV_ Try.func90 (by kernel_rfl) rfl #[.slice Ao30 t911.length co30] (by rfl) rfl rfl rfl (by (try simp only [List.map_toArray, List.map_cons, List.map_nil]); first | done | rfl) ?_
        with_reducible refine (impl_normal.calls k1 _ _ t911 t914 _ ?side1 ?side2 A15.out).mono ?_
        (case side1 => repeat (first | exact (Kd.R_reads' HO913.out).2.2 | (with_reducible refine Kd.C_alloc ?_ _) | (with_reducible refine Kd.C_drewN ?_ _) | (with_reducible refine Kd.C_drew ?_)))
        (case side2 => exact (Kd.R_reads' HO913.out).2.1)
        rintro e w31 ⟨v915, rfl, ho0, hb⟩
        refine ⟨_, rfl, ?_⟩
        have n0_ := Aside0.mk (Kd.S_elder' (by (with_reducible repeat (first | apply Kd.S_alloc | apply Kd.S_drewN | apply Kd.S_drew)); exact HO_7.out) (Kd.R_base ho0) hb)
        have n1_ := Aside0.mk (Kd.R_elder' (by (with_reducible repeat (first | apply Kd.R_alloc | apply Kd.R_drewN | apply Kd.R_drew)); exact HO_13.out) (Kd.R_base ho0) hb)
        have n2_ := Aside0.mk (Kd.R_elder' (by (with_reducible repeat (first | apply Kd.R_alloc | apply Kd.R_drewN | apply Kd.R_drew)); exact HO907.out) (Kd.R_base ho0) hb)
        have n3_ := Aside0.mk (Kd.R_elder' (by (with_reducible repeat (first | apply Kd.R_alloc | apply Kd.R_drewN | apply Kd.R_drew)); exact HO910.out) (Kd.R_base ho0) hb)
        have n4_ := Aside0.mk (Kd.R_elder' (by (with_reducible repeat (first | apply Kd.R_alloc | apply Kd.R_drewN | apply Kd.R_drew)); exact HO913.out) (Kd.R_base ho0) hb)
        have n5_ := Aside0.mk (Kd.R_lower (Kd.R_newB (Kd.R_new' (Kd.R_new' (Kd.R_new' (Kd.R_new' (Kd.R_newM (M := fun k_ => (w.heap.size ≤ k_)) ho0 (below_size (by repeat (first | (with_reducible first | exact HB.out | apply below_alloc | apply pw_below_drewN | apply below_drew1 | refine below_set ?_ GE901.out) | exact HB.out))) (fun k_ h_ => h_)) (Kd.R_lt (by (with_reducible repeat (first | apply Kd.R_alloc | apply Kd.R_drewN | apply Kd.R_drew)); exact HO_13.out))) (Kd.R_lt (by (with_reducible repeat (first | apply Kd.R_alloc | apply Kd.R_drewN | apply Kd.R_drew)); exact HO907.out))) (Kd.R_lt (by (with_reducible repeat (first | apply Kd.R_alloc | apply Kd.R_drewN | apply Kd.R_drew)); exact HO910.out))) (Kd.R_lt (by (with_reducible repeat (first | apply Kd.R_alloc | apply Kd.R_drewN | apply Kd.R_drew)); exact HO913.out))) (g := gb901) (o := .cells #[.int .i64 ((rd_T42 t897 x15_1).f0), .int .i64 ((rd_T42 t897 x15_1).f1)] 42 (0, 0)) (by (with_reducible repeat (first | refine blk_drewN ?_ _ | refine blk_drew ?_ | refine blk_alloc ?_ _)); exact BK901.out)) (below_size (by repeat (first | (with_reducible first | exact HB.out | apply below_alloc | apply pw_below_drewN | apply below_drew1 | refine below_set ?_ GE901.out) | exact HB.out))))
        have n6_ := Aside0.mk (blk_below (g := gb901) (o := .cells #[.int .i64 ((rd_T42 t897 x15_1).f0), .int .i64 ((rd_T42 t897 x15_1).f1)] 42 (0, 0)) (by (with_reducible repeat (first | refine blk_drewN ?_ _ | refine blk_drew ?_ | refine blk_alloc ?_ _)); exact BK901.out) hb)
        have n7_ := Aside0.mk (below_step (by repeat (first | (with_reducible first | exact HB.out | apply below_alloc | apply pw_below_drewN | apply below_drew1 | refine below_set ?_ GE901.out) | exact HB.out)) hb)
        clear HO_7
        clear HO_13
        clear HO907
        clear HO910
        clear HO913
        clear BK901
        clear HB
        have HO_7 := n0_
        have HO_13 := n1_
        have HO907 := n2_
        have HO910 := n3_
        have HO913 := n4_
        have HO916 := n5_
        have BK901 := n6_
        have HB := n7_
        clear n0_ n1_ n2_ n3_ n4_ n5_ n6_ n7_
        (try clear hb)
        (try clear ho0)
        obtain ⟨Ao32, co32, eo32⟩ := Kd.R_slice HO916.out
        (first | subst eo32 | (injection eo32 with f1_ f2_ f3_; have f4_ := f1_.symm; have f5_ := f3_.symm; clear f1_ f2_ f3_; subst f4_; subst f5_))
        refine hK.out _ _ ⟨(blk_cell BK901.out 0).trans rfl, (blk_cell BK901.out 1).trans rfl⟩ (fun hHeld => ?_)
        clear hK K
        refine norm_ (a' := ?_) ?_ ?_
        rotate_left
        ·show Act.put _ (some 27) _ = _
         simp only [Act.put, List.setIfInBounds_toArray, List.set_cons_zero, List.set_cons_succ, i64_w, i32_w]
         rfl
        refine one_ (i := 9) (N := some 28) #[T, T, T, T, T, T, T, T, T, T, F, F] rfl rfl (one_of HT_.out (by kernel_rfl)) (by decide) (fun K hK => ?_)
        refine event_step ?hw (v := .slice (some ⟨w31.heap.size, 0, none⟩) 1 1) (w1 := w31.alloc (.cells #[.slice Ao32 t914.length co32] 27)) ?hr ?_
        (case hw => rfl)
        (case hr => first | (go_simp; done) | (go_simp; rfl))
        refine hK.out _ _ ⟨(blk_cell (blk_alloc BK901.out _) 0).trans rfl, (blk_cell (blk_alloc BK901.out _) 1).trans rfl⟩ (fun hHeld => ?_)
        clear hK K
        refine norm_ (a' := ?_) ?_ ?_
        rotate_left
        ·show Act.put _ (some 28) _ = _
         simp only [Act.put, List.setIfInBounds_toArray, List.set_cons_zero, List.set_cons_succ, i64_w, i32_w]
         rfl
        refine one_ (i := 10) (N := some 29) #[T, T, T, T, T, T, T, T, T, T, T, F] rfl rfl (one_of HT_.out (by kernel_rfl)) (by decide) (fun K hK => ?_)
        refine Kd.S_append_step (Kd.slice 42 k42) (w0 := w) w.heap.size (by rfl) (.tmp 19) (.tmp 28) 43 27 (.slice none 0 0) 24 rfl Try.underlying43 info27 rfl (by decide) (by omega) (.slice Ao19 x7_1.length co19) x7_1 t914 [.slice Ao32 t914.length co32] (fun k_ => (w.heap.size ≤ k_) ∧ some k_ ≠ (.slice (some ad900) t897.length co8 : Value).ownBlock) (fun k_ => some k_ = (.slice Ao32 t914.length co32 : Value).ownBlock) rfl rfl ?aP ?aQ ?aF ?aO ?aB ?aS ?aL ?_
        (case aP => exact Kd.M_row (Kd.R_mono (Kd.R_tight rfl HO916.out) (fun _ h_ => h_)))
        (case aQ => exact (fun k_ hq_ => by (have hk_ := (Kd.R_apart' HO916.out (Kd.S_typed HO_7.out) (by decide)).1 k_ hq_.symm); (simp only [and_assoc] at hk_); refine ⟨⟨Kd.R_base HO916.out k_ hq_.symm, ?_⟩, ?_⟩ <;> (first | exact hk_ | exact hk_.1 | exact hk_.2.1 | exact hk_.2.2.1 | exact hk_.2.2.2.1 | exact hk_.2.2.2.2.1 | exact hk_.2.2.2.2.2.1 | exact hk_.2.2.2.2.2.2.1 | exact hk_.2.2.2.2.2.2.2.1 | exact hk_.2.2.2.2.2.2.2.2.1 | exact hk_.2.2.2.2.2.2.2.2.2.1 | exact hk_.2.2.2.2.2.2.2.2.2.2.1 | exact hk_.2.2.2.2.2.2.2.2.2.2.2.1 | exact hk_.2 | exact hk_.2.2 | exact hk_.2.2.2 | exact hk_.2.2.2.2 | exact hk_.2.2.2.2.2 | exact hk_.2.2.2.2.2.2 | exact hk_.2.2.2.2.2.2.2 | exact hk_.2.2.2.2.2.2.2.2 | exact hk_.2.2.2.2.2.2.2.2.2 | exact hk_.2.2.2.2.2.2.2.2.2.2 | exact hk_.2.2.2.2.2.2.2.2.2.2.2)))
        (case aF => exact (fun k_ hk => ⟨Nat.le_trans (below_size (by exact HB.out)) hk, Kd.fresh' (Kd.R_lt HO_13.out) k_ hk⟩))
        (case aO => exact (Kd.S_mono HO_7.out (fun k_ hk_ => by (simp only [and_assoc] at hk_); refine ⟨⟨?_, ?_⟩, ?_⟩ <;> (first | exact hk_ | exact hk_.1 | exact hk_.2.1 | exact hk_.2.2.1 | exact hk_.2.2.2.1 | exact hk_.2.2.2.2.1 | exact hk_.2.2.2.2.2.1 | exact hk_.2.2.2.2.2.2.1 | exact hk_.2.2.2.2.2.2.2.1 | exact hk_.2.2.2.2.2.2.2.2.1 | exact hk_.2.2.2.2.2.2.2.2.2.1 | exact hk_.2.2.2.2.2.2.2.2.2.2.1 | exact hk_.2.2.2.2.2.2.2.2.2.2.2.1 | exact hk_.2 | exact hk_.2.2 | exact hk_.2.2.2 | exact hk_.2.2.2.2 | exact hk_.2.2.2.2.2 | exact hk_.2.2.2.2.2.2 | exact hk_.2.2.2.2.2.2.2 | exact hk_.2.2.2.2.2.2.2.2 | exact hk_.2.2.2.2.2.2.2.2.2 | exact hk_.2.2.2.2.2.2.2.2.2.2 | exact hk_.2.2.2.2.2.2.2.2.2.2.2))))
        (case aB => exact HB.out)
        (case aS => exact below_size HB.out)
        (case aL => have := LMc16.out; have hy_ := congrArg List.length Ny917.out; simp only [List.length_singleton] at hy_; omega)
        intro v921 w35 ho hb hg hat
        rw [← Ny917.out, ← Ny920.out] at ho
        have n0_ := Aside0.mk (Kd.R_over' (HO_13.out) (Kd.S_typed HO_7.out) (by decide) hg)
        have n1_ := Aside0.mk (blk_grown BK901.out hg (Kd.S_ne HO_7.out BK901.out (by decide)))
        have n2_ := Aside0.mk hb
        have n3_ := Aside0.mk ho
        clear HO_13 BK901 HB HO_7
        have HO_13 := n0_
        have BK901 := n1_
        have HB := n2_
        have HO922 := n3_
        clear n0_ n1_ n2_ n3_ ho hb hg hat
        refine hK.out _ _ ⟨(blk_cell BK901.out 0).trans rfl, (blk_cell BK901.out 1).trans rfl⟩ (fun hHeld => ?_)
        clear hK K
        refine norm_ (a' := ?_) ?_ ?_
        rotate_left
        ·show Act.put _ (some 29) _ = _
         simp only [Act.put, List.setIfInBounds_toArray, List.set_cons_zero, List.set_cons_succ, i64_w, i32_w]
         rfl
        refine pure_ (i := 11) (N := some 7) (v := ?_) (a' := ?_) #[T, T, T, T, T, T, T, T, T, T, T, T] rfl rfl (any_of HT_.out (by kernel_rfl)) (fun _ _ _ h => h) (Or.inl ⟨by rfl, ?_⟩) ?_ ?_
        rotate_left
        ·intro w'
         go_simp
         with_reducible rfl
        rotate_left
        ·simp only [Act.put, List.setIfInBounds_toArray, List.set_cons_zero, List.set_cons_succ, i64_w, i32_w]
         rfl
        refine done_ (done_of HT_.out (by kernel_rfl)) ?_
        try go_wp2
        go_roundg k1
        case measure => have := HK1.out; omega
        case rel => exact ⟨(y920), (wrap64 (x15_1 + 1)), (by first | rfl | (simp; done) | (simp [*]; done)), H', ⟨by have := HK1.out; omega⟩, ⟨by (with_reducible repeat (first | apply Kd.S_alloc | apply Kd.S_drewN | apply Kd.S_drew)); exact HO922.out⟩, ⟨by (with_reducible repeat (first | apply Kd.R_alloc | apply Kd.R_drewN | apply Kd.R_drew)); exact Kd.R_mono HO_13.out (fun _ hk_ => by (simp only [and_assoc] at hk_); first | exact hk_ | exact hk_.1 | exact hk_.2.1 | exact hk_.2.2.1 | exact hk_.2.2.2.1 | exact hk_.2.2.2.2.1 | exact hk_.2.2.2.2.2.1 | exact hk_.2.2.2.2.2.2.1 | exact hk_.2.2.2.2.2.2.2.1 | exact hk_.2.2.2.2.2.2.2.2.1 | exact hk_.2.2.2.2.2.2.2.2.2.1 | exact hk_.2.2.2.2.2.2.2.2.2.2.1 | exact hk_.2.2.2.2.2.2.2.2.2.2.2.1 | exact hk_.2 | exact hk_.2.2 | exact hk_.2.2.2 | exact hk_.2.2.2.2 | exact hk_.2.2.2.2.2 | exact hk_.2.2.2.2.2.2 | exact hk_.2.2.2.2.2.2.2 | exact hk_.2.2.2.2.2.2.2.2 | exact hk_.2.2.2.2.2.2.2.2.2 | exact hk_.2.2.2.2.2.2.2.2.2.2 | exact hk_.2.2.2.2.2.2.2.2.2.2.2)⟩, ⟨by repeat (first | (with_reducible first | exact HB.out | apply below_alloc | apply pw_below_drewN | apply below_drew1 | refine below_set ?_ GE901.out) | exact HB.out)⟩⟩
       ·rw [if_neg c16] at H
        exact absurd H (by simp)
      ·rw [if_neg c13] at H
       exact absurd H (by simp)
     ·rw [if_neg c11] at H
      exact absurd H (by simp)
    ·rw [if_neg c10] at H
     exact absurd H (by simp)
   ·rw [if_neg c9] at H
    have c9b0 : decide (x15_1 < (t897.length : Int)) = false := decide_eq_false c9
    clear c9
    replace H := Option.bind_eq_some_iff.mp H
    obtain ⟨t923, A370, H⟩ := H
    replace H : (some t923) = some r := H
    have A37 := Aside0.mk A370
    clear A370
    obtain rfl := Option.some.inj H
    obtain ⟨Ao38, co38, eo38⟩ := Kd.S_slice HO_7.out
    subst eo38
    have HS_ := Aside0.mk (Kd.S_mono HO_7.out (ok' := fun _ => True) (fun _ _ => trivial))
    go_wp2_with fail
    refine (tidy_walk _ x7_1 t923 w _ HB.out HS_.out _ A37.out).mono ?_
    rintro e we_ ⟨ve_, rfl, hs_, hb_⟩
    have HE_ := Aside0.mk hs_
    have HF_ := Aside0.mk hb_
    clear hs_ hb_
    go_wp2_with fail
    go_ret
    exact ⟨_, rfl, HE_.out, HF_.out⟩

/-! ### impl_fixedShapes: function 79, by hand -/
-- COMMONS none
def impl_fixedShapes.join (k : Nat) : List (List S42) → Option (List (List S42))
 | [] => some []
 | s :: r => (impl_grown.f k s).bind fun a => (impl_fixedShapes.join k r).bind fun b => some (a ++ b)
def impl_fixedShapes.rounds (k : Nat) : Nat → List (List S42) → Option (List (List S42))
 | 0, l => some l
 | m + 1, l => (impl_fixedShapes.join k l).bind fun x => if x.length ≤ 1000000 then ((impl_tidyShapes.f k x).bind fun y => impl_fixedShapes.rounds k m y) else none
def impl_fixedShapes.f (k : Nat) (n : Int) : Option (List (List S42)) := if 1 ≤ n ∧ n ≤ 1000 then impl_fixedShapes.rounds k (n - 1).toNat [[⟨0, 0⟩]] else none
theorem impl_fixedShapes.join_mono (k : Nat) : ∀ l, LeO (impl_fixedShapes.join k l) (impl_fixedShapes.join (k + 1) l) := by
 intro l
 induction l with
 | nil => exact LeO.refl _
 | cons s r ih => exact LeO.bind (impl_grown.mono _ _) fun _ => LeO.bind ih fun _ => LeO.refl _
theorem impl_fixedShapes.rounds_mono (k : Nat) : ∀ m l, LeO (impl_fixedShapes.rounds k m l) (impl_fixedShapes.rounds (k + 1) m l) := by
 intro m
 induction m with
 | zero => intro l; exact LeO.refl _
 | succ m ih => intro l; exact LeO.bind (impl_fixedShapes.join_mono k l) fun x => LeO.ite (LeO.bind (impl_tidyShapes.mono _ _) fun y => ih y) (LeO.refl _)
theorem impl_fixedShapes.mono : ∀ a0 k, LeO (impl_fixedShapes.f k a0) (impl_fixedShapes.f (k + 1) a0) := by
 intro a0 k
 unfold impl_fixedShapes.f
 exact LeO.ite (impl_fixedShapes.rounds_mono k _ _) (LeO.refl _)
/-- a row's cells as they stand, told by nothing but themselves -/
def rawK_ : Kd Value where
 sz := 1
 E := []
 K := fun _ x cs => cs = [x] ∧ x.oneCell' = true
 M := fun _ _ _ x cs => cs = [x] ∧ x.oneCell' = true
 K_len := by rintro w x cs ⟨rfl, _⟩; rfl
 K_one := by
  rintro w x cs ⟨rfl, h⟩ u hu
  rw [List.mem_singleton.1 hu]; exact h
 K_below := fun _ h => h
 K_of_M := fun h => h
 M_mono := fun _ h => h
 M_bound := fun h => h
 M_move := fun _ h => h
 M_lower := fun _ h => h
theorem raw_R {W : World} {e base : Nat} {v : Value} {l : List Value} (ho : W.ownsRow base e 1 v l.length l) (h1 : ∀ x ∈ l, x.oneCell' = true) : rawK_.R e W base (fun _ => True) v l := by
 refine ⟨fun _ _ => trivial, l, ho, by show l.length = l.length * 1; omega, fun j p hj => ?_⟩
 obtain ⟨hl, rfl⟩ := List.getElem?_eq_some_iff.1 hj
 refine ⟨?_, h1 _ (List.getElem_mem hl)⟩
 show (l.drop (j * 1)).take 1 = [l[j]]
 rw [Nat.mul_one, List.drop_eq_getElem_cons hl]; rfl
theorem raw_own {W : World} {e base : Nat} {v : Value} {l : List Value} {ok : Nat → Prop} (h : rawK_.R e W base ok v l) : W.ownsRow base e 1 v l.length l := by
 obtain ⟨_, inner, ho, hl, hr⟩ := h
 have hil : inner.length = l.length := by have : inner.length = l.length * 1 := hl; omega
 have e : inner = l := by
  apply List.ext_getElem?
  intro j
  by_cases hj : j < l.length
  ·have h2 := (hr j _ (List.getElem?_eq_getElem hj)).1
   have h3 : (inner.drop (j * 1)).take 1 = [l[j]] := h2
   rw [Nat.mul_one] at h3
   have h4 := congrArg (fun z => z[0]?) h3
   simp only [List.getElem?_take, List.getElem?_drop, Nat.add_zero] at h4
   rw [List.getElem?_eq_getElem hj]
   simpa using h4
  ·rw [List.getElem?_eq_none (by omega), List.getElem?_eq_none (by omega)]
 rw [e] at ho
 exact ho
theorem one_fst {w : World} {base : Nat} {g : Option Nat} {es : List (Value × List S42)} (h : PR_ w base g es) : ∀ x ∈ es.map Prod.fst, x.oneCell' = true := by
 intro x hx
 obtain ⟨y, hy, rfl⟩ := List.mem_map.1 hx
 obtain ⟨A, c, e⟩ := Kd.R_slice (h.own y hy)
 rw [e]; rfl
/-- two rows of rows, the second younger than the first: the elements of both -/
theorem join_PR {w1 W w2 : World} {base : Nat} {u u2 v : Value} {es es2 : List (Value × List S42)} (h1 : PR_ W base u.ownBlock es) (hlt : ∀ x ∈ es, ∀ k, x.1.ownBlock = some k → k < w1.heap.size) (hu : ∀ k, u.ownBlock = some k → k < w1.heap.size)
  (h2 : PR_ W w1.heap.size v.ownBlock es2) (hbase : base ≤ w1.heap.size) (hg : W.grownBy w2 u.ownBlock) (hat : u2.ownBlock = u.ownBlock ∨ ∃ b, u2.ownBlock = some b ∧ W.heap.size ≤ b) : PR_ w2 base u2.ownBlock (es ++ es2) := by
 have each : ∀ x ∈ es ++ es2, Kd.R k42 42 W base (fun k => some k ≠ u.ownBlock) x.1 x.2 := by
  intro x hx
  rcases List.mem_append.1 hx with hx | hx
  ·exact h1.own x hx
  ·have hR := Kd.R_lower (h2.own x hx) hbase
   refine Kd.R_mono (Kd.R_tight rfl hR) (fun k hk e => ?_)
   have a := Kd.R_base (h2.own x hx) k hk.symm
   have b := hu k e.symm
   omega
 refine ⟨fun x hx => ?_, ?_⟩
 ·have hR := each x hx
  have hlt2 := Kd.R_lt hR
  refine Kd.R_mono (Kd.R_tight rfl (Kd.R_step hR (fun k hk hl => hg.block k hl hk))) (fun k hk e => ?_)
  rcases hat with e2 | ⟨b, e2, hb⟩
  ·rw [e2] at e
   exact hR.1 k hk.symm e
  ·rw [e2] at e
   have := hlt2 k hk.symm
   have : k = b := by injection e
   omega
 ·refine List.pairwise_append.2 ⟨h1.apart, h2.apart, fun a ha b hb k hk hk2 => ?_⟩
  have x1 := hlt a ha k hk
  have x2 := Kd.R_base (h2.own b hb) k hk2
  omega
set_option maxHeartbeats 8000000 in
set_option maxRecDepth 100000 in
theorem allGrown_walk (k m : Nat) (hm : m ≤ 1000) (u : Value) (l r : List (List S42)) (w0 w : World) (hB : Below w0.heap.size w0 w) (hS : Kd.S (Kd.slice 42 k42) 27 w w0.heap.size (fun _ => True) u l) (h : impl_fixedShapes.rounds k m l = some r) :
  Calls Try.prog 114 #[.int .i64 ((m : Int) + 1), u, .func (.func 68) #[] #[], .func (.func 90) #[] #[]] w fun e w' => ∃ v, e = .returned v ∧ Kd.S (Kd.slice 42 k42) 27 w' w0.heap.size (fun _ => True) v r ∧ Below w0.heap.size w0 w' := by
 have hu1 := Try.underlying43
 have HS := Aside0.mk hS
 have HB := Aside0.mk hB
 have HH := Aside0.mk h
 obtain ⟨A, c, eu⟩ := Kd.S_slice hS
 subst eu
 have hwr : IntKind.i64.wrap ((m : Int) + 1 - 1) = (m : Int) := by rw [IntKind.wrap_i64]; omega
 clear hS hB h
 go_enter Try.func114, Try.ntmps114
 go_wp2_with fail
 go_loopg [9, 16] m (fun gk v9 v16 wr => ∃ (j : Nat) (cur : List (List S42)), v16 = .int .i64 j ∧ Aside0 (gk + j = m) ∧ Aside0 (impl_fixedShapes.rounds k gk cur = some r) ∧ Aside0 (Kd.S (Kd.slice 42 k42) 27 wr w0.heap.size (fun _ => True) v9 cur) ∧ Aside0 (Below w0.heap.size w0 wr))
 case atStart => exact ⟨0, l, rfl, ⟨rfl⟩, HH, HS, HB⟩
 case round =>
  clear HH HS HB hwr
  obtain ⟨j, cur, rfl, HK, HH, HS, HB⟩ := hrel
  obtain ⟨A9, c9, e9⟩ := Kd.S_slice HS.out
  subst e9
  cases gk with
  | zero =>
   have hj : j = m := by have := HK.out; omega
   have d1 : decide ((j : Int) < (m : Int)) = false := decide_eq_false (by omega)
   have d2 : decide (j < m) = false := decide_eq_false (by omega)
   have hr := HH.out
   have hr2 : some cur = some r := hr
   obtain rfl := Option.some.inj hr2
   clear hj hr hr2 HH
   go_wp2_with fail
   go_ret
   exact ⟨_, rfl, HS.out, HB.out⟩
  | succ gk2 =>
   have hjm : j ≤ 1000 := by have := HK.out; omega
   have d1 : decide ((j : Int) < (m : Int)) = true := decide_eq_true (by have := HK.out; omega)
   have d2 : decide (j < m) = true := decide_eq_true (by have := HK.out; omega)
   obtain ⟨X, hX, h2⟩ := Option.bind_eq_some_iff.mp HH.out
   by_cases hxl : X.length ≤ 1000000
   rotate_left
   ·rw [if_neg hxl] at h2; exact absurd h2 (by simp)
   rw [if_pos hxl] at h2
   obtain ⟨Y, hY, h3⟩ := Option.bind_eq_some_iff.mp h2
   have HX := Aside0.mk hX
   have HXL := Aside0.mk hxl
   have HY := Aside0.mk hY
   have HR := Aside0.mk h3
   clear hX hxl h2 hY h3 HH
   go_wp2_with ((with_reducible refine gate_dst (N := 18) rfl ?_); refine Kd.S_lit (Kd.slice 42 k42) _ 27 ?hg (N := 18) ?hd (xs := ([] : List (List S42))) (inner := []) (ok := fun _ => True) (okp := fun _ => True) ?hr ?hp (fun _ hk => hk) trivial (Below.refl _ _) (Nat.le_refl _) (by simp) ?_; (case hd => rfl); (case hg => rfl); (case hr => first | (go_simp; done) | (go_simp; rfl)); (case hp => exact (Reps.none _ _)); intro v18 w18 ho18 hb18 hg_ hnew_; clear hg_ hnew_; have HS9 := Aside0.mk (Kd.S_elder' HS.out (Kd.S_base ho18) hb18); have HS10 := Aside0.mk (Kd.S_lower ho18 (below_size HB.out)); have HB2 := Aside0.mk (below_step HB.out hb18); clear ho18 hb18 HS HB)
   go_loopg [10, 21] cur.length (fun gk v10 v21 wr => ∃ (i : Nat) (acc rest : List (List S42)), v21 = .int .i64 i ∧ Aside0 (gk + i = cur.length) ∧ Aside0 (impl_fixedShapes.join k (cur.drop i) = some rest) ∧ Aside0 (acc ++ rest = X) ∧ Aside0 (Kd.S (Kd.slice 42 k42) 27 wr w0.heap.size (fun k_ => True ∧ some k_ ≠ (v10 : Value).ownBlock) (.slice A9 cur.length c9) cur) ∧ Aside0 (Kd.S (Kd.slice 42 k42) 27 wr w0.heap.size (fun _ => True) v10 acc) ∧ Aside0 (Below w0.heap.size w0 wr))
   case atStart => exact ⟨0, [], X, rfl, ⟨rfl⟩, HX, ⟨rfl⟩, HS9, HS10, HB2⟩
   case round =>
    clear HX HS9 HS10 HB2
    obtain ⟨i, acc, rest, rfl, HI, HJ, HA, HS9, HS10, HB⟩ := hrel
    obtain ⟨A10, c10, e10⟩ := Kd.S_slice HS10.out
    subst e10
    cases gk with
    | zero =>
     have hi : i = cur.length := by have := HI.out; omega
     have d3 : decide ((i : Int) < (cur.length : Int)) = false := decide_eq_false (by omega)
     have d4 : decide (i < cur.length) = false := decide_eq_false (by omega)
     have hj2 := HJ.out
     rw [hi, List.drop_length] at hj2
     have hj3 : some [] = some rest := hj2
     obtain rfl := Option.some.inj hj3
     have ha := HA.out
     rw [List.append_nil] at ha
     subst ha
     clear hi hj2 hj3 HJ HA HS9
     go_wp2_with fail
     refine (tidy_walk _ acc Y w0 _ HB.out HS10.out k HY.out).mono ?_
     rintro e w3 ⟨v3, rfl, hS3, hb3⟩
     have HS3 := Aside0.mk hS3
     have HB3 := Aside0.mk hb3
     clear hS3 hb3
     go_wp2_with fail
     go_roundg gk2
     case measure => omega
     case rel => exact ⟨j + 1, Y, by go_num, ⟨by have := HK.out; omega⟩, HR, HS3, HB3⟩
    | succ gi =>
     have hi : i < cur.length := by have := HI.out; omega
     have p1 : 0 ≤ (i : Int) := by omega
     have q1 : (i : Int) < (cur.length : Int) := by omega
     have d3 : decide ((i : Int) < (cur.length : Int)) = true := decide_eq_true q1
     have d4 : decide (i < cur.length) = true := decide_eq_true hi
     obtain ⟨ad, cc, eA, hcl, ⟨B, cB, ec, hlB, hCB⟩, hcells⟩ := ReadsRow.get_ (Kd.S_reads' HS9.out).2.2 [] (i : Int) p1 q1
     subst eA
     subst ec
     have hx := hcells 0 _ rfl
     have hdr : cur.drop i = cur.getD i [] :: cur.drop (i + 1) := by
      rw [List.getD_eq_getElem?_getD, List.getElem?_eq_getElem hi, List.drop_eq_getElem_cons hi]; rfl
     rw [Int.toNat_natCast] at hx hlB hCB
     have hj2 := HJ.out
     rw [hdr] at hj2
     obtain ⟨a, ha, hj3⟩ := Option.bind_eq_some_iff.mp hj2
     obtain ⟨b, hb, hj4⟩ := Option.bind_eq_some_iff.mp hj3
     obtain rfl := Option.some.inj hj4
     generalize cur.getD i [] = x at *
     have HCB := Aside0.mk hCB
     have HLB := Aside0.mk hlB
     have HGA := Aside0.mk ha
     have HJ2 := Aside0.mk hb
     clear hcells hcl hdr hj2 hj3 hj4 ha hb hCB hlB HJ
     rw [show i * (Kd.slice 42 k42).sz + 0 = i from Nat.mul_one i] at hx
     go_wp2_with fail
     refine (impl_grown.calls k B cB x a _ HCB.out HLB.out HGA.out).mono ?_
     rintro e w2 ⟨v29, rfl, hS29, hb29⟩
     obtain ⟨A29, c29, e29⟩ := Kd.S_slice hS29
     subst e29
     obtain ⟨es, hes, hown, hPR⟩ := S_split HS10.out
     obtain ⟨es2, hes2, hown2, hPR2⟩ := S_split hS29
     have hl1 : es.length = acc.length := by rw [← hes, List.length_map]
     have hl2 : es2.length = a.length := by rw [← hes2, List.length_map]
     have hraw : rawK_.R 27 w2 w0.heap.size (fun _ => True) (.slice A10 acc.length c10) (es.map Prod.fst) :=
      Kd.R_below (raw_R (by rw [List.length_map]; exact hown) (one_fst hPR)) hb29
     have hraw2 := Kd.R_reads' (raw_R (W := w2) (e := 27) (base := wr.heap.size) (v := .slice A29 a.length c29) (l := es2.map Prod.fst) (by rw [List.length_map]; exact hown2) (one_fst hPR2))
     have hrd : ReadsRow (rawK_.K w2) rawK_.sz w2 A29 a.length (es2.map Prod.fst) := by
      have := hraw2.2.2
      rw [List.length_map, hl2] at this
      exact this
     have hsum : (es.map Prod.fst).length + a.length ≤ 1000000 := by
      have h1 := HA.out
      have h2 := HXL.out
      rw [← h1, List.length_append, List.length_append] at h2
      rw [List.length_map, hl1]; omega
     have HRAW := Aside0.mk hraw
     have HRD := Aside0.mk hrd
     have HSUM := Aside0.mk hsum
     have HB2 := Aside0.mk (below_step HB.out hb29)
     have HS92 := Aside0.mk (Kd.S_below HS9.out hb29)
     have HPR := Aside0.mk (show PR_ w2 w0.heap.size (Value.slice A10 acc.length c10).ownBlock es from ⟨fun x hx => Kd.R_below (hPR.own x hx) hb29, hPR.apart⟩)
     have HPR2 := Aside0.mk hPR2
     have HLT := Aside0.mk (show ∀ x ∈ es, ∀ k, x.1.ownBlock = some k → k < wr.heap.size from fun x hx k hk => Kd.R_lt (hPR.own x hx) k hk)
     have HULT := Aside0.mk (Kd.S_lt HS10.out)
     have HBS := Aside0.mk (below_size HB.out)
     have HES := Aside0.mk hes
     have HES2 := Aside0.mk hes2
     have hbig : cur.length ≤ 9223372036854775807 := (Kd.S_reads' HS9.out).2.2.2.1
     have HKEY : Aside0 (∀ (v30 : Value) (w30 : World), rawK_.R 27 w30 w0.heap.size (fun _ => True) v30 (es.map Prod.fst ++ es2.map Prod.fst) → Below w0.heap.size w0 w30 → w2.grownBy w30 (Value.slice A10 acc.length c10).ownBlock → (v30.ownBlock = (Value.slice A10 acc.length c10).ownBlock ∨ ∃ b, v30.ownBlock = some b ∧ w2.heap.size ≤ b) → Kd.S (Kd.slice 42 k42) 27 w30 w0.heap.size (fun k_ => True ∧ some k_ ≠ v30.ownBlock) (.slice (some ad) cur.length c9) cur ∧ Kd.S (Kd.slice 42 k42) 27 w30 w0.heap.size (fun _ => True) v30 (acc ++ a) ∧ Below w0.heap.size w0 w30) := ⟨by
      intro v30 w30 hr hb hg hat
      refine ⟨Kd.S_after HS92.out hg hat, ?_, hb⟩
      have h := raw_own hr
      rw [← List.map_append, List.length_map] at h
      have h2 := S_join (es := es ++ es2) h (join_PR HPR.out HLT.out HULT.out HPR2.out HBS.out hg hat)
      rw [List.map_append, HES.out, HES2.out] at h2
      exact h2⟩
     clear hS29 hb29 hes hes2 hown hown2 hPR hPR2 hl1 hl2 hraw hraw2 hrd hsum hx HS9 HS10 HB HCB HLB HGA
     go_wp2_with ((with_reducible refine gate_builtin (b := .append) (xs := #[.tmp 25, .tmp 29]) rfl ?_); at_builtin; refine Kd.R_append_rows rawK_ (w0 := w0) w0.heap.size rfl (.tmp 25) (.tmp 29) 43 27 (.slice none 0 0) 24 rfl Try.underlying43 info27 rfl (by decide) (by omega) (.slice A10 acc.length c10) (es.map Prod.fst) (es2.map Prod.fst) A29 a.length c29 (fun _ => True) (fun k_ => some k_ ≠ (Value.slice A10 acc.length c10).ownBlock) rfl rfl HRAW.out HRD.out (fun _ _ h => h) (fun _ h => ⟨trivial, h⟩) (fun _ _ => trivial) HB2.out (below_size HB2.out) (by have := HSUM.out; omega) ?_; intro v30 w30 hr hb hg hat; have hk_ := HKEY.out _ _ hr hb hg hat; clear hr hb hg hat HKEY)
     go_roundg gi
     case measure => omega
     case rel => exact ⟨i + 1, acc ++ a, b, by go_num, ⟨by have := HI.out; omega⟩, HJ2, ⟨by rw [List.append_assoc]; exact HA.out⟩, ⟨hk_.1⟩, ⟨hk_.2.1⟩, ⟨hk_.2.2⟩⟩
set_option maxHeartbeats 4000000 in
set_option maxRecDepth 100000 in
theorem impl_fixedShapes.calls (k : Nat) (a0 : Int) (r : List (List S42)) (w : World) (h : impl_fixedShapes.f k a0 = some r) :
  Calls Try.prog 79 #[.int .i64 a0] w fun e w' => ∃ v0_ : Value, e = .returned (v0_) ∧ Kd.S (Kd.slice 42 k42) 27 w' w.heap.size (fun _ => True) v0_ r ∧ Below w.heap.size w w' := by
 unfold impl_fixedShapes.f at h
 by_cases c : 1 ≤ a0 ∧ a0 ≤ 1000
 rotate_left
 ·rw [if_neg c] at h; exact absurd h (by simp)
 rw [if_pos c] at h
 have HH := Aside0.mk h
 obtain ⟨m, hm⟩ : ∃ m : Nat, a0 = (m : Int) + 1 := ⟨(a0 - 1).toNat, by omega⟩
 have em : (a0 - 1).toNat = m := by omega
 rw [em] at HH
 subst hm
 have hm1 : m ≤ 1000 := by omega
 clear em h c
 have hu2 := Try.underlying42
 go_enter Try.func79, Try.ntmps79
 go_wp2_with fail
 have hb1 := below_alloc (Below.refl w.heap.size w) (.cells #[.int .i64 0, .int .i64 0] 42)
 have hR1 : Kd.R k42 42 (w.alloc (.cells #[.int .i64 0, .int .i64 0] 42)) w.heap.size (fun k => some k ≠ some (w.heap.size + 1)) (.slice (some ⟨w.heap.size, 0, none⟩) 1 1) [⟨0, 0⟩] := by
  refine ⟨fun k hk e => ?_, [.int .i64 0, .int .i64 0], World.ownsRow_lit (base := w.heap.size) (e := 42) (size := 2) w #[.int .i64 0, .int .i64 0] 1 (Nat.le_refl _) (by simp [maxLen]) rfl, Reps.c2 (show Kd.M k42 _ _ _ (⟨0, 0⟩ : S42) [.int .i64 0, .int .i64 0] from (k42_mkM _ _ _ ⟨0, 0⟩)) (Reps.none _ _)⟩
  have : w.heap.size = k := by simpa [Value.ownBlock] using hk
  have : k = w.heap.size + 1 := by injection e
  omega
 have hS : Kd.S (Kd.slice 42 k42) 27 ((w.alloc (.cells #[.int .i64 0, .int .i64 0] 42)).alloc (.cells #[.slice (some ⟨w.heap.size, 0, none⟩) 1 1] 27)) w.heap.size (fun _ => True) (.slice (some ⟨w.heap.size + 1, 0, none⟩) 1 1) [[⟨0, 0⟩]] := by
  have hsz : (w.alloc (.cells #[.int .i64 0, .int .i64 0] 42)).heap.size = w.heap.size + 1 := Array.size_push _
  have ho := World.ownsRow_lit (base := w.heap.size) (e := 27) (size := 1) (w.alloc (.cells #[.int .i64 0, .int .i64 0] 42)) #[.slice (some ⟨w.heap.size, 0, none⟩) 1 1] 1 (by omega) (by simp [maxLen]) rfl
  rw [hsz] at ho
  refine S_join (es := [(.slice (some ⟨w.heap.size, 0, none⟩) 1 1, [⟨0, 0⟩])]) ho ⟨fun x hx => ?_, List.pairwise_singleton _ _⟩
  rw [List.mem_singleton.1 hx]
  exact Kd.R_alloc hR1 _
 have HS := Aside0.mk hS
 have HB := Aside0.mk (below_alloc hb1 (.cells #[.slice (some ⟨w.heap.size, 0, none⟩) 1 1] 27))
 clear hR1 hb1 hS
 refine (allGrown_walk k m hm1 _ [[⟨0, 0⟩]] r w _ HB.out HS.out HH.out).mono ?_
 rintro e w3 ⟨v3, rfl, hS3, hb3⟩
 have HS3 := Aside0.mk hS3
 have HB3 := Aside0.mk hb3
 clear hS3 hb3
 go_wp2_with fail
 go_ret
 exact ⟨_, rfl, HS3.out, HB3.out⟩

end Go.Proofs.Ytpilmhjbgbpbmaa.X
