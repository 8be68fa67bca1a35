-- xprint.py
import Derived.Lib.SliceRun
import Derived.Test.YtbkafaoehheioaaXx0
import Derived.Test.YtbkafaoehheioaaXx1
import Derived.Test.YtbkafaoehheioaaXx2
import Derived.Test.YtbkafaoehheioaaXx3
import Derived.Test.YtbkafaoehheioaaXx4
namespace Go.Proofs.Ytbkafaoehheioaa.X
open Go.RowKit Go.Proofs.YtbkafaoehheioaaW.PrintWords Go.Proofs.YtbkafaoehheioaaW.PrintLast Go.Proofs.YtbkafaoehheioaaW.PrintMore
attribute [local go_sem] max2_int min2_int max_two min_two max_three min_three max_four min_four   -- for this text's walks alone
set_option linter.unusedVariables false
set_option linter.unusedSimpArgs false

attribute [local go_sem high] eqA55
/-! ### spec_l05Grow: function 43 -/
def spec_l05Grow.l0 : Nat → List (List (S55)) → List (S55) → List (S55) → Int → Option ((List (List (S55))))
 | 0, _, _, _, _ => none
 | k + 1, x0, x1, x5, x6 => if x6 < (x5.length : Int) then (if 0 ≤ x6 then ((spec_l02Insert.f k x1 ((rd_T55 x5 x6).f0) ((rd_T55 x5 x6).f1)).bind fun t250 => ((spec_l02Normal.f k t250).bind fun t253 => ((spec_l03Add.f k x0 t253).bind fun t256 => (spec_l05Grow.l0 k t256 x1 x5 (wrap64 (x6 + 1)))))) else (none)) else (some x0)
def spec_l05Grow.f (k : Nat) (l0 : List (List (S55))) (l1 : List (S55)) : Option ((List (List (S55)))) := (spec_l02Neighbours.f k l1).bind fun t246 => (spec_l05Grow.l0 k l0 l1 t246 0)
theorem spec_l05Grow.mono_l : ∀ k, (∀ y0 y1 y2 y3, LeO (spec_l05Grow.l0 k y0 y1 y2 y3) (spec_l05Grow.l0 (k + 1) y0 y1 y2 y3))
 | 0 => fun _ _ _ _ r h => by simp [spec_l05Grow.l0] at h
 | k + 1 => by
  have ih0 := spec_l05Grow.mono_l k
  ·intro y0 y1 y2 y3
   unfold spec_l05Grow.l0
   repeat' first
   | (with_reducible exact ih0 _ _ _ _)
   | (with_reducible exact spec_l02Insert.mono _ _ _ _)
   | (with_reducible exact spec_l02Neighbours.mono _ _)
   | (with_reducible exact spec_l02Normal.mono _ _)
   | (with_reducible exact spec_l03Add.mono _ _ _)
   | (with_reducible exact LeO.refl _)
   | (with_reducible exact LeO.none _)
   | (with_reducible refine LeO.ite ?_ ?_)
   | (with_reducible refine LeO.bind ?_ (fun _ => ?_))
   | exact ih0 _ _ _ _
   | exact spec_l02Insert.mono _ _ _ _
   | exact spec_l02Neighbours.mono _ _
   | exact spec_l02Normal.mono _ _
   | exact spec_l03Add.mono _ _ _
   | exact LeO.none _
   | refine LeO.ite ?_ ?_
   | refine LeO.bind ?_ (fun _ => ?_)
theorem spec_l05Grow.mono : ∀ a0 a1 k, LeO (spec_l05Grow.f k a0 a1) (spec_l05Grow.f (k + 1) a0 a1) := by
 intro a0 a1 k
 have ih0 := spec_l05Grow.mono_l k
 unfold spec_l05Grow.f
 repeat' first
   | (with_reducible exact ih0 _ _ _ _)
   | (with_reducible exact spec_l02Insert.mono _ _ _ _)
   | (with_reducible exact spec_l02Neighbours.mono _ _)
   | (with_reducible exact spec_l02Normal.mono _ _)
   | (with_reducible exact spec_l03Add.mono _ _ _)
   | (with_reducible exact LeO.refl _)
   | (with_reducible exact LeO.none _)
   | (with_reducible refine LeO.ite ?_ ?_)
   | (with_reducible refine LeO.bind ?_ (fun _ => ?_))
   | exact ih0 _ _ _ _
   | exact spec_l02Insert.mono _ _ _ _
   | exact spec_l02Neighbours.mono _ _
   | exact spec_l02Normal.mono _ _
   | exact spec_l03Add.mono _ _ _
   | exact LeO.none _
   | refine LeO.ite ?_ ?_
   | refine LeO.bind ?_ (fun _ => ?_)
set_option maxHeartbeats 8000000 in
set_option maxRecDepth 100000 in
theorem spec_l05Grow.calls (k : Nat) (P0_ : Nat → Prop) (A0 : Option Addr) (c0 : Nat) (l0 : List (List (S55))) (A1 : Option Addr) (c1 : Nat) (l1 : List (S55)) (r : List (List (S55))) (w : World) (hs0 : Kd.V (Kd.slice 55 k55) 27 w w.heap.size (fun k_ => P0_ k_) (.slice A0 l0.length c0) l0) (hr1 : Kd.C k55 w A1 l1.length l1) (hc1 : l1.length ≤ c1) (h : spec_l05Grow.f k l0 l1 = some r) :
  Calls Try.prog 43 #[.slice A0 l0.length c0, .slice A1 l1.length c1] w fun e w' => ∃ v0_ : Value, e = .returned (v0_) ∧ Kd.V (Kd.slice 55 k55) 27 w' w.heap.size (fun k_ => (P0_ k_ ∨ w.heap.size ≤ k_)) v0_ r ∧ Below w.heap.size w w' := by
 have hu55 := Try.underlying55
 have HO0 := Aside0.mk (show Kd.V (Kd.slice 55 k55) 27 w w.heap.size (fun k_ => (P0_ k_ ∨ w.heap.size ≤ k_)) (.slice A0 l0.length c0) l0 from Kd.V_mono hs0 (fun k_ hk => .inl hk))
 have HR1 := Aside0.mk hr1
 have HC1 := Aside0.mk hc1
 clear hr1 hc1
 have HB := Aside0.mk (Below.refl w.heap.size w)
 have H : ((spec_l02Neighbours.f k l1).bind fun t246 => (spec_l05Grow.l0 k l0 l1 t246 0)) = some r := h
 clear h
 replace H := Option.bind_eq_some_iff.mp H
 obtain ⟨t246, A30, H⟩ := H
 replace H : (spec_l05Grow.l0 k l0 l1 t246 0) = some r := H
 have A3 := Aside0.mk A30
 clear A30
 have H' := Aside0.mk H
 clear H
 go_enter Try.func43, Try.ntmps43
 go_wp2_with (first | ((with_reducible refine gate_callee (f := 77) rfl ?_); refine goesL_ (some 8) rfl rfl Try.func77 (by kernel_rfl) rfl #[.slice A1 l1.length c1] rfl (by (try simp only [List.map_toArray, List.map_cons, List.map_nil]); first | done | rfl) ?_; (with_reducible refine (spec_l02Neighbours.calls k _ _ l1 t246 _ ?side1 ?side2 A3.out).mono ?_); (case side1 => repeat (first | exact HR1.out | (with_reducible refine Kd.C_alloc ?_ _) | (with_reducible refine Kd.C_drewN ?_ _) | (with_reducible refine Kd.C_drew ?_))); (case side2 => exact HC1.out); rintro e w4 ⟨v247, rfl, ho0, hb⟩; refine ⟨_, rfl, ?_⟩; have n0_ := Aside0.mk (Kd.V_elder' (by (with_reducible repeat (first | apply Kd.V_alloc | apply Kd.V_drewN | apply Kd.V_drew)); exact HO0.out) (Kd.R_base ho0) hb); have n1_ := Aside0.mk (Kd.R_lower (Kd.R_newM (M := fun k_ => (w.heap.size ≤ k_)) ho0 (below_size (by repeat (with_reducible first | exact HB.out | apply below_alloc | apply pw_below_drewN | apply below_drew1))) (fun k_ h_ => h_)) (below_size (by repeat (with_reducible first | exact HB.out | apply below_alloc | apply pw_below_drewN | apply below_drew1)))); have n2_ := Aside0.mk (below_step (by repeat (with_reducible first | exact HB.out | apply below_alloc | apply pw_below_drewN | apply below_drew1)) hb); clear HO0; clear HB; have HO0 := n0_; have HO248 := n1_; have HB := n2_; clear n0_ n1_ n2_; (try clear hb); (try clear ho0)))
 go_loopg [0, 6] k (fun kq v0 v6 w' => ∃ (x0_1 : List (List (S55))) (x6_1 : Int), v6 = .int .i64 x6_1 ∧ Aside0 (spec_l05Grow.l0 kq x0_1 l1 t246 x6_1 = some r) ∧ Aside0 (kq ≤ k) ∧ Aside0 (Kd.V (Kd.slice 55 k55) 27 w' w.heap.size (fun k_ => (P0_ k_ ∨ w.heap.size ≤ k_) ∧ some k_ ≠ (v247 : Value).ownBlock) v0 x0_1) ∧ Aside0 (Kd.R k55 55 w' w.heap.size (fun k_ => (w.heap.size ≤ k_)) v247 t246) ∧ Aside0 (Below w.heap.size w w'))
 case atStart => exact ⟨(l0), (0), (by first | rfl | (simp; done) | (simp [*]; done)), H', ⟨Nat.le_refl _⟩, ⟨by (with_reducible repeat (first | apply Kd.V_alloc | apply Kd.V_drewN | apply Kd.V_drew)); exact HO0.out⟩, ⟨by (with_reducible repeat (first | apply Kd.R_alloc | apply Kd.R_drewN | apply Kd.R_drew)); exact Kd.R_mono HO248.out (fun _ hk => hk.1)⟩, ⟨by repeat (with_reducible first | exact HB.out | apply below_alloc | apply pw_below_drewN | apply below_drew1)⟩⟩
 case round =>
  clear H'
  try clear c1
  try clear p2
  try clear c4
  obtain ⟨x0_1, x6_1, rfl, HA, HK1, HO_0, HO_5, HB⟩ := hrel
  cases gk with
  | zero => exact absurd HA.out (by simp [spec_l05Grow.l0])
  | succ k1 =>
   have H := HA.out
   clear HA
   simp only [spec_l05Grow.l0] at H
   by_cases c5 : x6_1 < (t246.length : Int)
   ·rw [if_pos c5] at H
    have c5b0 : decide (x6_1 < (t246.length : Int)) = true := decide_eq_true c5
    clear c5
    by_cases c6 : 0 ≤ x6_1
    ·rw [if_pos c6] at H
     have c6b0 : decide (0 ≤ x6_1) = true := decide_eq_true c6
     clear c6
     replace H := Option.bind_eq_some_iff.mp H
     obtain ⟨t250, A70, H⟩ := H
     replace H : ((spec_l02Normal.f k1 t250).bind fun t253 => ((spec_l03Add.f k1 x0_1 t253).bind fun t256 => (spec_l05Grow.l0 k1 t256 l1 t246 (wrap64 (x6_1 + 1))))) = some r := H
     have A7 := Aside0.mk A70
     clear A70
     replace H := Option.bind_eq_some_iff.mp H
     obtain ⟨t253, A80, H⟩ := H
     replace H : ((spec_l03Add.f k1 x0_1 t253).bind fun t256 => (spec_l05Grow.l0 k1 t256 l1 t246 (wrap64 (x6_1 + 1)))) = some r := H
     have A8 := Aside0.mk A80
     clear A80
     replace H := Option.bind_eq_some_iff.mp H
     obtain ⟨t256, A90, H⟩ := H
     replace H : (spec_l05Grow.l0 k1 t256 l1 t246 (wrap64 (x6_1 + 1))) = some r := H
     have A9 := Aside0.mk A90
     clear A90
     have H' := Aside0.mk H
     clear H
     obtain ⟨Ao10, co10, eo10⟩ := Kd.R_slice HO_5.out
     subst eo10
     have p249 : 0 ≤ (x6_1 : Int) := of_decide_eq_true (by first | (with_reducible assumption) | assumption)
     have q249 : x6_1 < (t246.length : Int) := of_decide_eq_true (by first | (with_reducible assumption) | assumption)
     obtain ⟨ad249, e249, hx249_0, hx249_1⟩ := at_T55 (Kd.R_reads' HO_5.out).2.2 x6_1 p249 q249
     cases e249
     replace p249 := eq_true p249
     replace q249 := eq_true q249
     go_wp2_with (first | ((with_reducible refine gate_callee (f := 79) rfl ?_); refine goesL_ (some 21) rfl rfl Try.func79 (by kernel_rfl) rfl #[.slice A1 l1.length c1, .agg #[.int .i64 ((rd_T55 t246 x6_1).f0), .int .i64 ((rd_T55 t246 x6_1).f1)]] rfl (by (try simp only [List.map_toArray, List.map_cons, List.map_nil]); first | done | rfl) ?_; (with_reducible refine (spec_l02Insert.calls k1 _ _ l1 ((rd_T55 t246 x6_1).f0) ((rd_T55 t246 x6_1).f1) t250 _ ?side1 ?side2 A7.out).mono ?_); (case side1 => repeat (first | exact (Kd.C_below HR1.out HB.out) | (with_reducible refine Kd.C_alloc ?_ _) | (with_reducible refine Kd.C_drewN ?_ _) | (with_reducible refine Kd.C_drew ?_))); (case side2 => exact HC1.out); rintro e w11 ⟨v251, rfl, ho0, hb⟩; refine ⟨_, rfl, ?_⟩; have n0_ := Aside0.mk (Kd.V_elder' (by (with_reducible repeat (first | apply Kd.V_alloc | apply Kd.V_drewN | apply Kd.V_drew)); exact HO_0.out) (Kd.R_base ho0) hb); have n1_ := Aside0.mk (Kd.R_elder' (by (with_reducible repeat (first | apply Kd.R_alloc | apply Kd.R_drewN | apply Kd.R_drew)); exact HO_5.out) (Kd.R_base ho0) hb); have n2_ := Aside0.mk (Kd.R_lower (Kd.R_new' (Kd.R_newM (M := fun k_ => (w.heap.size ≤ k_)) ho0 (below_size (by repeat (with_reducible first | exact HB.out | apply below_alloc | apply pw_below_drewN | apply below_drew1))) (fun k_ h_ => h_)) (Kd.R_lt (by (with_reducible repeat (first | apply Kd.R_alloc | apply Kd.R_drewN | apply Kd.R_drew)); exact HO_5.out))) (below_size (by repeat (with_reducible first | exact HB.out | apply below_alloc | apply pw_below_drewN | apply below_drew1)))); have n3_ := Aside0.mk (below_step (by repeat (with_reducible first | exact HB.out | apply below_alloc | apply pw_below_drewN | apply below_drew1)) hb); clear HO_0; clear HO_5; clear HB; have HO_0 := n0_; have HO_5 := n1_; have HO252 := n2_; have HB := n3_; clear n0_ n1_ n2_ n3_; (try clear hb); (try clear ho0); obtain ⟨Ao12, co12, eo12⟩ := Kd.R_slice HO252.out; subst eo12) | ((with_reducible refine gate_callee (f := 73) rfl ?_); refine goesL_ (some 22) rfl rfl Try.func73 (by kernel_rfl) rfl #[.slice Ao12 t250.length co12] rfl (by (try simp only [List.map_toArray, List.map_cons, List.map_nil]); first | done | rfl) ?_; (with_reducible refine (spec_l02Normal.calls k1 _ _ t250 t253 _ ?side1 ?side2 A8.out).mono ?_); (case side1 => repeat (first | exact (Kd.R_reads' HO252.out).2.2 | (with_reducible refine Kd.C_alloc ?_ _) | (with_reducible refine Kd.C_drewN ?_ _) | (with_reducible refine Kd.C_drew ?_))); (case side2 => exact (Kd.R_reads' HO252.out).2.1); rintro e w13 ⟨v254, rfl, ho0, hb⟩; refine ⟨_, rfl, ?_⟩; have n0_ := Aside0.mk (Kd.V_elder' (by (with_reducible repeat (first | apply Kd.V_alloc | apply Kd.V_drewN | apply Kd.V_drew)); exact HO_0.out) (Kd.R_base ho0) hb); have n1_ := Aside0.mk (Kd.R_elder' (by (with_reducible repeat (first | apply Kd.R_alloc | apply Kd.R_drewN | apply Kd.R_drew)); exact HO_5.out) (Kd.R_base ho0) hb); have n2_ := Aside0.mk (Kd.R_elder' (by (with_reducible repeat (first | apply Kd.R_alloc | apply Kd.R_drewN | apply Kd.R_drew)); exact HO252.out) (Kd.R_base ho0) hb); have n3_ := Aside0.mk (Kd.R_lower (Kd.R_new' (Kd.R_new' (Kd.R_newM (M := fun k_ => (w.heap.size ≤ k_)) ho0 (below_size (by repeat (with_reducible first | exact HB.out | apply below_alloc | apply pw_below_drewN | apply below_drew1))) (fun k_ h_ => h_)) (Kd.R_lt (by (with_reducible repeat (first | apply Kd.R_alloc | apply Kd.R_drewN | apply Kd.R_drew)); exact HO_5.out))) (Kd.R_lt (by (with_reducible repeat (first | apply Kd.R_alloc | apply Kd.R_drewN | apply Kd.R_drew)); exact HO252.out))) (below_size (by repeat (with_reducible first | exact HB.out | apply below_alloc | apply pw_below_drewN | apply below_drew1)))); have n4_ := Aside0.mk (below_step (by repeat (with_reducible first | exact HB.out | apply below_alloc | apply pw_below_drewN | apply below_drew1)) hb); clear HO_0; clear HO_5; clear HO252; clear HB; have HO_0 := n0_; have HO_5 := n1_; have HO252 := n2_; have HO255 := n3_; have HB := n4_; clear n0_ n1_ n2_ n3_ n4_; (try clear hb); (try clear ho0); obtain ⟨Ao14, co14, eo14⟩ := Kd.V_slice HO_0.out; subst eo14; obtain ⟨Ao15, co15, eo15⟩ := Kd.R_slice HO255.out; subst eo15) | ((with_reducible refine gate_callee (f := 78) rfl ?_); refine goesL_ (some 23) rfl rfl Try.func78 (by kernel_rfl) rfl #[.slice Ao14 x0_1.length co14, .slice Ao15 t253.length co15] rfl (by (try simp only [List.map_toArray, List.map_cons, List.map_nil]); first | done | rfl) ?_; (with_reducible refine (spec_l03Add.calls k1 (fun k_ => ((((P0_ k_ ∨ w.heap.size ≤ k_) ∧ some k_ ≠ (.slice (some ad249) t246.length co10 : Value).ownBlock) ∧ some k_ ≠ (.slice Ao12 t250.length co12 : Value).ownBlock) ∧ some k_ ≠ (.slice Ao15 t253.length co15 : Value).ownBlock)) _ _ x0_1 (fun k_ => some k_ = (.slice Ao15 t253.length co15 : Value).ownBlock) _ _ t253 t256 _ ?side1 ?side2 A9.out).mono ?_); (case side1 => exact HO_0.out); (case side2 => exact Kd.R_V (Kd.R_tight rfl (HO255.out))); rintro e w16 ⟨v257, rfl, ho0, hb⟩; refine ⟨_, rfl, ?_⟩; have n0_ := Aside0.mk (Kd.V_below (by (with_reducible repeat (first | apply Kd.V_alloc | apply Kd.V_drewN | apply Kd.V_drew)); exact HO_0.out) hb); have n1_ := Aside0.mk (Kd.R_below (by (with_reducible repeat (first | apply Kd.R_alloc | apply Kd.R_drewN | apply Kd.R_drew)); exact HO_5.out) hb); have n2_ := Aside0.mk (Kd.R_below (by (with_reducible repeat (first | apply Kd.R_alloc | apply Kd.R_drewN | apply Kd.R_drew)); exact HO252.out) hb); have n3_ := Aside0.mk (Kd.R_below (by (with_reducible repeat (first | apply Kd.R_alloc | apply Kd.R_drewN | apply Kd.R_drew)); exact HO255.out) hb); have n4_ := Aside0.mk (Kd.V_lower (Kd.V_mono (ok' := fun k_ => (P0_ k_ ∨ w.heap.size ≤ k_) ∧ some k_ ≠ (.slice (some ad249) t246.length co10 : Value).ownBlock ∧ some k_ ≠ (.slice Ao12 t250.length co12 : Value).ownBlock) ho0 (fun k_ hk_ => ⟨Or.elim hk_ (fun hs_ => Or.elim hs_ (fun hs_ => hs_.1.1.1) (fun hs_ => (.inr (((HO255.out).1 k_ hs_.symm).1.1.1)))) (fun hn_ => (.inr (Nat.le_trans (below_size (by repeat (with_reducible first | exact HB.out | apply below_alloc | apply pw_below_drewN | apply below_drew1))) hn_))), Or.elim hk_ (fun hs_ => Or.elim hs_ (fun hs_ => hs_.1.1.2) (fun hs_ => ((HO255.out).1 k_ hs_.symm).1.2)) (fun hn_ => (Kd.fresh' (Kd.R_lt (by (with_reducible repeat (first | apply Kd.R_alloc | apply Kd.R_drewN | apply Kd.R_drew)); exact HO_5.out)) k_ hn_)), Or.elim hk_ (fun hs_ => Or.elim hs_ (fun hs_ => hs_.1.2) (fun hs_ => ((HO255.out).1 k_ hs_.symm).2)) (fun hn_ => (Kd.fresh' (Kd.R_lt (by (with_reducible repeat (first | apply Kd.R_alloc | apply Kd.R_drewN | apply Kd.R_drew)); exact HO252.out)) k_ hn_))⟩)) (below_size (by repeat (with_reducible first | exact HB.out | apply below_alloc | apply pw_below_drewN | apply below_drew1)))); have n5_ := Aside0.mk (below_step (by repeat (with_reducible first | exact HB.out | apply below_alloc | apply pw_below_drewN | apply below_drew1)) hb); clear HO_0; clear HO_5; clear HO252; clear HO255; clear HB; have HO_0 := n0_; have HO_5 := n1_; have HO252 := n2_; have HO255 := n3_; have HO258 := n4_; have HB := n5_; clear n0_ n1_ n2_ n3_ n4_ n5_; (try clear hb); (try clear ho0)))
     go_roundg k1
     case measure => have := HK1.out; omega
     case rel => exact ⟨(t256), (wrap64 (x6_1 + 1)), (by first | rfl | (simp; done) | (simp [*]; done)), H', ⟨by have := HK1.out; omega⟩, ⟨by (with_reducible repeat (first | apply Kd.V_alloc | apply Kd.V_drewN | apply Kd.V_drew)); exact Kd.V_mono HO258.out (fun _ hk => ⟨hk.1, hk.2.1⟩)⟩, ⟨by (with_reducible repeat (first | apply Kd.R_alloc | apply Kd.R_drewN | apply Kd.R_drew)); exact Kd.R_mono HO_5.out (fun _ hk => hk.1.1)⟩, ⟨by repeat (with_reducible first | exact HB.out | apply below_alloc | apply pw_below_drewN | apply below_drew1)⟩⟩
    ·rw [if_neg c6] at H
     exact absurd H (by simp)
   ·rw [if_neg c5] at H
    have c5b0 : decide (x6_1 < (t246.length : Int)) = false := decide_eq_false c5
    clear c5
    obtain rfl := Option.some.inj H
    obtain ⟨Ao17, co17, eo17⟩ := Kd.R_slice HO_5.out
    subst eo17
    go_wp2
    go_ret
    exact ⟨_, by first | rfl | (simp [*] <;> rfl), by (with_reducible repeat (first | apply Kd.V_alloc | apply Kd.V_drewN | apply Kd.V_drew)); exact Kd.V_mono HO_0.out (fun _ hk => hk.1), by repeat (with_reducible first | exact HB.out | apply below_alloc | apply pw_below_drewN | apply below_drew1)⟩

/-! ### impl_around: function 48 -/
def impl_around.f (a0_0 : Int) (a0_1 : Int) : Option ((List (S55))) := some (([(⟨a0_0, wrap64 (a0_1 - 1)⟩ : S55), (⟨wrap64 (a0_0 - 1), a0_1⟩ : S55), (⟨wrap64 (a0_0 + 1), a0_1⟩ : S55), (⟨a0_0, wrap64 (a0_1 + 1)⟩ : S55)] : List (S55)))
set_option maxHeartbeats 8000000 in
set_option maxRecDepth 100000 in
theorem impl_around.calls (a0_0 : Int) (a0_1 : Int) (r : List (S55)) (w : World) (h : impl_around.f a0_0 a0_1 = some r) :
  Calls Try.prog 48 #[.agg #[.int .i64 a0_0, .int .i64 a0_1]] w fun e w' => ∃ v0_ : Value, e = .returned (v0_) ∧ Kd.R k55 55 w' w.heap.size (fun _ => True) v0_ r ∧ Below w.heap.size w w' := by
 have hu55 := Try.underlying55
 have HB := Aside0.mk (Below.refl w.heap.size w)
 have H : (some (([(⟨a0_0, wrap64 (a0_1 - 1)⟩ : S55), (⟨wrap64 (a0_0 - 1), a0_1⟩ : S55), (⟨wrap64 (a0_0 + 1), a0_1⟩ : S55), (⟨a0_0, wrap64 (a0_1 + 1)⟩ : S55)] : List (S55)))) = some r := h
 clear h
 obtain ⟨y313, hy313⟩ : ∃ y_ : List (S55), y_ = (([(⟨a0_0, wrap64 (a0_1 - 1)⟩ : S55), (⟨wrap64 (a0_0 - 1), a0_1⟩ : S55), (⟨wrap64 (a0_0 + 1), a0_1⟩ : S55), (⟨a0_0, wrap64 (a0_1 + 1)⟩ : S55)] : List (S55))) := ⟨_, rfl⟩
 replace H : (some y313) = some r := by first | (rw [hy313]; with_reducible exact H) | (have H2_ := (Option.bind_some _ _).symm.trans H; rw [hy313]; with_reducible exact H2_) | (have H2_ := (Option.bind_some _ _).symm.trans H; with_reducible exact H2_) | with_reducible exact H | (rw [hy313]; exact H) | exact H
 have Ny313 := Aside0.mk hy313
 clear hy313
 obtain rfl := Option.some.inj H
 go_enter Try.func48, Try.ntmps48
 go_wp2_with (first | ((with_reducible refine gate_dst (N := 1) rfl ?_); refine box_event ?hg (N := 1) ?hd (cs := #[.int .i64 a0_0, .int .i64 a0_1]) (t := 55) ?hr ?_; (case hd => rfl); (case hg => rfl); (case hr => first | (go_simp; done) | (go_simp; rfl)); intro gb312 hg w2 hbox hb; have n0_ := Aside0.mk (below_step (by repeat (with_reducible first | exact HB.out | apply below_alloc | apply pw_below_drewN | apply below_drew1)) hb); have n1_ := Aside0.mk (hbox); have n2_ := Aside0.mk ((by rw [hg]; exact (below_size (by repeat (with_reducible first | exact HB.out | apply below_alloc | apply pw_below_drewN | apply below_drew1))) : w.heap.size ≤ gb312)); have n3_ := Aside0.mk ((by rw [hg]; exact (below_size (by repeat (with_reducible first | exact HB.out | apply below_alloc | apply pw_below_drewN | apply below_drew1))) : w.heap.size ≤ gb312)); clear HB; have HB := n0_; have BK312 := n1_; have GW312 := n2_; have GE312 := n3_; clear n0_ n1_ n2_ n3_; clear hb hbox hg; have hcz3_0 : w2.cell? ⟨gb312, 0, none⟩ = some (.int .i64 a0_0) := (blk_cell BK312.out 0).trans rfl; have hcz3_1 : w2.cell? ⟨gb312, 1, none⟩ = some (.int .i64 a0_1) := (blk_cell BK312.out 1).trans rfl; have hfz3_0 := blk_frozen BK312.out 0; have hfz3_1 := blk_frozen BK312.out 1) | ((with_reducible refine gate_dst (N := 27) rfl ?_); refine Kd.R_lit k55 _ 55 ?hg (N := 27) ?hd (xs := ([(⟨a0_0, wrap64 (a0_1 - 1)⟩ : S55), (⟨wrap64 (a0_0 - 1), a0_1⟩ : S55), (⟨wrap64 (a0_0 + 1), a0_1⟩ : S55), (⟨a0_0, wrap64 (a0_1 + 1)⟩ : S55)] : List (S55))) (inner := [.int .i64 a0_0, .int .i64 (wrap64 (a0_1 - 1)), .int .i64 (wrap64 (a0_0 - 1)), .int .i64 a0_1, .int .i64 (wrap64 (a0_0 + 1)), .int .i64 a0_1, .int .i64 a0_0, .int .i64 (wrap64 (a0_1 + 1))]) (ok := fun _ => True) (okp := fun _ => True) ?hr ?hp (fun _ hk => hk) trivial (Below.refl _ _) (Nat.le_refl _) (by simp) ?_; (case hd => rfl); (case hg => rfl); (case hr => first | (go_simp; done) | (go_simp; rfl)); (case hp => exact (Reps.c2 (show Kd.M k55 _ _ _ (⟨a0_0, wrap64 (a0_1 - 1)⟩ : S55) [.int .i64 a0_0, .int .i64 (wrap64 (a0_1 - 1))] from (k55_mkM _ _ _ (⟨a0_0, wrap64 (a0_1 - 1)⟩ : S55) )) (Reps.c2 (show Kd.M k55 _ _ _ (⟨wrap64 (a0_0 - 1), a0_1⟩ : S55) [.int .i64 (wrap64 (a0_0 - 1)), .int .i64 a0_1] from (k55_mkM _ _ _ (⟨wrap64 (a0_0 - 1), a0_1⟩ : S55) )) (Reps.c2 (show Kd.M k55 _ _ _ (⟨wrap64 (a0_0 + 1), a0_1⟩ : S55) [.int .i64 (wrap64 (a0_0 + 1)), .int .i64 a0_1] from (k55_mkM _ _ _ (⟨wrap64 (a0_0 + 1), a0_1⟩ : S55) )) (Reps.c2 (show Kd.M k55 _ _ _ (⟨a0_0, wrap64 (a0_1 + 1)⟩ : S55) [.int .i64 a0_0, .int .i64 (wrap64 (a0_1 + 1))] from (k55_mkM _ _ _ (⟨a0_0, wrap64 (a0_1 + 1)⟩ : S55) )) (Reps.none _ _)))))); intro v314 w4 ho5 hb hg_ hnew_; clear hg_ hnew_; (first | rw [← Ny313.out] at ho5 | (simp only [Int.reduceToNat] at ho5; rw [← Ny313.out] at ho5)); have n0_ := Aside0.mk (Kd.R_lower (Kd.R_newB ho5 (g := gb312) (o := .cells #[.int .i64 a0_0, .int .i64 a0_1] 55 (0, 0)) (by (with_reducible repeat (first | refine blk_drewN ?_ _ | refine blk_drew ?_ | refine blk_alloc ?_ _)); exact BK312.out)) (below_size (by repeat (first | (with_reducible first | exact HB.out | apply below_alloc | apply pw_below_drewN | apply below_drew1 | refine below_set ?_ GE312.out) | exact HB.out)))); have n1_ := Aside0.mk (blk_below (g := gb312) (o := .cells #[.int .i64 a0_0, .int .i64 a0_1] 55 (0, 0)) (by (with_reducible repeat (first | refine blk_drewN ?_ _ | refine blk_drew ?_ | refine blk_alloc ?_ _)); exact BK312.out) hb); have n2_ := Aside0.mk (below_step (by repeat (first | (with_reducible first | exact HB.out | apply below_alloc | apply pw_below_drewN | apply below_drew1 | refine below_set ?_ GE312.out) | exact HB.out)) hb); clear BK312; clear HB; have HO315 := n0_; have BK312 := n1_; have HB := n2_; clear n0_ n1_ n2_; clear hb ho5))
 go_ret
 exact ⟨_, by first | rfl | (simp [*] <;> rfl), by (with_reducible repeat (first | apply Kd.R_alloc | apply Kd.R_drewN | apply Kd.R_drew)); exact Kd.R_mono HO315.out (fun _ hk => trivial), by repeat (first | (with_reducible first | exact HB.out | apply below_alloc | apply pw_below_drewN | apply below_drew1 | refine below_set ?_ GE312.out) | exact HB.out)⟩

/-! ### slices_Index_Cell: function 132 -/
def slices_Index_Cell.l0 : Nat → List (S55) → Int → Int → Int → Int → Option (Int)
 | 0, _, _, _, _, _ => none
 | k + 1, x0, x7, x8, x384000, x384001 => if x8 < x7 then (if 0 ≤ x8 then (if x8 < (x0.length : Int) then (if (x384000 == ((rd_T55 x0 x8).f0) && (x384001 == ((rd_T55 x0 x8).f1))) = true then (some x8) else (slices_Index_Cell.l0 k x0 x7 (wrap64 (x8 + 1)) x384000 x384001)) else (none)) else (none)) else (some (-1))
def slices_Index_Cell.f (k : Nat) (l0 : List (S55)) (a1_0 : Int) (a1_1 : Int) : Option (Int) := slices_Index_Cell.l0 k l0 (l0.length : Int) 0 a1_0 a1_1
theorem slices_Index_Cell.mono_l : ∀ k, (∀ y0 y1 y2 y3 y4, LeO (slices_Index_Cell.l0 k y0 y1 y2 y3 y4) (slices_Index_Cell.l0 (k + 1) y0 y1 y2 y3 y4))
 | 0 => fun _ _ _ _ _ r h => by simp [slices_Index_Cell.l0] at h
 | k + 1 => by
  have ih0 := slices_Index_Cell.mono_l k
  ·intro y0 y1 y2 y3 y4
   unfold slices_Index_Cell.l0
   repeat' first
   | (with_reducible exact ih0 _ _ _ _ _)
   | (with_reducible exact LeO.refl _)
   | (with_reducible exact LeO.none _)
   | (with_reducible refine LeO.ite ?_ ?_)
   | (with_reducible refine LeO.bind ?_ (fun _ => ?_))
   | exact ih0 _ _ _ _ _
   | exact LeO.none _
   | refine LeO.ite ?_ ?_
   | refine LeO.bind ?_ (fun _ => ?_)
theorem slices_Index_Cell.mono : ∀ a0 a1 a2 k, LeO (slices_Index_Cell.f k a0 a1 a2) (slices_Index_Cell.f (k + 1) a0 a1 a2) := by
 intro a0 a1 a2 k
 have ih0 := slices_Index_Cell.mono_l k
 unfold slices_Index_Cell.f
 repeat' first
   | (with_reducible exact ih0 _ _ _ _ _)
   | (with_reducible exact LeO.refl _)
   | (with_reducible exact LeO.none _)
   | (with_reducible refine LeO.ite ?_ ?_)
   | (with_reducible refine LeO.bind ?_ (fun _ => ?_))
   | exact ih0 _ _ _ _ _
   | exact LeO.none _
   | refine LeO.ite ?_ ?_
   | refine LeO.bind ?_ (fun _ => ?_)
set_option maxHeartbeats 8000000 in
set_option maxRecDepth 100000 in
theorem slices_Index_Cell.calls (k : Nat) (A0 : Option Addr) (c0 : Nat) (l0 : List (S55)) (a1_0 : Int) (a1_1 : Int) (r : Int) (w : World) (hr0 : Kd.C k55 w A0 l0.length l0) (hc0 : l0.length ≤ c0) (h : slices_Index_Cell.f k l0 a1_0 a1_1 = some r) :
  Calls Try.prog 132 #[.slice A0 l0.length c0, .agg #[.int .i64 a1_0, .int .i64 a1_1]] w fun e w' => e = .returned (.int .i64 r) ∧ Below w.heap.size w w' := by
 have hu55 := Try.underlying55
 have HR0 := Aside0.mk hr0
 have HC0 := Aside0.mk hc0
 clear hr0 hc0
 have HB := Aside0.mk (Below.refl w.heap.size w)
 have H : (slices_Index_Cell.l0 k l0 (l0.length : Int) 0 a1_0 a1_1) = some r := h
 clear h
 have H' := Aside0.mk H
 clear H
 go_enter Try.func132, Try.ntmps132
 go_wp2_with (first | ((with_reducible refine gate_dst (N := 3) rfl ?_); refine box_event ?hg (N := 3) ?hd (cs := #[.int .i64 a1_0, .int .i64 a1_1]) (t := 55) ?hr ?_; (case hd => rfl); (case hg => rfl); (case hr => first | (go_simp; done) | (go_simp; rfl)); intro gb383 hg w3 hbox hb; have n0_ := Aside0.mk (below_step (by repeat (with_reducible first | exact HB.out | apply below_alloc | apply pw_below_drewN | apply below_drew1)) hb); have n1_ := Aside0.mk (hbox); have n2_ := Aside0.mk ((by rw [hg]; exact (below_size (by repeat (with_reducible first | exact HB.out | apply below_alloc | apply pw_below_drewN | apply below_drew1))) : w.heap.size ≤ gb383)); have n3_ := Aside0.mk ((by rw [hg]; exact (below_size (by repeat (with_reducible first | exact HB.out | apply below_alloc | apply pw_below_drewN | apply below_drew1))) : w.heap.size ≤ gb383)); clear HB; have HB := n0_; have BK383 := n1_; have GW383 := n2_; have GE383 := n3_; clear n0_ n1_ n2_ n3_; clear hb hbox hg))
 repeat (go_quiet (first | ((with_reducible refine gate_dst (N := 3) rfl ?_); refine box_event ?hg (N := 3) ?hd (cs := #[.int .i64 a1_0, .int .i64 a1_1]) (t := 55) ?hr ?_; (case hd => rfl); (case hg => rfl); (case hr => first | (go_simp; done) | (go_simp; rfl)); intro gb383 hg w3 hbox hb; have n0_ := Aside0.mk (below_step (by repeat (with_reducible first | exact HB.out | apply below_alloc | apply pw_below_drewN | apply below_drew1)) hb); have n1_ := Aside0.mk (hbox); have n2_ := Aside0.mk ((by rw [hg]; exact (below_size (by repeat (with_reducible first | exact HB.out | apply below_alloc | apply pw_below_drewN | apply below_drew1))) : w.heap.size ≤ gb383)); have n3_ := Aside0.mk ((by rw [hg]; exact (below_size (by repeat (with_reducible first | exact HB.out | apply below_alloc | apply pw_below_drewN | apply below_drew1))) : w.heap.size ≤ gb383)); clear HB; have HB := n0_; have BK383 := n1_; have GW383 := n2_; have GE383 := n3_; clear n0_ n1_ n2_ n3_; clear hb hbox hg)); try go_wp2_with (first | ((with_reducible refine gate_dst (N := 3) rfl ?_); refine box_event ?hg (N := 3) ?hd (cs := #[.int .i64 a1_0, .int .i64 a1_1]) (t := 55) ?hr ?_; (case hd => rfl); (case hg => rfl); (case hr => first | (go_simp; done) | (go_simp; rfl)); intro gb383 hg w3 hbox hb; have n0_ := Aside0.mk (below_step (by repeat (with_reducible first | exact HB.out | apply below_alloc | apply pw_below_drewN | apply below_drew1)) hb); have n1_ := Aside0.mk (hbox); have n2_ := Aside0.mk ((by rw [hg]; exact (below_size (by repeat (with_reducible first | exact HB.out | apply below_alloc | apply pw_below_drewN | apply below_drew1))) : w.heap.size ≤ gb383)); have n3_ := Aside0.mk ((by rw [hg]; exact (below_size (by repeat (with_reducible first | exact HB.out | apply below_alloc | apply pw_below_drewN | apply below_drew1))) : w.heap.size ≤ gb383)); clear HB; have HB := n0_; have BK383 := n1_; have GW383 := n2_; have GE383 := n3_; clear n0_ n1_ n2_ n3_; clear hb hbox hg)))
 go_loopg [8] k (fun kq v8 w' => ∃ (x8_1 : Int), v8 = .int .i64 x8_1 ∧ Aside0 (slices_Index_Cell.l0 kq l0 (l0.length : Int) x8_1 a1_0 a1_1 = some r) ∧ Aside0 (kq ≤ k) ∧ Aside0 (w'.heap[gb383]? = some (.cells #[.int .i64 a1_0, .int .i64 a1_1] 55 (0, 0))) ∧ Aside0 (Below w.heap.size w w'))
 case atStart => exact ⟨(0), (by first | rfl | (simp; done) | (simp [*]; done)), H', ⟨Nat.le_refl _⟩, ⟨by (with_reducible repeat (first | refine blk_drewN ?_ _ | refine blk_drew ?_ | refine blk_alloc ?_ _)); exact BK383.out⟩, ⟨by repeat (first | (with_reducible first | exact HB.out | apply below_alloc | apply pw_below_drewN | apply below_drew1 | refine below_set ?_ GE383.out) | exact HB.out)⟩⟩
 case round =>
  clear H'
  try clear c1
  try clear p2
  obtain ⟨x8_1, rfl, HA, HK1, BK383, HB⟩ := hrel
  cases gk with
  | zero => exact absurd HA.out (by simp [slices_Index_Cell.l0])
  | succ k1 =>
   have H := HA.out
   clear HA
   simp only [slices_Index_Cell.l0] at H
   by_cases c4 : x8_1 < (l0.length : Int)
   ·rw [if_pos c4] at H
    have c4b0 : decide (x8_1 < (l0.length : Int)) = true := decide_eq_true c4
    clear c4
    by_cases c5 : 0 ≤ x8_1
    ·rw [if_pos c5] at H
     have c5b0 : decide (0 ≤ x8_1) = true := decide_eq_true c5
     clear c5
     by_cases c6 : x8_1 < (l0.length : Int)
     ·rw [if_pos c6] at H
      have c6b0 : decide (x8_1 < (l0.length : Int)) = true := decide_eq_true c6
      clear c6
      by_cases c7 : (a1_0 == ((rd_T55 l0 x8_1).f0) && (a1_1 == ((rd_T55 l0 x8_1).f1))) = true
      ·rw [if_pos c7] at H
       have c7b0 : (a1_0 == ((rd_T55 l0 x8_1).f0) && (a1_1 == ((rd_T55 l0 x8_1).f1))) = true := c7
       (try (have c7b1 : decide (a1_0 = ((rd_T55 l0 x8_1).f0) && (a1_1 == ((rd_T55 l0 x8_1).f1))) = true := by simpa using c7))
       (try (have c7b2 : (a1_0 == ((rd_T55 l0 x8_1).f0) && (a1_1 == ((rd_T55 l0 x8_1).f1))) = true := by simpa using c7))
       clear c7
       obtain rfl := Option.some.inj H
       have hcz8_0 : wr.cell? ⟨gb383, 0, none⟩ = some (.int .i64 a1_0) := (blk_cell BK383.out 0).trans rfl
       have hcz8_1 : wr.cell? ⟨gb383, 1, none⟩ = some (.int .i64 a1_1) := (blk_cell BK383.out 1).trans rfl
       have hfz8_0 := blk_frozen BK383.out 0
       have hfz8_1 := blk_frozen BK383.out 1
       have p384 : 0 ≤ (x8_1 : Int) := of_decide_eq_true (by first | (with_reducible assumption) | assumption)
       have q384 : x8_1 < (l0.length : Int) := of_decide_eq_true (by first | (with_reducible assumption) | assumption)
       obtain ⟨ad384, e384, hx384_0, hx384_1⟩ := at_T55 HR0.out x8_1 p384 q384
       cases e384
       replace hx384_0 := (HB.out.cell (World.block_lt_of_cell? w _ hx384_0)).trans hx384_0
       replace hx384_1 := (HB.out.cell (World.block_lt_of_cell? w _ hx384_1)).trans hx384_1
       replace p384 := eq_true p384
       replace q384 := eq_true q384
       go_wp2
       repeat (go_quiet (fail); try go_wp2)
       go_ret
       exact ⟨by first | rfl | (simp [*] <;> rfl), by repeat (first | (with_reducible first | exact HB.out | apply below_alloc | apply pw_below_drewN | apply below_drew1 | refine below_set ?_ GE383.out) | exact HB.out)⟩
      ·rw [if_neg c7] at H
       have c7b0 : (a1_0 == ((rd_T55 l0 x8_1).f0) && (a1_1 == ((rd_T55 l0 x8_1).f1))) = false := by simpa using c7
       (try (have c7b1 : decide (a1_0 = ((rd_T55 l0 x8_1).f0) && (a1_1 == ((rd_T55 l0 x8_1).f1))) = false := by simpa using c7))
       (try (have c7b2 : (a1_0 == ((rd_T55 l0 x8_1).f0) && (a1_1 == ((rd_T55 l0 x8_1).f1))) = false := by simpa using c7))
       (try (have c7b3 : ¬ (a1_0 = ((rd_T55 l0 x8_1).f0) && (a1_1 == ((rd_T55 l0 x8_1).f1))) := by simpa using c7))
       clear c7
       have H' := Aside0.mk H
       clear H
       have hcz9_0 : wr.cell? ⟨gb383, 0, none⟩ = some (.int .i64 a1_0) := (blk_cell BK383.out 0).trans rfl
       have hcz9_1 : wr.cell? ⟨gb383, 1, none⟩ = some (.int .i64 a1_1) := (blk_cell BK383.out 1).trans rfl
       have hfz9_0 := blk_frozen BK383.out 0
       have hfz9_1 := blk_frozen BK383.out 1
       have p384 : 0 ≤ (x8_1 : Int) := of_decide_eq_true (by first | (with_reducible assumption) | assumption)
       have q384 : x8_1 < (l0.length : Int) := of_decide_eq_true (by first | (with_reducible assumption) | assumption)
       obtain ⟨ad384, e384, hx384_0, hx384_1⟩ := at_T55 HR0.out x8_1 p384 q384
       cases e384
       replace hx384_0 := (HB.out.cell (World.block_lt_of_cell? w _ hx384_0)).trans hx384_0
       replace hx384_1 := (HB.out.cell (World.block_lt_of_cell? w _ hx384_1)).trans hx384_1
       replace p384 := eq_true p384
       replace q384 := eq_true q384
       go_wp2
       repeat (go_quiet (fail); try go_wp2)
       go_roundg k1
       case measure => have := HK1.out; omega
       case rel => exact ⟨(wrap64 (x8_1 + 1)), (by first | rfl | (simp; done) | (simp [*]; done)), H', ⟨by have := HK1.out; omega⟩, ⟨by (with_reducible repeat (first | refine blk_drewN ?_ _ | refine blk_drew ?_ | refine blk_alloc ?_ _)); exact BK383.out⟩, ⟨by repeat (first | (with_reducible first | exact HB.out | apply below_alloc | apply pw_below_drewN | apply below_drew1 | refine below_set ?_ GE383.out) | exact HB.out)⟩⟩
     ·rw [if_neg c6] at H
      exact absurd H (by simp)
    ·rw [if_neg c5] at H
     exact absurd H (by simp)
   ·rw [if_neg c4] at H
    have c4b0 : decide (x8_1 < (l0.length : Int)) = false := decide_eq_false c4
    clear c4
    obtain rfl := Option.some.inj H
    go_wp2
    repeat (go_quiet (fail); try go_wp2)
    go_ret
    exact ⟨by first | rfl | (simp [*] <;> rfl), by repeat (first | (with_reducible first | exact HB.out | apply below_alloc | apply pw_below_drewN | apply below_drew1 | refine below_set ?_ GE383.out) | exact HB.out)⟩

/-! ### slices_Contains_Cell: function 114 -/
def slices_Contains_Cell.f (k : Nat) (l0 : List (S55)) (a1_0 : Int) (a1_1 : Int) : Option (Bool) := (slices_Index_Cell.f k l0 a1_0 a1_1).bind fun t386 => (some (decide (t386 ≥ 0)))
theorem slices_Contains_Cell.mono : ∀ a0 a1 a2 k, LeO (slices_Contains_Cell.f k a0 a1 a2) (slices_Contains_Cell.f (k + 1) a0 a1 a2) := by
 intro a0 a1 a2 k
 unfold slices_Contains_Cell.f
 repeat' first
   | (with_reducible exact slices_Index_Cell.mono _ _ _ _)
   | (with_reducible exact LeO.refl _)
   | (with_reducible exact LeO.none _)
   | (with_reducible refine LeO.ite ?_ ?_)
   | (with_reducible refine LeO.bind ?_ (fun _ => ?_))
   | exact slices_Index_Cell.mono _ _ _ _
   | exact LeO.none _
   | refine LeO.ite ?_ ?_
   | refine LeO.bind ?_ (fun _ => ?_)
set_option maxHeartbeats 8000000 in
set_option maxRecDepth 100000 in
theorem slices_Contains_Cell.calls (k : Nat) (A0 : Option Addr) (c0 : Nat) (l0 : List (S55)) (a1_0 : Int) (a1_1 : Int) (r : Bool) (w : World) (hr0 : Kd.C k55 w A0 l0.length l0) (hc0 : l0.length ≤ c0) (h : slices_Contains_Cell.f k l0 a1_0 a1_1 = some r) :
  Calls Try.prog 114 #[.slice A0 l0.length c0, .agg #[.int .i64 a1_0, .int .i64 a1_1]] w fun e w' => e = .returned (.bool r) ∧ Below w.heap.size w w' := by
 have hu55 := Try.underlying55
 have HR0 := Aside0.mk hr0
 have HC0 := Aside0.mk hc0
 clear hr0 hc0
 have HB := Aside0.mk (Below.refl w.heap.size w)
 have H : ((slices_Index_Cell.f k l0 a1_0 a1_1).bind fun t386 => (some (decide (t386 ≥ 0)))) = some r := h
 clear h
 replace H := Option.bind_eq_some_iff.mp H
 obtain ⟨t386, A30, H⟩ := H
 replace H : (some (decide (t386 ≥ 0))) = some r := H
 have A3 := Aside0.mk A30
 clear A30
 obtain rfl := Option.some.inj H
 go_enter Try.func114, Try.ntmps114
 go_wp2_with (first | ((with_reducible refine gate_dst (N := 3) rfl ?_); refine box_event ?hg (N := 3) ?hd (cs := #[.int .i64 a1_0, .int .i64 a1_1]) (t := 55) ?hr ?_; (case hd => rfl); (case hg => rfl); (case hr => first | (go_simp; done) | (go_simp; rfl)); intro gb385 hg w4 hbox hb; have n0_ := Aside0.mk (below_step (by repeat (with_reducible first | exact HB.out | apply below_alloc | apply pw_below_drewN | apply below_drew1)) hb); have n1_ := Aside0.mk (hbox); have n2_ := Aside0.mk ((by rw [hg]; exact (below_size (by repeat (with_reducible first | exact HB.out | apply below_alloc | apply pw_below_drewN | apply below_drew1))) : w.heap.size ≤ gb385)); have n3_ := Aside0.mk ((by rw [hg]; exact (below_size (by repeat (with_reducible first | exact HB.out | apply below_alloc | apply pw_below_drewN | apply below_drew1))) : w.heap.size ≤ gb385)); clear HB; have HB := n0_; have BK385 := n1_; have GW385 := n2_; have GE385 := n3_; clear n0_ n1_ n2_ n3_; clear hb hbox hg; have hcz5_0 : w4.cell? ⟨gb385, 0, none⟩ = some (.int .i64 a1_0) := (blk_cell BK385.out 0).trans rfl; have hcz5_1 : w4.cell? ⟨gb385, 1, none⟩ = some (.int .i64 a1_1) := (blk_cell BK385.out 1).trans rfl; have hfz5_0 := blk_frozen BK385.out 0; have hfz5_1 := blk_frozen BK385.out 1) | ((with_reducible refine gate_callee (f := 132) rfl ?_); refine goesL_ (some 7) rfl rfl Try.func132 (by kernel_rfl) rfl #[.slice A0 l0.length c0, .agg #[.int .i64 a1_0, .int .i64 a1_1]] rfl (by (try simp only [List.map_toArray, List.map_cons, List.map_nil]); first | done | rfl) ?_; (with_reducible refine (slices_Index_Cell.calls k _ _ l0 a1_0 a1_1 t386 _ ?side1 ?side2 A3.out).mono ?_); (case side1 => repeat (first | exact (Kd.C_below HR0.out HB.out) | (with_reducible refine Kd.C_alloc ?_ _) | (with_reducible refine Kd.C_drewN ?_ _) | (with_reducible refine Kd.C_drew ?_))); (case side2 => exact HC0.out); rintro e w6 ⟨rfl, hb⟩; refine ⟨_, rfl, ?_⟩; have n0_ := Aside0.mk (blk_below (g := gb385) (o := .cells #[.int .i64 a1_0, .int .i64 a1_1] 55 (0, 0)) (by (with_reducible repeat (first | refine blk_drewN ?_ _ | refine blk_drew ?_ | refine blk_alloc ?_ _)); exact BK385.out) hb); have n1_ := Aside0.mk (below_step (by repeat (first | (with_reducible first | exact HB.out | apply below_alloc | apply pw_below_drewN | apply below_drew1 | refine below_set ?_ GE385.out) | exact HB.out)) hb); clear BK385; clear HB; have BK385 := n0_; have HB := n1_; clear n0_ n1_; (try clear hb)))
 go_ret
 exact ⟨by first | rfl | (simp [*] <;> rfl), by repeat (first | (with_reducible first | exact HB.out | apply below_alloc | apply pw_below_drewN | apply below_drew1 | refine below_set ?_ GE385.out) | exact HB.out)⟩

/-! ### slices_Compact_Cell: function 116, by hand -/
-- IMPORT Derived.Lib.SliceRun
section
attribute [local go_sem high] eqA55
def sameC_ (a b : S55) : Bool := a.f0 == b.f0 && (a.f1 == b.f1)
/-- the first n cells without those that come again one behind the other -/
def ddN_ (l : List S55) : Nat → List S55
 | 0 => []
 | i + 1 => if i ≠ 0 ∧ sameC_ (rd_T55 l (i : Nat)) (rd_T55 l ((i - 1 : Nat) : Int)) = true then ddN_ l i else ddN_ l i ++ [rd_T55 l (i : Nat)]
def slices_Compact_Cell.f (l0 : List S55) : Option (List S55) := some (ddN_ l0 l0.length)
/-- the row's block in a world: what the first cells are -/
structure RowAt_ (w : World) (g cap n : Nat) (m : List S55) (wr : World) : Prop where
 blk : ∃ cur, wr.heap[g]? = some (.cells cur 55 (0, 0)) ∧ cur.size = cap * 2 ∧ cur.toList.take (n * 2) = flatC_ m
 len : m.length = n
 grown : w.grownBy wr (some g)
theorem RowAt_.cell {w wr : World} {g cap n : Nat} {m : List S55} (h : RowAt_ w g cap n m wr) (p : Nat) (hp : p < n) (x : S55) (hx : m[p]? = some x) :
  wr.cell? ⟨g, p * 2, none⟩ = some (.int .i64 x.f0) ∧ wr.cell? ⟨g, p * 2 + 1, none⟩ = some (.int .i64 x.f1) ∧ wr.frozen? ⟨g, p * 2, none⟩ = false ∧ wr.frozen? ⟨g, p * 2 + 1, none⟩ = false := by
 obtain ⟨cur, hb, hs, ht⟩ := h.blk
 obtain ⟨g0, g1⟩ := flatC_get m p x hx
 rw [← ht, List.getElem?_take, if_pos (by omega), Array.getElem?_toList] at g0 g1
 refine ⟨(blk_cell hb _).trans ?_, (blk_cell hb _).trans ?_, blk_frozen hb _, blk_frozen hb _⟩
 ·rw [show p * 2 = 2 * p by omega]; exact g0
 ·rw [show p * 2 + 1 = 2 * p + 1 by omega]; exact g1
theorem RowAt_.drew {w wr : World} {g cap n : Nat} {m : List S55} (h : RowAt_ w g cap n m wr) (k : Nat) : RowAt_ w g cap n m (wr.drewN k) :=
 ⟨h.blk, h.len, ⟨h.grown.os, h.grown.tape, h.grown.output, h.grown.size, h.grown.block⟩⟩
theorem flatC_set : ∀ (m : List S55) (p : Nat) (x : S55), flatC_ (m.set p x) = ((flatC_ m).set (p * 2) (.int .i64 x.f0)).set (p * 2 + 1) (.int .i64 x.f1) := by
 intro m
 induction m with
 | nil => intro p x; rfl
 | cons c r ih =>
  intro p x
  cases p with
  | zero => rfl
  | succ p =>
   show encC_ c ++ flatC_ (r.set p x) = _
   rw [ih p x]
   show _ = ((encC_ c ++ flatC_ r).set ((p + 1) * 2) _).set ((p + 1) * 2 + 1) _
   rw [show (p + 1) * 2 = p * 2 + 2 from by omega]
   rfl
theorem RowAt_.set {w wr : World} {g cap n : Nat} {m : List S55} (h : RowAt_ w g cap n m wr) (hn : n ≤ cap) (p : Nat) (hp : p < n) (x : S55) :
  RowAt_ w g cap n (m.set p x) ((wr.setCell ⟨g, p * 2, none⟩ (.int .i64 x.f0)).setCell ⟨g, p * 2 + 1, none⟩ (.int .i64 x.f1)) := by
 obtain ⟨cur, hb, hs, ht⟩ := h.blk
 refine ⟨⟨_, blk_set (blk_set hb _ _) _ _, by simp [hs], ?_⟩, by rw [List.length_set]; exact h.len, ?_⟩
 ·rw [flatC_set, ← ht]
  simp only [Array.toList_setIfInBounds, List.take_set]
 ·refine ⟨h.grown.os, h.grown.tape, h.grown.output, ?_, fun k hk hne => ?_⟩
  ·have := h.grown.size; simpa [World.setCell] using this
  ·have hkg : k ≠ g := fun e => hne (by rw [e])
   rw [Below.heap_setCell _ _ _ k hkg, Below.heap_setCell _ _ _ k hkg]; exact h.grown.block k hk hne
theorem setCells_blk {e : TypeId} (g : Nat) : ∀ (vs : List Value) (o : Nat) (wr : World) (cur : Array Value), wr.heap[g]? = some (.cells cur e (0, 0)) → ∃ cur', (wr.setCells g o vs).heap[g]? = some (.cells cur' e (0, 0)) ∧ cur'.size = cur.size ∧ (∀ j, j < o → cur'[j]? = cur[j]?) ∧ (∀ k, k ≠ g → (wr.setCells g o vs).heap[k]? = wr.heap[k]?) ∧ (wr.setCells g o vs).heap.size = wr.heap.size ∧ (wr.setCells g o vs).os = wr.os ∧ (wr.setCells g o vs).tape = wr.tape ∧ (wr.setCells g o vs).output = wr.output := by
 intro vs
 induction vs with
 | nil => intro o wr cur h; exact ⟨cur, h, rfl, fun _ _ => rfl, fun _ _ => rfl, rfl, rfl, rfl, rfl⟩
 | cons v r ih =>
  intro o wr cur h
  obtain ⟨c', h1, h2, h3, h4, h5, h6, h7, h8⟩ := ih (o + 1) (wr.setCell ⟨g, o, none⟩ v) _ (blk_set h o v)
  refine ⟨c', h1, by rw [h2]; simp, fun j hj => ?_, fun k hk => ?_, ?_, h6, h7, h8⟩
  ·rw [h3 j (by omega), Array.getElem?_setIfInBounds_ne (by omega)]
  ·exact (h4 k hk).trans (Below.heap_setCell _ _ _ k hk)
  ·refine h5.trans ?_; simp [World.setCell]
theorem ddN_length (l : List S55) : ∀ i, (ddN_ l i).length ≤ i := by
 intro i
 induction i with
 | zero => exact Nat.le_refl _
 | succ i ih =>
  unfold ddN_
  split
  ·omega
  ·rw [List.length_append]; simp; omega
theorem zeroCells_cell (n : Nat) : (Builtin.zeroCells (Value.agg #[.int .i64 0, .int .i64 0]).cells n).toList = List.replicate (n * 2) (.int .i64 0) := by
 apply List.ext_getElem
 ·simp [Builtin.zeroCells, Value.cells]
 ·intro i h1 h2
  simp [Builtin.zeroCells, Value.cells]
  have : i % 2 = 0 ∨ i % 2 = 1 := by omega
  rcases this with h | h <;> simp [h]
theorem clear_cells (w : World) (ty : TypeId) (b o n c : Nat) (hn : 0 < n) (hc : ∀ j, j < n * 2 → (w.cell? ⟨b, o + j, none⟩).isSome = true) (hf : ∀ j, j < n * 2 → w.frozen? ⟨b, o + j, none⟩ = false) :
  (Builtin.clear_ #[27] ty #[.slice (some ⟨b, o, none⟩) n c]).run Try.prog w = .ok (.tuple #[]) (w.setCells b o (List.replicate (n * 2) (.int .i64 0))) := by
 have hst := run_storeCells_cells (P := Try.prog) b o (List.replicate (n * 2) (.int .i64 0)) 0 w (by simpa using hc) (by simpa using hf) (by intro v hv'; rw [List.eq_of_mem_replicate hv']; rfl)
 simp only [Nat.add_zero] at hst
 obtain ⟨m, rfl⟩ : ∃ m, n = m + 1 := ⟨n - 1, by omega⟩
 have hz := zeroCells_cell (m + 1)
 simp [Builtin.clear_, run_underlying Try.underlying27, Try.zeroValue55, hz, hst]
theorem w64_ {x : Int} (h1 : -9223372036854775808 ≤ x) (h2 : x ≤ 9223372036854775807) : wrap64 x = x := by unfold wrap64; omega
theorem flatC_take : ∀ (m : List S55) (k : Nat), flatC_ (m.take k) = (flatC_ m).take (k * 2) := by
 intro m
 induction m with
 | nil => intro k; simp [flatC_]
 | cons c r ih =>
  intro k
  cases k with
  | zero => rfl
  | succ k =>
   rw [List.take_succ_cons]
   show encC_ c ++ flatC_ (r.take k) = (encC_ c ++ flatC_ r).take ((k + 1) * 2)
   rw [ih k, show (k + 1) * 2 = k * 2 + 2 by omega]; rfl
theorem rdC_get (l : List S55) (p : Nat) (hp : p < l.length) : l[p]? = some (rd_T55 l (p : Nat)) := by
 unfold rd_T55; rw [List.getD_eq_getElem?_getD, Int.toNat_natCast, List.getElem?_eq_getElem hp]; rfl
set_option maxHeartbeats 4000000 in
set_option maxRecDepth 100000 in
theorem compact_walk (g cap : Nat) (l : List S55) (w : World) (h2 : 2 ≤ l.length) (hn : l.length ≤ cap) (hmax : cap ≤ maxLen) (h : RowAt_ w g cap l.length l w) :
  Calls Try.prog 116 #[.slice (some ⟨g, 0, none⟩) l.length cap] w fun e w' => e = .returned (.slice (some ⟨g, 0, none⟩) (ddN_ l l.length).length cap) ∧ RowAt_ w g cap (ddN_ l l.length).length (ddN_ l l.length) w' := by
 have hu1 := Try.underlying27
 simp only [maxLen] at hmax
 have HN := Aside0.mk hn
 have HR := Aside0.mk h
 clear h
 go_enter Try.func116, Try.ntmps116
 have z1 : decide ((l.length : Int) < 2) = false := decide_eq_false (by omega)
 have z2 : decide (l.length < 2) = false := decide_eq_false (by omega)
 go_wp2_with fail
 go_loopg [3] l.length (fun gk v3 wr => ∃ (kx : Int) (q : Nat), v3 = .int .i64 kx ∧ wr = w.drewN q ∧ Aside0 (1 ≤ kx ∧ kx ≤ l.length ∧ gk + kx = l.length + 1) ∧ Aside0 (ddN_ l kx.toNat = l.take kx.toNat))
 case atStart => exact ⟨1, 0, rfl, rfl, ⟨by omega⟩, ⟨by
  cases l with
  | nil => simp at h2
  | cons c r => rfl⟩⟩
 case round =>
  obtain ⟨kx, q, rfl, rfl, HK, HD⟩ := hrel
  cases gk with
  | zero => exact absurd HK.out (by omega)
  | succ gk2 =>
   by_cases hlt : kx < (l.length : Int)
   ·have hk1 := HK.out.1
    obtain ⟨x0, x1, _, _⟩ := HR.out.cell kx.toNat (by omega) _ (rdC_get l kx.toNat (by omega))
    obtain ⟨y0, y1, _, _⟩ := HR.out.cell (kx.toNat - 1) (by omega) _ (rdC_get l (kx.toNat - 1) (by omega))
    have hdd : ddN_ l (kx.toNat + 1) = if sameC_ (rd_T55 l (kx.toNat : Nat)) (rd_T55 l ((kx.toNat - 1) : Nat)) = true then ddN_ l kx.toNat else ddN_ l kx.toNat ++ [rd_T55 l (kx.toNat : Nat)] := by
     show (if kx.toNat ≠ 0 ∧ sameC_ (rd_T55 l (kx.toNat : Nat)) (rd_T55 l ((kx.toNat - 1 : Nat) : Int)) = true then _ else _) = _
     simp only [show kx.toNat ≠ 0 by omega, true_and, ne_eq, not_false_eq_true]
    have HDD := Aside0.mk hdd
    clear hdd
    have HX := Aside0.mk (rdC_get l kx.toNat (by omega))
    generalize rd_T55 l (kx.toNat : Nat) = x at *
    generalize rd_T55 l ((kx.toNat - 1) : Nat) = y at *
    have c1 : decide (kx < (l.length : Int)) = true := decide_eq_true hlt
    have p0 : 0 ≤ kx := by omega
    have p1 : 0 ≤ kx - 1 := by omega
    have q1 : kx - 1 < (l.length : Int) := by omega
    clear hk1
    by_cases hs : sameC_ x y = true
    ·have hs' : (x.f0 == y.f0 && (x.f1 == y.f1)) = true := hs
     have HS := Aside0.mk hs
     clear hs
     go_wp2_with fail
     go_region
     go_wp2_with fail
     have hK1 : 1 ≤ kx.toNat := by omega
     have hKn : kx.toNat < l.length := by omega
     have hgk : kx = (kx.toNat : Int) := by omega
     have hD := HD.out
     have hDD := HDD.out
     rw [if_pos HS.out] at hDD
     clear x0 x1 y0 y1 HX HDD HD HS hs' c1 p0 p1 q1 hlt HK
     generalize kx.toNat = K at *
     subst hgk
     obtain ⟨L2, hL2⟩ : ∃ L2, L2 = l.length - K := ⟨_, rfl⟩
     obtain ⟨C2, hC2⟩ : ∃ C2, C2 = cap - K := ⟨_, rfl⟩
     rw [← hL2, ← hC2]
     have hL2m : L2 ≤ 9223372036854775807 := by omega
     have HL2 := Aside0.mk hL2
     have HC2 := Aside0.mk hC2
     have HKK := Aside0.mk (⟨hK1, hKn⟩ : 1 ≤ K ∧ K < l.length)
     have HD0 := Aside0.mk (⟨hD, hDD⟩ : ddN_ l K = l.take K ∧ ddN_ l (K + 1) = ddN_ l K)
     clear hL2 hC2 hK1 hKn hD hDD
     go_loopg [3, 5] l.length (fun gk v3 v5 wr => ∃ (kv k2 : Int) (m : List S55), v3 = .int .i64 kv ∧ v5 = .int .i64 k2 ∧ Aside0 (1 ≤ k2 ∧ k2 ≤ L2 ∧ gk + (K + k2) = l.length + K + 1) ∧ Aside0 (RowAt_ w g cap l.length m wr) ∧ Aside0 (kv = (ddN_ l (K + k2.toNat)).length) ∧ Aside0 (m.take kv.toNat = ddN_ l (K + k2.toNat)) ∧ Aside0 (∀ p, K + k2.toNat ≤ p + 1 → m[p]? = l[p]?) ∧ Aside0 (kv < K + k2))
     case atStart =>
      have e : (ddN_ l (K + (1 : Int).toNat)) = l.take K := by rw [show (1 : Int).toNat = 1 from rfl, HD0.out.2, HD0.out.1]
      have el : (l.take K).length = K := by rw [List.length_take]; have := HKK.out; omega
      exact ⟨K, 1, l, rfl, rfl, ⟨by have := HKK.out; have := HL2.out; omega⟩, ⟨HR.out.drew _⟩, ⟨by rw [e, el]⟩, ⟨by rw [e]; rfl⟩, ⟨fun p _ => rfl⟩, ⟨by omega⟩⟩
     case round =>
      clear HD0
      obtain ⟨kv, k2, m, rfl, rfl, HB2, HRW, HV, HT, HH, HVK⟩ := hrel
      cases gk with
      | zero => exact absurd HB2.out (by have := HKK.out; have := HL2.out; omega)
      | succ gk3 =>
       by_cases hlt2 : k2 < (L2 : Int)
       ·have hb := HB2.out
        have hkk := HKK.out
        have hl2 := HL2.out
        have hvk := HVK.out
        have hi : K + k2.toNat < l.length := by omega
        have hm : ∀ p, K + k2.toNat ≤ p + 1 → p < l.length → m[p]? = some (rd_T55 l (p : Nat)) := fun p h1 h2 => by rw [HH.out p h1]; exact rdC_get l p h2
        obtain ⟨x0, x1, _, _⟩ := HRW.out.cell (K + k2.toNat) hi _ (hm _ (by omega) hi)
        obtain ⟨y0, y1, _, _⟩ := HRW.out.cell (K + (k2.toNat - 1)) (by omega) _ (hm _ (by omega) (by omega))
        have hml := HRW.out.len
        have hv0 : 0 ≤ kv := by rw [HV.out]; omega
        obtain ⟨_, _, s0, s1⟩ := HRW.out.cell kv.toNat (by omega) _ (rdC_get m kv.toNat (by omega))
        have hc0 := HRW.out.cell kv.toNat (by omega) _ (rdC_get m kv.toNat (by omega))
        obtain ⟨o0, o1, _, _⟩ := hc0
        have hdd : ddN_ l (K + k2.toNat + 1) = if sameC_ (rd_T55 l ((K + k2.toNat : Nat) : Int)) (rd_T55 l ((K + (k2.toNat - 1) : Nat) : Int)) = true then ddN_ l (K + k2.toNat) else ddN_ l (K + k2.toNat) ++ [rd_T55 l ((K + k2.toNat : Nat) : Int)] := by
         show (if K + k2.toNat ≠ 0 ∧ sameC_ (rd_T55 l ((K + k2.toNat : Nat) : Int)) (rd_T55 l ((K + k2.toNat - 1 : Nat) : Int)) = true then _ else _) = _
         rw [show K + k2.toNat - 1 = K + (k2.toNat - 1) by omega]
         simp only [show K + k2.toNat ≠ 0 by omega, true_and, ne_eq, not_false_eq_true]
        have HDD := Aside0.mk hdd
        clear hdd
        have HX := Aside0.mk (hm _ (by omega) hi)
        generalize rd_T55 l ((K + k2.toNat : Nat) : Int) = x at *
        generalize rd_T55 l ((K + (k2.toNat - 1) : Nat) : Int) = y at *
        generalize rd_T55 m ((kv.toNat : Nat) : Int) = old at *
        rw [show (K + k2.toNat) * 2 = K * 2 + k2.toNat * 2 by omega] at x0 x1
        rw [show (K + (k2.toNat - 1)) * 2 = K * 2 + (k2.toNat - 1) * 2 by omega] at y0 y1
        have c1 : decide (k2 < (L2 : Int)) = true := decide_eq_true hlt2
        have p0 : 0 ≤ k2 := by omega
        have p1 : 0 ≤ k2 - 1 := by omega
        have q1 : k2 - 1 < (L2 : Int) := by omega
        have pv : 0 ≤ kv := hv0
        have qv : kv < (l.length : Int) := by omega
        have HI := Aside0.mk hi
        clear hm hi hl2 hkk hb hvk hml hv0
        by_cases hs : sameC_ x y = true
        ·have hs' : (x.f0 == y.f0 && (x.f1 == y.f1)) = true := hs
         have HS := Aside0.mk hs
         clear hs
         have hsn : (!(x.f0 == y.f0 && (x.f1 == y.f1))) = false := by rw [hs']; rfl
         go_wp2_with fail
         go_region
         go_wp2_with fail
         go_roundg gk3
         case measure => omega
         case rel =>
          have hdd := HDD.out
          rw [if_pos HS.out] at hdd
          have ek : K + (k2 + 1).toNat = K + k2.toNat + 1 := by omega
          exact ⟨kv, k2 + 1, m, rfl, rfl, ⟨by have := HB2.out; omega⟩, ⟨HRW.out.drew 1⟩, ⟨by rw [ek, hdd]; exact HV.out⟩, ⟨by rw [ek, hdd]; exact HT.out⟩, ⟨fun p hp => HH.out p (by omega)⟩, ⟨by have := HVK.out; omega⟩⟩
        ·replace hs : (x.f0 == y.f0 && (x.f1 == y.f1)) = false := Bool.eq_false_iff.mpr hs
         have HS := Aside0.mk hs
         have hsn : (!(x.f0 == y.f0 && (x.f1 == y.f1))) = true := by rw [hs]; rfl
         go_wp2_with fail
         go_region
         go_wp2_with fail
         go_roundg gk3
         case measure => omega
         case rel =>
          have hdd := HDD.out
          rw [if_neg (by unfold sameC_; rw [HS.out]; simp)] at hdd
          have ek : K + (k2 + 1).toNat = K + k2.toNat + 1 := by omega
          have ev : (kv + 1).toNat = kv.toNat + 1 := by omega
          have hml := HRW.out.len
          refine ⟨kv + 1, k2 + 1, m.set kv.toNat x, rfl, rfl, ⟨by have := HB2.out; omega⟩, ⟨(HRW.out.drew 1).set HN.out kv.toNat (by omega) x⟩, ⟨?_⟩, ⟨?_⟩, ⟨fun p hp => ?_⟩, ⟨by have := HVK.out; omega⟩⟩
          ·rw [ek, hdd, List.length_append]; have := HV.out; simp; omega
          ·rw [ek, hdd, ev, List.take_add_one, List.take_set_of_le (Nat.le_refl _), HT.out, List.getElem?_set_self (by omega)]; rfl
          ·have := HVK.out
           rw [List.getElem?_set_ne (by omega)]; exact HH.out p (by omega)
       ·have hb := HB2.out
        have hkk := HKK.out
        have hl2 := HL2.out
        have hvk := HVK.out
        have hv0 : 0 ≤ kv := by rw [HV.out]; omega
        have hek : K + k2.toNat = l.length := by omega
        have hvn : kv.toNat < l.length := by omega
        obtain ⟨cur, hcb, hcs, hct⟩ := HRW.out.blk
        have hcl : ∀ ty, (Builtin.clear_ #[27] ty #[.slice (some ⟨g, kv.toNat * 2, none⟩) (l.length - kv.toNat) (cap - kv.toNat)]).run Try.prog wr = .ok (.tuple #[]) (wr.setCells g (kv.toNat * 2) (List.replicate ((l.length - kv.toNat) * 2) (.int .i64 0))) := by
         intro ty
         refine clear_cells wr ty g _ _ _ (by omega) (fun j hj => ?_) (fun j hj => blk_frozen hcb _)
         rw [blk_cell hcb, Array.getElem?_eq_getElem (by have := HN.out; omega)]; rfl
        have c1 : decide (k2 < (L2 : Int)) = false := decide_eq_false hlt2
        have pv : 0 ≤ kv := hv0
        have qv : kv ≤ (l.length : Int) := by omega
        have HVN := Aside0.mk hvn
        have HEK := Aside0.mk hek
        have HCB := Aside0.mk hcb
        have HCS := Aside0.mk hcs
        have HCT := Aside0.mk hct
        clear hvn hek hcb hcs hct hv0 hvk hl2 hkk hb
        go_wp2_with fail
        ·exact absurd HVN.out (by have := HN.out; omega)
        go_ret
        obtain ⟨cur', d1, d2, d3, d4, d5, d6, d7, d8⟩ := setCells_blk g (List.replicate ((l.length - kv.toNat) * 2) (.int .i64 0)) (kv.toNat * 2) wr cur HCB.out
        have hG := HRW.out.grown
        have hVt := HV.out
        have hTt := HT.out
        have hml := HRW.out.len
        rw [HEK.out] at hVt hTt
        have hvt : kv.toNat = (ddN_ l l.length).length := by omega
        have hnc := HN.out
        have hvn := HVN.out
        have hcs := HCS.out
        have hct := HCT.out
        refine ⟨congrArg (fun n => Ending.returned (Value.slice (some ⟨g, 0, none⟩) n cap)) hvt, ⟨⟨cur', d1, by rw [d2]; exact hcs, ?_⟩, rfl, ⟨by rw [d6]; exact hG.os, by rw [d7]; exact hG.tape, by rw [d8]; exact hG.output, by rw [d5]; exact hG.size, fun k hk hne => (d4 k (fun e => hne (by rw [e]))).trans (hG.block k hk hne)⟩⟩⟩
        rw [← hTt, flatC_take, ← hct, List.take_take, hTt, ← hvt, Nat.min_eq_left (by omega)]
        apply List.ext_getElem?
        intro j
        rw [List.getElem?_take, List.getElem?_take]
        by_cases hj : j < kv.toNat * 2
        ·rw [if_pos hj, if_pos hj, Array.getElem?_toList, Array.getElem?_toList]; exact d3 j hj
        ·rw [if_neg hj, if_neg hj]
    ·replace hs : (x.f0 == y.f0 && (x.f1 == y.f1)) = false := Bool.eq_false_iff.mpr hs
     have HS := Aside0.mk hs
     go_wp2_with fail
     go_region
     go_wp2_with fail
     go_roundg gk2
     case measure => omega
     case rel =>
      refine ⟨kx + 1, q + 1, rfl, rfl, ⟨by have := HK.out; omega⟩, ⟨?_⟩⟩
      have hDD := HDD.out
      rw [if_neg (by unfold sameC_; rw [HS.out]; simp), HD.out] at hDD
      rw [show (kx + 1).toNat = kx.toNat + 1 by omega, hDD, List.take_add_one, HX.out]; rfl
   ·have hk : kx = l.length := by have := HK.out; omega
    subst hk
    have e : ddN_ l l.length = l := by have := HD.out; rw [Int.toNat_natCast] at this; rw [this, List.take_length]
    have E := Aside0.mk e
    clear e HD
    go_wp2_with fail
    go_ret
    rw [E.out]
    exact ⟨rfl, HR.out.drew q⟩
set_option maxHeartbeats 1000000 in
theorem compact_short (A : Option Addr) (n cap : Nat) (hn : n < 2) (w : World) : Calls Try.prog 116 #[.slice A n cap] w fun e w' => e = .returned (.slice A n cap) ∧ w' = w := by
 have z1 : decide ((n : Int) < 2) = true := decide_eq_true (by omega)
 have z2 : decide (n < 2) = true := decide_eq_true hn
 go_enter Try.func116, Try.ntmps116
 go_wp2
 go_ret
 exact ⟨rfl, rfl⟩
theorem ddN_short (l : List S55) (h : l.length < 2) : ddN_ l l.length = l := by
 match l, h with
 | [], _ => rfl
 | [c], _ => rfl
 | _ :: _ :: _, h => exact absurd h (by simp only [List.length_cons]; omega)
theorem slices_Compact_Cell.calls (P0_ : Nat → Prop) (u9000_ : Value) (l0 : List (S55)) (r : List (S55)) (w0 w : World) (hB : Below w0.heap.size w0 w) (ho0 : Kd.R k55 55 w w0.heap.size P0_ u9000_ l0) (h : slices_Compact_Cell.f l0 = some r) :
  Calls Try.prog 116 #[u9000_] w fun e w' => ∃ v0_ : Value, e = .returned v0_ ∧ Kd.R k55 55 w' w0.heap.size (fun k_ => (P0_ k_ ∨ w.heap.size ≤ k_)) v0_ r ∧ Below w0.heap.size w0 w' ∧ Kept w w' (fun k_ => P0_ k_) := by
 obtain rfl := Option.some.inj h
 by_cases h2 : l0.length < 2
 ·obtain ⟨hok, inner, ⟨hlen, hv⟩, hreps⟩ := ho0
  rw [ddN_short l0 h2]
  have hR : Kd.R k55 55 w w0.heap.size (fun k_ => (P0_ k_ ∨ w.heap.size ≤ k_)) u9000_ l0 := Kd.R_mono ⟨hok, inner, ⟨hlen, hv⟩, hreps⟩ (fun _ hk => Or.inl hk)
  rcases hv with ⟨rfl, hn⟩ | ⟨g, cap, cur, rfl, _⟩
  ·refine (compact_short none 0 0 (by omega) w).mono ?_
   rintro e w' ⟨rfl, rfl⟩
   exact ⟨_, rfl, hR, hB, Kept.refl _ _⟩
  ·refine (compact_short _ l0.length cap h2 w).mono ?_
   rintro e w' ⟨rfl, rfl⟩
   exact ⟨_, rfl, hR, hB, Kept.refl _ _⟩
 ·obtain ⟨hok, inner, ⟨hlen, hv⟩, hreps⟩ := ho0
  have hin : inner = flatC_ l0 := flatC_of_reps (fun x cs hx => kC_M_inv hx) l0 inner hreps
  rcases hv with ⟨_, hn⟩ | ⟨g, cap, cur, rfl, hge, hblk, hcap, hmax, hcur, htake⟩
  ·exact absurd hn (by omega)
  ·have hrow : RowAt_ w g cap l0.length l0 w := ⟨⟨cur, hblk, hcur, by rw [← hin, ← htake]; rfl⟩, rfl, ⟨rfl, rfl, rfl, Nat.le_refl _, fun _ _ _ => rfl⟩⟩
   refine (compact_walk g cap l0 w (by omega) hcap hmax hrow).mono ?_
   rintro e w' ⟨rfl, hr⟩
   obtain ⟨cur2, b1, b2, b3⟩ := hr.blk
   have hg1 := hr.grown
   have hle := ddN_length l0 l0.length
   exact ⟨_, rfl, ownC_R ⟨by rw [flatC_length], Or.inr ⟨g, cap, cur2, rfl, hge, b1, by omega, hmax, b2, b3⟩⟩ (fun k hk => Or.inl (hok k hk)), hB.grown hg1 hB.size (fun k hk => by cases hk; exact hge), ⟨hg1.size, fun i hi hn => hg1.block i hi (fun he => hn (by cases he; exact hok g rfl))⟩⟩
end

/-! ### impl_beside: function 83 -/
mutual
def impl_beside.l0 : Nat → List (S55) → List (S55) → List (S55) → Int → Int → Option ((List (S55)))
 | 0, _, _, _, _, _ => none
 | k + 1, x0, x5, x11, x12, x13 => if x13 < x12 then (if 0 ≤ x13 then (if x13 < (x11.length : Int) then ((impl_around.f ((rd_T55 x11 x13).f0) ((rd_T55 x11 x13).f1)).bind fun t511 => (impl_beside.l1 k x0 x5 x11 x12 x13 t511 (t511.length : Int) 0)) else (none)) else (none)) else ((slices_SortFunc_Cell.f x5).bind fun t505 => ((slices_Compact_Cell.f t505).bind fun t506 => (some t506)))
def impl_beside.l1 : Nat → List (S55) → List (S55) → List (S55) → Int → Int → List (S55) → Int → Int → Option ((List (S55)))
 | 0, _, _, _, _, _, _, _, _ => none
 | k + 1, x0, x5, x11, x12, x13, x19, x20, x21 => if x21 < x20 then (if 0 ≤ x21 then (if x21 < (x19.length : Int) then ((slices_Contains_Cell.f k x0 ((rd_T55 x19 x21).f0) ((rd_T55 x19 x21).f1)).bind fun t516 => (if t516 = true then (impl_beside.l1 k x0 x5 x11 x12 x13 x19 x20 (wrap64 (x21 + 1))) else (if x5.length < 8796093022208 then (impl_beside.l1 k x0 (x5 ++ [(⟨(rd_T55 x19 x21).f0, (rd_T55 x19 x21).f1⟩ : S55)]) x11 x12 x13 x19 x20 (wrap64 (x21 + 1))) else (none)))) else (none)) else (none)) else (impl_beside.l0 k x0 x5 x11 x12 (wrap64 (x13 + 1)))
end
def impl_beside.f (k : Nat) (l0 : List (S55))  : Option ((List (S55))) := impl_beside.l0 k l0 (([] : List (S55))) l0 (l0.length : Int) 0
theorem impl_beside.mono_l : ∀ k, (∀ y0 y1 y2 y3 y4, LeO (impl_beside.l0 k y0 y1 y2 y3 y4) (impl_beside.l0 (k + 1) y0 y1 y2 y3 y4)) ∧ (∀ y0 y1 y2 y3 y4 y5 y6 y7, LeO (impl_beside.l1 k y0 y1 y2 y3 y4 y5 y6 y7) (impl_beside.l1 (k + 1) y0 y1 y2 y3 y4 y5 y6 y7))
 | 0 => ⟨fun _ _ _ _ _ r h => by simp [impl_beside.l0] at h, fun _ _ _ _ _ _ _ _ r h => by simp [impl_beside.l1] at h⟩
 | k + 1 => by
  obtain ⟨ih0, ih1⟩ := impl_beside.mono_l k
  refine ⟨?_, ?_⟩
  ·intro y0 y1 y2 y3 y4
   unfold impl_beside.l0
   repeat' first
   | (with_reducible exact ih0 _ _ _ _ _)
   | (with_reducible exact ih1 _ _ _ _ _ _ _ _)
   | (with_reducible exact slices_Contains_Cell.mono _ _ _ _)
   | (with_reducible exact LeO.refl _)
   | (with_reducible exact LeO.none _)
   | (with_reducible refine LeO.ite ?_ ?_)
   | (with_reducible refine LeO.bind ?_ (fun _ => ?_))
   | exact ih0 _ _ _ _ _
   | exact ih1 _ _ _ _ _ _ _ _
   | exact slices_Contains_Cell.mono _ _ _ _
   | exact LeO.none _
   | refine LeO.ite ?_ ?_
   | refine LeO.bind ?_ (fun _ => ?_)
  ·intro y0 y1 y2 y3 y4 y5 y6 y7
   unfold impl_beside.l1
   repeat' first
   | (with_reducible exact ih0 _ _ _ _ _)
   | (with_reducible exact ih1 _ _ _ _ _ _ _ _)
   | (with_reducible exact slices_Contains_Cell.mono _ _ _ _)
   | (with_reducible exact LeO.refl _)
   | (with_reducible exact LeO.none _)
   | (with_reducible refine LeO.ite ?_ ?_)
   | (with_reducible refine LeO.bind ?_ (fun _ => ?_))
   | exact ih0 _ _ _ _ _
   | exact ih1 _ _ _ _ _ _ _ _
   | exact slices_Contains_Cell.mono _ _ _ _
   | exact LeO.none _
   | refine LeO.ite ?_ ?_
   | refine LeO.bind ?_ (fun _ => ?_)
theorem impl_beside.mono : ∀ a0 k, LeO (impl_beside.f k a0) (impl_beside.f (k + 1) a0) := by
 intro a0 k
 obtain ⟨ih0, ih1⟩ := impl_beside.mono_l k
 unfold impl_beside.f
 repeat' first
   | (with_reducible exact ih0 _ _ _ _ _)
   | (with_reducible exact ih1 _ _ _ _ _ _ _ _)
   | (with_reducible exact slices_Contains_Cell.mono _ _ _ _)
   | (with_reducible exact LeO.refl _)
   | (with_reducible exact LeO.none _)
   | (with_reducible refine LeO.ite ?_ ?_)
   | (with_reducible refine LeO.bind ?_ (fun _ => ?_))
   | exact ih0 _ _ _ _ _
   | exact ih1 _ _ _ _ _ _ _ _
   | exact slices_Contains_Cell.mono _ _ _ _
   | exact LeO.none _
   | refine LeO.ite ?_ ?_
   | refine LeO.bind ?_ (fun _ => ?_)
set_option maxHeartbeats 8000000 in
set_option maxRecDepth 100000 in
theorem impl_beside.calls (k : Nat) (A0 : Option Addr) (c0 : Nat) (l0 : List (S55))  (r : List (S55)) (w : World) (hr0 : Kd.C k55 w A0 l0.length l0) (hc0 : l0.length ≤ c0) (h : impl_beside.f k l0 = some r) :
  Calls Try.prog 83 #[.slice A0 l0.length c0, .func (.func 48) #[] #[]] w fun e w' => ∃ v0_ : Value, e = .returned (v0_) ∧ Kd.R k55 55 w' w.heap.size (fun _ => True) v0_ r ∧ Below w.heap.size w w' := by
 have hu55 := Try.underlying55
 have HR0 := Aside0.mk hr0
 have HC0 := Aside0.mk hc0
 clear hr0 hc0
 have HB := Aside0.mk (Below.refl w.heap.size w)
 have H : (impl_beside.l0 k l0 (([] : List (S55))) l0 (l0.length : Int) 0) = some r := h
 clear h
 obtain ⟨y502, hy502⟩ : ∃ y_ : List (S55), y_ = (([] : List (S55))) := ⟨_, rfl⟩
 replace H : (impl_beside.l0 k l0 y502 l0 (l0.length : Int) 0) = some r := by first | (rw [hy502]; with_reducible exact H) | (have H2_ := (Option.bind_some _ _).symm.trans H; rw [hy502]; with_reducible exact H2_) | (have H2_ := (Option.bind_some _ _).symm.trans H; with_reducible exact H2_) | with_reducible exact H | (rw [hy502]; exact H) | exact H
 have Ny502 := Aside0.mk hy502
 clear hy502
 have H' := Aside0.mk H
 clear H
 go_enter Try.func83, Try.ntmps83
 go_wp2_with (first | ((with_reducible refine gate_dst (N := 10) rfl ?_); refine Kd.R_lit k55 _ 55 ?hg (N := 10) ?hd (xs := ([] : List (S55))) (inner := []) (ok := fun _ => True) (okp := fun _ => True) ?hr ?hp (fun _ hk => hk) trivial (Below.refl _ _) (Nat.le_refl _) (by simp) ?_; (case hd => rfl); (case hg => rfl); (case hr => first | (go_simp; done) | (go_simp; rfl)); (case hp => exact (Reps.none _ _)); intro v503 w3 ho4 hb hg_ hnew_; clear hg_ hnew_; (first | rw [← Ny502.out] at ho4 | (simp only [Int.reduceToNat] at ho4; rw [← Ny502.out] at ho4)); have n0_ := Aside0.mk (Kd.R_lower ho4 (below_size (by repeat (with_reducible first | exact HB.out | apply below_alloc | apply pw_below_drewN | apply below_drew1)))); have n1_ := Aside0.mk (below_step (by repeat (with_reducible first | exact HB.out | apply below_alloc | apply pw_below_drewN | apply below_drew1)) hb); clear HB; have HO504 := n0_; have HB := n1_; clear n0_ n1_; clear hb ho4))
 go_loopg [5, 13] k (fun kq v5 v13 w' => ∃ (x5_1 : List (S55)) (x13_1 : Int), v13 = .int .i64 x13_1 ∧ Aside0 (impl_beside.l0 kq l0 x5_1 l0 (l0.length : Int) x13_1 = some r) ∧ Aside0 (kq ≤ k) ∧ Aside0 (Kd.R k55 55 w' w.heap.size (fun _ => True) v5 x5_1) ∧ Aside0 (Below w.heap.size w w'))
 case atStart => exact ⟨(y502), (0), (by first | rfl | (simp; done) | (simp [*]; done)), H', ⟨Nat.le_refl _⟩, ⟨by (with_reducible repeat (first | apply Kd.R_alloc | apply Kd.R_drewN | apply Kd.R_drew)); exact HO504.out⟩, ⟨by repeat (with_reducible first | exact HB.out | apply below_alloc | apply pw_below_drewN | apply below_drew1)⟩⟩
 case round =>
  clear H'
  try clear p2
  obtain ⟨x5_1, x13_1, rfl, HA, HK1, HO_5, HB⟩ := hrel
  cases gk with
  | zero => exact absurd HA.out (by simp [impl_beside.l0])
  | succ k1 =>
   have H := HA.out
   clear HA
   simp only [impl_beside.l0] at H
   by_cases c5 : x13_1 < (l0.length : Int)
   ·rw [if_pos c5] at H
    have c5b0 : decide (x13_1 < (l0.length : Int)) = true := decide_eq_true c5
    clear c5
    by_cases c6 : 0 ≤ x13_1
    ·rw [if_pos c6] at H
     have c6b0 : decide (0 ≤ x13_1) = true := decide_eq_true c6
     clear c6
     by_cases c7 : x13_1 < (l0.length : Int)
     ·rw [if_pos c7] at H
      have c7b0 : decide (x13_1 < (l0.length : Int)) = true := decide_eq_true c7
      clear c7
      replace H := Option.bind_eq_some_iff.mp H
      obtain ⟨t511, A80, H⟩ := H
      replace H : (impl_beside.l1 k1 l0 x5_1 l0 (l0.length : Int) x13_1 t511 (t511.length : Int) 0) = some r := H
      have A8 := Aside0.mk A80
      clear A80
      have H' := Aside0.mk H
      clear H
      have p509 : 0 ≤ (x13_1 : Int) := of_decide_eq_true (by first | (with_reducible assumption) | assumption)
      have q509 : x13_1 < (l0.length : Int) := of_decide_eq_true (by first | (with_reducible assumption) | assumption)
      obtain ⟨ad509, e509, hx509_0, hx509_1⟩ := at_T55 HR0.out x13_1 p509 q509
      cases e509
      replace hx509_0 := (HB.out.cell (World.block_lt_of_cell? w _ hx509_0)).trans hx509_0
      replace hx509_1 := (HB.out.cell (World.block_lt_of_cell? w _ hx509_1)).trans hx509_1
      replace p509 := eq_true p509
      replace q509 := eq_true q509
      go_wp2_with (first | ((with_reducible refine gate_dst (N := 7) rfl ?_); refine box_event ?hg (N := 7) ?hd (cs := #[.int .i64 0, .int .i64 0]) (t := 55) ?hr ?_; (case hd => rfl); (case hg => rfl); (case hr => first | (go_simp; done) | (go_simp; rfl)); intro gb510 hg w9 hbox hb; have n0_ := Aside0.mk (Kd.R_below (Kd.R_elderB (by (with_reducible repeat (first | apply Kd.R_alloc | apply Kd.R_drewN | apply Kd.R_drew)); exact HO_5.out) gb510 (Nat.le_of_eq hg.symm)) hb); have n1_ := Aside0.mk (below_step (by repeat (with_reducible first | exact HB.out | apply below_alloc | apply pw_below_drewN | apply below_drew1)) hb); have n2_ := Aside0.mk (hbox); have n3_ := Aside0.mk ((by rw [hg]; exact (below_size (by repeat (with_reducible first | exact HB.out | apply below_alloc | apply pw_below_drewN | apply below_drew1))) : w.heap.size ≤ gb510)); have n4_ := Aside0.mk ((by rw [hg]; exact (below_size (by repeat (with_reducible first | exact HB.out | apply below_alloc | apply pw_below_drewN | apply below_drew1))) : w.heap.size ≤ gb510)); clear HO_5; clear HB; have HO_5 := n0_; have HB := n1_; have BK510 := n2_; have GW510 := n3_; have GE510 := n4_; clear n0_ n1_ n2_ n3_ n4_; clear hb hbox hg; have hcz10_0 : w9.cell? ⟨gb510, 0, none⟩ = some (.int .i64 0) := (blk_cell BK510.out 0).trans rfl; have hcz10_1 : w9.cell? ⟨gb510, 1, none⟩ = some (.int .i64 0) := (blk_cell BK510.out 1).trans rfl; have hfz10_0 := blk_frozen BK510.out 0; have hfz10_1 := blk_frozen BK510.out 1) | (go_at_call 48; (with_reducible refine (impl_around.calls ((rd_T55 l0 x13_1).f0) ((rd_T55 l0 x13_1).f1) t511 _ A8.out).mono ?_); rintro e w11 ⟨v512, rfl, ho0, hb⟩; have n0_ := Aside0.mk (Kd.R_elder' (by (with_reducible repeat (first | apply Kd.R_alloc | apply Kd.R_drewN | apply Kd.R_drew)); exact (Kd.R_mono (Kd.R_far (p := ⟨gb510, 1, none⟩) (Kd.R_far (p := ⟨gb510, 0, none⟩) (Kd.R_mono HO_5.out (fun k_ hk => (⟨hk, hk.2⟩ : _ ∧ k_ ≠ gb510))) (fun _ hk => hk.2) (.int .i64 ((rd_T55 l0 x13_1).f0))) (fun _ hk => hk.2) (.int .i64 ((rd_T55 l0 x13_1).f1))) (fun _ h_ => h_.1))) (Kd.R_base ho0) hb); have n1_ := Aside0.mk (Kd.R_lower (Kd.R_newB (Kd.R_new' ho0 (Kd.R_lt (by (with_reducible repeat (first | apply Kd.R_alloc | apply Kd.R_drewN | apply Kd.R_drew)); exact (Kd.R_mono (Kd.R_far (p := ⟨gb510, 1, none⟩) (Kd.R_far (p := ⟨gb510, 0, none⟩) (Kd.R_mono HO_5.out (fun k_ hk => (⟨hk, hk.2⟩ : _ ∧ k_ ≠ gb510))) (fun _ hk => hk.2) (.int .i64 ((rd_T55 l0 x13_1).f0))) (fun _ hk => hk.2) (.int .i64 ((rd_T55 l0 x13_1).f1))) (fun _ h_ => h_.1))))) (g := gb510) (o := .cells #[.int .i64 ((rd_T55 l0 x13_1).f0), .int .i64 ((rd_T55 l0 x13_1).f1)] 55 (0, 0)) (by (with_reducible repeat (first | refine blk_drewN ?_ _ | refine blk_drew ?_ | refine blk_alloc ?_ _)); refine blk_put (cs := #[.int .i64 ((rd_T55 l0 x13_1).f0), .int .i64 0]) ?_ 1 _ rfl; (with_reducible repeat (first | refine blk_drewN ?_ _ | refine blk_drew ?_ | refine blk_alloc ?_ _)); refine blk_put (cs := #[.int .i64 0, .int .i64 0]) ?_ 0 _ rfl; (with_reducible repeat (first | refine blk_drewN ?_ _ | refine blk_drew ?_ | refine blk_alloc ?_ _)); exact BK510.out)) (below_size (by repeat (first | (with_reducible first | exact HB.out | apply below_alloc | apply pw_below_drewN | apply below_drew1 | refine below_set ?_ GE510.out) | exact HB.out)))); have n2_ := Aside0.mk (blk_below (g := gb510) (o := .cells #[.int .i64 ((rd_T55 l0 x13_1).f0), .int .i64 ((rd_T55 l0 x13_1).f1)] 55 (0, 0)) (by (with_reducible repeat (first | refine blk_drewN ?_ _ | refine blk_drew ?_ | refine blk_alloc ?_ _)); refine blk_put (cs := #[.int .i64 ((rd_T55 l0 x13_1).f0), .int .i64 0]) ?_ 1 _ rfl; (with_reducible repeat (first | refine blk_drewN ?_ _ | refine blk_drew ?_ | refine blk_alloc ?_ _)); refine blk_put (cs := #[.int .i64 0, .int .i64 0]) ?_ 0 _ rfl; (with_reducible repeat (first | refine blk_drewN ?_ _ | refine blk_drew ?_ | refine blk_alloc ?_ _)); exact BK510.out) hb); have n3_ := Aside0.mk (below_step (by repeat (first | (with_reducible first | exact HB.out | apply below_alloc | apply pw_below_drewN | apply below_drew1 | refine below_set ?_ GE510.out) | exact HB.out)) hb); clear HO_5; clear BK510; clear HB; have HO_5 := n0_; have HO513 := n1_; have BK510 := n2_; have HB := n3_; clear n0_ n1_ n2_ n3_; (try clear hb); (try clear ho0); obtain ⟨Ao12, co12, eo12⟩ := Kd.R_slice HO513.out; subst eo12))
      go_loopg [5, 21] k1 (fun kq v5 v21 w' => ∃ (x5_2 : List (S55)) (x21_2 : Int), v21 = .int .i64 x21_2 ∧ Aside0 (impl_beside.l1 kq l0 x5_2 l0 (l0.length : Int) x13_1 t511 (t511.length : Int) x21_2 = some r) ∧ Aside0 (kq ≤ k1) ∧ Aside0 (Kd.R k55 55 w' w.heap.size (fun k_ => some k_ ≠ ((.slice Ao12 t511.length co12) : Value).ownBlock ∧ k_ ≠ gb510) v5 x5_2) ∧ Aside0 (Kd.R k55 55 w' w.heap.size (fun k_ => some k_ ≠ (v5 : Value).ownBlock ∧ k_ ≠ gb510) (.slice Ao12 t511.length co12) t511) ∧ Aside0 (w'.heap[gb510]? = some (.cells #[.int .i64 ((rd_T55 l0 x13_1).f0), .int .i64 ((rd_T55 l0 x13_1).f1)] 55 (0, 0))) ∧ Aside0 (Below w.heap.size w w'))
      case atStart => exact ⟨(x5_1), (0), (by first | rfl | (simp; done) | (simp [*]; done)), H', ⟨Nat.le_refl _⟩, ⟨by (with_reducible repeat (first | apply Kd.R_alloc | apply Kd.R_drewN | apply Kd.R_drew)); exact Kd.R_mono HO_5.out (fun _ hk => ⟨hk.2, hk.1.2⟩)⟩, ⟨by (with_reducible repeat (first | apply Kd.R_alloc | apply Kd.R_drewN | apply Kd.R_drew)); exact Kd.R_mono HO513.out (fun _ hk => ⟨hk.1.2, hk.2⟩)⟩, ⟨by (with_reducible repeat (first | refine blk_drewN ?_ _ | refine blk_drew ?_ | refine blk_alloc ?_ _)); exact BK510.out⟩, ⟨by repeat (first | (with_reducible first | exact HB.out | apply below_alloc | apply pw_below_drewN | apply below_drew1 | refine below_set ?_ GE510.out) | exact HB.out)⟩⟩
      case round =>
       clear H'
       try clear p2
       try clear c5
       try clear c5b0
       try clear p5
       try clear q5
       try clear hx5
       try clear c6
       try clear c6b0
       try clear c7
       try clear c7b0
       try clear c8
       try clear hcz10_0
       try clear hcz10_1
       try clear hfz10_0
       try clear hfz10_1
       try clear hx509_0
       try clear hx509_1
       try clear p2
       try clear p509
       try clear q509
       obtain ⟨x5_2, x21_2, rfl, HA, HK2, HO_5, HO_19, BK510, HB⟩ := hrel
       cases gk with
       | zero => exact absurd HA.out (by simp [impl_beside.l1])
       | succ k2 =>
        have H := HA.out
        clear HA
        simp only [impl_beside.l1] at H
        by_cases c13 : x21_2 < (t511.length : Int)
        ·rw [if_pos c13] at H
         have c13b0 : decide (x21_2 < (t511.length : Int)) = true := decide_eq_true c13
         clear c13
         by_cases c14 : 0 ≤ x21_2
         ·rw [if_pos c14] at H
          have c14b0 : decide (0 ≤ x21_2) = true := decide_eq_true c14
          clear c14
          by_cases c15 : x21_2 < (t511.length : Int)
          ·rw [if_pos c15] at H
           have c15b0 : decide (x21_2 < (t511.length : Int)) = true := decide_eq_true c15
           clear c15
           replace H := Option.bind_eq_some_iff.mp H
           obtain ⟨t516, A160, H⟩ := H
           replace H : (if t516 = true then (impl_beside.l1 k2 l0 x5_2 l0 (l0.length : Int) x13_1 t511 (t511.length : Int) (wrap64 (x21_2 + 1))) else (if x5_2.length < 8796093022208 then (impl_beside.l1 k2 l0 (x5_2 ++ [(⟨(rd_T55 t511 x21_2).f0, (rd_T55 t511 x21_2).f1⟩ : S55)]) l0 (l0.length : Int) x13_1 t511 (t511.length : Int) (wrap64 (x21_2 + 1))) else (none))) = some r := H
           have A16 := Aside0.mk A160
           clear A160
           by_cases c17 : t516 = true
           ·subst c17
            have H1 : (impl_beside.l1 k2 l0 x5_2 l0 (l0.length : Int) x13_1 t511 (t511.length : Int) (wrap64 (x21_2 + 1))) = some r := by rw [if_pos rfl] at H; exact H
            clear H
            have H := H1
            clear H1
            have H' := Aside0.mk H
            clear H
            have p514 : 0 ≤ (x21_2 : Int) := of_decide_eq_true (by first | (with_reducible assumption) | assumption)
            have q514 : x21_2 < (t511.length : Int) := of_decide_eq_true (by first | (with_reducible assumption) | assumption)
            obtain ⟨ad514, e514, hx514_0, hx514_1⟩ := at_T55 (Kd.R_reads' HO_19.out).2.2 x21_2 p514 q514
            cases e514
            replace p514 := eq_true p514
            replace q514 := eq_true q514
            go_wp2_with (first | ((with_reducible refine gate_dst (N := 9) rfl ?_); refine box_event ?hg (N := 9) ?hd (cs := #[.int .i64 0, .int .i64 0]) (t := 55) ?hr ?_; (case hd => rfl); (case hg => rfl); (case hr => first | (go_simp; done) | (go_simp; rfl)); intro gb515 hg w18 hbox hb; have n0_ := Aside0.mk (Kd.R_below (Kd.R_elderB (by (with_reducible repeat (first | apply Kd.R_alloc | apply Kd.R_drewN | apply Kd.R_drew)); exact HO_5.out) gb515 (Nat.le_of_eq hg.symm)) hb); have n1_ := Aside0.mk (Kd.R_below (Kd.R_elderB (by (with_reducible repeat (first | apply Kd.R_alloc | apply Kd.R_drewN | apply Kd.R_drew)); exact HO_19.out) gb515 (Nat.le_of_eq hg.symm)) hb); have n2_ := Aside0.mk (blk_below (g := gb510) (o := .cells #[.int .i64 ((rd_T55 l0 x13_1).f0), .int .i64 ((rd_T55 l0 x13_1).f1)] 55 (0, 0)) (by (with_reducible repeat (first | refine blk_drewN ?_ _ | refine blk_drew ?_ | refine blk_alloc ?_ _)); exact BK510.out) hb); have n3_ := Aside0.mk (below_step (by repeat (first | (with_reducible first | exact HB.out | apply below_alloc | apply pw_below_drewN | apply below_drew1 | refine below_set ?_ GE510.out) | exact HB.out)) hb); have n4_ := Aside0.mk (hbox); have n5_ := Aside0.mk ((by rw [hg]; exact (below_size (by repeat (first | (with_reducible first | exact HB.out | apply below_alloc | apply pw_below_drewN | apply below_drew1 | refine below_set ?_ GE510.out) | exact HB.out))) : w.heap.size ≤ gb515)); have n6_ := Aside0.mk ((by rw [hg]; exact (below_size (by repeat (first | (with_reducible first | exact HB.out | apply below_alloc | apply pw_below_drewN | apply below_drew1 | refine below_set ?_ GE510.out) | exact HB.out))) : w.heap.size ≤ gb515)); have n7_ := Aside0.mk ((by rw [hg]; exact Nat.ne_of_lt (blk_lt (g := gb510) (o := .cells #[.int .i64 ((rd_T55 l0 x13_1).f0), .int .i64 ((rd_T55 l0 x13_1).f1)] 55 (0, 0)) (by (with_reducible repeat (first | refine blk_drewN ?_ _ | refine blk_drew ?_ | refine blk_alloc ?_ _)); exact BK510.out)) : gb510 ≠ gb515)); have n8_ := Aside0.mk ((by rw [hg]; exact Nat.ne_of_gt (blk_lt (g := gb510) (o := .cells #[.int .i64 ((rd_T55 l0 x13_1).f0), .int .i64 ((rd_T55 l0 x13_1).f1)] 55 (0, 0)) (by (with_reducible repeat (first | refine blk_drewN ?_ _ | refine blk_drew ?_ | refine blk_alloc ?_ _)); exact BK510.out)) : gb515 ≠ gb510)); clear HO_5; clear HO_19; clear BK510; clear HB; have HO_5 := n0_; have HO_19 := n1_; have BK510 := n2_; have HB := n3_; have BK515 := n4_; have GW515 := n5_; have GE515 := n6_; have NB510_515 := n7_; have NB515_510 := n8_; clear n0_ n1_ n2_ n3_ n4_ n5_ n6_ n7_ n8_; clear hb hbox hg; have hnb19 := NB515_510.out; have hnc19 := NB510_515.out; have hcz20_0 : w18.cell? ⟨gb515, 0, none⟩ = some (.int .i64 0) := (blk_cell BK515.out 0).trans rfl; have hcz20_1 : w18.cell? ⟨gb515, 1, none⟩ = some (.int .i64 0) := (blk_cell BK515.out 1).trans rfl; have hfz20_0 := blk_frozen BK515.out 0; have hfz20_1 := blk_frozen BK515.out 1) | ((with_reducible refine gate_callee (f := 114) rfl ?_); refine goesL_ (some 27) rfl rfl Try.func114 (by kernel_rfl) rfl #[.slice (some ad509) l0.length c0, .agg #[.int .i64 ((rd_T55 t511 x21_2).f0), .int .i64 ((rd_T55 t511 x21_2).f1)]] rfl (by (try simp only [List.map_toArray, List.map_cons, List.map_nil]); first | done | rfl) ?_; (with_reducible refine (slices_Contains_Cell.calls k2 _ _ l0 ((rd_T55 t511 x21_2).f0) ((rd_T55 t511 x21_2).f1) true _ ?side1 ?side2 A16.out).mono ?_); (case side1 => exact Kd.C_below HR0.out (by repeat (first | (with_reducible first | exact HB.out | apply below_alloc | apply pw_below_drewN | apply below_drew1 | refine below_set ?_ GE510.out | refine below_set ?_ GE515.out) | exact HB.out))); (case side2 => exact HC0.out); rintro e w21 ⟨rfl, hb⟩; refine ⟨_, rfl, ?_⟩; have n0_ := Aside0.mk (Kd.R_below (by (with_reducible repeat (first | apply Kd.R_alloc | apply Kd.R_drewN | apply Kd.R_drew)); exact (Kd.R_mono (Kd.R_far (p := ⟨gb515, 1, none⟩) (Kd.R_far (p := ⟨gb515, 0, none⟩) (Kd.R_mono HO_5.out (fun k_ hk => (⟨hk, hk.2⟩ : _ ∧ k_ ≠ gb515))) (fun _ hk => hk.2) (.int .i64 ((rd_T55 t511 x21_2).f0))) (fun _ hk => hk.2) (.int .i64 ((rd_T55 t511 x21_2).f1))) (fun _ h_ => h_.1))) hb); have n1_ := Aside0.mk (Kd.R_below (by (with_reducible repeat (first | apply Kd.R_alloc | apply Kd.R_drewN | apply Kd.R_drew)); exact (Kd.R_mono (Kd.R_far (p := ⟨gb515, 1, none⟩) (Kd.R_far (p := ⟨gb515, 0, none⟩) (Kd.R_mono HO_19.out (fun k_ hk => (⟨hk, hk.2⟩ : _ ∧ k_ ≠ gb515))) (fun _ hk => hk.2) (.int .i64 ((rd_T55 t511 x21_2).f0))) (fun _ hk => hk.2) (.int .i64 ((rd_T55 t511 x21_2).f1))) (fun _ h_ => h_.1))) hb); have n2_ := Aside0.mk (blk_below (g := gb510) (o := .cells #[.int .i64 ((rd_T55 l0 x13_1).f0), .int .i64 ((rd_T55 l0 x13_1).f1)] 55 (0, 0)) (by (with_reducible repeat (first | refine blk_drewN ?_ _ | refine blk_drew ?_ | refine blk_alloc ?_ _)); refine blk_far ?_ NB510_515.out _; (with_reducible repeat (first | refine blk_drewN ?_ _ | refine blk_drew ?_ | refine blk_alloc ?_ _)); refine blk_far ?_ NB510_515.out _; (with_reducible repeat (first | refine blk_drewN ?_ _ | refine blk_drew ?_ | refine blk_alloc ?_ _)); exact BK510.out) hb); have n3_ := Aside0.mk (blk_below (g := gb515) (o := .cells #[.int .i64 ((rd_T55 t511 x21_2).f0), .int .i64 ((rd_T55 t511 x21_2).f1)] 55 (0, 0)) (by (with_reducible repeat (first | refine blk_drewN ?_ _ | refine blk_drew ?_ | refine blk_alloc ?_ _)); refine blk_put (cs := #[.int .i64 ((rd_T55 t511 x21_2).f0), .int .i64 0]) ?_ 1 _ rfl; (with_reducible repeat (first | refine blk_drewN ?_ _ | refine blk_drew ?_ | refine blk_alloc ?_ _)); refine blk_put (cs := #[.int .i64 0, .int .i64 0]) ?_ 0 _ rfl; (with_reducible repeat (first | refine blk_drewN ?_ _ | refine blk_drew ?_ | refine blk_alloc ?_ _)); exact BK515.out) hb); have n4_ := Aside0.mk (below_step (by repeat (first | (with_reducible first | exact HB.out | apply below_alloc | apply pw_below_drewN | apply below_drew1 | refine below_set ?_ GE510.out | refine below_set ?_ GE515.out) | exact HB.out)) hb); clear HO_5; clear HO_19; clear BK510; clear BK515; clear HB; have HO_5 := n0_; have HO_19 := n1_; have BK510 := n2_; have BK515 := n3_; have HB := n4_; clear n0_ n1_ n2_ n3_ n4_; (try clear hb)))
            go_roundg k2
            case measure => have := HK1.out; have := HK2.out; omega
            case rel => exact ⟨(x5_2), (wrap64 (x21_2 + 1)), (by first | rfl | (simp; done) | (simp [*]; done)), H', ⟨by have := HK1.out; have := HK2.out; omega⟩, ⟨by (with_reducible repeat (first | apply Kd.R_alloc | apply Kd.R_drewN | apply Kd.R_drew)); exact Kd.R_mono HO_5.out (fun _ hk => ⟨hk.1.1, hk.1.2⟩)⟩, ⟨by (with_reducible repeat (first | apply Kd.R_alloc | apply Kd.R_drewN | apply Kd.R_drew)); exact Kd.R_mono HO_19.out (fun _ hk => ⟨hk.1.1, hk.1.2⟩)⟩, ⟨by (with_reducible repeat (first | refine blk_drewN ?_ _ | refine blk_drew ?_ | refine blk_alloc ?_ _)); exact BK510.out⟩, ⟨by repeat (first | (with_reducible first | exact HB.out | apply below_alloc | apply pw_below_drewN | apply below_drew1 | refine below_set ?_ GE510.out | refine below_set ?_ GE515.out) | exact HB.out)⟩⟩
           ·replace c17 := Bool.eq_false_iff.mpr c17
            subst c17
            have H1 : (if x5_2.length < 8796093022208 then (impl_beside.l1 k2 l0 (x5_2 ++ [(⟨(rd_T55 t511 x21_2).f0, (rd_T55 t511 x21_2).f1⟩ : S55)]) l0 (l0.length : Int) x13_1 t511 (t511.length : Int) (wrap64 (x21_2 + 1))) else (none)) = some r := by rw [if_neg (show ¬ (false = true) by decide)] at H; exact H
            clear H
            have H := H1
            clear H1
            by_cases c22 : x5_2.length < 8796093022208
            ·rw [if_pos c22] at H
             have LMc22 := Aside0.mk c22
             clear c22
             obtain ⟨y517, hy517⟩ : ∃ y_ : List (S55), y_ = (x5_2 ++ [(⟨(rd_T55 t511 x21_2).f0, (rd_T55 t511 x21_2).f1⟩ : S55)]) := ⟨_, rfl⟩
             replace H : (impl_beside.l1 k2 l0 y517 l0 (l0.length : Int) x13_1 t511 (t511.length : Int) (wrap64 (x21_2 + 1))) = some r := by first | (rw [hy517]; with_reducible exact H) | (have H2_ := (Option.bind_some _ _).symm.trans H; rw [hy517]; with_reducible exact H2_) | (have H2_ := (Option.bind_some _ _).symm.trans H; with_reducible exact H2_) | with_reducible exact H | (rw [hy517]; exact H) | exact H
             have Ny517 := Aside0.mk hy517
             clear hy517
             have H' := Aside0.mk H
             clear H
             have p514 : 0 ≤ (x21_2 : Int) := of_decide_eq_true (by first | (with_reducible assumption) | assumption)
             have q514 : x21_2 < (t511.length : Int) := of_decide_eq_true (by first | (with_reducible assumption) | assumption)
             obtain ⟨ad514, e514, hx514_0, hx514_1⟩ := at_T55 (Kd.R_reads' HO_19.out).2.2 x21_2 p514 q514
             cases e514
             replace p514 := eq_true p514
             replace q514 := eq_true q514
             go_wp2_with (first | ((with_reducible refine gate_dst (N := 9) rfl ?_); refine box_event ?hg (N := 9) ?hd (cs := #[.int .i64 0, .int .i64 0]) (t := 55) ?hr ?_; (case hd => rfl); (case hg => rfl); (case hr => first | (go_simp; done) | (go_simp; rfl)); intro gb515 hg w23 hbox hb; have n0_ := Aside0.mk (Kd.R_below (Kd.R_elderB (by (with_reducible repeat (first | apply Kd.R_alloc | apply Kd.R_drewN | apply Kd.R_drew)); exact HO_5.out) gb515 (Nat.le_of_eq hg.symm)) hb); have n1_ := Aside0.mk (Kd.R_below (Kd.R_elderB (by (with_reducible repeat (first | apply Kd.R_alloc | apply Kd.R_drewN | apply Kd.R_drew)); exact HO_19.out) gb515 (Nat.le_of_eq hg.symm)) hb); have n2_ := Aside0.mk (blk_below (g := gb510) (o := .cells #[.int .i64 ((rd_T55 l0 x13_1).f0), .int .i64 ((rd_T55 l0 x13_1).f1)] 55 (0, 0)) (by (with_reducible repeat (first | refine blk_drewN ?_ _ | refine blk_drew ?_ | refine blk_alloc ?_ _)); exact BK510.out) hb); have n3_ := Aside0.mk (below_step (by repeat (first | (with_reducible first | exact HB.out | apply below_alloc | apply pw_below_drewN | apply below_drew1 | refine below_set ?_ GE510.out) | exact HB.out)) hb); have n4_ := Aside0.mk (hbox); have n5_ := Aside0.mk ((by rw [hg]; exact (below_size (by repeat (first | (with_reducible first | exact HB.out | apply below_alloc | apply pw_below_drewN | apply below_drew1 | refine below_set ?_ GE510.out) | exact HB.out))) : w.heap.size ≤ gb515)); have n6_ := Aside0.mk ((by rw [hg]; exact (below_size (by repeat (first | (with_reducible first | exact HB.out | apply below_alloc | apply pw_below_drewN | apply below_drew1 | refine below_set ?_ GE510.out) | exact HB.out))) : w.heap.size ≤ gb515)); have n7_ := Aside0.mk ((by rw [hg]; exact Nat.ne_of_lt (blk_lt (g := gb510) (o := .cells #[.int .i64 ((rd_T55 l0 x13_1).f0), .int .i64 ((rd_T55 l0 x13_1).f1)] 55 (0, 0)) (by (with_reducible repeat (first | refine blk_drewN ?_ _ | refine blk_drew ?_ | refine blk_alloc ?_ _)); exact BK510.out)) : gb510 ≠ gb515)); have n8_ := Aside0.mk ((by rw [hg]; exact Nat.ne_of_gt (blk_lt (g := gb510) (o := .cells #[.int .i64 ((rd_T55 l0 x13_1).f0), .int .i64 ((rd_T55 l0 x13_1).f1)] 55 (0, 0)) (by (with_reducible repeat (first | refine blk_drewN ?_ _ | refine blk_drew ?_ | refine blk_alloc ?_ _)); exact BK510.out)) : gb515 ≠ gb510)); clear HO_5; clear HO_19; clear BK510; clear HB; have HO_5 := n0_; have HO_19 := n1_; have BK510 := n2_; have HB := n3_; have BK515 := n4_; have GW515 := n5_; have GE515 := n6_; have NB510_515 := n7_; have NB515_510 := n8_; clear n0_ n1_ n2_ n3_ n4_ n5_ n6_ n7_ n8_; clear hb hbox hg; have hnb24 := NB515_510.out; have hnc24 := NB510_515.out; have hcz25_0 : w23.cell? ⟨gb515, 0, none⟩ = some (.int .i64 0) := (blk_cell BK515.out 0).trans rfl; have hcz25_1 : w23.cell? ⟨gb515, 1, none⟩ = some (.int .i64 0) := (blk_cell BK515.out 1).trans rfl; have hfz25_0 := blk_frozen BK515.out 0; have hfz25_1 := blk_frozen BK515.out 1) | ((with_reducible refine gate_callee (f := 114) rfl ?_); refine goesL_ (some 27) rfl rfl Try.func114 (by kernel_rfl) rfl #[.slice (some ad509) l0.length c0, .agg #[.int .i64 ((rd_T55 t511 x21_2).f0), .int .i64 ((rd_T55 t511 x21_2).f1)]] rfl (by (try simp only [List.map_toArray, List.map_cons, List.map_nil]); first | done | rfl) ?_; (with_reducible refine (slices_Contains_Cell.calls k2 _ _ l0 ((rd_T55 t511 x21_2).f0) ((rd_T55 t511 x21_2).f1) false _ ?side1 ?side2 A16.out).mono ?_); (case side1 => exact Kd.C_below HR0.out (by repeat (first | (with_reducible first | exact HB.out | apply below_alloc | apply pw_below_drewN | apply below_drew1 | refine below_set ?_ GE510.out | refine below_set ?_ GE515.out) | exact HB.out))); (case side2 => exact HC0.out); rintro e w26 ⟨rfl, hb⟩; refine ⟨_, rfl, ?_⟩; have n0_ := Aside0.mk (Kd.R_below (by (with_reducible repeat (first | apply Kd.R_alloc | apply Kd.R_drewN | apply Kd.R_drew)); exact (Kd.R_mono (Kd.R_far (p := ⟨gb515, 1, none⟩) (Kd.R_far (p := ⟨gb515, 0, none⟩) (Kd.R_mono HO_5.out (fun k_ hk => (⟨hk, hk.2⟩ : _ ∧ k_ ≠ gb515))) (fun _ hk => hk.2) (.int .i64 ((rd_T55 t511 x21_2).f0))) (fun _ hk => hk.2) (.int .i64 ((rd_T55 t511 x21_2).f1))) (fun _ h_ => h_.1))) hb); have n1_ := Aside0.mk (Kd.R_below (by (with_reducible repeat (first | apply Kd.R_alloc | apply Kd.R_drewN | apply Kd.R_drew)); exact (Kd.R_mono (Kd.R_far (p := ⟨gb515, 1, none⟩) (Kd.R_far (p := ⟨gb515, 0, none⟩) (Kd.R_mono HO_19.out (fun k_ hk => (⟨hk, hk.2⟩ : _ ∧ k_ ≠ gb515))) (fun _ hk => hk.2) (.int .i64 ((rd_T55 t511 x21_2).f0))) (fun _ hk => hk.2) (.int .i64 ((rd_T55 t511 x21_2).f1))) (fun _ h_ => h_.1))) hb); have n2_ := Aside0.mk (blk_below (g := gb510) (o := .cells #[.int .i64 ((rd_T55 l0 x13_1).f0), .int .i64 ((rd_T55 l0 x13_1).f1)] 55 (0, 0)) (by (with_reducible repeat (first | refine blk_drewN ?_ _ | refine blk_drew ?_ | refine blk_alloc ?_ _)); refine blk_far ?_ NB510_515.out _; (with_reducible repeat (first | refine blk_drewN ?_ _ | refine blk_drew ?_ | refine blk_alloc ?_ _)); refine blk_far ?_ NB510_515.out _; (with_reducible repeat (first | refine blk_drewN ?_ _ | refine blk_drew ?_ | refine blk_alloc ?_ _)); exact BK510.out) hb); have n3_ := Aside0.mk (blk_below (g := gb515) (o := .cells #[.int .i64 ((rd_T55 t511 x21_2).f0), .int .i64 ((rd_T55 t511 x21_2).f1)] 55 (0, 0)) (by (with_reducible repeat (first | refine blk_drewN ?_ _ | refine blk_drew ?_ | refine blk_alloc ?_ _)); refine blk_put (cs := #[.int .i64 ((rd_T55 t511 x21_2).f0), .int .i64 0]) ?_ 1 _ rfl; (with_reducible repeat (first | refine blk_drewN ?_ _ | refine blk_drew ?_ | refine blk_alloc ?_ _)); refine blk_put (cs := #[.int .i64 0, .int .i64 0]) ?_ 0 _ rfl; (with_reducible repeat (first | refine blk_drewN ?_ _ | refine blk_drew ?_ | refine blk_alloc ?_ _)); exact BK515.out) hb); have n4_ := Aside0.mk (below_step (by repeat (first | (with_reducible first | exact HB.out | apply below_alloc | apply pw_below_drewN | apply below_drew1 | refine below_set ?_ GE510.out | refine below_set ?_ GE515.out) | exact HB.out)) hb); clear HO_5; clear HO_19; clear BK510; clear BK515; clear HB; have HO_5 := n0_; have HO_19 := n1_; have BK510 := n2_; have BK515 := n3_; have HB := n4_; clear n0_ n1_ n2_ n3_ n4_; (try clear hb); have hcz27_0 : w26.cell? ⟨gb515, 0, none⟩ = some (.int .i64 ((rd_T55 t511 x21_2).f0)) := (blk_cell BK515.out 0).trans rfl; have hcz27_1 : w26.cell? ⟨gb515, 1, none⟩ = some (.int .i64 ((rd_T55 t511 x21_2).f1)) := (blk_cell BK515.out 1).trans rfl; have hfz27_0 := blk_frozen BK515.out 0; have hfz27_1 := blk_frozen BK515.out 1) | ((with_reducible refine gate_builtin (b := .append) (xs := #[.tmp 29, .tmp 31]) rfl ?_); at_builtin; refine Kd.R_append k55 (w0 := w) w.heap.size rfl (.tmp 29) (.tmp 31) 27 55 (.agg #[(.int .i64 0), (.int .i64 0)]) 16 rfl Try.underlying27 info55 rfl (by decide) (by omega) u5 x5_2 (⟨(rd_T55 t511 x21_2).f0, (rd_T55 t511 x21_2).f1⟩ : S55) [.int .i64 ((rd_T55 t511 x21_2).f0), .int .i64 ((rd_T55 t511 x21_2).f1)] (fun k_ => some k_ ≠ (.slice (some ad514) t511.length co12 : Value).ownBlock ∧ k_ ≠ gb510 ∧ k_ ≠ gb515) (fun _ => False) rfl rfl ?aP (fun _ hk => hk.elim) ?aF ?aO ?aB ?aS ?aL ?_; (case aP => exact k55_mkM _ _ _ (⟨(rd_T55 t511 x21_2).f0, (rd_T55 t511 x21_2).f1⟩ : S55)); (case aB => exact (by repeat (first | (with_reducible first | exact HB.out | apply below_alloc | apply pw_below_drewN | apply below_drew1 | refine below_set ?_ GE510.out | refine below_set ?_ GE515.out) | exact HB.out))); (case aF => exact (fun k_ hk => ⟨Kd.fresh' (Kd.R_lt (by (with_reducible repeat (first | apply Kd.R_alloc | apply Kd.R_drewN | apply Kd.R_drew)); exact HO_19.out)) k_ hk, Kd.freshB (g := gb510) (o := .cells #[.int .i64 ((rd_T55 l0 x13_1).f0), .int .i64 ((rd_T55 l0 x13_1).f1)] 55 (0, 0)) (by (with_reducible repeat (first | refine blk_drewN ?_ _ | refine blk_drew ?_ | refine blk_alloc ?_ _)); exact BK510.out) k_ hk, Kd.freshB (g := gb515) (o := .cells #[.int .i64 ((rd_T55 t511 x21_2).f0), .int .i64 ((rd_T55 t511 x21_2).f1)] 55 (0, 0)) (by (with_reducible repeat (first | refine blk_drewN ?_ _ | refine blk_drew ?_ | refine blk_alloc ?_ _)); exact BK515.out) k_ hk⟩)); (case aO => exact (by (with_reducible repeat (first | apply Kd.R_alloc | apply Kd.R_drewN | apply Kd.R_drew)); exact Kd.R_mono HO_5.out (fun _ hk => ⟨hk.1.1, ⟨hk.1.2, hk.2⟩⟩))); (case aS => exact (below_size (by repeat (first | (with_reducible first | exact HB.out | apply below_alloc | apply pw_below_drewN | apply below_drew1 | refine below_set ?_ GE510.out | refine below_set ?_ GE515.out) | exact HB.out)))); (case aL => have := LMc22.out; omega); intro v518 w28 ho hb hg hat; rw [← Ny517.out] at ho; have n0_ := Aside0.mk (Kd.R_after (ok := (fun k_ => k_ ≠ gb510 ∧ k_ ≠ gb515)) (by (with_reducible repeat (first | apply Kd.R_alloc | apply Kd.R_drewN | apply Kd.R_drew)); exact Kd.R_mono HO_19.out (fun _ hk => ⟨⟨hk.1.2, hk.2⟩, hk.1.1⟩)) hg hat); have n1_ := Aside0.mk (blk_grown (g := gb510) (o := .cells #[.int .i64 ((rd_T55 l0 x13_1).f0), .int .i64 ((rd_T55 l0 x13_1).f1)] 55 (0, 0)) (by (with_reducible repeat (first | refine blk_drewN ?_ _ | refine blk_drew ?_ | refine blk_alloc ?_ _)); exact BK510.out) hg (Kd.R_away HO_5.out (fun _ hk => hk.1.2))); have n2_ := Aside0.mk (blk_grown (g := gb515) (o := .cells #[.int .i64 ((rd_T55 t511 x21_2).f0), .int .i64 ((rd_T55 t511 x21_2).f1)] 55 (0, 0)) (by (with_reducible repeat (first | refine blk_drewN ?_ _ | refine blk_drew ?_ | refine blk_alloc ?_ _)); exact BK515.out) hg (Kd.R_away HO_5.out (fun _ hk => hk.2))); have n3_ := Aside0.mk (hb); have n4_ := Aside0.mk (ho); clear HO_19; clear BK510; clear BK515; clear HB; clear HO_5; have HO_19 := n0_; have BK510 := n1_; have BK515 := n2_; have HB := n3_; have HO519 := n4_; clear n0_ n1_ n2_ n3_ n4_; clear ho hb hg hat))
             go_roundg k2
             case measure => have := HK1.out; have := HK2.out; omega
             case rel => exact ⟨(y517), (wrap64 (x21_2 + 1)), (by first | rfl | (simp; done) | (simp [*]; done)), H', ⟨by have := HK1.out; have := HK2.out; omega⟩, ⟨by (with_reducible repeat (first | apply Kd.R_alloc | apply Kd.R_drewN | apply Kd.R_drew)); exact Kd.R_mono HO519.out (fun _ hk => ⟨hk.1, hk.2.1⟩)⟩, ⟨by (with_reducible repeat (first | apply Kd.R_alloc | apply Kd.R_drewN | apply Kd.R_drew)); exact Kd.R_mono HO_19.out (fun _ hk => ⟨hk.2, hk.1.1⟩)⟩, ⟨by (with_reducible repeat (first | refine blk_drewN ?_ _ | refine blk_drew ?_ | refine blk_alloc ?_ _)); exact BK510.out⟩, ⟨by repeat (first | (with_reducible first | exact HB.out | apply below_alloc | apply pw_below_drewN | apply below_drew1 | refine below_set ?_ GE510.out | refine below_set ?_ GE515.out) | exact HB.out)⟩⟩
            ·rw [if_neg c22] at H
             exact absurd H (by simp)
          ·rw [if_neg c15] at H
           exact absurd H (by simp)
         ·rw [if_neg c14] at H
          exact absurd H (by simp)
        ·rw [if_neg c13] at H
         have c13b0 : decide (x21_2 < (t511.length : Int)) = false := decide_eq_false c13
         clear c13
         have H' := Aside0.mk H
         clear H
         go_wp2
         go_roundg k2
         case measure => have := HK1.out; have := HK2.out; omega
         case rel => exact ⟨(x5_2), (wrap64 (x13_1 + 1)), (by first | rfl | (simp; done) | (simp [*]; done)), H', ⟨by have := HK1.out; have := HK2.out; omega⟩, ⟨by (with_reducible repeat (first | apply Kd.R_alloc | apply Kd.R_drewN | apply Kd.R_drew)); exact Kd.R_mono HO_5.out (fun _ hk => trivial)⟩, ⟨by repeat (first | (with_reducible first | exact HB.out | apply below_alloc | apply pw_below_drewN | apply below_drew1 | refine below_set ?_ GE510.out) | exact HB.out)⟩⟩
     ·rw [if_neg c7] at H
      exact absurd H (by simp)
    ·rw [if_neg c6] at H
     exact absurd H (by simp)
   ·rw [if_neg c5] at H
    have c5b0 : decide (x13_1 < (l0.length : Int)) = false := decide_eq_false c5
    clear c5
    replace H := Option.bind_eq_some_iff.mp H
    obtain ⟨t505, A290, H⟩ := H
    replace H : ((slices_Compact_Cell.f t505).bind fun t506 => (some t506)) = some r := H
    have A29 := Aside0.mk A290
    clear A290
    replace H := Option.bind_eq_some_iff.mp H
    obtain ⟨t506, A300, H⟩ := H
    replace H : (some t506) = some r := H
    have A30 := Aside0.mk A300
    clear A300
    obtain rfl := Option.some.inj H
    obtain ⟨Ao31, co31, eo31⟩ := Kd.R_slice HO_5.out
    subst eo31
    go_wp2_with (first | ((with_reducible refine gate_callee (f := 115) rfl ?_); refine goesL_ (some 36) rfl rfl Try.func115 (by kernel_rfl) rfl #[.slice Ao31 x5_1.length co31, .func (.func 105) #[] #[]] rfl (by (try simp only [List.map_toArray, List.map_cons, List.map_nil]); first | done | rfl) ?_; (with_reducible refine (slices_SortFunc_Cell.calls (fun k_ => some k_ = (.slice Ao31 x5_1.length co31 : Value).ownBlock) (.slice Ao31 x5_1.length co31) x5_1  t505 w _ ?side1 ?side2 A29.out).mono ?_); (case side1 => repeat (first | (with_reducible first | exact HB.out | apply below_alloc | apply pw_below_drewN | apply below_drew1) | exact HB.out)); (case side2 => exact Kd.R_tight rfl HO_5.out); rintro e w32 ⟨rfl, hy0, hb, hkp⟩; refine ⟨_, rfl, ?_⟩; have n0_ := Aside0.mk (Kd.R_reok rfl hy0 (fun k_ e_ => HO_5.out.1 k_ e_)); have n1_ := Aside0.mk (hb); clear HO_5; clear HB; have HO_5 := n0_; have HB := n1_; clear n0_ n1_; (try clear hb); (try clear hkp); (try clear hy0)) | ((with_reducible refine gate_callee (f := 116) rfl ?_); refine goesL_ (some 38) rfl rfl Try.func116 (by kernel_rfl) rfl #[.slice Ao31 x5_1.length co31] rfl (by (try simp only [List.map_toArray, List.map_cons, List.map_nil]); first | done | rfl) ?_; (with_reducible refine (slices_Compact_Cell.calls (fun k_ => some k_ = (.slice Ao31 x5_1.length co31 : Value).ownBlock) (.slice Ao31 x5_1.length co31) t505 t506 w _ ?side1 ?side2 A30.out).mono ?_); (case side1 => repeat (first | (with_reducible first | exact HB.out | apply below_alloc | apply pw_below_drewN | apply below_drew1) | exact HB.out)); (case side2 => exact Kd.R_tight rfl HO_5.out); rintro e w33 ⟨v507, rfl, ho0, hb, hkp⟩; refine ⟨_, rfl, ?_⟩; have n0_ := Aside0.mk (Kd.R_mono (ok' := fun k_ => True) ho0 (fun k_ hk_ => trivial)); have n1_ := Aside0.mk (hb); clear HB; clear HO_5; have HO508 := n0_; have HB := n1_; clear n0_ n1_; (try clear hb); (try clear hkp); (try clear ho0)))
    go_ret
    exact ⟨_, by first | rfl | (simp [*] <;> rfl), by (with_reducible repeat (first | apply Kd.R_alloc | apply Kd.R_drewN | apply Kd.R_drew)); exact HO508.out, by repeat (with_reducible first | exact HB.out | apply below_alloc | apply pw_below_drewN | apply below_drew1)⟩

end Go.Proofs.Ytbkafaoehheioaa.X
