-- xprint.py
import Derived.Test.YtpilmhjbgbpbmaaXx0
import Derived.Test.YtpilmhjbgbpbmaaXx20
import Derived.Test.YtpilmhjbgbpbmaaXx21
import Derived.Test.YtpilmhjbgbpbmaaXx23
namespace Go.Proofs.Ytpilmhjbgbpbmaa.X
open Go.RowKit Go.Proofs.YtpilmhjbgbpbmaaW.PrintWords Go.Proofs.YtpilmhjbgbpbmaaW.PrintLast Go.Proofs.YtpilmhjbgbpbmaaW.PrintMore
attribute [local go_sem] max2_int min2_int max_two min_two max_three min_three max_four min_four   -- for this text's walks alone
set_option linter.unusedVariables false
set_option linter.unusedSimpArgs false

/-! ### spec_OneSidedShapes: function 51 -/
def spec_OneSidedShapes.f (k : Nat) (a0 : Int) : Option ((List (List (S42))) × Int) := (spec_l05Order.f a0).bind fun t1034 => (if t1034 = true then ((spec_l05Fixed.f k a0).bind fun t1035 => ((spec_l05Own.f k t1035 4).bind fun t1038 => (some (t1038, 0)))) else (some (([] : List (List (S42))), 2)))
theorem spec_OneSidedShapes.mono : ∀ a0 k, LeO (spec_OneSidedShapes.f k a0) (spec_OneSidedShapes.f (k + 1) a0) := by
 intro a0 k
 unfold spec_OneSidedShapes.f
 repeat' first
   | (with_reducible exact spec_l05Fixed.mono _ _)
   | (with_reducible exact spec_l05Own.mono _ _ _)
   | (with_reducible exact LeO.refl _)
   | (with_reducible exact LeO.none _)
   | (with_reducible refine LeO.ite ?_ ?_)
   | (with_reducible refine LeO.bind ?_ (fun _ => ?_))
   | exact spec_l05Fixed.mono _ _
   | exact spec_l05Own.mono _ _ _
   | exact LeO.none _
   | refine LeO.ite ?_ ?_
   | refine LeO.bind ?_ (fun _ => ?_)
set_option maxHeartbeats 8000000 in
set_option maxRecDepth 100000 in
theorem spec_OneSidedShapes.calls (k : Nat) (a0 : Int) (r1 : List (List (S42))) (r2 : Int) (w : World) (h : spec_OneSidedShapes.f k a0 = some (r1, r2)) :
  Calls Try.prog 51 #[.int .i64 a0] w fun e w' => ∃ v0_ : Value, e = .returned (.tuple #[v0_, .int .i64 r2]) ∧ Kd.N (Kd.slice 42 k42) 27 w' w.heap.size (fun k_ => (w.heap.size ≤ k_)) v0_ r1 ∧ Below w.heap.size w w' := by
 have HB := Aside0.mk (Below.refl w.heap.size w)
 have H : ((spec_l05Order.f a0).bind fun t1034 => (if t1034 = true then ((spec_l05Fixed.f k a0).bind fun t1035 => ((spec_l05Own.f k t1035 4).bind fun t1038 => (some (t1038, 0)))) else (some (([] : List (List (S42))), 2)))) = some (r1, r2) := h
 clear h
 replace H := Option.bind_eq_some_iff.mp H
 obtain ⟨t1034, A20, H⟩ := H
 replace H : (if t1034 = true then ((spec_l05Fixed.f k a0).bind fun t1035 => ((spec_l05Own.f k t1035 4).bind fun t1038 => (some (t1038, 0)))) else (some (([] : List (List (S42))), 2))) = some (r1, r2) := H
 have A2 := Aside0.mk A20
 clear A20
 by_cases c3 : t1034 = true
 ·subst c3
  have H1 : ((spec_l05Fixed.f k a0).bind fun t1035 => ((spec_l05Own.f k t1035 4).bind fun t1038 => (some (t1038, 0)))) = some (r1, r2) := by rw [if_pos rfl] at H; exact H
  clear H
  have H := H1
  clear H1
  replace H := Option.bind_eq_some_iff.mp H
  obtain ⟨t1035, A40, H⟩ := H
  replace H : ((spec_l05Own.f k t1035 4).bind fun t1038 => (some (t1038, 0))) = some (r1, r2) := H
  have A4 := Aside0.mk A40
  clear A40
  replace H := Option.bind_eq_some_iff.mp H
  obtain ⟨t1038, A50, H⟩ := H
  replace H : (some (t1038, 0)) = some (r1, r2) := H
  have A5 := Aside0.mk A50
  clear A50
  simp only [Option.some.injEq, Prod.mk.injEq] at H
  obtain ⟨rfl, rfl⟩ := H
  go_enter Try.func51, Try.ntmps51
  go_wp2_with (first | ((with_reducible refine gate_callee (f := 76) rfl ?_); refine goesL_ (some 5) rfl rfl Try.func76 (by kernel_rfl) rfl #[.int .i64 a0] rfl (by (try simp only [List.map_toArray, List.map_cons, List.map_nil]); first | done | rfl) ?_; (with_reducible refine (spec_l05Order.calls a0 true _ A2.out).mono ?_); rintro e w' ⟨rfl, ⟨nd, rfl⟩⟩; refine ⟨_, rfl, ?_⟩) | ((with_reducible refine gate_callee (f := 77) rfl ?_); refine goesL_ (some 8) rfl rfl Try.func77 (by kernel_rfl) rfl #[.int .i64 a0] rfl (by (try simp only [List.map_toArray, List.map_cons, List.map_nil]); first | done | rfl) ?_; (with_reducible refine (spec_l05Fixed.calls k a0 t1035 _ A4.out).mono ?_); rintro e w6 ⟨v1036, rfl, ho0, hb⟩; refine ⟨_, rfl, ?_⟩; have n0_ := Aside0.mk (Kd.V_lower (Kd.V_mono (ok' := fun k_ => (w.heap.size ≤ k_)) ho0 (fun k_ hk_ => (Nat.le_trans (below_size (by repeat (with_reducible first | exact HB.out | apply below_alloc | apply pw_below_drewN | apply below_drew1))) hk_))) (below_size (by repeat (with_reducible first | exact HB.out | apply below_alloc | apply pw_below_drewN | apply below_drew1)))); have n1_ := Aside0.mk (below_step (by repeat (with_reducible first | exact HB.out | apply below_alloc | apply pw_below_drewN | apply below_drew1)) hb); clear HB; have HO1037 := n0_; have HB := n1_; clear n0_ n1_; (try clear hb); (try clear ho0); obtain ⟨Ao7, co7, eo7⟩ := Kd.V_slice HO1037.out; subst eo7) | ((with_reducible refine gate_callee (f := 81) rfl ?_); refine goesL_ (some 9) rfl rfl Try.func81 (by kernel_rfl) rfl #[.slice Ao7 t1035.length co7, .int .i64 4] rfl (by (try simp only [List.map_toArray, List.map_cons, List.map_nil]); first | done | rfl) ?_; (with_reducible refine (spec_l05Own.calls k (fun k_ => (w.heap.size ≤ k_)) _ _ t1035 4 t1038 _ ?side1 A5.out).mono ?_); (case side1 => exact HO1037.out); rintro e w8 ⟨v1039, rfl, ho0, hb⟩; refine ⟨_, rfl, ?_⟩; have n0_ := Aside0.mk (Kd.V_elder' (by (with_reducible repeat (first | apply Kd.V_alloc | apply Kd.V_drewN | apply Kd.V_drew)); exact HO1037.out) (Kd.N_base ho0) hb); have n1_ := Aside0.mk (Kd.N_lower (Kd.N_mono (ok' := fun k_ => (w.heap.size ≤ k_)) ho0 (fun k_ hk_ => Or.elim hk_ (fun hs_ => hs_) (fun hn_ => (Nat.le_trans (below_size (by repeat (with_reducible first | exact HB.out | apply below_alloc | apply pw_below_drewN | apply below_drew1))) hn_)))) (below_size (by repeat (with_reducible first | exact HB.out | apply below_alloc | apply pw_below_drewN | apply below_drew1)))); have n2_ := Aside0.mk (below_step (by repeat (with_reducible first | exact HB.out | apply below_alloc | apply pw_below_drewN | apply below_drew1)) hb); clear HO1037; clear HB; have HO1037 := n0_; have HO1040 := n1_; have HB := n2_; clear n0_ n1_ n2_; (try clear hb); (try clear ho0)))
  go_ret2
  exact ⟨_, by first | rfl | (simp [*] <;> rfl), by (with_reducible repeat (first | apply Kd.N_alloc | apply Kd.N_drewN | apply Kd.N_drew)); exact HO1040.out, by repeat (with_reducible first | exact HB.out | apply below_alloc | apply pw_below_drewN | apply below_drew1)⟩
 ·replace c3 := Bool.eq_false_iff.mpr c3
  subst c3
  have H1 : (some (([] : List (List (S42))), 2)) = some (r1, r2) := by rw [if_neg (show ¬ (false = true) by decide)] at H; exact H
  clear H
  have H := H1
  clear H1
  simp only [Option.some.injEq, Prod.mk.injEq] at H
  obtain ⟨rfl, rfl⟩ := H
  go_enter Try.func51, Try.ntmps51
  go_wp2_with (first | ((with_reducible refine gate_callee (f := 76) rfl ?_); refine goesL_ (some 5) rfl rfl Try.func76 (by kernel_rfl) rfl #[.int .i64 a0] rfl (by (try simp only [List.map_toArray, List.map_cons, List.map_nil]); first | done | rfl) ?_; (with_reducible refine (spec_l05Order.calls a0 false _ A2.out).mono ?_); rintro e w' ⟨rfl, ⟨nd, rfl⟩⟩; refine ⟨_, rfl, ?_⟩))
  go_ret2
  exact ⟨_, by first | rfl | (simp [*] <;> rfl), by first | exact Kd.S_nil _ _ _ _ _ | exact Kd.N_nil _ _ _ _ _ | exact Kd.V_nil _ _ _ _ _ | exact Kd.Q_nil _ _ _ _ _ | exact Kd.R_nil _ _ _ _ _, by repeat (with_reducible first | exact HB.out | apply below_alloc | apply pw_below_drewN | apply below_drew1)⟩

/-! ### impl_OneSidedShapes: function 52, by hand -/
-- COMMONS none
def impl_OneSidedShapes.f (k : Nat) (a0 : Int) : Option (List (List S42) × Int) :=
 (impl_isOrder.f a0).bind fun t => if t = true then ((impl_ownForms.f k a0 4).bind fun q => some (q, 0)) else some (([] : List (List S42)), 2)
theorem impl_OneSidedShapes.mono : ∀ a0 k, LeO (impl_OneSidedShapes.f k a0) (impl_OneSidedShapes.f (k + 1) a0) := by
 intro a0 k
 unfold impl_OneSidedShapes.f
 exact LeO.bind (LeO.refl _) fun t => LeO.ite (LeO.bind (impl_ownForms.mono _ _ _) fun _ => LeO.refl _) (LeO.refl _)
set_option maxHeartbeats 4000000 in
set_option maxRecDepth 100000 in
theorem impl_OneSidedShapes.calls (k : Nat) (a0 : Int) (r1 : List (List S42)) (r2 : Int) (w : World) (h : impl_OneSidedShapes.f k a0 = some (r1, r2)) :
  Calls Try.prog 52 #[.int .i64 a0] w fun e w' => ∃ v0_ : Value, e = .returned (.tuple #[v0_, .int .i64 r2]) ∧ Kd.S (Kd.slice 42 k42) 27 w' w.heap.size (fun _ => True) v0_ r1 ∧ Below w.heap.size w w' := by
 obtain ⟨t, ht, h⟩ := Option.bind_eq_some_iff.mp h
 have HT := Aside0.mk ht
 clear ht
 cases t with
 | true =>
  rw [if_pos rfl] at h
  obtain ⟨q, hq, h⟩ := Option.bind_eq_some_iff.mp h
  simp only [Option.some.injEq, Prod.mk.injEq] at h
  obtain ⟨rfl, rfl⟩ := h
  have HQ := Aside0.mk hq
  clear hq
  go_enter Try.func52, Try.ntmps52
  go_wp2_with fail
  refine (impl_isOrder.calls a0 true _ HT.out).mono ?_
  rintro e w1 ⟨rfl, hd⟩
  obtain ⟨md, rfl⟩ := hd.out
  have HB := Aside0.mk (pw_below_drewN (Below.refl w.heap.size w) md)
  clear hd
  generalize w.drewN md = w1 at *
  go_wp2_with fail
  refine (impl_ownForms.calls k a0 4 q _ HQ.out).mono ?_
  rintro e w2 ⟨v, rfl, hS, hb⟩
  obtain ⟨A, cc, ev⟩ := Kd.S_slice hS
  subst ev
  have HS2 := Aside0.mk (Kd.S_lower hS (below_size HB.out))
  have HB2 := Aside0.mk (below_step HB.out hb)
  clear hb hS
  go_wp2_with fail
  go_ret2
  exact ⟨_, rfl, HS2.out, HB2.out⟩
 | false =>
  rw [if_neg (by simp)] at h
  simp only [Option.some.injEq, Prod.mk.injEq] at h
  obtain ⟨rfl, rfl⟩ := h
  go_enter Try.func52, Try.ntmps52
  go_wp2_with fail
  refine (impl_isOrder.calls a0 false _ HT.out).mono ?_
  rintro e w1 ⟨rfl, hd⟩
  obtain ⟨md, rfl⟩ := hd.out
  have HB := Aside0.mk (pw_below_drewN (Below.refl w.heap.size w) md)
  clear hd
  generalize w.drewN md = w1 at *
  go_wp2_with fail
  go_ret2
  exact ⟨_, rfl, Kd.S_nil _ _ _ _ _, HB.out⟩

/-! ### laws_FnExactOneSidedShapes: function 12, by hand -/
-- COMMONS none
def laws_FnExactOneSidedShapes.f (k : Nat) (a0 : Int) : Option Bool :=
 (spec_OneSidedShapes.f k a0).bind fun s => (impl_OneSidedShapes.f k a0).bind fun g => (laws_eqCellSS.f k g.1 s.1).bind fun b => if b = true ∧ g.2 = s.2 then (laws_markCellSS.f k g.1 1).bind fun m => (laws_heldCellSS.f k m.2 1).bind fun q => if q = m.1 ∧ ¬ q < 0 then some true else none else none
theorem laws_FnExactOneSidedShapes.mono : ∀ a0 k, LeO (laws_FnExactOneSidedShapes.f k a0) (laws_FnExactOneSidedShapes.f (k + 1) a0) := by
 intro a0 k
 unfold laws_FnExactOneSidedShapes.f
 exact LeO.bind (spec_OneSidedShapes.mono _ _) fun s => LeO.bind (impl_OneSidedShapes.mono _ _) fun g => LeO.bind (laws_eqCellSS.mono _ _ _) fun b => LeO.ite (LeO.bind (laws_markCellSS.mono _ _ _) fun m => LeO.bind (laws_heldCellSS.mono _ _ _) fun _ => LeO.refl _) (LeO.refl _)
set_option maxHeartbeats 8000000 in
set_option maxRecDepth 100000 in
theorem laws_FnExactOneSidedShapes.calls (k : Nat) (a0 : Int) (r : Bool) (w : World) (h : laws_FnExactOneSidedShapes.f k a0 = some r) :
  Calls Try.prog 12 #[.int .i64 a0] w fun e w' => e = .returned (.bool r) ∧ Below w.heap.size w w' := by
 obtain ⟨⟨s, sc⟩, hs, h1⟩ := Option.bind_eq_some_iff.mp h
 obtain ⟨⟨g, gc⟩, hg, h2⟩ := Option.bind_eq_some_iff.mp h1
 obtain ⟨b, hb, h3⟩ := Option.bind_eq_some_iff.mp h2
 obtain ⟨⟨cb, cg⟩, h4⟩ := ite_some_ h3
 replace cg : gc = sc := cg
 clear h h1 h2 h3
 obtain ⟨⟨m, ml⟩, hm, h5⟩ := Option.bind_eq_some_iff.mp h4
 obtain ⟨q, hq, h6⟩ := Option.bind_eq_some_iff.mp h5
 obtain ⟨⟨cq, c⟩, h7⟩ := ite_some_ h6
 replace cq : q = m := cq
 clear h4 h5 h6
 obtain rfl := Option.some.inj h7
 replace hb : laws_eqCellSS.f k g s = some b := hb
 replace hm : laws_markCellSS.f k g 1 = some (m, ml) := hm
 replace hq : laws_heldCellSS.f k ml 1 = some q := hq
 subst cb
 subst cg
 subst cq
 have z1 : (gc == gc) = true := beq_self_eq_true _
 have z2 : (gc != gc) = false := bne_self_eq_false _
 have z3 : (q == q) = true := beq_self_eq_true _
 have z4 : (q != q) = false := bne_self_eq_false _
 have z5 : decide (q < 0) = false := decide_eq_false c
 have HS := Aside0.mk hs
 have HG := Aside0.mk hg
 have HE := Aside0.mk hb
 have HM := Aside0.mk hm
 have HQ := Aside0.mk hq
 clear h7 hs hg hb hm hq c
 go_enter Try.func12, Try.ntmps12
 go_wp2_with fail
 refine (spec_OneSidedShapes.calls k a0 s gc _ HS.out).mono ?_
 rintro e w1 ⟨v1, rfl, hv, hb⟩
 obtain ⟨A1, c1, e1⟩ := Kd.N_slice hv
 subst e1
 have HV1 := Aside0.mk hv
 have HB1 := Aside0.mk hb
 clear hv hb HS
 go_wp2_with fail
 refine (impl_OneSidedShapes.calls k a0 g gc _ HG.out).mono ?_
 rintro e w2 ⟨v2, rfl, hS, hb⟩
 obtain ⟨A2, c2, e2⟩ := Kd.S_slice hS
 subst e2
 have HS2 := Aside0.mk hS
 have HB2 := Aside0.mk hb
 clear hS hb
 go_wp2_with fail
 refine (laws_eqCellSS.calls k A2 c2 g A1 c1 s true _ (Kd.S_reads' HS2.out).2.2 (Kd.S_reads' HS2.out).2.1 (Kd.N_reads' (Kd.N_below HV1.out HB2.out)).2.2 (Kd.N_reads' HV1.out).2.1 HE.out).mono ?_
 rintro e w3 ⟨rfl, hb⟩
 have HS3 := Aside0.mk (Kd.S_below HS2.out hb)
 have HB3 := Aside0.mk (below_step HB2.out hb)
 clear hb HS2 HB2
 go_wp2_with fail
 refine (laws_markCellSS.calls k _ g 1 q ml w1 _ HB3.out HS3.out HM.out).mono ?_
 rintro e w4 ⟨rfl, hS, hb⟩
 have hlen := (Kd.S_reads' hS).1
 have HS4 := Aside0.mk hS
 have HB4 := Aside0.mk hb
 have HH : Aside0 (∀ W, Below w4.heap.size w4 W → Calls Try.prog 42 #[.slice A2 g.length c2, .int .i64 1] W fun e w' => e = .returned (.int .i64 q) ∧ Below W.heap.size W w') := ⟨by
  intro W hW
  rw [hlen] at hS ⊢
  exact (laws_heldCellSS.calls k A2 c2 ml 1 q W (Kd.S_reads' (Kd.S_below hS hW)).2.2 (Kd.S_reads' hS).2.1 HQ.out).mono (fun e w' h => ⟨h.1, by obtain ⟨md, hd⟩ := h.2.out; rw [hd]; exact pw_below_drewN (Below.refl _ _) md⟩)⟩
 clear hS hb HS3 HB3 HM hlen
 go_wp2_with fail
 refine (HH.out _ (Below.refl _ _)).mono ?_
 rintro e w5 ⟨rfl, hb⟩
 have HB5 := Aside0.mk hb
 clear hb
 go_wp2_with fail
 refine (impl_OneSidedShapes.calls k a0 g gc _ HG.out).mono ?_
 rintro e w6 ⟨v6, rfl, hS, hb⟩
 obtain ⟨A6, c6, e6⟩ := Kd.S_slice hS
 subst e6
 have HS6 := Aside0.mk hS
 have HB6 := Aside0.mk (below_step HB5.out hb)
 clear hS hb HB5
 go_wp2_with fail
 refine (laws_eqCellSS.calls k A6 c6 g A1 c1 s true _ (Kd.S_reads' HS6.out).2.2 (Kd.S_reads' HS6.out).2.1 (Kd.N_reads' (Kd.N_below HV1.out (below_step HB4.out HB6.out))).2.2 (Kd.N_reads' HV1.out).2.1 HE.out).mono ?_
 rintro e w7 ⟨rfl, hb⟩
 have HB7 := Aside0.mk (below_step HB6.out hb)
 clear hb HB6 HS6
 go_wp2_with fail
 refine (HH.out _ HB7.out).mono ?_
 rintro e w8 ⟨rfl, hb⟩
 have HB8 := Aside0.mk (below_step HB1.out (below_step HB4.out (below_step HB7.out hb)))
 clear hb HB7 HB4 HB1
 go_wp2_with fail
 go_ret
 exact ⟨rfl, HB8.out⟩

end Go.Proofs.Ytpilmhjbgbpbmaa.X
