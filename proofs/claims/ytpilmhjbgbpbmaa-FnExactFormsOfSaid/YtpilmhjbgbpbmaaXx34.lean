-- xprint.py
import Derived.Test.YtpilmhjbgbpbmaaXx0
import Derived.Test.YtpilmhjbgbpbmaaXx7
import Derived.Test.YtpilmhjbgbpbmaaXx14
import Derived.Test.YtpilmhjbgbpbmaaXx16
import Derived.Test.YtpilmhjbgbpbmaaXx17
import Derived.Test.YtpilmhjbgbpbmaaXx20
import Derived.Test.YtpilmhjbgbpbmaaXx22
namespace Go.Proofs.Ytpilmhjbgbpbmaa.X
open Go.RowKit Go.Proofs.YtpilmhjbgbpbmaaW.PrintWords Go.Proofs.YtpilmhjbgbpbmaaW.PrintLast Go.Proofs.YtpilmhjbgbpbmaaW.PrintMore
attribute [local go_sem] max2_int min2_int max_two min_two max_three min_three max_four min_four   -- for this text's walks alone
set_option linter.unusedVariables false
set_option linter.unusedSimpArgs false

/-! ### spec_FormsOf: function 43 -/
def spec_FormsOf.f (k : Nat) (l0 : List (S42)) : Option ((List (List (S42))) × Int) := (spec_l03Code.f k l0).bind fun t944 => (if t944 = 0 then ((spec_l03Forms.f k l0 8).bind fun t945 => (some (t945, 0))) else (some (([] : List (List (S42))), t944)))
theorem spec_FormsOf.mono : ∀ a0 k, LeO (spec_FormsOf.f k a0) (spec_FormsOf.f (k + 1) a0) := by
 intro a0 k
 unfold spec_FormsOf.f
 repeat' first
   | (with_reducible exact spec_l03Code.mono _ _)
   | (with_reducible exact spec_l03Forms.mono _ _ _)
   | (with_reducible exact LeO.refl _)
   | (with_reducible exact LeO.none _)
   | (with_reducible refine LeO.ite ?_ ?_)
   | (with_reducible refine LeO.bind ?_ (fun _ => ?_))
   | exact spec_l03Code.mono _ _
   | exact spec_l03Forms.mono _ _ _
   | exact LeO.none _
   | refine LeO.ite ?_ ?_
   | refine LeO.bind ?_ (fun _ => ?_)
set_option maxHeartbeats 8000000 in
set_option maxRecDepth 100000 in
theorem spec_FormsOf.calls (k : Nat) (A0 : Option Addr) (c0 : Nat) (l0 : List (S42)) (r1 : List (List (S42))) (r2 : Int) (w : World) (hr0 : Kd.C k42 w A0 l0.length l0) (hc0 : l0.length ≤ c0) (h : spec_FormsOf.f k l0 = some (r1, r2)) :
  Calls Try.prog 43 #[.slice A0 l0.length c0] w fun e w' => ∃ v0_ : Value, e = .returned (.tuple #[v0_, .int .i64 r2]) ∧ Kd.V (Kd.slice 42 k42) 27 w' w.heap.size (fun k_ => (w.heap.size ≤ k_)) v0_ r1 ∧ Below w.heap.size w w' := by
 have HR0 := Aside0.mk hr0
 have HC0 := Aside0.mk hc0
 clear hr0 hc0
 have HB := Aside0.mk (Below.refl w.heap.size w)
 have H : ((spec_l03Code.f k l0).bind fun t944 => (if t944 = 0 then ((spec_l03Forms.f k l0 8).bind fun t945 => (some (t945, 0))) else (some (([] : List (List (S42))), t944)))) = some (r1, r2) := h
 clear h
 replace H := Option.bind_eq_some_iff.mp H
 obtain ⟨t944, A20, H⟩ := H
 replace H : (if t944 = 0 then ((spec_l03Forms.f k l0 8).bind fun t945 => (some (t945, 0))) else (some (([] : List (List (S42))), t944))) = some (r1, r2) := H
 have A2 := Aside0.mk A20
 clear A20
 by_cases c3 : t944 = 0
 ·rw [if_pos c3] at H
  have c3b0 : (t944 == 0) = true := beq_iff_eq.mpr c3
  have c3b1 : (t944 != 0) = false := bne_eq_false_iff_eq.mpr c3
  clear c3
  replace H := Option.bind_eq_some_iff.mp H
  obtain ⟨t945, A40, H⟩ := H
  replace H : (some (t945, 0)) = some (r1, r2) := H
  have A4 := Aside0.mk A40
  clear A40
  simp only [Option.some.injEq, Prod.mk.injEq] at H
  obtain ⟨rfl, rfl⟩ := H
  go_enter Try.func43, Try.ntmps43
  go_wp2_with (first | ((with_reducible refine gate_callee (f := 53) rfl ?_); refine goesL_ (some 6) rfl rfl Try.func53 (by kernel_rfl) rfl #[.slice A0 l0.length c0] rfl (by (try simp only [List.map_toArray, List.map_cons, List.map_nil]); first | done | rfl) ?_; (with_reducible refine (spec_l03Code.calls k _ _ l0 t944 _ ?side1 ?side2 A2.out).mono ?_); (case side1 => repeat (first | exact HR0.out | (with_reducible refine Kd.C_alloc ?_ _) | (with_reducible refine Kd.C_drewN ?_ _) | (with_reducible refine Kd.C_drew ?_))); (case side2 => exact HC0.out); rintro e w5 ⟨rfl, hb⟩; refine ⟨_, rfl, ?_⟩; have n0_ := Aside0.mk (below_step (by repeat (with_reducible first | exact HB.out | apply below_alloc | apply pw_below_drewN | apply below_drew1)) hb); clear HB; have HB := n0_; clear n0_; (try clear hb)) | ((with_reducible refine gate_callee (f := 60) rfl ?_); refine goesL_ (some 11) rfl rfl Try.func60 (by kernel_rfl) rfl #[.slice A0 l0.length c0, .int .i64 8] rfl (by (try simp only [List.map_toArray, List.map_cons, List.map_nil]); first | done | rfl) ?_; (with_reducible refine (spec_l03Forms.calls k _ _ l0 8 t945 _ ?side1 ?side2 A4.out).mono ?_); (case side1 => repeat (first | exact (Kd.C_below HR0.out HB.out) | (with_reducible refine Kd.C_alloc ?_ _) | (with_reducible refine Kd.C_drewN ?_ _) | (with_reducible refine Kd.C_drew ?_))); (case side2 => exact HC0.out); rintro e w6 ⟨v946, rfl, ho0, hb⟩; refine ⟨_, rfl, ?_⟩; have n0_ := Aside0.mk (Kd.V_lower (Kd.V_mono (ok' := fun k_ => (w.heap.size ≤ k_)) ho0 (fun k_ hk_ => (Nat.le_trans (below_size (by repeat (with_reducible first | exact HB.out | apply below_alloc | apply pw_below_drewN | apply below_drew1))) hk_))) (below_size (by repeat (with_reducible first | exact HB.out | apply below_alloc | apply pw_below_drewN | apply below_drew1)))); have n1_ := Aside0.mk (below_step (by repeat (with_reducible first | exact HB.out | apply below_alloc | apply pw_below_drewN | apply below_drew1)) hb); clear HB; have HO947 := n0_; have HB := n1_; clear n0_ n1_; (try clear hb); (try clear ho0)))
  go_ret2
  exact ⟨_, by first | rfl | (simp [*] <;> rfl), by (with_reducible repeat (first | apply Kd.V_alloc | apply Kd.V_drewN | apply Kd.V_drew)); exact HO947.out, by repeat (with_reducible first | exact HB.out | apply below_alloc | apply pw_below_drewN | apply below_drew1)⟩
 ·rw [if_neg c3] at H
  have c3b0 : (t944 == 0) = false := beq_eq_false_iff_ne.mpr c3
  have c3b1 : (t944 != 0) = true := bne_iff_ne.mpr c3
  simp only [Option.some.injEq, Prod.mk.injEq] at H
  obtain ⟨rfl, rfl⟩ := H
  go_enter Try.func43, Try.ntmps43
  go_wp2_with (first | ((with_reducible refine gate_callee (f := 53) rfl ?_); refine goesL_ (some 6) rfl rfl Try.func53 (by kernel_rfl) rfl #[.slice A0 l0.length c0] rfl (by (try simp only [List.map_toArray, List.map_cons, List.map_nil]); first | done | rfl) ?_; (with_reducible refine (spec_l03Code.calls k _ _ l0 t944 _ ?side1 ?side2 A2.out).mono ?_); (case side1 => repeat (first | exact HR0.out | (with_reducible refine Kd.C_alloc ?_ _) | (with_reducible refine Kd.C_drewN ?_ _) | (with_reducible refine Kd.C_drew ?_))); (case side2 => exact HC0.out); rintro e w7 ⟨rfl, hb⟩; refine ⟨_, rfl, ?_⟩; have n0_ := Aside0.mk (below_step (by repeat (with_reducible first | exact HB.out | apply below_alloc | apply pw_below_drewN | apply below_drew1)) hb); clear HB; have HB := n0_; clear n0_; (try clear hb)))
  go_ret2
  exact ⟨_, by first | rfl | (simp [*] <;> rfl), Kd.S_V (base := w.heap.size) (Kd.S_nil _ _ _ _ _), by repeat (with_reducible first | exact HB.out | apply below_alloc | apply pw_below_drewN | apply below_drew1)⟩

/-! ### impl_FormsOf: function 44, by hand -/
-- COMMONS none
def impl_FormsOf.f (k : Nat) (l0 : List S42) : Option (List (List S42) × Int) :=
 (impl_shapeCode.f k l0).bind fun t => if t = 0 then ((impl_forms.f k l0 8).bind fun o => (impl_tidyShapes.f k o).bind fun q => some (q, 0)) else some (([] : List (List S42)), t)
theorem impl_FormsOf.mono : ∀ a0 k, LeO (impl_FormsOf.f k a0) (impl_FormsOf.f (k + 1) a0) := by
 intro a0 k
 unfold impl_FormsOf.f
 refine LeO.bind (impl_shapeCode.mono _ _) fun t => LeO.ite (LeO.bind (impl_forms.mono _ _ _) fun _ => LeO.bind (impl_tidyShapes.mono _ _) fun _ => LeO.refl _) (LeO.refl _)
set_option maxHeartbeats 4000000 in
set_option maxRecDepth 100000 in
theorem impl_FormsOf.calls (k : Nat) (A0 : Option Addr) (c0 : Nat) (l0 : List S42) (r1 : List (List S42)) (r2 : Int) (w : World) (hr0 : Kd.C k42 w A0 l0.length l0) (hc0 : l0.length ≤ c0) (h : impl_FormsOf.f k l0 = some (r1, r2)) :
  Calls Try.prog 44 #[.slice A0 l0.length c0] w fun e w' => ∃ v0_ : Value, e = .returned (.tuple #[v0_, .int .i64 r2]) ∧ Kd.S (Kd.slice 42 k42) 27 w' w.heap.size (fun _ => True) v0_ r1 ∧ Below w.heap.size w w' := by
 unfold impl_FormsOf.f at h
 have HR0 := Aside0.mk hr0
 have HC0 := Aside0.mk hc0
 clear hr0 hc0
 obtain ⟨t, ht, h⟩ := Option.bind_eq_some_iff.mp h
 have HT := Aside0.mk ht
 clear ht
 by_cases c : t = 0
 ·rw [if_pos c] at h
  subst c
  obtain ⟨o, ho, h⟩ := Option.bind_eq_some_iff.mp h
  obtain ⟨q, hq, h⟩ := Option.bind_eq_some_iff.mp h
  simp only [Option.some.injEq, Prod.mk.injEq] at h
  obtain ⟨rfl, rfl⟩ := h
  have HO := Aside0.mk ho
  have HQ := Aside0.mk hq
  clear ho hq
  go_enter Try.func44, Try.ntmps44
  go_wp2_with fail
  refine (impl_shapeCode.calls k A0 c0 l0 0 _ HR0.out HC0.out HT.out).mono ?_
  rintro e w1 ⟨rfl, hb⟩
  have HB1 := Aside0.mk hb
  clear hb
  go_wp2_with fail
  refine (impl_forms.calls k A0 c0 l0 8 o _ (Kd.C_below HR0.out HB1.out) HC0.out HO.out).mono ?_
  rintro e w2 ⟨v, rfl, hS, hb⟩
  have HS2 := Aside0.mk (Kd.S_lower hS (below_size HB1.out))
  have HB2 := Aside0.mk (below_step HB1.out hb)
  clear hb hS
  obtain ⟨A, cc, ev⟩ := Kd.S_slice HS2.out
  subst ev
  go_wp2_with fail
  refine (tidy_walk _ o q w w2 HB2.out HS2.out k HQ.out).mono ?_
  rintro e w3 ⟨v3, rfl, hS, hb⟩
  have HS3 := Aside0.mk hS
  have HB3 := Aside0.mk hb
  clear hb hS
  go_wp2_with fail
  go_ret2
  exact ⟨_, rfl, HS3.out, HB3.out⟩
 ·rw [if_neg c] at h
  simp only [Option.some.injEq, Prod.mk.injEq] at h
  obtain ⟨rfl, rfl⟩ := h
  have c3b0 : (t == 0) = false := beq_eq_false_iff_ne.mpr c
  have c3b1 : (t != 0) = true := bne_iff_ne.mpr c
  go_enter Try.func44, Try.ntmps44
  go_wp2_with fail
  refine (impl_shapeCode.calls k A0 c0 l0 t _ HR0.out HC0.out HT.out).mono ?_
  rintro e w1 ⟨rfl, hb⟩
  have HB1 := Aside0.mk hb
  clear hb
  go_wp2_with fail
  go_ret2
  exact ⟨_, rfl, Kd.S_nil _ _ _ _ _, HB1.out⟩

/-! ### laws_FnExactFormsOf: function 8, by hand -/
-- COMMONS none
def laws_FnExactFormsOf.f (k : Nat) (l0 : List S56) : Option Bool :=
 (laws_szCellS.f l0 1048576).bind fun t => if t < 0 then some true else (laws_toCellS.f k l0).bind fun x => (spec_FormsOf.f k x).bind fun s => (impl_FormsOf.f k x).bind fun g => (laws_eqCellSS.f k g.1 s.1).bind fun b => (laws_eqCellS.f k x x).bind fun b2 => (laws_markCellS.f k x 1).bind fun mx => if (b = true ∧ g.2 = s.2) ∧ b2 = true ∧ ¬ mx.1 < 0 then (laws_markCellSS.f k g.1 1).bind fun m => (laws_heldCellSS.f k m.2 1).bind fun q => if q = m.1 ∧ ¬ q < 0 then some true else none else none
theorem laws_FnExactFormsOf.mono : ∀ a0 k, LeO (laws_FnExactFormsOf.f k a0) (laws_FnExactFormsOf.f (k + 1) a0) := by
 intro a0 k
 unfold laws_FnExactFormsOf.f
 exact LeO.bind (LeO.refl _) fun t => LeO.ite (LeO.refl _) (LeO.bind (laws_toCellS.mono _ _) fun x => LeO.bind (spec_FormsOf.mono _ _) fun s => LeO.bind (impl_FormsOf.mono _ _) fun g => LeO.bind (laws_eqCellSS.mono _ _ _) fun b => LeO.bind (laws_eqCellS.mono _ _ _) fun b2 => LeO.bind (laws_markCellS.mono _ _ _) fun mx => LeO.ite (LeO.bind (laws_markCellSS.mono _ _ _) fun m => LeO.bind (laws_heldCellSS.mono _ _ _) fun _ => LeO.refl _) (LeO.refl _))
set_option maxHeartbeats 8000000 in
set_option maxRecDepth 100000 in
theorem laws_FnExactFormsOf.calls (k : Nat) (A0 : Option Addr) (c0 : Nat) (l0 : List S56) (r : Bool) (w : World) (hr0 : Kd.C k56 w A0 l0.length l0) (hc0 : l0.length ≤ c0) (h : laws_FnExactFormsOf.f k l0 = some r) :
  Calls Try.prog 8 #[.slice A0 l0.length c0] w fun e w' => e = .returned (.bool r) ∧ Below w.heap.size w w' := by
 have HR0 := Aside0.mk hr0
 have HC0 := Aside0.mk hc0
 clear hr0 hc0
 obtain ⟨t, ht, h⟩ := Option.bind_eq_some_iff.mp h
 have HT := Aside0.mk ht
 clear ht
 by_cases ct : t < 0
 ·rw [if_pos ct] at h
  obtain rfl := Option.some.inj h
  have z1 : decide (t < 0) = true := decide_eq_true ct
  clear h ct
  go_enter Try.func8, Try.ntmps8
  go_wp2_with fail
  refine (laws_szCellS.calls A0 c0 l0 1048576 t _ HR0.out HC0.out HT.out).mono ?_
  rintro e w1 ⟨rfl, hd⟩
  obtain ⟨md, rfl⟩ := hd.out
  go_wp2_with fail
  go_ret
  exact ⟨rfl, pw_below_drewN (Below.refl _ _) md⟩
 rw [if_neg ct] at h
 obtain ⟨x, hx, h1⟩ := Option.bind_eq_some_iff.mp h
 obtain ⟨⟨s, sc⟩, hs, h2⟩ := Option.bind_eq_some_iff.mp h1
 obtain ⟨⟨g, gc⟩, hg, h3⟩ := Option.bind_eq_some_iff.mp h2
 obtain ⟨b, hb, h4⟩ := Option.bind_eq_some_iff.mp h3
 obtain ⟨b2, hb2, h5⟩ := Option.bind_eq_some_iff.mp h4
 obtain ⟨⟨mx, xl⟩, hmx, h6⟩ := Option.bind_eq_some_iff.mp h5
 obtain ⟨⟨⟨cb, cg⟩, cb2, cx⟩, h7⟩ := ite_some_ h6
 replace cg : gc = sc := cg
 replace cx : ¬ mx < 0 := cx
 clear h h1 h2 h3 h4 h5 h6
 obtain ⟨⟨m, ml⟩, hm, h8⟩ := Option.bind_eq_some_iff.mp h7
 obtain ⟨q, hq, h9⟩ := Option.bind_eq_some_iff.mp h8
 obtain ⟨⟨cq, c⟩, h10⟩ := ite_some_ h9
 replace cq : q = m := cq
 clear h7 h8 h9
 obtain rfl := Option.some.inj h10
 replace hb : laws_eqCellSS.f k g s = some b := hb
 replace hm : laws_markCellSS.f k g 1 = some (m, ml) := hm
 replace hq : laws_heldCellSS.f k ml 1 = some q := hq
 subst cb
 subst cb2
 subst cg
 subst cq
 have z0 : decide (t < 0) = false := decide_eq_false ct
 have z1 : (gc == gc) = true := beq_self_eq_true _
 have z2 : (gc != gc) = false := bne_self_eq_false _
 have z3 : (q == q) = true := beq_self_eq_true _
 have z4 : (q != q) = false := bne_self_eq_false _
 have z5 : decide (q < 0) = false := decide_eq_false c
 have z6 : decide (mx < 0) = false := decide_eq_false cx
 have HX := Aside0.mk hx
 have HS := Aside0.mk hs
 have HG := Aside0.mk hg
 have HE := Aside0.mk hb
 have HE2 := Aside0.mk hb2
 have HMX := Aside0.mk hmx
 have HM := Aside0.mk hm
 have HQ := Aside0.mk hq
 clear h10 hx hs hg hb hb2 hmx hm hq c cx ct
 go_enter Try.func8, Try.ntmps8
 go_wp2_with fail
 refine (laws_szCellS.calls A0 c0 l0 1048576 t _ HR0.out HC0.out HT.out).mono ?_
 rintro e w1 ⟨rfl, hd⟩
 obtain ⟨md, rfl⟩ := hd.out
 have HR1 := Aside0.mk (Kd.C_below HR0.out (pw_below_drewN (Below.refl _ _) md))
 have HB1 := Aside0.mk (pw_below_drewN (Below.refl w.heap.size w) md)
 clear hd HR0
 generalize w.drewN md = w1 at *
 go_wp2_with fail
 refine (laws_toCellS.calls k A0 c0 l0 x _ HR1.out HC0.out HX.out).mono ?_
 rintro e w2 ⟨v2, rfl, hR, hb⟩
 obtain ⟨A2, c2, e2⟩ := Kd.R_slice hR
 subst e2
 have HX2 := Aside0.mk (Kd.R_reads' hR).2
 have HR2 := Aside0.mk (Kd.C_below HR1.out hb)
 have HB2 := Aside0.mk (below_step HB1.out hb)
 clear hR hb HR1 HB1
 go_wp2_with fail
 refine (spec_FormsOf.calls k A2 c2 x s gc _ HX2.out.2 HX2.out.1 HS.out).mono ?_
 rintro e w3 ⟨v3, rfl, hv, hb⟩
 obtain ⟨A3, c3, e3⟩ := Kd.V_slice hv
 subst e3
 have HV3 := Aside0.mk (Kd.V_bound hv)
 have HR3 := Aside0.mk (Kd.C_below HR2.out hb)
 have HB3 := Aside0.mk (below_step HB2.out hb)
 clear hv hb HR2 HB2 HX2 HS
 go_wp2_with fail
 refine (laws_toCellS.calls k A0 c0 l0 x _ HR3.out HC0.out HX.out).mono ?_
 rintro e w4 ⟨v4, rfl, hR, hb⟩
 obtain ⟨A4, c4, e4⟩ := Kd.R_slice hR
 subst e4
 have HX4 := Aside0.mk hR
 have HB4 := Aside0.mk hb
 clear hR hb
 go_wp2_with fail
 refine (impl_FormsOf.calls k A4 c4 x g gc _ (Kd.R_reads' HX4.out).2.2 (Kd.R_reads' HX4.out).2.1 HG.out).mono ?_
 rintro e w5 ⟨v5, rfl, hS, hb⟩
 obtain ⟨A5, c5, e5⟩ := Kd.S_slice hS
 subst e5
 have HS5 := Aside0.mk hS
 have HB5 := Aside0.mk hb
 clear hS hb
 go_wp2_with fail
 refine (laws_eqCellSS.calls k A5 c5 g A3 c3 s true _ (Kd.S_reads' HS5.out).2.2 (Kd.S_reads' HS5.out).2.1 (Kd.V_reads' (Kd.V_below HV3.out (below_step HB4.out HB5.out))).2.2 (Kd.V_reads' HV3.out).2.1 HE.out).mono ?_
 rintro e w6 ⟨rfl, hb⟩
 have HS6 := Aside0.mk (Kd.S_below HS5.out hb)
 have HB6 := Aside0.mk (below_step HB5.out hb)
 clear hb HS5 HB5
 go_wp2_with fail
 refine (laws_toCellS.calls k A0 c0 l0 x _ (Kd.C_below HR3.out (below_step HB4.out HB6.out)) HC0.out HX.out).mono ?_
 rintro e w7 ⟨v7, rfl, hR, hb⟩
 obtain ⟨A7, c7, e7⟩ := Kd.R_slice hR
 subst e7
 have HX7 := Aside0.mk (Kd.R_reads' hR).2
 have HS7 := Aside0.mk (Kd.S_below HS6.out hb)
 have HB7 := Aside0.mk (below_step HB6.out hb)
 clear hR hb HS6 HB6
 go_wp2_with fail
 refine (laws_eqCellS.calls k A4 c4 x A7 c7 x true _ (Kd.R_reads' (Kd.R_below HX4.out HB7.out)).2.2 (Kd.R_reads' HX4.out).2.1 HX7.out.2 HX7.out.1 HE2.out).mono ?_
 rintro e w8 ⟨rfl, hb⟩
 have HS8 := Aside0.mk (Kd.S_below HS7.out hb)
 have HB8 := Aside0.mk (below_step HB7.out hb)
 have HX8 := Aside0.mk (Kd.R_tight rfl (Kd.R_below HX4.out HB8.out))
 have HBX := Aside0.mk (Kd.R_lt HX4.out)
 clear hb HS7 HB7 HX7 HX4
 go_wp2_with fail
 refine (laws_markCellS.calls k (fun k => some k = (Value.slice A4 x.length c4).ownBlock) _ x 1 mx xl w3 _ (below_step HB4.out HB8.out) HX8.out HMX.out).mono ?_
 rintro e w9 ⟨rfl, _, hb, hk⟩
 have HS9 := Aside0.mk (Kd.S_mono (ok' := fun _ => True) (Kd.S_lower (Kd.S_kept (Kd.S_bound HS8.out) hk (fun k h1 h2 => by have a := h1.2.1; have b := HBX.out k h2.symm; omega)) (below_size HB4.out)) (fun _ _ => trivial))
 have HB9 := Aside0.mk hb
 clear hb hk HS8 HB8 HX8 HBX
 go_wp2_with fail
 refine (laws_eqCellSS.calls k A5 c5 g A3 c3 s true _ (Kd.S_reads' HS9.out).2.2 (Kd.S_reads' HS9.out).2.1 (Kd.V_reads' (Kd.V_below HV3.out HB9.out)).2.2 (Kd.V_reads' HV3.out).2.1 HE.out).mono ?_
 rintro e w10 ⟨rfl, hb⟩
 have HS10 := Aside0.mk (Kd.S_below HS9.out hb)
 have HB10 := Aside0.mk (below_step HB9.out hb)
 clear hb HS9 HB9
 go_wp2_with fail
 refine (laws_markCellSS.calls k _ g 1 q ml w3 _ HB10.out HS10.out HM.out).mono ?_
 rintro e w11 ⟨rfl, hS, hb⟩
 have hlen := (Kd.S_reads' hS).1
 have HB11 := Aside0.mk hb
 have HH : Aside0 (∀ W, Below w11.heap.size w11 W → Calls Try.prog 42 #[.slice A5 g.length c5, .int .i64 1] W fun e w' => e = .returned (.int .i64 q) ∧ Below W.heap.size W w') := ⟨by
  intro W hW
  rw [hlen] at hS ⊢
  exact (laws_heldCellSS.calls k A5 c5 ml 1 q W (Kd.S_reads' (Kd.S_below hS hW)).2.2 (Kd.S_reads' hS).2.1 HQ.out).mono (fun e w' h => ⟨h.1, by obtain ⟨md, hd⟩ := h.2.out; rw [hd]; exact pw_below_drewN (Below.refl _ _) md⟩)⟩
 clear hS hb HS10 HB10 HM hlen
 go_wp2_with fail
 refine (HH.out _ (Below.refl _ _)).mono ?_
 rintro e w12 ⟨rfl, hb⟩
 have HB12 := Aside0.mk hb
 clear hb
 go_wp2_with fail
 refine (laws_toCellS.calls k A0 c0 l0 x _ (Kd.C_below HR3.out (below_step HB11.out HB12.out)) HC0.out HX.out).mono ?_
 rintro e w13 ⟨v13, rfl, hR, hb⟩
 obtain ⟨A13, c13, e13⟩ := Kd.R_slice hR
 subst e13
 have HX13 := Aside0.mk (Kd.R_reads' hR).2
 have HB13 := Aside0.mk (below_step HB12.out hb)
 clear hR hb HB12
 go_wp2_with fail
 refine (impl_FormsOf.calls k A13 c13 x g gc _ HX13.out.2 HX13.out.1 HG.out).mono ?_
 rintro e w14 ⟨v14, rfl, hS, hb⟩
 obtain ⟨A14, c14, e14⟩ := Kd.S_slice hS
 subst e14
 have HS14 := Aside0.mk hS
 have HB14 := Aside0.mk (below_step HB13.out hb)
 clear hS hb HB13 HX13
 go_wp2_with fail
 refine (laws_eqCellSS.calls k A14 c14 g A3 c3 s true _ (Kd.S_reads' HS14.out).2.2 (Kd.S_reads' HS14.out).2.1 (Kd.V_reads' (Kd.V_below HV3.out (below_step HB11.out HB14.out))).2.2 (Kd.V_reads' HV3.out).2.1 HE.out).mono ?_
 rintro e w15 ⟨rfl, hb⟩
 have HB15 := Aside0.mk (below_step HB14.out hb)
 clear hb HB14 HS14
 go_wp2_with fail
 refine (HH.out _ HB15.out).mono ?_
 rintro e w16 ⟨rfl, hb⟩
 have HB16 := Aside0.mk (below_step HB3.out (below_step HB11.out (below_step HB15.out hb)))
 clear hb HB15 HB11 HB3
 go_wp2_with fail
 go_ret
 exact ⟨rfl, HB16.out⟩

end Go.Proofs.Ytpilmhjbgbpbmaa.X
