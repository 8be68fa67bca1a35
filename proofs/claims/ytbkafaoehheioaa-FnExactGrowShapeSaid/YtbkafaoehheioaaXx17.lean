-- xprint.py
import Derived.Test.YtbkafaoehheioaaXx0
import Derived.Test.YtbkafaoehheioaaXx10
import Derived.Test.YtbkafaoehheioaaXx11
import Derived.Test.YtbkafaoehheioaaXx16
namespace Go.Proofs.Ytbkafaoehheioaa.X
open Go.RowKit Go.Proofs.YtbkafaoehheioaaW.PrintWords Go.Proofs.YtbkafaoehheioaaW.PrintLast Go.Proofs.YtbkafaoehheioaaW.PrintMore
attribute [local go_sem] max2_int min2_int max_two min_two max_three min_three max_four min_four   -- for this text's walks alone
set_option linter.unusedVariables false
set_option linter.unusedSimpArgs false

/-! ### laws_FnExactGrowShape: function 3, by hand -/
-- COMMONS none
def laws_FnExactGrowShape.f (k : Nat) (l0 : List S57) : Option Bool :=
 (laws_szCellS.f l0 1048576).bind fun t => if t < 0 then some true else (laws_toCellS.f k l0).bind fun x => (spec_GrowShape.f k x).bind fun s => (impl_GrowShape.f k x).bind fun g => (laws_eqCellSS.f k g.1 s.1).bind fun b => (laws_eqCellS.f k x x).bind fun b2 => (laws_markCellS.f k x 1).bind fun mx => if (b = true ∧ g.2 = s.2) ∧ b2 = true ∧ ¬ mx.1 < 0 then (laws_markCellSS.f k g.1 1).bind fun m => (laws_heldCellSS.f k m.2 1).bind fun q => if q = m.1 ∧ ¬ q < 0 then some true else none else none
theorem laws_FnExactGrowShape.mono : ∀ a0 k, LeO (laws_FnExactGrowShape.f k a0) (laws_FnExactGrowShape.f (k + 1) a0) := by
 intro a0 k
 unfold laws_FnExactGrowShape.f
 exact LeO.bind (LeO.refl _) fun t => LeO.ite (LeO.refl _) (LeO.bind (laws_toCellS.mono _ _) fun x => LeO.bind (spec_GrowShape.mono _ _) fun s => LeO.bind (impl_GrowShape.mono _ _) fun g => LeO.bind (laws_eqCellSS.mono _ _ _) fun b => LeO.bind (laws_eqCellS.mono _ _ _) fun b2 => LeO.bind (laws_markCellS.mono _ _ _) fun mx => LeO.ite (LeO.bind (laws_markCellSS.mono _ _ _) fun m => LeO.bind (laws_heldCellSS.mono _ _ _) fun _ => LeO.refl _) (LeO.refl _))
set_option maxHeartbeats 8000000 in
set_option maxRecDepth 100000 in
theorem laws_FnExactGrowShape.calls (k : Nat) (A0 : Option Addr) (c0 : Nat) (l0 : List S57) (r : Bool) (w : World) (hr0 : Kd.C k57 w A0 l0.length l0) (hc0 : l0.length ≤ c0) (h : laws_FnExactGrowShape.f k l0 = some r) :
  Calls Try.prog 3 #[.slice A0 l0.length c0] w fun e w' => e = .returned (.bool r) ∧ Below w.heap.size w w' := by
 have HR0 := Aside0.mk hr0
 have HC0 := Aside0.mk hc0
 clear hr0 hc0
 obtain ⟨t, ht, h⟩ := Option.bind_eq_some_iff.mp h
 have HT := Aside0.mk ht
 clear ht
 by_cases ct : t < 0
 ·rw [if_pos ct] at h
  obtain rfl := Option.some.inj h
  have z1 : decide (t < 0) = true := decide_eq_true ct
  clear h ct
  go_enter Try.func3, Try.ntmps3
  go_wp2_with fail
  refine (laws_szCellS.calls A0 c0 l0 1048576 t _ HR0.out HC0.out HT.out).mono ?_
  rintro e w1 ⟨rfl, hd⟩
  obtain ⟨md, rfl⟩ := hd.out
  go_wp2_with fail
  go_ret
  exact ⟨rfl, pw_below_drewN (Below.refl _ _) md⟩
 rw [if_neg ct] at h
 obtain ⟨x, hx, h1⟩ := Option.bind_eq_some_iff.mp h
 obtain ⟨⟨s, sc⟩, hs, h2⟩ := Option.bind_eq_some_iff.mp h1
 obtain ⟨⟨g, gc⟩, hg, h3⟩ := Option.bind_eq_some_iff.mp h2
 obtain ⟨b, hb, h4⟩ := Option.bind_eq_some_iff.mp h3
 obtain ⟨b2, hb2, h5⟩ := Option.bind_eq_some_iff.mp h4
 obtain ⟨⟨mx, xl⟩, hmx, h6⟩ := Option.bind_eq_some_iff.mp h5
 obtain ⟨⟨⟨cb, cg⟩, cb2, cx⟩, h7⟩ := ite_some_ h6
 replace cg : gc = sc := cg
 replace cx : ¬ mx < 0 := cx
 clear h h1 h2 h3 h4 h5 h6
 obtain ⟨⟨m, ml⟩, hm, h8⟩ := Option.bind_eq_some_iff.mp h7
 obtain ⟨q, hq, h9⟩ := Option.bind_eq_some_iff.mp h8
 obtain ⟨⟨cq, c⟩, h10⟩ := ite_some_ h9
 replace cq : q = m := cq
 clear h7 h8 h9
 obtain rfl := Option.some.inj h10
 replace hb : laws_eqCellSS.f k g s = some b := hb
 replace hm : laws_markCellSS.f k g 1 = some (m, ml) := hm
 replace hq : laws_heldCellSS.f k ml 1 = some q := hq
 subst cb
 subst cb2
 subst cg
 subst cq
 have z0 : decide (t < 0) = false := decide_eq_false ct
 have z1 : (gc == gc) = true := beq_self_eq_true _
 have z2 : (gc != gc) = false := bne_self_eq_false _
 have z3 : (q == q) = true := beq_self_eq_true _
 have z4 : (q != q) = false := bne_self_eq_false _
 have z5 : decide (q < 0) = false := decide_eq_false c
 have z6 : decide (mx < 0) = false := decide_eq_false cx
 have HX := Aside0.mk hx
 have HS := Aside0.mk hs
 have HG := Aside0.mk hg
 have HE := Aside0.mk hb
 have HE2 := Aside0.mk hb2
 have HMX := Aside0.mk hmx
 have HM := Aside0.mk hm
 have HQ := Aside0.mk hq
 clear h10 hx hs hg hb hb2 hmx hm hq c cx ct
 go_enter Try.func3, Try.ntmps3
 go_wp2_with fail
 refine (laws_szCellS.calls A0 c0 l0 1048576 t _ HR0.out HC0.out HT.out).mono ?_
 rintro e w1 ⟨rfl, hd⟩
 obtain ⟨md, rfl⟩ := hd.out
 have HR1 := Aside0.mk (Kd.C_below HR0.out (pw_below_drewN (Below.refl _ _) md))
 have HB1 := Aside0.mk (pw_below_drewN (Below.refl w.heap.size w) md)
 clear hd HR0
 generalize w.drewN md = w1 at *
 go_wp2_with fail
 refine (laws_toCellS.calls k A0 c0 l0 x _ HR1.out HC0.out HX.out).mono ?_
 rintro e w2 ⟨v2, rfl, hR, hb⟩
 obtain ⟨A2, c2, e2⟩ := Kd.R_slice hR
 subst e2
 have HX2 := Aside0.mk (Kd.R_reads' hR).2
 have HR2 := Aside0.mk (Kd.C_below HR1.out hb)
 have HB2 := Aside0.mk (below_step HB1.out hb)
 clear hR hb HR1 HB1
 go_wp2_with fail
 refine (spec_GrowShape.calls k A2 c2 x s gc _ HX2.out.2 HX2.out.1 HS.out).mono ?_
 rintro e w3 ⟨v3, rfl, hv, hb⟩
 obtain ⟨A3, c3, e3⟩ := Kd.V_slice hv
 subst e3
 have HV3 := Aside0.mk (Kd.V_bound hv)
 have HR3 := Aside0.mk (Kd.C_below HR2.out hb)
 have HB3 := Aside0.mk (below_step HB2.out hb)
 clear hv hb HR2 HB2 HX2 HS
 go_wp2_with fail
 refine (laws_toCellS.calls k A0 c0 l0 x _ HR3.out HC0.out HX.out).mono ?_
 rintro e w4 ⟨v4, rfl, hR, hb⟩
 obtain ⟨A4, c4, e4⟩ := Kd.R_slice hR
 subst e4
 have HX4 := Aside0.mk hR
 have HB4 := Aside0.mk hb
 clear hR hb
 go_wp2_with fail
 refine (impl_GrowShape.calls k A4 c4 x g gc _ (Kd.R_reads' HX4.out).2.2 (Kd.R_reads' HX4.out).2.1 HG.out).mono ?_
 rintro e w5 ⟨v5, rfl, hS, hb⟩
 obtain ⟨A5, c5, e5⟩ := Kd.S_slice hS
 subst e5
 have HS5 := Aside0.mk hS
 have HB5 := Aside0.mk hb
 clear hS hb
 go_wp2_with fail
 refine (laws_eqCellSS.calls k A5 c5 g A3 c3 s true _ (Kd.S_reads' HS5.out).2.2 (Kd.S_reads' HS5.out).2.1 (Kd.V_reads' (Kd.V_below HV3.out (below_step HB4.out HB5.out))).2.2 (Kd.V_reads' HV3.out).2.1 HE.out).mono ?_
 rintro e w6 ⟨rfl, hb⟩
 have HS6 := Aside0.mk (Kd.S_below HS5.out hb)
 have HB6 := Aside0.mk (below_step HB5.out hb)
 clear hb HS5 HB5
 go_wp2_with fail
 refine (laws_toCellS.calls k A0 c0 l0 x _ (Kd.C_below HR3.out (below_step HB4.out HB6.out)) HC0.out HX.out).mono ?_
 rintro e w7 ⟨v7, rfl, hR, hb⟩
 obtain ⟨A7, c7, e7⟩ := Kd.R_slice hR
 subst e7
 have HX7 := Aside0.mk (Kd.R_reads' hR).2
 have HS7 := Aside0.mk (Kd.S_below HS6.out hb)
 have HB7 := Aside0.mk (below_step HB6.out hb)
 clear hR hb HS6 HB6
 go_wp2_with fail
 refine (laws_eqCellS.calls k A4 c4 x A7 c7 x true _ (Kd.R_reads' (Kd.R_below HX4.out HB7.out)).2.2 (Kd.R_reads' HX4.out).2.1 HX7.out.2 HX7.out.1 HE2.out).mono ?_
 rintro e w8 ⟨rfl, hb⟩
 have HS8 := Aside0.mk (Kd.S_below HS7.out hb)
 have HB8 := Aside0.mk (below_step HB7.out hb)
 have HX8 := Aside0.mk (Kd.R_tight rfl (Kd.R_below HX4.out HB8.out))
 have HBX := Aside0.mk (Kd.R_lt HX4.out)
 clear hb HS7 HB7 HX7 HX4
 go_wp2_with fail
 refine (laws_markCellS.calls k (fun k => some k = (Value.slice A4 x.length c4).ownBlock) _ x 1 mx xl w3 _ (below_step HB4.out HB8.out) HX8.out HMX.out).mono ?_
 rintro e w9 ⟨rfl, _, hb, hk⟩
 have HS9 := Aside0.mk (Kd.S_mono (ok' := fun _ => True) (Kd.S_lower (Kd.S_kept (Kd.S_bound HS8.out) hk (fun k h1 h2 => by have a := h1.2.1; have b := HBX.out k h2.symm; omega)) (below_size HB4.out)) (fun _ _ => trivial))
 have HB9 := Aside0.mk hb
 clear hb hk HS8 HB8 HX8 HBX
 go_wp2_with fail
 refine (laws_eqCellSS.calls k A5 c5 g A3 c3 s true _ (Kd.S_reads' HS9.out).2.2 (Kd.S_reads' HS9.out).2.1 (Kd.V_reads' (Kd.V_below HV3.out HB9.out)).2.2 (Kd.V_reads' HV3.out).2.1 HE.out).mono ?_
 rintro e w10 ⟨rfl, hb⟩
 have HS10 := Aside0.mk (Kd.S_below HS9.out hb)
 have HB10 := Aside0.mk (below_step HB9.out hb)
 clear hb HS9 HB9
 go_wp2_with fail
 refine (laws_markCellSS.calls k _ g 1 q ml w3 _ HB10.out HS10.out HM.out).mono ?_
 rintro e w11 ⟨rfl, hS, hb⟩
 have hlen := (Kd.S_reads' hS).1
 have HB11 := Aside0.mk hb
 have HH : Aside0 (∀ W, Below w11.heap.size w11 W → Calls Try.prog 16 #[.slice A5 g.length c5, .int .i64 1] W fun e w' => e = .returned (.int .i64 q) ∧ Below W.heap.size W w') := ⟨by
  intro W hW
  rw [hlen] at hS ⊢
  exact (laws_heldCellSS.calls k A5 c5 ml 1 q W (Kd.S_reads' (Kd.S_below hS hW)).2.2 (Kd.S_reads' hS).2.1 HQ.out).mono (fun e w' h => ⟨h.1, by obtain ⟨md, hd⟩ := h.2.out; rw [hd]; exact pw_below_drewN (Below.refl _ _) md⟩)⟩
 clear hS hb HS10 HB10 HM hlen
 go_wp2_with fail
 refine (HH.out _ (Below.refl _ _)).mono ?_
 rintro e w12 ⟨rfl, hb⟩
 have HB12 := Aside0.mk hb
 clear hb
 go_wp2_with fail
 refine (laws_toCellS.calls k A0 c0 l0 x _ (Kd.C_below HR3.out (below_step HB11.out HB12.out)) HC0.out HX.out).mono ?_
 rintro e w13 ⟨v13, rfl, hR, hb⟩
 obtain ⟨A13, c13, e13⟩ := Kd.R_slice hR
 subst e13
 have HX13 := Aside0.mk (Kd.R_reads' hR).2
 have HB13 := Aside0.mk (below_step HB12.out hb)
 clear hR hb HB12
 go_wp2_with fail
 refine (impl_GrowShape.calls k A13 c13 x g gc _ HX13.out.2 HX13.out.1 HG.out).mono ?_
 rintro e w14 ⟨v14, rfl, hS, hb⟩
 obtain ⟨A14, c14, e14⟩ := Kd.S_slice hS
 subst e14
 have HS14 := Aside0.mk hS
 have HB14 := Aside0.mk (below_step HB13.out hb)
 clear hS hb HB13 HX13
 go_wp2_with fail
 refine (laws_eqCellSS.calls k A14 c14 g A3 c3 s true _ (Kd.S_reads' HS14.out).2.2 (Kd.S_reads' HS14.out).2.1 (Kd.V_reads' (Kd.V_below HV3.out (below_step HB11.out HB14.out))).2.2 (Kd.V_reads' HV3.out).2.1 HE.out).mono ?_
 rintro e w15 ⟨rfl, hb⟩
 have HB15 := Aside0.mk (below_step HB14.out hb)
 clear hb HB14 HS14
 go_wp2_with fail
 refine (HH.out _ HB15.out).mono ?_
 rintro e w16 ⟨rfl, hb⟩
 have HB16 := Aside0.mk (below_step HB3.out (below_step HB11.out (below_step HB15.out hb)))
 clear hb HB15 HB11 HB3
 go_wp2_with fail
 go_ret
 exact ⟨rfl, HB16.out⟩

end Go.Proofs.Ytbkafaoehheioaa.X
