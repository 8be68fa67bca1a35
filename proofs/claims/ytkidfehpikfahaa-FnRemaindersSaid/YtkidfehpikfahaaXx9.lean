-- Written by xprint.py, a program of this session, on the kit's print.py: functions of the seat in one namespace.
import Derived.Test.YtkidfehpikfahaaXx0
import Derived.Test.YtkidfehpikfahaaXx1
import Derived.Test.YtkidfehpikfahaaXx5
import Derived.Test.YtkidfehpikfahaaXx8
namespace Go.Proofs.Ytkidfehpikfahaa.X
open Go.RowKit Go.Proofs.YtkidfehpikfahaaW.PrintWords Go.Proofs.YtkidfehpikfahaaW.PrintLast Go.Proofs.YtkidfehpikfahaaW.PrintMore
attribute [local go_sem] max2_int min2_int max_two min_two max_three min_three max_four min_four   -- for this text's walks alone
set_option linter.unusedVariables false
set_option linter.unusedSimpArgs false

/-! ### spec_DrawModOf: function 32 -/
def spec_DrawModOf.f (k : Nat) (l0 : List Int) : Option (Int × Int) := (spec_l01From.f k l0).bind fun bt282 => ((spec_l01DrawNumber.f bt282.1 bt282.2.1 bt282.2.2).bind fun bt286 => ((spec_l01Next.f bt282.1 bt286.2.1 bt286.2.2 2).bind fun bt289 => (if bt289.1 = 0 then ((spec_l01DrawNumber.f bt282.1 bt289.2.1 bt289.2.2).bind fun bt292 => (some (wrap64 (-bt286.1), bt292.1))) else ((spec_l01DrawNumber.f bt282.1 bt289.2.1 bt289.2.2).bind fun bt295 => (some (bt286.1, bt295.1))))))
theorem spec_DrawModOf.mono : ∀ a0 k, LeO (spec_DrawModOf.f k a0) (spec_DrawModOf.f (k + 1) a0) := by
  intro a0 k
  unfold spec_DrawModOf.f
  repeat' first
      | (with_reducible exact spec_l01From.mono _ _)
      | (with_reducible exact LeO.refl _)
      | (with_reducible exact LeO.none _)
      | (with_reducible refine LeO.ite ?_ ?_)
      | (with_reducible refine LeO.bind ?_ (fun _ => ?_))
      | exact spec_l01From.mono _ _
      | exact LeO.none _
      | refine LeO.ite ?_ ?_
      | refine LeO.bind ?_ (fun _ => ?_)
set_option maxHeartbeats 8000000 in
set_option maxRecDepth 100000 in
theorem spec_DrawModOf.calls (k : Nat) (A0 : Option Addr) (c0 : Nat) (l0 : List Int) (r1 : Int) (r2 : Int) (w : World) (hr0 : Kd.C (Kd.int .u8) w A0 l0.length l0) (hc0 : l0.length ≤ c0) (h : spec_DrawModOf.f k l0 = some (r1, r2)) :
    Calls Try.prog 32 #[.slice A0 l0.length c0] w fun e w' => e = .returned (.tuple #[.int .i64 r1, .int .i64 r2]) ∧ Below w.heap.size w w' := by
  have HR0 := Aside0.mk hr0
  have HC0 := Aside0.mk hc0
  clear hr0 hc0
  have HB := Aside0.mk (Below.refl w.heap.size w)
  have H : ((spec_l01From.f k l0).bind fun bt282 => ((spec_l01DrawNumber.f bt282.1 bt282.2.1 bt282.2.2).bind fun bt286 => ((spec_l01Next.f bt282.1 bt286.2.1 bt286.2.2 2).bind fun bt289 => (if bt289.1 = 0 then ((spec_l01DrawNumber.f bt282.1 bt289.2.1 bt289.2.2).bind fun bt292 => (some (wrap64 (-bt286.1), bt292.1))) else ((spec_l01DrawNumber.f bt282.1 bt289.2.1 bt289.2.2).bind fun bt295 => (some (bt286.1, bt295.1))))))) = some (r1, r2) := h
  clear h
  replace H := Option.bind_eq_some_iff.mp H
  obtain ⟨⟨t282, t283, t284⟩, A20, H⟩ := H
  replace H : ((spec_l01DrawNumber.f t282 t283 t284).bind fun bt286 => ((spec_l01Next.f t282 bt286.2.1 bt286.2.2 2).bind fun bt289 => (if bt289.1 = 0 then ((spec_l01DrawNumber.f t282 bt289.2.1 bt289.2.2).bind fun bt292 => (some (wrap64 (-bt286.1), bt292.1))) else ((spec_l01DrawNumber.f t282 bt289.2.1 bt289.2.2).bind fun bt295 => (some (bt286.1, bt295.1)))))) = some (r1, r2) := H
  have A2 := Aside0.mk A20
  clear A20
  replace H := Option.bind_eq_some_iff.mp H
  obtain ⟨⟨t286, t287, t288⟩, A30, H⟩ := H
  replace H : ((spec_l01Next.f t282 t287 t288 2).bind fun bt289 => (if bt289.1 = 0 then ((spec_l01DrawNumber.f t282 bt289.2.1 bt289.2.2).bind fun bt292 => (some (wrap64 (-t286), bt292.1))) else ((spec_l01DrawNumber.f t282 bt289.2.1 bt289.2.2).bind fun bt295 => (some (t286, bt295.1))))) = some (r1, r2) := H
  have A3 := Aside0.mk A30
  clear A30
  replace H := Option.bind_eq_some_iff.mp H
  obtain ⟨⟨t289, t290, t291⟩, A40, H⟩ := H
  replace H : (if t289 = 0 then ((spec_l01DrawNumber.f t282 t290 t291).bind fun bt292 => (some (wrap64 (-t286), bt292.1))) else ((spec_l01DrawNumber.f t282 t290 t291).bind fun bt295 => (some (t286, bt295.1)))) = some (r1, r2) := H
  have A4 := Aside0.mk A40
  clear A40
  by_cases c5 : t289 = 0
  · rw [if_pos c5] at H
    have c5b0 : (t289 == 0) = true := beq_iff_eq.mpr c5
    have c5b1 : (t289 != 0) = false := bne_eq_false_iff_eq.mpr c5
    clear c5
    replace H := Option.bind_eq_some_iff.mp H
    obtain ⟨⟨t292, t293, t294⟩, A60, H⟩ := H
    replace H : (some (wrap64 (-t286), t292)) = some (r1, r2) := H
    have A6 := Aside0.mk A60
    clear A60
    simp only [Option.some.injEq, Prod.mk.injEq] at H
    obtain ⟨rfl, rfl⟩ := H
    go_enter Try.func32, Try.ntmps32
    go_wp2_with (first | ((with_reducible refine gate_callee (f := 51) rfl ?_); refine goesL_ (some 7) rfl rfl Try.func51 (by kernel_rfl) rfl #[.slice A0 l0.length c0] rfl (by (try simp only [List.map_toArray, List.map_cons, List.map_nil]); first | done | rfl | (simp only [List.length_drop, List.length_take]; rfl)) ?_; (with_reducible refine (spec_l01From.calls k _ _ l0 t282 t283 t284 w _ ?side1 ?side2 ?side3 A2.out).mono ?_); (case side1 => repeat (first | (with_reducible first | exact HB.out | apply below_alloc | apply pw_below_drewN | apply below_drew1) | exact HB.out)); (case side2 => exact HR0.out); (case side3 => exact HC0.out); rintro e w7 ⟨g285, rfl, hi, hb, hb2⟩; refine ⟨_, rfl, ?_⟩; have n0_ := Aside0.mk (hb); have n1_ := Aside0.mk (hi); clear HB; have HB := n0_; have HI285 := n1_; clear n0_ n1_; (try clear hb); (try clear hb2); (try clear hk); (try clear hi)) | ((with_reducible refine gate_callee (f := 53) rfl ?_); refine goesL_ (some 9) rfl rfl Try.func53 (by kernel_rfl) rfl #[.pointer (some ⟨g285, 0, none⟩)] rfl (by (try simp only [List.map_toArray, List.map_cons, List.map_nil]); first | done | rfl | (simp only [List.length_drop, List.length_take]; rfl)) ?_; (with_reducible refine (spec_l01DrawNumber.calls g285 t282 t283 t284 t286 t287 t288 w _ ?side1 ?side2 A3.out).mono ?_); (case side1 => repeat (first | (with_reducible first | exact HI285.out | apply IsS52.alloc | apply IsS52.drewN | apply IsS52.drew | apply IsS52.set_1 | apply IsS52.set_2) | exact HI285.out)); (case side2 => repeat (first | (with_reducible first | exact HB.out | apply below_alloc | apply pw_below_drewN | apply below_drew1 | refine below_set ?_ (IsS52.ge HI285.out)) | exact HB.out)); rintro e w8 ⟨rfl, hi, hb, hk⟩; refine ⟨_, rfl, ?_⟩; have n0_ := Aside0.mk (hb); have n1_ := Aside0.mk (hi); clear HB; clear HI285; have HB := n0_; have HI285 := n1_; clear n0_ n1_; (try clear hb); (try clear hb2); (try clear hk); (try clear hi)) | ((with_reducible refine gate_callee (f := 52) rfl ?_); refine goesL_ (some 11) rfl rfl Try.func52 (by kernel_rfl) rfl #[.pointer (some ⟨g285, 0, none⟩), .int .i64 2] rfl (by (try simp only [List.map_toArray, List.map_cons, List.map_nil]); first | done | rfl | (simp only [List.length_drop, List.length_take]; rfl)) ?_; (with_reducible refine (spec_l01Next.calls g285 t282 t287 t288 2 t289 t290 t291 w _ ?side1 ?side2 A4.out).mono ?_); (case side1 => repeat (first | (with_reducible first | exact HI285.out | apply IsS52.alloc | apply IsS52.drewN | apply IsS52.drew | apply IsS52.set_1 | apply IsS52.set_2) | exact HI285.out)); (case side2 => repeat (first | (with_reducible first | exact HB.out | apply below_alloc | apply pw_below_drewN | apply below_drew1 | refine below_set ?_ (IsS52.ge HI285.out)) | exact HB.out)); rintro e w9 ⟨rfl, hi, hb, hk⟩; refine ⟨_, rfl, ?_⟩; have n0_ := Aside0.mk (hb); have n1_ := Aside0.mk (hi); clear HB; clear HI285; have HB := n0_; have HI285 := n1_; clear n0_ n1_; (try clear hb); (try clear hb2); (try clear hk); (try clear hi)) | ((with_reducible refine gate_callee (f := 53) rfl ?_); refine goesL_ (some 17) rfl rfl Try.func53 (by kernel_rfl) rfl #[.pointer (some ⟨g285, 0, none⟩)] rfl (by (try simp only [List.map_toArray, List.map_cons, List.map_nil]); first | done | rfl | (simp only [List.length_drop, List.length_take]; rfl)) ?_; (with_reducible refine (spec_l01DrawNumber.calls g285 t282 t290 t291 t292 t293 t294 w _ ?side1 ?side2 A6.out).mono ?_); (case side1 => repeat (first | (with_reducible first | exact HI285.out | apply IsS52.alloc | apply IsS52.drewN | apply IsS52.drew | apply IsS52.set_1 | apply IsS52.set_2) | exact HI285.out)); (case side2 => repeat (first | (with_reducible first | exact HB.out | apply below_alloc | apply pw_below_drewN | apply below_drew1 | refine below_set ?_ (IsS52.ge HI285.out)) | exact HB.out)); rintro e w10 ⟨rfl, hi, hb, hk⟩; refine ⟨_, rfl, ?_⟩; have n0_ := Aside0.mk (hb); have n1_ := Aside0.mk (hi); clear HB; clear HI285; have HB := n0_; have HI285 := n1_; clear n0_ n1_; (try clear hb); (try clear hb2); (try clear hk); (try clear hi)))
    go_ret2
    exact ⟨by first | rfl | (simp [errW_none, errW_some] <;> rfl) | (simp [*, errW_none, errW_some] <;> rfl), by repeat (first | (with_reducible first | exact HB.out | apply below_alloc | apply pw_below_drewN | apply below_drew1 | refine below_set ?_ (IsS52.ge HI285.out)) | exact HB.out)⟩
  · rw [if_neg c5] at H
    have c5b0 : (t289 == 0) = false := beq_eq_false_iff_ne.mpr c5
    have c5b1 : (t289 != 0) = true := bne_iff_ne.mpr c5
    replace H := Option.bind_eq_some_iff.mp H
    obtain ⟨⟨t295, t296, t297⟩, A110, H⟩ := H
    replace H : (some (t286, t295)) = some (r1, r2) := H
    have A11 := Aside0.mk A110
    clear A110
    simp only [Option.some.injEq, Prod.mk.injEq] at H
    obtain ⟨rfl, rfl⟩ := H
    go_enter Try.func32, Try.ntmps32
    go_wp2_with (first | ((with_reducible refine gate_callee (f := 51) rfl ?_); refine goesL_ (some 7) rfl rfl Try.func51 (by kernel_rfl) rfl #[.slice A0 l0.length c0] rfl (by (try simp only [List.map_toArray, List.map_cons, List.map_nil]); first | done | rfl | (simp only [List.length_drop, List.length_take]; rfl)) ?_; (with_reducible refine (spec_l01From.calls k _ _ l0 t282 t283 t284 w _ ?side1 ?side2 ?side3 A2.out).mono ?_); (case side1 => repeat (first | (with_reducible first | exact HB.out | apply below_alloc | apply pw_below_drewN | apply below_drew1) | exact HB.out)); (case side2 => exact HR0.out); (case side3 => exact HC0.out); rintro e w12 ⟨g285, rfl, hi, hb, hb2⟩; refine ⟨_, rfl, ?_⟩; have n0_ := Aside0.mk (hb); have n1_ := Aside0.mk (hi); clear HB; have HB := n0_; have HI285 := n1_; clear n0_ n1_; (try clear hb); (try clear hb2); (try clear hk); (try clear hi)) | ((with_reducible refine gate_callee (f := 53) rfl ?_); refine goesL_ (some 9) rfl rfl Try.func53 (by kernel_rfl) rfl #[.pointer (some ⟨g285, 0, none⟩)] rfl (by (try simp only [List.map_toArray, List.map_cons, List.map_nil]); first | done | rfl | (simp only [List.length_drop, List.length_take]; rfl)) ?_; (with_reducible refine (spec_l01DrawNumber.calls g285 t282 t283 t284 t286 t287 t288 w _ ?side1 ?side2 A3.out).mono ?_); (case side1 => repeat (first | (with_reducible first | exact HI285.out | apply IsS52.alloc | apply IsS52.drewN | apply IsS52.drew | apply IsS52.set_1 | apply IsS52.set_2) | exact HI285.out)); (case side2 => repeat (first | (with_reducible first | exact HB.out | apply below_alloc | apply pw_below_drewN | apply below_drew1 | refine below_set ?_ (IsS52.ge HI285.out)) | exact HB.out)); rintro e w13 ⟨rfl, hi, hb, hk⟩; refine ⟨_, rfl, ?_⟩; have n0_ := Aside0.mk (hb); have n1_ := Aside0.mk (hi); clear HB; clear HI285; have HB := n0_; have HI285 := n1_; clear n0_ n1_; (try clear hb); (try clear hb2); (try clear hk); (try clear hi)) | ((with_reducible refine gate_callee (f := 52) rfl ?_); refine goesL_ (some 11) rfl rfl Try.func52 (by kernel_rfl) rfl #[.pointer (some ⟨g285, 0, none⟩), .int .i64 2] rfl (by (try simp only [List.map_toArray, List.map_cons, List.map_nil]); first | done | rfl | (simp only [List.length_drop, List.length_take]; rfl)) ?_; (with_reducible refine (spec_l01Next.calls g285 t282 t287 t288 2 t289 t290 t291 w _ ?side1 ?side2 A4.out).mono ?_); (case side1 => repeat (first | (with_reducible first | exact HI285.out | apply IsS52.alloc | apply IsS52.drewN | apply IsS52.drew | apply IsS52.set_1 | apply IsS52.set_2) | exact HI285.out)); (case side2 => repeat (first | (with_reducible first | exact HB.out | apply below_alloc | apply pw_below_drewN | apply below_drew1 | refine below_set ?_ (IsS52.ge HI285.out)) | exact HB.out)); rintro e w14 ⟨rfl, hi, hb, hk⟩; refine ⟨_, rfl, ?_⟩; have n0_ := Aside0.mk (hb); have n1_ := Aside0.mk (hi); clear HB; clear HI285; have HB := n0_; have HI285 := n1_; clear n0_ n1_; (try clear hb); (try clear hb2); (try clear hk); (try clear hi)) | ((with_reducible refine gate_callee (f := 53) rfl ?_); refine goesL_ (some 17) rfl rfl Try.func53 (by kernel_rfl) rfl #[.pointer (some ⟨g285, 0, none⟩)] rfl (by (try simp only [List.map_toArray, List.map_cons, List.map_nil]); first | done | rfl | (simp only [List.length_drop, List.length_take]; rfl)) ?_; (with_reducible refine (spec_l01DrawNumber.calls g285 t282 t290 t291 t295 t296 t297 w _ ?side1 ?side2 A11.out).mono ?_); (case side1 => repeat (first | (with_reducible first | exact HI285.out | apply IsS52.alloc | apply IsS52.drewN | apply IsS52.drew | apply IsS52.set_1 | apply IsS52.set_2) | exact HI285.out)); (case side2 => repeat (first | (with_reducible first | exact HB.out | apply below_alloc | apply pw_below_drewN | apply below_drew1 | refine below_set ?_ (IsS52.ge HI285.out)) | exact HB.out)); rintro e w15 ⟨rfl, hi, hb, hk⟩; refine ⟨_, rfl, ?_⟩; have n0_ := Aside0.mk (hb); have n1_ := Aside0.mk (hi); clear HB; clear HI285; have HB := n0_; have HI285 := n1_; clear n0_ n1_; (try clear hb); (try clear hb2); (try clear hk); (try clear hi)))
    go_ret2
    exact ⟨by first | rfl | (simp [errW_none, errW_some] <;> rfl) | (simp [*, errW_none, errW_some] <;> rfl), by repeat (first | (with_reducible first | exact HB.out | apply below_alloc | apply pw_below_drewN | apply below_drew1 | refine below_set ?_ (IsS52.ge HI285.out)) | exact HB.out)⟩

/-! ### spec_DrawGreatestDivisor: function 33 -/
def spec_DrawGreatestDivisor.f (k : Nat) (l0 : List Int) : Option (Int × Int) := (spec_l01From.f k l0).bind fun bt298 => ((spec_l01DrawNumber.f bt298.1 bt298.2.1 bt298.2.2).bind fun bt302 => ((spec_l01DrawNumber.f bt298.1 bt302.2.1 bt302.2.2).bind fun bt305 => (some (bt302.1, bt305.1))))
theorem spec_DrawGreatestDivisor.mono : ∀ a0 k, LeO (spec_DrawGreatestDivisor.f k a0) (spec_DrawGreatestDivisor.f (k + 1) a0) := by
  intro a0 k
  unfold spec_DrawGreatestDivisor.f
  repeat' first
      | (with_reducible exact spec_l01From.mono _ _)
      | (with_reducible exact LeO.refl _)
      | (with_reducible exact LeO.none _)
      | (with_reducible refine LeO.ite ?_ ?_)
      | (with_reducible refine LeO.bind ?_ (fun _ => ?_))
      | exact spec_l01From.mono _ _
      | exact LeO.none _
      | refine LeO.ite ?_ ?_
      | refine LeO.bind ?_ (fun _ => ?_)
set_option maxHeartbeats 8000000 in
set_option maxRecDepth 100000 in
theorem spec_DrawGreatestDivisor.calls (k : Nat) (A0 : Option Addr) (c0 : Nat) (l0 : List Int) (r1 : Int) (r2 : Int) (w : World) (hr0 : Kd.C (Kd.int .u8) w A0 l0.length l0) (hc0 : l0.length ≤ c0) (h : spec_DrawGreatestDivisor.f k l0 = some (r1, r2)) :
    Calls Try.prog 33 #[.slice A0 l0.length c0] w fun e w' => e = .returned (.tuple #[.int .i64 r1, .int .i64 r2]) ∧ Below w.heap.size w w' := by
  have HR0 := Aside0.mk hr0
  have HC0 := Aside0.mk hc0
  clear hr0 hc0
  have HB := Aside0.mk (Below.refl w.heap.size w)
  have H : ((spec_l01From.f k l0).bind fun bt298 => ((spec_l01DrawNumber.f bt298.1 bt298.2.1 bt298.2.2).bind fun bt302 => ((spec_l01DrawNumber.f bt298.1 bt302.2.1 bt302.2.2).bind fun bt305 => (some (bt302.1, bt305.1))))) = some (r1, r2) := h
  clear h
  replace H := Option.bind_eq_some_iff.mp H
  obtain ⟨⟨t298, t299, t300⟩, A20, H⟩ := H
  replace H : ((spec_l01DrawNumber.f t298 t299 t300).bind fun bt302 => ((spec_l01DrawNumber.f t298 bt302.2.1 bt302.2.2).bind fun bt305 => (some (bt302.1, bt305.1)))) = some (r1, r2) := H
  have A2 := Aside0.mk A20
  clear A20
  replace H := Option.bind_eq_some_iff.mp H
  obtain ⟨⟨t302, t303, t304⟩, A30, H⟩ := H
  replace H : ((spec_l01DrawNumber.f t298 t303 t304).bind fun bt305 => (some (t302, bt305.1))) = some (r1, r2) := H
  have A3 := Aside0.mk A30
  clear A30
  replace H := Option.bind_eq_some_iff.mp H
  obtain ⟨⟨t305, t306, t307⟩, A40, H⟩ := H
  replace H : (some (t302, t305)) = some (r1, r2) := H
  have A4 := Aside0.mk A40
  clear A40
  simp only [Option.some.injEq, Prod.mk.injEq] at H
  obtain ⟨rfl, rfl⟩ := H
  go_enter Try.func33, Try.ntmps33
  go_wp2_with (first | ((with_reducible refine gate_callee (f := 51) rfl ?_); refine goesL_ (some 7) rfl rfl Try.func51 (by kernel_rfl) rfl #[.slice A0 l0.length c0] rfl (by (try simp only [List.map_toArray, List.map_cons, List.map_nil]); first | done | rfl | (simp only [List.length_drop, List.length_take]; rfl)) ?_; (with_reducible refine (spec_l01From.calls k _ _ l0 t298 t299 t300 w _ ?side1 ?side2 ?side3 A2.out).mono ?_); (case side1 => repeat (first | (with_reducible first | exact HB.out | apply below_alloc | apply pw_below_drewN | apply below_drew1) | exact HB.out)); (case side2 => exact HR0.out); (case side3 => exact HC0.out); rintro e w5 ⟨g301, rfl, hi, hb, hb2⟩; refine ⟨_, rfl, ?_⟩; have n0_ := Aside0.mk (hb); have n1_ := Aside0.mk (hi); clear HB; have HB := n0_; have HI301 := n1_; clear n0_ n1_; (try clear hb); (try clear hb2); (try clear hk); (try clear hi)) | ((with_reducible refine gate_callee (f := 53) rfl ?_); refine goesL_ (some 9) rfl rfl Try.func53 (by kernel_rfl) rfl #[.pointer (some ⟨g301, 0, none⟩)] rfl (by (try simp only [List.map_toArray, List.map_cons, List.map_nil]); first | done | rfl | (simp only [List.length_drop, List.length_take]; rfl)) ?_; (with_reducible refine (spec_l01DrawNumber.calls g301 t298 t299 t300 t302 t303 t304 w _ ?side1 ?side2 A3.out).mono ?_); (case side1 => repeat (first | (with_reducible first | exact HI301.out | apply IsS52.alloc | apply IsS52.drewN | apply IsS52.drew | apply IsS52.set_1 | apply IsS52.set_2) | exact HI301.out)); (case side2 => repeat (first | (with_reducible first | exact HB.out | apply below_alloc | apply pw_below_drewN | apply below_drew1 | refine below_set ?_ (IsS52.ge HI301.out)) | exact HB.out)); rintro e w6 ⟨rfl, hi, hb, hk⟩; refine ⟨_, rfl, ?_⟩; have n0_ := Aside0.mk (hb); have n1_ := Aside0.mk (hi); clear HB; clear HI301; have HB := n0_; have HI301 := n1_; clear n0_ n1_; (try clear hb); (try clear hb2); (try clear hk); (try clear hi)) | ((with_reducible refine gate_callee (f := 53) rfl ?_); refine goesL_ (some 12) rfl rfl Try.func53 (by kernel_rfl) rfl #[.pointer (some ⟨g301, 0, none⟩)] rfl (by (try simp only [List.map_toArray, List.map_cons, List.map_nil]); first | done | rfl | (simp only [List.length_drop, List.length_take]; rfl)) ?_; (with_reducible refine (spec_l01DrawNumber.calls g301 t298 t303 t304 t305 t306 t307 w _ ?side1 ?side2 A4.out).mono ?_); (case side1 => repeat (first | (with_reducible first | exact HI301.out | apply IsS52.alloc | apply IsS52.drewN | apply IsS52.drew | apply IsS52.set_1 | apply IsS52.set_2) | exact HI301.out)); (case side2 => repeat (first | (with_reducible first | exact HB.out | apply below_alloc | apply pw_below_drewN | apply below_drew1 | refine below_set ?_ (IsS52.ge HI301.out)) | exact HB.out)); rintro e w7 ⟨rfl, hi, hb, hk⟩; refine ⟨_, rfl, ?_⟩; have n0_ := Aside0.mk (hb); have n1_ := Aside0.mk (hi); clear HB; clear HI301; have HB := n0_; have HI301 := n1_; clear n0_ n1_; (try clear hb); (try clear hb2); (try clear hk); (try clear hi)))
  go_ret2
  exact ⟨by first | rfl | (simp [errW_none, errW_some] <;> rfl) | (simp [*, errW_none, errW_some] <;> rfl), by repeat (first | (with_reducible first | exact HB.out | apply below_alloc | apply pw_below_drewN | apply below_drew1 | refine below_set ?_ (IsS52.ge HI301.out)) | exact HB.out)⟩

/-! ### laws_FnRemainders: function 10 -/
mutual
def laws_FnRemainders.j0 : Nat → Int → Int → Int → Int → Int → Int → Int → Int → Bool → Option (Bool)
  | 0, _, _, _, _, _, _, _, _, _ => none
  | k + 1, x3, x4, x5, x6, x9, x10, x12, x13, x70 => if x70 = true then (some false) else (if x12 = 0 then (laws_FnRemainders.j1 k x3 x4 x5 x6 x9 x10 x13 (decide (x13 > 0))) else (laws_FnRemainders.j1 k x3 x4 x5 x6 x9 x10 x13 false))
def laws_FnRemainders.j1 : Nat → Int → Int → Int → Int → Int → Int → Int → Bool → Option (Bool)
  | 0, _, _, _, _, _, _, _, _ => none
  | k + 1, x3, x4, x5, x6, x9, x10, x13, x76 => if x76 = true then (if x13 = 0 then (none) else ((impl_GreatestDivisor.f k (wrap64 (Int.tdiv x9 x13)) (wrap64 (Int.tdiv x10 x13))).bind fun bt321 => (if bt321.2 = 0 then (if bt321.1 = 1 then (if (Int.tmod x9 x13) = 0 then (if (Int.tmod x10 x13) = 0 then (if x6 = 0 then (if x4 = 0 then (none) else (if (Int.tmod (wrap64 (x3 - x5)) x4) = 0 then (if x5 ≥ 0 then (some (decide (x5 < x4))) else (some false)) else (some false))) else (some true)) else (some false)) else (some false)) else (some false)) else (some false)))) else (if x6 = 0 then (if x4 = 0 then (none) else (if (Int.tmod (wrap64 (x3 - x5)) x4) = 0 then (if x5 ≥ 0 then (some (decide (x5 < x4))) else (some false)) else (some false))) else (some true))
end
def laws_FnRemainders.f (k : Nat) (l0 : List Int) : Option (Bool) := (laws_big.f l0).bind fun t308 => (if t308 = true then (some true) else ((spec_DrawModOf.f k l0).bind fun bt309 => ((impl_ModOf.f bt309.1 bt309.2).bind fun bt311 => ((spec_ModOf.f bt309.1 bt309.2).bind fun bt313 => ((spec_DrawGreatestDivisor.f k l0).bind fun bt315 => ((impl_GreatestDivisor.f k bt315.1 bt315.2).bind fun bt317 => ((spec_GreatestDivisor.f k bt315.1 bt315.2).bind fun bt319 => (if bt311.2 = bt313.2 then (if bt311.1 = bt313.1 then (if bt317.2 = bt319.2 then (laws_FnRemainders.j0 k bt309.1 bt309.2 bt311.1 bt311.2 bt315.1 bt315.2 bt317.2 bt319.1 (bt317.1 != bt319.1)) else (laws_FnRemainders.j0 k bt309.1 bt309.2 bt311.1 bt311.2 bt315.1 bt315.2 bt317.2 bt319.1 true)) else (laws_FnRemainders.j0 k bt309.1 bt309.2 bt311.1 bt311.2 bt315.1 bt315.2 bt317.2 bt319.1 true)) else (laws_FnRemainders.j0 k bt309.1 bt309.2 bt311.1 bt311.2 bt315.1 bt315.2 bt317.2 bt319.1 true)))))))))
theorem laws_FnRemainders.mono_l : ∀ k, (∀ y0 y1 y2 y3 y4 y5 y6 y7 y8, LeO (laws_FnRemainders.j0 k y0 y1 y2 y3 y4 y5 y6 y7 y8) (laws_FnRemainders.j0 (k + 1) y0 y1 y2 y3 y4 y5 y6 y7 y8)) ∧ (∀ y0 y1 y2 y3 y4 y5 y6 y7, LeO (laws_FnRemainders.j1 k y0 y1 y2 y3 y4 y5 y6 y7) (laws_FnRemainders.j1 (k + 1) y0 y1 y2 y3 y4 y5 y6 y7))
  | 0 => ⟨fun _ _ _ _ _ _ _ _ _ r h => by simp [laws_FnRemainders.j0] at h, fun _ _ _ _ _ _ _ _ r h => by simp [laws_FnRemainders.j1] at h⟩
  | k + 1 => by
    obtain ⟨ih0, ih1⟩ := laws_FnRemainders.mono_l k
    refine ⟨?_, ?_⟩
    · intro y0 y1 y2 y3 y4 y5 y6 y7 y8
      unfold laws_FnRemainders.j0
      repeat' first
      | (with_reducible exact ih0 _ _ _ _ _ _ _ _ _)
      | (with_reducible exact ih1 _ _ _ _ _ _ _ _)
      | (with_reducible exact impl_GreatestDivisor.mono _ _ _)
      | (with_reducible exact spec_DrawGreatestDivisor.mono _ _)
      | (with_reducible exact spec_DrawModOf.mono _ _)
      | (with_reducible exact spec_GreatestDivisor.mono _ _ _)
      | (with_reducible exact LeO.refl _)
      | (with_reducible exact LeO.none _)
      | (with_reducible refine LeO.ite ?_ ?_)
      | (with_reducible refine LeO.bind ?_ (fun _ => ?_))
      | exact ih0 _ _ _ _ _ _ _ _ _
      | exact ih1 _ _ _ _ _ _ _ _
      | exact impl_GreatestDivisor.mono _ _ _
      | exact spec_DrawGreatestDivisor.mono _ _
      | exact spec_DrawModOf.mono _ _
      | exact spec_GreatestDivisor.mono _ _ _
      | exact LeO.none _
      | refine LeO.ite ?_ ?_
      | refine LeO.bind ?_ (fun _ => ?_)
    · intro y0 y1 y2 y3 y4 y5 y6 y7
      unfold laws_FnRemainders.j1
      repeat' first
      | (with_reducible exact ih0 _ _ _ _ _ _ _ _ _)
      | (with_reducible exact ih1 _ _ _ _ _ _ _ _)
      | (with_reducible exact impl_GreatestDivisor.mono _ _ _)
      | (with_reducible exact spec_DrawGreatestDivisor.mono _ _)
      | (with_reducible exact spec_DrawModOf.mono _ _)
      | (with_reducible exact spec_GreatestDivisor.mono _ _ _)
      | (with_reducible exact LeO.refl _)
      | (with_reducible exact LeO.none _)
      | (with_reducible refine LeO.ite ?_ ?_)
      | (with_reducible refine LeO.bind ?_ (fun _ => ?_))
      | exact ih0 _ _ _ _ _ _ _ _ _
      | exact ih1 _ _ _ _ _ _ _ _
      | exact impl_GreatestDivisor.mono _ _ _
      | exact spec_DrawGreatestDivisor.mono _ _
      | exact spec_DrawModOf.mono _ _
      | exact spec_GreatestDivisor.mono _ _ _
      | exact LeO.none _
      | refine LeO.ite ?_ ?_
      | refine LeO.bind ?_ (fun _ => ?_)
theorem laws_FnRemainders.mono : ∀ a0 k, LeO (laws_FnRemainders.f k a0) (laws_FnRemainders.f (k + 1) a0) := by
  intro a0 k
  obtain ⟨ih0, ih1⟩ := laws_FnRemainders.mono_l k
  unfold laws_FnRemainders.f
  repeat' first
      | (with_reducible exact ih0 _ _ _ _ _ _ _ _ _)
      | (with_reducible exact ih1 _ _ _ _ _ _ _ _)
      | (with_reducible exact impl_GreatestDivisor.mono _ _ _)
      | (with_reducible exact spec_DrawGreatestDivisor.mono _ _)
      | (with_reducible exact spec_DrawModOf.mono _ _)
      | (with_reducible exact spec_GreatestDivisor.mono _ _ _)
      | (with_reducible exact LeO.refl _)
      | (with_reducible exact LeO.none _)
      | (with_reducible refine LeO.ite ?_ ?_)
      | (with_reducible refine LeO.bind ?_ (fun _ => ?_))
      | exact ih0 _ _ _ _ _ _ _ _ _
      | exact ih1 _ _ _ _ _ _ _ _
      | exact impl_GreatestDivisor.mono _ _ _
      | exact spec_DrawGreatestDivisor.mono _ _
      | exact spec_DrawModOf.mono _ _
      | exact spec_GreatestDivisor.mono _ _ _
      | exact LeO.none _
      | refine LeO.ite ?_ ?_
      | refine LeO.bind ?_ (fun _ => ?_)
set_option maxHeartbeats 8000000 in
set_option maxRecDepth 100000 in
theorem laws_FnRemainders.calls (k : Nat) (A0 : Option Addr) (c0 : Nat) (l0 : List Int) (r : Bool) (w : World) (hr0 : Kd.C (Kd.int .u8) w A0 l0.length l0) (hc0 : l0.length ≤ c0) (h : laws_FnRemainders.f k l0 = some r) :
    Calls Try.prog 10 #[.slice A0 l0.length c0] w fun e w' => e = .returned (.bool r) ∧ Below w.heap.size w w' := by
  have HR0 := Aside0.mk hr0
  have HC0 := Aside0.mk hc0
  clear hr0 hc0
  have HB := Aside0.mk (Below.refl w.heap.size w)
  have H : ((laws_big.f l0).bind fun t308 => (if t308 = true then (some true) else ((spec_DrawModOf.f k l0).bind fun bt309 => ((impl_ModOf.f bt309.1 bt309.2).bind fun bt311 => ((spec_ModOf.f bt309.1 bt309.2).bind fun bt313 => ((spec_DrawGreatestDivisor.f k l0).bind fun bt315 => ((impl_GreatestDivisor.f k bt315.1 bt315.2).bind fun bt317 => ((spec_GreatestDivisor.f k bt315.1 bt315.2).bind fun bt319 => (if bt311.2 = bt313.2 then (if bt311.1 = bt313.1 then (if bt317.2 = bt319.2 then (laws_FnRemainders.j0 k bt309.1 bt309.2 bt311.1 bt311.2 bt315.1 bt315.2 bt317.2 bt319.1 (bt317.1 != bt319.1)) else (laws_FnRemainders.j0 k bt309.1 bt309.2 bt311.1 bt311.2 bt315.1 bt315.2 bt317.2 bt319.1 true)) else (laws_FnRemainders.j0 k bt309.1 bt309.2 bt311.1 bt311.2 bt315.1 bt315.2 bt317.2 bt319.1 true)) else (laws_FnRemainders.j0 k bt309.1 bt309.2 bt311.1 bt311.2 bt315.1 bt315.2 bt317.2 bt319.1 true)))))))))) = some r := h
  clear h
  replace H := Option.bind_eq_some_iff.mp H
  obtain ⟨t308, A20, H⟩ := H
  replace H : (if t308 = true then (some true) else ((spec_DrawModOf.f k l0).bind fun bt309 => ((impl_ModOf.f bt309.1 bt309.2).bind fun bt311 => ((spec_ModOf.f bt309.1 bt309.2).bind fun bt313 => ((spec_DrawGreatestDivisor.f k l0).bind fun bt315 => ((impl_GreatestDivisor.f k bt315.1 bt315.2).bind fun bt317 => ((spec_GreatestDivisor.f k bt315.1 bt315.2).bind fun bt319 => (if bt311.2 = bt313.2 then (if bt311.1 = bt313.1 then (if bt317.2 = bt319.2 then (laws_FnRemainders.j0 k bt309.1 bt309.2 bt311.1 bt311.2 bt315.1 bt315.2 bt317.2 bt319.1 (bt317.1 != bt319.1)) else (laws_FnRemainders.j0 k bt309.1 bt309.2 bt311.1 bt311.2 bt315.1 bt315.2 bt317.2 bt319.1 true)) else (laws_FnRemainders.j0 k bt309.1 bt309.2 bt311.1 bt311.2 bt315.1 bt315.2 bt317.2 bt319.1 true)) else (laws_FnRemainders.j0 k bt309.1 bt309.2 bt311.1 bt311.2 bt315.1 bt315.2 bt317.2 bt319.1 true))))))))) = some r := H
  have A2 := Aside0.mk A20
  clear A20
  by_cases c3 : t308 = true
  · subst c3
    have H1 : (some true) = some r := by rw [if_pos rfl] at H; exact H
    clear H
    have H := H1
    clear H1
    obtain rfl := Option.some.inj H
    go_enter Try.func10, Try.ntmps10
    go_wp2_with (first | (go_at_call 26; (with_reducible refine (laws_big.calls _ _ l0 true _ ?side1 ?side2 A2.out).mono ?_); (case side1 => repeat (first | exact HR0.out | (with_reducible refine Kd.C_alloc ?_ _) | (with_reducible refine Kd.C_drewN ?_ _) | (with_reducible refine Kd.C_drew ?_))); (case side2 => exact HC0.out); rintro e w' ⟨rfl, ⟨nd, rfl⟩⟩; (try first | exact ⟨rfl, _, World.drewN_drewN _ _ _⟩ | exact ⟨rfl, _, Eq.trans (World.drewN_drewN _ _ _) (congrArg (World.drewN _) (Nat.add_assoc _ _ _))⟩)))
    repeat (go_quiet (first | (go_at_call 26; (with_reducible refine (laws_big.calls _ _ l0 true _ ?side1 ?side2 A2.out).mono ?_); (case side1 => repeat (first | exact HR0.out | (with_reducible refine Kd.C_alloc ?_ _) | (with_reducible refine Kd.C_drewN ?_ _) | (with_reducible refine Kd.C_drew ?_))); (case side2 => exact HC0.out); rintro e w' ⟨rfl, ⟨nd, rfl⟩⟩; (try first | exact ⟨rfl, _, World.drewN_drewN _ _ _⟩ | exact ⟨rfl, _, Eq.trans (World.drewN_drewN _ _ _) (congrArg (World.drewN _) (Nat.add_assoc _ _ _))⟩))); try go_wp2_with (first | (go_at_call 26; (with_reducible refine (laws_big.calls _ _ l0 true _ ?side1 ?side2 A2.out).mono ?_); (case side1 => repeat (first | exact HR0.out | (with_reducible refine Kd.C_alloc ?_ _) | (with_reducible refine Kd.C_drewN ?_ _) | (with_reducible refine Kd.C_drew ?_))); (case side2 => exact HC0.out); rintro e w' ⟨rfl, ⟨nd, rfl⟩⟩; (try first | exact ⟨rfl, _, World.drewN_drewN _ _ _⟩ | exact ⟨rfl, _, Eq.trans (World.drewN_drewN _ _ _) (congrArg (World.drewN _) (Nat.add_assoc _ _ _))⟩))))
    go_ret
    exact ⟨by first | rfl | (simp [errW_none, errW_some] <;> rfl) | (simp [*, errW_none, errW_some] <;> rfl), by repeat (first | (with_reducible first | exact HB.out | apply below_alloc | apply pw_below_drewN | apply below_drew1) | exact HB.out)⟩
  · replace c3 := Bool.eq_false_iff.mpr c3
    subst c3
    have H1 : ((spec_DrawModOf.f k l0).bind fun bt309 => ((impl_ModOf.f bt309.1 bt309.2).bind fun bt311 => ((spec_ModOf.f bt309.1 bt309.2).bind fun bt313 => ((spec_DrawGreatestDivisor.f k l0).bind fun bt315 => ((impl_GreatestDivisor.f k bt315.1 bt315.2).bind fun bt317 => ((spec_GreatestDivisor.f k bt315.1 bt315.2).bind fun bt319 => (if bt311.2 = bt313.2 then (if bt311.1 = bt313.1 then (if bt317.2 = bt319.2 then (laws_FnRemainders.j0 k bt309.1 bt309.2 bt311.1 bt311.2 bt315.1 bt315.2 bt317.2 bt319.1 (bt317.1 != bt319.1)) else (laws_FnRemainders.j0 k bt309.1 bt309.2 bt311.1 bt311.2 bt315.1 bt315.2 bt317.2 bt319.1 true)) else (laws_FnRemainders.j0 k bt309.1 bt309.2 bt311.1 bt311.2 bt315.1 bt315.2 bt317.2 bt319.1 true)) else (laws_FnRemainders.j0 k bt309.1 bt309.2 bt311.1 bt311.2 bt315.1 bt315.2 bt317.2 bt319.1 true)))))))) = some r := by rw [if_neg (show ¬ (false = true) by decide)] at H; exact H
    clear H
    have H := H1
    clear H1
    replace H := Option.bind_eq_some_iff.mp H
    obtain ⟨⟨t309, t310⟩, A40, H⟩ := H
    replace H : ((impl_ModOf.f t309 t310).bind fun bt311 => ((spec_ModOf.f t309 t310).bind fun bt313 => ((spec_DrawGreatestDivisor.f k l0).bind fun bt315 => ((impl_GreatestDivisor.f k bt315.1 bt315.2).bind fun bt317 => ((spec_GreatestDivisor.f k bt315.1 bt315.2).bind fun bt319 => (if bt311.2 = bt313.2 then (if bt311.1 = bt313.1 then (if bt317.2 = bt319.2 then (laws_FnRemainders.j0 k t309 t310 bt311.1 bt311.2 bt315.1 bt315.2 bt317.2 bt319.1 (bt317.1 != bt319.1)) else (laws_FnRemainders.j0 k t309 t310 bt311.1 bt311.2 bt315.1 bt315.2 bt317.2 bt319.1 true)) else (laws_FnRemainders.j0 k t309 t310 bt311.1 bt311.2 bt315.1 bt315.2 bt317.2 bt319.1 true)) else (laws_FnRemainders.j0 k t309 t310 bt311.1 bt311.2 bt315.1 bt315.2 bt317.2 bt319.1 true))))))) = some r := H
    have A4 := Aside0.mk A40
    clear A40
    replace H := Option.bind_eq_some_iff.mp H
    obtain ⟨⟨t311, t312⟩, A50, H⟩ := H
    replace H : ((spec_ModOf.f t309 t310).bind fun bt313 => ((spec_DrawGreatestDivisor.f k l0).bind fun bt315 => ((impl_GreatestDivisor.f k bt315.1 bt315.2).bind fun bt317 => ((spec_GreatestDivisor.f k bt315.1 bt315.2).bind fun bt319 => (if t312 = bt313.2 then (if t311 = bt313.1 then (if bt317.2 = bt319.2 then (laws_FnRemainders.j0 k t309 t310 t311 t312 bt315.1 bt315.2 bt317.2 bt319.1 (bt317.1 != bt319.1)) else (laws_FnRemainders.j0 k t309 t310 t311 t312 bt315.1 bt315.2 bt317.2 bt319.1 true)) else (laws_FnRemainders.j0 k t309 t310 t311 t312 bt315.1 bt315.2 bt317.2 bt319.1 true)) else (laws_FnRemainders.j0 k t309 t310 t311 t312 bt315.1 bt315.2 bt317.2 bt319.1 true)))))) = some r := H
    have A5 := Aside0.mk A50
    clear A50
    replace H := Option.bind_eq_some_iff.mp H
    obtain ⟨⟨t313, t314⟩, A60, H⟩ := H
    replace H : ((spec_DrawGreatestDivisor.f k l0).bind fun bt315 => ((impl_GreatestDivisor.f k bt315.1 bt315.2).bind fun bt317 => ((spec_GreatestDivisor.f k bt315.1 bt315.2).bind fun bt319 => (if t312 = t314 then (if t311 = t313 then (if bt317.2 = bt319.2 then (laws_FnRemainders.j0 k t309 t310 t311 t312 bt315.1 bt315.2 bt317.2 bt319.1 (bt317.1 != bt319.1)) else (laws_FnRemainders.j0 k t309 t310 t311 t312 bt315.1 bt315.2 bt317.2 bt319.1 true)) else (laws_FnRemainders.j0 k t309 t310 t311 t312 bt315.1 bt315.2 bt317.2 bt319.1 true)) else (laws_FnRemainders.j0 k t309 t310 t311 t312 bt315.1 bt315.2 bt317.2 bt319.1 true))))) = some r := H
    have A6 := Aside0.mk A60
    clear A60
    replace H := Option.bind_eq_some_iff.mp H
    obtain ⟨⟨t315, t316⟩, A70, H⟩ := H
    replace H : ((impl_GreatestDivisor.f k t315 t316).bind fun bt317 => ((spec_GreatestDivisor.f k t315 t316).bind fun bt319 => (if t312 = t314 then (if t311 = t313 then (if bt317.2 = bt319.2 then (laws_FnRemainders.j0 k t309 t310 t311 t312 t315 t316 bt317.2 bt319.1 (bt317.1 != bt319.1)) else (laws_FnRemainders.j0 k t309 t310 t311 t312 t315 t316 bt317.2 bt319.1 true)) else (laws_FnRemainders.j0 k t309 t310 t311 t312 t315 t316 bt317.2 bt319.1 true)) else (laws_FnRemainders.j0 k t309 t310 t311 t312 t315 t316 bt317.2 bt319.1 true)))) = some r := H
    have A7 := Aside0.mk A70
    clear A70
    replace H := Option.bind_eq_some_iff.mp H
    obtain ⟨⟨t317, t318⟩, A80, H⟩ := H
    replace H : ((spec_GreatestDivisor.f k t315 t316).bind fun bt319 => (if t312 = t314 then (if t311 = t313 then (if t318 = bt319.2 then (laws_FnRemainders.j0 k t309 t310 t311 t312 t315 t316 t318 bt319.1 (t317 != bt319.1)) else (laws_FnRemainders.j0 k t309 t310 t311 t312 t315 t316 t318 bt319.1 true)) else (laws_FnRemainders.j0 k t309 t310 t311 t312 t315 t316 t318 bt319.1 true)) else (laws_FnRemainders.j0 k t309 t310 t311 t312 t315 t316 t318 bt319.1 true))) = some r := H
    have A8 := Aside0.mk A80
    clear A80
    replace H := Option.bind_eq_some_iff.mp H
    obtain ⟨⟨t319, t320⟩, A90, H⟩ := H
    replace H : (if t312 = t314 then (if t311 = t313 then (if t318 = t320 then (laws_FnRemainders.j0 k t309 t310 t311 t312 t315 t316 t318 t319 (t317 != t319)) else (laws_FnRemainders.j0 k t309 t310 t311 t312 t315 t316 t318 t319 true)) else (laws_FnRemainders.j0 k t309 t310 t311 t312 t315 t316 t318 t319 true)) else (laws_FnRemainders.j0 k t309 t310 t311 t312 t315 t316 t318 t319 true)) = some r := H
    have A9 := Aside0.mk A90
    clear A90
    have HC10 := Aside0.mk H
    clear H
    go_enter Try.func10, Try.ntmps10
    go_upto_region 9 with (first | (go_at_call 26; (with_reducible refine (laws_big.calls _ _ l0 false _ ?side1 ?side2 A2.out).mono ?_); (case side1 => repeat (first | exact HR0.out | (with_reducible refine Kd.C_alloc ?_ _) | (with_reducible refine Kd.C_drewN ?_ _) | (with_reducible refine Kd.C_drew ?_))); (case side2 => exact HC0.out); rintro e w' ⟨rfl, ⟨nd, rfl⟩⟩; (try first | exact ⟨rfl, _, World.drewN_drewN _ _ _⟩ | exact ⟨rfl, _, Eq.trans (World.drewN_drewN _ _ _) (congrArg (World.drewN _) (Nat.add_assoc _ _ _))⟩)) | (go_at_call 32; (with_reducible refine (spec_DrawModOf.calls k _ _ l0 t309 t310 _ ?side1 ?side2 A4.out).mono ?_); (case side1 => repeat (first | exact HR0.out | (with_reducible refine Kd.C_alloc ?_ _) | (with_reducible refine Kd.C_drewN ?_ _) | (with_reducible refine Kd.C_drew ?_))); (case side2 => exact HC0.out); rintro e w11 ⟨rfl, hb⟩; have n0_ := Aside0.mk (below_step (by repeat (first | (with_reducible first | exact HB.out | apply below_alloc | apply pw_below_drewN | apply below_drew1) | exact HB.out)) hb); clear HB; have HB := n0_; clear n0_; (try clear hb); (try clear hb2); (try clear hk); (try clear hi)) | (go_at_call 17; (with_reducible refine (impl_ModOf.calls t309 t310 t311 t312 _ A5.out).mono ?_); rintro e w' ⟨rfl, ⟨nd, rfl⟩⟩; (try first | exact ⟨rfl, _, World.drewN_drewN _ _ _⟩ | exact ⟨rfl, _, Eq.trans (World.drewN_drewN _ _ _) (congrArg (World.drewN _) (Nat.add_assoc _ _ _))⟩)) | (go_at_call 16; (with_reducible refine (spec_ModOf.calls t309 t310 t313 t314 _ A6.out).mono ?_); rintro e w' ⟨rfl, ⟨nd, rfl⟩⟩; (try first | exact ⟨rfl, _, World.drewN_drewN _ _ _⟩ | exact ⟨rfl, _, Eq.trans (World.drewN_drewN _ _ _) (congrArg (World.drewN _) (Nat.add_assoc _ _ _))⟩)) | (go_at_call 33; (with_reducible refine (spec_DrawGreatestDivisor.calls k _ _ l0 t315 t316 _ ?side1 ?side2 A7.out).mono ?_); (case side1 => repeat (first | exact (Kd.C_below HR0.out (by repeat (first | (with_reducible first | exact HB.out | apply below_alloc | apply pw_below_drewN | apply below_drew1) | exact HB.out))) | (with_reducible refine Kd.C_alloc ?_ _) | (with_reducible refine Kd.C_drewN ?_ _) | (with_reducible refine Kd.C_drew ?_))); (case side2 => exact HC0.out); rintro e w12 ⟨rfl, hb⟩; have n0_ := Aside0.mk (below_step (by repeat (first | (with_reducible first | exact HB.out | apply below_alloc | apply pw_below_drewN | apply below_drew1) | exact HB.out)) hb); clear HB; have HB := n0_; clear n0_; (try clear hb); (try clear hb2); (try clear hk); (try clear hi)) | (go_at_call 19; (with_reducible refine (impl_GreatestDivisor.calls k t315 t316 t317 t318 _ A8.out).mono ?_); rintro e w' ⟨rfl, ⟨nd, rfl⟩⟩; (try first | exact ⟨rfl, _, World.drewN_drewN _ _ _⟩ | exact ⟨rfl, _, Eq.trans (World.drewN_drewN _ _ _) (congrArg (World.drewN _) (Nat.add_assoc _ _ _))⟩)) | (go_at_call 18; (with_reducible refine (spec_GreatestDivisor.calls k t315 t316 t319 t320 _ A9.out).mono ?_); rintro e w' ⟨rfl, ⟨nd, rfl⟩⟩; (try first | exact ⟨rfl, _, World.drewN_drewN _ _ _⟩ | exact ⟨rfl, _, Eq.trans (World.drewN_drewN _ _ _) (congrArg (World.drewN _) (Nat.add_assoc _ _ _))⟩)))
    repeat (go_quiet (first | (go_at_call 26; (with_reducible refine (laws_big.calls _ _ l0 false _ ?side1 ?side2 A2.out).mono ?_); (case side1 => repeat (first | exact HR0.out | (with_reducible refine Kd.C_alloc ?_ _) | (with_reducible refine Kd.C_drewN ?_ _) | (with_reducible refine Kd.C_drew ?_))); (case side2 => exact HC0.out); rintro e w' ⟨rfl, ⟨nd, rfl⟩⟩; (try first | exact ⟨rfl, _, World.drewN_drewN _ _ _⟩ | exact ⟨rfl, _, Eq.trans (World.drewN_drewN _ _ _) (congrArg (World.drewN _) (Nat.add_assoc _ _ _))⟩)) | (go_at_call 32; (with_reducible refine (spec_DrawModOf.calls k _ _ l0 t309 t310 _ ?side1 ?side2 A4.out).mono ?_); (case side1 => repeat (first | exact HR0.out | (with_reducible refine Kd.C_alloc ?_ _) | (with_reducible refine Kd.C_drewN ?_ _) | (with_reducible refine Kd.C_drew ?_))); (case side2 => exact HC0.out); rintro e w11 ⟨rfl, hb⟩; have n0_ := Aside0.mk (below_step (by repeat (first | (with_reducible first | exact HB.out | apply below_alloc | apply pw_below_drewN | apply below_drew1) | exact HB.out)) hb); clear HB; have HB := n0_; clear n0_; (try clear hb); (try clear hb2); (try clear hk); (try clear hi)) | (go_at_call 17; (with_reducible refine (impl_ModOf.calls t309 t310 t311 t312 _ A5.out).mono ?_); rintro e w' ⟨rfl, ⟨nd, rfl⟩⟩; (try first | exact ⟨rfl, _, World.drewN_drewN _ _ _⟩ | exact ⟨rfl, _, Eq.trans (World.drewN_drewN _ _ _) (congrArg (World.drewN _) (Nat.add_assoc _ _ _))⟩)) | (go_at_call 16; (with_reducible refine (spec_ModOf.calls t309 t310 t313 t314 _ A6.out).mono ?_); rintro e w' ⟨rfl, ⟨nd, rfl⟩⟩; (try first | exact ⟨rfl, _, World.drewN_drewN _ _ _⟩ | exact ⟨rfl, _, Eq.trans (World.drewN_drewN _ _ _) (congrArg (World.drewN _) (Nat.add_assoc _ _ _))⟩)) | (go_at_call 33; (with_reducible refine (spec_DrawGreatestDivisor.calls k _ _ l0 t315 t316 _ ?side1 ?side2 A7.out).mono ?_); (case side1 => repeat (first | exact (Kd.C_below HR0.out (by repeat (first | (with_reducible first | exact HB.out | apply below_alloc | apply pw_below_drewN | apply below_drew1) | exact HB.out))) | (with_reducible refine Kd.C_alloc ?_ _) | (with_reducible refine Kd.C_drewN ?_ _) | (with_reducible refine Kd.C_drew ?_))); (case side2 => exact HC0.out); rintro e w12 ⟨rfl, hb⟩; have n0_ := Aside0.mk (below_step (by repeat (first | (with_reducible first | exact HB.out | apply below_alloc | apply pw_below_drewN | apply below_drew1) | exact HB.out)) hb); clear HB; have HB := n0_; clear n0_; (try clear hb); (try clear hb2); (try clear hk); (try clear hi)) | (go_at_call 19; (with_reducible refine (impl_GreatestDivisor.calls k t315 t316 t317 t318 _ A8.out).mono ?_); rintro e w' ⟨rfl, ⟨nd, rfl⟩⟩; (try first | exact ⟨rfl, _, World.drewN_drewN _ _ _⟩ | exact ⟨rfl, _, Eq.trans (World.drewN_drewN _ _ _) (congrArg (World.drewN _) (Nat.add_assoc _ _ _))⟩)) | (go_at_call 18; (with_reducible refine (spec_GreatestDivisor.calls k t315 t316 t319 t320 _ A9.out).mono ?_); rintro e w' ⟨rfl, ⟨nd, rfl⟩⟩; (try first | exact ⟨rfl, _, World.drewN_drewN _ _ _⟩ | exact ⟨rfl, _, Eq.trans (World.drewN_drewN _ _ _) (congrArg (World.drewN _) (Nat.add_assoc _ _ _))⟩))); go_upto_region 9 with (first | (go_at_call 26; (with_reducible refine (laws_big.calls _ _ l0 false _ ?side1 ?side2 A2.out).mono ?_); (case side1 => repeat (first | exact HR0.out | (with_reducible refine Kd.C_alloc ?_ _) | (with_reducible refine Kd.C_drewN ?_ _) | (with_reducible refine Kd.C_drew ?_))); (case side2 => exact HC0.out); rintro e w' ⟨rfl, ⟨nd, rfl⟩⟩; (try first | exact ⟨rfl, _, World.drewN_drewN _ _ _⟩ | exact ⟨rfl, _, Eq.trans (World.drewN_drewN _ _ _) (congrArg (World.drewN _) (Nat.add_assoc _ _ _))⟩)) | (go_at_call 32; (with_reducible refine (spec_DrawModOf.calls k _ _ l0 t309 t310 _ ?side1 ?side2 A4.out).mono ?_); (case side1 => repeat (first | exact HR0.out | (with_reducible refine Kd.C_alloc ?_ _) | (with_reducible refine Kd.C_drewN ?_ _) | (with_reducible refine Kd.C_drew ?_))); (case side2 => exact HC0.out); rintro e w11 ⟨rfl, hb⟩; have n0_ := Aside0.mk (below_step (by repeat (first | (with_reducible first | exact HB.out | apply below_alloc | apply pw_below_drewN | apply below_drew1) | exact HB.out)) hb); clear HB; have HB := n0_; clear n0_; (try clear hb); (try clear hb2); (try clear hk); (try clear hi)) | (go_at_call 17; (with_reducible refine (impl_ModOf.calls t309 t310 t311 t312 _ A5.out).mono ?_); rintro e w' ⟨rfl, ⟨nd, rfl⟩⟩; (try first | exact ⟨rfl, _, World.drewN_drewN _ _ _⟩ | exact ⟨rfl, _, Eq.trans (World.drewN_drewN _ _ _) (congrArg (World.drewN _) (Nat.add_assoc _ _ _))⟩)) | (go_at_call 16; (with_reducible refine (spec_ModOf.calls t309 t310 t313 t314 _ A6.out).mono ?_); rintro e w' ⟨rfl, ⟨nd, rfl⟩⟩; (try first | exact ⟨rfl, _, World.drewN_drewN _ _ _⟩ | exact ⟨rfl, _, Eq.trans (World.drewN_drewN _ _ _) (congrArg (World.drewN _) (Nat.add_assoc _ _ _))⟩)) | (go_at_call 33; (with_reducible refine (spec_DrawGreatestDivisor.calls k _ _ l0 t315 t316 _ ?side1 ?side2 A7.out).mono ?_); (case side1 => repeat (first | exact (Kd.C_below HR0.out (by repeat (first | (with_reducible first | exact HB.out | apply below_alloc | apply pw_below_drewN | apply below_drew1) | exact HB.out))) | (with_reducible refine Kd.C_alloc ?_ _) | (with_reducible refine Kd.C_drewN ?_ _) | (with_reducible refine Kd.C_drew ?_))); (case side2 => exact HC0.out); rintro e w12 ⟨rfl, hb⟩; have n0_ := Aside0.mk (below_step (by repeat (first | (with_reducible first | exact HB.out | apply below_alloc | apply pw_below_drewN | apply below_drew1) | exact HB.out)) hb); clear HB; have HB := n0_; clear n0_; (try clear hb); (try clear hb2); (try clear hk); (try clear hi)) | (go_at_call 19; (with_reducible refine (impl_GreatestDivisor.calls k t315 t316 t317 t318 _ A8.out).mono ?_); rintro e w' ⟨rfl, ⟨nd, rfl⟩⟩; (try first | exact ⟨rfl, _, World.drewN_drewN _ _ _⟩ | exact ⟨rfl, _, Eq.trans (World.drewN_drewN _ _ _) (congrArg (World.drewN _) (Nat.add_assoc _ _ _))⟩)) | (go_at_call 18; (with_reducible refine (spec_GreatestDivisor.calls k t315 t316 t319 t320 _ A9.out).mono ?_); rintro e w' ⟨rfl, ⟨nd, rfl⟩⟩; (try first | exact ⟨rfl, _, World.drewN_drewN _ _ _⟩ | exact ⟨rfl, _, Eq.trans (World.drewN_drewN _ _ _) (congrArg (World.drewN _) (Nat.add_assoc _ _ _))⟩))))
    (try simp only [Act.put, List.setIfInBounds_toArray, List.set_cons_zero, List.set_cons_succ])
    go_cut [70] (fun v70 wc => ∃ (kq : Nat) (x70_9 : Bool), v70 = .bool x70_9 ∧ Aside0 (laws_FnRemainders.j0 kq t309 t310 t311 t312 t315 t316 t318 t319 x70_9 = some r) ∧ Aside0 (kq ≤ k) ∧ Aside0 (Below w.heap.size w wc))
    case first =>
      have H := HC10.out
      clear HC10
      by_cases c13 : t312 = t314
      · rw [if_pos c13] at H
        have c13b0 : (t312 == t314) = true := beq_iff_eq.mpr c13
        have c13b1 : (t312 != t314) = false := bne_eq_false_iff_eq.mpr c13
        clear c13
        (first | rw [c13b0] | (simp only [i64_w, i32_w]; rw [c13b0]) | skip)
        by_cases c14 : t311 = t313
        · rw [if_pos c14] at H
          have c14b0 : (t311 == t313) = true := beq_iff_eq.mpr c14
          have c14b1 : (t311 != t313) = false := bne_eq_false_iff_eq.mpr c14
          clear c14
          by_cases c15 : t318 = t320
          · rw [if_pos c15] at H
            have c15b0 : (t318 == t320) = true := beq_iff_eq.mpr c15
            have c15b1 : (t318 != t320) = false := bne_eq_false_iff_eq.mpr c15
            clear c15
            have H' := Aside0.mk H
            clear H
            go_wp2
            repeat (go_quiet (fail); try go_wp2)
            go_meet
            case rel => exact ⟨_, ((t317 != t319)), (by first | rfl | (simp; done) | (simp [*]; done)), H', ⟨by first | omega | exact Nat.le_refl _⟩, ⟨by repeat (first | (with_reducible first | exact HB.out | apply below_alloc | apply pw_below_drewN | apply below_drew1) | exact HB.out)⟩⟩
          · rw [if_neg c15] at H
            have c15b0 : (t318 == t320) = false := beq_eq_false_iff_ne.mpr c15
            have c15b1 : (t318 != t320) = true := bne_iff_ne.mpr c15
            have H' := Aside0.mk H
            clear H
            go_wp2
            repeat (go_quiet (fail); try go_wp2)
            go_meet
            case rel => exact ⟨_, (true), (by first | rfl | (simp; done) | (simp [*]; done)), H', ⟨by first | omega | exact Nat.le_refl _⟩, ⟨by repeat (first | (with_reducible first | exact HB.out | apply below_alloc | apply pw_below_drewN | apply below_drew1) | exact HB.out)⟩⟩
        · rw [if_neg c14] at H
          have c14b0 : (t311 == t313) = false := beq_eq_false_iff_ne.mpr c14
          have c14b1 : (t311 != t313) = true := bne_iff_ne.mpr c14
          have H' := Aside0.mk H
          clear H
          go_wp2
          repeat (go_quiet (fail); try go_wp2)
          go_meet
          case rel => exact ⟨_, (true), (by first | rfl | (simp; done) | (simp [*]; done)), H', ⟨by first | omega | exact Nat.le_refl _⟩, ⟨by repeat (first | (with_reducible first | exact HB.out | apply below_alloc | apply pw_below_drewN | apply below_drew1) | exact HB.out)⟩⟩
      · rw [if_neg c13] at H
        have c13b0 : (t312 == t314) = false := beq_eq_false_iff_ne.mpr c13
        have c13b1 : (t312 != t314) = true := bne_iff_ne.mpr c13
        (first | rw [c13b0] | (simp only [i64_w, i32_w]; rw [c13b0]) | skip)
        have H' := Aside0.mk H
        clear H
        go_wp2
        repeat (go_quiet (fail); try go_wp2)
        go_meet
        case rel => exact ⟨_, (true), (by first | rfl | (simp; done) | (simp [*]; done)), H', ⟨by first | omega | exact Nat.le_refl _⟩, ⟨by repeat (first | (with_reducible first | exact HB.out | apply below_alloc | apply pw_below_drewN | apply below_drew1) | exact HB.out)⟩⟩
    case rest =>
      clear HC10
      try clear c1
      try clear p2
      try clear c3
      try clear c10
      try clear c13
      try clear c13b0
      try clear c13b1
      try clear c14
      try clear c14b0
      try clear c14b1
      try clear c15
      try clear c15b0
      try clear c15b1
      obtain ⟨kq, x70_9, rfl, HA, HJ9, HB⟩ := hcut
      cases kq with
      | zero => exact absurd HA.out (by simp [laws_FnRemainders.j0])
      | succ kj9 =>
        have H := HA.out
        clear HA
        simp only [laws_FnRemainders.j0] at H
        by_cases c16 : x70_9 = true
        · subst c16
          have H1 : (some false) = some r := by rw [if_pos rfl] at H; exact H
          clear H
          have H := H1
          clear H1
          obtain rfl := Option.some.inj H
          go_wp2
          repeat (go_quiet (fail); try go_wp2)
          go_ret
          exact ⟨by first | rfl | (simp [errW_none, errW_some] <;> rfl) | (simp [*, errW_none, errW_some] <;> rfl), by repeat (first | (with_reducible first | exact HB.out | apply below_alloc | apply pw_below_drewN | apply below_drew1) | exact HB.out)⟩
        · replace c16 := Bool.eq_false_iff.mpr c16
          subst c16
          have H1 : (if t318 = 0 then (laws_FnRemainders.j1 kj9 t309 t310 t311 t312 t315 t316 t319 (decide (t319 > 0))) else (laws_FnRemainders.j1 kj9 t309 t310 t311 t312 t315 t316 t319 false)) = some r := by rw [if_neg (show ¬ (false = true) by decide)] at H; exact H
          clear H
          have H := H1
          clear H1
          have HC17 := Aside0.mk H
          clear H
          go_upto_region 11 with (fail)
          repeat (go_quiet (fail); go_upto_region 11 with (fail))
          go_cut [76] (fun v76 wc => ∃ (kq : Nat) (x76_16 : Bool), v76 = .bool x76_16 ∧ Aside0 (laws_FnRemainders.j1 kq t309 t310 t311 t312 t315 t316 t319 x76_16 = some r) ∧ Aside0 (kq ≤ kj9) ∧ Aside0 (Below w.heap.size w wc))
          case first =>
            have H := HC17.out
            clear HC17
            by_cases c18 : t318 = 0
            · rw [if_pos c18] at H
              have c18b0 : (t318 == 0) = true := beq_iff_eq.mpr c18
              have c18b1 : (t318 != 0) = false := bne_eq_false_iff_eq.mpr c18
              clear c18
              (first | rw [c18b0] | (simp only [i64_w, i32_w]; rw [c18b0]) | skip)
              have H' := Aside0.mk H
              clear H
              go_wp2
              repeat (go_quiet (fail); try go_wp2)
              go_meet
              case rel => exact ⟨_, (decide (t319 > 0)), (by first | rfl | (simp; done) | (simp [*]; done)), H', ⟨by have := HJ9.out; first | omega | exact Nat.le_refl _⟩, ⟨by repeat (first | (with_reducible first | exact HB.out | apply below_alloc | apply pw_below_drewN | apply below_drew1) | exact HB.out)⟩⟩
            · rw [if_neg c18] at H
              have c18b0 : (t318 == 0) = false := beq_eq_false_iff_ne.mpr c18
              have c18b1 : (t318 != 0) = true := bne_iff_ne.mpr c18
              (first | rw [c18b0] | (simp only [i64_w, i32_w]; rw [c18b0]) | skip)
              have H' := Aside0.mk H
              clear H
              go_wp2
              repeat (go_quiet (fail); try go_wp2)
              go_meet
              case rel => exact ⟨_, (false), (by first | rfl | (simp; done) | (simp [*]; done)), H', ⟨by have := HJ9.out; first | omega | exact Nat.le_refl _⟩, ⟨by repeat (first | (with_reducible first | exact HB.out | apply below_alloc | apply pw_below_drewN | apply below_drew1) | exact HB.out)⟩⟩
          case rest =>
            clear HC17
            try clear c1
            try clear p2
            try clear c3
            try clear c10
            try clear c13
            try clear c13b0
            try clear c13b1
            try clear c14
            try clear c14b0
            try clear c14b1
            try clear c15
            try clear c15b0
            try clear c15b1
            try clear c16
            try clear c18
            try clear c18b0
            try clear c18b1
            try clear p2
            obtain ⟨kq, x76_16, rfl, HA, HJ16, HB⟩ := hcut
            cases kq with
            | zero => exact absurd HA.out (by simp [laws_FnRemainders.j1])
            | succ kj16 =>
              have H := HA.out
              clear HA
              simp only [laws_FnRemainders.j1] at H
              by_cases c19 : x76_16 = true
              · subst c19
                have H1 : (if t319 = 0 then (none) else ((impl_GreatestDivisor.f kj16 (wrap64 (Int.tdiv t315 t319)) (wrap64 (Int.tdiv t316 t319))).bind fun bt321 => (if bt321.2 = 0 then (if bt321.1 = 1 then (if (Int.tmod t315 t319) = 0 then (if (Int.tmod t316 t319) = 0 then (if t312 = 0 then (if t310 = 0 then (none) else (if (Int.tmod (wrap64 (t309 - t311)) t310) = 0 then (if t311 ≥ 0 then (some (decide (t311 < t310))) else (some false)) else (some false))) else (some true)) else (some false)) else (some false)) else (some false)) else (some false)))) = some r := by rw [if_pos rfl] at H; exact H
                clear H
                have H := H1
                clear H1
                by_cases c20 : t319 = 0
                · rw [if_pos c20] at H
                  exact absurd H (by simp)
                · rw [if_neg c20] at H
                  have c20b0 : (t319 == 0) = false := beq_eq_false_iff_ne.mpr c20
                  have c20b1 : (t319 != 0) = true := bne_iff_ne.mpr c20
                  replace H := Option.bind_eq_some_iff.mp H
                  obtain ⟨⟨t321, t322⟩, A210, H⟩ := H
                  replace H : (if t322 = 0 then (if t321 = 1 then (if (Int.tmod t315 t319) = 0 then (if (Int.tmod t316 t319) = 0 then (if t312 = 0 then (if t310 = 0 then (none) else (if (Int.tmod (wrap64 (t309 - t311)) t310) = 0 then (if t311 ≥ 0 then (some (decide (t311 < t310))) else (some false)) else (some false))) else (some true)) else (some false)) else (some false)) else (some false)) else (some false)) = some r := H
                  have A21 := Aside0.mk A210
                  clear A210
                  by_cases c22 : t322 = 0
                  · rw [if_pos c22] at H
                    have c22b0 : (t322 == 0) = true := beq_iff_eq.mpr c22
                    have c22b1 : (t322 != 0) = false := bne_eq_false_iff_eq.mpr c22
                    clear c22
                    by_cases c23 : t321 = 1
                    · rw [if_pos c23] at H
                      have c23b0 : (t321 == 1) = true := beq_iff_eq.mpr c23
                      have c23b1 : (t321 != 1) = false := bne_eq_false_iff_eq.mpr c23
                      clear c23
                      by_cases c24 : (Int.tmod t315 t319) = 0
                      · rw [if_pos c24] at H
                        have c24b0 : ((Int.tmod t315 t319) == 0) = true := beq_iff_eq.mpr c24
                        have c24b1 : ((Int.tmod t315 t319) != 0) = false := bne_eq_false_iff_eq.mpr c24
                        clear c24
                        by_cases c25 : (Int.tmod t316 t319) = 0
                        · rw [if_pos c25] at H
                          have c25b0 : ((Int.tmod t316 t319) == 0) = true := beq_iff_eq.mpr c25
                          have c25b1 : ((Int.tmod t316 t319) != 0) = false := bne_eq_false_iff_eq.mpr c25
                          clear c25
                          by_cases c26 : t312 = 0
                          · rw [if_pos c26] at H
                            have c26b0 : (t312 == 0) = true := beq_iff_eq.mpr c26
                            have c26b1 : (t312 != 0) = false := bne_eq_false_iff_eq.mpr c26
                            clear c26
                            by_cases c27 : t310 = 0
                            · rw [if_pos c27] at H
                              exact absurd H (by simp)
                            · rw [if_neg c27] at H
                              have c27b0 : (t310 == 0) = false := beq_eq_false_iff_ne.mpr c27
                              have c27b1 : (t310 != 0) = true := bne_iff_ne.mpr c27
                              by_cases c28 : (Int.tmod (wrap64 (t309 - t311)) t310) = 0
                              · rw [if_pos c28] at H
                                have c28b0 : ((Int.tmod (wrap64 (t309 - t311)) t310) == 0) = true := beq_iff_eq.mpr c28
                                have c28b1 : ((Int.tmod (wrap64 (t309 - t311)) t310) != 0) = false := bne_eq_false_iff_eq.mpr c28
                                clear c28
                                by_cases c29 : t311 ≥ 0
                                · rw [if_pos c29] at H
                                  have c29b0 : decide (0 ≤ t311) = true := decide_eq_true c29
                                  clear c29
                                  obtain rfl := Option.some.inj H
                                  go_wp2_with (first | (go_at_call 19; (with_reducible refine (impl_GreatestDivisor.calls kj16 (wrap64 (Int.tdiv t315 t319)) (wrap64 (Int.tdiv t316 t319)) t321 t322 _ A21.out).mono ?_); rintro e w' ⟨rfl, ⟨nd, rfl⟩⟩; (try first | exact ⟨rfl, _, World.drewN_drewN _ _ _⟩ | exact ⟨rfl, _, Eq.trans (World.drewN_drewN _ _ _) (congrArg (World.drewN _) (Nat.add_assoc _ _ _))⟩)))
                                  repeat (go_quiet (first | (go_at_call 19; (with_reducible refine (impl_GreatestDivisor.calls kj16 (wrap64 (Int.tdiv t315 t319)) (wrap64 (Int.tdiv t316 t319)) t321 t322 _ A21.out).mono ?_); rintro e w' ⟨rfl, ⟨nd, rfl⟩⟩; (try first | exact ⟨rfl, _, World.drewN_drewN _ _ _⟩ | exact ⟨rfl, _, Eq.trans (World.drewN_drewN _ _ _) (congrArg (World.drewN _) (Nat.add_assoc _ _ _))⟩))); try go_wp2_with (first | (go_at_call 19; (with_reducible refine (impl_GreatestDivisor.calls kj16 (wrap64 (Int.tdiv t315 t319)) (wrap64 (Int.tdiv t316 t319)) t321 t322 _ A21.out).mono ?_); rintro e w' ⟨rfl, ⟨nd, rfl⟩⟩; (try first | exact ⟨rfl, _, World.drewN_drewN _ _ _⟩ | exact ⟨rfl, _, Eq.trans (World.drewN_drewN _ _ _) (congrArg (World.drewN _) (Nat.add_assoc _ _ _))⟩))))
                                  go_ret
                                  exact ⟨by first | rfl | (simp [errW_none, errW_some] <;> rfl) | (simp [*, errW_none, errW_some] <;> rfl), by repeat (first | (with_reducible first | exact HB.out | apply below_alloc | apply pw_below_drewN | apply below_drew1) | exact HB.out)⟩
                                · rw [if_neg c29] at H
                                  have c29b0 : decide (0 ≤ t311) = false := decide_eq_false c29
                                  clear c29
                                  obtain rfl := Option.some.inj H
                                  go_wp2_with (first | (go_at_call 19; (with_reducible refine (impl_GreatestDivisor.calls kj16 (wrap64 (Int.tdiv t315 t319)) (wrap64 (Int.tdiv t316 t319)) t321 t322 _ A21.out).mono ?_); rintro e w' ⟨rfl, ⟨nd, rfl⟩⟩; (try first | exact ⟨rfl, _, World.drewN_drewN _ _ _⟩ | exact ⟨rfl, _, Eq.trans (World.drewN_drewN _ _ _) (congrArg (World.drewN _) (Nat.add_assoc _ _ _))⟩)))
                                  repeat (go_quiet (first | (go_at_call 19; (with_reducible refine (impl_GreatestDivisor.calls kj16 (wrap64 (Int.tdiv t315 t319)) (wrap64 (Int.tdiv t316 t319)) t321 t322 _ A21.out).mono ?_); rintro e w' ⟨rfl, ⟨nd, rfl⟩⟩; (try first | exact ⟨rfl, _, World.drewN_drewN _ _ _⟩ | exact ⟨rfl, _, Eq.trans (World.drewN_drewN _ _ _) (congrArg (World.drewN _) (Nat.add_assoc _ _ _))⟩))); try go_wp2_with (first | (go_at_call 19; (with_reducible refine (impl_GreatestDivisor.calls kj16 (wrap64 (Int.tdiv t315 t319)) (wrap64 (Int.tdiv t316 t319)) t321 t322 _ A21.out).mono ?_); rintro e w' ⟨rfl, ⟨nd, rfl⟩⟩; (try first | exact ⟨rfl, _, World.drewN_drewN _ _ _⟩ | exact ⟨rfl, _, Eq.trans (World.drewN_drewN _ _ _) (congrArg (World.drewN _) (Nat.add_assoc _ _ _))⟩))))
                                  go_ret
                                  exact ⟨by first | rfl | (simp [errW_none, errW_some] <;> rfl) | (simp [*, errW_none, errW_some] <;> rfl), by repeat (first | (with_reducible first | exact HB.out | apply below_alloc | apply pw_below_drewN | apply below_drew1) | exact HB.out)⟩
                              · rw [if_neg c28] at H
                                have c28b0 : ((Int.tmod (wrap64 (t309 - t311)) t310) == 0) = false := beq_eq_false_iff_ne.mpr c28
                                have c28b1 : ((Int.tmod (wrap64 (t309 - t311)) t310) != 0) = true := bne_iff_ne.mpr c28
                                obtain rfl := Option.some.inj H
                                go_wp2_with (first | (go_at_call 19; (with_reducible refine (impl_GreatestDivisor.calls kj16 (wrap64 (Int.tdiv t315 t319)) (wrap64 (Int.tdiv t316 t319)) t321 t322 _ A21.out).mono ?_); rintro e w' ⟨rfl, ⟨nd, rfl⟩⟩; (try first | exact ⟨rfl, _, World.drewN_drewN _ _ _⟩ | exact ⟨rfl, _, Eq.trans (World.drewN_drewN _ _ _) (congrArg (World.drewN _) (Nat.add_assoc _ _ _))⟩)))
                                repeat (go_quiet (first | (go_at_call 19; (with_reducible refine (impl_GreatestDivisor.calls kj16 (wrap64 (Int.tdiv t315 t319)) (wrap64 (Int.tdiv t316 t319)) t321 t322 _ A21.out).mono ?_); rintro e w' ⟨rfl, ⟨nd, rfl⟩⟩; (try first | exact ⟨rfl, _, World.drewN_drewN _ _ _⟩ | exact ⟨rfl, _, Eq.trans (World.drewN_drewN _ _ _) (congrArg (World.drewN _) (Nat.add_assoc _ _ _))⟩))); try go_wp2_with (first | (go_at_call 19; (with_reducible refine (impl_GreatestDivisor.calls kj16 (wrap64 (Int.tdiv t315 t319)) (wrap64 (Int.tdiv t316 t319)) t321 t322 _ A21.out).mono ?_); rintro e w' ⟨rfl, ⟨nd, rfl⟩⟩; (try first | exact ⟨rfl, _, World.drewN_drewN _ _ _⟩ | exact ⟨rfl, _, Eq.trans (World.drewN_drewN _ _ _) (congrArg (World.drewN _) (Nat.add_assoc _ _ _))⟩))))
                                go_ret
                                exact ⟨by first | rfl | (simp [errW_none, errW_some] <;> rfl) | (simp [*, errW_none, errW_some] <;> rfl), by repeat (first | (with_reducible first | exact HB.out | apply below_alloc | apply pw_below_drewN | apply below_drew1) | exact HB.out)⟩
                          · rw [if_neg c26] at H
                            have c26b0 : (t312 == 0) = false := beq_eq_false_iff_ne.mpr c26
                            have c26b1 : (t312 != 0) = true := bne_iff_ne.mpr c26
                            obtain rfl := Option.some.inj H
                            go_wp2_with (first | (go_at_call 19; (with_reducible refine (impl_GreatestDivisor.calls kj16 (wrap64 (Int.tdiv t315 t319)) (wrap64 (Int.tdiv t316 t319)) t321 t322 _ A21.out).mono ?_); rintro e w' ⟨rfl, ⟨nd, rfl⟩⟩; (try first | exact ⟨rfl, _, World.drewN_drewN _ _ _⟩ | exact ⟨rfl, _, Eq.trans (World.drewN_drewN _ _ _) (congrArg (World.drewN _) (Nat.add_assoc _ _ _))⟩)))
                            repeat (go_quiet (first | (go_at_call 19; (with_reducible refine (impl_GreatestDivisor.calls kj16 (wrap64 (Int.tdiv t315 t319)) (wrap64 (Int.tdiv t316 t319)) t321 t322 _ A21.out).mono ?_); rintro e w' ⟨rfl, ⟨nd, rfl⟩⟩; (try first | exact ⟨rfl, _, World.drewN_drewN _ _ _⟩ | exact ⟨rfl, _, Eq.trans (World.drewN_drewN _ _ _) (congrArg (World.drewN _) (Nat.add_assoc _ _ _))⟩))); try go_wp2_with (first | (go_at_call 19; (with_reducible refine (impl_GreatestDivisor.calls kj16 (wrap64 (Int.tdiv t315 t319)) (wrap64 (Int.tdiv t316 t319)) t321 t322 _ A21.out).mono ?_); rintro e w' ⟨rfl, ⟨nd, rfl⟩⟩; (try first | exact ⟨rfl, _, World.drewN_drewN _ _ _⟩ | exact ⟨rfl, _, Eq.trans (World.drewN_drewN _ _ _) (congrArg (World.drewN _) (Nat.add_assoc _ _ _))⟩))))
                            go_ret
                            exact ⟨by first | rfl | (simp [errW_none, errW_some] <;> rfl) | (simp [*, errW_none, errW_some] <;> rfl), by repeat (first | (with_reducible first | exact HB.out | apply below_alloc | apply pw_below_drewN | apply below_drew1) | exact HB.out)⟩
                        · rw [if_neg c25] at H
                          have c25b0 : ((Int.tmod t316 t319) == 0) = false := beq_eq_false_iff_ne.mpr c25
                          have c25b1 : ((Int.tmod t316 t319) != 0) = true := bne_iff_ne.mpr c25
                          obtain rfl := Option.some.inj H
                          go_wp2_with (first | (go_at_call 19; (with_reducible refine (impl_GreatestDivisor.calls kj16 (wrap64 (Int.tdiv t315 t319)) (wrap64 (Int.tdiv t316 t319)) t321 t322 _ A21.out).mono ?_); rintro e w' ⟨rfl, ⟨nd, rfl⟩⟩; (try first | exact ⟨rfl, _, World.drewN_drewN _ _ _⟩ | exact ⟨rfl, _, Eq.trans (World.drewN_drewN _ _ _) (congrArg (World.drewN _) (Nat.add_assoc _ _ _))⟩)))
                          repeat (go_quiet (first | (go_at_call 19; (with_reducible refine (impl_GreatestDivisor.calls kj16 (wrap64 (Int.tdiv t315 t319)) (wrap64 (Int.tdiv t316 t319)) t321 t322 _ A21.out).mono ?_); rintro e w' ⟨rfl, ⟨nd, rfl⟩⟩; (try first | exact ⟨rfl, _, World.drewN_drewN _ _ _⟩ | exact ⟨rfl, _, Eq.trans (World.drewN_drewN _ _ _) (congrArg (World.drewN _) (Nat.add_assoc _ _ _))⟩))); try go_wp2_with (first | (go_at_call 19; (with_reducible refine (impl_GreatestDivisor.calls kj16 (wrap64 (Int.tdiv t315 t319)) (wrap64 (Int.tdiv t316 t319)) t321 t322 _ A21.out).mono ?_); rintro e w' ⟨rfl, ⟨nd, rfl⟩⟩; (try first | exact ⟨rfl, _, World.drewN_drewN _ _ _⟩ | exact ⟨rfl, _, Eq.trans (World.drewN_drewN _ _ _) (congrArg (World.drewN _) (Nat.add_assoc _ _ _))⟩))))
                          go_ret
                          exact ⟨by first | rfl | (simp [errW_none, errW_some] <;> rfl) | (simp [*, errW_none, errW_some] <;> rfl), by repeat (first | (with_reducible first | exact HB.out | apply below_alloc | apply pw_below_drewN | apply below_drew1) | exact HB.out)⟩
                      · rw [if_neg c24] at H
                        have c24b0 : ((Int.tmod t315 t319) == 0) = false := beq_eq_false_iff_ne.mpr c24
                        have c24b1 : ((Int.tmod t315 t319) != 0) = true := bne_iff_ne.mpr c24
                        obtain rfl := Option.some.inj H
                        go_wp2_with (first | (go_at_call 19; (with_reducible refine (impl_GreatestDivisor.calls kj16 (wrap64 (Int.tdiv t315 t319)) (wrap64 (Int.tdiv t316 t319)) t321 t322 _ A21.out).mono ?_); rintro e w' ⟨rfl, ⟨nd, rfl⟩⟩; (try first | exact ⟨rfl, _, World.drewN_drewN _ _ _⟩ | exact ⟨rfl, _, Eq.trans (World.drewN_drewN _ _ _) (congrArg (World.drewN _) (Nat.add_assoc _ _ _))⟩)))
                        repeat (go_quiet (first | (go_at_call 19; (with_reducible refine (impl_GreatestDivisor.calls kj16 (wrap64 (Int.tdiv t315 t319)) (wrap64 (Int.tdiv t316 t319)) t321 t322 _ A21.out).mono ?_); rintro e w' ⟨rfl, ⟨nd, rfl⟩⟩; (try first | exact ⟨rfl, _, World.drewN_drewN _ _ _⟩ | exact ⟨rfl, _, Eq.trans (World.drewN_drewN _ _ _) (congrArg (World.drewN _) (Nat.add_assoc _ _ _))⟩))); try go_wp2_with (first | (go_at_call 19; (with_reducible refine (impl_GreatestDivisor.calls kj16 (wrap64 (Int.tdiv t315 t319)) (wrap64 (Int.tdiv t316 t319)) t321 t322 _ A21.out).mono ?_); rintro e w' ⟨rfl, ⟨nd, rfl⟩⟩; (try first | exact ⟨rfl, _, World.drewN_drewN _ _ _⟩ | exact ⟨rfl, _, Eq.trans (World.drewN_drewN _ _ _) (congrArg (World.drewN _) (Nat.add_assoc _ _ _))⟩))))
                        go_ret
                        exact ⟨by first | rfl | (simp [errW_none, errW_some] <;> rfl) | (simp [*, errW_none, errW_some] <;> rfl), by repeat (first | (with_reducible first | exact HB.out | apply below_alloc | apply pw_below_drewN | apply below_drew1) | exact HB.out)⟩
                    · rw [if_neg c23] at H
                      have c23b0 : (t321 == 1) = false := beq_eq_false_iff_ne.mpr c23
                      have c23b1 : (t321 != 1) = true := bne_iff_ne.mpr c23
                      obtain rfl := Option.some.inj H
                      go_wp2_with (first | (go_at_call 19; (with_reducible refine (impl_GreatestDivisor.calls kj16 (wrap64 (Int.tdiv t315 t319)) (wrap64 (Int.tdiv t316 t319)) t321 t322 _ A21.out).mono ?_); rintro e w' ⟨rfl, ⟨nd, rfl⟩⟩; (try first | exact ⟨rfl, _, World.drewN_drewN _ _ _⟩ | exact ⟨rfl, _, Eq.trans (World.drewN_drewN _ _ _) (congrArg (World.drewN _) (Nat.add_assoc _ _ _))⟩)))
                      repeat (go_quiet (first | (go_at_call 19; (with_reducible refine (impl_GreatestDivisor.calls kj16 (wrap64 (Int.tdiv t315 t319)) (wrap64 (Int.tdiv t316 t319)) t321 t322 _ A21.out).mono ?_); rintro e w' ⟨rfl, ⟨nd, rfl⟩⟩; (try first | exact ⟨rfl, _, World.drewN_drewN _ _ _⟩ | exact ⟨rfl, _, Eq.trans (World.drewN_drewN _ _ _) (congrArg (World.drewN _) (Nat.add_assoc _ _ _))⟩))); try go_wp2_with (first | (go_at_call 19; (with_reducible refine (impl_GreatestDivisor.calls kj16 (wrap64 (Int.tdiv t315 t319)) (wrap64 (Int.tdiv t316 t319)) t321 t322 _ A21.out).mono ?_); rintro e w' ⟨rfl, ⟨nd, rfl⟩⟩; (try first | exact ⟨rfl, _, World.drewN_drewN _ _ _⟩ | exact ⟨rfl, _, Eq.trans (World.drewN_drewN _ _ _) (congrArg (World.drewN _) (Nat.add_assoc _ _ _))⟩))))
                      go_ret
                      exact ⟨by first | rfl | (simp [errW_none, errW_some] <;> rfl) | (simp [*, errW_none, errW_some] <;> rfl), by repeat (first | (with_reducible first | exact HB.out | apply below_alloc | apply pw_below_drewN | apply below_drew1) | exact HB.out)⟩
                  · rw [if_neg c22] at H
                    have c22b0 : (t322 == 0) = false := beq_eq_false_iff_ne.mpr c22
                    have c22b1 : (t322 != 0) = true := bne_iff_ne.mpr c22
                    obtain rfl := Option.some.inj H
                    go_wp2_with (first | (go_at_call 19; (with_reducible refine (impl_GreatestDivisor.calls kj16 (wrap64 (Int.tdiv t315 t319)) (wrap64 (Int.tdiv t316 t319)) t321 t322 _ A21.out).mono ?_); rintro e w' ⟨rfl, ⟨nd, rfl⟩⟩; (try first | exact ⟨rfl, _, World.drewN_drewN _ _ _⟩ | exact ⟨rfl, _, Eq.trans (World.drewN_drewN _ _ _) (congrArg (World.drewN _) (Nat.add_assoc _ _ _))⟩)))
                    repeat (go_quiet (first | (go_at_call 19; (with_reducible refine (impl_GreatestDivisor.calls kj16 (wrap64 (Int.tdiv t315 t319)) (wrap64 (Int.tdiv t316 t319)) t321 t322 _ A21.out).mono ?_); rintro e w' ⟨rfl, ⟨nd, rfl⟩⟩; (try first | exact ⟨rfl, _, World.drewN_drewN _ _ _⟩ | exact ⟨rfl, _, Eq.trans (World.drewN_drewN _ _ _) (congrArg (World.drewN _) (Nat.add_assoc _ _ _))⟩))); try go_wp2_with (first | (go_at_call 19; (with_reducible refine (impl_GreatestDivisor.calls kj16 (wrap64 (Int.tdiv t315 t319)) (wrap64 (Int.tdiv t316 t319)) t321 t322 _ A21.out).mono ?_); rintro e w' ⟨rfl, ⟨nd, rfl⟩⟩; (try first | exact ⟨rfl, _, World.drewN_drewN _ _ _⟩ | exact ⟨rfl, _, Eq.trans (World.drewN_drewN _ _ _) (congrArg (World.drewN _) (Nat.add_assoc _ _ _))⟩))))
                    go_ret
                    exact ⟨by first | rfl | (simp [errW_none, errW_some] <;> rfl) | (simp [*, errW_none, errW_some] <;> rfl), by repeat (first | (with_reducible first | exact HB.out | apply below_alloc | apply pw_below_drewN | apply below_drew1) | exact HB.out)⟩
              · replace c19 := Bool.eq_false_iff.mpr c19
                subst c19
                have H1 : (if t312 = 0 then (if t310 = 0 then (none) else (if (Int.tmod (wrap64 (t309 - t311)) t310) = 0 then (if t311 ≥ 0 then (some (decide (t311 < t310))) else (some false)) else (some false))) else (some true)) = some r := by rw [if_neg (show ¬ (false = true) by decide)] at H; exact H
                clear H
                have H := H1
                clear H1
                by_cases c30 : t312 = 0
                · rw [if_pos c30] at H
                  have c30b0 : (t312 == 0) = true := beq_iff_eq.mpr c30
                  have c30b1 : (t312 != 0) = false := bne_eq_false_iff_eq.mpr c30
                  clear c30
                  by_cases c31 : t310 = 0
                  · rw [if_pos c31] at H
                    exact absurd H (by simp)
                  · rw [if_neg c31] at H
                    have c31b0 : (t310 == 0) = false := beq_eq_false_iff_ne.mpr c31
                    have c31b1 : (t310 != 0) = true := bne_iff_ne.mpr c31
                    by_cases c32 : (Int.tmod (wrap64 (t309 - t311)) t310) = 0
                    · rw [if_pos c32] at H
                      have c32b0 : ((Int.tmod (wrap64 (t309 - t311)) t310) == 0) = true := beq_iff_eq.mpr c32
                      have c32b1 : ((Int.tmod (wrap64 (t309 - t311)) t310) != 0) = false := bne_eq_false_iff_eq.mpr c32
                      clear c32
                      by_cases c33 : t311 ≥ 0
                      · rw [if_pos c33] at H
                        have c33b0 : decide (0 ≤ t311) = true := decide_eq_true c33
                        clear c33
                        obtain rfl := Option.some.inj H
                        go_wp2
                        repeat (go_quiet (fail); try go_wp2)
                        go_ret
                        exact ⟨by first | rfl | (simp [errW_none, errW_some] <;> rfl) | (simp [*, errW_none, errW_some] <;> rfl), by repeat (first | (with_reducible first | exact HB.out | apply below_alloc | apply pw_below_drewN | apply below_drew1) | exact HB.out)⟩
                      · rw [if_neg c33] at H
                        have c33b0 : decide (0 ≤ t311) = false := decide_eq_false c33
                        clear c33
                        obtain rfl := Option.some.inj H
                        go_wp2
                        repeat (go_quiet (fail); try go_wp2)
                        go_ret
                        exact ⟨by first | rfl | (simp [errW_none, errW_some] <;> rfl) | (simp [*, errW_none, errW_some] <;> rfl), by repeat (first | (with_reducible first | exact HB.out | apply below_alloc | apply pw_below_drewN | apply below_drew1) | exact HB.out)⟩
                    · rw [if_neg c32] at H
                      have c32b0 : ((Int.tmod (wrap64 (t309 - t311)) t310) == 0) = false := beq_eq_false_iff_ne.mpr c32
                      have c32b1 : ((Int.tmod (wrap64 (t309 - t311)) t310) != 0) = true := bne_iff_ne.mpr c32
                      obtain rfl := Option.some.inj H
                      go_wp2
                      repeat (go_quiet (fail); try go_wp2)
                      go_ret
                      exact ⟨by first | rfl | (simp [errW_none, errW_some] <;> rfl) | (simp [*, errW_none, errW_some] <;> rfl), by repeat (first | (with_reducible first | exact HB.out | apply below_alloc | apply pw_below_drewN | apply below_drew1) | exact HB.out)⟩
                · rw [if_neg c30] at H
                  have c30b0 : (t312 == 0) = false := beq_eq_false_iff_ne.mpr c30
                  have c30b1 : (t312 != 0) = true := bne_iff_ne.mpr c30
                  obtain rfl := Option.some.inj H
                  go_wp2
                  repeat (go_quiet (fail); try go_wp2)
                  go_ret
                  exact ⟨by first | rfl | (simp [errW_none, errW_some] <;> rfl) | (simp [*, errW_none, errW_some] <;> rfl), by repeat (first | (with_reducible first | exact HB.out | apply below_alloc | apply pw_below_drewN | apply below_drew1) | exact HB.out)⟩

/-- THE ONE PURE STATEMENT of laws_FnRemainders: yours. -/
def laws_FnRemainders.Pure : Prop := ∀ (l0 : List Int), l0.length ≤ maxLen → l0.length * 1 ≤ 140737488351232 → (∀ x ∈ l0, (Lit.int .u8 x).wf = true) → ∃ k, laws_FnRemainders.f k l0 = some true
theorem laws_FnRemainders.walk (P : laws_FnRemainders.Pure) (a0 : Option Addr) (len0 cap0 : Nat) (z0 : List Int) (w : World) (w0 : (a0 = none ∧ len0 = 0 ∧ cap0 = 0 ∧ z0 = []) ∨ ∃ x, a0 = some x ∧ len0 ≤ cap0 ∧ cap0 ≤ maxLen ∧ z0.length = cap0 ∧ (∀ i, i < z0.length → w.cell? (x.add i) = some (.int .u8 (z0.getD i 0))) ∧ ∀ n ∈ z0, (Lit.int .u8 n).wf = true) (y0 : len0 * 1 ≤ 140737488351232) :
    Calls Try.prog 10 #[.slice a0 len0 cap0] w fun e w' => e = .returned (.bool true) ∧ Below w.heap.size w w' := by
  obtain ⟨l0, rfl, hr0, hm0, hw0, hc0⟩ := ReadsInt.ofRowC w0
  obtain ⟨k, h⟩ := P l0 hm0 y0 hw0
  refine (laws_FnRemainders.calls k _ _ l0 true w (Kd.C_of_reads (d := (0 : Int)) (h1 := fun _ => rfl) hr0) hc0 h).mono ?_
  rintro e w' ⟨rfl, hd⟩
  exact ⟨rfl, hd⟩

end Go.Proofs.Ytkidfehpikfahaa.X
