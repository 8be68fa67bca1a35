-- Written by xprint.py, a program of this session, on the kit's print.py: functions of the seat in one namespace.
import Derived.Test.YtbkafaoehheioaaXx0
import Derived.Test.YtbkafaoehheioaaXx7
import Derived.Test.YtbkafaoehheioaaXx8
import Derived.Test.YtbkafaoehheioaaXx17
namespace Go.Proofs.Ytbkafaoehheioaa.X
open Go.RowKit Go.Proofs.YtbkafaoehheioaaW.PrintWords Go.Proofs.YtbkafaoehheioaaW.PrintLast Go.Proofs.YtbkafaoehheioaaW.PrintMore
attribute [local go_sem] max2_int min2_int max_two min_two max_three min_three max_four min_four   -- for this text's walks alone
set_option linter.unusedVariables false
set_option linter.unusedSimpArgs false

/-! ### laws_FnAllShapes: function 6 -/
mutual
def laws_FnAllShapes.j0 : Nat → Int → Int → Int → Int → Int → Bool → Option (Bool)
 | 0, _, _, _, _, _, _ => none
 | k + 1, x3, x7, x8, x9, x10, x63 => if x63 = true then (some false) else (if x7 = 0 then (laws_FnAllShapes.j1 k x3 x8 x9 x10 (decide (x3 > 4))) else (laws_FnAllShapes.j1 k x3 x8 x9 x10 true))
def laws_FnAllShapes.j1 : Nat → Int → Int → Int → Int → Bool → Option (Bool)
 | 0, _, _, _, _, _ => none
 | k + 1, x3, x8, x9, x10, x69 => if x69 = true then (some true) else ((impl_FixedShapes.f k x3).bind fun bt1067 => ((spec_FixedShapes.f k x3).bind fun bt1071 => ((impl_FreeShapes.f k x3).bind fun bt1075 => ((spec_FreeShapes.f k x3).bind fun bt1079 => ((impl_OneSidedShapes.f k x3).bind fun bt1083 => ((spec_OneSidedShapes.f k x3).bind fun bt1087 => (if bt1067.2 = 0 then (if bt1075.2 = 0 then (if bt1083.2 = 0 then ((laws_likeShapes.f k bt1067.1 bt1071.1).bind fun t1091 => (if t1091 = true then ((laws_likeShapes.f k bt1075.1 bt1079.1).bind fun t1092 => (if t1092 = true then ((laws_likeShapes.f k bt1083.1 bt1087.1).bind fun t1093 => (laws_FnAllShapes.j2 k x8 x9 x10 bt1067.1 bt1075.1 bt1083.1 (!t1093))) else (laws_FnAllShapes.j2 k x8 x9 x10 bt1067.1 bt1075.1 bt1083.1 true))) else (laws_FnAllShapes.j2 k x8 x9 x10 bt1067.1 bt1075.1 bt1083.1 true))) else (laws_FnAllShapes.j2 k x8 x9 x10 bt1067.1 bt1075.1 bt1083.1 true)) else (laws_FnAllShapes.j2 k x8 x9 x10 bt1067.1 bt1075.1 bt1083.1 true)) else (laws_FnAllShapes.j2 k x8 x9 x10 bt1067.1 bt1075.1 bt1083.1 true))))))))
def laws_FnAllShapes.j2 : Nat → Int → Int → Int → List (List (S55)) → List (List (S55)) → List (List (S55)) → Bool → Option (Bool)
 | 0, _, _, _, _, _, _, _ => none
 | k + 1, x8, x9, x10, x12, x16, x20, x127 => if x127 = true then (some false) else (laws_FnAllShapes.l0 k x8 x9 x10 x12 x16 x20 0 0)
def laws_FnAllShapes.l0 : Nat → Int → Int → Int → List (List (S55)) → List (List (S55)) → List (List (S55)) → Int → Int → Option (Bool)
 | 0, _, _, _, _, _, _, _, _ => none
 | k + 1, x8, x9, x10, x12, x16, x20, x24, x25 => if x25 < (x16.length : Int) then (if 0 ≤ x25 then ((impl_FormsOf.f k (rd_L3 x16 x25)).bind fun bt1095 => (if bt1095.2 = 0 then (laws_FnAllShapes.l0 k x8 x9 x10 x12 x16 x20 (wrap64 (x24 + (bt1095.1.length : Int))) (wrap64 (x25 + 1))) else (some false))) else (none)) else (if x24 = (x12.length : Int) then (if (x12.length : Int) = x8 then (if (x16.length : Int) = x10 then (some ((x20.length : Int) == x9)) else (some false)) else (some false)) else (some false))
end
def laws_FnAllShapes.f (k : Nat) (l0 : List Int) : Option (Bool) := (laws_big.f l0).bind fun t1057 => (if t1057 = true then (some true) else ((spec_DrawCountShapes.f k l0).bind fun t1058 => ((impl_CountShapes.f k t1058).bind fun bt1059 => ((spec_CountShapes.f k t1058).bind fun bt1063 => (if bt1059.2.2.2 = bt1063.2.2.2 then (if bt1059.1 = bt1063.1 then (if bt1059.2.1 = bt1063.2.1 then (laws_FnAllShapes.j0 k t1058 bt1059.2.2.2 bt1063.1 bt1063.2.1 bt1063.2.2.1 (bt1059.2.2.1 != bt1063.2.2.1)) else (laws_FnAllShapes.j0 k t1058 bt1059.2.2.2 bt1063.1 bt1063.2.1 bt1063.2.2.1 true)) else (laws_FnAllShapes.j0 k t1058 bt1059.2.2.2 bt1063.1 bt1063.2.1 bt1063.2.2.1 true)) else (laws_FnAllShapes.j0 k t1058 bt1059.2.2.2 bt1063.1 bt1063.2.1 bt1063.2.2.1 true))))))
theorem laws_FnAllShapes.mono_l : ∀ k, (∀ y0 y1 y2 y3 y4 y5, LeO (laws_FnAllShapes.j0 k y0 y1 y2 y3 y4 y5) (laws_FnAllShapes.j0 (k + 1) y0 y1 y2 y3 y4 y5)) ∧ (∀ y0 y1 y2 y3 y4, LeO (laws_FnAllShapes.j1 k y0 y1 y2 y3 y4) (laws_FnAllShapes.j1 (k + 1) y0 y1 y2 y3 y4)) ∧ (∀ y0 y1 y2 y3 y4 y5 y6, LeO (laws_FnAllShapes.j2 k y0 y1 y2 y3 y4 y5 y6) (laws_FnAllShapes.j2 (k + 1) y0 y1 y2 y3 y4 y5 y6)) ∧ (∀ y0 y1 y2 y3 y4 y5 y6 y7, LeO (laws_FnAllShapes.l0 k y0 y1 y2 y3 y4 y5 y6 y7) (laws_FnAllShapes.l0 (k + 1) y0 y1 y2 y3 y4 y5 y6 y7))
 | 0 => ⟨fun _ _ _ _ _ _ r h => by simp [laws_FnAllShapes.j0] at h, fun _ _ _ _ _ r h => by simp [laws_FnAllShapes.j1] at h, fun _ _ _ _ _ _ _ r h => by simp [laws_FnAllShapes.j2] at h, fun _ _ _ _ _ _ _ _ r h => by simp [laws_FnAllShapes.l0] at h⟩
 | k + 1 => by
  obtain ⟨ih0, ih1, ih2, ih3⟩ := laws_FnAllShapes.mono_l k
  refine ⟨?_, ?_, ?_, ?_⟩
  ·intro y0 y1 y2 y3 y4 y5
   unfold laws_FnAllShapes.j0
   repeat' first
   | (with_reducible exact ih0 _ _ _ _ _ _)
   | (with_reducible exact ih1 _ _ _ _ _)
   | (with_reducible exact ih2 _ _ _ _ _ _ _)
   | (with_reducible exact ih3 _ _ _ _ _ _ _ _)
   | (with_reducible exact impl_CountShapes.mono _ _)
   | (with_reducible exact impl_FixedShapes.mono _ _)
   | (with_reducible exact impl_FormsOf.mono _ _)
   | (with_reducible exact impl_FreeShapes.mono _ _)
   | (with_reducible exact impl_OneSidedShapes.mono _ _)
   | (with_reducible exact laws_likeShapes.mono _ _ _)
   | (with_reducible exact spec_CountShapes.mono _ _)
   | (with_reducible exact spec_DrawCountShapes.mono _ _)
   | (with_reducible exact spec_FixedShapes.mono _ _)
   | (with_reducible exact spec_FreeShapes.mono _ _)
   | (with_reducible exact spec_OneSidedShapes.mono _ _)
   | (with_reducible exact LeO.refl _)
   | (with_reducible exact LeO.none _)
   | (with_reducible refine LeO.ite ?_ ?_)
   | (with_reducible refine LeO.bind ?_ (fun _ => ?_))
   | exact ih0 _ _ _ _ _ _
   | exact ih1 _ _ _ _ _
   | exact ih2 _ _ _ _ _ _ _
   | exact ih3 _ _ _ _ _ _ _ _
   | exact impl_CountShapes.mono _ _
   | exact impl_FixedShapes.mono _ _
   | exact impl_FormsOf.mono _ _
   | exact impl_FreeShapes.mono _ _
   | exact impl_OneSidedShapes.mono _ _
   | exact laws_likeShapes.mono _ _ _
   | exact spec_CountShapes.mono _ _
   | exact spec_DrawCountShapes.mono _ _
   | exact spec_FixedShapes.mono _ _
   | exact spec_FreeShapes.mono _ _
   | exact spec_OneSidedShapes.mono _ _
   | exact LeO.none _
   | refine LeO.ite ?_ ?_
   | refine LeO.bind ?_ (fun _ => ?_)
  ·intro y0 y1 y2 y3 y4
   unfold laws_FnAllShapes.j1
   repeat' first
   | (with_reducible exact ih0 _ _ _ _ _ _)
   | (with_reducible exact ih1 _ _ _ _ _)
   | (with_reducible exact ih2 _ _ _ _ _ _ _)
   | (with_reducible exact ih3 _ _ _ _ _ _ _ _)
   | (with_reducible exact impl_CountShapes.mono _ _)
   | (with_reducible exact impl_FixedShapes.mono _ _)
   | (with_reducible exact impl_FormsOf.mono _ _)
   | (with_reducible exact impl_FreeShapes.mono _ _)
   | (with_reducible exact impl_OneSidedShapes.mono _ _)
   | (with_reducible exact laws_likeShapes.mono _ _ _)
   | (with_reducible exact spec_CountShapes.mono _ _)
   | (with_reducible exact spec_DrawCountShapes.mono _ _)
   | (with_reducible exact spec_FixedShapes.mono _ _)
   | (with_reducible exact spec_FreeShapes.mono _ _)
   | (with_reducible exact spec_OneSidedShapes.mono _ _)
   | (with_reducible exact LeO.refl _)
   | (with_reducible exact LeO.none _)
   | (with_reducible refine LeO.ite ?_ ?_)
   | (with_reducible refine LeO.bind ?_ (fun _ => ?_))
   | exact ih0 _ _ _ _ _ _
   | exact ih1 _ _ _ _ _
   | exact ih2 _ _ _ _ _ _ _
   | exact ih3 _ _ _ _ _ _ _ _
   | exact impl_CountShapes.mono _ _
   | exact impl_FixedShapes.mono _ _
   | exact impl_FormsOf.mono _ _
   | exact impl_FreeShapes.mono _ _
   | exact impl_OneSidedShapes.mono _ _
   | exact laws_likeShapes.mono _ _ _
   | exact spec_CountShapes.mono _ _
   | exact spec_DrawCountShapes.mono _ _
   | exact spec_FixedShapes.mono _ _
   | exact spec_FreeShapes.mono _ _
   | exact spec_OneSidedShapes.mono _ _
   | exact LeO.none _
   | refine LeO.ite ?_ ?_
   | refine LeO.bind ?_ (fun _ => ?_)
  ·intro y0 y1 y2 y3 y4 y5 y6
   unfold laws_FnAllShapes.j2
   repeat' first
   | (with_reducible exact ih0 _ _ _ _ _ _)
   | (with_reducible exact ih1 _ _ _ _ _)
   | (with_reducible exact ih2 _ _ _ _ _ _ _)
   | (with_reducible exact ih3 _ _ _ _ _ _ _ _)
   | (with_reducible exact impl_CountShapes.mono _ _)
   | (with_reducible exact impl_FixedShapes.mono _ _)
   | (with_reducible exact impl_FormsOf.mono _ _)
   | (with_reducible exact impl_FreeShapes.mono _ _)
   | (with_reducible exact impl_OneSidedShapes.mono _ _)
   | (with_reducible exact laws_likeShapes.mono _ _ _)
   | (with_reducible exact spec_CountShapes.mono _ _)
   | (with_reducible exact spec_DrawCountShapes.mono _ _)
   | (with_reducible exact spec_FixedShapes.mono _ _)
   | (with_reducible exact spec_FreeShapes.mono _ _)
   | (with_reducible exact spec_OneSidedShapes.mono _ _)
   | (with_reducible exact LeO.refl _)
   | (with_reducible exact LeO.none _)
   | (with_reducible refine LeO.ite ?_ ?_)
   | (with_reducible refine LeO.bind ?_ (fun _ => ?_))
   | exact ih0 _ _ _ _ _ _
   | exact ih1 _ _ _ _ _
   | exact ih2 _ _ _ _ _ _ _
   | exact ih3 _ _ _ _ _ _ _ _
   | exact impl_CountShapes.mono _ _
   | exact impl_FixedShapes.mono _ _
   | exact impl_FormsOf.mono _ _
   | exact impl_FreeShapes.mono _ _
   | exact impl_OneSidedShapes.mono _ _
   | exact laws_likeShapes.mono _ _ _
   | exact spec_CountShapes.mono _ _
   | exact spec_DrawCountShapes.mono _ _
   | exact spec_FixedShapes.mono _ _
   | exact spec_FreeShapes.mono _ _
   | exact spec_OneSidedShapes.mono _ _
   | exact LeO.none _
   | refine LeO.ite ?_ ?_
   | refine LeO.bind ?_ (fun _ => ?_)
  ·intro y0 y1 y2 y3 y4 y5 y6 y7
   unfold laws_FnAllShapes.l0
   repeat' first
   | (with_reducible exact ih0 _ _ _ _ _ _)
   | (with_reducible exact ih1 _ _ _ _ _)
   | (with_reducible exact ih2 _ _ _ _ _ _ _)
   | (with_reducible exact ih3 _ _ _ _ _ _ _ _)
   | (with_reducible exact impl_CountShapes.mono _ _)
   | (with_reducible exact impl_FixedShapes.mono _ _)
   | (with_reducible exact impl_FormsOf.mono _ _)
   | (with_reducible exact impl_FreeShapes.mono _ _)
   | (with_reducible exact impl_OneSidedShapes.mono _ _)
   | (with_reducible exact laws_likeShapes.mono _ _ _)
   | (with_reducible exact spec_CountShapes.mono _ _)
   | (with_reducible exact spec_DrawCountShapes.mono _ _)
   | (with_reducible exact spec_FixedShapes.mono _ _)
   | (with_reducible exact spec_FreeShapes.mono _ _)
   | (with_reducible exact spec_OneSidedShapes.mono _ _)
   | (with_reducible exact LeO.refl _)
   | (with_reducible exact LeO.none _)
   | (with_reducible refine LeO.ite ?_ ?_)
   | (with_reducible refine LeO.bind ?_ (fun _ => ?_))
   | exact ih0 _ _ _ _ _ _
   | exact ih1 _ _ _ _ _
   | exact ih2 _ _ _ _ _ _ _
   | exact ih3 _ _ _ _ _ _ _ _
   | exact impl_CountShapes.mono _ _
   | exact impl_FixedShapes.mono _ _
   | exact impl_FormsOf.mono _ _
   | exact impl_FreeShapes.mono _ _
   | exact impl_OneSidedShapes.mono _ _
   | exact laws_likeShapes.mono _ _ _
   | exact spec_CountShapes.mono _ _
   | exact spec_DrawCountShapes.mono _ _
   | exact spec_FixedShapes.mono _ _
   | exact spec_FreeShapes.mono _ _
   | exact spec_OneSidedShapes.mono _ _
   | exact LeO.none _
   | refine LeO.ite ?_ ?_
   | refine LeO.bind ?_ (fun _ => ?_)
theorem laws_FnAllShapes.mono : ∀ a0 k, LeO (laws_FnAllShapes.f k a0) (laws_FnAllShapes.f (k + 1) a0) := by
 intro a0 k
 obtain ⟨ih0, ih1, ih2, ih3⟩ := laws_FnAllShapes.mono_l k
 unfold laws_FnAllShapes.f
 repeat' first
   | (with_reducible exact ih0 _ _ _ _ _ _)
   | (with_reducible exact ih1 _ _ _ _ _)
   | (with_reducible exact ih2 _ _ _ _ _ _ _)
   | (with_reducible exact ih3 _ _ _ _ _ _ _ _)
   | (with_reducible exact impl_CountShapes.mono _ _)
   | (with_reducible exact impl_FixedShapes.mono _ _)
   | (with_reducible exact impl_FormsOf.mono _ _)
   | (with_reducible exact impl_FreeShapes.mono _ _)
   | (with_reducible exact impl_OneSidedShapes.mono _ _)
   | (with_reducible exact laws_likeShapes.mono _ _ _)
   | (with_reducible exact spec_CountShapes.mono _ _)
   | (with_reducible exact spec_DrawCountShapes.mono _ _)
   | (with_reducible exact spec_FixedShapes.mono _ _)
   | (with_reducible exact spec_FreeShapes.mono _ _)
   | (with_reducible exact spec_OneSidedShapes.mono _ _)
   | (with_reducible exact LeO.refl _)
   | (with_reducible exact LeO.none _)
   | (with_reducible refine LeO.ite ?_ ?_)
   | (with_reducible refine LeO.bind ?_ (fun _ => ?_))
   | exact ih0 _ _ _ _ _ _
   | exact ih1 _ _ _ _ _
   | exact ih2 _ _ _ _ _ _ _
   | exact ih3 _ _ _ _ _ _ _ _
   | exact impl_CountShapes.mono _ _
   | exact impl_FixedShapes.mono _ _
   | exact impl_FormsOf.mono _ _
   | exact impl_FreeShapes.mono _ _
   | exact impl_OneSidedShapes.mono _ _
   | exact laws_likeShapes.mono _ _ _
   | exact spec_CountShapes.mono _ _
   | exact spec_DrawCountShapes.mono _ _
   | exact spec_FixedShapes.mono _ _
   | exact spec_FreeShapes.mono _ _
   | exact spec_OneSidedShapes.mono _ _
   | exact LeO.none _
   | refine LeO.ite ?_ ?_
   | refine LeO.bind ?_ (fun _ => ?_)
set_option maxHeartbeats 8000000 in
set_option maxRecDepth 100000 in
theorem laws_FnAllShapes.calls (k : Nat) (A0 : Option Addr) (c0 : Nat) (l0 : List Int) (r : Bool) (w : World) (hr0 : Kd.C (Kd.int .u8) w A0 l0.length l0) (hc0 : l0.length ≤ c0) (h : laws_FnAllShapes.f k l0 = some r) :
  Calls Try.prog 6 #[.slice A0 l0.length c0] w fun e w' => e = .returned (.bool r) ∧ Below w.heap.size w w' := by
 have HR0 := Aside0.mk hr0
 have HC0 := Aside0.mk hc0
 clear hr0 hc0
 have HB := Aside0.mk (Below.refl w.heap.size w)
 have H : ((laws_big.f l0).bind fun t1057 => (if t1057 = true then (some true) else ((spec_DrawCountShapes.f k l0).bind fun t1058 => ((impl_CountShapes.f k t1058).bind fun bt1059 => ((spec_CountShapes.f k t1058).bind fun bt1063 => (if bt1059.2.2.2 = bt1063.2.2.2 then (if bt1059.1 = bt1063.1 then (if bt1059.2.1 = bt1063.2.1 then (laws_FnAllShapes.j0 k t1058 bt1059.2.2.2 bt1063.1 bt1063.2.1 bt1063.2.2.1 (bt1059.2.2.1 != bt1063.2.2.1)) else (laws_FnAllShapes.j0 k t1058 bt1059.2.2.2 bt1063.1 bt1063.2.1 bt1063.2.2.1 true)) else (laws_FnAllShapes.j0 k t1058 bt1059.2.2.2 bt1063.1 bt1063.2.1 bt1063.2.2.1 true)) else (laws_FnAllShapes.j0 k t1058 bt1059.2.2.2 bt1063.1 bt1063.2.1 bt1063.2.2.1 true))))))) = some r := h
 clear h
 replace H := Option.bind_eq_some_iff.mp H
 obtain ⟨t1057, A20, H⟩ := H
 replace H : (if t1057 = true then (some true) else ((spec_DrawCountShapes.f k l0).bind fun t1058 => ((impl_CountShapes.f k t1058).bind fun bt1059 => ((spec_CountShapes.f k t1058).bind fun bt1063 => (if bt1059.2.2.2 = bt1063.2.2.2 then (if bt1059.1 = bt1063.1 then (if bt1059.2.1 = bt1063.2.1 then (laws_FnAllShapes.j0 k t1058 bt1059.2.2.2 bt1063.1 bt1063.2.1 bt1063.2.2.1 (bt1059.2.2.1 != bt1063.2.2.1)) else (laws_FnAllShapes.j0 k t1058 bt1059.2.2.2 bt1063.1 bt1063.2.1 bt1063.2.2.1 true)) else (laws_FnAllShapes.j0 k t1058 bt1059.2.2.2 bt1063.1 bt1063.2.1 bt1063.2.2.1 true)) else (laws_FnAllShapes.j0 k t1058 bt1059.2.2.2 bt1063.1 bt1063.2.1 bt1063.2.2.1 true)))))) = some r := H
 have A2 := Aside0.mk A20
 clear A20
 by_cases c3 : t1057 = true
 ·subst c3
  have H1 : (some true) = some r := by rw [if_pos rfl] at H; exact H
  clear H
  have H := H1
  clear H1
  obtain rfl := Option.some.inj H
  go_enter Try.func6, Try.ntmps6
  go_wp2_with (first | ((with_reducible refine gate_callee (f := 19) rfl ?_); refine goesL_ (some 29) rfl rfl Try.func19 (by kernel_rfl) rfl #[.slice A0 l0.length c0] rfl (by (try simp only [List.map_toArray, List.map_cons, List.map_nil]); first | done | rfl) ?_; (with_reducible refine (laws_big.calls _ _ l0 true _ ?side1 ?side2 A2.out).mono ?_); (case side1 => repeat (first | exact HR0.out | (with_reducible refine Kd.C_alloc ?_ _) | (with_reducible refine Kd.C_drewN ?_ _) | (with_reducible refine Kd.C_drew ?_))); (case side2 => exact HC0.out); rintro e w' ⟨rfl, ⟨nd, rfl⟩⟩; refine ⟨_, rfl, ?_⟩))
  go_ret
  exact ⟨by first | rfl | (simp [*] <;> rfl), by repeat (first | (with_reducible first | exact HB.out | apply below_alloc | apply pw_below_drewN | apply below_drew1) | exact HB.out)⟩
 ·replace c3 := Bool.eq_false_iff.mpr c3
  subst c3
  have H1 : ((spec_DrawCountShapes.f k l0).bind fun t1058 => ((impl_CountShapes.f k t1058).bind fun bt1059 => ((spec_CountShapes.f k t1058).bind fun bt1063 => (if bt1059.2.2.2 = bt1063.2.2.2 then (if bt1059.1 = bt1063.1 then (if bt1059.2.1 = bt1063.2.1 then (laws_FnAllShapes.j0 k t1058 bt1059.2.2.2 bt1063.1 bt1063.2.1 bt1063.2.2.1 (bt1059.2.2.1 != bt1063.2.2.1)) else (laws_FnAllShapes.j0 k t1058 bt1059.2.2.2 bt1063.1 bt1063.2.1 bt1063.2.2.1 true)) else (laws_FnAllShapes.j0 k t1058 bt1059.2.2.2 bt1063.1 bt1063.2.1 bt1063.2.2.1 true)) else (laws_FnAllShapes.j0 k t1058 bt1059.2.2.2 bt1063.1 bt1063.2.1 bt1063.2.2.1 true))))) = some r := by rw [if_neg (show ¬ (false = true) by decide)] at H; exact H
  clear H
  have H := H1
  clear H1
  replace H := Option.bind_eq_some_iff.mp H
  obtain ⟨t1058, A40, H⟩ := H
  replace H : ((impl_CountShapes.f k t1058).bind fun bt1059 => ((spec_CountShapes.f k t1058).bind fun bt1063 => (if bt1059.2.2.2 = bt1063.2.2.2 then (if bt1059.1 = bt1063.1 then (if bt1059.2.1 = bt1063.2.1 then (laws_FnAllShapes.j0 k t1058 bt1059.2.2.2 bt1063.1 bt1063.2.1 bt1063.2.2.1 (bt1059.2.2.1 != bt1063.2.2.1)) else (laws_FnAllShapes.j0 k t1058 bt1059.2.2.2 bt1063.1 bt1063.2.1 bt1063.2.2.1 true)) else (laws_FnAllShapes.j0 k t1058 bt1059.2.2.2 bt1063.1 bt1063.2.1 bt1063.2.2.1 true)) else (laws_FnAllShapes.j0 k t1058 bt1059.2.2.2 bt1063.1 bt1063.2.1 bt1063.2.2.1 true)))) = some r := H
  have A4 := Aside0.mk A40
  clear A40
  replace H := Option.bind_eq_some_iff.mp H
  obtain ⟨⟨t1059, t1060, t1061, t1062⟩, A50, H⟩ := H
  replace H : ((spec_CountShapes.f k t1058).bind fun bt1063 => (if t1062 = bt1063.2.2.2 then (if t1059 = bt1063.1 then (if t1060 = bt1063.2.1 then (laws_FnAllShapes.j0 k t1058 t1062 bt1063.1 bt1063.2.1 bt1063.2.2.1 (t1061 != bt1063.2.2.1)) else (laws_FnAllShapes.j0 k t1058 t1062 bt1063.1 bt1063.2.1 bt1063.2.2.1 true)) else (laws_FnAllShapes.j0 k t1058 t1062 bt1063.1 bt1063.2.1 bt1063.2.2.1 true)) else (laws_FnAllShapes.j0 k t1058 t1062 bt1063.1 bt1063.2.1 bt1063.2.2.1 true))) = some r := H
  have A5 := Aside0.mk A50
  clear A50
  replace H := Option.bind_eq_some_iff.mp H
  obtain ⟨⟨t1063, t1064, t1065, t1066⟩, A60, H⟩ := H
  replace H : (if t1062 = t1066 then (if t1059 = t1063 then (if t1060 = t1064 then (laws_FnAllShapes.j0 k t1058 t1062 t1063 t1064 t1065 (t1061 != t1065)) else (laws_FnAllShapes.j0 k t1058 t1062 t1063 t1064 t1065 true)) else (laws_FnAllShapes.j0 k t1058 t1062 t1063 t1064 t1065 true)) else (laws_FnAllShapes.j0 k t1058 t1062 t1063 t1064 t1065 true)) = some r := H
  have A6 := Aside0.mk A60
  clear A60
  have HC7 := Aside0.mk H
  clear H
  go_enter Try.func6, Try.ntmps6
  go_upto_region 6 with (first | ((with_reducible refine gate_callee (f := 19) rfl ?_); refine goesL_ (some 29) rfl rfl Try.func19 (by kernel_rfl) rfl #[.slice A0 l0.length c0] rfl (by (try simp only [List.map_toArray, List.map_cons, List.map_nil]); first | done | rfl) ?_; (with_reducible refine (laws_big.calls _ _ l0 false _ ?side1 ?side2 A2.out).mono ?_); (case side1 => repeat (first | exact HR0.out | (with_reducible refine Kd.C_alloc ?_ _) | (with_reducible refine Kd.C_drewN ?_ _) | (with_reducible refine Kd.C_drew ?_))); (case side2 => exact HC0.out); rintro e w' ⟨rfl, ⟨nd, rfl⟩⟩; refine ⟨_, rfl, ?_⟩) | ((with_reducible refine gate_callee (f := 30) rfl ?_); refine goesL_ (some 31) rfl rfl Try.func30 (by kernel_rfl) rfl #[.slice A0 l0.length c0] rfl (by (try simp only [List.map_toArray, List.map_cons, List.map_nil]); first | done | rfl) ?_; (with_reducible refine (spec_DrawCountShapes.calls k _ _ l0 t1058 _ ?side1 ?side2 A4.out).mono ?_); (case side1 => repeat (first | exact HR0.out | (with_reducible refine Kd.C_alloc ?_ _) | (with_reducible refine Kd.C_drewN ?_ _) | (with_reducible refine Kd.C_drew ?_))); (case side2 => exact HC0.out); rintro e w8 ⟨rfl, hb⟩; refine ⟨_, rfl, ?_⟩; have n0_ := Aside0.mk (below_step (by repeat (first | (with_reducible first | exact HB.out | apply below_alloc | apply pw_below_drewN | apply below_drew1) | exact HB.out)) hb); clear HB; have HB := n0_; clear n0_; (try clear hb)) | ((with_reducible refine gate_callee (f := 31) rfl ?_); refine goesL_ (some 34) rfl rfl Try.func31 (by kernel_rfl) rfl #[.int .i64 t1058] rfl (by (try simp only [List.map_toArray, List.map_cons, List.map_nil]); first | done | rfl) ?_; (with_reducible refine (impl_CountShapes.calls k t1058 t1059 t1060 t1061 t1062 _ A5.out).mono ?_); rintro e w9 ⟨rfl, hb⟩; refine ⟨_, rfl, ?_⟩; have n0_ := Aside0.mk (below_step (by repeat (first | (with_reducible first | exact HB.out | apply below_alloc | apply pw_below_drewN | apply below_drew1) | exact HB.out)) hb); clear HB; have HB := n0_; clear n0_; (try clear hb)) | ((with_reducible refine gate_callee (f := 32) rfl ?_); refine goesL_ (some 41) rfl rfl Try.func32 (by kernel_rfl) rfl #[.int .i64 t1058] rfl (by (try simp only [List.map_toArray, List.map_cons, List.map_nil]); first | done | rfl) ?_; (with_reducible refine (spec_CountShapes.calls k t1058 t1063 t1064 t1065 t1066 _ A6.out).mono ?_); rintro e w10 ⟨rfl, hb⟩; refine ⟨_, rfl, ?_⟩; have n0_ := Aside0.mk (below_step (by repeat (first | (with_reducible first | exact HB.out | apply below_alloc | apply pw_below_drewN | apply below_drew1) | exact HB.out)) hb); clear HB; have HB := n0_; clear n0_; (try clear hb)))
  (try simp only [Act.put, List.setIfInBounds_toArray, List.set_cons_zero, List.set_cons_succ])
  go_cut [63] (fun v63 wc => ∃ (kq : Nat) (x63_6 : Bool), v63 = .bool x63_6 ∧ Aside0 (laws_FnAllShapes.j0 kq t1058 t1062 t1063 t1064 t1065 x63_6 = some r) ∧ Aside0 (kq ≤ k) ∧ Aside0 (Below w.heap.size w wc))
  case first =>
   have H := HC7.out
   clear HC7
   by_cases c11 : t1062 = t1066
   ·rw [if_pos c11] at H
    have c11b0 : (t1062 == t1066) = true := beq_iff_eq.mpr c11
    have c11b1 : (t1062 != t1066) = false := bne_eq_false_iff_eq.mpr c11
    clear c11
    (first | rw [c11b0] | (simp only [i64_w, i32_w]; rw [c11b0]) | skip)
    by_cases c12 : t1059 = t1063
    ·rw [if_pos c12] at H
     have c12b0 : (t1059 == t1063) = true := beq_iff_eq.mpr c12
     have c12b1 : (t1059 != t1063) = false := bne_eq_false_iff_eq.mpr c12
     clear c12
     by_cases c13 : t1060 = t1064
     ·rw [if_pos c13] at H
      have c13b0 : (t1060 == t1064) = true := beq_iff_eq.mpr c13
      have c13b1 : (t1060 != t1064) = false := bne_eq_false_iff_eq.mpr c13
      clear c13
      have H' := Aside0.mk H
      clear H
      go_wp2
      go_meet
      case rel => exact ⟨_, ((t1061 != t1065)), (by first | rfl | (simp; done) | (simp [*]; done)), H', ⟨by first | omega | exact Nat.le_refl _⟩, ⟨by repeat (first | (with_reducible first | exact HB.out | apply below_alloc | apply pw_below_drewN | apply below_drew1) | exact HB.out)⟩⟩
     ·rw [if_neg c13] at H
      have c13b0 : (t1060 == t1064) = false := beq_eq_false_iff_ne.mpr c13
      have c13b1 : (t1060 != t1064) = true := bne_iff_ne.mpr c13
      have H' := Aside0.mk H
      clear H
      go_wp2
      go_meet
      case rel => exact ⟨_, (true), (by first | rfl | (simp; done) | (simp [*]; done)), H', ⟨by first | omega | exact Nat.le_refl _⟩, ⟨by repeat (first | (with_reducible first | exact HB.out | apply below_alloc | apply pw_below_drewN | apply below_drew1) | exact HB.out)⟩⟩
    ·rw [if_neg c12] at H
     have c12b0 : (t1059 == t1063) = false := beq_eq_false_iff_ne.mpr c12
     have c12b1 : (t1059 != t1063) = true := bne_iff_ne.mpr c12
     have H' := Aside0.mk H
     clear H
     go_wp2
     go_meet
     case rel => exact ⟨_, (true), (by first | rfl | (simp; done) | (simp [*]; done)), H', ⟨by first | omega | exact Nat.le_refl _⟩, ⟨by repeat (first | (with_reducible first | exact HB.out | apply below_alloc | apply pw_below_drewN | apply below_drew1) | exact HB.out)⟩⟩
   ·rw [if_neg c11] at H
    have c11b0 : (t1062 == t1066) = false := beq_eq_false_iff_ne.mpr c11
    have c11b1 : (t1062 != t1066) = true := bne_iff_ne.mpr c11
    (first | rw [c11b0] | (simp only [i64_w, i32_w]; rw [c11b0]) | skip)
    have H' := Aside0.mk H
    clear H
    go_wp2
    go_meet
    case rel => exact ⟨_, (true), (by first | rfl | (simp; done) | (simp [*]; done)), H', ⟨by first | omega | exact Nat.le_refl _⟩, ⟨by repeat (first | (with_reducible first | exact HB.out | apply below_alloc | apply pw_below_drewN | apply below_drew1) | exact HB.out)⟩⟩
  case rest =>
   clear HC7
   try clear c1
   try clear p2
   try clear c3
   try clear c6
   try clear c11
   try clear c11b0
   try clear c11b1
   try clear c12
   try clear c12b0
   try clear c12b1
   try clear c13
   try clear c13b0
   try clear c13b1
   obtain ⟨kq, x63_6, rfl, HA, HJ6, HB⟩ := hcut
   cases kq with
   | zero => exact absurd HA.out (by simp [laws_FnAllShapes.j0])
   | succ kj6 =>
    have H := HA.out
    clear HA
    simp only [laws_FnAllShapes.j0] at H
    by_cases c14 : x63_6 = true
    ·subst c14
     have H1 : (some false) = some r := by rw [if_pos rfl] at H; exact H
     clear H
     have H := H1
     clear H1
     obtain rfl := Option.some.inj H
     go_wp2
     go_ret
     exact ⟨by first | rfl | (simp [*] <;> rfl), by repeat (first | (with_reducible first | exact HB.out | apply below_alloc | apply pw_below_drewN | apply below_drew1) | exact HB.out)⟩
    ·replace c14 := Bool.eq_false_iff.mpr c14
     subst c14
     have H1 : (if t1062 = 0 then (laws_FnAllShapes.j1 kj6 t1058 t1063 t1064 t1065 (decide (t1058 > 4))) else (laws_FnAllShapes.j1 kj6 t1058 t1063 t1064 t1065 true)) = some r := by rw [if_neg (show ¬ (false = true) by decide)] at H; exact H
     clear H
     have H := H1
     clear H1
     have HC15 := Aside0.mk H
     clear H
     go_upto_region 8 with (fail)
     go_cut [69] (fun v69 wc => ∃ (kq : Nat) (x69_14 : Bool), v69 = .bool x69_14 ∧ Aside0 (laws_FnAllShapes.j1 kq t1058 t1063 t1064 t1065 x69_14 = some r) ∧ Aside0 (kq ≤ kj6) ∧ Aside0 (Below w.heap.size w wc))
     case first =>
      have H := HC15.out
      clear HC15
      by_cases c16 : t1062 = 0
      ·rw [if_pos c16] at H
       have c16b0 : (t1062 == 0) = true := beq_iff_eq.mpr c16
       have c16b1 : (t1062 != 0) = false := bne_eq_false_iff_eq.mpr c16
       clear c16
       (first | rw [c16b0] | (simp only [i64_w, i32_w]; rw [c16b0]) | skip)
       have H' := Aside0.mk H
       clear H
       go_wp2
       go_meet
       case rel => exact ⟨_, (decide (t1058 > 4)), (by first | rfl | (simp; done) | (simp [*]; done)), H', ⟨by have := HJ6.out; first | omega | exact Nat.le_refl _⟩, ⟨by repeat (first | (with_reducible first | exact HB.out | apply below_alloc | apply pw_below_drewN | apply below_drew1) | exact HB.out)⟩⟩
      ·rw [if_neg c16] at H
       have c16b0 : (t1062 == 0) = false := beq_eq_false_iff_ne.mpr c16
       have c16b1 : (t1062 != 0) = true := bne_iff_ne.mpr c16
       (first | rw [c16b0] | (simp only [i64_w, i32_w]; rw [c16b0]) | skip)
       have H' := Aside0.mk H
       clear H
       go_wp2
       go_meet
       case rel => exact ⟨_, (true), (by first | rfl | (simp; done) | (simp [*]; done)), H', ⟨by have := HJ6.out; first | omega | exact Nat.le_refl _⟩, ⟨by repeat (first | (with_reducible first | exact HB.out | apply below_alloc | apply pw_below_drewN | apply below_drew1) | exact HB.out)⟩⟩
     case rest =>
      clear HC15
      try clear c1
      try clear p2
      try clear c3
      try clear c6
      try clear c11
      try clear c11b0
      try clear c11b1
      try clear c12
      try clear c12b0
      try clear c12b1
      try clear c13
      try clear c13b0
      try clear c13b1
      try clear c14
      try clear c16
      try clear c16b0
      try clear c16b1
      try clear p2
      obtain ⟨kq, x69_14, rfl, HA, HJ14, HB⟩ := hcut
      cases kq with
      | zero => exact absurd HA.out (by simp [laws_FnAllShapes.j1])
      | succ kj14 =>
       have H := HA.out
       clear HA
       simp only [laws_FnAllShapes.j1] at H
       by_cases c17 : x69_14 = true
       ·subst c17
        have H1 : (some true) = some r := by rw [if_pos rfl] at H; exact H
        clear H
        have H := H1
        clear H1
        obtain rfl := Option.some.inj H
        go_wp2
        go_ret
        exact ⟨by first | rfl | (simp [*] <;> rfl), by repeat (first | (with_reducible first | exact HB.out | apply below_alloc | apply pw_below_drewN | apply below_drew1) | exact HB.out)⟩
       ·replace c17 := Bool.eq_false_iff.mpr c17
        subst c17
        have H1 : ((impl_FixedShapes.f kj14 t1058).bind fun bt1067 => ((spec_FixedShapes.f kj14 t1058).bind fun bt1071 => ((impl_FreeShapes.f kj14 t1058).bind fun bt1075 => ((spec_FreeShapes.f kj14 t1058).bind fun bt1079 => ((impl_OneSidedShapes.f kj14 t1058).bind fun bt1083 => ((spec_OneSidedShapes.f kj14 t1058).bind fun bt1087 => (if bt1067.2 = 0 then (if bt1075.2 = 0 then (if bt1083.2 = 0 then ((laws_likeShapes.f kj14 bt1067.1 bt1071.1).bind fun t1091 => (if t1091 = true then ((laws_likeShapes.f kj14 bt1075.1 bt1079.1).bind fun t1092 => (if t1092 = true then ((laws_likeShapes.f kj14 bt1083.1 bt1087.1).bind fun t1093 => (laws_FnAllShapes.j2 kj14 t1063 t1064 t1065 bt1067.1 bt1075.1 bt1083.1 (!t1093))) else (laws_FnAllShapes.j2 kj14 t1063 t1064 t1065 bt1067.1 bt1075.1 bt1083.1 true))) else (laws_FnAllShapes.j2 kj14 t1063 t1064 t1065 bt1067.1 bt1075.1 bt1083.1 true))) else (laws_FnAllShapes.j2 kj14 t1063 t1064 t1065 bt1067.1 bt1075.1 bt1083.1 true)) else (laws_FnAllShapes.j2 kj14 t1063 t1064 t1065 bt1067.1 bt1075.1 bt1083.1 true)) else (laws_FnAllShapes.j2 kj14 t1063 t1064 t1065 bt1067.1 bt1075.1 bt1083.1 true)))))))) = some r := by rw [if_neg (show ¬ (false = true) by decide)] at H; exact H
        clear H
        have H := H1
        clear H1
        replace H := Option.bind_eq_some_iff.mp H
        obtain ⟨⟨t1067, t1068⟩, A180, H⟩ := H
        replace H : ((spec_FixedShapes.f kj14 t1058).bind fun bt1071 => ((impl_FreeShapes.f kj14 t1058).bind fun bt1075 => ((spec_FreeShapes.f kj14 t1058).bind fun bt1079 => ((impl_OneSidedShapes.f kj14 t1058).bind fun bt1083 => ((spec_OneSidedShapes.f kj14 t1058).bind fun bt1087 => (if t1068 = 0 then (if bt1075.2 = 0 then (if bt1083.2 = 0 then ((laws_likeShapes.f kj14 t1067 bt1071.1).bind fun t1091 => (if t1091 = true then ((laws_likeShapes.f kj14 bt1075.1 bt1079.1).bind fun t1092 => (if t1092 = true then ((laws_likeShapes.f kj14 bt1083.1 bt1087.1).bind fun t1093 => (laws_FnAllShapes.j2 kj14 t1063 t1064 t1065 t1067 bt1075.1 bt1083.1 (!t1093))) else (laws_FnAllShapes.j2 kj14 t1063 t1064 t1065 t1067 bt1075.1 bt1083.1 true))) else (laws_FnAllShapes.j2 kj14 t1063 t1064 t1065 t1067 bt1075.1 bt1083.1 true))) else (laws_FnAllShapes.j2 kj14 t1063 t1064 t1065 t1067 bt1075.1 bt1083.1 true)) else (laws_FnAllShapes.j2 kj14 t1063 t1064 t1065 t1067 bt1075.1 bt1083.1 true)) else (laws_FnAllShapes.j2 kj14 t1063 t1064 t1065 t1067 bt1075.1 bt1083.1 true))))))) = some r := H
        have A18 := Aside0.mk A180
        clear A180
        replace H := Option.bind_eq_some_iff.mp H
        obtain ⟨⟨t1071, t1074⟩, A190, H⟩ := H
        replace H : ((impl_FreeShapes.f kj14 t1058).bind fun bt1075 => ((spec_FreeShapes.f kj14 t1058).bind fun bt1079 => ((impl_OneSidedShapes.f kj14 t1058).bind fun bt1083 => ((spec_OneSidedShapes.f kj14 t1058).bind fun bt1087 => (if t1068 = 0 then (if bt1075.2 = 0 then (if bt1083.2 = 0 then ((laws_likeShapes.f kj14 t1067 t1071).bind fun t1091 => (if t1091 = true then ((laws_likeShapes.f kj14 bt1075.1 bt1079.1).bind fun t1092 => (if t1092 = true then ((laws_likeShapes.f kj14 bt1083.1 bt1087.1).bind fun t1093 => (laws_FnAllShapes.j2 kj14 t1063 t1064 t1065 t1067 bt1075.1 bt1083.1 (!t1093))) else (laws_FnAllShapes.j2 kj14 t1063 t1064 t1065 t1067 bt1075.1 bt1083.1 true))) else (laws_FnAllShapes.j2 kj14 t1063 t1064 t1065 t1067 bt1075.1 bt1083.1 true))) else (laws_FnAllShapes.j2 kj14 t1063 t1064 t1065 t1067 bt1075.1 bt1083.1 true)) else (laws_FnAllShapes.j2 kj14 t1063 t1064 t1065 t1067 bt1075.1 bt1083.1 true)) else (laws_FnAllShapes.j2 kj14 t1063 t1064 t1065 t1067 bt1075.1 bt1083.1 true)))))) = some r := H
        have A19 := Aside0.mk A190
        clear A190
        replace H := Option.bind_eq_some_iff.mp H
        obtain ⟨⟨t1075, t1076⟩, A200, H⟩ := H
        replace H : ((spec_FreeShapes.f kj14 t1058).bind fun bt1079 => ((impl_OneSidedShapes.f kj14 t1058).bind fun bt1083 => ((spec_OneSidedShapes.f kj14 t1058).bind fun bt1087 => (if t1068 = 0 then (if t1076 = 0 then (if bt1083.2 = 0 then ((laws_likeShapes.f kj14 t1067 t1071).bind fun t1091 => (if t1091 = true then ((laws_likeShapes.f kj14 t1075 bt1079.1).bind fun t1092 => (if t1092 = true then ((laws_likeShapes.f kj14 bt1083.1 bt1087.1).bind fun t1093 => (laws_FnAllShapes.j2 kj14 t1063 t1064 t1065 t1067 t1075 bt1083.1 (!t1093))) else (laws_FnAllShapes.j2 kj14 t1063 t1064 t1065 t1067 t1075 bt1083.1 true))) else (laws_FnAllShapes.j2 kj14 t1063 t1064 t1065 t1067 t1075 bt1083.1 true))) else (laws_FnAllShapes.j2 kj14 t1063 t1064 t1065 t1067 t1075 bt1083.1 true)) else (laws_FnAllShapes.j2 kj14 t1063 t1064 t1065 t1067 t1075 bt1083.1 true)) else (laws_FnAllShapes.j2 kj14 t1063 t1064 t1065 t1067 t1075 bt1083.1 true))))) = some r := H
        have A20 := Aside0.mk A200
        clear A200
        replace H := Option.bind_eq_some_iff.mp H
        obtain ⟨⟨t1079, t1082⟩, A210, H⟩ := H
        replace H : ((impl_OneSidedShapes.f kj14 t1058).bind fun bt1083 => ((spec_OneSidedShapes.f kj14 t1058).bind fun bt1087 => (if t1068 = 0 then (if t1076 = 0 then (if bt1083.2 = 0 then ((laws_likeShapes.f kj14 t1067 t1071).bind fun t1091 => (if t1091 = true then ((laws_likeShapes.f kj14 t1075 t1079).bind fun t1092 => (if t1092 = true then ((laws_likeShapes.f kj14 bt1083.1 bt1087.1).bind fun t1093 => (laws_FnAllShapes.j2 kj14 t1063 t1064 t1065 t1067 t1075 bt1083.1 (!t1093))) else (laws_FnAllShapes.j2 kj14 t1063 t1064 t1065 t1067 t1075 bt1083.1 true))) else (laws_FnAllShapes.j2 kj14 t1063 t1064 t1065 t1067 t1075 bt1083.1 true))) else (laws_FnAllShapes.j2 kj14 t1063 t1064 t1065 t1067 t1075 bt1083.1 true)) else (laws_FnAllShapes.j2 kj14 t1063 t1064 t1065 t1067 t1075 bt1083.1 true)) else (laws_FnAllShapes.j2 kj14 t1063 t1064 t1065 t1067 t1075 bt1083.1 true)))) = some r := H
        have A21 := Aside0.mk A210
        clear A210
        replace H := Option.bind_eq_some_iff.mp H
        obtain ⟨⟨t1083, t1084⟩, A220, H⟩ := H
        replace H : ((spec_OneSidedShapes.f kj14 t1058).bind fun bt1087 => (if t1068 = 0 then (if t1076 = 0 then (if t1084 = 0 then ((laws_likeShapes.f kj14 t1067 t1071).bind fun t1091 => (if t1091 = true then ((laws_likeShapes.f kj14 t1075 t1079).bind fun t1092 => (if t1092 = true then ((laws_likeShapes.f kj14 t1083 bt1087.1).bind fun t1093 => (laws_FnAllShapes.j2 kj14 t1063 t1064 t1065 t1067 t1075 t1083 (!t1093))) else (laws_FnAllShapes.j2 kj14 t1063 t1064 t1065 t1067 t1075 t1083 true))) else (laws_FnAllShapes.j2 kj14 t1063 t1064 t1065 t1067 t1075 t1083 true))) else (laws_FnAllShapes.j2 kj14 t1063 t1064 t1065 t1067 t1075 t1083 true)) else (laws_FnAllShapes.j2 kj14 t1063 t1064 t1065 t1067 t1075 t1083 true)) else (laws_FnAllShapes.j2 kj14 t1063 t1064 t1065 t1067 t1075 t1083 true))) = some r := H
        have A22 := Aside0.mk A220
        clear A220
        replace H := Option.bind_eq_some_iff.mp H
        obtain ⟨⟨t1087, t1090⟩, A230, H⟩ := H
        replace H : (if t1068 = 0 then (if t1076 = 0 then (if t1084 = 0 then ((laws_likeShapes.f kj14 t1067 t1071).bind fun t1091 => (if t1091 = true then ((laws_likeShapes.f kj14 t1075 t1079).bind fun t1092 => (if t1092 = true then ((laws_likeShapes.f kj14 t1083 t1087).bind fun t1093 => (laws_FnAllShapes.j2 kj14 t1063 t1064 t1065 t1067 t1075 t1083 (!t1093))) else (laws_FnAllShapes.j2 kj14 t1063 t1064 t1065 t1067 t1075 t1083 true))) else (laws_FnAllShapes.j2 kj14 t1063 t1064 t1065 t1067 t1075 t1083 true))) else (laws_FnAllShapes.j2 kj14 t1063 t1064 t1065 t1067 t1075 t1083 true)) else (laws_FnAllShapes.j2 kj14 t1063 t1064 t1065 t1067 t1075 t1083 true)) else (laws_FnAllShapes.j2 kj14 t1063 t1064 t1065 t1067 t1075 t1083 true)) = some r := H
        have A23 := Aside0.mk A230
        clear A230
        have HC24 := Aside0.mk H
        clear H
        go_upto_region 16 with (first | ((with_reducible refine gate_callee (f := 33) rfl ?_); refine goesL_ (some 72) rfl rfl Try.func33 (by kernel_rfl) rfl #[.int .i64 t1058] rfl (by (try simp only [List.map_toArray, List.map_cons, List.map_nil]); first | done | rfl) ?_; (with_reducible refine (impl_FixedShapes.calls kj14 t1058 t1067 t1068 _ A18.out).mono ?_); rintro e w25 ⟨v1069, rfl, ho0, hb⟩; refine ⟨_, rfl, ?_⟩; have n0_ := Aside0.mk (Kd.N_lower (Kd.N_mono (ok' := fun k_ => True) (Kd.S_N (Kd.S_bound ho0)) (fun k_ hk_ => trivial)) (below_size (by repeat (first | (with_reducible first | exact HB.out | apply below_alloc | apply pw_below_drewN | apply below_drew1) | exact HB.out)))); have n1_ := Aside0.mk (below_step (by repeat (first | (with_reducible first | exact HB.out | apply below_alloc | apply pw_below_drewN | apply below_drew1) | exact HB.out)) hb); clear HB; have HO1070 := n0_; have HB := n1_; clear n0_ n1_; (try clear hb); (try clear ho0)) | ((with_reducible refine gate_callee (f := 34) rfl ?_); refine goesL_ (some 77) rfl rfl Try.func34 (by kernel_rfl) rfl #[.int .i64 t1058] rfl (by (try simp only [List.map_toArray, List.map_cons, List.map_nil]); first | done | rfl) ?_; (with_reducible refine (spec_FixedShapes.calls kj14 t1058 t1071 t1074 _ A19.out).mono ?_); rintro e w26 ⟨v1072, rfl, ho0, hb⟩; refine ⟨_, rfl, ?_⟩; have n0_ := Aside0.mk (Kd.N_below (by (with_reducible repeat (first | apply Kd.N_alloc | apply Kd.N_drewN | apply Kd.N_drew)); exact HO1070.out) hb); have n1_ := Aside0.mk (Kd.V_lower (Kd.V_mono (ok' := fun k_ => some k_ ≠ (v1069 : Value).ownBlock) ho0 (fun k_ hk_ => (Kd.fresh' (Kd.N_lt (by (with_reducible repeat (first | apply Kd.N_alloc | apply Kd.N_drewN | apply Kd.N_drew)); exact HO1070.out)) k_ hk_))) (below_size (by repeat (first | (with_reducible first | exact HB.out | apply below_alloc | apply pw_below_drewN | apply below_drew1) | exact HB.out)))); have n2_ := Aside0.mk (below_step (by repeat (first | (with_reducible first | exact HB.out | apply below_alloc | apply pw_below_drewN | apply below_drew1) | exact HB.out)) hb); clear HO1070; clear HB; have HO1070 := n0_; have HO1073 := n1_; have HB := n2_; clear n0_ n1_ n2_; (try clear hb); (try clear ho0)) | ((with_reducible refine gate_callee (f := 35) rfl ?_); refine goesL_ (some 82) rfl rfl Try.func35 (by kernel_rfl) rfl #[.int .i64 t1058] rfl (by (try simp only [List.map_toArray, List.map_cons, List.map_nil]); first | done | rfl) ?_; (with_reducible refine (impl_FreeShapes.calls kj14 t1058 t1075 t1076 _ A20.out).mono ?_); rintro e w27 ⟨v1077, rfl, ho0, hb⟩; refine ⟨_, rfl, ?_⟩; have n0_ := Aside0.mk (Kd.N_elder' (by (with_reducible repeat (first | apply Kd.N_alloc | apply Kd.N_drewN | apply Kd.N_drew)); exact HO1070.out) (Kd.S_base ho0) hb); have n1_ := Aside0.mk (Kd.V_elder' (by (with_reducible repeat (first | apply Kd.V_alloc | apply Kd.V_drewN | apply Kd.V_drew)); exact HO1073.out) (Kd.S_base ho0) hb); have n2_ := Aside0.mk (Kd.N_lower (Kd.N_mono (ok' := fun k_ => some k_ ≠ (v1069 : Value).ownBlock) (Kd.S_N (Kd.S_bound ho0)) (fun k_ hk_ => (Kd.fresh' (Kd.N_lt (by (with_reducible repeat (first | apply Kd.N_alloc | apply Kd.N_drewN | apply Kd.N_drew)); exact HO1070.out)) k_ hk_.2.1))) (below_size (by repeat (first | (with_reducible first | exact HB.out | apply below_alloc | apply pw_below_drewN | apply below_drew1) | exact HB.out)))); have n3_ := Aside0.mk (below_step (by repeat (first | (with_reducible first | exact HB.out | apply below_alloc | apply pw_below_drewN | apply below_drew1) | exact HB.out)) hb); clear HO1070; clear HO1073; clear HB; have HO1070 := n0_; have HO1073 := n1_; have HO1078 := n2_; have HB := n3_; clear n0_ n1_ n2_ n3_; (try clear hb); (try clear ho0)) | ((with_reducible refine gate_callee (f := 36) rfl ?_); refine goesL_ (some 87) rfl rfl Try.func36 (by kernel_rfl) rfl #[.int .i64 t1058] rfl (by (try simp only [List.map_toArray, List.map_cons, List.map_nil]); first | done | rfl) ?_; (with_reducible refine (spec_FreeShapes.calls kj14 t1058 t1079 t1082 _ A21.out).mono ?_); rintro e w28 ⟨v1080, rfl, ho0, hb⟩; refine ⟨_, rfl, ?_⟩; have n0_ := Aside0.mk (Kd.N_elder' (by (with_reducible repeat (first | apply Kd.N_alloc | apply Kd.N_drewN | apply Kd.N_drew)); exact HO1070.out) (Kd.N_base ho0) hb); have n1_ := Aside0.mk (Kd.V_elder' (by (with_reducible repeat (first | apply Kd.V_alloc | apply Kd.V_drewN | apply Kd.V_drew)); exact HO1073.out) (Kd.N_base ho0) hb); have n2_ := Aside0.mk (Kd.N_elder' (by (with_reducible repeat (first | apply Kd.N_alloc | apply Kd.N_drewN | apply Kd.N_drew)); exact HO1078.out) (Kd.N_base ho0) hb); have n3_ := Aside0.mk (Kd.N_lower (Kd.N_mono (ok' := fun k_ => some k_ ≠ (v1069 : Value).ownBlock ∧ some k_ ≠ (v1077 : Value).ownBlock) ho0 (fun k_ hk_ => ⟨(Kd.fresh' (Kd.N_lt (by (with_reducible repeat (first | apply Kd.N_alloc | apply Kd.N_drewN | apply Kd.N_drew)); exact HO1070.out)) k_ hk_), (Kd.fresh' (Kd.N_lt (by (with_reducible repeat (first | apply Kd.N_alloc | apply Kd.N_drewN | apply Kd.N_drew)); exact HO1078.out)) k_ hk_)⟩)) (below_size (by repeat (first | (with_reducible first | exact HB.out | apply below_alloc | apply pw_below_drewN | apply below_drew1) | exact HB.out)))); have n4_ := Aside0.mk (below_step (by repeat (first | (with_reducible first | exact HB.out | apply below_alloc | apply pw_below_drewN | apply below_drew1) | exact HB.out)) hb); clear HO1070; clear HO1073; clear HO1078; clear HB; have HO1070 := n0_; have HO1073 := n1_; have HO1078 := n2_; have HO1081 := n3_; have HB := n4_; clear n0_ n1_ n2_ n3_ n4_; (try clear hb); (try clear ho0)) | ((with_reducible refine gate_callee (f := 37) rfl ?_); refine goesL_ (some 92) rfl rfl Try.func37 (by kernel_rfl) rfl #[.int .i64 t1058] rfl (by (try simp only [List.map_toArray, List.map_cons, List.map_nil]); first | done | rfl) ?_; (with_reducible refine (impl_OneSidedShapes.calls kj14 t1058 t1083 t1084 _ A22.out).mono ?_); rintro e w29 ⟨v1085, rfl, ho0, hb⟩; refine ⟨_, rfl, ?_⟩; have n0_ := Aside0.mk (Kd.N_elder' (by (with_reducible repeat (first | apply Kd.N_alloc | apply Kd.N_drewN | apply Kd.N_drew)); exact HO1070.out) (Kd.S_base ho0) hb); have n1_ := Aside0.mk (Kd.V_elder' (by (with_reducible repeat (first | apply Kd.V_alloc | apply Kd.V_drewN | apply Kd.V_drew)); exact HO1073.out) (Kd.S_base ho0) hb); have n2_ := Aside0.mk (Kd.N_elder' (by (with_reducible repeat (first | apply Kd.N_alloc | apply Kd.N_drewN | apply Kd.N_drew)); exact HO1078.out) (Kd.S_base ho0) hb); have n3_ := Aside0.mk (Kd.N_elder' (by (with_reducible repeat (first | apply Kd.N_alloc | apply Kd.N_drewN | apply Kd.N_drew)); exact HO1081.out) (Kd.S_base ho0) hb); have n4_ := Aside0.mk (Kd.N_lower (Kd.N_mono (ok' := fun k_ => some k_ ≠ (v1069 : Value).ownBlock ∧ some k_ ≠ (v1077 : Value).ownBlock ∧ some k_ ≠ (v1080 : Value).ownBlock) (Kd.S_N (Kd.S_bound ho0)) (fun k_ hk_ => ⟨(Kd.fresh' (Kd.N_lt (by (with_reducible repeat (first | apply Kd.N_alloc | apply Kd.N_drewN | apply Kd.N_drew)); exact HO1070.out)) k_ hk_.2.1), (Kd.fresh' (Kd.N_lt (by (with_reducible repeat (first | apply Kd.N_alloc | apply Kd.N_drewN | apply Kd.N_drew)); exact HO1078.out)) k_ hk_.2.1), (Kd.fresh' (Kd.N_lt (by (with_reducible repeat (first | apply Kd.N_alloc | apply Kd.N_drewN | apply Kd.N_drew)); exact HO1081.out)) k_ hk_.2.1)⟩)) (below_size (by repeat (first | (with_reducible first | exact HB.out | apply below_alloc | apply pw_below_drewN | apply below_drew1) | exact HB.out)))); have n5_ := Aside0.mk (below_step (by repeat (first | (with_reducible first | exact HB.out | apply below_alloc | apply pw_below_drewN | apply below_drew1) | exact HB.out)) hb); clear HO1070; clear HO1073; clear HO1078; clear HO1081; clear HB; have HO1070 := n0_; have HO1073 := n1_; have HO1078 := n2_; have HO1081 := n3_; have HO1086 := n4_; have HB := n5_; clear n0_ n1_ n2_ n3_ n4_ n5_; (try clear hb); (try clear ho0)) | ((with_reducible refine gate_callee (f := 38) rfl ?_); refine goesL_ (some 97) rfl rfl Try.func38 (by kernel_rfl) rfl #[.int .i64 t1058] rfl (by (try simp only [List.map_toArray, List.map_cons, List.map_nil]); first | done | rfl) ?_; (with_reducible refine (spec_OneSidedShapes.calls kj14 t1058 t1087 t1090 _ A23.out).mono ?_); rintro e w30 ⟨v1088, rfl, ho0, hb⟩; refine ⟨_, rfl, ?_⟩; have n0_ := Aside0.mk (Kd.N_elder' (by (with_reducible repeat (first | apply Kd.N_alloc | apply Kd.N_drewN | apply Kd.N_drew)); exact HO1070.out) (Kd.N_base ho0) hb); have n1_ := Aside0.mk (Kd.V_elder' (by (with_reducible repeat (first | apply Kd.V_alloc | apply Kd.V_drewN | apply Kd.V_drew)); exact HO1073.out) (Kd.N_base ho0) hb); have n2_ := Aside0.mk (Kd.N_elder' (by (with_reducible repeat (first | apply Kd.N_alloc | apply Kd.N_drewN | apply Kd.N_drew)); exact HO1078.out) (Kd.N_base ho0) hb); have n3_ := Aside0.mk (Kd.N_elder' (by (with_reducible repeat (first | apply Kd.N_alloc | apply Kd.N_drewN | apply Kd.N_drew)); exact HO1081.out) (Kd.N_base ho0) hb); have n4_ := Aside0.mk (Kd.N_elder' (by (with_reducible repeat (first | apply Kd.N_alloc | apply Kd.N_drewN | apply Kd.N_drew)); exact HO1086.out) (Kd.N_base ho0) hb); have n5_ := Aside0.mk (Kd.N_lower (Kd.N_mono (ok' := fun k_ => some k_ ≠ (v1069 : Value).ownBlock ∧ some k_ ≠ (v1077 : Value).ownBlock ∧ some k_ ≠ (v1080 : Value).ownBlock ∧ some k_ ≠ (v1085 : Value).ownBlock) ho0 (fun k_ hk_ => ⟨(Kd.fresh' (Kd.N_lt (by (with_reducible repeat (first | apply Kd.N_alloc | apply Kd.N_drewN | apply Kd.N_drew)); exact HO1070.out)) k_ hk_), (Kd.fresh' (Kd.N_lt (by (with_reducible repeat (first | apply Kd.N_alloc | apply Kd.N_drewN | apply Kd.N_drew)); exact HO1078.out)) k_ hk_), (Kd.fresh' (Kd.N_lt (by (with_reducible repeat (first | apply Kd.N_alloc | apply Kd.N_drewN | apply Kd.N_drew)); exact HO1081.out)) k_ hk_), (Kd.fresh' (Kd.N_lt (by (with_reducible repeat (first | apply Kd.N_alloc | apply Kd.N_drewN | apply Kd.N_drew)); exact HO1086.out)) k_ hk_)⟩)) (below_size (by repeat (first | (with_reducible first | exact HB.out | apply below_alloc | apply pw_below_drewN | apply below_drew1) | exact HB.out)))); have n6_ := Aside0.mk (below_step (by repeat (first | (with_reducible first | exact HB.out | apply below_alloc | apply pw_below_drewN | apply below_drew1) | exact HB.out)) hb); clear HO1070; clear HO1073; clear HO1078; clear HO1081; clear HO1086; clear HB; have HO1070 := n0_; have HO1073 := n1_; have HO1078 := n2_; have HO1081 := n3_; have HO1086 := n4_; have HO1089 := n5_; have HB := n6_; clear n0_ n1_ n2_ n3_ n4_ n5_ n6_; (try clear hb); (try clear ho0)))
        (try simp only [Act.put, List.setIfInBounds_toArray, List.set_cons_zero, List.set_cons_succ])
        go_cut [127] (fun v127 wc => ∃ (kq : Nat) (x127_23 : Bool), v127 = .bool x127_23 ∧ Aside0 (laws_FnAllShapes.j2 kq t1063 t1064 t1065 t1067 t1075 t1083 x127_23 = some r) ∧ Aside0 (kq ≤ kj14) ∧ Aside0 (Kd.N (Kd.slice 55 k55) 27 wc w.heap.size (fun k_ => some k_ ≠ (v1077 : Value).ownBlock ∧ some k_ ≠ (v1085 : Value).ownBlock) v1069 t1067) ∧ Aside0 (Kd.N (Kd.slice 55 k55) 27 wc w.heap.size (fun k_ => some k_ ≠ (v1069 : Value).ownBlock ∧ some k_ ≠ (v1085 : Value).ownBlock) v1077 t1075) ∧ Aside0 (Kd.N (Kd.slice 55 k55) 27 wc w.heap.size (fun k_ => some k_ ≠ (v1069 : Value).ownBlock ∧ some k_ ≠ (v1077 : Value).ownBlock) v1085 t1083) ∧ Aside0 (Below w.heap.size w wc))
        case first =>
         have H := HC24.out
         clear HC24
         by_cases c31 : t1068 = 0
         ·rw [if_pos c31] at H
          have c31b0 : (t1068 == 0) = true := beq_iff_eq.mpr c31
          have c31b1 : (t1068 != 0) = false := bne_eq_false_iff_eq.mpr c31
          clear c31
          (first | rw [c31b0] | (simp only [i64_w, i32_w]; rw [c31b0]) | skip)
          by_cases c32 : t1076 = 0
          ·rw [if_pos c32] at H
           have c32b0 : (t1076 == 0) = true := beq_iff_eq.mpr c32
           have c32b1 : (t1076 != 0) = false := bne_eq_false_iff_eq.mpr c32
           clear c32
           by_cases c33 : t1084 = 0
           ·rw [if_pos c33] at H
            have c33b0 : (t1084 == 0) = true := beq_iff_eq.mpr c33
            have c33b1 : (t1084 != 0) = false := bne_eq_false_iff_eq.mpr c33
            clear c33
            replace H := Option.bind_eq_some_iff.mp H
            obtain ⟨t1091, A340, H⟩ := H
            replace H : (if t1091 = true then ((laws_likeShapes.f kj14 t1075 t1079).bind fun t1092 => (if t1092 = true then ((laws_likeShapes.f kj14 t1083 t1087).bind fun t1093 => (laws_FnAllShapes.j2 kj14 t1063 t1064 t1065 t1067 t1075 t1083 (!t1093))) else (laws_FnAllShapes.j2 kj14 t1063 t1064 t1065 t1067 t1075 t1083 true))) else (laws_FnAllShapes.j2 kj14 t1063 t1064 t1065 t1067 t1075 t1083 true)) = some r := H
            have A34 := Aside0.mk A340
            clear A340
            by_cases c35 : t1091 = true
            ·subst c35
             have H1 : ((laws_likeShapes.f kj14 t1075 t1079).bind fun t1092 => (if t1092 = true then ((laws_likeShapes.f kj14 t1083 t1087).bind fun t1093 => (laws_FnAllShapes.j2 kj14 t1063 t1064 t1065 t1067 t1075 t1083 (!t1093))) else (laws_FnAllShapes.j2 kj14 t1063 t1064 t1065 t1067 t1075 t1083 true))) = some r := by rw [if_pos rfl] at H; exact H
             clear H
             have H := H1
             clear H1
             replace H := Option.bind_eq_some_iff.mp H
             obtain ⟨t1092, A360, H⟩ := H
             replace H : (if t1092 = true then ((laws_likeShapes.f kj14 t1083 t1087).bind fun t1093 => (laws_FnAllShapes.j2 kj14 t1063 t1064 t1065 t1067 t1075 t1083 (!t1093))) else (laws_FnAllShapes.j2 kj14 t1063 t1064 t1065 t1067 t1075 t1083 true)) = some r := H
             have A36 := Aside0.mk A360
             clear A360
             by_cases c37 : t1092 = true
             ·subst c37
              have H1 : ((laws_likeShapes.f kj14 t1083 t1087).bind fun t1093 => (laws_FnAllShapes.j2 kj14 t1063 t1064 t1065 t1067 t1075 t1083 (!t1093))) = some r := by rw [if_pos rfl] at H; exact H
              clear H
              have H := H1
              clear H1
              replace H := Option.bind_eq_some_iff.mp H
              obtain ⟨t1093, A380, H⟩ := H
              replace H : (laws_FnAllShapes.j2 kj14 t1063 t1064 t1065 t1067 t1075 t1083 (!t1093)) = some r := H
              have A38 := Aside0.mk A380
              clear A380
              have H' := Aside0.mk H
              clear H
              obtain ⟨Ao39, co39, eo39⟩ := Kd.N_slice HO1070.out
              subst eo39
              obtain ⟨Ao40, co40, eo40⟩ := Kd.V_slice HO1073.out
              subst eo40
              go_wp2_with (first | (go_at_call 26; (with_reducible refine (laws_likeShapes.calls kj14 _ _ t1067 _ _ t1071 true _ ?side1 ?side2 ?side3 ?side4 A34.out).mono ?_); (case side1 => repeat (first | exact (Kd.N_reads' HO1070.out).2.2 | (with_reducible refine Kd.C_alloc ?_ _) | (with_reducible refine Kd.C_drewN ?_ _) | (with_reducible refine Kd.C_drew ?_))); (case side2 => exact (Kd.N_reads' HO1070.out).2.1); (case side3 => repeat (first | exact (Kd.V_reads' HO1073.out).2.2 | (with_reducible refine Kd.C_alloc ?_ _) | (with_reducible refine Kd.C_drewN ?_ _) | (with_reducible refine Kd.C_drew ?_))); (case side4 => exact (Kd.V_reads' HO1073.out).2.1); rintro e w' ⟨rfl, ⟨nd, rfl⟩⟩; obtain ⟨Ao41, co41, eo41⟩ := Kd.N_slice HO1078.out; subst eo41; obtain ⟨Ao42, co42, eo42⟩ := Kd.N_slice HO1081.out; subst eo42) | (go_at_call 26; (with_reducible refine (laws_likeShapes.calls kj14 _ _ t1075 _ _ t1079 true _ ?side1 ?side2 ?side3 ?side4 A36.out).mono ?_); (case side1 => repeat (first | exact (Kd.N_reads' HO1078.out).2.2 | (with_reducible refine Kd.C_alloc ?_ _) | (with_reducible refine Kd.C_drewN ?_ _) | (with_reducible refine Kd.C_drew ?_))); (case side2 => exact (Kd.N_reads' HO1078.out).2.1); (case side3 => repeat (first | exact (Kd.N_reads' HO1081.out).2.2 | (with_reducible refine Kd.C_alloc ?_ _) | (with_reducible refine Kd.C_drewN ?_ _) | (with_reducible refine Kd.C_drew ?_))); (case side4 => exact (Kd.N_reads' HO1081.out).2.1); rintro e w' ⟨rfl, ⟨nd, rfl⟩⟩; obtain ⟨Ao43, co43, eo43⟩ := Kd.N_slice HO1086.out; subst eo43; obtain ⟨Ao44, co44, eo44⟩ := Kd.N_slice HO1089.out; subst eo44) | (go_at_call 26; (with_reducible refine (laws_likeShapes.calls kj14 _ _ t1083 _ _ t1087 t1093 _ ?side1 ?side2 ?side3 ?side4 A38.out).mono ?_); (case side1 => repeat (first | exact (Kd.N_reads' HO1086.out).2.2 | (with_reducible refine Kd.C_alloc ?_ _) | (with_reducible refine Kd.C_drewN ?_ _) | (with_reducible refine Kd.C_drew ?_))); (case side2 => exact (Kd.N_reads' HO1086.out).2.1); (case side3 => repeat (first | exact (Kd.N_reads' HO1089.out).2.2 | (with_reducible refine Kd.C_alloc ?_ _) | (with_reducible refine Kd.C_drewN ?_ _) | (with_reducible refine Kd.C_drew ?_))); (case side4 => exact (Kd.N_reads' HO1089.out).2.1); rintro e w' ⟨rfl, ⟨nd, rfl⟩⟩))
              go_meet
              case rel => exact ⟨_, (!t1093), (by first | rfl | (simp; done) | (simp [*]; done)), H', ⟨by have := HJ6.out; have := HJ14.out; first | omega | exact Nat.le_refl _⟩, ⟨by (with_reducible repeat (first | apply Kd.N_alloc | apply Kd.N_drewN | apply Kd.N_drew)); exact Kd.N_mono HO1070.out (fun _ hk => ⟨hk.1.1.1.2, hk.1.2⟩)⟩, ⟨by (with_reducible repeat (first | apply Kd.N_alloc | apply Kd.N_drewN | apply Kd.N_drew)); exact Kd.N_mono HO1078.out (fun _ hk => ⟨hk.1.1.1, hk.1.2⟩)⟩, ⟨by (with_reducible repeat (first | apply Kd.N_alloc | apply Kd.N_drewN | apply Kd.N_drew)); exact Kd.N_mono HO1086.out (fun _ hk => ⟨hk.1.1, hk.1.2.1⟩)⟩, ⟨by repeat (first | (with_reducible first | exact HB.out | apply below_alloc | apply pw_below_drewN | apply below_drew1) | exact HB.out)⟩⟩
             ·replace c37 := Bool.eq_false_iff.mpr c37
              subst c37
              have H1 : (laws_FnAllShapes.j2 kj14 t1063 t1064 t1065 t1067 t1075 t1083 true) = some r := by rw [if_neg (show ¬ (false = true) by decide)] at H; exact H
              clear H
              have H := H1
              clear H1
              have H' := Aside0.mk H
              clear H
              obtain ⟨Ao45, co45, eo45⟩ := Kd.N_slice HO1070.out
              subst eo45
              obtain ⟨Ao46, co46, eo46⟩ := Kd.V_slice HO1073.out
              subst eo46
              go_wp2_with (first | (go_at_call 26; (with_reducible refine (laws_likeShapes.calls kj14 _ _ t1067 _ _ t1071 true _ ?side1 ?side2 ?side3 ?side4 A34.out).mono ?_); (case side1 => repeat (first | exact (Kd.N_reads' HO1070.out).2.2 | (with_reducible refine Kd.C_alloc ?_ _) | (with_reducible refine Kd.C_drewN ?_ _) | (with_reducible refine Kd.C_drew ?_))); (case side2 => exact (Kd.N_reads' HO1070.out).2.1); (case side3 => repeat (first | exact (Kd.V_reads' HO1073.out).2.2 | (with_reducible refine Kd.C_alloc ?_ _) | (with_reducible refine Kd.C_drewN ?_ _) | (with_reducible refine Kd.C_drew ?_))); (case side4 => exact (Kd.V_reads' HO1073.out).2.1); rintro e w' ⟨rfl, ⟨nd, rfl⟩⟩; obtain ⟨Ao47, co47, eo47⟩ := Kd.N_slice HO1078.out; subst eo47; obtain ⟨Ao48, co48, eo48⟩ := Kd.N_slice HO1081.out; subst eo48) | (go_at_call 26; (with_reducible refine (laws_likeShapes.calls kj14 _ _ t1075 _ _ t1079 false _ ?side1 ?side2 ?side3 ?side4 A36.out).mono ?_); (case side1 => repeat (first | exact (Kd.N_reads' HO1078.out).2.2 | (with_reducible refine Kd.C_alloc ?_ _) | (with_reducible refine Kd.C_drewN ?_ _) | (with_reducible refine Kd.C_drew ?_))); (case side2 => exact (Kd.N_reads' HO1078.out).2.1); (case side3 => repeat (first | exact (Kd.N_reads' HO1081.out).2.2 | (with_reducible refine Kd.C_alloc ?_ _) | (with_reducible refine Kd.C_drewN ?_ _) | (with_reducible refine Kd.C_drew ?_))); (case side4 => exact (Kd.N_reads' HO1081.out).2.1); rintro e w' ⟨rfl, ⟨nd, rfl⟩⟩))
              go_meet
              case rel => exact ⟨_, (true), (by first | rfl | (simp; done) | (simp [*]; done)), H', ⟨by have := HJ6.out; have := HJ14.out; first | omega | exact Nat.le_refl _⟩, ⟨by (with_reducible repeat (first | apply Kd.N_alloc | apply Kd.N_drewN | apply Kd.N_drew)); exact Kd.N_mono HO1070.out (fun _ hk => ⟨hk.1.1.1.2, hk.1.2⟩)⟩, ⟨by (with_reducible repeat (first | apply Kd.N_alloc | apply Kd.N_drewN | apply Kd.N_drew)); exact Kd.N_mono HO1078.out (fun _ hk => ⟨hk.1.1.1, hk.1.2⟩)⟩, ⟨by (with_reducible repeat (first | apply Kd.N_alloc | apply Kd.N_drewN | apply Kd.N_drew)); exact Kd.N_mono HO1086.out (fun _ hk => ⟨hk.1.1, hk.1.2.1⟩)⟩, ⟨by repeat (first | (with_reducible first | exact HB.out | apply below_alloc | apply pw_below_drewN | apply below_drew1) | exact HB.out)⟩⟩
            ·replace c35 := Bool.eq_false_iff.mpr c35
             subst c35
             have H1 : (laws_FnAllShapes.j2 kj14 t1063 t1064 t1065 t1067 t1075 t1083 true) = some r := by rw [if_neg (show ¬ (false = true) by decide)] at H; exact H
             clear H
             have H := H1
             clear H1
             have H' := Aside0.mk H
             clear H
             obtain ⟨Ao49, co49, eo49⟩ := Kd.N_slice HO1070.out
             subst eo49
             obtain ⟨Ao50, co50, eo50⟩ := Kd.V_slice HO1073.out
             subst eo50
             go_wp2_with (first | (go_at_call 26; (with_reducible refine (laws_likeShapes.calls kj14 _ _ t1067 _ _ t1071 false _ ?side1 ?side2 ?side3 ?side4 A34.out).mono ?_); (case side1 => repeat (first | exact (Kd.N_reads' HO1070.out).2.2 | (with_reducible refine Kd.C_alloc ?_ _) | (with_reducible refine Kd.C_drewN ?_ _) | (with_reducible refine Kd.C_drew ?_))); (case side2 => exact (Kd.N_reads' HO1070.out).2.1); (case side3 => repeat (first | exact (Kd.V_reads' HO1073.out).2.2 | (with_reducible refine Kd.C_alloc ?_ _) | (with_reducible refine Kd.C_drewN ?_ _) | (with_reducible refine Kd.C_drew ?_))); (case side4 => exact (Kd.V_reads' HO1073.out).2.1); rintro e w' ⟨rfl, ⟨nd, rfl⟩⟩))
             go_meet
             case rel => exact ⟨_, (true), (by first | rfl | (simp; done) | (simp [*]; done)), H', ⟨by have := HJ6.out; have := HJ14.out; first | omega | exact Nat.le_refl _⟩, ⟨by (with_reducible repeat (first | apply Kd.N_alloc | apply Kd.N_drewN | apply Kd.N_drew)); exact Kd.N_mono HO1070.out (fun _ hk => ⟨hk.1.1.1.2, hk.1.2⟩)⟩, ⟨by (with_reducible repeat (first | apply Kd.N_alloc | apply Kd.N_drewN | apply Kd.N_drew)); exact Kd.N_mono HO1078.out (fun _ hk => ⟨hk.1.1.1, hk.1.2⟩)⟩, ⟨by (with_reducible repeat (first | apply Kd.N_alloc | apply Kd.N_drewN | apply Kd.N_drew)); exact Kd.N_mono HO1086.out (fun _ hk => ⟨hk.1.1, hk.1.2.1⟩)⟩, ⟨by repeat (first | (with_reducible first | exact HB.out | apply below_alloc | apply pw_below_drewN | apply below_drew1) | exact HB.out)⟩⟩
           ·rw [if_neg c33] at H
            have c33b0 : (t1084 == 0) = false := beq_eq_false_iff_ne.mpr c33
            have c33b1 : (t1084 != 0) = true := bne_iff_ne.mpr c33
            have H' := Aside0.mk H
            clear H
            go_wp2
            go_meet
            case rel => exact ⟨_, (true), (by first | rfl | (simp; done) | (simp [*]; done)), H', ⟨by have := HJ6.out; have := HJ14.out; first | omega | exact Nat.le_refl _⟩, ⟨by (with_reducible repeat (first | apply Kd.N_alloc | apply Kd.N_drewN | apply Kd.N_drew)); exact Kd.N_mono HO1070.out (fun _ hk => ⟨hk.1.1.1.2, hk.1.2⟩)⟩, ⟨by (with_reducible repeat (first | apply Kd.N_alloc | apply Kd.N_drewN | apply Kd.N_drew)); exact Kd.N_mono HO1078.out (fun _ hk => ⟨hk.1.1.1, hk.1.2⟩)⟩, ⟨by (with_reducible repeat (first | apply Kd.N_alloc | apply Kd.N_drewN | apply Kd.N_drew)); exact Kd.N_mono HO1086.out (fun _ hk => ⟨hk.1.1, hk.1.2.1⟩)⟩, ⟨by repeat (first | (with_reducible first | exact HB.out | apply below_alloc | apply pw_below_drewN | apply below_drew1) | exact HB.out)⟩⟩
          ·rw [if_neg c32] at H
           have c32b0 : (t1076 == 0) = false := beq_eq_false_iff_ne.mpr c32
           have c32b1 : (t1076 != 0) = true := bne_iff_ne.mpr c32
           have H' := Aside0.mk H
           clear H
           go_wp2
           go_meet
           case rel => exact ⟨_, (true), (by first | rfl | (simp; done) | (simp [*]; done)), H', ⟨by have := HJ6.out; have := HJ14.out; first | omega | exact Nat.le_refl _⟩, ⟨by (with_reducible repeat (first | apply Kd.N_alloc | apply Kd.N_drewN | apply Kd.N_drew)); exact Kd.N_mono HO1070.out (fun _ hk => ⟨hk.1.1.1.2, hk.1.2⟩)⟩, ⟨by (with_reducible repeat (first | apply Kd.N_alloc | apply Kd.N_drewN | apply Kd.N_drew)); exact Kd.N_mono HO1078.out (fun _ hk => ⟨hk.1.1.1, hk.1.2⟩)⟩, ⟨by (with_reducible repeat (first | apply Kd.N_alloc | apply Kd.N_drewN | apply Kd.N_drew)); exact Kd.N_mono HO1086.out (fun _ hk => ⟨hk.1.1, hk.1.2.1⟩)⟩, ⟨by repeat (first | (with_reducible first | exact HB.out | apply below_alloc | apply pw_below_drewN | apply below_drew1) | exact HB.out)⟩⟩
         ·rw [if_neg c31] at H
          have c31b0 : (t1068 == 0) = false := beq_eq_false_iff_ne.mpr c31
          have c31b1 : (t1068 != 0) = true := bne_iff_ne.mpr c31
          (first | rw [c31b0] | (simp only [i64_w, i32_w]; rw [c31b0]) | skip)
          have H' := Aside0.mk H
          clear H
          go_wp2
          go_meet
          case rel => exact ⟨_, (true), (by first | rfl | (simp; done) | (simp [*]; done)), H', ⟨by have := HJ6.out; have := HJ14.out; first | omega | exact Nat.le_refl _⟩, ⟨by (with_reducible repeat (first | apply Kd.N_alloc | apply Kd.N_drewN | apply Kd.N_drew)); exact Kd.N_mono HO1070.out (fun _ hk => ⟨hk.1.1.1.2, hk.1.2⟩)⟩, ⟨by (with_reducible repeat (first | apply Kd.N_alloc | apply Kd.N_drewN | apply Kd.N_drew)); exact Kd.N_mono HO1078.out (fun _ hk => ⟨hk.1.1.1, hk.1.2⟩)⟩, ⟨by (with_reducible repeat (first | apply Kd.N_alloc | apply Kd.N_drewN | apply Kd.N_drew)); exact Kd.N_mono HO1086.out (fun _ hk => ⟨hk.1.1, hk.1.2.1⟩)⟩, ⟨by repeat (first | (with_reducible first | exact HB.out | apply below_alloc | apply pw_below_drewN | apply below_drew1) | exact HB.out)⟩⟩
        case rest =>
         clear HC24
         try clear c1
         try clear p2
         try clear c3
         try clear c6
         try clear c11
         try clear c11b0
         try clear c11b1
         try clear c12
         try clear c12b0
         try clear c12b1
         try clear c13
         try clear c13b0
         try clear c13b1
         try clear c14
         try clear c16
         try clear c16b0
         try clear c16b1
         try clear c17
         try clear c19
         try clear c30
         try clear c31
         try clear c31b0
         try clear c31b1
         try clear c32
         try clear c32b0
         try clear c32b1
         try clear c33
         try clear c33b0
         try clear c33b1
         try clear c34
         try clear c35
         try clear c36
         try clear c37
         try clear c38
         try clear p2
         obtain ⟨kq, x127_23, rfl, HA, HJ23, HO_12, HO_16, HO_20, HB⟩ := hcut
         cases kq with
         | zero => exact absurd HA.out (by simp [laws_FnAllShapes.j2])
         | succ kj23 =>
          have H := HA.out
          clear HA
          simp only [laws_FnAllShapes.j2] at H
          by_cases c51 : x127_23 = true
          ·subst c51
           have H1 : (some false) = some r := by rw [if_pos rfl] at H; exact H
           clear H
           have H := H1
           clear H1
           obtain rfl := Option.some.inj H
           go_wp2
           go_ret
           exact ⟨by first | rfl | (simp [*] <;> rfl), by repeat (first | (with_reducible first | exact HB.out | apply below_alloc | apply pw_below_drewN | apply below_drew1) | exact HB.out)⟩
          ·replace c51 := Bool.eq_false_iff.mpr c51
           subst c51
           have H1 : (laws_FnAllShapes.l0 kj23 t1063 t1064 t1065 t1067 t1075 t1083 0 0) = some r := by rw [if_neg (show ¬ (false = true) by decide)] at H; exact H
           clear H
           have H := H1
           clear H1
           have H' := Aside0.mk H
           clear H
           go_wp2
           go_loopg [24, 25] kj23 (fun kq v24 v25 w' => ∃ (x24_4 : Int) (x25_4 : Int), v24 = .int .i64 x24_4 ∧ v25 = .int .i64 x25_4 ∧ Aside0 (laws_FnAllShapes.l0 kq t1063 t1064 t1065 t1067 t1075 t1083 x24_4 x25_4 = some r) ∧ Aside0 (kq ≤ kj23) ∧ Aside0 (Kd.N (Kd.slice 55 k55) 27 w' w.heap.size (fun k_ => some k_ ≠ (v1077 : Value).ownBlock ∧ some k_ ≠ (v1085 : Value).ownBlock) v1069 t1067) ∧ Aside0 (Kd.N (Kd.slice 55 k55) 27 w' w.heap.size (fun k_ => some k_ ≠ (v1069 : Value).ownBlock ∧ some k_ ≠ (v1085 : Value).ownBlock) v1077 t1075) ∧ Aside0 (Kd.N (Kd.slice 55 k55) 27 w' w.heap.size (fun k_ => some k_ ≠ (v1069 : Value).ownBlock ∧ some k_ ≠ (v1077 : Value).ownBlock) v1085 t1083) ∧ Aside0 (Below w.heap.size w w'))
           case atStart => exact ⟨(0), (0), (by first | rfl | (simp; done) | (simp [*]; done)), (by first | rfl | (simp; done) | (simp [*]; done)), H', ⟨Nat.le_refl _⟩, ⟨by (with_reducible repeat (first | apply Kd.N_alloc | apply Kd.N_drewN | apply Kd.N_drew)); exact HO_12.out⟩, ⟨by (with_reducible repeat (first | apply Kd.N_alloc | apply Kd.N_drewN | apply Kd.N_drew)); exact HO_16.out⟩, ⟨by (with_reducible repeat (first | apply Kd.N_alloc | apply Kd.N_drewN | apply Kd.N_drew)); exact HO_20.out⟩, ⟨by repeat (first | (with_reducible first | exact HB.out | apply below_alloc | apply pw_below_drewN | apply below_drew1) | exact HB.out)⟩⟩
           case round =>
            clear H'
            try clear c1
            try clear p2
            try clear c3
            try clear c5
            try clear c6
            try clear c11
            try clear c11b0
            try clear c11b1
            try clear c12
            try clear c12b0
            try clear c12b1
            try clear c13
            try clear c13b0
            try clear c13b1
            try clear c14
            try clear c16
            try clear c16b0
            try clear c16b1
            try clear c17
            try clear c19
            try clear c30
            try clear c31
            try clear c31b0
            try clear c31b1
            try clear c32
            try clear c32b0
            try clear c32b1
            try clear c33
            try clear c33b0
            try clear c33b1
            try clear c34
            try clear c35
            try clear c36
            try clear c37
            try clear c38
            try clear c51
            try clear p2
            obtain ⟨x24_4, x25_4, rfl, rfl, HA, HK4, HO_12, HO_16, HO_20, HB⟩ := hrel
            cases gk with
            | zero => exact absurd HA.out (by simp [laws_FnAllShapes.l0])
            | succ k4 =>
             have H := HA.out
             clear HA
             simp only [laws_FnAllShapes.l0] at H
             by_cases c52 : x25_4 < (t1075.length : Int)
             ·rw [if_pos c52] at H
              have c52b0 : decide (x25_4 < (t1075.length : Int)) = true := decide_eq_true c52
              clear c52
              by_cases c53 : 0 ≤ x25_4
              ·rw [if_pos c53] at H
               have c53b0 : decide (0 ≤ x25_4) = true := decide_eq_true c53
               clear c53
               replace H := Option.bind_eq_some_iff.mp H
               obtain ⟨⟨t1095, t1096⟩, A540, H⟩ := H
               replace H : (if t1096 = 0 then (laws_FnAllShapes.l0 k4 t1063 t1064 t1065 t1067 t1075 t1083 (wrap64 (x24_4 + (t1095.length : Int))) (wrap64 (x25_4 + 1))) else (some false)) = some r := H
               have A54 := Aside0.mk A540
               clear A540
               by_cases c55 : t1096 = 0
               ·rw [if_pos c55] at H
                have c55b0 : (t1096 == 0) = true := beq_iff_eq.mpr c55
                have c55b1 : (t1096 != 0) = false := bne_eq_false_iff_eq.mpr c55
                clear c55
                have H' := Aside0.mk H
                clear H
                obtain ⟨Ao56, co56, eo56⟩ := Kd.N_slice HO_16.out
                subst eo56
                have p1094 : 0 ≤ (x25_4 : Int) := of_decide_eq_true (by first | (with_reducible assumption) | assumption)
                have q1094 : x25_4 < (t1075.length : Int) := of_decide_eq_true (by first | (with_reducible assumption) | assumption)
                obtain ⟨ad1094, A1094_0, c1094_0, e1094, hx1094_0, hl1094_0, hi1094_0⟩ := at_L3 (Kd.N_reads' HO_16.out).2.2 x25_4 p1094 q1094
                cases e1094
                obtain ⟨ce1094, hce1094, hMe1094, hcc1094⟩ := Kd.N_get HO_16.out [] x25_4 p1094 (by first | exact q1094 | exact of_decide_eq_true (by first | (with_reducible assumption) | assumption) | (have e_ := (Kd.N_reads' HO_16.out).1; omega))
                obtain ⟨ua1094_0, uc1094_0, rfl, ul1094_0, ge1094_0⟩ := Kd.FK_slice_open hMe1094
                have hv1094_0 := hcc1094 0 _ rfl
                rw [Nat.add_zero, show ((Kd.slice 55 k55)).sz = 1 from rfl, Nat.mul_one] at hv1094_0
                replace hv1094_0 := Option.some.inj (hv1094_0.symm.trans hx1094_0)
                injection hv1094_0 with hva_ hvn_ hvc_
                rw [hva_] at ge1094_0
                rw [hvc_] at ul1094_0
                have HL1094_0 := Aside0.mk (show Kd.V k55 55 _ w.heap.size _ _ (rd_L3 t1075 x25_4) from Kd.V_mk ul1094_0 ge1094_0)
                clear hva_ hvn_ hvc_ ge1094_0 ul1094_0
                clear hcc1094 hce1094
                have HR1094_0 := Aside0.mk hi1094_0
                have HC1094_0 := Aside0.mk hl1094_0
                clear hi1094_0 hl1094_0
                replace p1094 := eq_true p1094
                replace q1094 := eq_true q1094
                go_wp2_with (first | ((with_reducible refine gate_callee (f := 23) rfl ?_); refine goesL_ (some 139) rfl rfl Try.func23 (by kernel_rfl) rfl #[.slice A1094_0 (rd_L3 t1075 x25_4).length c1094_0] rfl (by (try simp only [List.map_toArray, List.map_cons, List.map_nil]); first | done | rfl) ?_; (with_reducible refine (impl_FormsOf.calls k4 _ _ (rd_L3 t1075 x25_4) t1095 t1096 _ ?side1 ?side2 A54.out).mono ?_); (case side1 => repeat (first | exact (by repeat (first | (with_reducible exact HR1094_0.out) | (with_reducible refine Kd.C_alloc ?_ _) | (with_reducible refine Kd.C_drewN ?_ _) | (with_reducible refine Kd.C_drew ?_) | exact HR1094_0.out)) | (with_reducible refine Kd.C_alloc ?_ _) | (with_reducible refine Kd.C_drewN ?_ _) | (with_reducible refine Kd.C_drew ?_))); (case side2 => exact HC1094_0.out); rintro e w57 ⟨v1097, rfl, ho0, hb⟩; refine ⟨_, rfl, ?_⟩; have n0_ := Aside0.mk (Kd.N_elder' (by (with_reducible repeat (first | apply Kd.N_alloc | apply Kd.N_drewN | apply Kd.N_drew)); exact HO_12.out) (Kd.S_base ho0) hb); have n1_ := Aside0.mk (Kd.N_elder' (by (with_reducible repeat (first | apply Kd.N_alloc | apply Kd.N_drewN | apply Kd.N_drew)); exact HO_16.out) (Kd.S_base ho0) hb); have n2_ := Aside0.mk (Kd.N_elder' (by (with_reducible repeat (first | apply Kd.N_alloc | apply Kd.N_drewN | apply Kd.N_drew)); exact HO_20.out) (Kd.S_base ho0) hb); have n3_ := Aside0.mk (Kd.V_elder' (by (with_reducible repeat (first | apply Kd.V_alloc | apply Kd.V_drewN | apply Kd.V_drew)); exact HL1094_0.out) (Kd.S_base ho0) hb); have n4_ := Aside0.mk (Kd.N_lower (Kd.N_mono (ok' := fun k_ => some k_ ≠ (v1069 : Value).ownBlock ∧ some k_ ≠ (.slice (some ad1094) t1075.length co56 : Value).ownBlock ∧ some k_ ≠ (v1085 : Value).ownBlock) (Kd.S_N (Kd.S_bound ho0)) (fun k_ hk_ => ⟨(Kd.fresh' (Kd.N_lt (by (with_reducible repeat (first | apply Kd.N_alloc | apply Kd.N_drewN | apply Kd.N_drew)); exact HO_12.out)) k_ hk_.2.1), (Kd.fresh' (Kd.N_lt (by (with_reducible repeat (first | apply Kd.N_alloc | apply Kd.N_drewN | apply Kd.N_drew)); exact HO_16.out)) k_ hk_.2.1), (Kd.fresh' (Kd.N_lt (by (with_reducible repeat (first | apply Kd.N_alloc | apply Kd.N_drewN | apply Kd.N_drew)); exact HO_20.out)) k_ hk_.2.1)⟩)) (below_size (by repeat (first | (with_reducible first | exact HB.out | apply below_alloc | apply pw_below_drewN | apply below_drew1) | exact HB.out)))); have n5_ := Aside0.mk (Kd.C_below (by repeat (first | (with_reducible exact HR1094_0.out) | (with_reducible refine Kd.C_alloc ?_ _) | (with_reducible refine Kd.C_drewN ?_ _) | (with_reducible refine Kd.C_drew ?_) | exact HR1094_0.out)) hb); have n6_ := Aside0.mk (below_step (by repeat (first | (with_reducible first | exact HB.out | apply below_alloc | apply pw_below_drewN | apply below_drew1) | exact HB.out)) hb); clear HO_12; clear HO_16; clear HO_20; clear HL1094_0; clear HR1094_0; clear HB; have HO_12 := n0_; have HO_16 := n1_; have HO_20 := n2_; have HL1094_0 := n3_; have HO1098 := n4_; have HR1094_0 := n5_; have HB := n6_; clear n0_ n1_ n2_ n3_ n4_ n5_ n6_; (try clear hb); (try clear ho0); obtain ⟨Ao58, co58, eo58⟩ := Kd.N_slice HO1098.out; subst eo58))
                go_roundg k4
                case measure => have := HJ6.out; have := HJ14.out; have := HJ23.out; have := HK4.out; omega
                case rel => exact ⟨(wrap64 (x24_4 + (t1095.length : Int))), (wrap64 (x25_4 + 1)), (by first | rfl | (simp; done) | (simp [*]; done)), (by first | rfl | (simp; done) | (simp [*]; done)), H', ⟨by have := HJ6.out; have := HJ14.out; have := HJ23.out; have := HK4.out; omega⟩, ⟨by (with_reducible repeat (first | apply Kd.N_alloc | apply Kd.N_drewN | apply Kd.N_drew)); exact Kd.N_mono HO_12.out (fun _ hk => ⟨hk.1.1, hk.1.2⟩)⟩, ⟨by (with_reducible repeat (first | apply Kd.N_alloc | apply Kd.N_drewN | apply Kd.N_drew)); exact Kd.N_mono HO_16.out (fun _ hk => ⟨hk.1.1, hk.1.2⟩)⟩, ⟨by (with_reducible repeat (first | apply Kd.N_alloc | apply Kd.N_drewN | apply Kd.N_drew)); exact Kd.N_mono HO_20.out (fun _ hk => ⟨hk.1.1, hk.1.2⟩)⟩, ⟨by repeat (first | (with_reducible first | exact HB.out | apply below_alloc | apply pw_below_drewN | apply below_drew1) | exact HB.out)⟩⟩
               ·rw [if_neg c55] at H
                have c55b0 : (t1096 == 0) = false := beq_eq_false_iff_ne.mpr c55
                have c55b1 : (t1096 != 0) = true := bne_iff_ne.mpr c55
                obtain rfl := Option.some.inj H
                obtain ⟨Ao59, co59, eo59⟩ := Kd.N_slice HO_16.out
                subst eo59
                have p1094 : 0 ≤ (x25_4 : Int) := of_decide_eq_true (by first | (with_reducible assumption) | assumption)
                have q1094 : x25_4 < (t1075.length : Int) := of_decide_eq_true (by first | (with_reducible assumption) | assumption)
                obtain ⟨ad1094, A1094_0, c1094_0, e1094, hx1094_0, hl1094_0, hi1094_0⟩ := at_L3 (Kd.N_reads' HO_16.out).2.2 x25_4 p1094 q1094
                cases e1094
                obtain ⟨ce1094, hce1094, hMe1094, hcc1094⟩ := Kd.N_get HO_16.out [] x25_4 p1094 (by first | exact q1094 | exact of_decide_eq_true (by first | (with_reducible assumption) | assumption) | (have e_ := (Kd.N_reads' HO_16.out).1; omega))
                obtain ⟨ua1094_0, uc1094_0, rfl, ul1094_0, ge1094_0⟩ := Kd.FK_slice_open hMe1094
                have hv1094_0 := hcc1094 0 _ rfl
                rw [Nat.add_zero, show ((Kd.slice 55 k55)).sz = 1 from rfl, Nat.mul_one] at hv1094_0
                replace hv1094_0 := Option.some.inj (hv1094_0.symm.trans hx1094_0)
                injection hv1094_0 with hva_ hvn_ hvc_
                rw [hva_] at ge1094_0
                rw [hvc_] at ul1094_0
                have HL1094_0 := Aside0.mk (show Kd.V k55 55 _ w.heap.size _ _ (rd_L3 t1075 x25_4) from Kd.V_mk ul1094_0 ge1094_0)
                clear hva_ hvn_ hvc_ ge1094_0 ul1094_0
                clear hcc1094 hce1094
                have HR1094_0 := Aside0.mk hi1094_0
                have HC1094_0 := Aside0.mk hl1094_0
                clear hi1094_0 hl1094_0
                replace p1094 := eq_true p1094
                replace q1094 := eq_true q1094
                go_wp2_with (first | ((with_reducible refine gate_callee (f := 23) rfl ?_); refine goesL_ (some 139) rfl rfl Try.func23 (by kernel_rfl) rfl #[.slice A1094_0 (rd_L3 t1075 x25_4).length c1094_0] rfl (by (try simp only [List.map_toArray, List.map_cons, List.map_nil]); first | done | rfl) ?_; (with_reducible refine (impl_FormsOf.calls k4 _ _ (rd_L3 t1075 x25_4) t1095 t1096 _ ?side1 ?side2 A54.out).mono ?_); (case side1 => repeat (first | exact (by repeat (first | (with_reducible exact HR1094_0.out) | (with_reducible refine Kd.C_alloc ?_ _) | (with_reducible refine Kd.C_drewN ?_ _) | (with_reducible refine Kd.C_drew ?_) | exact HR1094_0.out)) | (with_reducible refine Kd.C_alloc ?_ _) | (with_reducible refine Kd.C_drewN ?_ _) | (with_reducible refine Kd.C_drew ?_))); (case side2 => exact HC1094_0.out); rintro e w60 ⟨v1097, rfl, ho0, hb⟩; refine ⟨_, rfl, ?_⟩; have n0_ := Aside0.mk (Kd.N_elder' (by (with_reducible repeat (first | apply Kd.N_alloc | apply Kd.N_drewN | apply Kd.N_drew)); exact HO_12.out) (Kd.S_base ho0) hb); have n1_ := Aside0.mk (Kd.N_elder' (by (with_reducible repeat (first | apply Kd.N_alloc | apply Kd.N_drewN | apply Kd.N_drew)); exact HO_16.out) (Kd.S_base ho0) hb); have n2_ := Aside0.mk (Kd.N_elder' (by (with_reducible repeat (first | apply Kd.N_alloc | apply Kd.N_drewN | apply Kd.N_drew)); exact HO_20.out) (Kd.S_base ho0) hb); have n3_ := Aside0.mk (Kd.V_elder' (by (with_reducible repeat (first | apply Kd.V_alloc | apply Kd.V_drewN | apply Kd.V_drew)); exact HL1094_0.out) (Kd.S_base ho0) hb); have n4_ := Aside0.mk (Kd.N_lower (Kd.N_mono (ok' := fun k_ => some k_ ≠ (v1069 : Value).ownBlock ∧ some k_ ≠ (.slice (some ad1094) t1075.length co59 : Value).ownBlock ∧ some k_ ≠ (v1085 : Value).ownBlock) (Kd.S_N (Kd.S_bound ho0)) (fun k_ hk_ => ⟨(Kd.fresh' (Kd.N_lt (by (with_reducible repeat (first | apply Kd.N_alloc | apply Kd.N_drewN | apply Kd.N_drew)); exact HO_12.out)) k_ hk_.2.1), (Kd.fresh' (Kd.N_lt (by (with_reducible repeat (first | apply Kd.N_alloc | apply Kd.N_drewN | apply Kd.N_drew)); exact HO_16.out)) k_ hk_.2.1), (Kd.fresh' (Kd.N_lt (by (with_reducible repeat (first | apply Kd.N_alloc | apply Kd.N_drewN | apply Kd.N_drew)); exact HO_20.out)) k_ hk_.2.1)⟩)) (below_size (by repeat (first | (with_reducible first | exact HB.out | apply below_alloc | apply pw_below_drewN | apply below_drew1) | exact HB.out)))); have n5_ := Aside0.mk (Kd.C_below (by repeat (first | (with_reducible exact HR1094_0.out) | (with_reducible refine Kd.C_alloc ?_ _) | (with_reducible refine Kd.C_drewN ?_ _) | (with_reducible refine Kd.C_drew ?_) | exact HR1094_0.out)) hb); have n6_ := Aside0.mk (below_step (by repeat (first | (with_reducible first | exact HB.out | apply below_alloc | apply pw_below_drewN | apply below_drew1) | exact HB.out)) hb); clear HO_12; clear HO_16; clear HO_20; clear HL1094_0; clear HR1094_0; clear HB; have HO_12 := n0_; have HO_16 := n1_; have HO_20 := n2_; have HL1094_0 := n3_; have HO1098 := n4_; have HR1094_0 := n5_; have HB := n6_; clear n0_ n1_ n2_ n3_ n4_ n5_ n6_; (try clear hb); (try clear ho0)))
                go_ret
                exact ⟨by first | rfl | (simp [*] <;> rfl), by repeat (first | (with_reducible first | exact HB.out | apply below_alloc | apply pw_below_drewN | apply below_drew1) | exact HB.out)⟩
              ·rw [if_neg c53] at H
               exact absurd H (by simp)
             ·rw [if_neg c52] at H
              have c52b0 : decide (x25_4 < (t1075.length : Int)) = false := decide_eq_false c52
              clear c52
              by_cases c61 : x24_4 = (t1067.length : Int)
              ·rw [if_pos c61] at H
               have c61b0 : (x24_4 == (t1067.length : Int)) = true := beq_iff_eq.mpr c61
               have c61b1 : (x24_4 != (t1067.length : Int)) = false := bne_eq_false_iff_eq.mpr c61
               clear c61
               by_cases c62 : (t1067.length : Int) = t1063
               ·rw [if_pos c62] at H
                have c62b0 : ((t1067.length : Int) == t1063) = true := beq_iff_eq.mpr c62
                have c62b1 : ((t1067.length : Int) != t1063) = false := bne_eq_false_iff_eq.mpr c62
                clear c62
                by_cases c63 : (t1075.length : Int) = t1065
                ·rw [if_pos c63] at H
                 have c63b0 : ((t1075.length : Int) == t1065) = true := beq_iff_eq.mpr c63
                 have c63b1 : ((t1075.length : Int) != t1065) = false := bne_eq_false_iff_eq.mpr c63
                 clear c63
                 obtain rfl := Option.some.inj H
                 obtain ⟨Ao64, co64, eo64⟩ := Kd.N_slice HO_16.out
                 subst eo64
                 obtain ⟨Ao65, co65, eo65⟩ := Kd.N_slice HO_12.out
                 subst eo65
                 obtain ⟨Ao66, co66, eo66⟩ := Kd.N_slice HO_20.out
                 subst eo66
                 go_wp2
                 go_ret
                 exact ⟨by first | rfl | (simp [*] <;> rfl), by repeat (first | (with_reducible first | exact HB.out | apply below_alloc | apply pw_below_drewN | apply below_drew1) | exact HB.out)⟩
                ·rw [if_neg c63] at H
                 have c63b0 : ((t1075.length : Int) == t1065) = false := beq_eq_false_iff_ne.mpr c63
                 have c63b1 : ((t1075.length : Int) != t1065) = true := bne_iff_ne.mpr c63
                 obtain rfl := Option.some.inj H
                 obtain ⟨Ao67, co67, eo67⟩ := Kd.N_slice HO_16.out
                 subst eo67
                 obtain ⟨Ao68, co68, eo68⟩ := Kd.N_slice HO_12.out
                 subst eo68
                 go_wp2
                 go_ret
                 exact ⟨by first | rfl | (simp [*] <;> rfl), by repeat (first | (with_reducible first | exact HB.out | apply below_alloc | apply pw_below_drewN | apply below_drew1) | exact HB.out)⟩
               ·rw [if_neg c62] at H
                have c62b0 : ((t1067.length : Int) == t1063) = false := beq_eq_false_iff_ne.mpr c62
                have c62b1 : ((t1067.length : Int) != t1063) = true := bne_iff_ne.mpr c62
                obtain rfl := Option.some.inj H
                obtain ⟨Ao69, co69, eo69⟩ := Kd.N_slice HO_16.out
                subst eo69
                obtain ⟨Ao70, co70, eo70⟩ := Kd.N_slice HO_12.out
                subst eo70
                go_wp2
                go_ret
                exact ⟨by first | rfl | (simp [*] <;> rfl), by repeat (first | (with_reducible first | exact HB.out | apply below_alloc | apply pw_below_drewN | apply below_drew1) | exact HB.out)⟩
              ·rw [if_neg c61] at H
               have c61b0 : (x24_4 == (t1067.length : Int)) = false := beq_eq_false_iff_ne.mpr c61
               have c61b1 : (x24_4 != (t1067.length : Int)) = true := bne_iff_ne.mpr c61
               obtain rfl := Option.some.inj H
               obtain ⟨Ao71, co71, eo71⟩ := Kd.N_slice HO_16.out
               subst eo71
               obtain ⟨Ao72, co72, eo72⟩ := Kd.N_slice HO_12.out
               subst eo72
               go_wp2
               go_ret
               exact ⟨by first | rfl | (simp [*] <;> rfl), by repeat (first | (with_reducible first | exact HB.out | apply below_alloc | apply pw_below_drewN | apply below_drew1) | exact HB.out)⟩

/-- THE ONE PURE STATEMENT of laws_FnAllShapes: yours. -/
def laws_FnAllShapes.Pure : Prop := ∀ (l0 : List Int), l0.length ≤ maxLen → l0.length * 1 ≤ 140737488351232 → (∀ x ∈ l0, (Lit.int .u8 x).wf = true) → ∃ k, laws_FnAllShapes.f k l0 = some true
theorem laws_FnAllShapes.walk (P : laws_FnAllShapes.Pure) (a0 : Option Addr) (len0 cap0 : Nat) (z0 : List Int) (w : World) (w0 : (a0 = none ∧ len0 = 0 ∧ cap0 = 0 ∧ z0 = []) ∨ ∃ x, a0 = some x ∧ len0 ≤ cap0 ∧ cap0 ≤ maxLen ∧ z0.length = cap0 ∧ (∀ i, i < z0.length → w.cell? (x.add i) = some (.int .u8 (z0.getD i 0))) ∧ ∀ n ∈ z0, (Lit.int .u8 n).wf = true) (y0 : len0 * 1 ≤ 140737488351232) :
  Calls Try.prog 6 #[.slice a0 len0 cap0] w fun e w' => e = .returned (.bool true) ∧ Below w.heap.size w w' := by
 obtain ⟨l0, rfl, hr0, hm0, hw0, hc0⟩ := ReadsInt.ofRowC w0
 obtain ⟨k, h⟩ := P l0 hm0 y0 hw0
 refine (laws_FnAllShapes.calls k _ _ l0 true w (Kd.C_of_reads (d := (0 : Int)) (h1 := fun _ => rfl) hr0) hc0 h).mono ?_
 rintro e w' ⟨rfl, hd⟩
 exact ⟨rfl, hd⟩

end Go.Proofs.Ytbkafaoehheioaa.X
