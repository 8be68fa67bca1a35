-- Written by xprint.py, a program of this session, on the kit's print.py: functions of the seat in one namespace.
import Derived.Test.YtbfmocohknadkaaXx0
import Derived.Test.YtbfmocohknadkaaXx23
import Derived.Test.YtbfmocohknadkaaXx26
import Derived.Test.YtbfmocohknadkaaXx39
namespace Go.Proofs.Ytbfmocohknadkaa.X
open Go.RowKit Go.Proofs.YtbfmocohknadkaaW.PrintWords Go.Proofs.YtbfmocohknadkaaW.PrintLast Go.Proofs.YtbfmocohknadkaaW.PrintMore
attribute [local go_sem] max2_int min2_int max_two min_two max_three min_three max_four min_four   -- for this text's walks alone
set_option linter.unusedVariables false
set_option linter.unusedSimpArgs false

/-! ### laws_FnJoined: function 13 -/
mutual
def laws_FnJoined.j0 : Nat → List (S57) → List (S57) → List (S57) → Int → Bool → Option (Bool)
  | 0, _, _, _, _, _ => none
  | k + 1, x3, x4, x5, x6, x54 => if x54 = true then (some false) else (if x6 = 0 then (laws_FnJoined.l0 k x3 x4 x5 0) else (some true))
def laws_FnJoined.l0 : Nat → List (S57) → List (S57) → List (S57) → Int → Option (Bool)
  | 0, _, _, _, _ => none
  | k + 1, x3, x4, x5, x11 => if x11 < (x3.length : Int) then (if 0 ≤ x11 then ((impl_HasCell.f k x5 ((rd_T57 x3 x11).f0) ((rd_T57 x3 x11).f1)).bind fun t1091 => (if t1091 = true then (laws_FnJoined.l0 k x3 x4 x5 (wrap64 (x11 + 1))) else (some false))) else (none)) else (laws_FnJoined.l1 k x3 x4 x5 0)
def laws_FnJoined.l1 : Nat → List (S57) → List (S57) → List (S57) → Int → Option (Bool)
  | 0, _, _, _, _ => none
  | k + 1, x3, x4, x5, x12 => if x12 < (x4.length : Int) then (if 0 ≤ x12 then ((impl_HasCell.f k x5 ((rd_T57 x4 x12).f0) ((rd_T57 x4 x12).f1)).bind fun t1093 => (if t1093 = true then (laws_FnJoined.l1 k x3 x4 x5 (wrap64 (x12 + 1))) else (some false))) else (none)) else (some ((x5.length : Int) == (wrap64 ((x3.length : Int) + (x4.length : Int)))))
end
def laws_FnJoined.f (k : Nat) (l0 : List Int) : Option (Bool) := (laws_big.f l0).bind fun t1066 => (if t1066 = true then (some true) else ((spec_DrawJoinShapes.f k l0).bind fun bt1067 => ((impl_JoinShapes.f k bt1067.1 bt1067.2).bind fun bt1073 => ((spec_JoinShapes.f k bt1067.1 bt1067.2).bind fun bt1077 => ((spec_DrawHasCell.f k l0).bind fun bt1081 => (if bt1073.2 = bt1077.2 then ((laws_likeCells.f k bt1073.1 bt1077.1).bind fun t1087 => (if t1087 = true then ((impl_HasCell.f k bt1081.1 bt1081.2.1 bt1081.2.2).bind fun t1088 => ((spec_HasCell.f k bt1081.1 bt1081.2.1 bt1081.2.2).bind fun t1089 => (laws_FnJoined.j0 k bt1067.1 bt1067.2 bt1073.1 bt1073.2 (t1088 != t1089)))) else (laws_FnJoined.j0 k bt1067.1 bt1067.2 bt1073.1 bt1073.2 true))) else (laws_FnJoined.j0 k bt1067.1 bt1067.2 bt1073.1 bt1073.2 true)))))))
theorem laws_FnJoined.mono_l : ∀ k, (∀ y0 y1 y2 y3 y4, LeO (laws_FnJoined.j0 k y0 y1 y2 y3 y4) (laws_FnJoined.j0 (k + 1) y0 y1 y2 y3 y4)) ∧ (∀ y0 y1 y2 y3, LeO (laws_FnJoined.l0 k y0 y1 y2 y3) (laws_FnJoined.l0 (k + 1) y0 y1 y2 y3)) ∧ (∀ y0 y1 y2 y3, LeO (laws_FnJoined.l1 k y0 y1 y2 y3) (laws_FnJoined.l1 (k + 1) y0 y1 y2 y3))
  | 0 => ⟨fun _ _ _ _ _ r h => by simp [laws_FnJoined.j0] at h, fun _ _ _ _ r h => by simp [laws_FnJoined.l0] at h, fun _ _ _ _ r h => by simp [laws_FnJoined.l1] at h⟩
  | k + 1 => by
    obtain ⟨ih0, ih1, ih2⟩ := laws_FnJoined.mono_l k
    refine ⟨?_, ?_, ?_⟩
    · intro y0 y1 y2 y3 y4
      unfold laws_FnJoined.j0
      repeat' first
      | (with_reducible exact ih0 _ _ _ _ _)
      | (with_reducible exact ih1 _ _ _ _)
      | (with_reducible exact ih2 _ _ _ _)
      | (with_reducible exact impl_HasCell.mono _ _ _ _)
      | (with_reducible exact impl_JoinShapes.mono _ _ _)
      | (with_reducible exact laws_likeCells.mono _ _ _)
      | (with_reducible exact spec_DrawHasCell.mono _ _)
      | (with_reducible exact spec_DrawJoinShapes.mono _ _)
      | (with_reducible exact spec_HasCell.mono _ _ _ _)
      | (with_reducible exact spec_JoinShapes.mono _ _ _)
      | (with_reducible exact LeO.refl _)
      | (with_reducible exact LeO.none _)
      | (with_reducible refine LeO.ite ?_ ?_)
      | (with_reducible refine LeO.bind ?_ (fun _ => ?_))
      | exact ih0 _ _ _ _ _
      | exact ih1 _ _ _ _
      | exact ih2 _ _ _ _
      | exact impl_HasCell.mono _ _ _ _
      | exact impl_JoinShapes.mono _ _ _
      | exact laws_likeCells.mono _ _ _
      | exact spec_DrawHasCell.mono _ _
      | exact spec_DrawJoinShapes.mono _ _
      | exact spec_HasCell.mono _ _ _ _
      | exact spec_JoinShapes.mono _ _ _
      | exact LeO.none _
      | refine LeO.ite ?_ ?_
      | refine LeO.bind ?_ (fun _ => ?_)
    · intro y0 y1 y2 y3
      unfold laws_FnJoined.l0
      repeat' first
      | (with_reducible exact ih0 _ _ _ _ _)
      | (with_reducible exact ih1 _ _ _ _)
      | (with_reducible exact ih2 _ _ _ _)
      | (with_reducible exact impl_HasCell.mono _ _ _ _)
      | (with_reducible exact impl_JoinShapes.mono _ _ _)
      | (with_reducible exact laws_likeCells.mono _ _ _)
      | (with_reducible exact spec_DrawHasCell.mono _ _)
      | (with_reducible exact spec_DrawJoinShapes.mono _ _)
      | (with_reducible exact spec_HasCell.mono _ _ _ _)
      | (with_reducible exact spec_JoinShapes.mono _ _ _)
      | (with_reducible exact LeO.refl _)
      | (with_reducible exact LeO.none _)
      | (with_reducible refine LeO.ite ?_ ?_)
      | (with_reducible refine LeO.bind ?_ (fun _ => ?_))
      | exact ih0 _ _ _ _ _
      | exact ih1 _ _ _ _
      | exact ih2 _ _ _ _
      | exact impl_HasCell.mono _ _ _ _
      | exact impl_JoinShapes.mono _ _ _
      | exact laws_likeCells.mono _ _ _
      | exact spec_DrawHasCell.mono _ _
      | exact spec_DrawJoinShapes.mono _ _
      | exact spec_HasCell.mono _ _ _ _
      | exact spec_JoinShapes.mono _ _ _
      | exact LeO.none _
      | refine LeO.ite ?_ ?_
      | refine LeO.bind ?_ (fun _ => ?_)
    · intro y0 y1 y2 y3
      unfold laws_FnJoined.l1
      repeat' first
      | (with_reducible exact ih0 _ _ _ _ _)
      | (with_reducible exact ih1 _ _ _ _)
      | (with_reducible exact ih2 _ _ _ _)
      | (with_reducible exact impl_HasCell.mono _ _ _ _)
      | (with_reducible exact impl_JoinShapes.mono _ _ _)
      | (with_reducible exact laws_likeCells.mono _ _ _)
      | (with_reducible exact spec_DrawHasCell.mono _ _)
      | (with_reducible exact spec_DrawJoinShapes.mono _ _)
      | (with_reducible exact spec_HasCell.mono _ _ _ _)
      | (with_reducible exact spec_JoinShapes.mono _ _ _)
      | (with_reducible exact LeO.refl _)
      | (with_reducible exact LeO.none _)
      | (with_reducible refine LeO.ite ?_ ?_)
      | (with_reducible refine LeO.bind ?_ (fun _ => ?_))
      | exact ih0 _ _ _ _ _
      | exact ih1 _ _ _ _
      | exact ih2 _ _ _ _
      | exact impl_HasCell.mono _ _ _ _
      | exact impl_JoinShapes.mono _ _ _
      | exact laws_likeCells.mono _ _ _
      | exact spec_DrawHasCell.mono _ _
      | exact spec_DrawJoinShapes.mono _ _
      | exact spec_HasCell.mono _ _ _ _
      | exact spec_JoinShapes.mono _ _ _
      | exact LeO.none _
      | refine LeO.ite ?_ ?_
      | refine LeO.bind ?_ (fun _ => ?_)
theorem laws_FnJoined.mono : ∀ a0 k, LeO (laws_FnJoined.f k a0) (laws_FnJoined.f (k + 1) a0) := by
  intro a0 k
  obtain ⟨ih0, ih1, ih2⟩ := laws_FnJoined.mono_l k
  unfold laws_FnJoined.f
  repeat' first
      | (with_reducible exact ih0 _ _ _ _ _)
      | (with_reducible exact ih1 _ _ _ _)
      | (with_reducible exact ih2 _ _ _ _)
      | (with_reducible exact impl_HasCell.mono _ _ _ _)
      | (with_reducible exact impl_JoinShapes.mono _ _ _)
      | (with_reducible exact laws_likeCells.mono _ _ _)
      | (with_reducible exact spec_DrawHasCell.mono _ _)
      | (with_reducible exact spec_DrawJoinShapes.mono _ _)
      | (with_reducible exact spec_HasCell.mono _ _ _ _)
      | (with_reducible exact spec_JoinShapes.mono _ _ _)
      | (with_reducible exact LeO.refl _)
      | (with_reducible exact LeO.none _)
      | (with_reducible refine LeO.ite ?_ ?_)
      | (with_reducible refine LeO.bind ?_ (fun _ => ?_))
      | exact ih0 _ _ _ _ _
      | exact ih1 _ _ _ _
      | exact ih2 _ _ _ _
      | exact impl_HasCell.mono _ _ _ _
      | exact impl_JoinShapes.mono _ _ _
      | exact laws_likeCells.mono _ _ _
      | exact spec_DrawHasCell.mono _ _
      | exact spec_DrawJoinShapes.mono _ _
      | exact spec_HasCell.mono _ _ _ _
      | exact spec_JoinShapes.mono _ _ _
      | exact LeO.none _
      | refine LeO.ite ?_ ?_
      | refine LeO.bind ?_ (fun _ => ?_)
def laws_FnJoined.T7 : Bool × List (List Nat × List Nat) := (true, [([], []), ([], []), ([0, 1], [0, 1]), ([2], [2]), ([3], [3]), ([3], [3]), ([4, 5, 3, 3], [3, 4, 5]), ([6, 3], [3, 6]), ([3, 7], [3, 7]), ([8, 6], [8]), ([9], [9]), ([9], [9]), ([10, 11, 9, 9], [9, 10, 11]), ([9], [9]), ([9], [9]), ([13, 14, 12, 9], [9, 13, 14]), ([12, 15, 9], [9, 12, 15]), ([9, 16], [9, 16])])
def laws_FnJoined.B7 : List Nat := [0, 0, 3, 7, 15, 15, 63, 127, 255, 511, 1023, 1023, 4095, 1023, 1023, 32767, 65535, 131071]
theorem laws_FnJoined.tab7 : rtab .any (opsOf Try.f13 7) = laws_FnJoined.T7 := by kernel_rfl
theorem laws_FnJoined.bits7 : waitsOk laws_FnJoined.T7.2 laws_FnJoined.B7 = true := by kernel_rfl
set_option maxHeartbeats 8000000 in
set_option maxRecDepth 100000 in
theorem laws_FnJoined.calls (k : Nat) (A0 : Option Addr) (c0 : Nat) (l0 : List Int) (r : Bool) (w : World) (hr0 : Kd.C (Kd.int .u8) w A0 l0.length l0) (hc0 : l0.length ≤ c0) (h : laws_FnJoined.f k l0 = some r) :
    Calls Try.prog 13 #[.slice A0 l0.length c0] w fun e w' => e = .returned (.bool r) ∧ Below w.heap.size w w' := by
  have hu57 := Try.underlying57
  have HR0 := Aside0.mk hr0
  have HC0 := Aside0.mk hc0
  clear hr0 hc0
  have HB := Aside0.mk (Below.refl w.heap.size w)
  have H : ((laws_big.f l0).bind fun t1066 => (if t1066 = true then (some true) else ((spec_DrawJoinShapes.f k l0).bind fun bt1067 => ((impl_JoinShapes.f k bt1067.1 bt1067.2).bind fun bt1073 => ((spec_JoinShapes.f k bt1067.1 bt1067.2).bind fun bt1077 => ((spec_DrawHasCell.f k l0).bind fun bt1081 => (if bt1073.2 = bt1077.2 then ((laws_likeCells.f k bt1073.1 bt1077.1).bind fun t1087 => (if t1087 = true then ((impl_HasCell.f k bt1081.1 bt1081.2.1 bt1081.2.2).bind fun t1088 => ((spec_HasCell.f k bt1081.1 bt1081.2.1 bt1081.2.2).bind fun t1089 => (laws_FnJoined.j0 k bt1067.1 bt1067.2 bt1073.1 bt1073.2 (t1088 != t1089)))) else (laws_FnJoined.j0 k bt1067.1 bt1067.2 bt1073.1 bt1073.2 true))) else (laws_FnJoined.j0 k bt1067.1 bt1067.2 bt1073.1 bt1073.2 true)))))))) = some r := h
  clear h
  replace H := Option.bind_eq_some_iff.mp H
  obtain ⟨t1066, A20, H⟩ := H
  replace H : (if t1066 = true then (some true) else ((spec_DrawJoinShapes.f k l0).bind fun bt1067 => ((impl_JoinShapes.f k bt1067.1 bt1067.2).bind fun bt1073 => ((spec_JoinShapes.f k bt1067.1 bt1067.2).bind fun bt1077 => ((spec_DrawHasCell.f k l0).bind fun bt1081 => (if bt1073.2 = bt1077.2 then ((laws_likeCells.f k bt1073.1 bt1077.1).bind fun t1087 => (if t1087 = true then ((impl_HasCell.f k bt1081.1 bt1081.2.1 bt1081.2.2).bind fun t1088 => ((spec_HasCell.f k bt1081.1 bt1081.2.1 bt1081.2.2).bind fun t1089 => (laws_FnJoined.j0 k bt1067.1 bt1067.2 bt1073.1 bt1073.2 (t1088 != t1089)))) else (laws_FnJoined.j0 k bt1067.1 bt1067.2 bt1073.1 bt1073.2 true))) else (laws_FnJoined.j0 k bt1067.1 bt1067.2 bt1073.1 bt1073.2 true))))))) = some r := H
  have A2 := Aside0.mk A20
  clear A20
  by_cases c3 : t1066 = true
  · subst c3
    have H1 : (some true) = some r := by rw [if_pos rfl] at H; exact H
    clear H
    have H := H1
    clear H1
    obtain rfl := Option.some.inj H
    go_enter Try.func13, Try.ntmps13
    go_wp2_with (first | ((with_reducible refine gate_callee (f := 30) rfl ?_); refine goesL_ (some 14) rfl rfl Try.func30 (by kernel_rfl) rfl #[.slice A0 l0.length c0] rfl (by (try simp only [List.map_toArray, List.map_cons, List.map_nil]); first | done | rfl | (simp only [List.length_drop, List.length_take]; rfl)) ?_; (with_reducible refine (laws_big.calls _ _ l0 true _ ?side1 ?side2 A2.out).mono ?_); (case side1 => repeat (first | exact HR0.out | (with_reducible refine Kd.C_alloc ?_ _) | (with_reducible refine Kd.C_drewN ?_ _) | (with_reducible refine Kd.C_drew ?_))); (case side2 => exact HC0.out); rintro e w' ⟨rfl, ⟨nd, rfl⟩⟩; refine ⟨_, rfl, ?_⟩))
    go_ret
    exact ⟨by first | rfl | (simp [errW_none, errW_some] <;> rfl) | (simp [*, errW_none, errW_some] <;> rfl), by repeat (first | (with_reducible first | exact HB.out | apply below_alloc | apply pw_below_drewN | apply below_drew1) | exact HB.out)⟩
  · replace c3 := Bool.eq_false_iff.mpr c3
    subst c3
    have H1 : ((spec_DrawJoinShapes.f k l0).bind fun bt1067 => ((impl_JoinShapes.f k bt1067.1 bt1067.2).bind fun bt1073 => ((spec_JoinShapes.f k bt1067.1 bt1067.2).bind fun bt1077 => ((spec_DrawHasCell.f k l0).bind fun bt1081 => (if bt1073.2 = bt1077.2 then ((laws_likeCells.f k bt1073.1 bt1077.1).bind fun t1087 => (if t1087 = true then ((impl_HasCell.f k bt1081.1 bt1081.2.1 bt1081.2.2).bind fun t1088 => ((spec_HasCell.f k bt1081.1 bt1081.2.1 bt1081.2.2).bind fun t1089 => (laws_FnJoined.j0 k bt1067.1 bt1067.2 bt1073.1 bt1073.2 (t1088 != t1089)))) else (laws_FnJoined.j0 k bt1067.1 bt1067.2 bt1073.1 bt1073.2 true))) else (laws_FnJoined.j0 k bt1067.1 bt1067.2 bt1073.1 bt1073.2 true)))))) = some r := by rw [if_neg (show ¬ (false = true) by decide)] at H; exact H
    clear H
    have H := H1
    clear H1
    replace H := Option.bind_eq_some_iff.mp H
    obtain ⟨⟨t1067, t1068⟩, A40, H⟩ := H
    replace H : ((impl_JoinShapes.f k t1067 t1068).bind fun bt1073 => ((spec_JoinShapes.f k t1067 t1068).bind fun bt1077 => ((spec_DrawHasCell.f k l0).bind fun bt1081 => (if bt1073.2 = bt1077.2 then ((laws_likeCells.f k bt1073.1 bt1077.1).bind fun t1087 => (if t1087 = true then ((impl_HasCell.f k bt1081.1 bt1081.2.1 bt1081.2.2).bind fun t1088 => ((spec_HasCell.f k bt1081.1 bt1081.2.1 bt1081.2.2).bind fun t1089 => (laws_FnJoined.j0 k t1067 t1068 bt1073.1 bt1073.2 (t1088 != t1089)))) else (laws_FnJoined.j0 k t1067 t1068 bt1073.1 bt1073.2 true))) else (laws_FnJoined.j0 k t1067 t1068 bt1073.1 bt1073.2 true))))) = some r := H
    have A4 := Aside0.mk A40
    clear A40
    replace H := Option.bind_eq_some_iff.mp H
    obtain ⟨⟨t1073, t1074⟩, A50, H⟩ := H
    replace H : ((spec_JoinShapes.f k t1067 t1068).bind fun bt1077 => ((spec_DrawHasCell.f k l0).bind fun bt1081 => (if t1074 = bt1077.2 then ((laws_likeCells.f k t1073 bt1077.1).bind fun t1087 => (if t1087 = true then ((impl_HasCell.f k bt1081.1 bt1081.2.1 bt1081.2.2).bind fun t1088 => ((spec_HasCell.f k bt1081.1 bt1081.2.1 bt1081.2.2).bind fun t1089 => (laws_FnJoined.j0 k t1067 t1068 t1073 t1074 (t1088 != t1089)))) else (laws_FnJoined.j0 k t1067 t1068 t1073 t1074 true))) else (laws_FnJoined.j0 k t1067 t1068 t1073 t1074 true)))) = some r := H
    have A5 := Aside0.mk A50
    clear A50
    replace H := Option.bind_eq_some_iff.mp H
    obtain ⟨⟨t1077, t1078⟩, A60, H⟩ := H
    replace H : ((spec_DrawHasCell.f k l0).bind fun bt1081 => (if t1074 = t1078 then ((laws_likeCells.f k t1073 t1077).bind fun t1087 => (if t1087 = true then ((impl_HasCell.f k bt1081.1 bt1081.2.1 bt1081.2.2).bind fun t1088 => ((spec_HasCell.f k bt1081.1 bt1081.2.1 bt1081.2.2).bind fun t1089 => (laws_FnJoined.j0 k t1067 t1068 t1073 t1074 (t1088 != t1089)))) else (laws_FnJoined.j0 k t1067 t1068 t1073 t1074 true))) else (laws_FnJoined.j0 k t1067 t1068 t1073 t1074 true))) = some r := H
    have A6 := Aside0.mk A60
    clear A60
    replace H := Option.bind_eq_some_iff.mp H
    obtain ⟨⟨t1081, t1084, t1085⟩, A70, H⟩ := H
    replace H : (if t1074 = t1078 then ((laws_likeCells.f k t1073 t1077).bind fun t1087 => (if t1087 = true then ((impl_HasCell.f k t1081 t1084 t1085).bind fun t1088 => ((spec_HasCell.f k t1081 t1084 t1085).bind fun t1089 => (laws_FnJoined.j0 k t1067 t1068 t1073 t1074 (t1088 != t1089)))) else (laws_FnJoined.j0 k t1067 t1068 t1073 t1074 true))) else (laws_FnJoined.j0 k t1067 t1068 t1073 t1074 true)) = some r := H
    have A7 := Aside0.mk A70
    clear A70
    have HC8 := Aside0.mk H
    clear H
    go_enter Try.func13, Try.ntmps13
    go_upto_region 7 with (first | ((with_reducible refine gate_callee (f := 30) rfl ?_); refine goesL_ (some 14) rfl rfl Try.func30 (by kernel_rfl) rfl #[.slice A0 l0.length c0] rfl (by (try simp only [List.map_toArray, List.map_cons, List.map_nil]); first | done | rfl | (simp only [List.length_drop, List.length_take]; rfl)) ?_; (with_reducible refine (laws_big.calls _ _ l0 false _ ?side1 ?side2 A2.out).mono ?_); (case side1 => repeat (first | exact HR0.out | (with_reducible refine Kd.C_alloc ?_ _) | (with_reducible refine Kd.C_drewN ?_ _) | (with_reducible refine Kd.C_drew ?_))); (case side2 => exact HC0.out); rintro e w' ⟨rfl, ⟨nd, rfl⟩⟩; refine ⟨_, rfl, ?_⟩) | ((with_reducible refine gate_callee (f := 51) rfl ?_); refine goesL_ (some 17) rfl rfl Try.func51 (by kernel_rfl) rfl #[.slice A0 l0.length c0] rfl (by (try simp only [List.map_toArray, List.map_cons, List.map_nil]); first | done | rfl | (simp only [List.length_drop, List.length_take]; rfl)) ?_; (with_reducible refine (spec_DrawJoinShapes.calls k _ _ l0 t1067 t1068 _ ?side1 ?side2 A4.out).mono ?_); (case side1 => repeat (first | exact HR0.out | (with_reducible refine Kd.C_alloc ?_ _) | (with_reducible refine Kd.C_drewN ?_ _) | (with_reducible refine Kd.C_drew ?_))); (case side2 => exact HC0.out); rintro e w9 ⟨v1069, v1071, rfl, ho0, ho1, hb⟩; refine ⟨_, rfl, ?_⟩; have n0_ := Aside0.mk (Kd.R_lower ho0 (below_size (by repeat (first | (with_reducible first | exact HB.out | apply below_alloc | apply pw_below_drewN | apply below_drew1) | exact HB.out)))); have n1_ := Aside0.mk (Kd.R_lower ho1 (below_size (by repeat (first | (with_reducible first | exact HB.out | apply below_alloc | apply pw_below_drewN | apply below_drew1) | exact HB.out)))); have n2_ := Aside0.mk (below_step (by repeat (first | (with_reducible first | exact HB.out | apply below_alloc | apply pw_below_drewN | apply below_drew1) | exact HB.out)) hb); clear HB; have HO1070 := n0_; have HO1072 := n1_; have HB := n2_; clear n0_ n1_ n2_; (try clear hb); (try clear hb2); (try clear hk); (try clear hi); (try clear ho0); (try clear ho1); obtain ⟨Ao10, co10, eo10⟩ := Kd.R_slice HO1070.out; subst eo10; obtain ⟨Ao11, co11, eo11⟩ := Kd.R_slice HO1072.out; subst eo11) | ((with_reducible refine gate_callee (f := 48) rfl ?_); refine goesL_ (some 23) rfl rfl Try.func48 (by kernel_rfl) rfl #[.slice Ao10 t1067.length co10, .slice Ao11 t1068.length co11] rfl (by (try simp only [List.map_toArray, List.map_cons, List.map_nil]); first | done | rfl | (simp only [List.length_drop, List.length_take]; rfl)) ?_; (with_reducible refine (impl_JoinShapes.calls k _ _ t1067 _ _ t1068 t1073 t1074 _ ?side1 ?side2 ?side3 ?side4 A5.out).mono ?_); (case side1 => repeat (first | exact (Kd.R_reads' HO1070.out).2.2 | (with_reducible refine Kd.C_alloc ?_ _) | (with_reducible refine Kd.C_drewN ?_ _) | (with_reducible refine Kd.C_drew ?_))); (case side2 => exact (Kd.R_reads' HO1070.out).2.1); (case side3 => repeat (first | exact (Kd.R_reads' HO1072.out).2.2 | (with_reducible refine Kd.C_alloc ?_ _) | (with_reducible refine Kd.C_drewN ?_ _) | (with_reducible refine Kd.C_drew ?_))); (case side4 => exact (Kd.R_reads' HO1072.out).2.1); rintro e w12 ⟨v1075, rfl, ho0, hb⟩; refine ⟨_, rfl, ?_⟩; have n0_ := Aside0.mk (Kd.R_elder' (by (with_reducible repeat (first | apply Kd.R_alloc | apply Kd.R_drewN | apply Kd.R_drew)); exact HO1070.out) (Kd.R_base ho0) hb); have n1_ := Aside0.mk (Kd.R_elder' (by (with_reducible repeat (first | apply Kd.R_alloc | apply Kd.R_drewN | apply Kd.R_drew)); exact HO1072.out) (Kd.R_base ho0) hb); have n2_ := Aside0.mk (Kd.R_lower (Kd.R_new' (Kd.R_new' ho0 (Kd.R_lt (by (with_reducible repeat (first | apply Kd.R_alloc | apply Kd.R_drewN | apply Kd.R_drew)); exact HO1070.out))) (Kd.R_lt (by (with_reducible repeat (first | apply Kd.R_alloc | apply Kd.R_drewN | apply Kd.R_drew)); exact HO1072.out))) (below_size (by repeat (first | (with_reducible first | exact HB.out | apply below_alloc | apply pw_below_drewN | apply below_drew1) | exact HB.out)))); have n3_ := Aside0.mk (below_step (by repeat (first | (with_reducible first | exact HB.out | apply below_alloc | apply pw_below_drewN | apply below_drew1) | exact HB.out)) hb); clear HO1070; clear HO1072; clear HB; have HO1070 := n0_; have HO1072 := n1_; have HO1076 := n2_; have HB := n3_; clear n0_ n1_ n2_ n3_; (try clear hb); (try clear hb2); (try clear hk); (try clear hi); (try clear ho0)) | ((with_reducible refine gate_callee (f := 47) rfl ?_); refine goesL_ (some 29) rfl rfl Try.func47 (by kernel_rfl) rfl #[.slice Ao10 t1067.length co10, .slice Ao11 t1068.length co11] rfl (by (try simp only [List.map_toArray, List.map_cons, List.map_nil]); first | done | rfl | (simp only [List.length_drop, List.length_take]; rfl)) ?_; (with_reducible refine (spec_JoinShapes.calls k _ _ t1067 _ _ t1068 t1077 t1078 _ ?side1 ?side2 ?side3 ?side4 A6.out).mono ?_); (case side1 => repeat (first | exact (Kd.R_reads' HO1070.out).2.2 | (with_reducible refine Kd.C_alloc ?_ _) | (with_reducible refine Kd.C_drewN ?_ _) | (with_reducible refine Kd.C_drew ?_))); (case side2 => exact (Kd.R_reads' HO1070.out).2.1); (case side3 => repeat (first | exact (Kd.R_reads' HO1072.out).2.2 | (with_reducible refine Kd.C_alloc ?_ _) | (with_reducible refine Kd.C_drewN ?_ _) | (with_reducible refine Kd.C_drew ?_))); (case side4 => exact (Kd.R_reads' HO1072.out).2.1); rintro e w13 ⟨v1079, rfl, ho0, hb⟩; refine ⟨_, rfl, ?_⟩; have n0_ := Aside0.mk (Kd.R_elder' (by (with_reducible repeat (first | apply Kd.R_alloc | apply Kd.R_drewN | apply Kd.R_drew)); exact HO1070.out) (Kd.R_base ho0) hb); have n1_ := Aside0.mk (Kd.R_elder' (by (with_reducible repeat (first | apply Kd.R_alloc | apply Kd.R_drewN | apply Kd.R_drew)); exact HO1072.out) (Kd.R_base ho0) hb); have n2_ := Aside0.mk (Kd.R_elder' (by (with_reducible repeat (first | apply Kd.R_alloc | apply Kd.R_drewN | apply Kd.R_drew)); exact HO1076.out) (Kd.R_base ho0) hb); have n3_ := Aside0.mk (Kd.R_lower (Kd.R_new' (Kd.R_new' (Kd.R_new' ho0 (Kd.R_lt (by (with_reducible repeat (first | apply Kd.R_alloc | apply Kd.R_drewN | apply Kd.R_drew)); exact HO1070.out))) (Kd.R_lt (by (with_reducible repeat (first | apply Kd.R_alloc | apply Kd.R_drewN | apply Kd.R_drew)); exact HO1072.out))) (Kd.R_lt (by (with_reducible repeat (first | apply Kd.R_alloc | apply Kd.R_drewN | apply Kd.R_drew)); exact HO1076.out))) (below_size (by repeat (first | (with_reducible first | exact HB.out | apply below_alloc | apply pw_below_drewN | apply below_drew1) | exact HB.out)))); have n4_ := Aside0.mk (below_step (by repeat (first | (with_reducible first | exact HB.out | apply below_alloc | apply pw_below_drewN | apply below_drew1) | exact HB.out)) hb); clear HO1070; clear HO1072; clear HO1076; clear HB; have HO1070 := n0_; have HO1072 := n1_; have HO1076 := n2_; have HO1080 := n3_; have HB := n4_; clear n0_ n1_ n2_ n3_ n4_; (try clear hb); (try clear hb2); (try clear hk); (try clear hi); (try clear ho0)) | ((with_reducible refine gate_callee (f := 52) rfl ?_); refine goesL_ (some 34) rfl rfl Try.func52 (by kernel_rfl) rfl #[.slice A0 l0.length c0] rfl (by (try simp only [List.map_toArray, List.map_cons, List.map_nil]); first | done | rfl | (simp only [List.length_drop, List.length_take]; rfl)) ?_; (with_reducible refine (spec_DrawHasCell.calls k _ _ l0 t1081 t1084 t1085 _ ?side1 ?side2 A7.out).mono ?_); (case side1 => repeat (first | exact (Kd.C_below HR0.out HB.out) | (with_reducible refine Kd.C_alloc ?_ _) | (with_reducible refine Kd.C_drewN ?_ _) | (with_reducible refine Kd.C_drew ?_))); (case side2 => exact HC0.out); rintro e w14 ⟨v1082, rfl, ho0, hb⟩; refine ⟨_, rfl, ?_⟩; have n0_ := Aside0.mk (Kd.R_elder' (by (with_reducible repeat (first | apply Kd.R_alloc | apply Kd.R_drewN | apply Kd.R_drew)); exact HO1070.out) (Kd.R_base ho0) hb); have n1_ := Aside0.mk (Kd.R_elder' (by (with_reducible repeat (first | apply Kd.R_alloc | apply Kd.R_drewN | apply Kd.R_drew)); exact HO1072.out) (Kd.R_base ho0) hb); have n2_ := Aside0.mk (Kd.R_elder' (by (with_reducible repeat (first | apply Kd.R_alloc | apply Kd.R_drewN | apply Kd.R_drew)); exact HO1076.out) (Kd.R_base ho0) hb); have n3_ := Aside0.mk (Kd.R_elder' (by (with_reducible repeat (first | apply Kd.R_alloc | apply Kd.R_drewN | apply Kd.R_drew)); exact HO1080.out) (Kd.R_base ho0) hb); have n4_ := Aside0.mk (Kd.R_lower (Kd.R_new' (Kd.R_new' (Kd.R_new' (Kd.R_new' ho0 (Kd.R_lt (by (with_reducible repeat (first | apply Kd.R_alloc | apply Kd.R_drewN | apply Kd.R_drew)); exact HO1070.out))) (Kd.R_lt (by (with_reducible repeat (first | apply Kd.R_alloc | apply Kd.R_drewN | apply Kd.R_drew)); exact HO1072.out))) (Kd.R_lt (by (with_reducible repeat (first | apply Kd.R_alloc | apply Kd.R_drewN | apply Kd.R_drew)); exact HO1076.out))) (Kd.R_lt (by (with_reducible repeat (first | apply Kd.R_alloc | apply Kd.R_drewN | apply Kd.R_drew)); exact HO1080.out))) (below_size (by repeat (first | (with_reducible first | exact HB.out | apply below_alloc | apply pw_below_drewN | apply below_drew1) | exact HB.out)))); have n5_ := Aside0.mk (below_step (by repeat (first | (with_reducible first | exact HB.out | apply below_alloc | apply pw_below_drewN | apply below_drew1) | exact HB.out)) hb); clear HO1070; clear HO1072; clear HO1076; clear HO1080; clear HB; have HO1070 := n0_; have HO1072 := n1_; have HO1076 := n2_; have HO1080 := n3_; have HO1083 := n4_; have HB := n5_; clear n0_ n1_ n2_ n3_ n4_ n5_; (try clear hb); (try clear hb2); (try clear hk); (try clear hi); (try clear ho0)) | ((with_reducible refine gate_dst (N := 10) rfl ?_); refine box_event ?hg (N := 10) ?hd (cs := #[.int .i64 0, .int .i64 0]) (t := 57) ?hr ?_; (case hd => rfl); (case hg => rfl); (case hr => first | (go_simp; done) | (go_simp; rfl)); intro gb1086 hg w15 hbox hb; have n0_ := Aside0.mk (Kd.R_below (Kd.R_elderB (by (with_reducible repeat (first | apply Kd.R_alloc | apply Kd.R_drewN | apply Kd.R_drew)); exact HO1070.out) gb1086 (Nat.le_of_eq hg.symm)) hb); have n1_ := Aside0.mk (Kd.R_below (Kd.R_elderB (by (with_reducible repeat (first | apply Kd.R_alloc | apply Kd.R_drewN | apply Kd.R_drew)); exact HO1072.out) gb1086 (Nat.le_of_eq hg.symm)) hb); have n2_ := Aside0.mk (Kd.R_below (Kd.R_elderB (by (with_reducible repeat (first | apply Kd.R_alloc | apply Kd.R_drewN | apply Kd.R_drew)); exact HO1076.out) gb1086 (Nat.le_of_eq hg.symm)) hb); have n3_ := Aside0.mk (Kd.R_below (Kd.R_elderB (by (with_reducible repeat (first | apply Kd.R_alloc | apply Kd.R_drewN | apply Kd.R_drew)); exact HO1080.out) gb1086 (Nat.le_of_eq hg.symm)) hb); have n4_ := Aside0.mk (Kd.R_below (Kd.R_elderB (by (with_reducible repeat (first | apply Kd.R_alloc | apply Kd.R_drewN | apply Kd.R_drew)); exact HO1083.out) gb1086 (Nat.le_of_eq hg.symm)) hb); have n5_ := Aside0.mk (below_step (by repeat (first | (with_reducible first | exact HB.out | apply below_alloc | apply pw_below_drewN | apply below_drew1) | exact HB.out)) hb); have n6_ := Aside0.mk (hbox); have n7_ := Aside0.mk ((by rw [hg]; exact (below_size (by repeat (first | (with_reducible first | exact HB.out | apply below_alloc | apply pw_below_drewN | apply below_drew1) | exact HB.out))) : w.heap.size ≤ gb1086)); have n8_ := Aside0.mk ((by rw [hg]; exact (below_size (by repeat (first | (with_reducible first | exact HB.out | apply below_alloc | apply pw_below_drewN | apply below_drew1) | exact HB.out))) : w.heap.size ≤ gb1086)); clear HO1070; clear HO1072; clear HO1076; clear HO1080; clear HO1083; clear HB; have HO1070 := n0_; have HO1072 := n1_; have HO1076 := n2_; have HO1080 := n3_; have HO1083 := n4_; have HB := n5_; have BK1086 := n6_; have GW1086 := n7_; have GE1086 := n8_; clear n0_ n1_ n2_ n3_ n4_ n5_ n6_ n7_ n8_; clear hb hbox hg; have hcz16_0 : w15.cell? ⟨gb1086, 0, none⟩ = some (.int .i64 0) := (blk_cell BK1086.out 0).trans rfl; have hcz16_1 : w15.cell? ⟨gb1086, 1, none⟩ = some (.int .i64 0) := (blk_cell BK1086.out 1).trans rfl; have hfz16_0 := blk_frozen BK1086.out 0; have hfz16_1 := blk_frozen BK1086.out 1))
    (try simp only [Act.put, List.setIfInBounds_toArray, List.set_cons_zero, List.set_cons_succ])
    go_cut [54] (fun v54 wc => ∃ (kq : Nat) (x54_7 : Bool), v54 = .bool x54_7 ∧ Aside0 (laws_FnJoined.j0 kq t1067 t1068 t1073 t1074 x54_7 = some r) ∧ Aside0 (kq ≤ k) ∧ Aside0 (Kd.R k57 57 wc w.heap.size (fun k_ => some k_ ≠ ((.slice Ao11 t1068.length co11) : Value).ownBlock ∧ some k_ ≠ (v1075 : Value).ownBlock ∧ k_ ≠ gb1086) (.slice Ao10 t1067.length co10) t1067) ∧ Aside0 (Kd.R k57 57 wc w.heap.size (fun k_ => some k_ ≠ ((.slice Ao10 t1067.length co10) : Value).ownBlock ∧ some k_ ≠ (v1075 : Value).ownBlock ∧ k_ ≠ gb1086) (.slice Ao11 t1068.length co11) t1068) ∧ Aside0 (Kd.R k57 57 wc w.heap.size (fun k_ => some k_ ≠ ((.slice Ao10 t1067.length co10) : Value).ownBlock ∧ some k_ ≠ ((.slice Ao11 t1068.length co11) : Value).ownBlock ∧ k_ ≠ gb1086) v1075 t1073) ∧ Aside0 (wc.heap[gb1086]? = some (.cells #[.int .i64 t1084, .int .i64 t1085] 57 (0, 0))) ∧ Aside0 (Below w.heap.size w wc))
    case first =>
      have H := HC8.out
      clear HC8
      by_cases c17 : t1074 = t1078
      · rw [if_pos c17] at H
        have c17b0 : (t1074 == t1078) = true := beq_iff_eq.mpr c17
        have c17b1 : (t1074 != t1078) = false := bne_eq_false_iff_eq.mpr c17
        clear c17
        (first | rw [c17b0] | (simp only [i64_w, i32_w]; rw [c17b0]) | skip)
        replace H := Option.bind_eq_some_iff.mp H
        obtain ⟨t1087, A180, H⟩ := H
        replace H : (if t1087 = true then ((impl_HasCell.f k t1081 t1084 t1085).bind fun t1088 => ((spec_HasCell.f k t1081 t1084 t1085).bind fun t1089 => (laws_FnJoined.j0 k t1067 t1068 t1073 t1074 (t1088 != t1089)))) else (laws_FnJoined.j0 k t1067 t1068 t1073 t1074 true)) = some r := H
        have A18 := Aside0.mk A180
        clear A180
        by_cases c19 : t1087 = true
        · subst c19
          have H1 : ((impl_HasCell.f k t1081 t1084 t1085).bind fun t1088 => ((spec_HasCell.f k t1081 t1084 t1085).bind fun t1089 => (laws_FnJoined.j0 k t1067 t1068 t1073 t1074 (t1088 != t1089)))) = some r := by rw [if_pos rfl] at H; exact H
          clear H
          have H := H1
          clear H1
          replace H := Option.bind_eq_some_iff.mp H
          obtain ⟨t1088, A200, H⟩ := H
          replace H : ((spec_HasCell.f k t1081 t1084 t1085).bind fun t1089 => (laws_FnJoined.j0 k t1067 t1068 t1073 t1074 (t1088 != t1089))) = some r := H
          have A20 := Aside0.mk A200
          clear A200
          replace H := Option.bind_eq_some_iff.mp H
          obtain ⟨t1089, A210, H⟩ := H
          replace H : (laws_FnJoined.j0 k t1067 t1068 t1073 t1074 (t1088 != t1089)) = some r := H
          have A21 := Aside0.mk A210
          clear A210
          have H' := Aside0.mk H
          clear H
          try go_wp2
          have n0_ : Aside0 (Kd.R k57 57 ((w15.setCell ⟨gb1086, 0, none⟩ (.int .i64 t1084)).setCell ⟨gb1086, 1, none⟩ (.int .i64 t1085)) w.heap.size (fun k_ => some k_ ≠ (.slice Ao11 t1068.length co11 : Value).ownBlock ∧ some k_ ≠ (v1075 : Value).ownBlock ∧ some k_ ≠ (v1079 : Value).ownBlock ∧ some k_ ≠ (v1082 : Value).ownBlock ∧ k_ ≠ gb1086) (.slice Ao10 t1067.length co10) t1067) := ⟨by (with_reducible repeat (first | apply Kd.R_alloc | apply Kd.R_drewN | apply Kd.R_drew)); exact Kd.R_mono (Kd.R_far (p := ⟨gb1086, 1, none⟩) (Kd.R_far (p := ⟨gb1086, 0, none⟩) (Kd.R_mono HO1070.out (fun k_ hk => (⟨hk, hk.2⟩ : _ ∧ k_ ≠ gb1086))) (fun _ hk => hk.2) (.int .i64 t1084)) (fun _ hk => hk.2) (.int .i64 t1085)) (fun _ hk => ⟨hk.1.1.1.1.1, ⟨hk.1.1.1.1.2, ⟨hk.1.1.1.2, ⟨hk.1.1.2, hk.1.2⟩⟩⟩⟩)⟩
          have n1_ : Aside0 (Kd.R k57 57 ((w15.setCell ⟨gb1086, 0, none⟩ (.int .i64 t1084)).setCell ⟨gb1086, 1, none⟩ (.int .i64 t1085)) w.heap.size (fun k_ => some k_ ≠ (.slice Ao10 t1067.length co10 : Value).ownBlock ∧ some k_ ≠ (v1075 : Value).ownBlock ∧ some k_ ≠ (v1079 : Value).ownBlock ∧ some k_ ≠ (v1082 : Value).ownBlock ∧ k_ ≠ gb1086) (.slice Ao11 t1068.length co11) t1068) := ⟨by (with_reducible repeat (first | apply Kd.R_alloc | apply Kd.R_drewN | apply Kd.R_drew)); exact Kd.R_mono (Kd.R_far (p := ⟨gb1086, 1, none⟩) (Kd.R_far (p := ⟨gb1086, 0, none⟩) (Kd.R_mono HO1072.out (fun k_ hk => (⟨hk, hk.2⟩ : _ ∧ k_ ≠ gb1086))) (fun _ hk => hk.2) (.int .i64 t1084)) (fun _ hk => hk.2) (.int .i64 t1085)) (fun _ hk => ⟨hk.1.1.1.1.1, ⟨hk.1.1.1.1.2, ⟨hk.1.1.1.2, ⟨hk.1.1.2, hk.1.2⟩⟩⟩⟩)⟩
          have n2_ : Aside0 (Kd.R k57 57 ((w15.setCell ⟨gb1086, 0, none⟩ (.int .i64 t1084)).setCell ⟨gb1086, 1, none⟩ (.int .i64 t1085)) w.heap.size (fun k_ => some k_ ≠ (.slice Ao10 t1067.length co10 : Value).ownBlock ∧ some k_ ≠ (.slice Ao11 t1068.length co11 : Value).ownBlock ∧ some k_ ≠ (v1079 : Value).ownBlock ∧ some k_ ≠ (v1082 : Value).ownBlock ∧ k_ ≠ gb1086) v1075 t1073) := ⟨by (with_reducible repeat (first | apply Kd.R_alloc | apply Kd.R_drewN | apply Kd.R_drew)); exact Kd.R_mono (Kd.R_far (p := ⟨gb1086, 1, none⟩) (Kd.R_far (p := ⟨gb1086, 0, none⟩) (Kd.R_mono HO1076.out (fun k_ hk => (⟨hk, hk.2⟩ : _ ∧ k_ ≠ gb1086))) (fun _ hk => hk.2) (.int .i64 t1084)) (fun _ hk => hk.2) (.int .i64 t1085)) (fun _ hk => ⟨hk.1.1.1.1.1.2, ⟨hk.1.1.1.1.2, ⟨hk.1.1.1.2, ⟨hk.1.1.2, hk.1.2⟩⟩⟩⟩)⟩
          have n3_ : Aside0 (Kd.R k57 57 ((w15.setCell ⟨gb1086, 0, none⟩ (.int .i64 t1084)).setCell ⟨gb1086, 1, none⟩ (.int .i64 t1085)) w.heap.size (fun k_ => some k_ ≠ (.slice Ao10 t1067.length co10 : Value).ownBlock ∧ some k_ ≠ (.slice Ao11 t1068.length co11 : Value).ownBlock ∧ some k_ ≠ (v1075 : Value).ownBlock ∧ some k_ ≠ (v1082 : Value).ownBlock ∧ k_ ≠ gb1086) v1079 t1077) := ⟨by (with_reducible repeat (first | apply Kd.R_alloc | apply Kd.R_drewN | apply Kd.R_drew)); exact Kd.R_mono (Kd.R_far (p := ⟨gb1086, 1, none⟩) (Kd.R_far (p := ⟨gb1086, 0, none⟩) (Kd.R_mono HO1080.out (fun k_ hk => (⟨hk, hk.2⟩ : _ ∧ k_ ≠ gb1086))) (fun _ hk => hk.2) (.int .i64 t1084)) (fun _ hk => hk.2) (.int .i64 t1085)) (fun _ hk => ⟨hk.1.1.1.1.1.2, ⟨hk.1.1.1.1.2, ⟨hk.1.1.1.2, ⟨hk.1.1.2, hk.1.2⟩⟩⟩⟩)⟩
          have n4_ : Aside0 (Kd.R k57 57 ((w15.setCell ⟨gb1086, 0, none⟩ (.int .i64 t1084)).setCell ⟨gb1086, 1, none⟩ (.int .i64 t1085)) w.heap.size (fun k_ => some k_ ≠ (.slice Ao10 t1067.length co10 : Value).ownBlock ∧ some k_ ≠ (.slice Ao11 t1068.length co11 : Value).ownBlock ∧ some k_ ≠ (v1075 : Value).ownBlock ∧ some k_ ≠ (v1079 : Value).ownBlock ∧ k_ ≠ gb1086) v1082 t1081) := ⟨by (with_reducible repeat (first | apply Kd.R_alloc | apply Kd.R_drewN | apply Kd.R_drew)); exact Kd.R_mono (Kd.R_far (p := ⟨gb1086, 1, none⟩) (Kd.R_far (p := ⟨gb1086, 0, none⟩) (Kd.R_mono HO1083.out (fun k_ hk => (⟨hk, hk.2⟩ : _ ∧ k_ ≠ gb1086))) (fun _ hk => hk.2) (.int .i64 t1084)) (fun _ hk => hk.2) (.int .i64 t1085)) (fun _ hk => ⟨hk.1.1.1.1.1.2, ⟨hk.1.1.1.1.2, ⟨hk.1.1.1.2, ⟨hk.1.1.2, hk.1.2⟩⟩⟩⟩)⟩
          have n5_ : Aside0 (((w15.setCell ⟨gb1086, 0, none⟩ (.int .i64 t1084)).setCell ⟨gb1086, 1, none⟩ (.int .i64 t1085)).heap[gb1086]? = some (.cells #[.int .i64 t1084, .int .i64 t1085] 57 (0, 0))) := ⟨by (with_reducible repeat (first | refine blk_drewN ?_ _ | refine blk_drew ?_ | refine blk_alloc ?_ _)); refine blk_put (cs := #[.int .i64 t1084, .int .i64 0]) ?_ 1 _ rfl; (with_reducible repeat (first | refine blk_drewN ?_ _ | refine blk_drew ?_ | refine blk_alloc ?_ _)); refine blk_put (cs := #[.int .i64 0, .int .i64 0]) ?_ 0 _ rfl; (with_reducible repeat (first | refine blk_drewN ?_ _ | refine blk_drew ?_ | refine blk_alloc ?_ _)); exact BK1086.out⟩
          have n6_ : Aside0 (Below w.heap.size w ((w15.setCell ⟨gb1086, 0, none⟩ (.int .i64 t1084)).setCell ⟨gb1086, 1, none⟩ (.int .i64 t1085))) := ⟨by repeat (first | (with_reducible first | exact HB.out | apply below_alloc | apply pw_below_drewN | apply below_drew1 | refine below_set ?_ GE1086.out) | exact HB.out)⟩
          (try clear HO1070)
          (try clear HO1072)
          (try clear HO1076)
          (try clear HO1080)
          (try clear HO1083)
          (try clear BK1086)
          (try clear HB)
          generalize ((w15.setCell ⟨gb1086, 0, none⟩ (.int .i64 t1084)).setCell ⟨gb1086, 1, none⟩ (.int .i64 t1085)) = w22 at n0_ n1_ n2_ n3_ n4_ n5_ n6_ ⊢
          have HO1070 := n0_
          have HO1072 := n1_
          have HO1076 := n2_
          have HO1080 := n3_
          have HO1083 := n4_
          have BK1086 := n5_
          have HB := n6_
          clear n0_ n1_ n2_ n3_ n4_ n5_ n6_
          have n0_ := Aside0.mk (Kd.R_drew HO1070.out)
          have n1_ := Aside0.mk (Kd.R_drew HO1072.out)
          have n2_ := Aside0.mk (Kd.R_drew HO1076.out)
          have n3_ := Aside0.mk (Kd.R_drew HO1080.out)
          have n4_ := Aside0.mk (Kd.R_drew HO1083.out)
          have n5_ := Aside0.mk (blk_drew BK1086.out)
          have n6_ := Aside0.mk (below_drew1 HB.out)
          clear HO1070
          clear HO1072
          clear HO1076
          clear HO1080
          clear HO1083
          clear BK1086
          clear HB
          have HO1070 := n0_
          have HO1072 := n1_
          have HO1076 := n2_
          have HO1080 := n3_
          have HO1083 := n4_
          have BK1086 := n5_
          have HB := n6_
          clear n0_ n1_ n2_ n3_ n4_ n5_ n6_
          obtain ⟨Ao24, co24, eo24⟩ := Kd.R_slice HO1076.out
          (first | subst eo24 | (injection eo24 with f1_ f2_ f3_; have f4_ := f1_.symm; have f5_ := f3_.symm; clear f1_ f2_ f3_; subst f4_; subst f5_))
          obtain ⟨Ao25, co25, eo25⟩ := Kd.R_slice HO1080.out
          (first | subst eo25 | (injection eo25 with f1_ f2_ f3_; have f4_ := f1_.symm; have f5_ := f3_.symm; clear f1_ f2_ f3_; subst f4_; subst f5_))
          refine start_ (n := 18) (S := fun w' => w'.cell? ⟨gb1086, 0, none⟩ = some (.int .i64 t1084) ∧ w'.cell? ⟨gb1086, 1, none⟩ = some (.int .i64 t1085)) (ds := []) #[false, false, false, false, false, false, false, false, false, false, false, false, false, false, false, false, false, false] (by kernel_rfl) rfl rfl ⟨(blk_cell BK1086.out 0).trans rfl, (blk_cell BK1086.out 1).trans rfl⟩ (fun hHeld => ?_); refine with_tabW laws_FnJoined.tab7 laws_FnJoined.bits7 (fun HT_ HW_ => ?_)
          generalize w22.drew = w23 at HO1070 HO1072 HO1076 HO1080 HO1083 BK1086 HB hHeld ⊢
          refine pure_ (i := 0) (N := some 37) (v := ?_) (a' := ?_) #[true, false, false, false, false, false, false, false, false, false, false, false, false, false, false, false, false, false] rfl rfl (any_of HT_.out (by kernel_rfl)) (fun _ _ _ h => h) (Or.inl ⟨by rfl, ?_⟩) ?_ ?_
          rotate_left
          · intro w'
            go_simp
            with_reducible rfl
          rotate_left
          · simp only [Act.put, List.setIfInBounds_toArray, List.set_cons_zero, List.set_cons_succ, i64_w, i32_w]
            rfl
          refine pure_ (i := 1) (N := some 38) (v := ?_) (a' := ?_) #[true, true, false, false, false, false, false, false, false, false, false, false, false, false, false, false, false, false] rfl rfl (any_of HT_.out (by kernel_rfl)) (fun _ _ _ h => h) (Or.inl ⟨by rfl, ?_⟩) ?_ ?_
          rotate_left
          · intro w'
            go_simp
            with_reducible rfl
          rotate_left
          · simp only [Act.put, List.setIfInBounds_toArray, List.set_cons_zero, List.set_cons_succ, i64_w, i32_w]
            rfl
          refine pure_ (i := 2) (N := some 39) (v := ?_) (a' := ?_) #[true, true, true, false, false, false, false, false, false, false, false, false, false, false, false, false, false, false] rfl rfl (any_of HT_.out (by kernel_rfl)) (fun _ _ _ h => h) (Or.inl ⟨by rfl, ?_⟩) ?_ ?_
          rotate_left
          · intro w'
            go_simp
            with_reducible rfl
          rotate_left
          · simp only [Act.put, List.setIfInBounds_toArray, List.set_cons_zero, List.set_cons_succ, i64_w, i32_w]
            rfl
          refine pure_ (i := 3) (N := some 40) (v := ?_) (a' := ?_) #[true, true, true, true, false, false, false, false, false, false, false, false, false, false, false, false, false, false] rfl rfl (any_of HT_.out (by kernel_rfl)) (fun _ _ _ h => h) (Or.inl ⟨by rfl, ?_⟩) ?_ ?_
          rotate_left
          · intro w'
            go_simp
            with_reducible rfl
          rotate_left
          · simp only [Act.put, List.setIfInBounds_toArray, List.set_cons_zero, List.set_cons_succ, i64_w, i32_w]
            rfl
          refine pure_ (i := 4) (N := some 41) (v := ?_) (a' := ?_) #[true, true, true, true, true, false, false, false, false, false, false, false, false, false, false, false, false, false] rfl rfl (any_of HT_.out (by kernel_rfl)) (fun _ _ _ h => h) (Or.inl ⟨by rfl, ?_⟩) ?_ ?_
          rotate_left
          · intro w'
            go_simp
            with_reducible rfl
          rotate_left
          · simp only [Act.put, List.setIfInBounds_toArray, List.set_cons_zero, List.set_cons_succ, i64_w, i32_w]
            rfl
          refine pure_ (i := 5) (N := some 42) (v := ?_) (a' := ?_) #[true, true, true, true, true, true, false, false, false, false, false, false, false, false, false, false, false, false] rfl rfl (any_of HT_.out (by kernel_rfl)) (fun _ _ _ h => h) (Or.inl ⟨by rfl, ?_⟩) ?_ ?_
          rotate_left
          · intro w'
            go_simp
            with_reducible rfl
          rotate_left
          · simp only [Act.put, List.setIfInBounds_toArray, List.set_cons_zero, List.set_cons_succ, i64_w, i32_w]
            rfl
          refine one_ (i := 6) (N := some 43) #[true, true, true, true, true, true, true, false, false, false, false, false, false, false, false, false, false, false] rfl rfl (one_of HT_.out (by kernel_rfl)) (by decide) (fun K hK => ?_)
          refine goes_ Try.func53 (by kernel_rfl) rfl #[.slice Ao24 t1073.length co24, .slice Ao25 t1077.length co25] (by rfl) rfl rfl (by (try simp only [List.map_toArray, List.map_cons, List.map_nil]); first | done | rfl | (simp only [List.length_drop, List.length_take]; rfl)) ?_
          with_reducible refine (laws_likeCells.calls k _ _ t1073 _ _ t1077 true _ ?side1 ?side2 ?side3 ?side4 A18.out).mono ?_
          (case side1 => repeat (first | exact (Kd.R_reads' HO1076.out).2.2 | (with_reducible refine Kd.C_alloc ?_ _) | (with_reducible refine Kd.C_drewN ?_ _) | (with_reducible refine Kd.C_drew ?_)))
          (case side2 => exact (Kd.R_reads' HO1076.out).2.1)
          (case side3 => repeat (first | exact (Kd.R_reads' HO1080.out).2.2 | (with_reducible refine Kd.C_alloc ?_ _) | (with_reducible refine Kd.C_drewN ?_ _) | (with_reducible refine Kd.C_drew ?_)))
          (case side4 => exact (Kd.R_reads' HO1080.out).2.1)
          rintro e w' ⟨rfl, ⟨nd, rfl⟩⟩
          refine ⟨_, rfl, ?_⟩
          obtain ⟨Ao26, co26, eo26⟩ := Kd.R_slice HO1083.out
          (first | subst eo26 | (injection eo26 with f1_ f2_ f3_; have f4_ := f1_.symm; have f5_ := f3_.symm; clear f1_ f2_ f3_; subst f4_; subst f5_))
          refine hK.out _ _ ⟨(blk_cell BK1086.out 0).trans rfl, (blk_cell BK1086.out 1).trans rfl⟩ (fun hHeld => ?_)
          clear hK K
          refine norm_ (a' := ?_) ?_ ?_
          rotate_left
          · show Act.put _ (some 43) _ = _
            simp only [Act.put, List.setIfInBounds_toArray, List.set_cons_zero, List.set_cons_succ, i64_w, i32_w]
            rfl
          refine pure_ (i := 7) (N := some 44) (v := ?_) (a' := ?_) #[true, true, true, true, true, true, true, true, false, false, false, false, false, false, false, false, false, false] rfl rfl (any_of HT_.out (by kernel_rfl)) (fun _ _ _ h => h) (Or.inl ⟨by rfl, ?_⟩) ?_ ?_
          rotate_left
          · intro w'
            go_simp
            with_reducible rfl
          rotate_left
          · simp only [Act.put, List.setIfInBounds_toArray, List.set_cons_zero, List.set_cons_succ, i64_w, i32_w]
            rfl
          refine pure_ (i := 8) (N := some 45) (v := ?_) (a' := ?_) #[true, true, true, true, true, true, true, true, true, false, false, false, false, false, false, false, false, false] rfl rfl (any_of HT_.out (by kernel_rfl)) (fun _ _ _ h => h) (Or.inl ⟨by rfl, ?_⟩) ?_ ?_
          rotate_left
          · intro w'
            go_simp
            with_reducible rfl
          rotate_left
          · simp only [Act.put, List.setIfInBounds_toArray, List.set_cons_zero, List.set_cons_succ, i64_w, i32_w]
            rfl
          refine pure_ (i := 9) (N := some 46) (v := ?_) (a' := ?_) #[true, true, true, true, true, true, true, true, true, true, false, false, false, false, false, false, false, false] rfl rfl (any_of HT_.out (by kernel_rfl)) (fun _ _ _ h => h) (Or.inl ⟨by rfl, ?_⟩) ?_ ?_
          rotate_left
          · intro w'
            go_simp
            with_reducible rfl
          rotate_left
          · simp only [Act.put, List.setIfInBounds_toArray, List.set_cons_zero, List.set_cons_succ, i64_w, i32_w]
            rfl
          refine pure_ (i := 10) (N := some 47) (v := ?_) (a' := ?_) #[true, true, true, true, true, true, true, true, true, true, true, false, false, false, false, false, false, false] rfl rfl (any_of HT_.out (by kernel_rfl)) (fun _ _ _ h => h) (Or.inl ⟨by rfl, ?_⟩) ?_ ?_
          rotate_left
          · intro w'
            go_simp
            with_reducible rfl
          rotate_left
          · simp only [Act.put, List.setIfInBounds_toArray, List.set_cons_zero, List.set_cons_succ, i64_w, i32_w]
            rfl
          refine pure_ (i := 13) (N := some 50) (v := ?_) (a' := ?_) #[true, true, true, true, true, true, true, true, true, true, true, false, false, true, false, false, false, false] rfl rfl (any_of HT_.out (by kernel_rfl)) (fun _ _ _ h => h) (Or.inl ⟨by rfl, ?_⟩) ?_ ?_
          rotate_left
          · intro w'
            go_simp
            with_reducible rfl
          rotate_left
          · simp only [Act.put, List.setIfInBounds_toArray, List.set_cons_zero, List.set_cons_succ, i64_w, i32_w]
            rfl
          refine take_ (i := 11) (N := some 48) (v := ?_) (a' := ?_) #[true, true, true, true, true, true, true, true, true, true, true, true, false, true, false, false, false, false] rfl rfl (take_ofW HT_.out HW_.out (by kernel_rfl)) (fun _ _ _ h => h) (Or.inl ⟨by rfl, ?_⟩) hHeld ?_ ?_
          rotate_left
          · rintro w' ⟨s0, s1⟩
            go_simp
            with_reducible rfl
          rotate_left
          · simp only [Act.put, List.setIfInBounds_toArray, List.set_cons_zero, List.set_cons_succ, i64_w, i32_w]
            rfl
          refine take_ (i := 14) (N := some 51) (v := ?_) (a' := ?_) #[true, true, true, true, true, true, true, true, true, true, true, true, false, true, true, false, false, false] rfl rfl (take_ofW HT_.out HW_.out (by kernel_rfl)) (fun _ _ _ h => h) (Or.inl ⟨by rfl, ?_⟩) hHeld ?_ ?_
          rotate_left
          · rintro w' ⟨s0, s1⟩
            go_simp
            with_reducible rfl
          rotate_left
          · simp only [Act.put, List.setIfInBounds_toArray, List.set_cons_zero, List.set_cons_succ, i64_w, i32_w]
            rfl
          refine one_ (i := 12) (N := some 49) #[true, true, true, true, true, true, true, true, true, true, true, true, true, true, true, false, false, false] rfl rfl (one_of HT_.out (by kernel_rfl)) (by decide) (fun K hK => ?_)
          refine goes_ Try.func54 (by kernel_rfl) rfl #[.slice Ao26 t1081.length co26, .agg #[.int .i64 t1084, .int .i64 t1085]] (by rfl) rfl rfl (by (try simp only [List.map_toArray, List.map_cons, List.map_nil]); first | done | rfl | (simp only [List.length_drop, List.length_take]; rfl)) ?_
          with_reducible refine (impl_HasCell.calls k _ _ t1081 t1084 t1085 t1088 _ ?side1 ?side2 A20.out).mono ?_
          (case side1 => repeat (first | exact (Kd.R_reads' HO1083.out).2.2 | (with_reducible refine Kd.C_alloc ?_ _) | (with_reducible refine Kd.C_drewN ?_ _) | (with_reducible refine Kd.C_drew ?_)))
          (case side2 => exact (Kd.R_reads' HO1083.out).2.1)
          rintro e w27 ⟨rfl, hb⟩
          refine ⟨_, rfl, ?_⟩
          have n0_ := Aside0.mk (Kd.R_below (by (with_reducible repeat (first | apply Kd.R_alloc | apply Kd.R_drewN | apply Kd.R_drew)); exact HO1070.out) hb)
          have n1_ := Aside0.mk (Kd.R_below (by (with_reducible repeat (first | apply Kd.R_alloc | apply Kd.R_drewN | apply Kd.R_drew)); exact HO1072.out) hb)
          have n2_ := Aside0.mk (Kd.R_below (by (with_reducible repeat (first | apply Kd.R_alloc | apply Kd.R_drewN | apply Kd.R_drew)); exact HO1076.out) hb)
          have n3_ := Aside0.mk (Kd.R_below (by (with_reducible repeat (first | apply Kd.R_alloc | apply Kd.R_drewN | apply Kd.R_drew)); exact HO1080.out) hb)
          have n4_ := Aside0.mk (Kd.R_below (by (with_reducible repeat (first | apply Kd.R_alloc | apply Kd.R_drewN | apply Kd.R_drew)); exact HO1083.out) hb)
          have n5_ := Aside0.mk (blk_below (g := gb1086) (o := .cells #[.int .i64 t1084, .int .i64 t1085] 57 (0, 0)) (by (with_reducible repeat (first | refine blk_drewN ?_ _ | refine blk_drew ?_ | refine blk_alloc ?_ _)); exact BK1086.out) hb)
          have n6_ := Aside0.mk (below_step (by repeat (first | (with_reducible first | exact HB.out | apply below_alloc | apply pw_below_drewN | apply below_drew1 | refine below_set ?_ GE1086.out) | exact HB.out)) hb)
          clear HO1070
          clear HO1072
          clear HO1076
          clear HO1080
          clear HO1083
          clear BK1086
          clear HB
          have HO1070 := n0_
          have HO1072 := n1_
          have HO1076 := n2_
          have HO1080 := n3_
          have HO1083 := n4_
          have BK1086 := n5_
          have HB := n6_
          clear n0_ n1_ n2_ n3_ n4_ n5_ n6_
          (try clear hb)
          (try clear hb2)
          (try clear hk)
          (try clear hi)
          refine hK.out _ _ ⟨(blk_cell BK1086.out 0).trans rfl, (blk_cell BK1086.out 1).trans rfl⟩ (fun hHeld => ?_)
          clear hK K
          refine norm_ (a' := ?_) ?_ ?_
          rotate_left
          · show Act.put _ (some 49) _ = _
            simp only [Act.put, List.setIfInBounds_toArray, List.set_cons_zero, List.set_cons_succ, i64_w, i32_w]
            rfl
          refine one_ (i := 15) (N := some 52) #[true, true, true, true, true, true, true, true, true, true, true, true, true, true, true, true, false, false] rfl rfl (one_of HT_.out (by kernel_rfl)) (by decide) (fun K hK => ?_)
          refine goes_ Try.func55 (by kernel_rfl) rfl #[.slice Ao26 t1081.length co26, .agg #[.int .i64 t1084, .int .i64 t1085]] (by rfl) rfl rfl (by (try simp only [List.map_toArray, List.map_cons, List.map_nil]); first | done | rfl | (simp only [List.length_drop, List.length_take]; rfl)) ?_
          with_reducible refine (spec_HasCell.calls k _ _ t1081 t1084 t1085 t1089 _ ?side1 ?side2 A21.out).mono ?_
          (case side1 => repeat (first | exact (Kd.R_reads' HO1083.out).2.2 | (with_reducible refine Kd.C_alloc ?_ _) | (with_reducible refine Kd.C_drewN ?_ _) | (with_reducible refine Kd.C_drew ?_)))
          (case side2 => exact (Kd.R_reads' HO1083.out).2.1)
          rintro e w28 ⟨rfl, hb⟩
          refine ⟨_, rfl, ?_⟩
          have n0_ := Aside0.mk (Kd.R_below (by (with_reducible repeat (first | apply Kd.R_alloc | apply Kd.R_drewN | apply Kd.R_drew)); exact HO1070.out) hb)
          have n1_ := Aside0.mk (Kd.R_below (by (with_reducible repeat (first | apply Kd.R_alloc | apply Kd.R_drewN | apply Kd.R_drew)); exact HO1072.out) hb)
          have n2_ := Aside0.mk (Kd.R_below (by (with_reducible repeat (first | apply Kd.R_alloc | apply Kd.R_drewN | apply Kd.R_drew)); exact HO1076.out) hb)
          have n3_ := Aside0.mk (Kd.R_below (by (with_reducible repeat (first | apply Kd.R_alloc | apply Kd.R_drewN | apply Kd.R_drew)); exact HO1080.out) hb)
          have n4_ := Aside0.mk (Kd.R_below (by (with_reducible repeat (first | apply Kd.R_alloc | apply Kd.R_drewN | apply Kd.R_drew)); exact HO1083.out) hb)
          have n5_ := Aside0.mk (blk_below (g := gb1086) (o := .cells #[.int .i64 t1084, .int .i64 t1085] 57 (0, 0)) (by (with_reducible repeat (first | refine blk_drewN ?_ _ | refine blk_drew ?_ | refine blk_alloc ?_ _)); exact BK1086.out) hb)
          have n6_ := Aside0.mk (below_step (by repeat (first | (with_reducible first | exact HB.out | apply below_alloc | apply pw_below_drewN | apply below_drew1 | refine below_set ?_ GE1086.out) | exact HB.out)) hb)
          clear HO1070
          clear HO1072
          clear HO1076
          clear HO1080
          clear HO1083
          clear BK1086
          clear HB
          have HO1070 := n0_
          have HO1072 := n1_
          have HO1076 := n2_
          have HO1080 := n3_
          have HO1083 := n4_
          have BK1086 := n5_
          have HB := n6_
          clear n0_ n1_ n2_ n3_ n4_ n5_ n6_
          (try clear hb)
          (try clear hb2)
          (try clear hk)
          (try clear hi)
          refine hK.out _ _ ⟨(blk_cell BK1086.out 0).trans rfl, (blk_cell BK1086.out 1).trans rfl⟩ (fun hHeld => ?_)
          clear hK K
          refine norm_ (a' := ?_) ?_ ?_
          rotate_left
          · show Act.put _ (some 52) _ = _
            simp only [Act.put, List.setIfInBounds_toArray, List.set_cons_zero, List.set_cons_succ, i64_w, i32_w]
            rfl
          refine pure_ (i := 16) (N := some 53) (v := ?_) (a' := ?_) #[true, true, true, true, true, true, true, true, true, true, true, true, true, true, true, true, true, false] rfl rfl (any_of HT_.out (by kernel_rfl)) (fun _ _ _ h => h) (Or.inl ⟨by rfl, ?_⟩) ?_ ?_
          rotate_left
          · intro w'
            go_simp
            with_reducible rfl
          rotate_left
          · simp only [Act.put, List.setIfInBounds_toArray, List.set_cons_zero, List.set_cons_succ, i64_w, i32_w]
            rfl
          refine pure_ (i := 17) (N := some 54) (v := ?_) (a' := ?_) #[true, true, true, true, true, true, true, true, true, true, true, true, true, true, true, true, true, true] rfl rfl (any_of HT_.out (by kernel_rfl)) (fun _ _ _ h => h) (Or.inl ⟨by rfl, ?_⟩) ?_ ?_
          rotate_left
          · intro w'
            go_simp
            with_reducible rfl
          rotate_left
          · simp only [Act.put, List.setIfInBounds_toArray, List.set_cons_zero, List.set_cons_succ, i64_w, i32_w]
            rfl
          refine done_ (done_of HT_.out (by kernel_rfl)) ?_
          try go_wp2
          go_meet
          case rel => exact ⟨_, ((t1088 != t1089)), (by first | rfl | (simp; done) | (simp [*]; done)), H', ⟨by first | omega | exact Nat.le_refl _⟩, ⟨by (with_reducible repeat (first | apply Kd.R_alloc | apply Kd.R_drewN | apply Kd.R_drew)); exact Kd.R_mono HO1070.out (fun _ hk => ⟨hk.1, ⟨hk.2.1, hk.2.2.2.2⟩⟩)⟩, ⟨by (with_reducible repeat (first | apply Kd.R_alloc | apply Kd.R_drewN | apply Kd.R_drew)); exact Kd.R_mono HO1072.out (fun _ hk => ⟨hk.1, ⟨hk.2.1, hk.2.2.2.2⟩⟩)⟩, ⟨by (with_reducible repeat (first | apply Kd.R_alloc | apply Kd.R_drewN | apply Kd.R_drew)); exact Kd.R_mono HO1076.out (fun _ hk => ⟨hk.1, ⟨hk.2.1, hk.2.2.2.2⟩⟩)⟩, ⟨by (with_reducible repeat (first | refine blk_drewN ?_ _ | refine blk_drew ?_ | refine blk_alloc ?_ _)); exact BK1086.out⟩, ⟨by repeat (first | (with_reducible first | exact HB.out | apply below_alloc | apply pw_below_drewN | apply below_drew1 | refine below_set ?_ GE1086.out) | exact HB.out)⟩⟩
        · replace c19 := Bool.eq_false_iff.mpr c19
          subst c19
          have H1 : (laws_FnJoined.j0 k t1067 t1068 t1073 t1074 true) = some r := by rw [if_neg (show ¬ (false = true) by decide)] at H; exact H
          clear H
          have H := H1
          clear H1
          have H' := Aside0.mk H
          clear H
          try go_wp2
          have n0_ : Aside0 (Kd.R k57 57 ((w15.setCell ⟨gb1086, 0, none⟩ (.int .i64 t1084)).setCell ⟨gb1086, 1, none⟩ (.int .i64 t1085)) w.heap.size (fun k_ => some k_ ≠ (.slice Ao11 t1068.length co11 : Value).ownBlock ∧ some k_ ≠ (v1075 : Value).ownBlock ∧ some k_ ≠ (v1079 : Value).ownBlock ∧ some k_ ≠ (v1082 : Value).ownBlock ∧ k_ ≠ gb1086) (.slice Ao10 t1067.length co10) t1067) := ⟨by (with_reducible repeat (first | apply Kd.R_alloc | apply Kd.R_drewN | apply Kd.R_drew)); exact Kd.R_mono (Kd.R_far (p := ⟨gb1086, 1, none⟩) (Kd.R_far (p := ⟨gb1086, 0, none⟩) (Kd.R_mono HO1070.out (fun k_ hk => (⟨hk, hk.2⟩ : _ ∧ k_ ≠ gb1086))) (fun _ hk => hk.2) (.int .i64 t1084)) (fun _ hk => hk.2) (.int .i64 t1085)) (fun _ hk => ⟨hk.1.1.1.1.1, ⟨hk.1.1.1.1.2, ⟨hk.1.1.1.2, ⟨hk.1.1.2, hk.1.2⟩⟩⟩⟩)⟩
          have n1_ : Aside0 (Kd.R k57 57 ((w15.setCell ⟨gb1086, 0, none⟩ (.int .i64 t1084)).setCell ⟨gb1086, 1, none⟩ (.int .i64 t1085)) w.heap.size (fun k_ => some k_ ≠ (.slice Ao10 t1067.length co10 : Value).ownBlock ∧ some k_ ≠ (v1075 : Value).ownBlock ∧ some k_ ≠ (v1079 : Value).ownBlock ∧ some k_ ≠ (v1082 : Value).ownBlock ∧ k_ ≠ gb1086) (.slice Ao11 t1068.length co11) t1068) := ⟨by (with_reducible repeat (first | apply Kd.R_alloc | apply Kd.R_drewN | apply Kd.R_drew)); exact Kd.R_mono (Kd.R_far (p := ⟨gb1086, 1, none⟩) (Kd.R_far (p := ⟨gb1086, 0, none⟩) (Kd.R_mono HO1072.out (fun k_ hk => (⟨hk, hk.2⟩ : _ ∧ k_ ≠ gb1086))) (fun _ hk => hk.2) (.int .i64 t1084)) (fun _ hk => hk.2) (.int .i64 t1085)) (fun _ hk => ⟨hk.1.1.1.1.1, ⟨hk.1.1.1.1.2, ⟨hk.1.1.1.2, ⟨hk.1.1.2, hk.1.2⟩⟩⟩⟩)⟩
          have n2_ : Aside0 (Kd.R k57 57 ((w15.setCell ⟨gb1086, 0, none⟩ (.int .i64 t1084)).setCell ⟨gb1086, 1, none⟩ (.int .i64 t1085)) w.heap.size (fun k_ => some k_ ≠ (.slice Ao10 t1067.length co10 : Value).ownBlock ∧ some k_ ≠ (.slice Ao11 t1068.length co11 : Value).ownBlock ∧ some k_ ≠ (v1079 : Value).ownBlock ∧ some k_ ≠ (v1082 : Value).ownBlock ∧ k_ ≠ gb1086) v1075 t1073) := ⟨by (with_reducible repeat (first | apply Kd.R_alloc | apply Kd.R_drewN | apply Kd.R_drew)); exact Kd.R_mono (Kd.R_far (p := ⟨gb1086, 1, none⟩) (Kd.R_far (p := ⟨gb1086, 0, none⟩) (Kd.R_mono HO1076.out (fun k_ hk => (⟨hk, hk.2⟩ : _ ∧ k_ ≠ gb1086))) (fun _ hk => hk.2) (.int .i64 t1084)) (fun _ hk => hk.2) (.int .i64 t1085)) (fun _ hk => ⟨hk.1.1.1.1.1.2, ⟨hk.1.1.1.1.2, ⟨hk.1.1.1.2, ⟨hk.1.1.2, hk.1.2⟩⟩⟩⟩)⟩
          have n3_ : Aside0 (Kd.R k57 57 ((w15.setCell ⟨gb1086, 0, none⟩ (.int .i64 t1084)).setCell ⟨gb1086, 1, none⟩ (.int .i64 t1085)) w.heap.size (fun k_ => some k_ ≠ (.slice Ao10 t1067.length co10 : Value).ownBlock ∧ some k_ ≠ (.slice Ao11 t1068.length co11 : Value).ownBlock ∧ some k_ ≠ (v1075 : Value).ownBlock ∧ some k_ ≠ (v1082 : Value).ownBlock ∧ k_ ≠ gb1086) v1079 t1077) := ⟨by (with_reducible repeat (first | apply Kd.R_alloc | apply Kd.R_drewN | apply Kd.R_drew)); exact Kd.R_mono (Kd.R_far (p := ⟨gb1086, 1, none⟩) (Kd.R_far (p := ⟨gb1086, 0, none⟩) (Kd.R_mono HO1080.out (fun k_ hk => (⟨hk, hk.2⟩ : _ ∧ k_ ≠ gb1086))) (fun _ hk => hk.2) (.int .i64 t1084)) (fun _ hk => hk.2) (.int .i64 t1085)) (fun _ hk => ⟨hk.1.1.1.1.1.2, ⟨hk.1.1.1.1.2, ⟨hk.1.1.1.2, ⟨hk.1.1.2, hk.1.2⟩⟩⟩⟩)⟩
          have n4_ : Aside0 (Kd.R k57 57 ((w15.setCell ⟨gb1086, 0, none⟩ (.int .i64 t1084)).setCell ⟨gb1086, 1, none⟩ (.int .i64 t1085)) w.heap.size (fun k_ => some k_ ≠ (.slice Ao10 t1067.length co10 : Value).ownBlock ∧ some k_ ≠ (.slice Ao11 t1068.length co11 : Value).ownBlock ∧ some k_ ≠ (v1075 : Value).ownBlock ∧ some k_ ≠ (v1079 : Value).ownBlock ∧ k_ ≠ gb1086) v1082 t1081) := ⟨by (with_reducible repeat (first | apply Kd.R_alloc | apply Kd.R_drewN | apply Kd.R_drew)); exact Kd.R_mono (Kd.R_far (p := ⟨gb1086, 1, none⟩) (Kd.R_far (p := ⟨gb1086, 0, none⟩) (Kd.R_mono HO1083.out (fun k_ hk => (⟨hk, hk.2⟩ : _ ∧ k_ ≠ gb1086))) (fun _ hk => hk.2) (.int .i64 t1084)) (fun _ hk => hk.2) (.int .i64 t1085)) (fun _ hk => ⟨hk.1.1.1.1.1.2, ⟨hk.1.1.1.1.2, ⟨hk.1.1.1.2, ⟨hk.1.1.2, hk.1.2⟩⟩⟩⟩)⟩
          have n5_ : Aside0 (((w15.setCell ⟨gb1086, 0, none⟩ (.int .i64 t1084)).setCell ⟨gb1086, 1, none⟩ (.int .i64 t1085)).heap[gb1086]? = some (.cells #[.int .i64 t1084, .int .i64 t1085] 57 (0, 0))) := ⟨by (with_reducible repeat (first | refine blk_drewN ?_ _ | refine blk_drew ?_ | refine blk_alloc ?_ _)); refine blk_put (cs := #[.int .i64 t1084, .int .i64 0]) ?_ 1 _ rfl; (with_reducible repeat (first | refine blk_drewN ?_ _ | refine blk_drew ?_ | refine blk_alloc ?_ _)); refine blk_put (cs := #[.int .i64 0, .int .i64 0]) ?_ 0 _ rfl; (with_reducible repeat (first | refine blk_drewN ?_ _ | refine blk_drew ?_ | refine blk_alloc ?_ _)); exact BK1086.out⟩
          have n6_ : Aside0 (Below w.heap.size w ((w15.setCell ⟨gb1086, 0, none⟩ (.int .i64 t1084)).setCell ⟨gb1086, 1, none⟩ (.int .i64 t1085))) := ⟨by repeat (first | (with_reducible first | exact HB.out | apply below_alloc | apply pw_below_drewN | apply below_drew1 | refine below_set ?_ GE1086.out) | exact HB.out)⟩
          (try clear HO1070)
          (try clear HO1072)
          (try clear HO1076)
          (try clear HO1080)
          (try clear HO1083)
          (try clear BK1086)
          (try clear HB)
          generalize ((w15.setCell ⟨gb1086, 0, none⟩ (.int .i64 t1084)).setCell ⟨gb1086, 1, none⟩ (.int .i64 t1085)) = w29 at n0_ n1_ n2_ n3_ n4_ n5_ n6_ ⊢
          have HO1070 := n0_
          have HO1072 := n1_
          have HO1076 := n2_
          have HO1080 := n3_
          have HO1083 := n4_
          have BK1086 := n5_
          have HB := n6_
          clear n0_ n1_ n2_ n3_ n4_ n5_ n6_
          have n0_ := Aside0.mk (Kd.R_drew HO1070.out)
          have n1_ := Aside0.mk (Kd.R_drew HO1072.out)
          have n2_ := Aside0.mk (Kd.R_drew HO1076.out)
          have n3_ := Aside0.mk (Kd.R_drew HO1080.out)
          have n4_ := Aside0.mk (Kd.R_drew HO1083.out)
          have n5_ := Aside0.mk (blk_drew BK1086.out)
          have n6_ := Aside0.mk (below_drew1 HB.out)
          clear HO1070
          clear HO1072
          clear HO1076
          clear HO1080
          clear HO1083
          clear BK1086
          clear HB
          have HO1070 := n0_
          have HO1072 := n1_
          have HO1076 := n2_
          have HO1080 := n3_
          have HO1083 := n4_
          have BK1086 := n5_
          have HB := n6_
          clear n0_ n1_ n2_ n3_ n4_ n5_ n6_
          obtain ⟨Ao31, co31, eo31⟩ := Kd.R_slice HO1076.out
          (first | subst eo31 | (injection eo31 with f1_ f2_ f3_; have f4_ := f1_.symm; have f5_ := f3_.symm; clear f1_ f2_ f3_; subst f4_; subst f5_))
          obtain ⟨Ao32, co32, eo32⟩ := Kd.R_slice HO1080.out
          (first | subst eo32 | (injection eo32 with f1_ f2_ f3_; have f4_ := f1_.symm; have f5_ := f3_.symm; clear f1_ f2_ f3_; subst f4_; subst f5_))
          refine start_ (n := 18) (S := fun w' => True) (ds := []) #[false, false, false, false, false, false, false, false, false, false, false, false, false, false, false, false, false, false] (by kernel_rfl) rfl rfl trivial (fun hHeld => ?_); refine with_tabW laws_FnJoined.tab7 laws_FnJoined.bits7 (fun HT_ HW_ => ?_)
          generalize w29.drew = w30 at HO1070 HO1072 HO1076 HO1080 HO1083 BK1086 HB hHeld ⊢
          refine pure_ (i := 0) (N := some 37) (v := ?_) (a' := ?_) #[true, false, false, false, false, false, false, false, false, false, false, false, false, false, false, false, false, false] rfl rfl (any_of HT_.out (by kernel_rfl)) (fun _ _ _ h => h) (Or.inl ⟨by rfl, ?_⟩) ?_ ?_
          rotate_left
          · intro w'
            go_simp
            with_reducible rfl
          rotate_left
          · simp only [Act.put, List.setIfInBounds_toArray, List.set_cons_zero, List.set_cons_succ, i64_w, i32_w]
            rfl
          refine pure_ (i := 1) (N := some 38) (v := ?_) (a' := ?_) #[true, true, false, false, false, false, false, false, false, false, false, false, false, false, false, false, false, false] rfl rfl (any_of HT_.out (by kernel_rfl)) (fun _ _ _ h => h) (Or.inl ⟨by rfl, ?_⟩) ?_ ?_
          rotate_left
          · intro w'
            go_simp
            with_reducible rfl
          rotate_left
          · simp only [Act.put, List.setIfInBounds_toArray, List.set_cons_zero, List.set_cons_succ, i64_w, i32_w]
            rfl
          refine pure_ (i := 2) (N := some 39) (v := ?_) (a' := ?_) #[true, true, true, false, false, false, false, false, false, false, false, false, false, false, false, false, false, false] rfl rfl (any_of HT_.out (by kernel_rfl)) (fun _ _ _ h => h) (Or.inl ⟨by rfl, ?_⟩) ?_ ?_
          rotate_left
          · intro w'
            go_simp
            with_reducible rfl
          rotate_left
          · simp only [Act.put, List.setIfInBounds_toArray, List.set_cons_zero, List.set_cons_succ, i64_w, i32_w]
            rfl
          refine pure_ (i := 3) (N := some 40) (v := ?_) (a' := ?_) #[true, true, true, true, false, false, false, false, false, false, false, false, false, false, false, false, false, false] rfl rfl (any_of HT_.out (by kernel_rfl)) (fun _ _ _ h => h) (Or.inl ⟨by rfl, ?_⟩) ?_ ?_
          rotate_left
          · intro w'
            go_simp
            with_reducible rfl
          rotate_left
          · simp only [Act.put, List.setIfInBounds_toArray, List.set_cons_zero, List.set_cons_succ, i64_w, i32_w]
            rfl
          refine pure_ (i := 4) (N := some 41) (v := ?_) (a' := ?_) #[true, true, true, true, true, false, false, false, false, false, false, false, false, false, false, false, false, false] rfl rfl (any_of HT_.out (by kernel_rfl)) (fun _ _ _ h => h) (Or.inl ⟨by rfl, ?_⟩) ?_ ?_
          rotate_left
          · intro w'
            go_simp
            with_reducible rfl
          rotate_left
          · simp only [Act.put, List.setIfInBounds_toArray, List.set_cons_zero, List.set_cons_succ, i64_w, i32_w]
            rfl
          refine pure_ (i := 5) (N := some 42) (v := ?_) (a' := ?_) #[true, true, true, true, true, true, false, false, false, false, false, false, false, false, false, false, false, false] rfl rfl (any_of HT_.out (by kernel_rfl)) (fun _ _ _ h => h) (Or.inl ⟨by rfl, ?_⟩) ?_ ?_
          rotate_left
          · intro w'
            go_simp
            with_reducible rfl
          rotate_left
          · simp only [Act.put, List.setIfInBounds_toArray, List.set_cons_zero, List.set_cons_succ, i64_w, i32_w]
            rfl
          refine one_ (i := 6) (N := some 43) #[true, true, true, true, true, true, true, false, false, false, false, false, false, false, false, false, false, false] rfl rfl (one_of HT_.out (by kernel_rfl)) (by decide) (fun K hK => ?_)
          refine goes_ Try.func53 (by kernel_rfl) rfl #[.slice Ao31 t1073.length co31, .slice Ao32 t1077.length co32] (by rfl) rfl rfl (by (try simp only [List.map_toArray, List.map_cons, List.map_nil]); first | done | rfl | (simp only [List.length_drop, List.length_take]; rfl)) ?_
          with_reducible refine (laws_likeCells.calls k _ _ t1073 _ _ t1077 false _ ?side1 ?side2 ?side3 ?side4 A18.out).mono ?_
          (case side1 => repeat (first | exact (Kd.R_reads' HO1076.out).2.2 | (with_reducible refine Kd.C_alloc ?_ _) | (with_reducible refine Kd.C_drewN ?_ _) | (with_reducible refine Kd.C_drew ?_)))
          (case side2 => exact (Kd.R_reads' HO1076.out).2.1)
          (case side3 => repeat (first | exact (Kd.R_reads' HO1080.out).2.2 | (with_reducible refine Kd.C_alloc ?_ _) | (with_reducible refine Kd.C_drewN ?_ _) | (with_reducible refine Kd.C_drew ?_)))
          (case side4 => exact (Kd.R_reads' HO1080.out).2.1)
          rintro e w' ⟨rfl, ⟨nd, rfl⟩⟩
          refine ⟨_, rfl, ?_⟩
          refine hK.out _ _ trivial (fun hHeld => ?_)
          clear hK K
          refine norm_ (a' := ?_) ?_ ?_
          rotate_left
          · show Act.put _ (some 43) _ = _
            simp only [Act.put, List.setIfInBounds_toArray, List.set_cons_zero, List.set_cons_succ, i64_w, i32_w]
            rfl
          refine pure_ (i := 7) (N := some 44) (v := ?_) (a' := ?_) #[true, true, true, true, true, true, true, true, false, false, false, false, false, false, false, false, false, false] rfl rfl (any_of HT_.out (by kernel_rfl)) (fun _ _ _ h => h) (Or.inl ⟨by rfl, ?_⟩) ?_ ?_
          rotate_left
          · intro w'
            go_simp
            with_reducible rfl
          rotate_left
          · simp only [Act.put, List.setIfInBounds_toArray, List.set_cons_zero, List.set_cons_succ, i64_w, i32_w]
            rfl
          refine pure_ (i := 8) (N := some 45) (v := ?_) (a' := ?_) #[true, true, true, true, true, true, true, true, true, false, false, false, false, false, false, false, false, false] rfl rfl (any_of HT_.out (by kernel_rfl)) (fun _ _ _ h => h) (Or.inl ⟨by rfl, ?_⟩) ?_ ?_
          rotate_left
          · intro w'
            go_simp
            with_reducible rfl
          rotate_left
          · simp only [Act.put, List.setIfInBounds_toArray, List.set_cons_zero, List.set_cons_succ, i64_w, i32_w]
            rfl
          refine pure_ (i := 9) (N := some 46) (v := ?_) (a' := ?_) #[true, true, true, true, true, true, true, true, true, true, false, false, false, false, false, false, false, false] rfl rfl (any_of HT_.out (by kernel_rfl)) (fun _ _ _ h => h) (Or.inl ⟨by rfl, ?_⟩) ?_ ?_
          rotate_left
          · intro w'
            go_simp
            with_reducible rfl
          rotate_left
          · simp only [Act.put, List.setIfInBounds_toArray, List.set_cons_zero, List.set_cons_succ, i64_w, i32_w]
            rfl
          refine pure_ (i := 10) (N := some 47) (v := undef) (a' := ?_) #[true, true, true, true, true, true, true, true, true, true, true, false, false, false, false, false, false, false] rfl rfl (any_of HT_.out (by kernel_rfl)) (fun _ _ _ h => h) (Or.inr ⟨by rfl, rfl⟩) ?_ ?_
          rotate_left
          · simp only [Act.put, List.setIfInBounds_toArray, List.set_cons_zero, List.set_cons_succ, i64_w, i32_w]
            rfl
          refine pure_ (i := 11) (N := some 48) (v := undef) (a' := ?_) #[true, true, true, true, true, true, true, true, true, true, true, true, false, false, false, false, false, false] rfl rfl (any_of HT_.out (by kernel_rfl)) (fun _ _ _ h => h) (Or.inr ⟨by rfl, rfl⟩) ?_ ?_
          rotate_left
          · simp only [Act.put, List.setIfInBounds_toArray, List.set_cons_zero, List.set_cons_succ, i64_w, i32_w]
            rfl
          refine pure_ (i := 12) (N := some 49) (v := undef) (a' := ?_) #[true, true, true, true, true, true, true, true, true, true, true, true, true, false, false, false, false, false] rfl rfl (any_of HT_.out (by kernel_rfl)) (fun _ _ _ h => h) (Or.inr ⟨by rfl, rfl⟩) ?_ ?_
          rotate_left
          · simp only [Act.put, List.setIfInBounds_toArray, List.set_cons_zero, List.set_cons_succ, i64_w, i32_w]
            rfl
          refine pure_ (i := 13) (N := some 50) (v := undef) (a' := ?_) #[true, true, true, true, true, true, true, true, true, true, true, true, true, true, false, false, false, false] rfl rfl (any_of HT_.out (by kernel_rfl)) (fun _ _ _ h => h) (Or.inr ⟨by rfl, rfl⟩) ?_ ?_
          rotate_left
          · simp only [Act.put, List.setIfInBounds_toArray, List.set_cons_zero, List.set_cons_succ, i64_w, i32_w]
            rfl
          refine pure_ (i := 14) (N := some 51) (v := undef) (a' := ?_) #[true, true, true, true, true, true, true, true, true, true, true, true, true, true, true, false, false, false] rfl rfl (any_of HT_.out (by kernel_rfl)) (fun _ _ _ h => h) (Or.inr ⟨by rfl, rfl⟩) ?_ ?_
          rotate_left
          · simp only [Act.put, List.setIfInBounds_toArray, List.set_cons_zero, List.set_cons_succ, i64_w, i32_w]
            rfl
          refine pure_ (i := 15) (N := some 52) (v := undef) (a' := ?_) #[true, true, true, true, true, true, true, true, true, true, true, true, true, true, true, true, false, false] rfl rfl (any_of HT_.out (by kernel_rfl)) (fun _ _ _ h => h) (Or.inr ⟨by rfl, rfl⟩) ?_ ?_
          rotate_left
          · simp only [Act.put, List.setIfInBounds_toArray, List.set_cons_zero, List.set_cons_succ, i64_w, i32_w]
            rfl
          refine pure_ (i := 16) (N := some 53) (v := undef) (a' := ?_) #[true, true, true, true, true, true, true, true, true, true, true, true, true, true, true, true, true, false] rfl rfl (any_of HT_.out (by kernel_rfl)) (fun _ _ _ h => h) (Or.inr ⟨by rfl, rfl⟩) ?_ ?_
          rotate_left
          · simp only [Act.put, List.setIfInBounds_toArray, List.set_cons_zero, List.set_cons_succ, i64_w, i32_w]
            rfl
          refine pure_ (i := 17) (N := some 54) (v := ?_) (a' := ?_) #[true, true, true, true, true, true, true, true, true, true, true, true, true, true, true, true, true, true] rfl rfl (any_of HT_.out (by kernel_rfl)) (fun _ _ _ h => h) (Or.inl ⟨by rfl, ?_⟩) ?_ ?_
          rotate_left
          · intro w'
            go_simp
            with_reducible rfl
          rotate_left
          · simp only [Act.put, List.setIfInBounds_toArray, List.set_cons_zero, List.set_cons_succ, i64_w, i32_w]
            rfl
          refine done_ (done_of HT_.out (by kernel_rfl)) ?_
          try go_wp2
          go_meet
          case rel => exact ⟨_, (true), (by first | rfl | (simp; done) | (simp [*]; done)), H', ⟨by first | omega | exact Nat.le_refl _⟩, ⟨by (with_reducible repeat (first | apply Kd.R_alloc | apply Kd.R_drewN | apply Kd.R_drew)); exact Kd.R_mono HO1070.out (fun _ hk => ⟨hk.1, ⟨hk.2.1, hk.2.2.2.2⟩⟩)⟩, ⟨by (with_reducible repeat (first | apply Kd.R_alloc | apply Kd.R_drewN | apply Kd.R_drew)); exact Kd.R_mono HO1072.out (fun _ hk => ⟨hk.1, ⟨hk.2.1, hk.2.2.2.2⟩⟩)⟩, ⟨by (with_reducible repeat (first | apply Kd.R_alloc | apply Kd.R_drewN | apply Kd.R_drew)); exact Kd.R_mono HO1076.out (fun _ hk => ⟨hk.1, ⟨hk.2.1, hk.2.2.2.2⟩⟩)⟩, ⟨by (with_reducible repeat (first | refine blk_drewN ?_ _ | refine blk_drew ?_ | refine blk_alloc ?_ _)); exact BK1086.out⟩, ⟨by repeat (first | (with_reducible first | exact HB.out | apply below_alloc | apply pw_below_drewN | apply below_drew1 | refine below_set ?_ GE1086.out) | exact HB.out)⟩⟩
      · rw [if_neg c17] at H
        have c17b0 : (t1074 == t1078) = false := beq_eq_false_iff_ne.mpr c17
        have c17b1 : (t1074 != t1078) = true := bne_iff_ne.mpr c17
        (first | rw [c17b0] | (simp only [i64_w, i32_w]; rw [c17b0]) | skip)
        have H' := Aside0.mk H
        clear H
        try go_wp2
        have n0_ : Aside0 (Kd.R k57 57 ((w15.setCell ⟨gb1086, 0, none⟩ (.int .i64 t1084)).setCell ⟨gb1086, 1, none⟩ (.int .i64 t1085)) w.heap.size (fun k_ => some k_ ≠ (.slice Ao11 t1068.length co11 : Value).ownBlock ∧ some k_ ≠ (v1075 : Value).ownBlock ∧ some k_ ≠ (v1079 : Value).ownBlock ∧ some k_ ≠ (v1082 : Value).ownBlock ∧ k_ ≠ gb1086) (.slice Ao10 t1067.length co10) t1067) := ⟨by (with_reducible repeat (first | apply Kd.R_alloc | apply Kd.R_drewN | apply Kd.R_drew)); exact Kd.R_mono (Kd.R_far (p := ⟨gb1086, 1, none⟩) (Kd.R_far (p := ⟨gb1086, 0, none⟩) (Kd.R_mono HO1070.out (fun k_ hk => (⟨hk, hk.2⟩ : _ ∧ k_ ≠ gb1086))) (fun _ hk => hk.2) (.int .i64 t1084)) (fun _ hk => hk.2) (.int .i64 t1085)) (fun _ hk => ⟨hk.1.1.1.1.1, ⟨hk.1.1.1.1.2, ⟨hk.1.1.1.2, ⟨hk.1.1.2, hk.1.2⟩⟩⟩⟩)⟩
        have n1_ : Aside0 (Kd.R k57 57 ((w15.setCell ⟨gb1086, 0, none⟩ (.int .i64 t1084)).setCell ⟨gb1086, 1, none⟩ (.int .i64 t1085)) w.heap.size (fun k_ => some k_ ≠ (.slice Ao10 t1067.length co10 : Value).ownBlock ∧ some k_ ≠ (v1075 : Value).ownBlock ∧ some k_ ≠ (v1079 : Value).ownBlock ∧ some k_ ≠ (v1082 : Value).ownBlock ∧ k_ ≠ gb1086) (.slice Ao11 t1068.length co11) t1068) := ⟨by (with_reducible repeat (first | apply Kd.R_alloc | apply Kd.R_drewN | apply Kd.R_drew)); exact Kd.R_mono (Kd.R_far (p := ⟨gb1086, 1, none⟩) (Kd.R_far (p := ⟨gb1086, 0, none⟩) (Kd.R_mono HO1072.out (fun k_ hk => (⟨hk, hk.2⟩ : _ ∧ k_ ≠ gb1086))) (fun _ hk => hk.2) (.int .i64 t1084)) (fun _ hk => hk.2) (.int .i64 t1085)) (fun _ hk => ⟨hk.1.1.1.1.1, ⟨hk.1.1.1.1.2, ⟨hk.1.1.1.2, ⟨hk.1.1.2, hk.1.2⟩⟩⟩⟩)⟩
        have n2_ : Aside0 (Kd.R k57 57 ((w15.setCell ⟨gb1086, 0, none⟩ (.int .i64 t1084)).setCell ⟨gb1086, 1, none⟩ (.int .i64 t1085)) w.heap.size (fun k_ => some k_ ≠ (.slice Ao10 t1067.length co10 : Value).ownBlock ∧ some k_ ≠ (.slice Ao11 t1068.length co11 : Value).ownBlock ∧ some k_ ≠ (v1079 : Value).ownBlock ∧ some k_ ≠ (v1082 : Value).ownBlock ∧ k_ ≠ gb1086) v1075 t1073) := ⟨by (with_reducible repeat (first | apply Kd.R_alloc | apply Kd.R_drewN | apply Kd.R_drew)); exact Kd.R_mono (Kd.R_far (p := ⟨gb1086, 1, none⟩) (Kd.R_far (p := ⟨gb1086, 0, none⟩) (Kd.R_mono HO1076.out (fun k_ hk => (⟨hk, hk.2⟩ : _ ∧ k_ ≠ gb1086))) (fun _ hk => hk.2) (.int .i64 t1084)) (fun _ hk => hk.2) (.int .i64 t1085)) (fun _ hk => ⟨hk.1.1.1.1.1.2, ⟨hk.1.1.1.1.2, ⟨hk.1.1.1.2, ⟨hk.1.1.2, hk.1.2⟩⟩⟩⟩)⟩
        have n3_ : Aside0 (Kd.R k57 57 ((w15.setCell ⟨gb1086, 0, none⟩ (.int .i64 t1084)).setCell ⟨gb1086, 1, none⟩ (.int .i64 t1085)) w.heap.size (fun k_ => some k_ ≠ (.slice Ao10 t1067.length co10 : Value).ownBlock ∧ some k_ ≠ (.slice Ao11 t1068.length co11 : Value).ownBlock ∧ some k_ ≠ (v1075 : Value).ownBlock ∧ some k_ ≠ (v1082 : Value).ownBlock ∧ k_ ≠ gb1086) v1079 t1077) := ⟨by (with_reducible repeat (first | apply Kd.R_alloc | apply Kd.R_drewN | apply Kd.R_drew)); exact Kd.R_mono (Kd.R_far (p := ⟨gb1086, 1, none⟩) (Kd.R_far (p := ⟨gb1086, 0, none⟩) (Kd.R_mono HO1080.out (fun k_ hk => (⟨hk, hk.2⟩ : _ ∧ k_ ≠ gb1086))) (fun _ hk => hk.2) (.int .i64 t1084)) (fun _ hk => hk.2) (.int .i64 t1085)) (fun _ hk => ⟨hk.1.1.1.1.1.2, ⟨hk.1.1.1.1.2, ⟨hk.1.1.1.2, ⟨hk.1.1.2, hk.1.2⟩⟩⟩⟩)⟩
        have n4_ : Aside0 (Kd.R k57 57 ((w15.setCell ⟨gb1086, 0, none⟩ (.int .i64 t1084)).setCell ⟨gb1086, 1, none⟩ (.int .i64 t1085)) w.heap.size (fun k_ => some k_ ≠ (.slice Ao10 t1067.length co10 : Value).ownBlock ∧ some k_ ≠ (.slice Ao11 t1068.length co11 : Value).ownBlock ∧ some k_ ≠ (v1075 : Value).ownBlock ∧ some k_ ≠ (v1079 : Value).ownBlock ∧ k_ ≠ gb1086) v1082 t1081) := ⟨by (with_reducible repeat (first | apply Kd.R_alloc | apply Kd.R_drewN | apply Kd.R_drew)); exact Kd.R_mono (Kd.R_far (p := ⟨gb1086, 1, none⟩) (Kd.R_far (p := ⟨gb1086, 0, none⟩) (Kd.R_mono HO1083.out (fun k_ hk => (⟨hk, hk.2⟩ : _ ∧ k_ ≠ gb1086))) (fun _ hk => hk.2) (.int .i64 t1084)) (fun _ hk => hk.2) (.int .i64 t1085)) (fun _ hk => ⟨hk.1.1.1.1.1.2, ⟨hk.1.1.1.1.2, ⟨hk.1.1.1.2, ⟨hk.1.1.2, hk.1.2⟩⟩⟩⟩)⟩
        have n5_ : Aside0 (((w15.setCell ⟨gb1086, 0, none⟩ (.int .i64 t1084)).setCell ⟨gb1086, 1, none⟩ (.int .i64 t1085)).heap[gb1086]? = some (.cells #[.int .i64 t1084, .int .i64 t1085] 57 (0, 0))) := ⟨by (with_reducible repeat (first | refine blk_drewN ?_ _ | refine blk_drew ?_ | refine blk_alloc ?_ _)); refine blk_put (cs := #[.int .i64 t1084, .int .i64 0]) ?_ 1 _ rfl; (with_reducible repeat (first | refine blk_drewN ?_ _ | refine blk_drew ?_ | refine blk_alloc ?_ _)); refine blk_put (cs := #[.int .i64 0, .int .i64 0]) ?_ 0 _ rfl; (with_reducible repeat (first | refine blk_drewN ?_ _ | refine blk_drew ?_ | refine blk_alloc ?_ _)); exact BK1086.out⟩
        have n6_ : Aside0 (Below w.heap.size w ((w15.setCell ⟨gb1086, 0, none⟩ (.int .i64 t1084)).setCell ⟨gb1086, 1, none⟩ (.int .i64 t1085))) := ⟨by repeat (first | (with_reducible first | exact HB.out | apply below_alloc | apply pw_below_drewN | apply below_drew1 | refine below_set ?_ GE1086.out) | exact HB.out)⟩
        (try clear HO1070)
        (try clear HO1072)
        (try clear HO1076)
        (try clear HO1080)
        (try clear HO1083)
        (try clear BK1086)
        (try clear HB)
        generalize ((w15.setCell ⟨gb1086, 0, none⟩ (.int .i64 t1084)).setCell ⟨gb1086, 1, none⟩ (.int .i64 t1085)) = w33 at n0_ n1_ n2_ n3_ n4_ n5_ n6_ ⊢
        have HO1070 := n0_
        have HO1072 := n1_
        have HO1076 := n2_
        have HO1080 := n3_
        have HO1083 := n4_
        have BK1086 := n5_
        have HB := n6_
        clear n0_ n1_ n2_ n3_ n4_ n5_ n6_
        have n0_ := Aside0.mk (Kd.R_drew HO1070.out)
        have n1_ := Aside0.mk (Kd.R_drew HO1072.out)
        have n2_ := Aside0.mk (Kd.R_drew HO1076.out)
        have n3_ := Aside0.mk (Kd.R_drew HO1080.out)
        have n4_ := Aside0.mk (Kd.R_drew HO1083.out)
        have n5_ := Aside0.mk (blk_drew BK1086.out)
        have n6_ := Aside0.mk (below_drew1 HB.out)
        clear HO1070
        clear HO1072
        clear HO1076
        clear HO1080
        clear HO1083
        clear BK1086
        clear HB
        have HO1070 := n0_
        have HO1072 := n1_
        have HO1076 := n2_
        have HO1080 := n3_
        have HO1083 := n4_
        have BK1086 := n5_
        have HB := n6_
        clear n0_ n1_ n2_ n3_ n4_ n5_ n6_
        refine start_ (n := 18) (S := fun w' => True) (ds := []) #[false, false, false, false, false, false, false, false, false, false, false, false, false, false, false, false, false, false] (by kernel_rfl) rfl rfl trivial (fun hHeld => ?_); refine with_tabW laws_FnJoined.tab7 laws_FnJoined.bits7 (fun HT_ HW_ => ?_)
        generalize w33.drew = w34 at HO1070 HO1072 HO1076 HO1080 HO1083 BK1086 HB hHeld ⊢
        refine pure_ (i := 0) (N := some 37) (v := ?_) (a' := ?_) #[true, false, false, false, false, false, false, false, false, false, false, false, false, false, false, false, false, false] rfl rfl (any_of HT_.out (by kernel_rfl)) (fun _ _ _ h => h) (Or.inl ⟨by rfl, ?_⟩) ?_ ?_
        rotate_left
        · intro w'
          go_simp
          with_reducible rfl
        rotate_left
        · simp only [Act.put, List.setIfInBounds_toArray, List.set_cons_zero, List.set_cons_succ, i64_w, i32_w]
          rfl
        refine pure_ (i := 1) (N := some 38) (v := ?_) (a' := ?_) #[true, true, false, false, false, false, false, false, false, false, false, false, false, false, false, false, false, false] rfl rfl (any_of HT_.out (by kernel_rfl)) (fun _ _ _ h => h) (Or.inl ⟨by rfl, ?_⟩) ?_ ?_
        rotate_left
        · intro w'
          go_simp
          with_reducible rfl
        rotate_left
        · simp only [Act.put, List.setIfInBounds_toArray, List.set_cons_zero, List.set_cons_succ, i64_w, i32_w]
          rfl
        refine pure_ (i := 2) (N := some 39) (v := ?_) (a' := ?_) #[true, true, true, false, false, false, false, false, false, false, false, false, false, false, false, false, false, false] rfl rfl (any_of HT_.out (by kernel_rfl)) (fun _ _ _ h => h) (Or.inl ⟨by rfl, ?_⟩) ?_ ?_
        rotate_left
        · intro w'
          go_simp
          with_reducible rfl
        rotate_left
        · simp only [Act.put, List.setIfInBounds_toArray, List.set_cons_zero, List.set_cons_succ, i64_w, i32_w]
          rfl
        refine pure_ (i := 3) (N := some 40) (v := ?_) (a' := ?_) #[true, true, true, true, false, false, false, false, false, false, false, false, false, false, false, false, false, false] rfl rfl (any_of HT_.out (by kernel_rfl)) (fun _ _ _ h => h) (Or.inl ⟨by rfl, ?_⟩) ?_ ?_
        rotate_left
        · intro w'
          go_simp
          with_reducible rfl
        rotate_left
        · simp only [Act.put, List.setIfInBounds_toArray, List.set_cons_zero, List.set_cons_succ, i64_w, i32_w]
          rfl
        refine pure_ (i := 4) (N := some 41) (v := undef) (a' := ?_) #[true, true, true, true, true, false, false, false, false, false, false, false, false, false, false, false, false, false] rfl rfl (any_of HT_.out (by kernel_rfl)) (fun _ _ _ h => h) (Or.inr ⟨by rfl, rfl⟩) ?_ ?_
        rotate_left
        · simp only [Act.put, List.setIfInBounds_toArray, List.set_cons_zero, List.set_cons_succ, i64_w, i32_w]
          rfl
        refine pure_ (i := 5) (N := some 42) (v := undef) (a' := ?_) #[true, true, true, true, true, true, false, false, false, false, false, false, false, false, false, false, false, false] rfl rfl (any_of HT_.out (by kernel_rfl)) (fun _ _ _ h => h) (Or.inr ⟨by rfl, rfl⟩) ?_ ?_
        rotate_left
        · simp only [Act.put, List.setIfInBounds_toArray, List.set_cons_zero, List.set_cons_succ, i64_w, i32_w]
          rfl
        refine pure_ (i := 6) (N := some 43) (v := undef) (a' := ?_) #[true, true, true, true, true, true, true, false, false, false, false, false, false, false, false, false, false, false] rfl rfl (any_of HT_.out (by kernel_rfl)) (fun _ _ _ h => h) (Or.inr ⟨by rfl, rfl⟩) ?_ ?_
        rotate_left
        · simp only [Act.put, List.setIfInBounds_toArray, List.set_cons_zero, List.set_cons_succ, i64_w, i32_w]
          rfl
        refine pure_ (i := 7) (N := some 44) (v := undef) (a' := ?_) #[true, true, true, true, true, true, true, true, false, false, false, false, false, false, false, false, false, false] rfl rfl (any_of HT_.out (by kernel_rfl)) (fun _ _ _ h => h) (Or.inr ⟨by rfl, rfl⟩) ?_ ?_
        rotate_left
        · simp only [Act.put, List.setIfInBounds_toArray, List.set_cons_zero, List.set_cons_succ, i64_w, i32_w]
          rfl
        refine pure_ (i := 8) (N := some 45) (v := ?_) (a' := ?_) #[true, true, true, true, true, true, true, true, true, false, false, false, false, false, false, false, false, false] rfl rfl (any_of HT_.out (by kernel_rfl)) (fun _ _ _ h => h) (Or.inl ⟨by rfl, ?_⟩) ?_ ?_
        rotate_left
        · intro w'
          go_simp
          with_reducible rfl
        rotate_left
        · simp only [Act.put, List.setIfInBounds_toArray, List.set_cons_zero, List.set_cons_succ, i64_w, i32_w]
          rfl
        refine pure_ (i := 9) (N := some 46) (v := ?_) (a' := ?_) #[true, true, true, true, true, true, true, true, true, true, false, false, false, false, false, false, false, false] rfl rfl (any_of HT_.out (by kernel_rfl)) (fun _ _ _ h => h) (Or.inl ⟨by rfl, ?_⟩) ?_ ?_
        rotate_left
        · intro w'
          go_simp
          with_reducible rfl
        rotate_left
        · simp only [Act.put, List.setIfInBounds_toArray, List.set_cons_zero, List.set_cons_succ, i64_w, i32_w]
          rfl
        refine pure_ (i := 10) (N := some 47) (v := undef) (a' := ?_) #[true, true, true, true, true, true, true, true, true, true, true, false, false, false, false, false, false, false] rfl rfl (any_of HT_.out (by kernel_rfl)) (fun _ _ _ h => h) (Or.inr ⟨by rfl, rfl⟩) ?_ ?_
        rotate_left
        · simp only [Act.put, List.setIfInBounds_toArray, List.set_cons_zero, List.set_cons_succ, i64_w, i32_w]
          rfl
        refine pure_ (i := 11) (N := some 48) (v := undef) (a' := ?_) #[true, true, true, true, true, true, true, true, true, true, true, true, false, false, false, false, false, false] rfl rfl (any_of HT_.out (by kernel_rfl)) (fun _ _ _ h => h) (Or.inr ⟨by rfl, rfl⟩) ?_ ?_
        rotate_left
        · simp only [Act.put, List.setIfInBounds_toArray, List.set_cons_zero, List.set_cons_succ, i64_w, i32_w]
          rfl
        refine pure_ (i := 12) (N := some 49) (v := undef) (a' := ?_) #[true, true, true, true, true, true, true, true, true, true, true, true, true, false, false, false, false, false] rfl rfl (any_of HT_.out (by kernel_rfl)) (fun _ _ _ h => h) (Or.inr ⟨by rfl, rfl⟩) ?_ ?_
        rotate_left
        · simp only [Act.put, List.setIfInBounds_toArray, List.set_cons_zero, List.set_cons_succ, i64_w, i32_w]
          rfl
        refine pure_ (i := 13) (N := some 50) (v := undef) (a' := ?_) #[true, true, true, true, true, true, true, true, true, true, true, true, true, true, false, false, false, false] rfl rfl (any_of HT_.out (by kernel_rfl)) (fun _ _ _ h => h) (Or.inr ⟨by rfl, rfl⟩) ?_ ?_
        rotate_left
        · simp only [Act.put, List.setIfInBounds_toArray, List.set_cons_zero, List.set_cons_succ, i64_w, i32_w]
          rfl
        refine pure_ (i := 14) (N := some 51) (v := undef) (a' := ?_) #[true, true, true, true, true, true, true, true, true, true, true, true, true, true, true, false, false, false] rfl rfl (any_of HT_.out (by kernel_rfl)) (fun _ _ _ h => h) (Or.inr ⟨by rfl, rfl⟩) ?_ ?_
        rotate_left
        · simp only [Act.put, List.setIfInBounds_toArray, List.set_cons_zero, List.set_cons_succ, i64_w, i32_w]
          rfl
        refine pure_ (i := 15) (N := some 52) (v := undef) (a' := ?_) #[true, true, true, true, true, true, true, true, true, true, true, true, true, true, true, true, false, false] rfl rfl (any_of HT_.out (by kernel_rfl)) (fun _ _ _ h => h) (Or.inr ⟨by rfl, rfl⟩) ?_ ?_
        rotate_left
        · simp only [Act.put, List.setIfInBounds_toArray, List.set_cons_zero, List.set_cons_succ, i64_w, i32_w]
          rfl
        refine pure_ (i := 16) (N := some 53) (v := undef) (a' := ?_) #[true, true, true, true, true, true, true, true, true, true, true, true, true, true, true, true, true, false] rfl rfl (any_of HT_.out (by kernel_rfl)) (fun _ _ _ h => h) (Or.inr ⟨by rfl, rfl⟩) ?_ ?_
        rotate_left
        · simp only [Act.put, List.setIfInBounds_toArray, List.set_cons_zero, List.set_cons_succ, i64_w, i32_w]
          rfl
        refine pure_ (i := 17) (N := some 54) (v := ?_) (a' := ?_) #[true, true, true, true, true, true, true, true, true, true, true, true, true, true, true, true, true, true] rfl rfl (any_of HT_.out (by kernel_rfl)) (fun _ _ _ h => h) (Or.inl ⟨by rfl, ?_⟩) ?_ ?_
        rotate_left
        · intro w'
          go_simp
          with_reducible rfl
        rotate_left
        · simp only [Act.put, List.setIfInBounds_toArray, List.set_cons_zero, List.set_cons_succ, i64_w, i32_w]
          rfl
        refine done_ (done_of HT_.out (by kernel_rfl)) ?_
        try go_wp2
        go_meet
        case rel => exact ⟨_, (true), (by first | rfl | (simp; done) | (simp [*]; done)), H', ⟨by first | omega | exact Nat.le_refl _⟩, ⟨by (with_reducible repeat (first | apply Kd.R_alloc | apply Kd.R_drewN | apply Kd.R_drew)); exact Kd.R_mono HO1070.out (fun _ hk => ⟨hk.1, ⟨hk.2.1, hk.2.2.2.2⟩⟩)⟩, ⟨by (with_reducible repeat (first | apply Kd.R_alloc | apply Kd.R_drewN | apply Kd.R_drew)); exact Kd.R_mono HO1072.out (fun _ hk => ⟨hk.1, ⟨hk.2.1, hk.2.2.2.2⟩⟩)⟩, ⟨by (with_reducible repeat (first | apply Kd.R_alloc | apply Kd.R_drewN | apply Kd.R_drew)); exact Kd.R_mono HO1076.out (fun _ hk => ⟨hk.1, ⟨hk.2.1, hk.2.2.2.2⟩⟩)⟩, ⟨by (with_reducible repeat (first | refine blk_drewN ?_ _ | refine blk_drew ?_ | refine blk_alloc ?_ _)); exact BK1086.out⟩, ⟨by repeat (first | (with_reducible first | exact HB.out | apply below_alloc | apply pw_below_drewN | apply below_drew1 | refine below_set ?_ GE1086.out) | exact HB.out)⟩⟩
    case rest =>
      clear HC8
      try clear c1
      try clear p2
      try clear c5
      try clear c17
      try clear c17b0
      try clear c17b1
      try clear c19
      obtain ⟨kq, x54_7, rfl, HA, HJ7, HO_3, HO_4, HO_5, BK1086, HB⟩ := hcut
      cases kq with
      | zero => exact absurd HA.out (by simp [laws_FnJoined.j0])
      | succ kj7 =>
        have H := HA.out
        clear HA
        simp only [laws_FnJoined.j0] at H
        by_cases c35 : x54_7 = true
        · subst c35
          have H1 : (some false) = some r := by rw [if_pos rfl] at H; exact H
          clear H
          have H := H1
          clear H1
          obtain rfl := Option.some.inj H
          go_wp2
          go_ret
          exact ⟨by first | rfl | (simp [errW_none, errW_some] <;> rfl) | (simp [*, errW_none, errW_some] <;> rfl), by repeat (first | (with_reducible first | exact HB.out | apply below_alloc | apply pw_below_drewN | apply below_drew1 | refine below_set ?_ GE1086.out) | exact HB.out)⟩
        · replace c35 := Bool.eq_false_iff.mpr c35
          subst c35
          have H1 : (if t1074 = 0 then (laws_FnJoined.l0 kj7 t1067 t1068 t1073 0) else (some true)) = some r := by rw [if_neg (show ¬ (false = true) by decide)] at H; exact H
          clear H
          have H := H1
          clear H1
          by_cases c36 : t1074 = 0
          · rw [if_pos c36] at H
            have c36b0 : (t1074 == 0) = true := beq_iff_eq.mpr c36
            have c36b1 : (t1074 != 0) = false := bne_eq_false_iff_eq.mpr c36
            clear c36
            have H' := Aside0.mk H
            clear H
            go_wp2
            go_loopg [11] kj7 (fun kq v11 w' => ∃ (x11_2 : Int), v11 = .int .i64 x11_2 ∧ Aside0 (laws_FnJoined.l0 kq t1067 t1068 t1073 x11_2 = some r) ∧ Aside0 (kq ≤ kj7) ∧ Aside0 (Kd.R k57 57 w' w.heap.size (fun k_ => some k_ ≠ ((.slice Ao11 t1068.length co11) : Value).ownBlock ∧ some k_ ≠ (v1075 : Value).ownBlock ∧ k_ ≠ gb1086) (.slice Ao10 t1067.length co10) t1067) ∧ Aside0 (Kd.R k57 57 w' w.heap.size (fun k_ => some k_ ≠ ((.slice Ao10 t1067.length co10) : Value).ownBlock ∧ some k_ ≠ (v1075 : Value).ownBlock ∧ k_ ≠ gb1086) (.slice Ao11 t1068.length co11) t1068) ∧ Aside0 (Kd.R k57 57 w' w.heap.size (fun k_ => some k_ ≠ ((.slice Ao10 t1067.length co10) : Value).ownBlock ∧ some k_ ≠ ((.slice Ao11 t1068.length co11) : Value).ownBlock ∧ k_ ≠ gb1086) v1075 t1073) ∧ Aside0 (w'.heap[gb1086]? = some (.cells #[.int .i64 t1084, .int .i64 t1085] 57 (0, 0))) ∧ Aside0 (Below w.heap.size w w'))
            case atStart => exact ⟨(0), (by first | rfl | (simp; done) | (simp [*]; done)), H', ⟨Nat.le_refl _⟩, ⟨by (with_reducible repeat (first | apply Kd.R_alloc | apply Kd.R_drewN | apply Kd.R_drew)); exact HO_3.out⟩, ⟨by (with_reducible repeat (first | apply Kd.R_alloc | apply Kd.R_drewN | apply Kd.R_drew)); exact HO_4.out⟩, ⟨by (with_reducible repeat (first | apply Kd.R_alloc | apply Kd.R_drewN | apply Kd.R_drew)); exact HO_5.out⟩, ⟨by (with_reducible repeat (first | refine blk_drewN ?_ _ | refine blk_drew ?_ | refine blk_alloc ?_ _)); exact BK1086.out⟩, ⟨by repeat (first | (with_reducible first | exact HB.out | apply below_alloc | apply pw_below_drewN | apply below_drew1 | refine below_set ?_ GE1086.out) | exact HB.out)⟩⟩
            case round =>
              clear H'
              try clear c1
              try clear p2
              try clear c3
              try clear c5
              try clear c17
              try clear c17b0
              try clear c17b1
              try clear c19
              try clear c35
              try clear c36
              try clear c36b0
              try clear c36b1
              try clear p2
              obtain ⟨x11_2, rfl, HA, HK2, HO_3, HO_4, HO_5, BK1086, HB⟩ := hrel
              cases gk with
              | zero => exact absurd HA.out (by simp [laws_FnJoined.l0])
              | succ k2 =>
                have H := HA.out
                clear HA
                simp only [laws_FnJoined.l0] at H
                by_cases c37 : x11_2 < (t1067.length : Int)
                · rw [if_pos c37] at H
                  have c37b0 : decide (x11_2 < (t1067.length : Int)) = true := decide_eq_true c37
                  clear c37
                  by_cases c38 : 0 ≤ x11_2
                  · rw [if_pos c38] at H
                    have c38b0 : decide (0 ≤ x11_2) = true := decide_eq_true c38
                    clear c38
                    replace H := Option.bind_eq_some_iff.mp H
                    obtain ⟨t1091, A390, H⟩ := H
                    replace H : (if t1091 = true then (laws_FnJoined.l0 k2 t1067 t1068 t1073 (wrap64 (x11_2 + 1))) else (some false)) = some r := H
                    have A39 := Aside0.mk A390
                    clear A390
                    by_cases c40 : t1091 = true
                    · subst c40
                      have H1 : (laws_FnJoined.l0 k2 t1067 t1068 t1073 (wrap64 (x11_2 + 1))) = some r := by rw [if_pos rfl] at H; exact H
                      clear H
                      have H := H1
                      clear H1
                      have H' := Aside0.mk H
                      clear H
                      have p1090 : 0 ≤ (x11_2 : Int) := of_decide_eq_true (by first | (with_reducible assumption) | assumption)
                      have q1090 : x11_2 < (t1067.length : Int) := of_decide_eq_true (by first | (with_reducible assumption) | assumption)
                      obtain ⟨ad1090, e1090, hx1090_0, hx1090_1⟩ := at_T57 (Kd.R_reads' HO_3.out).2.2 x11_2 p1090 q1090
                      cases e1090
                      replace p1090 := eq_true p1090
                      replace q1090 := eq_true q1090
                      obtain ⟨Ao41, co41, eo41⟩ := Kd.R_slice HO_5.out
                      subst eo41
                      go_wp2_with (first | ((with_reducible refine gate_callee (f := 54) rfl ?_); refine goesL_ (some 68) rfl rfl Try.func54 (by kernel_rfl) rfl #[.slice Ao41 t1073.length co41, .agg #[.int .i64 ((rd_T57 t1067 x11_2).f0), .int .i64 ((rd_T57 t1067 x11_2).f1)]] rfl (by (try simp only [List.map_toArray, List.map_cons, List.map_nil]); first | done | rfl | (simp only [List.length_drop, List.length_take]; rfl)) ?_; (with_reducible refine (impl_HasCell.calls k2 _ _ t1073 ((rd_T57 t1067 x11_2).f0) ((rd_T57 t1067 x11_2).f1) true _ ?side1 ?side2 A39.out).mono ?_); (case side1 => repeat (first | exact (Kd.R_reads' HO_5.out).2.2 | (with_reducible refine Kd.C_alloc ?_ _) | (with_reducible refine Kd.C_drewN ?_ _) | (with_reducible refine Kd.C_drew ?_))); (case side2 => exact (Kd.R_reads' HO_5.out).2.1); rintro e w42 ⟨rfl, hb⟩; refine ⟨_, rfl, ?_⟩; have n0_ := Aside0.mk (Kd.R_below (by (with_reducible repeat (first | apply Kd.R_alloc | apply Kd.R_drewN | apply Kd.R_drew)); exact HO_3.out) hb); have n1_ := Aside0.mk (Kd.R_below (by (with_reducible repeat (first | apply Kd.R_alloc | apply Kd.R_drewN | apply Kd.R_drew)); exact HO_4.out) hb); have n2_ := Aside0.mk (Kd.R_below (by (with_reducible repeat (first | apply Kd.R_alloc | apply Kd.R_drewN | apply Kd.R_drew)); exact HO_5.out) hb); have n3_ := Aside0.mk (blk_below (g := gb1086) (o := .cells #[.int .i64 t1084, .int .i64 t1085] 57 (0, 0)) (by (with_reducible repeat (first | refine blk_drewN ?_ _ | refine blk_drew ?_ | refine blk_alloc ?_ _)); exact BK1086.out) hb); have n4_ := Aside0.mk (below_step (by repeat (first | (with_reducible first | exact HB.out | apply below_alloc | apply pw_below_drewN | apply below_drew1 | refine below_set ?_ GE1086.out) | exact HB.out)) hb); clear HO_3; clear HO_4; clear HO_5; clear BK1086; clear HB; have HO_3 := n0_; have HO_4 := n1_; have HO_5 := n2_; have BK1086 := n3_; have HB := n4_; clear n0_ n1_ n2_ n3_ n4_; (try clear hb); (try clear hb2); (try clear hk); (try clear hi)))
                      go_roundg k2
                      case measure => have := HJ7.out; have := HK2.out; omega
                      case rel => exact ⟨(wrap64 (x11_2 + 1)), (by first | rfl | (simp; done) | (simp [*]; done)), H', ⟨by have := HJ7.out; have := HK2.out; omega⟩, ⟨by (with_reducible repeat (first | apply Kd.R_alloc | apply Kd.R_drewN | apply Kd.R_drew)); exact HO_3.out⟩, ⟨by (with_reducible repeat (first | apply Kd.R_alloc | apply Kd.R_drewN | apply Kd.R_drew)); exact HO_4.out⟩, ⟨by (with_reducible repeat (first | apply Kd.R_alloc | apply Kd.R_drewN | apply Kd.R_drew)); exact HO_5.out⟩, ⟨by (with_reducible repeat (first | refine blk_drewN ?_ _ | refine blk_drew ?_ | refine blk_alloc ?_ _)); exact BK1086.out⟩, ⟨by repeat (first | (with_reducible first | exact HB.out | apply below_alloc | apply pw_below_drewN | apply below_drew1 | refine below_set ?_ GE1086.out) | exact HB.out)⟩⟩
                    · replace c40 := Bool.eq_false_iff.mpr c40
                      subst c40
                      have H1 : (some false) = some r := by rw [if_neg (show ¬ (false = true) by decide)] at H; exact H
                      clear H
                      have H := H1
                      clear H1
                      obtain rfl := Option.some.inj H
                      have p1090 : 0 ≤ (x11_2 : Int) := of_decide_eq_true (by first | (with_reducible assumption) | assumption)
                      have q1090 : x11_2 < (t1067.length : Int) := of_decide_eq_true (by first | (with_reducible assumption) | assumption)
                      obtain ⟨ad1090, e1090, hx1090_0, hx1090_1⟩ := at_T57 (Kd.R_reads' HO_3.out).2.2 x11_2 p1090 q1090
                      cases e1090
                      replace p1090 := eq_true p1090
                      replace q1090 := eq_true q1090
                      obtain ⟨Ao43, co43, eo43⟩ := Kd.R_slice HO_5.out
                      subst eo43
                      go_wp2_with (first | ((with_reducible refine gate_callee (f := 54) rfl ?_); refine goesL_ (some 68) rfl rfl Try.func54 (by kernel_rfl) rfl #[.slice Ao43 t1073.length co43, .agg #[.int .i64 ((rd_T57 t1067 x11_2).f0), .int .i64 ((rd_T57 t1067 x11_2).f1)]] rfl (by (try simp only [List.map_toArray, List.map_cons, List.map_nil]); first | done | rfl | (simp only [List.length_drop, List.length_take]; rfl)) ?_; (with_reducible refine (impl_HasCell.calls k2 _ _ t1073 ((rd_T57 t1067 x11_2).f0) ((rd_T57 t1067 x11_2).f1) false _ ?side1 ?side2 A39.out).mono ?_); (case side1 => repeat (first | exact (Kd.R_reads' HO_5.out).2.2 | (with_reducible refine Kd.C_alloc ?_ _) | (with_reducible refine Kd.C_drewN ?_ _) | (with_reducible refine Kd.C_drew ?_))); (case side2 => exact (Kd.R_reads' HO_5.out).2.1); rintro e w44 ⟨rfl, hb⟩; refine ⟨_, rfl, ?_⟩; have n0_ := Aside0.mk (Kd.R_below (by (with_reducible repeat (first | apply Kd.R_alloc | apply Kd.R_drewN | apply Kd.R_drew)); exact HO_3.out) hb); have n1_ := Aside0.mk (Kd.R_below (by (with_reducible repeat (first | apply Kd.R_alloc | apply Kd.R_drewN | apply Kd.R_drew)); exact HO_4.out) hb); have n2_ := Aside0.mk (Kd.R_below (by (with_reducible repeat (first | apply Kd.R_alloc | apply Kd.R_drewN | apply Kd.R_drew)); exact HO_5.out) hb); have n3_ := Aside0.mk (blk_below (g := gb1086) (o := .cells #[.int .i64 t1084, .int .i64 t1085] 57 (0, 0)) (by (with_reducible repeat (first | refine blk_drewN ?_ _ | refine blk_drew ?_ | refine blk_alloc ?_ _)); exact BK1086.out) hb); have n4_ := Aside0.mk (below_step (by repeat (first | (with_reducible first | exact HB.out | apply below_alloc | apply pw_below_drewN | apply below_drew1 | refine below_set ?_ GE1086.out) | exact HB.out)) hb); clear HO_3; clear HO_4; clear HO_5; clear BK1086; clear HB; have HO_3 := n0_; have HO_4 := n1_; have HO_5 := n2_; have BK1086 := n3_; have HB := n4_; clear n0_ n1_ n2_ n3_ n4_; (try clear hb); (try clear hb2); (try clear hk); (try clear hi)))
                      go_ret
                      exact ⟨by first | rfl | (simp [errW_none, errW_some] <;> rfl) | (simp [*, errW_none, errW_some] <;> rfl), by repeat (first | (with_reducible first | exact HB.out | apply below_alloc | apply pw_below_drewN | apply below_drew1 | refine below_set ?_ GE1086.out) | exact HB.out)⟩
                  · rw [if_neg c38] at H
                    exact absurd H (by simp)
                · rw [if_neg c37] at H
                  have c37b0 : decide (x11_2 < (t1067.length : Int)) = false := decide_eq_false c37
                  clear c37
                  have H' := Aside0.mk H
                  clear H
                  go_wp2
                  go_loopg [12] k2 (fun kq v12 w' => ∃ (x12_3 : Int), v12 = .int .i64 x12_3 ∧ Aside0 (laws_FnJoined.l1 kq t1067 t1068 t1073 x12_3 = some r) ∧ Aside0 (kq ≤ k2) ∧ Aside0 (Kd.R k57 57 w' w.heap.size (fun k_ => some k_ ≠ ((.slice Ao11 t1068.length co11) : Value).ownBlock ∧ some k_ ≠ (v1075 : Value).ownBlock ∧ k_ ≠ gb1086) (.slice Ao10 t1067.length co10) t1067) ∧ Aside0 (Kd.R k57 57 w' w.heap.size (fun k_ => some k_ ≠ ((.slice Ao10 t1067.length co10) : Value).ownBlock ∧ some k_ ≠ (v1075 : Value).ownBlock ∧ k_ ≠ gb1086) (.slice Ao11 t1068.length co11) t1068) ∧ Aside0 (Kd.R k57 57 w' w.heap.size (fun k_ => some k_ ≠ ((.slice Ao10 t1067.length co10) : Value).ownBlock ∧ some k_ ≠ ((.slice Ao11 t1068.length co11) : Value).ownBlock ∧ k_ ≠ gb1086) v1075 t1073) ∧ Aside0 (w'.heap[gb1086]? = some (.cells #[.int .i64 t1084, .int .i64 t1085] 57 (0, 0))) ∧ Aside0 (Below w.heap.size w w'))
                  case atStart => exact ⟨(0), (by first | rfl | (simp; done) | (simp [*]; done)), H', ⟨Nat.le_refl _⟩, ⟨by (with_reducible repeat (first | apply Kd.R_alloc | apply Kd.R_drewN | apply Kd.R_drew)); exact HO_3.out⟩, ⟨by (with_reducible repeat (first | apply Kd.R_alloc | apply Kd.R_drewN | apply Kd.R_drew)); exact HO_4.out⟩, ⟨by (with_reducible repeat (first | apply Kd.R_alloc | apply Kd.R_drewN | apply Kd.R_drew)); exact HO_5.out⟩, ⟨by (with_reducible repeat (first | refine blk_drewN ?_ _ | refine blk_drew ?_ | refine blk_alloc ?_ _)); exact BK1086.out⟩, ⟨by repeat (first | (with_reducible first | exact HB.out | apply below_alloc | apply pw_below_drewN | apply below_drew1 | refine below_set ?_ GE1086.out) | exact HB.out)⟩⟩
                  case round =>
                    clear H'
                    try clear c1
                    try clear p1
                    try clear q1
                    try clear hx1
                    try clear p2
                    try clear c3
                    try clear c4
                    try clear c5
                    try clear p6
                    try clear p10
                    try clear q10
                    try clear hx10
                    try clear c17
                    try clear c17b0
                    try clear c17b1
                    try clear c19
                    try clear c35
                    try clear c36
                    try clear c36b0
                    try clear c36b1
                    try clear c37
                    try clear c37b0
                    try clear c38
                    try clear c38b0
                    try clear c40
                    try clear hx1090_0
                    try clear hx1090_1
                    try clear p1090
                    try clear p2
                    try clear q1090
                    obtain ⟨x12_3, rfl, HA, HK3, HO_3, HO_4, HO_5, BK1086, HB⟩ := hrel
                    cases gk with
                    | zero => exact absurd HA.out (by simp [laws_FnJoined.l1])
                    | succ k3 =>
                      have H := HA.out
                      clear HA
                      simp only [laws_FnJoined.l1] at H
                      by_cases c45 : x12_3 < (t1068.length : Int)
                      · rw [if_pos c45] at H
                        have c45b0 : decide (x12_3 < (t1068.length : Int)) = true := decide_eq_true c45
                        clear c45
                        by_cases c46 : 0 ≤ x12_3
                        · rw [if_pos c46] at H
                          have c46b0 : decide (0 ≤ x12_3) = true := decide_eq_true c46
                          clear c46
                          replace H := Option.bind_eq_some_iff.mp H
                          obtain ⟨t1093, A470, H⟩ := H
                          replace H : (if t1093 = true then (laws_FnJoined.l1 k3 t1067 t1068 t1073 (wrap64 (x12_3 + 1))) else (some false)) = some r := H
                          have A47 := Aside0.mk A470
                          clear A470
                          by_cases c48 : t1093 = true
                          · subst c48
                            have H1 : (laws_FnJoined.l1 k3 t1067 t1068 t1073 (wrap64 (x12_3 + 1))) = some r := by rw [if_pos rfl] at H; exact H
                            clear H
                            have H := H1
                            clear H1
                            have H' := Aside0.mk H
                            clear H
                            have p1092 : 0 ≤ (x12_3 : Int) := of_decide_eq_true (by first | (with_reducible assumption) | assumption)
                            have q1092 : x12_3 < (t1068.length : Int) := of_decide_eq_true (by first | (with_reducible assumption) | assumption)
                            obtain ⟨ad1092, e1092, hx1092_0, hx1092_1⟩ := at_T57 (Kd.R_reads' HO_4.out).2.2 x12_3 p1092 q1092
                            cases e1092
                            replace p1092 := eq_true p1092
                            replace q1092 := eq_true q1092
                            obtain ⟨Ao49, co49, eo49⟩ := Kd.R_slice HO_5.out
                            subst eo49
                            go_wp2_with (first | ((with_reducible refine gate_callee (f := 54) rfl ?_); refine goesL_ (some 81) rfl rfl Try.func54 (by kernel_rfl) rfl #[.slice Ao49 t1073.length co49, .agg #[.int .i64 ((rd_T57 t1068 x12_3).f0), .int .i64 ((rd_T57 t1068 x12_3).f1)]] rfl (by (try simp only [List.map_toArray, List.map_cons, List.map_nil]); first | done | rfl | (simp only [List.length_drop, List.length_take]; rfl)) ?_; (with_reducible refine (impl_HasCell.calls k3 _ _ t1073 ((rd_T57 t1068 x12_3).f0) ((rd_T57 t1068 x12_3).f1) true _ ?side1 ?side2 A47.out).mono ?_); (case side1 => repeat (first | exact (Kd.R_reads' HO_5.out).2.2 | (with_reducible refine Kd.C_alloc ?_ _) | (with_reducible refine Kd.C_drewN ?_ _) | (with_reducible refine Kd.C_drew ?_))); (case side2 => exact (Kd.R_reads' HO_5.out).2.1); rintro e w50 ⟨rfl, hb⟩; refine ⟨_, rfl, ?_⟩; have n0_ := Aside0.mk (Kd.R_below (by (with_reducible repeat (first | apply Kd.R_alloc | apply Kd.R_drewN | apply Kd.R_drew)); exact HO_3.out) hb); have n1_ := Aside0.mk (Kd.R_below (by (with_reducible repeat (first | apply Kd.R_alloc | apply Kd.R_drewN | apply Kd.R_drew)); exact HO_4.out) hb); have n2_ := Aside0.mk (Kd.R_below (by (with_reducible repeat (first | apply Kd.R_alloc | apply Kd.R_drewN | apply Kd.R_drew)); exact HO_5.out) hb); have n3_ := Aside0.mk (blk_below (g := gb1086) (o := .cells #[.int .i64 t1084, .int .i64 t1085] 57 (0, 0)) (by (with_reducible repeat (first | refine blk_drewN ?_ _ | refine blk_drew ?_ | refine blk_alloc ?_ _)); exact BK1086.out) hb); have n4_ := Aside0.mk (below_step (by repeat (first | (with_reducible first | exact HB.out | apply below_alloc | apply pw_below_drewN | apply below_drew1 | refine below_set ?_ GE1086.out) | exact HB.out)) hb); clear HO_3; clear HO_4; clear HO_5; clear BK1086; clear HB; have HO_3 := n0_; have HO_4 := n1_; have HO_5 := n2_; have BK1086 := n3_; have HB := n4_; clear n0_ n1_ n2_ n3_ n4_; (try clear hb); (try clear hb2); (try clear hk); (try clear hi)))
                            go_roundg k3
                            case measure => have := HJ7.out; have := HK2.out; have := HK3.out; omega
                            case rel => exact ⟨(wrap64 (x12_3 + 1)), (by first | rfl | (simp; done) | (simp [*]; done)), H', ⟨by have := HJ7.out; have := HK2.out; have := HK3.out; omega⟩, ⟨by (with_reducible repeat (first | apply Kd.R_alloc | apply Kd.R_drewN | apply Kd.R_drew)); exact HO_3.out⟩, ⟨by (with_reducible repeat (first | apply Kd.R_alloc | apply Kd.R_drewN | apply Kd.R_drew)); exact HO_4.out⟩, ⟨by (with_reducible repeat (first | apply Kd.R_alloc | apply Kd.R_drewN | apply Kd.R_drew)); exact HO_5.out⟩, ⟨by (with_reducible repeat (first | refine blk_drewN ?_ _ | refine blk_drew ?_ | refine blk_alloc ?_ _)); exact BK1086.out⟩, ⟨by repeat (first | (with_reducible first | exact HB.out | apply below_alloc | apply pw_below_drewN | apply below_drew1 | refine below_set ?_ GE1086.out) | exact HB.out)⟩⟩
                          · replace c48 := Bool.eq_false_iff.mpr c48
                            subst c48
                            have H1 : (some false) = some r := by rw [if_neg (show ¬ (false = true) by decide)] at H; exact H
                            clear H
                            have H := H1
                            clear H1
                            obtain rfl := Option.some.inj H
                            have p1092 : 0 ≤ (x12_3 : Int) := of_decide_eq_true (by first | (with_reducible assumption) | assumption)
                            have q1092 : x12_3 < (t1068.length : Int) := of_decide_eq_true (by first | (with_reducible assumption) | assumption)
                            obtain ⟨ad1092, e1092, hx1092_0, hx1092_1⟩ := at_T57 (Kd.R_reads' HO_4.out).2.2 x12_3 p1092 q1092
                            cases e1092
                            replace p1092 := eq_true p1092
                            replace q1092 := eq_true q1092
                            obtain ⟨Ao51, co51, eo51⟩ := Kd.R_slice HO_5.out
                            subst eo51
                            go_wp2_with (first | ((with_reducible refine gate_callee (f := 54) rfl ?_); refine goesL_ (some 81) rfl rfl Try.func54 (by kernel_rfl) rfl #[.slice Ao51 t1073.length co51, .agg #[.int .i64 ((rd_T57 t1068 x12_3).f0), .int .i64 ((rd_T57 t1068 x12_3).f1)]] rfl (by (try simp only [List.map_toArray, List.map_cons, List.map_nil]); first | done | rfl | (simp only [List.length_drop, List.length_take]; rfl)) ?_; (with_reducible refine (impl_HasCell.calls k3 _ _ t1073 ((rd_T57 t1068 x12_3).f0) ((rd_T57 t1068 x12_3).f1) false _ ?side1 ?side2 A47.out).mono ?_); (case side1 => repeat (first | exact (Kd.R_reads' HO_5.out).2.2 | (with_reducible refine Kd.C_alloc ?_ _) | (with_reducible refine Kd.C_drewN ?_ _) | (with_reducible refine Kd.C_drew ?_))); (case side2 => exact (Kd.R_reads' HO_5.out).2.1); rintro e w52 ⟨rfl, hb⟩; refine ⟨_, rfl, ?_⟩; have n0_ := Aside0.mk (Kd.R_below (by (with_reducible repeat (first | apply Kd.R_alloc | apply Kd.R_drewN | apply Kd.R_drew)); exact HO_3.out) hb); have n1_ := Aside0.mk (Kd.R_below (by (with_reducible repeat (first | apply Kd.R_alloc | apply Kd.R_drewN | apply Kd.R_drew)); exact HO_4.out) hb); have n2_ := Aside0.mk (Kd.R_below (by (with_reducible repeat (first | apply Kd.R_alloc | apply Kd.R_drewN | apply Kd.R_drew)); exact HO_5.out) hb); have n3_ := Aside0.mk (blk_below (g := gb1086) (o := .cells #[.int .i64 t1084, .int .i64 t1085] 57 (0, 0)) (by (with_reducible repeat (first | refine blk_drewN ?_ _ | refine blk_drew ?_ | refine blk_alloc ?_ _)); exact BK1086.out) hb); have n4_ := Aside0.mk (below_step (by repeat (first | (with_reducible first | exact HB.out | apply below_alloc | apply pw_below_drewN | apply below_drew1 | refine below_set ?_ GE1086.out) | exact HB.out)) hb); clear HO_3; clear HO_4; clear HO_5; clear BK1086; clear HB; have HO_3 := n0_; have HO_4 := n1_; have HO_5 := n2_; have BK1086 := n3_; have HB := n4_; clear n0_ n1_ n2_ n3_ n4_; (try clear hb); (try clear hb2); (try clear hk); (try clear hi)))
                            go_ret
                            exact ⟨by first | rfl | (simp [errW_none, errW_some] <;> rfl) | (simp [*, errW_none, errW_some] <;> rfl), by repeat (first | (with_reducible first | exact HB.out | apply below_alloc | apply pw_below_drewN | apply below_drew1 | refine below_set ?_ GE1086.out) | exact HB.out)⟩
                        · rw [if_neg c46] at H
                          exact absurd H (by simp)
                      · rw [if_neg c45] at H
                        have c45b0 : decide (x12_3 < (t1068.length : Int)) = false := decide_eq_false c45
                        clear c45
                        obtain rfl := Option.some.inj H
                        obtain ⟨Ao53, co53, eo53⟩ := Kd.R_slice HO_5.out
                        subst eo53
                        go_wp2
                        go_ret
                        exact ⟨by first | rfl | (simp [errW_none, errW_some] <;> rfl) | (simp [*, errW_none, errW_some] <;> rfl), by repeat (first | (with_reducible first | exact HB.out | apply below_alloc | apply pw_below_drewN | apply below_drew1 | refine below_set ?_ GE1086.out) | exact HB.out)⟩
          · rw [if_neg c36] at H
            have c36b0 : (t1074 == 0) = false := beq_eq_false_iff_ne.mpr c36
            have c36b1 : (t1074 != 0) = true := bne_iff_ne.mpr c36
            obtain rfl := Option.some.inj H
            go_wp2
            go_ret
            exact ⟨by first | rfl | (simp [errW_none, errW_some] <;> rfl) | (simp [*, errW_none, errW_some] <;> rfl), by repeat (first | (with_reducible first | exact HB.out | apply below_alloc | apply pw_below_drewN | apply below_drew1 | refine below_set ?_ GE1086.out) | exact HB.out)⟩

/-- THE ONE PURE STATEMENT of laws_FnJoined: yours. -/
def laws_FnJoined.Pure : Prop := ∀ (l0 : List Int), l0.length ≤ maxLen → l0.length * 1 ≤ 140737488351232 → (∀ x ∈ l0, (Lit.int .u8 x).wf = true) → ∃ k, laws_FnJoined.f k l0 = some true
theorem laws_FnJoined.walk (P : laws_FnJoined.Pure) (a0 : Option Addr) (len0 cap0 : Nat) (z0 : List Int) (w : World) (w0 : (a0 = none ∧ len0 = 0 ∧ cap0 = 0 ∧ z0 = []) ∨ ∃ x, a0 = some x ∧ len0 ≤ cap0 ∧ cap0 ≤ maxLen ∧ z0.length = cap0 ∧ (∀ i, i < z0.length → w.cell? (x.add i) = some (.int .u8 (z0.getD i 0))) ∧ ∀ n ∈ z0, (Lit.int .u8 n).wf = true) (y0 : len0 * 1 ≤ 140737488351232) :
    Calls Try.prog 13 #[.slice a0 len0 cap0] w fun e w' => e = .returned (.bool true) ∧ Below w.heap.size w w' := by
  obtain ⟨l0, rfl, hr0, hm0, hw0, hc0⟩ := ReadsInt.ofRowC w0
  obtain ⟨k, h⟩ := P l0 hm0 y0 hw0
  refine (laws_FnJoined.calls k _ _ l0 true w (Kd.C_of_reads (d := (0 : Int)) (h1 := fun _ => rfl) hr0) hc0 h).mono ?_
  rintro e w' ⟨rfl, hd⟩
  exact ⟨rfl, hd⟩

end Go.Proofs.Ytbfmocohknadkaa.X
