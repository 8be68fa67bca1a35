-- xprint.py
import Derived.Test.YtbfmocohknadkaaXx0
import Derived.Test.YtbfmocohknadkaaXx3
import Derived.Test.YtbfmocohknadkaaXx18
import Derived.Test.YtbfmocohknadkaaXx22
import Derived.Test.YtbfmocohknadkaaXx24
import Derived.Test.YtbfmocohknadkaaXx36
namespace Go.Proofs.Ytbfmocohknadkaa.X
open Go.RowKit Go.Proofs.YtbfmocohknadkaaW.PrintWords Go.Proofs.YtbfmocohknadkaaW.PrintLast Go.Proofs.YtbfmocohknadkaaW.PrintMore
attribute [local go_sem] max2_int min2_int max_two min_two max_three min_three max_four min_four   -- for this text's walks alone
set_option linter.unusedVariables false
set_option linter.unusedSimpArgs false

/-! ### laws_FnNormal: function 14 -/
def laws_FnNormal.j0 : Nat → List (S57) → Int → Int → List (S57) → Int → Bool → Option (Bool)
 | 0, _, _, _, _, _, _ => none
 | k + 1, x3, x4, x5, x6, x7, x83 => if x83 = true then (some false) else (if x7 = 0 then ((impl_NormalForm.f k x3).bind fun bt1175 => ((impl_NormalForm.f k x6).bind fun bt1179 => ((spec_NormalForm.f k x3).bind fun bt1183 => ((impl_MoveShape.f k x6 (wrap64 (-x4)) (wrap64 (-x5))).bind fun bt1187 => (if bt1175.2 = bt1183.2 then (if bt1179.2 = bt1183.2 then ((laws_likeCells.f k bt1175.1 bt1183.1).bind fun t1191 => (if t1191 = true then ((laws_likeCells.f k bt1179.1 bt1183.1).bind fun t1192 => (if t1192 = true then (if bt1187.2 = 0 then ((laws_likeCells.f k bt1187.1 x3).bind fun t1193 => (some t1193)) else (some false)) else (some false))) else (some false))) else (some false)) else (some false)))))) else (some true))
def laws_FnNormal.f (k : Nat) (l0 : List Int) : Option (Bool) := (laws_big.f l0).bind fun t1146 => (if t1146 = true then (some true) else ((spec_DrawMoveShape.f k l0).bind fun bt1147 => ((impl_MoveShape.f k bt1147.1 bt1147.2.1 bt1147.2.2).bind fun bt1152 => ((spec_MoveShape.f k bt1147.1 bt1147.2.1 bt1147.2.2).bind fun bt1156 => ((spec_DrawSortCells.f k l0).bind fun t1160 => ((impl_SortCells.f k t1160).bind fun bt1163 => ((spec_SortCells.f k t1160).bind fun bt1167 => (if bt1152.2 = bt1156.2 then ((laws_likeCells.f k bt1152.1 bt1156.1).bind fun t1171 => (if t1171 = true then (if bt1163.2 = bt1167.2 then ((laws_likeCells.f k bt1163.1 bt1167.1).bind fun t1172 => (if t1172 = true then ((impl_IsShape.f k bt1147.1).bind fun t1173 => ((spec_IsShape.f k bt1147.1).bind fun t1174 => (laws_FnNormal.j0 k bt1147.1 bt1147.2.1 bt1147.2.2 bt1152.1 bt1152.2 (t1173 != t1174)))) else (laws_FnNormal.j0 k bt1147.1 bt1147.2.1 bt1147.2.2 bt1152.1 bt1152.2 true))) else (laws_FnNormal.j0 k bt1147.1 bt1147.2.1 bt1147.2.2 bt1152.1 bt1152.2 true)) else (laws_FnNormal.j0 k bt1147.1 bt1147.2.1 bt1147.2.2 bt1152.1 bt1152.2 true))) else (laws_FnNormal.j0 k bt1147.1 bt1147.2.1 bt1147.2.2 bt1152.1 bt1152.2 true)))))))))
theorem laws_FnNormal.mono_l : ∀ k, (∀ y0 y1 y2 y3 y4 y5, LeO (laws_FnNormal.j0 k y0 y1 y2 y3 y4 y5) (laws_FnNormal.j0 (k + 1) y0 y1 y2 y3 y4 y5))
 | 0 => fun _ _ _ _ _ _ r h => by simp [laws_FnNormal.j0] at h
 | k + 1 => by
  have ih0 := laws_FnNormal.mono_l k
  ·intro y0 y1 y2 y3 y4 y5
   unfold laws_FnNormal.j0
   repeat' first
   | (with_reducible exact ih0 _ _ _ _ _ _)
   | (with_reducible exact impl_IsShape.mono _ _)
   | (with_reducible exact impl_MoveShape.mono _ _ _ _)
   | (with_reducible exact impl_NormalForm.mono _ _)
   | (with_reducible exact impl_SortCells.mono _ _)
   | (with_reducible exact laws_likeCells.mono _ _ _)
   | (with_reducible exact spec_DrawMoveShape.mono _ _)
   | (with_reducible exact spec_DrawSortCells.mono _ _)
   | (with_reducible exact spec_IsShape.mono _ _)
   | (with_reducible exact spec_MoveShape.mono _ _ _ _)
   | (with_reducible exact spec_NormalForm.mono _ _)
   | (with_reducible exact spec_SortCells.mono _ _)
   | (with_reducible exact LeO.refl _)
   | (with_reducible exact LeO.none _)
   | (with_reducible refine LeO.ite ?_ ?_)
   | (with_reducible refine LeO.bind ?_ (fun _ => ?_))
   | exact ih0 _ _ _ _ _ _
   | exact impl_IsShape.mono _ _
   | exact impl_MoveShape.mono _ _ _ _
   | exact impl_NormalForm.mono _ _
   | exact impl_SortCells.mono _ _
   | exact laws_likeCells.mono _ _ _
   | exact spec_DrawMoveShape.mono _ _
   | exact spec_DrawSortCells.mono _ _
   | exact spec_IsShape.mono _ _
   | exact spec_MoveShape.mono _ _ _ _
   | exact spec_NormalForm.mono _ _
   | exact spec_SortCells.mono _ _
   | exact LeO.none _
   | refine LeO.ite ?_ ?_
   | refine LeO.bind ?_ (fun _ => ?_)
theorem laws_FnNormal.mono : ∀ a0 k, LeO (laws_FnNormal.f k a0) (laws_FnNormal.f (k + 1) a0) := by
 intro a0 k
 have ih0 := laws_FnNormal.mono_l k
 unfold laws_FnNormal.f
 repeat' first
   | (with_reducible exact ih0 _ _ _ _ _ _)
   | (with_reducible exact impl_IsShape.mono _ _)
   | (with_reducible exact impl_MoveShape.mono _ _ _ _)
   | (with_reducible exact impl_NormalForm.mono _ _)
   | (with_reducible exact impl_SortCells.mono _ _)
   | (with_reducible exact laws_likeCells.mono _ _ _)
   | (with_reducible exact spec_DrawMoveShape.mono _ _)
   | (with_reducible exact spec_DrawSortCells.mono _ _)
   | (with_reducible exact spec_IsShape.mono _ _)
   | (with_reducible exact spec_MoveShape.mono _ _ _ _)
   | (with_reducible exact spec_NormalForm.mono _ _)
   | (with_reducible exact spec_SortCells.mono _ _)
   | (with_reducible exact LeO.refl _)
   | (with_reducible exact LeO.none _)
   | (with_reducible refine LeO.ite ?_ ?_)
   | (with_reducible refine LeO.bind ?_ (fun _ => ?_))
   | exact ih0 _ _ _ _ _ _
   | exact impl_IsShape.mono _ _
   | exact impl_MoveShape.mono _ _ _ _
   | exact impl_NormalForm.mono _ _
   | exact impl_SortCells.mono _ _
   | exact laws_likeCells.mono _ _ _
   | exact spec_DrawMoveShape.mono _ _
   | exact spec_DrawSortCells.mono _ _
   | exact spec_IsShape.mono _ _
   | exact spec_MoveShape.mono _ _ _ _
   | exact spec_NormalForm.mono _ _
   | exact spec_SortCells.mono _ _
   | exact LeO.none _
   | refine LeO.ite ?_ ?_
   | refine LeO.bind ?_ (fun _ => ?_)
set_option maxHeartbeats 8000000 in
set_option maxRecDepth 100000 in
theorem laws_FnNormal.calls (k : Nat) (A0 : Option Addr) (c0 : Nat) (l0 : List Int) (r : Bool) (w : World) (hr0 : Kd.C (Kd.int .u8) w A0 l0.length l0) (hc0 : l0.length ≤ c0) (h : laws_FnNormal.f k l0 = some r) :
  Calls Try.prog 14 #[.slice A0 l0.length c0] w fun e w' => e = .returned (.bool r) ∧ Below w.heap.size w w' := by
 have HR0 := Aside0.mk hr0
 have HC0 := Aside0.mk hc0
 clear hr0 hc0
 have HB := Aside0.mk (Below.refl w.heap.size w)
 have H : ((laws_big.f l0).bind fun t1146 => (if t1146 = true then (some true) else ((spec_DrawMoveShape.f k l0).bind fun bt1147 => ((impl_MoveShape.f k bt1147.1 bt1147.2.1 bt1147.2.2).bind fun bt1152 => ((spec_MoveShape.f k bt1147.1 bt1147.2.1 bt1147.2.2).bind fun bt1156 => ((spec_DrawSortCells.f k l0).bind fun t1160 => ((impl_SortCells.f k t1160).bind fun bt1163 => ((spec_SortCells.f k t1160).bind fun bt1167 => (if bt1152.2 = bt1156.2 then ((laws_likeCells.f k bt1152.1 bt1156.1).bind fun t1171 => (if t1171 = true then (if bt1163.2 = bt1167.2 then ((laws_likeCells.f k bt1163.1 bt1167.1).bind fun t1172 => (if t1172 = true then ((impl_IsShape.f k bt1147.1).bind fun t1173 => ((spec_IsShape.f k bt1147.1).bind fun t1174 => (laws_FnNormal.j0 k bt1147.1 bt1147.2.1 bt1147.2.2 bt1152.1 bt1152.2 (t1173 != t1174)))) else (laws_FnNormal.j0 k bt1147.1 bt1147.2.1 bt1147.2.2 bt1152.1 bt1152.2 true))) else (laws_FnNormal.j0 k bt1147.1 bt1147.2.1 bt1147.2.2 bt1152.1 bt1152.2 true)) else (laws_FnNormal.j0 k bt1147.1 bt1147.2.1 bt1147.2.2 bt1152.1 bt1152.2 true))) else (laws_FnNormal.j0 k bt1147.1 bt1147.2.1 bt1147.2.2 bt1152.1 bt1152.2 true)))))))))) = some r := h
 clear h
 replace H := Option.bind_eq_some_iff.mp H
 obtain ⟨t1146, A20, H⟩ := H
 try dsimp only at H
 have A2 := Aside0.mk A20
 clear A20
 by_cases c3 : t1146 = true
 ·subst c3
  have H1 : (some true) = some r := by rw [if_pos rfl] at H; exact H
  clear H
  have H := H1
  clear H1
  obtain rfl := Option.some.inj H
  go_enter Try.func14, Try.ntmps14
  go_wp2_with (first | ((with_reducible refine gate_callee (f := 30) rfl ?_); refine gL_ (some 24) Try.func30 #[.slice A0 l0.length c0] ?_; (with_reducible refine (laws_big.calls _ _ l0 true _ ?side1 ?side2 A2.out).mono ?_); (case side1 => exact cS_ HR0.out); (case side2 => exact HC0.out); rintro e w' ⟨rfl, ⟨nd, rfl⟩⟩; refine ⟨_, rfl, ?_⟩))
  go_ret
  exact ⟨r2_, bB_⟩
 ·replace c3 := Bool.eq_false_iff.mpr c3
  subst c3
  have H1 : ((spec_DrawMoveShape.f k l0).bind fun bt1147 => ((impl_MoveShape.f k bt1147.1 bt1147.2.1 bt1147.2.2).bind fun bt1152 => ((spec_MoveShape.f k bt1147.1 bt1147.2.1 bt1147.2.2).bind fun bt1156 => ((spec_DrawSortCells.f k l0).bind fun t1160 => ((impl_SortCells.f k t1160).bind fun bt1163 => ((spec_SortCells.f k t1160).bind fun bt1167 => (if bt1152.2 = bt1156.2 then ((laws_likeCells.f k bt1152.1 bt1156.1).bind fun t1171 => (if t1171 = true then (if bt1163.2 = bt1167.2 then ((laws_likeCells.f k bt1163.1 bt1167.1).bind fun t1172 => (if t1172 = true then ((impl_IsShape.f k bt1147.1).bind fun t1173 => ((spec_IsShape.f k bt1147.1).bind fun t1174 => (laws_FnNormal.j0 k bt1147.1 bt1147.2.1 bt1147.2.2 bt1152.1 bt1152.2 (t1173 != t1174)))) else (laws_FnNormal.j0 k bt1147.1 bt1147.2.1 bt1147.2.2 bt1152.1 bt1152.2 true))) else (laws_FnNormal.j0 k bt1147.1 bt1147.2.1 bt1147.2.2 bt1152.1 bt1152.2 true)) else (laws_FnNormal.j0 k bt1147.1 bt1147.2.1 bt1147.2.2 bt1152.1 bt1152.2 true))) else (laws_FnNormal.j0 k bt1147.1 bt1147.2.1 bt1147.2.2 bt1152.1 bt1152.2 true)))))))) = some r := by rw [if_neg (show ¬ (false = true) by decide)] at H; exact H
  clear H
  have H := H1
  clear H1
  replace H := Option.bind_eq_some_iff.mp H
  obtain ⟨⟨t1147, t1148, t1149⟩, A40, H⟩ := H
  try dsimp only at H
  have A4 := Aside0.mk A40
  clear A40
  replace H := Option.bind_eq_some_iff.mp H
  obtain ⟨⟨t1152, t1153⟩, A50, H⟩ := H
  try dsimp only at H
  have A5 := Aside0.mk A50
  clear A50
  replace H := Option.bind_eq_some_iff.mp H
  obtain ⟨⟨t1156, t1157⟩, A60, H⟩ := H
  try dsimp only at H
  have A6 := Aside0.mk A60
  clear A60
  replace H := Option.bind_eq_some_iff.mp H
  obtain ⟨t1160, A70, H⟩ := H
  try dsimp only at H
  have A7 := Aside0.mk A70
  clear A70
  replace H := Option.bind_eq_some_iff.mp H
  obtain ⟨⟨t1163, t1164⟩, A80, H⟩ := H
  try dsimp only at H
  have A8 := Aside0.mk A80
  clear A80
  replace H := Option.bind_eq_some_iff.mp H
  obtain ⟨⟨t1167, t1168⟩, A90, H⟩ := H
  try dsimp only at H
  have A9 := Aside0.mk A90
  clear A90
  have HC10 := Aside0.mk H
  clear H
  go_enter Try.func14, Try.ntmps14
  go_upto_region 9 with (first | ((with_reducible refine gate_callee (f := 30) rfl ?_); refine gL_ (some 24) Try.func30 #[.slice A0 l0.length c0] ?_; (with_reducible refine (laws_big.calls _ _ l0 false _ ?side1 ?side2 A2.out).mono ?_); (case side1 => exact cS_ HR0.out); (case side2 => exact HC0.out); rintro e w' ⟨rfl, ⟨nd, rfl⟩⟩; refine ⟨_, rfl, ?_⟩) | ((with_reducible refine gate_callee (f := 56) rfl ?_); refine gL_ (some 27) Try.func56 #[.slice A0 l0.length c0] ?_; (with_reducible refine (spec_DrawMoveShape.calls k _ _ l0 t1147 t1148 t1149 _ ?side1 ?side2 A4.out).mono ?_); (case side1 => exact cS_ HR0.out); (case side2 => exact HC0.out); rintro e w11 ⟨v1150, rfl, ho0, hb⟩; refine ⟨_, rfl, ?_⟩; have HO1151 := Aside0.mk (Kd.R_lower ho0 (below_size bB_)); replace HB := Aside0.mk (below_step bB_ hb); (try clear hb ho0); obtain ⟨Ao12, co12, eo12⟩ := Kd.R_slice HO1151.out; subst eo12) | ((with_reducible refine gate_callee (f := 57) rfl ?_); refine gL_ (some 35) Try.func57 #[.slice Ao12 t1147.length co12, .int .i64 t1148, .int .i64 t1149] ?_; (with_reducible refine (impl_MoveShape.calls k _ _ t1147 t1148 t1149 t1152 t1153 _ ?side1 ?side2 A5.out).mono ?_); (case side1 => exact cS_ ((Kd.R_reads' HO1151.out).2.2)); (case side2 => exact (Kd.R_reads' HO1151.out).2.1); rintro e w13 ⟨v1154, rfl, ho0, hb⟩; refine ⟨_, rfl, ?_⟩; have HO1155 := Aside0.mk (Kd.R_lower (Kd.R_new' ho0 (Kd.R_lt (rS_ HO1151.out))) (below_size bB_)); replace HO1151 := Aside0.mk (Kd.R_elder' (rS_ HO1151.out) (Kd.R_base ho0) hb); replace HB := Aside0.mk (below_step bB_ hb); (try clear hb ho0)) | ((with_reducible refine gate_callee (f := 58) rfl ?_); refine gL_ (some 42) Try.func58 #[.slice Ao12 t1147.length co12, .int .i64 t1148, .int .i64 t1149] ?_; (with_reducible refine (spec_MoveShape.calls k _ _ t1147 t1148 t1149 t1156 t1157 _ ?side1 ?side2 A6.out).mono ?_); (case side1 => exact cS_ ((Kd.R_reads' HO1151.out).2.2)); (case side2 => exact (Kd.R_reads' HO1151.out).2.1); rintro e w14 ⟨v1158, rfl, ho0, hb⟩; refine ⟨_, rfl, ?_⟩; have HO1159 := Aside0.mk (Kd.R_lower (Kd.R_new' (Kd.R_new' ho0 (Kd.R_lt (rS_ HO1151.out))) (Kd.R_lt (rS_ HO1155.out))) (below_size bB_)); replace HO1151 := Aside0.mk (Kd.R_elder' (rS_ HO1151.out) (Kd.R_base ho0) hb); replace HO1155 := Aside0.mk (Kd.R_elder' (rS_ HO1155.out) (Kd.R_base ho0) hb); replace HB := Aside0.mk (below_step bB_ hb); (try clear hb ho0)) | ((with_reducible refine gate_callee (f := 59) rfl ?_); refine gL_ (some 46) Try.func59 #[.slice A0 l0.length c0] ?_; (with_reducible refine (spec_DrawSortCells.calls k _ _ l0 t1160 _ ?side1 ?side2 A7.out).mono ?_); (case side1 => exact cS_ (Kd.C_below HR0.out HB.out)); (case side2 => exact HC0.out); rintro e w15 ⟨v1161, rfl, ho0, hb⟩; refine ⟨_, rfl, ?_⟩; have HO1162 := Aside0.mk (Kd.R_lower (Kd.R_new' (Kd.R_new' (Kd.R_new' ho0 (Kd.R_lt (rS_ HO1151.out))) (Kd.R_lt (rS_ HO1155.out))) (Kd.R_lt (rS_ HO1159.out))) (below_size bB_)); replace HO1151 := Aside0.mk (Kd.R_elder' (rS_ HO1151.out) (Kd.R_base ho0) hb); replace HO1155 := Aside0.mk (Kd.R_elder' (rS_ HO1155.out) (Kd.R_base ho0) hb); replace HO1159 := Aside0.mk (Kd.R_elder' (rS_ HO1159.out) (Kd.R_base ho0) hb); replace HB := Aside0.mk (below_step bB_ hb); (try clear hb ho0); obtain ⟨Ao16, co16, eo16⟩ := Kd.R_slice HO1162.out; subst eo16) | ((with_reducible refine gate_callee (f := 43) rfl ?_); refine gL_ (some 49) Try.func43 #[.slice Ao16 t1160.length co16] ?_; (with_reducible refine (impl_SortCells.calls k _ _ t1160 t1163 t1164 _ ?side1 ?side2 A8.out).mono ?_); (case side1 => exact cS_ ((Kd.R_reads' HO1162.out).2.2)); (case side2 => exact (Kd.R_reads' HO1162.out).2.1); rintro e w17 ⟨v1165, rfl, ho0, hb⟩; refine ⟨_, rfl, ?_⟩; have HO1166 := Aside0.mk (Kd.R_lower (Kd.R_new' (Kd.R_new' (Kd.R_new' (Kd.R_new' ho0 (Kd.R_lt (rS_ HO1151.out))) (Kd.R_lt (rS_ HO1155.out))) (Kd.R_lt (rS_ HO1159.out))) (Kd.R_lt (rS_ HO1162.out))) (below_size bB_)); replace HO1151 := Aside0.mk (Kd.R_elder' (rS_ HO1151.out) (Kd.R_base ho0) hb); replace HO1155 := Aside0.mk (Kd.R_elder' (rS_ HO1155.out) (Kd.R_base ho0) hb); replace HO1159 := Aside0.mk (Kd.R_elder' (rS_ HO1159.out) (Kd.R_base ho0) hb); replace HO1162 := Aside0.mk (Kd.R_elder' (rS_ HO1162.out) (Kd.R_base ho0) hb); replace HB := Aside0.mk (below_step bB_ hb); (try clear hb ho0)) | ((with_reducible refine gate_callee (f := 42) rfl ?_); refine gL_ (some 54) Try.func42 #[.slice Ao16 t1160.length co16] ?_; (with_reducible refine (spec_SortCells.calls k _ _ t1160 t1167 t1168 _ ?side1 ?side2 A9.out).mono ?_); (case side1 => exact cS_ ((Kd.R_reads' HO1162.out).2.2)); (case side2 => exact (Kd.R_reads' HO1162.out).2.1); rintro e w18 ⟨v1169, rfl, ho0, hb⟩; refine ⟨_, rfl, ?_⟩; have HO1170 := Aside0.mk (Kd.R_lower (Kd.R_new' (Kd.R_new' (Kd.R_new' (Kd.R_new' (Kd.R_new' ho0 (Kd.R_lt (rS_ HO1151.out))) (Kd.R_lt (rS_ HO1155.out))) (Kd.R_lt (rS_ HO1159.out))) (Kd.R_lt (rS_ HO1162.out))) (Kd.R_lt (rS_ HO1166.out))) (below_size bB_)); replace HO1151 := Aside0.mk (Kd.R_elder' (rS_ HO1151.out) (Kd.R_base ho0) hb); replace HO1155 := Aside0.mk (Kd.R_elder' (rS_ HO1155.out) (Kd.R_base ho0) hb); replace HO1159 := Aside0.mk (Kd.R_elder' (rS_ HO1159.out) (Kd.R_base ho0) hb); replace HO1162 := Aside0.mk (Kd.R_elder' (rS_ HO1162.out) (Kd.R_base ho0) hb); replace HO1166 := Aside0.mk (Kd.R_elder' (rS_ HO1166.out) (Kd.R_base ho0) hb); replace HB := Aside0.mk (below_step bB_ hb); (try clear hb ho0)))
  (try simp only [Act.put, List.setIfInBounds_toArray, List.set_cons_zero, List.set_cons_succ])
  go_cut [83] (fun v83 wc => ∃ (kq : Nat) (x83_9 : Bool), v83 = .bool x83_9 ∧ Aside0 (laws_FnNormal.j0 kq t1147 t1148 t1149 t1152 t1153 x83_9 = some r) ∧ Aside0 (kq ≤ k) ∧ Aside0 (Kd.R k57 57 wc w.heap.size (fun k_ => some k_ ≠ (v1154 : Value).ownBlock) (.slice Ao12 t1147.length co12) t1147) ∧ Aside0 (Kd.R k57 57 wc w.heap.size (fun k_ => some k_ ≠ ((.slice Ao12 t1147.length co12) : Value).ownBlock) v1154 t1152) ∧ Aside0 (Below w.heap.size w wc))
  case first =>
   have H := HC10.out
   clear HC10
   by_cases c19 : t1153 = t1157
   ·rw [if_pos c19] at H
    have c19b0 : (t1153 == t1157) = true := beq_iff_eq.mpr c19
    have c19b1 : (t1153 != t1157) = false := bne_eq_false_iff_eq.mpr c19
    clear c19
    (first | rw [c19b0] | (simp only [i64_w, i32_w]; rw [c19b0]) | skip)
    replace H := Option.bind_eq_some_iff.mp H
    obtain ⟨t1171, A200, H⟩ := H
    try dsimp only at H
    have A20 := Aside0.mk A200
    clear A200
    by_cases c21 : t1171 = true
    ·subst c21
     have H1 : (if t1164 = t1168 then ((laws_likeCells.f k t1163 t1167).bind fun t1172 => (if t1172 = true then ((impl_IsShape.f k t1147).bind fun t1173 => ((spec_IsShape.f k t1147).bind fun t1174 => (laws_FnNormal.j0 k t1147 t1148 t1149 t1152 t1153 (t1173 != t1174)))) else (laws_FnNormal.j0 k t1147 t1148 t1149 t1152 t1153 true))) else (laws_FnNormal.j0 k t1147 t1148 t1149 t1152 t1153 true)) = some r := by rw [if_pos rfl] at H; exact H
     clear H
     have H := H1
     clear H1
     by_cases c22 : t1164 = t1168
     ·rw [if_pos c22] at H
      have c22b0 : (t1164 == t1168) = true := beq_iff_eq.mpr c22
      have c22b1 : (t1164 != t1168) = false := bne_eq_false_iff_eq.mpr c22
      clear c22
      replace H := Option.bind_eq_some_iff.mp H
      obtain ⟨t1172, A230, H⟩ := H
      try dsimp only at H
      have A23 := Aside0.mk A230
      clear A230
      by_cases c24 : t1172 = true
      ·subst c24
       have H1 : ((impl_IsShape.f k t1147).bind fun t1173 => ((spec_IsShape.f k t1147).bind fun t1174 => (laws_FnNormal.j0 k t1147 t1148 t1149 t1152 t1153 (t1173 != t1174)))) = some r := by rw [if_pos rfl] at H; exact H
       clear H
       have H := H1
       clear H1
       replace H := Option.bind_eq_some_iff.mp H
       obtain ⟨t1173, A250, H⟩ := H
       try dsimp only at H
       have A25 := Aside0.mk A250
       clear A250
       replace H := Option.bind_eq_some_iff.mp H
       obtain ⟨t1174, A260, H⟩ := H
       try dsimp only at H
       have A26 := Aside0.mk A260
       clear A260
       have H' := Aside0.mk H
       clear H
       obtain ⟨Ao27, co27, eo27⟩ := Kd.R_slice HO1155.out
       subst eo27
       obtain ⟨Ao28, co28, eo28⟩ := Kd.R_slice HO1159.out
       subst eo28
       go_wp2_with (first | (go_at_call 53; (with_reducible refine (laws_likeCells.calls k _ _ t1152 _ _ t1156 true _ ?side1 ?side2 ?side3 ?side4 A20.out).mono ?_); (case side1 => exact cS_ ((Kd.R_reads' HO1155.out).2.2)); (case side2 => exact (Kd.R_reads' HO1155.out).2.1); (case side3 => exact cS_ ((Kd.R_reads' HO1159.out).2.2)); (case side4 => exact (Kd.R_reads' HO1159.out).2.1); rintro e w' ⟨rfl, ⟨nd, rfl⟩⟩; obtain ⟨Ao29, co29, eo29⟩ := Kd.R_slice HO1166.out; subst eo29; obtain ⟨Ao30, co30, eo30⟩ := Kd.R_slice HO1170.out; subst eo30) | (go_at_call 53; (with_reducible refine (laws_likeCells.calls k _ _ t1163 _ _ t1167 true _ ?side1 ?side2 ?side3 ?side4 A23.out).mono ?_); (case side1 => exact cS_ ((Kd.R_reads' HO1166.out).2.2)); (case side2 => exact (Kd.R_reads' HO1166.out).2.1); (case side3 => exact cS_ ((Kd.R_reads' HO1170.out).2.2)); (case side4 => exact (Kd.R_reads' HO1170.out).2.1); rintro e w' ⟨rfl, ⟨nd, rfl⟩⟩) | (go_at_call 60; (with_reducible refine (impl_IsShape.calls k _ _ t1147 t1173 _ ?side1 ?side2 A25.out).mono ?_); (case side1 => exact cS_ ((Kd.R_reads' HO1151.out).2.2)); (case side2 => exact (Kd.R_reads' HO1151.out).2.1); rintro e w31 ⟨rfl, hb⟩; replace HO1151 := Aside0.mk (Kd.R_below (rS_ HO1151.out) hb); replace HO1155 := Aside0.mk (Kd.R_below (rS_ HO1155.out) hb); replace HO1159 := Aside0.mk (Kd.R_below (rS_ HO1159.out) hb); replace HO1162 := Aside0.mk (Kd.R_below (rS_ HO1162.out) hb); replace HO1166 := Aside0.mk (Kd.R_below (rS_ HO1166.out) hb); replace HO1170 := Aside0.mk (Kd.R_below (rS_ HO1170.out) hb); replace HB := Aside0.mk (below_step bB_ hb); (try clear hb)) | (go_at_call 61; (with_reducible refine (spec_IsShape.calls k _ _ t1147 t1174 _ ?side1 ?side2 A26.out).mono ?_); (case side1 => exact cS_ ((Kd.R_reads' HO1151.out).2.2)); (case side2 => exact (Kd.R_reads' HO1151.out).2.1); rintro e w32 ⟨rfl, hb⟩; replace HO1151 := Aside0.mk (Kd.R_below (rS_ HO1151.out) hb); replace HO1155 := Aside0.mk (Kd.R_below (rS_ HO1155.out) hb); replace HO1159 := Aside0.mk (Kd.R_below (rS_ HO1159.out) hb); replace HO1162 := Aside0.mk (Kd.R_below (rS_ HO1162.out) hb); replace HO1166 := Aside0.mk (Kd.R_below (rS_ HO1166.out) hb); replace HO1170 := Aside0.mk (Kd.R_below (rS_ HO1170.out) hb); replace HB := Aside0.mk (below_step bB_ hb); (try clear hb)))
       go_meet
       case rel => exact ⟨_, ((t1173 != t1174)), r3_, H', ⟨by first | omega | exact Nat.le_refl _⟩, ⟨rS_ (Kd.R_mono HO1151.out (fun _ hk => hk.1.1.1.1.2))⟩, ⟨rS_ (Kd.R_mono HO1155.out (fun _ hk => hk.1.1.1.1.2))⟩, ⟨bB_⟩⟩
      ·replace c24 := Bool.eq_false_iff.mpr c24
       subst c24
       have H1 : (laws_FnNormal.j0 k t1147 t1148 t1149 t1152 t1153 true) = some r := by rw [if_neg (show ¬ (false = true) by decide)] at H; exact H
       clear H
       have H := H1
       clear H1
       have H' := Aside0.mk H
       clear H
       obtain ⟨Ao33, co33, eo33⟩ := Kd.R_slice HO1155.out
       subst eo33
       obtain ⟨Ao34, co34, eo34⟩ := Kd.R_slice HO1159.out
       subst eo34
       go_wp2_with (first | (go_at_call 53; (with_reducible refine (laws_likeCells.calls k _ _ t1152 _ _ t1156 true _ ?side1 ?side2 ?side3 ?side4 A20.out).mono ?_); (case side1 => exact cS_ ((Kd.R_reads' HO1155.out).2.2)); (case side2 => exact (Kd.R_reads' HO1155.out).2.1); (case side3 => exact cS_ ((Kd.R_reads' HO1159.out).2.2)); (case side4 => exact (Kd.R_reads' HO1159.out).2.1); rintro e w' ⟨rfl, ⟨nd, rfl⟩⟩; obtain ⟨Ao35, co35, eo35⟩ := Kd.R_slice HO1166.out; subst eo35; obtain ⟨Ao36, co36, eo36⟩ := Kd.R_slice HO1170.out; subst eo36) | (go_at_call 53; (with_reducible refine (laws_likeCells.calls k _ _ t1163 _ _ t1167 false _ ?side1 ?side2 ?side3 ?side4 A23.out).mono ?_); (case side1 => exact cS_ ((Kd.R_reads' HO1166.out).2.2)); (case side2 => exact (Kd.R_reads' HO1166.out).2.1); (case side3 => exact cS_ ((Kd.R_reads' HO1170.out).2.2)); (case side4 => exact (Kd.R_reads' HO1170.out).2.1); rintro e w' ⟨rfl, ⟨nd, rfl⟩⟩))
       go_meet
       case rel => exact ⟨_, (true), r3_, H', ⟨by first | omega | exact Nat.le_refl _⟩, ⟨rS_ (Kd.R_mono HO1151.out (fun _ hk => hk.1.1.1.1.2))⟩, ⟨rS_ (Kd.R_mono HO1155.out (fun _ hk => hk.1.1.1.1.2))⟩, ⟨bB_⟩⟩
     ·rw [if_neg c22] at H
      have c22b0 : (t1164 == t1168) = false := beq_eq_false_iff_ne.mpr c22
      have c22b1 : (t1164 != t1168) = true := bne_iff_ne.mpr c22
      have H' := Aside0.mk H
      clear H
      obtain ⟨Ao37, co37, eo37⟩ := Kd.R_slice HO1155.out
      subst eo37
      obtain ⟨Ao38, co38, eo38⟩ := Kd.R_slice HO1159.out
      subst eo38
      go_wp2_with (first | (go_at_call 53; (with_reducible refine (laws_likeCells.calls k _ _ t1152 _ _ t1156 true _ ?side1 ?side2 ?side3 ?side4 A20.out).mono ?_); (case side1 => exact cS_ ((Kd.R_reads' HO1155.out).2.2)); (case side2 => exact (Kd.R_reads' HO1155.out).2.1); (case side3 => exact cS_ ((Kd.R_reads' HO1159.out).2.2)); (case side4 => exact (Kd.R_reads' HO1159.out).2.1); rintro e w' ⟨rfl, ⟨nd, rfl⟩⟩))
      go_meet
      case rel => exact ⟨_, (true), r3_, H', ⟨by first | omega | exact Nat.le_refl _⟩, ⟨rS_ (Kd.R_mono HO1151.out (fun _ hk => hk.1.1.1.1.2))⟩, ⟨rS_ (Kd.R_mono HO1155.out (fun _ hk => hk.1.1.1.1.2))⟩, ⟨bB_⟩⟩
    ·replace c21 := Bool.eq_false_iff.mpr c21
     subst c21
     have H1 : (laws_FnNormal.j0 k t1147 t1148 t1149 t1152 t1153 true) = some r := by rw [if_neg (show ¬ (false = true) by decide)] at H; exact H
     clear H
     have H := H1
     clear H1
     have H' := Aside0.mk H
     clear H
     obtain ⟨Ao39, co39, eo39⟩ := Kd.R_slice HO1155.out
     subst eo39
     obtain ⟨Ao40, co40, eo40⟩ := Kd.R_slice HO1159.out
     subst eo40
     go_wp2_with (first | (go_at_call 53; (with_reducible refine (laws_likeCells.calls k _ _ t1152 _ _ t1156 false _ ?side1 ?side2 ?side3 ?side4 A20.out).mono ?_); (case side1 => exact cS_ ((Kd.R_reads' HO1155.out).2.2)); (case side2 => exact (Kd.R_reads' HO1155.out).2.1); (case side3 => exact cS_ ((Kd.R_reads' HO1159.out).2.2)); (case side4 => exact (Kd.R_reads' HO1159.out).2.1); rintro e w' ⟨rfl, ⟨nd, rfl⟩⟩))
     go_meet
     case rel => exact ⟨_, (true), r3_, H', ⟨by first | omega | exact Nat.le_refl _⟩, ⟨rS_ (Kd.R_mono HO1151.out (fun _ hk => hk.1.1.1.1.2))⟩, ⟨rS_ (Kd.R_mono HO1155.out (fun _ hk => hk.1.1.1.1.2))⟩, ⟨bB_⟩⟩
   ·rw [if_neg c19] at H
    have c19b0 : (t1153 == t1157) = false := beq_eq_false_iff_ne.mpr c19
    have c19b1 : (t1153 != t1157) = true := bne_iff_ne.mpr c19
    (first | rw [c19b0] | (simp only [i64_w, i32_w]; rw [c19b0]) | skip)
    have H' := Aside0.mk H
    clear H
    go_wp2
    go_meet
    case rel => exact ⟨_, (true), r3_, H', ⟨by first | omega | exact Nat.le_refl _⟩, ⟨rS_ (Kd.R_mono HO1151.out (fun _ hk => hk.1.1.1.1.2))⟩, ⟨rS_ (Kd.R_mono HO1155.out (fun _ hk => hk.1.1.1.1.2))⟩, ⟨bB_⟩⟩
  case rest =>
   clear HC10
   try clear c1
   try clear c2
   try clear p2
   try clear c3
   try clear c4
   try clear c5
   try clear c14
   try clear c19
   try clear c19b0
   try clear c19b1
   try clear c21
   try clear c22
   try clear c22b0
   try clear c22b1
   try clear c24
   try clear c30
   obtain ⟨kq, x83_9, rfl, HA, HJ9, HO_3, HO_6, HB⟩ := hcut
   cases kq with
   | zero => exact absurd HA.out (by simp [laws_FnNormal.j0])
   | succ kj9 =>
    have H := HA.out
    clear HA
    simp only [laws_FnNormal.j0] at H
    by_cases c41 : x83_9 = true
    ·subst c41
     have H1 : (some false) = some r := by rw [if_pos rfl] at H; exact H
     clear H
     have H := H1
     clear H1
     obtain rfl := Option.some.inj H
     go_wp2
     go_ret
     exact ⟨r2_, bB_⟩
    ·replace c41 := Bool.eq_false_iff.mpr c41
     subst c41
     have H1 : (if t1153 = 0 then ((impl_NormalForm.f kj9 t1147).bind fun bt1175 => ((impl_NormalForm.f kj9 t1152).bind fun bt1179 => ((spec_NormalForm.f kj9 t1147).bind fun bt1183 => ((impl_MoveShape.f kj9 t1152 (wrap64 (-t1148)) (wrap64 (-t1149))).bind fun bt1187 => (if bt1175.2 = bt1183.2 then (if bt1179.2 = bt1183.2 then ((laws_likeCells.f kj9 bt1175.1 bt1183.1).bind fun t1191 => (if t1191 = true then ((laws_likeCells.f kj9 bt1179.1 bt1183.1).bind fun t1192 => (if t1192 = true then (if bt1187.2 = 0 then ((laws_likeCells.f kj9 bt1187.1 t1147).bind fun t1193 => (some t1193)) else (some false)) else (some false))) else (some false))) else (some false)) else (some false)))))) else (some true)) = some r := by rw [if_neg (show ¬ (false = true) by decide)] at H; exact H
     clear H
     have H := H1
     clear H1
     by_cases c42 : t1153 = 0
     ·rw [if_pos c42] at H
      have c42b0 : (t1153 == 0) = true := beq_iff_eq.mpr c42
      have c42b1 : (t1153 != 0) = false := bne_eq_false_iff_eq.mpr c42
      clear c42
      replace H := Option.bind_eq_some_iff.mp H
      obtain ⟨⟨t1175, t1176⟩, A430, H⟩ := H
      try dsimp only at H
      have A43 := Aside0.mk A430
      clear A430
      replace H := Option.bind_eq_some_iff.mp H
      obtain ⟨⟨t1179, t1180⟩, A440, H⟩ := H
      try dsimp only at H
      have A44 := Aside0.mk A440
      clear A440
      replace H := Option.bind_eq_some_iff.mp H
      obtain ⟨⟨t1183, t1184⟩, A450, H⟩ := H
      try dsimp only at H
      have A45 := Aside0.mk A450
      clear A450
      replace H := Option.bind_eq_some_iff.mp H
      obtain ⟨⟨t1187, t1188⟩, A460, H⟩ := H
      try dsimp only at H
      have A46 := Aside0.mk A460
      clear A460
      by_cases c47 : t1176 = t1184
      ·rw [if_pos c47] at H
       have c47b0 : (t1176 == t1184) = true := beq_iff_eq.mpr c47
       have c47b1 : (t1176 != t1184) = false := bne_eq_false_iff_eq.mpr c47
       clear c47
       by_cases c48 : t1180 = t1184
       ·rw [if_pos c48] at H
        have c48b0 : (t1180 == t1184) = true := beq_iff_eq.mpr c48
        have c48b1 : (t1180 != t1184) = false := bne_eq_false_iff_eq.mpr c48
        clear c48
        replace H := Option.bind_eq_some_iff.mp H
        obtain ⟨t1191, A490, H⟩ := H
        try dsimp only at H
        have A49 := Aside0.mk A490
        clear A490
        by_cases c50 : t1191 = true
        ·subst c50
         have H1 : ((laws_likeCells.f kj9 t1179 t1183).bind fun t1192 => (if t1192 = true then (if t1188 = 0 then ((laws_likeCells.f kj9 t1187 t1147).bind fun t1193 => (some t1193)) else (some false)) else (some false))) = some r := by rw [if_pos rfl] at H; exact H
         clear H
         have H := H1
         clear H1
         replace H := Option.bind_eq_some_iff.mp H
         obtain ⟨t1192, A510, H⟩ := H
         try dsimp only at H
         have A51 := Aside0.mk A510
         clear A510
         by_cases c52 : t1192 = true
         ·subst c52
          have H1 : (if t1188 = 0 then ((laws_likeCells.f kj9 t1187 t1147).bind fun t1193 => (some t1193)) else (some false)) = some r := by rw [if_pos rfl] at H; exact H
          clear H
          have H := H1
          clear H1
          by_cases c53 : t1188 = 0
          ·rw [if_pos c53] at H
           have c53b0 : (t1188 == 0) = true := beq_iff_eq.mpr c53
           have c53b1 : (t1188 != 0) = false := bne_eq_false_iff_eq.mpr c53
           clear c53
           replace H := Option.bind_eq_some_iff.mp H
           obtain ⟨t1193, A540, H⟩ := H
           try dsimp only at H
           have A54 := Aside0.mk A540
           clear A540
           obtain rfl := Option.some.inj H
           go_wp2_with (first | ((with_reducible refine gate_callee (f := 62) rfl ?_); refine gL_ (some 88) Try.func62 #[.slice Ao12 t1147.length co12] ?_; (with_reducible refine (impl_NormalForm.calls kj9 _ _ t1147 t1175 t1176 _ ?side1 ?side2 A43.out).mono ?_); (case side1 => exact cS_ ((Kd.R_reads' HO_3.out).2.2)); (case side2 => exact (Kd.R_reads' HO_3.out).2.1); rintro e w55 ⟨v1177, rfl, ho0, hb⟩; refine ⟨_, rfl, ?_⟩; have HO1178 := Aside0.mk (Kd.R_lower (Kd.R_new' (Kd.R_new' ho0 (Kd.R_lt (rS_ HO_3.out))) (Kd.R_lt (rS_ HO_6.out))) (below_size bB_)); replace HO_3 := Aside0.mk (Kd.R_elder' (rS_ HO_3.out) (Kd.R_base ho0) hb); replace HO_6 := Aside0.mk (Kd.R_elder' (rS_ HO_6.out) (Kd.R_base ho0) hb); replace HB := Aside0.mk (below_step bB_ hb); (try clear hb ho0); obtain ⟨Ao56, co56, eo56⟩ := Kd.R_slice HO_6.out; subst eo56) | ((with_reducible refine gate_callee (f := 62) rfl ?_); refine gL_ (some 93) Try.func62 #[.slice Ao56 t1152.length co56] ?_; (with_reducible refine (impl_NormalForm.calls kj9 _ _ t1152 t1179 t1180 _ ?side1 ?side2 A44.out).mono ?_); (case side1 => exact cS_ ((Kd.R_reads' HO_6.out).2.2)); (case side2 => exact (Kd.R_reads' HO_6.out).2.1); rintro e w57 ⟨v1181, rfl, ho0, hb⟩; refine ⟨_, rfl, ?_⟩; have HO1182 := Aside0.mk (Kd.R_lower (Kd.R_new' (Kd.R_new' (Kd.R_new' ho0 (Kd.R_lt (rS_ HO_3.out))) (Kd.R_lt (rS_ HO_6.out))) (Kd.R_lt (rS_ HO1178.out))) (below_size bB_)); replace HO_3 := Aside0.mk (Kd.R_elder' (rS_ HO_3.out) (Kd.R_base ho0) hb); replace HO_6 := Aside0.mk (Kd.R_elder' (rS_ HO_6.out) (Kd.R_base ho0) hb); replace HO1178 := Aside0.mk (Kd.R_elder' (rS_ HO1178.out) (Kd.R_base ho0) hb); replace HB := Aside0.mk (below_step bB_ hb); (try clear hb ho0)) | ((with_reducible refine gate_callee (f := 63) rfl ?_); refine gL_ (some 98) Try.func63 #[.slice Ao12 t1147.length co12] ?_; (with_reducible refine (spec_NormalForm.calls kj9 _ _ t1147 t1183 t1184 _ ?side1 ?side2 A45.out).mono ?_); (case side1 => exact cS_ ((Kd.R_reads' HO_3.out).2.2)); (case side2 => exact (Kd.R_reads' HO_3.out).2.1); rintro e w58 ⟨v1185, rfl, ho0, hb⟩; refine ⟨_, rfl, ?_⟩; have HO1186 := Aside0.mk (Kd.R_lower (Kd.R_new' (Kd.R_new' (Kd.R_new' (Kd.R_new' ho0 (Kd.R_lt (rS_ HO_3.out))) (Kd.R_lt (rS_ HO_6.out))) (Kd.R_lt (rS_ HO1178.out))) (Kd.R_lt (rS_ HO1182.out))) (below_size bB_)); replace HO_3 := Aside0.mk (Kd.R_elder' (rS_ HO_3.out) (Kd.R_base ho0) hb); replace HO_6 := Aside0.mk (Kd.R_elder' (rS_ HO_6.out) (Kd.R_base ho0) hb); replace HO1178 := Aside0.mk (Kd.R_elder' (rS_ HO1178.out) (Kd.R_base ho0) hb); replace HO1182 := Aside0.mk (Kd.R_elder' (rS_ HO1182.out) (Kd.R_base ho0) hb); replace HB := Aside0.mk (below_step bB_ hb); (try clear hb ho0)) | ((with_reducible refine gate_callee (f := 57) rfl ?_); refine gL_ (some 107) Try.func57 #[.slice Ao56 t1152.length co56, .int .i64 (wrap64 (-t1148)), .int .i64 (wrap64 (-t1149))] ?_; (with_reducible refine (impl_MoveShape.calls kj9 _ _ t1152 (wrap64 (-t1148)) (wrap64 (-t1149)) t1187 t1188 _ ?side1 ?side2 A46.out).mono ?_); (case side1 => exact cS_ ((Kd.R_reads' HO_6.out).2.2)); (case side2 => exact (Kd.R_reads' HO_6.out).2.1); rintro e w59 ⟨v1189, rfl, ho0, hb⟩; refine ⟨_, rfl, ?_⟩; have HO1190 := Aside0.mk (Kd.R_lower (Kd.R_new' (Kd.R_new' (Kd.R_new' (Kd.R_new' (Kd.R_new' ho0 (Kd.R_lt (rS_ HO_3.out))) (Kd.R_lt (rS_ HO_6.out))) (Kd.R_lt (rS_ HO1178.out))) (Kd.R_lt (rS_ HO1182.out))) (Kd.R_lt (rS_ HO1186.out))) (below_size bB_)); replace HO_3 := Aside0.mk (Kd.R_elder' (rS_ HO_3.out) (Kd.R_base ho0) hb); replace HO_6 := Aside0.mk (Kd.R_elder' (rS_ HO_6.out) (Kd.R_base ho0) hb); replace HO1178 := Aside0.mk (Kd.R_elder' (rS_ HO1178.out) (Kd.R_base ho0) hb); replace HO1182 := Aside0.mk (Kd.R_elder' (rS_ HO1182.out) (Kd.R_base ho0) hb); replace HO1186 := Aside0.mk (Kd.R_elder' (rS_ HO1186.out) (Kd.R_base ho0) hb); replace HB := Aside0.mk (below_step bB_ hb); (try clear hb ho0); obtain ⟨Ao60, co60, eo60⟩ := Kd.R_slice HO1178.out; subst eo60; obtain ⟨Ao61, co61, eo61⟩ := Kd.R_slice HO1186.out; subst eo61) | (go_at_call 53; (with_reducible refine (laws_likeCells.calls kj9 _ _ t1175 _ _ t1183 true _ ?side1 ?side2 ?side3 ?side4 A49.out).mono ?_); (case side1 => exact cS_ ((Kd.R_reads' HO1178.out).2.2)); (case side2 => exact (Kd.R_reads' HO1178.out).2.1); (case side3 => exact cS_ ((Kd.R_reads' HO1186.out).2.2)); (case side4 => exact (Kd.R_reads' HO1186.out).2.1); rintro e w' ⟨rfl, ⟨nd, rfl⟩⟩; obtain ⟨Ao62, co62, eo62⟩ := Kd.R_slice HO1182.out; subst eo62) | (go_at_call 53; (with_reducible refine (laws_likeCells.calls kj9 _ _ t1179 _ _ t1183 true _ ?side1 ?side2 ?side3 ?side4 A51.out).mono ?_); (case side1 => exact cS_ ((Kd.R_reads' HO1182.out).2.2)); (case side2 => exact (Kd.R_reads' HO1182.out).2.1); (case side3 => exact cS_ ((Kd.R_reads' HO1186.out).2.2)); (case side4 => exact (Kd.R_reads' HO1186.out).2.1); rintro e w' ⟨rfl, ⟨nd, rfl⟩⟩; obtain ⟨Ao63, co63, eo63⟩ := Kd.R_slice HO1190.out; subst eo63) | (go_at_call 53; (with_reducible refine (laws_likeCells.calls kj9 _ _ t1187 _ _ t1147 t1193 _ ?side1 ?side2 ?side3 ?side4 A54.out).mono ?_); (case side1 => exact cS_ ((Kd.R_reads' HO1190.out).2.2)); (case side2 => exact (Kd.R_reads' HO1190.out).2.1); (case side3 => exact cS_ ((Kd.R_reads' HO_3.out).2.2)); (case side4 => exact (Kd.R_reads' HO_3.out).2.1); rintro e w' ⟨rfl, ⟨nd, rfl⟩⟩))
           go_ret
           exact ⟨r2_, bB_⟩
          ·rw [if_neg c53] at H
           have c53b0 : (t1188 == 0) = false := beq_eq_false_iff_ne.mpr c53
           have c53b1 : (t1188 != 0) = true := bne_iff_ne.mpr c53
           obtain rfl := Option.some.inj H
           go_wp2_with (first | ((with_reducible refine gate_callee (f := 62) rfl ?_); refine gL_ (some 88) Try.func62 #[.slice Ao12 t1147.length co12] ?_; (with_reducible refine (impl_NormalForm.calls kj9 _ _ t1147 t1175 t1176 _ ?side1 ?side2 A43.out).mono ?_); (case side1 => exact cS_ ((Kd.R_reads' HO_3.out).2.2)); (case side2 => exact (Kd.R_reads' HO_3.out).2.1); rintro e w64 ⟨v1177, rfl, ho0, hb⟩; refine ⟨_, rfl, ?_⟩; have HO1178 := Aside0.mk (Kd.R_lower (Kd.R_new' (Kd.R_new' ho0 (Kd.R_lt (rS_ HO_3.out))) (Kd.R_lt (rS_ HO_6.out))) (below_size bB_)); replace HO_3 := Aside0.mk (Kd.R_elder' (rS_ HO_3.out) (Kd.R_base ho0) hb); replace HO_6 := Aside0.mk (Kd.R_elder' (rS_ HO_6.out) (Kd.R_base ho0) hb); replace HB := Aside0.mk (below_step bB_ hb); (try clear hb ho0); obtain ⟨Ao65, co65, eo65⟩ := Kd.R_slice HO_6.out; subst eo65) | ((with_reducible refine gate_callee (f := 62) rfl ?_); refine gL_ (some 93) Try.func62 #[.slice Ao65 t1152.length co65] ?_; (with_reducible refine (impl_NormalForm.calls kj9 _ _ t1152 t1179 t1180 _ ?side1 ?side2 A44.out).mono ?_); (case side1 => exact cS_ ((Kd.R_reads' HO_6.out).2.2)); (case side2 => exact (Kd.R_reads' HO_6.out).2.1); rintro e w66 ⟨v1181, rfl, ho0, hb⟩; refine ⟨_, rfl, ?_⟩; have HO1182 := Aside0.mk (Kd.R_lower (Kd.R_new' (Kd.R_new' (Kd.R_new' ho0 (Kd.R_lt (rS_ HO_3.out))) (Kd.R_lt (rS_ HO_6.out))) (Kd.R_lt (rS_ HO1178.out))) (below_size bB_)); replace HO_3 := Aside0.mk (Kd.R_elder' (rS_ HO_3.out) (Kd.R_base ho0) hb); replace HO_6 := Aside0.mk (Kd.R_elder' (rS_ HO_6.out) (Kd.R_base ho0) hb); replace HO1178 := Aside0.mk (Kd.R_elder' (rS_ HO1178.out) (Kd.R_base ho0) hb); replace HB := Aside0.mk (below_step bB_ hb); (try clear hb ho0)) | ((with_reducible refine gate_callee (f := 63) rfl ?_); refine gL_ (some 98) Try.func63 #[.slice Ao12 t1147.length co12] ?_; (with_reducible refine (spec_NormalForm.calls kj9 _ _ t1147 t1183 t1184 _ ?side1 ?side2 A45.out).mono ?_); (case side1 => exact cS_ ((Kd.R_reads' HO_3.out).2.2)); (case side2 => exact (Kd.R_reads' HO_3.out).2.1); rintro e w67 ⟨v1185, rfl, ho0, hb⟩; refine ⟨_, rfl, ?_⟩; have HO1186 := Aside0.mk (Kd.R_lower (Kd.R_new' (Kd.R_new' (Kd.R_new' (Kd.R_new' ho0 (Kd.R_lt (rS_ HO_3.out))) (Kd.R_lt (rS_ HO_6.out))) (Kd.R_lt (rS_ HO1178.out))) (Kd.R_lt (rS_ HO1182.out))) (below_size bB_)); replace HO_3 := Aside0.mk (Kd.R_elder' (rS_ HO_3.out) (Kd.R_base ho0) hb); replace HO_6 := Aside0.mk (Kd.R_elder' (rS_ HO_6.out) (Kd.R_base ho0) hb); replace HO1178 := Aside0.mk (Kd.R_elder' (rS_ HO1178.out) (Kd.R_base ho0) hb); replace HO1182 := Aside0.mk (Kd.R_elder' (rS_ HO1182.out) (Kd.R_base ho0) hb); replace HB := Aside0.mk (below_step bB_ hb); (try clear hb ho0)) | ((with_reducible refine gate_callee (f := 57) rfl ?_); refine gL_ (some 107) Try.func57 #[.slice Ao65 t1152.length co65, .int .i64 (wrap64 (-t1148)), .int .i64 (wrap64 (-t1149))] ?_; (with_reducible refine (impl_MoveShape.calls kj9 _ _ t1152 (wrap64 (-t1148)) (wrap64 (-t1149)) t1187 t1188 _ ?side1 ?side2 A46.out).mono ?_); (case side1 => exact cS_ ((Kd.R_reads' HO_6.out).2.2)); (case side2 => exact (Kd.R_reads' HO_6.out).2.1); rintro e w68 ⟨v1189, rfl, ho0, hb⟩; refine ⟨_, rfl, ?_⟩; have HO1190 := Aside0.mk (Kd.R_lower (Kd.R_new' (Kd.R_new' (Kd.R_new' (Kd.R_new' (Kd.R_new' ho0 (Kd.R_lt (rS_ HO_3.out))) (Kd.R_lt (rS_ HO_6.out))) (Kd.R_lt (rS_ HO1178.out))) (Kd.R_lt (rS_ HO1182.out))) (Kd.R_lt (rS_ HO1186.out))) (below_size bB_)); replace HO_3 := Aside0.mk (Kd.R_elder' (rS_ HO_3.out) (Kd.R_base ho0) hb); replace HO_6 := Aside0.mk (Kd.R_elder' (rS_ HO_6.out) (Kd.R_base ho0) hb); replace HO1178 := Aside0.mk (Kd.R_elder' (rS_ HO1178.out) (Kd.R_base ho0) hb); replace HO1182 := Aside0.mk (Kd.R_elder' (rS_ HO1182.out) (Kd.R_base ho0) hb); replace HO1186 := Aside0.mk (Kd.R_elder' (rS_ HO1186.out) (Kd.R_base ho0) hb); replace HB := Aside0.mk (below_step bB_ hb); (try clear hb ho0); obtain ⟨Ao69, co69, eo69⟩ := Kd.R_slice HO1178.out; subst eo69; obtain ⟨Ao70, co70, eo70⟩ := Kd.R_slice HO1186.out; subst eo70) | (go_at_call 53; (with_reducible refine (laws_likeCells.calls kj9 _ _ t1175 _ _ t1183 true _ ?side1 ?side2 ?side3 ?side4 A49.out).mono ?_); (case side1 => exact cS_ ((Kd.R_reads' HO1178.out).2.2)); (case side2 => exact (Kd.R_reads' HO1178.out).2.1); (case side3 => exact cS_ ((Kd.R_reads' HO1186.out).2.2)); (case side4 => exact (Kd.R_reads' HO1186.out).2.1); rintro e w' ⟨rfl, ⟨nd, rfl⟩⟩; obtain ⟨Ao71, co71, eo71⟩ := Kd.R_slice HO1182.out; subst eo71) | (go_at_call 53; (with_reducible refine (laws_likeCells.calls kj9 _ _ t1179 _ _ t1183 true _ ?side1 ?side2 ?side3 ?side4 A51.out).mono ?_); (case side1 => exact cS_ ((Kd.R_reads' HO1182.out).2.2)); (case side2 => exact (Kd.R_reads' HO1182.out).2.1); (case side3 => exact cS_ ((Kd.R_reads' HO1186.out).2.2)); (case side4 => exact (Kd.R_reads' HO1186.out).2.1); rintro e w' ⟨rfl, ⟨nd, rfl⟩⟩))
           go_ret
           exact ⟨r2_, bB_⟩
         ·replace c52 := Bool.eq_false_iff.mpr c52
          subst c52
          have H1 : (some false) = some r := by rw [if_neg (show ¬ (false = true) by decide)] at H; exact H
          clear H
          have H := H1
          clear H1
          obtain rfl := Option.some.inj H
          go_wp2_with (first | ((with_reducible refine gate_callee (f := 62) rfl ?_); refine gL_ (some 88) Try.func62 #[.slice Ao12 t1147.length co12] ?_; (with_reducible refine (impl_NormalForm.calls kj9 _ _ t1147 t1175 t1176 _ ?side1 ?side2 A43.out).mono ?_); (case side1 => exact cS_ ((Kd.R_reads' HO_3.out).2.2)); (case side2 => exact (Kd.R_reads' HO_3.out).2.1); rintro e w72 ⟨v1177, rfl, ho0, hb⟩; refine ⟨_, rfl, ?_⟩; have HO1178 := Aside0.mk (Kd.R_lower (Kd.R_new' (Kd.R_new' ho0 (Kd.R_lt (rS_ HO_3.out))) (Kd.R_lt (rS_ HO_6.out))) (below_size bB_)); replace HO_3 := Aside0.mk (Kd.R_elder' (rS_ HO_3.out) (Kd.R_base ho0) hb); replace HO_6 := Aside0.mk (Kd.R_elder' (rS_ HO_6.out) (Kd.R_base ho0) hb); replace HB := Aside0.mk (below_step bB_ hb); (try clear hb ho0); obtain ⟨Ao73, co73, eo73⟩ := Kd.R_slice HO_6.out; subst eo73) | ((with_reducible refine gate_callee (f := 62) rfl ?_); refine gL_ (some 93) Try.func62 #[.slice Ao73 t1152.length co73] ?_; (with_reducible refine (impl_NormalForm.calls kj9 _ _ t1152 t1179 t1180 _ ?side1 ?side2 A44.out).mono ?_); (case side1 => exact cS_ ((Kd.R_reads' HO_6.out).2.2)); (case side2 => exact (Kd.R_reads' HO_6.out).2.1); rintro e w74 ⟨v1181, rfl, ho0, hb⟩; refine ⟨_, rfl, ?_⟩; have HO1182 := Aside0.mk (Kd.R_lower (Kd.R_new' (Kd.R_new' (Kd.R_new' ho0 (Kd.R_lt (rS_ HO_3.out))) (Kd.R_lt (rS_ HO_6.out))) (Kd.R_lt (rS_ HO1178.out))) (below_size bB_)); replace HO_3 := Aside0.mk (Kd.R_elder' (rS_ HO_3.out) (Kd.R_base ho0) hb); replace HO_6 := Aside0.mk (Kd.R_elder' (rS_ HO_6.out) (Kd.R_base ho0) hb); replace HO1178 := Aside0.mk (Kd.R_elder' (rS_ HO1178.out) (Kd.R_base ho0) hb); replace HB := Aside0.mk (below_step bB_ hb); (try clear hb ho0)) | ((with_reducible refine gate_callee (f := 63) rfl ?_); refine gL_ (some 98) Try.func63 #[.slice Ao12 t1147.length co12] ?_; (with_reducible refine (spec_NormalForm.calls kj9 _ _ t1147 t1183 t1184 _ ?side1 ?side2 A45.out).mono ?_); (case side1 => exact cS_ ((Kd.R_reads' HO_3.out).2.2)); (case side2 => exact (Kd.R_reads' HO_3.out).2.1); rintro e w75 ⟨v1185, rfl, ho0, hb⟩; refine ⟨_, rfl, ?_⟩; have HO1186 := Aside0.mk (Kd.R_lower (Kd.R_new' (Kd.R_new' (Kd.R_new' (Kd.R_new' ho0 (Kd.R_lt (rS_ HO_3.out))) (Kd.R_lt (rS_ HO_6.out))) (Kd.R_lt (rS_ HO1178.out))) (Kd.R_lt (rS_ HO1182.out))) (below_size bB_)); replace HO_3 := Aside0.mk (Kd.R_elder' (rS_ HO_3.out) (Kd.R_base ho0) hb); replace HO_6 := Aside0.mk (Kd.R_elder' (rS_ HO_6.out) (Kd.R_base ho0) hb); replace HO1178 := Aside0.mk (Kd.R_elder' (rS_ HO1178.out) (Kd.R_base ho0) hb); replace HO1182 := Aside0.mk (Kd.R_elder' (rS_ HO1182.out) (Kd.R_base ho0) hb); replace HB := Aside0.mk (below_step bB_ hb); (try clear hb ho0)) | ((with_reducible refine gate_callee (f := 57) rfl ?_); refine gL_ (some 107) Try.func57 #[.slice Ao73 t1152.length co73, .int .i64 (wrap64 (-t1148)), .int .i64 (wrap64 (-t1149))] ?_; (with_reducible refine (impl_MoveShape.calls kj9 _ _ t1152 (wrap64 (-t1148)) (wrap64 (-t1149)) t1187 t1188 _ ?side1 ?side2 A46.out).mono ?_); (case side1 => exact cS_ ((Kd.R_reads' HO_6.out).2.2)); (case side2 => exact (Kd.R_reads' HO_6.out).2.1); rintro e w76 ⟨v1189, rfl, ho0, hb⟩; refine ⟨_, rfl, ?_⟩; have HO1190 := Aside0.mk (Kd.R_lower (Kd.R_new' (Kd.R_new' (Kd.R_new' (Kd.R_new' (Kd.R_new' ho0 (Kd.R_lt (rS_ HO_3.out))) (Kd.R_lt (rS_ HO_6.out))) (Kd.R_lt (rS_ HO1178.out))) (Kd.R_lt (rS_ HO1182.out))) (Kd.R_lt (rS_ HO1186.out))) (below_size bB_)); replace HO_3 := Aside0.mk (Kd.R_elder' (rS_ HO_3.out) (Kd.R_base ho0) hb); replace HO_6 := Aside0.mk (Kd.R_elder' (rS_ HO_6.out) (Kd.R_base ho0) hb); replace HO1178 := Aside0.mk (Kd.R_elder' (rS_ HO1178.out) (Kd.R_base ho0) hb); replace HO1182 := Aside0.mk (Kd.R_elder' (rS_ HO1182.out) (Kd.R_base ho0) hb); replace HO1186 := Aside0.mk (Kd.R_elder' (rS_ HO1186.out) (Kd.R_base ho0) hb); replace HB := Aside0.mk (below_step bB_ hb); (try clear hb ho0); obtain ⟨Ao77, co77, eo77⟩ := Kd.R_slice HO1178.out; subst eo77; obtain ⟨Ao78, co78, eo78⟩ := Kd.R_slice HO1186.out; subst eo78) | (go_at_call 53; (with_reducible refine (laws_likeCells.calls kj9 _ _ t1175 _ _ t1183 true _ ?side1 ?side2 ?side3 ?side4 A49.out).mono ?_); (case side1 => exact cS_ ((Kd.R_reads' HO1178.out).2.2)); (case side2 => exact (Kd.R_reads' HO1178.out).2.1); (case side3 => exact cS_ ((Kd.R_reads' HO1186.out).2.2)); (case side4 => exact (Kd.R_reads' HO1186.out).2.1); rintro e w' ⟨rfl, ⟨nd, rfl⟩⟩; obtain ⟨Ao79, co79, eo79⟩ := Kd.R_slice HO1182.out; subst eo79) | (go_at_call 53; (with_reducible refine (laws_likeCells.calls kj9 _ _ t1179 _ _ t1183 false _ ?side1 ?side2 ?side3 ?side4 A51.out).mono ?_); (case side1 => exact cS_ ((Kd.R_reads' HO1182.out).2.2)); (case side2 => exact (Kd.R_reads' HO1182.out).2.1); (case side3 => exact cS_ ((Kd.R_reads' HO1186.out).2.2)); (case side4 => exact (Kd.R_reads' HO1186.out).2.1); rintro e w' ⟨rfl, ⟨nd, rfl⟩⟩))
          go_ret
          exact ⟨r2_, bB_⟩
        ·replace c50 := Bool.eq_false_iff.mpr c50
         subst c50
         have H1 : (some false) = some r := by rw [if_neg (show ¬ (false = true) by decide)] at H; exact H
         clear H
         have H := H1
         clear H1
         obtain rfl := Option.some.inj H
         go_wp2_with (first | ((with_reducible refine gate_callee (f := 62) rfl ?_); refine gL_ (some 88) Try.func62 #[.slice Ao12 t1147.length co12] ?_; (with_reducible refine (impl_NormalForm.calls kj9 _ _ t1147 t1175 t1176 _ ?side1 ?side2 A43.out).mono ?_); (case side1 => exact cS_ ((Kd.R_reads' HO_3.out).2.2)); (case side2 => exact (Kd.R_reads' HO_3.out).2.1); rintro e w80 ⟨v1177, rfl, ho0, hb⟩; refine ⟨_, rfl, ?_⟩; have HO1178 := Aside0.mk (Kd.R_lower (Kd.R_new' (Kd.R_new' ho0 (Kd.R_lt (rS_ HO_3.out))) (Kd.R_lt (rS_ HO_6.out))) (below_size bB_)); replace HO_3 := Aside0.mk (Kd.R_elder' (rS_ HO_3.out) (Kd.R_base ho0) hb); replace HO_6 := Aside0.mk (Kd.R_elder' (rS_ HO_6.out) (Kd.R_base ho0) hb); replace HB := Aside0.mk (below_step bB_ hb); (try clear hb ho0); obtain ⟨Ao81, co81, eo81⟩ := Kd.R_slice HO_6.out; subst eo81) | ((with_reducible refine gate_callee (f := 62) rfl ?_); refine gL_ (some 93) Try.func62 #[.slice Ao81 t1152.length co81] ?_; (with_reducible refine (impl_NormalForm.calls kj9 _ _ t1152 t1179 t1180 _ ?side1 ?side2 A44.out).mono ?_); (case side1 => exact cS_ ((Kd.R_reads' HO_6.out).2.2)); (case side2 => exact (Kd.R_reads' HO_6.out).2.1); rintro e w82 ⟨v1181, rfl, ho0, hb⟩; refine ⟨_, rfl, ?_⟩; have HO1182 := Aside0.mk (Kd.R_lower (Kd.R_new' (Kd.R_new' (Kd.R_new' ho0 (Kd.R_lt (rS_ HO_3.out))) (Kd.R_lt (rS_ HO_6.out))) (Kd.R_lt (rS_ HO1178.out))) (below_size bB_)); replace HO_3 := Aside0.mk (Kd.R_elder' (rS_ HO_3.out) (Kd.R_base ho0) hb); replace HO_6 := Aside0.mk (Kd.R_elder' (rS_ HO_6.out) (Kd.R_base ho0) hb); replace HO1178 := Aside0.mk (Kd.R_elder' (rS_ HO1178.out) (Kd.R_base ho0) hb); replace HB := Aside0.mk (below_step bB_ hb); (try clear hb ho0)) | ((with_reducible refine gate_callee (f := 63) rfl ?_); refine gL_ (some 98) Try.func63 #[.slice Ao12 t1147.length co12] ?_; (with_reducible refine (spec_NormalForm.calls kj9 _ _ t1147 t1183 t1184 _ ?side1 ?side2 A45.out).mono ?_); (case side1 => exact cS_ ((Kd.R_reads' HO_3.out).2.2)); (case side2 => exact (Kd.R_reads' HO_3.out).2.1); rintro e w83 ⟨v1185, rfl, ho0, hb⟩; refine ⟨_, rfl, ?_⟩; have HO1186 := Aside0.mk (Kd.R_lower (Kd.R_new' (Kd.R_new' (Kd.R_new' (Kd.R_new' ho0 (Kd.R_lt (rS_ HO_3.out))) (Kd.R_lt (rS_ HO_6.out))) (Kd.R_lt (rS_ HO1178.out))) (Kd.R_lt (rS_ HO1182.out))) (below_size bB_)); replace HO_3 := Aside0.mk (Kd.R_elder' (rS_ HO_3.out) (Kd.R_base ho0) hb); replace HO_6 := Aside0.mk (Kd.R_elder' (rS_ HO_6.out) (Kd.R_base ho0) hb); replace HO1178 := Aside0.mk (Kd.R_elder' (rS_ HO1178.out) (Kd.R_base ho0) hb); replace HO1182 := Aside0.mk (Kd.R_elder' (rS_ HO1182.out) (Kd.R_base ho0) hb); replace HB := Aside0.mk (below_step bB_ hb); (try clear hb ho0)) | ((with_reducible refine gate_callee (f := 57) rfl ?_); refine gL_ (some 107) Try.func57 #[.slice Ao81 t1152.length co81, .int .i64 (wrap64 (-t1148)), .int .i64 (wrap64 (-t1149))] ?_; (with_reducible refine (impl_MoveShape.calls kj9 _ _ t1152 (wrap64 (-t1148)) (wrap64 (-t1149)) t1187 t1188 _ ?side1 ?side2 A46.out).mono ?_); (case side1 => exact cS_ ((Kd.R_reads' HO_6.out).2.2)); (case side2 => exact (Kd.R_reads' HO_6.out).2.1); rintro e w84 ⟨v1189, rfl, ho0, hb⟩; refine ⟨_, rfl, ?_⟩; have HO1190 := Aside0.mk (Kd.R_lower (Kd.R_new' (Kd.R_new' (Kd.R_new' (Kd.R_new' (Kd.R_new' ho0 (Kd.R_lt (rS_ HO_3.out))) (Kd.R_lt (rS_ HO_6.out))) (Kd.R_lt (rS_ HO1178.out))) (Kd.R_lt (rS_ HO1182.out))) (Kd.R_lt (rS_ HO1186.out))) (below_size bB_)); replace HO_3 := Aside0.mk (Kd.R_elder' (rS_ HO_3.out) (Kd.R_base ho0) hb); replace HO_6 := Aside0.mk (Kd.R_elder' (rS_ HO_6.out) (Kd.R_base ho0) hb); replace HO1178 := Aside0.mk (Kd.R_elder' (rS_ HO1178.out) (Kd.R_base ho0) hb); replace HO1182 := Aside0.mk (Kd.R_elder' (rS_ HO1182.out) (Kd.R_base ho0) hb); replace HO1186 := Aside0.mk (Kd.R_elder' (rS_ HO1186.out) (Kd.R_base ho0) hb); replace HB := Aside0.mk (below_step bB_ hb); (try clear hb ho0); obtain ⟨Ao85, co85, eo85⟩ := Kd.R_slice HO1178.out; subst eo85; obtain ⟨Ao86, co86, eo86⟩ := Kd.R_slice HO1186.out; subst eo86) | (go_at_call 53; (with_reducible refine (laws_likeCells.calls kj9 _ _ t1175 _ _ t1183 false _ ?side1 ?side2 ?side3 ?side4 A49.out).mono ?_); (case side1 => exact cS_ ((Kd.R_reads' HO1178.out).2.2)); (case side2 => exact (Kd.R_reads' HO1178.out).2.1); (case side3 => exact cS_ ((Kd.R_reads' HO1186.out).2.2)); (case side4 => exact (Kd.R_reads' HO1186.out).2.1); rintro e w' ⟨rfl, ⟨nd, rfl⟩⟩))
         go_ret
         exact ⟨r2_, bB_⟩
       ·rw [if_neg c48] at H
        have c48b0 : (t1180 == t1184) = false := beq_eq_false_iff_ne.mpr c48
        have c48b1 : (t1180 != t1184) = true := bne_iff_ne.mpr c48
        obtain rfl := Option.some.inj H
        go_wp2_with (first | ((with_reducible refine gate_callee (f := 62) rfl ?_); refine gL_ (some 88) Try.func62 #[.slice Ao12 t1147.length co12] ?_; (with_reducible refine (impl_NormalForm.calls kj9 _ _ t1147 t1175 t1176 _ ?side1 ?side2 A43.out).mono ?_); (case side1 => exact cS_ ((Kd.R_reads' HO_3.out).2.2)); (case side2 => exact (Kd.R_reads' HO_3.out).2.1); rintro e w87 ⟨v1177, rfl, ho0, hb⟩; refine ⟨_, rfl, ?_⟩; have HO1178 := Aside0.mk (Kd.R_lower (Kd.R_new' (Kd.R_new' ho0 (Kd.R_lt (rS_ HO_3.out))) (Kd.R_lt (rS_ HO_6.out))) (below_size bB_)); replace HO_3 := Aside0.mk (Kd.R_elder' (rS_ HO_3.out) (Kd.R_base ho0) hb); replace HO_6 := Aside0.mk (Kd.R_elder' (rS_ HO_6.out) (Kd.R_base ho0) hb); replace HB := Aside0.mk (below_step bB_ hb); (try clear hb ho0); obtain ⟨Ao88, co88, eo88⟩ := Kd.R_slice HO_6.out; subst eo88) | ((with_reducible refine gate_callee (f := 62) rfl ?_); refine gL_ (some 93) Try.func62 #[.slice Ao88 t1152.length co88] ?_; (with_reducible refine (impl_NormalForm.calls kj9 _ _ t1152 t1179 t1180 _ ?side1 ?side2 A44.out).mono ?_); (case side1 => exact cS_ ((Kd.R_reads' HO_6.out).2.2)); (case side2 => exact (Kd.R_reads' HO_6.out).2.1); rintro e w89 ⟨v1181, rfl, ho0, hb⟩; refine ⟨_, rfl, ?_⟩; have HO1182 := Aside0.mk (Kd.R_lower (Kd.R_new' (Kd.R_new' (Kd.R_new' ho0 (Kd.R_lt (rS_ HO_3.out))) (Kd.R_lt (rS_ HO_6.out))) (Kd.R_lt (rS_ HO1178.out))) (below_size bB_)); replace HO_3 := Aside0.mk (Kd.R_elder' (rS_ HO_3.out) (Kd.R_base ho0) hb); replace HO_6 := Aside0.mk (Kd.R_elder' (rS_ HO_6.out) (Kd.R_base ho0) hb); replace HO1178 := Aside0.mk (Kd.R_elder' (rS_ HO1178.out) (Kd.R_base ho0) hb); replace HB := Aside0.mk (below_step bB_ hb); (try clear hb ho0)) | ((with_reducible refine gate_callee (f := 63) rfl ?_); refine gL_ (some 98) Try.func63 #[.slice Ao12 t1147.length co12] ?_; (with_reducible refine (spec_NormalForm.calls kj9 _ _ t1147 t1183 t1184 _ ?side1 ?side2 A45.out).mono ?_); (case side1 => exact cS_ ((Kd.R_reads' HO_3.out).2.2)); (case side2 => exact (Kd.R_reads' HO_3.out).2.1); rintro e w90 ⟨v1185, rfl, ho0, hb⟩; refine ⟨_, rfl, ?_⟩; have HO1186 := Aside0.mk (Kd.R_lower (Kd.R_new' (Kd.R_new' (Kd.R_new' (Kd.R_new' ho0 (Kd.R_lt (rS_ HO_3.out))) (Kd.R_lt (rS_ HO_6.out))) (Kd.R_lt (rS_ HO1178.out))) (Kd.R_lt (rS_ HO1182.out))) (below_size bB_)); replace HO_3 := Aside0.mk (Kd.R_elder' (rS_ HO_3.out) (Kd.R_base ho0) hb); replace HO_6 := Aside0.mk (Kd.R_elder' (rS_ HO_6.out) (Kd.R_base ho0) hb); replace HO1178 := Aside0.mk (Kd.R_elder' (rS_ HO1178.out) (Kd.R_base ho0) hb); replace HO1182 := Aside0.mk (Kd.R_elder' (rS_ HO1182.out) (Kd.R_base ho0) hb); replace HB := Aside0.mk (below_step bB_ hb); (try clear hb ho0)) | ((with_reducible refine gate_callee (f := 57) rfl ?_); refine gL_ (some 107) Try.func57 #[.slice Ao88 t1152.length co88, .int .i64 (wrap64 (-t1148)), .int .i64 (wrap64 (-t1149))] ?_; (with_reducible refine (impl_MoveShape.calls kj9 _ _ t1152 (wrap64 (-t1148)) (wrap64 (-t1149)) t1187 t1188 _ ?side1 ?side2 A46.out).mono ?_); (case side1 => exact cS_ ((Kd.R_reads' HO_6.out).2.2)); (case side2 => exact (Kd.R_reads' HO_6.out).2.1); rintro e w91 ⟨v1189, rfl, ho0, hb⟩; refine ⟨_, rfl, ?_⟩; have HO1190 := Aside0.mk (Kd.R_lower (Kd.R_new' (Kd.R_new' (Kd.R_new' (Kd.R_new' (Kd.R_new' ho0 (Kd.R_lt (rS_ HO_3.out))) (Kd.R_lt (rS_ HO_6.out))) (Kd.R_lt (rS_ HO1178.out))) (Kd.R_lt (rS_ HO1182.out))) (Kd.R_lt (rS_ HO1186.out))) (below_size bB_)); replace HO_3 := Aside0.mk (Kd.R_elder' (rS_ HO_3.out) (Kd.R_base ho0) hb); replace HO_6 := Aside0.mk (Kd.R_elder' (rS_ HO_6.out) (Kd.R_base ho0) hb); replace HO1178 := Aside0.mk (Kd.R_elder' (rS_ HO1178.out) (Kd.R_base ho0) hb); replace HO1182 := Aside0.mk (Kd.R_elder' (rS_ HO1182.out) (Kd.R_base ho0) hb); replace HO1186 := Aside0.mk (Kd.R_elder' (rS_ HO1186.out) (Kd.R_base ho0) hb); replace HB := Aside0.mk (below_step bB_ hb); (try clear hb ho0)))
        go_ret
        exact ⟨r2_, bB_⟩
      ·rw [if_neg c47] at H
       have c47b0 : (t1176 == t1184) = false := beq_eq_false_iff_ne.mpr c47
       have c47b1 : (t1176 != t1184) = true := bne_iff_ne.mpr c47
       obtain rfl := Option.some.inj H
       go_wp2_with (first | ((with_reducible refine gate_callee (f := 62) rfl ?_); refine gL_ (some 88) Try.func62 #[.slice Ao12 t1147.length co12] ?_; (with_reducible refine (impl_NormalForm.calls kj9 _ _ t1147 t1175 t1176 _ ?side1 ?side2 A43.out).mono ?_); (case side1 => exact cS_ ((Kd.R_reads' HO_3.out).2.2)); (case side2 => exact (Kd.R_reads' HO_3.out).2.1); rintro e w92 ⟨v1177, rfl, ho0, hb⟩; refine ⟨_, rfl, ?_⟩; have HO1178 := Aside0.mk (Kd.R_lower (Kd.R_new' (Kd.R_new' ho0 (Kd.R_lt (rS_ HO_3.out))) (Kd.R_lt (rS_ HO_6.out))) (below_size bB_)); replace HO_3 := Aside0.mk (Kd.R_elder' (rS_ HO_3.out) (Kd.R_base ho0) hb); replace HO_6 := Aside0.mk (Kd.R_elder' (rS_ HO_6.out) (Kd.R_base ho0) hb); replace HB := Aside0.mk (below_step bB_ hb); (try clear hb ho0); obtain ⟨Ao93, co93, eo93⟩ := Kd.R_slice HO_6.out; subst eo93) | ((with_reducible refine gate_callee (f := 62) rfl ?_); refine gL_ (some 93) Try.func62 #[.slice Ao93 t1152.length co93] ?_; (with_reducible refine (impl_NormalForm.calls kj9 _ _ t1152 t1179 t1180 _ ?side1 ?side2 A44.out).mono ?_); (case side1 => exact cS_ ((Kd.R_reads' HO_6.out).2.2)); (case side2 => exact (Kd.R_reads' HO_6.out).2.1); rintro e w94 ⟨v1181, rfl, ho0, hb⟩; refine ⟨_, rfl, ?_⟩; have HO1182 := Aside0.mk (Kd.R_lower (Kd.R_new' (Kd.R_new' (Kd.R_new' ho0 (Kd.R_lt (rS_ HO_3.out))) (Kd.R_lt (rS_ HO_6.out))) (Kd.R_lt (rS_ HO1178.out))) (below_size bB_)); replace HO_3 := Aside0.mk (Kd.R_elder' (rS_ HO_3.out) (Kd.R_base ho0) hb); replace HO_6 := Aside0.mk (Kd.R_elder' (rS_ HO_6.out) (Kd.R_base ho0) hb); replace HO1178 := Aside0.mk (Kd.R_elder' (rS_ HO1178.out) (Kd.R_base ho0) hb); replace HB := Aside0.mk (below_step bB_ hb); (try clear hb ho0)) | ((with_reducible refine gate_callee (f := 63) rfl ?_); refine gL_ (some 98) Try.func63 #[.slice Ao12 t1147.length co12] ?_; (with_reducible refine (spec_NormalForm.calls kj9 _ _ t1147 t1183 t1184 _ ?side1 ?side2 A45.out).mono ?_); (case side1 => exact cS_ ((Kd.R_reads' HO_3.out).2.2)); (case side2 => exact (Kd.R_reads' HO_3.out).2.1); rintro e w95 ⟨v1185, rfl, ho0, hb⟩; refine ⟨_, rfl, ?_⟩; have HO1186 := Aside0.mk (Kd.R_lower (Kd.R_new' (Kd.R_new' (Kd.R_new' (Kd.R_new' ho0 (Kd.R_lt (rS_ HO_3.out))) (Kd.R_lt (rS_ HO_6.out))) (Kd.R_lt (rS_ HO1178.out))) (Kd.R_lt (rS_ HO1182.out))) (below_size bB_)); replace HO_3 := Aside0.mk (Kd.R_elder' (rS_ HO_3.out) (Kd.R_base ho0) hb); replace HO_6 := Aside0.mk (Kd.R_elder' (rS_ HO_6.out) (Kd.R_base ho0) hb); replace HO1178 := Aside0.mk (Kd.R_elder' (rS_ HO1178.out) (Kd.R_base ho0) hb); replace HO1182 := Aside0.mk (Kd.R_elder' (rS_ HO1182.out) (Kd.R_base ho0) hb); replace HB := Aside0.mk (below_step bB_ hb); (try clear hb ho0)) | ((with_reducible refine gate_callee (f := 57) rfl ?_); refine gL_ (some 107) Try.func57 #[.slice Ao93 t1152.length co93, .int .i64 (wrap64 (-t1148)), .int .i64 (wrap64 (-t1149))] ?_; (with_reducible refine (impl_MoveShape.calls kj9 _ _ t1152 (wrap64 (-t1148)) (wrap64 (-t1149)) t1187 t1188 _ ?side1 ?side2 A46.out).mono ?_); (case side1 => exact cS_ ((Kd.R_reads' HO_6.out).2.2)); (case side2 => exact (Kd.R_reads' HO_6.out).2.1); rintro e w96 ⟨v1189, rfl, ho0, hb⟩; refine ⟨_, rfl, ?_⟩; have HO1190 := Aside0.mk (Kd.R_lower (Kd.R_new' (Kd.R_new' (Kd.R_new' (Kd.R_new' (Kd.R_new' ho0 (Kd.R_lt (rS_ HO_3.out))) (Kd.R_lt (rS_ HO_6.out))) (Kd.R_lt (rS_ HO1178.out))) (Kd.R_lt (rS_ HO1182.out))) (Kd.R_lt (rS_ HO1186.out))) (below_size bB_)); replace HO_3 := Aside0.mk (Kd.R_elder' (rS_ HO_3.out) (Kd.R_base ho0) hb); replace HO_6 := Aside0.mk (Kd.R_elder' (rS_ HO_6.out) (Kd.R_base ho0) hb); replace HO1178 := Aside0.mk (Kd.R_elder' (rS_ HO1178.out) (Kd.R_base ho0) hb); replace HO1182 := Aside0.mk (Kd.R_elder' (rS_ HO1182.out) (Kd.R_base ho0) hb); replace HO1186 := Aside0.mk (Kd.R_elder' (rS_ HO1186.out) (Kd.R_base ho0) hb); replace HB := Aside0.mk (below_step bB_ hb); (try clear hb ho0)))
       go_ret
       exact ⟨r2_, bB_⟩
     ·rw [if_neg c42] at H
      have c42b0 : (t1153 == 0) = false := beq_eq_false_iff_ne.mpr c42
      have c42b1 : (t1153 != 0) = true := bne_iff_ne.mpr c42
      obtain rfl := Option.some.inj H
      go_wp2
      go_ret
      exact ⟨r2_, bB_⟩

/-- THE ONE PURE STATEMENT of laws_FnNormal: yours. -/
def laws_FnNormal.Pure : Prop := ∀ (l0 : List Int), l0.length ≤ maxLen → l0.length * 1 ≤ 140737488351232 → (∀ x ∈ l0, (Lit.int .u8 x).wf = true) → ∃ k, laws_FnNormal.f k l0 = some true
theorem laws_FnNormal.walk (P : laws_FnNormal.Pure) (a0 : Option Addr) (len0 cap0 : Nat) (z0 : List Int) (w : World) (w0 : (a0 = none ∧ len0 = 0 ∧ cap0 = 0 ∧ z0 = []) ∨ ∃ x, a0 = some x ∧ len0 ≤ cap0 ∧ cap0 ≤ maxLen ∧ z0.length = cap0 ∧ (∀ i, i < z0.length → w.cell? (x.add i) = some (.int .u8 (z0.getD i 0))) ∧ ∀ n ∈ z0, (Lit.int .u8 n).wf = true) (y0 : len0 * 1 ≤ 140737488351232) :
  Calls Try.prog 14 #[.slice a0 len0 cap0] w fun e w' => e = .returned (.bool true) ∧ Below w.heap.size w w' := by
 obtain ⟨l0, rfl, hr0, hm0, hw0, hc0⟩ := ReadsInt.ofRowC w0
 obtain ⟨k, h⟩ := P l0 hm0 y0 hw0
 refine (laws_FnNormal.calls k _ _ l0 true w (Kd.C_of_reads (d := (0 : Int)) (h1 := fun _ => rfl) hr0) hc0 h).mono ?_
 rintro e w' ⟨rfl, hd⟩
 exact ⟨rfl, hd⟩

end Go.Proofs.Ytbfmocohknadkaa.X
