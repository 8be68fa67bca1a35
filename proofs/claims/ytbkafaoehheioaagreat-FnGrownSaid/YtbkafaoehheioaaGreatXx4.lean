-- xprint.py
import Derived.Test.YtbkafaoehheioaaGreatXx0
import Derived.Test.YtbkafaoehheioaaGreatXx2
import Derived.Test.YtbkafaoehheioaaGreatXx3
namespace Go.Proofs.YtbkafaoehheioaaGreat.X
open Go.RowKit Go.Proofs.YtbkafaoehheioaaGreatW.PrintWords Go.Proofs.YtbkafaoehheioaaGreatW.PrintLast Go.Proofs.YtbkafaoehheioaaGreatW.PrintMore
attribute [local go_sem] max2_int min2_int max_two min_two max_three min_three max_four min_four   -- for this text's walks alone
set_option linter.unusedVariables false
set_option linter.unusedSimpArgs false

/-! ### spec_l02Draw: function 14 -/
def spec_l02Draw.l0 : Nat → List (S39) → Int → List Int → Int → Int → Option ((List (S39)) × Int × Int)
 | 0, _, _, _, _, _ => none
 | k + 1, x5, x6, x1000, x1001, x1002 => (spec_l01Next.f x1000 x1001 x1002 2).bind fun bt229 => (if x6 < (wrap64 (40 + bt229.1)) then (if x5.length < 8796093022208 then (spec_l02Draw.l0 k (x5 ++ [(⟨x6, 0⟩ : S39)]) (wrap64 (x6 + 1)) x1000 bt229.2.1 bt229.2.2) else (none)) else (some (x5, bt229.2.1, bt229.2.2)))
def spec_l02Draw.f (k : Nat) (s0_0 : List Int) (s0_1 : Int) (s0_2 : Int) : Option ((List (S39)) × Int × Int) := (spec_l02DrawPoly.f k s0_0 s0_1 s0_2 8).bind fun bt191 => ((spec_l01Next.f s0_0 bt191.2.1 bt191.2.2 9).bind fun bt196 => ((spec_l01Next.f s0_0 bt196.2.1 bt196.2.2 9).bind fun bt199 => ((spec_l02Move.f k bt191.1 (wrap64 (bt196.1 - 4)) (wrap64 (bt199.1 - 4))).bind fun t202 => ((spec_l01Next.f s0_0 bt199.2.1 bt199.2.2 (t202.length : Int)).bind fun bt205 => ((spec_l01Next.f s0_0 bt205.2.1 bt205.2.2 24).bind fun bt208 => (if bt208.1 = 0 then ((some (([(-100), 100, 101] : List Int) : List Int)).bind fun y211 => ((spec_l01Next.f s0_0 bt208.2.1 bt208.2.2 3).bind fun bt214 => (if 0 ≤ bt214.1 then (if bt214.1 < (y211.length : Int) then (if 0 ≤ bt205.1 then (if bt205.1 < (t202.length : Int) then ((spec_l02Sort.f k (t202.set (bt205.1 : Int).toNat (⟨rd y211 bt214.1, (rd_T39 t202 bt205.1).f1⟩ : S39))).bind fun t219 => (some (t219, bt214.2.1, bt214.2.2))) else (none)) else (none)) else (none)) else (none)))) else (if bt208.1 = 1 then (if 0 ≤ bt205.1 then (if bt205.1 < (t202.length : Int) then (if t202.length < 8796093022208 then (some ((t202 ++ [(⟨(rd_T39 t202 bt205.1).f0, (rd_T39 t202 bt205.1).f1⟩ : S39)]), bt208.2.1, bt208.2.2)) else (none)) else (none)) else (none)) else (if bt208.1 = 2 then (some (([] : List (S39)), bt208.2.1, bt208.2.2)) else (if bt208.1 = 3 then (spec_l02Draw.l0 k (([] : List (S39))) 0 s0_0 bt208.2.1 bt208.2.2) else (if bt208.1 = 4 then (if 0 < (t202.length : Int) then (if 0 ≤ (wrap64 ((t202.length : Int) - 1)) then (if (wrap64 ((t202.length : Int) - 1)) < (t202.length : Int) then (if t202.length < 8796093022208 then (some ((t202 ++ [(⟨wrap64 (((rd_T39 t202 0).f0) + 3), wrap64 (((rd_T39 t202 (wrap64 ((t202.length : Int) - 1))).f1) + 2)⟩ : S39)]), bt208.2.1, bt208.2.2)) else (none)) else (none)) else (none)) else (none)) else (if bt208.1 = 5 then (if 0 < (t202.length : Int) then (if 0 ≤ (wrap64 ((t202.length : Int) - 1)) then (if (wrap64 ((t202.length : Int) - 1)) < (t202.length : Int) then (if t202.length < 8796093022208 then (some ((t202 ++ [(⟨wrap64 (((rd_T39 t202 0).f0) + 3), wrap64 (((rd_T39 t202 (wrap64 ((t202.length : Int) - 1))).f1) + 2)⟩ : S39)]), bt208.2.1, bt208.2.2)) else (none)) else (none)) else (none)) else (none)) else (some (t202, bt208.2.1, bt208.2.2)))))))))))))
theorem spec_l02Draw.mono_l : ∀ k, (∀ y0 y1 y2 y3 y4, LeO (spec_l02Draw.l0 k y0 y1 y2 y3 y4) (spec_l02Draw.l0 (k + 1) y0 y1 y2 y3 y4))
 | 0 => fun _ _ _ _ _ r h => by simp [spec_l02Draw.l0] at h
 | k + 1 => by
  have ih0 := spec_l02Draw.mono_l k
  ·intro y0 y1 y2 y3 y4
   unfold spec_l02Draw.l0
   repeat' first
   | (with_reducible exact ih0 _ _ _ _ _)
   | (with_reducible exact spec_l02DrawPoly.mono _ _ _ _ _)
   | (with_reducible exact spec_l02Move.mono _ _ _ _)
   | (with_reducible exact spec_l02Sort.mono _ _)
   | (with_reducible exact LeO.refl _)
   | (with_reducible exact LeO.none _)
   | (with_reducible refine LeO.ite ?_ ?_)
   | (with_reducible refine LeO.bind ?_ (fun _ => ?_))
   | exact ih0 _ _ _ _ _
   | exact spec_l02DrawPoly.mono _ _ _ _ _
   | exact spec_l02Move.mono _ _ _ _
   | exact spec_l02Sort.mono _ _
   | exact LeO.none _
   | refine LeO.ite ?_ ?_
   | refine LeO.bind ?_ (fun _ => ?_)
theorem spec_l02Draw.mono : ∀ a0 a1 a2 k, LeO (spec_l02Draw.f k a0 a1 a2) (spec_l02Draw.f (k + 1) a0 a1 a2) := by
 intro a0 a1 a2 k
 have ih0 := spec_l02Draw.mono_l k
 unfold spec_l02Draw.f
 repeat' first
   | (with_reducible exact ih0 _ _ _ _ _)
   | (with_reducible exact spec_l02DrawPoly.mono _ _ _ _ _)
   | (with_reducible exact spec_l02Move.mono _ _ _ _)
   | (with_reducible exact spec_l02Sort.mono _ _)
   | (with_reducible exact LeO.refl _)
   | (with_reducible exact LeO.none _)
   | (with_reducible refine LeO.ite ?_ ?_)
   | (with_reducible refine LeO.bind ?_ (fun _ => ?_))
   | exact ih0 _ _ _ _ _
   | exact spec_l02DrawPoly.mono _ _ _ _ _
   | exact spec_l02Move.mono _ _ _ _
   | exact spec_l02Sort.mono _ _
   | exact LeO.none _
   | refine LeO.ite ?_ ?_
   | refine LeO.bind ?_ (fun _ => ?_)
def spec_l02Draw.T20 : Bool × List (List Nat × List Nat) := (true, [([], []), ([], []), ([1], [1]), ([2], [2]), ([3], [3]), ([4], [4]), ([], []), ([], []), ([7], [7]), ([8], [8]), ([6, 9], [6, 9]), ([10], [10]), ([11], [11]), ([12], [12]), ([5, 13], [5, 13]), ([14], [14]), ([0, 15], [0, 15]), ([16, 16, 0, 1, 2, 3, 4, 5, 6, 7, 8, 9, 10, 11, 12, 13, 14, 15, 16], [16])])
def spec_l02Draw.B20 : List Nat := [0, 0, 2, 6, 14, 30, 0, 0, 128, 384, 960, 1984, 4032, 8128, 16382, 32766, 65535, 131071]
theorem spec_l02Draw.tab20 : rtab .any (opsOf Tryz.f14 20) = spec_l02Draw.T20 := by kernel_rfl
theorem spec_l02Draw.bits20 : waitsOk spec_l02Draw.T20.2 spec_l02Draw.B20 = true := by kernel_rfl
set_option maxHeartbeats 8000000 in
set_option maxRecDepth 100000 in
theorem spec_l02Draw.calls (k : Nat) (g : Nat) (s0_0 : List Int) (s0_1 : Int) (s0_2 : Int) (r1 : List (S39)) (r2 : Int) (r3 : Int) (w0 w : World) (hI : IsS57 w0 w g s0_0 s0_1 s0_2) (hB : Below w0.heap.size w0 w) (h : spec_l02Draw.f k s0_0 s0_1 s0_2 = some (r1, r2, r3)) :
  Calls Tryz.prog 14 #[.pointer (some ⟨g, 0, none⟩)] w fun e w' => ∃ v0_ : Value, e = .returned (v0_) ∧ Kd.R k39 39 w' w.heap.size (fun _ => True) v0_ r1 ∧ IsS57 w0 w' g s0_0 r2 r3 ∧ Below w0.heap.size w0 w' ∧ KeepBut w w' g none := by
 have hu39 := Tryz.underlying39
 have HI0 := Aside0.mk hI
 have HK := Aside0.mk (KeepBut.refl w g none)
 have HL := Aside0.mk hB.size
 clear hI
 have HW0 := Aside0.mk hB.size
 have HB := Aside0.mk hB
 clear hB
 have H : ((spec_l02DrawPoly.f k s0_0 s0_1 s0_2 8).bind fun bt191 => ((spec_l01Next.f s0_0 bt191.2.1 bt191.2.2 9).bind fun bt196 => ((spec_l01Next.f s0_0 bt196.2.1 bt196.2.2 9).bind fun bt199 => ((spec_l02Move.f k bt191.1 (wrap64 (bt196.1 - 4)) (wrap64 (bt199.1 - 4))).bind fun t202 => ((spec_l01Next.f s0_0 bt199.2.1 bt199.2.2 (t202.length : Int)).bind fun bt205 => ((spec_l01Next.f s0_0 bt205.2.1 bt205.2.2 24).bind fun bt208 => (if bt208.1 = 0 then ((some (([(-100), 100, 101] : List Int) : List Int)).bind fun y211 => ((spec_l01Next.f s0_0 bt208.2.1 bt208.2.2 3).bind fun bt214 => (if 0 ≤ bt214.1 then (if bt214.1 < (y211.length : Int) then (if 0 ≤ bt205.1 then (if bt205.1 < (t202.length : Int) then ((spec_l02Sort.f k (t202.set (bt205.1 : Int).toNat (⟨rd y211 bt214.1, (rd_T39 t202 bt205.1).f1⟩ : S39))).bind fun t219 => (some (t219, bt214.2.1, bt214.2.2))) else (none)) else (none)) else (none)) else (none)))) else (if bt208.1 = 1 then (if 0 ≤ bt205.1 then (if bt205.1 < (t202.length : Int) then (if t202.length < 8796093022208 then (some ((t202 ++ [(⟨(rd_T39 t202 bt205.1).f0, (rd_T39 t202 bt205.1).f1⟩ : S39)]), bt208.2.1, bt208.2.2)) else (none)) else (none)) else (none)) else (if bt208.1 = 2 then (some (([] : List (S39)), bt208.2.1, bt208.2.2)) else (if bt208.1 = 3 then (spec_l02Draw.l0 k (([] : List (S39))) 0 s0_0 bt208.2.1 bt208.2.2) else (if bt208.1 = 4 then (if 0 < (t202.length : Int) then (if 0 ≤ (wrap64 ((t202.length : Int) - 1)) then (if (wrap64 ((t202.length : Int) - 1)) < (t202.length : Int) then (if t202.length < 8796093022208 then (some ((t202 ++ [(⟨wrap64 (((rd_T39 t202 0).f0) + 3), wrap64 (((rd_T39 t202 (wrap64 ((t202.length : Int) - 1))).f1) + 2)⟩ : S39)]), bt208.2.1, bt208.2.2)) else (none)) else (none)) else (none)) else (none)) else (if bt208.1 = 5 then (if 0 < (t202.length : Int) then (if 0 ≤ (wrap64 ((t202.length : Int) - 1)) then (if (wrap64 ((t202.length : Int) - 1)) < (t202.length : Int) then (if t202.length < 8796093022208 then (some ((t202 ++ [(⟨wrap64 (((rd_T39 t202 0).f0) + 3), wrap64 (((rd_T39 t202 (wrap64 ((t202.length : Int) - 1))).f1) + 2)⟩ : S39)]), bt208.2.1, bt208.2.2)) else (none)) else (none)) else (none)) else (none)) else (some (t202, bt208.2.1, bt208.2.2)))))))))))))) = some (r1, r2, r3) := h
 clear h
 replace H := Option.bind_eq_some_iff.mp H
 obtain ⟨⟨t191, t194, t195⟩, A20, H⟩ := H
 try dsimp only at H
 have A2 := Aside0.mk A20
 clear A20
 replace H := Option.bind_eq_some_iff.mp H
 obtain ⟨⟨t196, t197, t198⟩, A30, H⟩ := H
 try dsimp only at H
 have A3 := Aside0.mk A30
 clear A30
 replace H := Option.bind_eq_some_iff.mp H
 obtain ⟨⟨t199, t200, t201⟩, A40, H⟩ := H
 try dsimp only at H
 have A4 := Aside0.mk A40
 clear A40
 replace H := Option.bind_eq_some_iff.mp H
 obtain ⟨t202, A50, H⟩ := H
 try dsimp only at H
 have A5 := Aside0.mk A50
 clear A50
 replace H := Option.bind_eq_some_iff.mp H
 obtain ⟨⟨t205, t206, t207⟩, A60, H⟩ := H
 try dsimp only at H
 have A6 := Aside0.mk A60
 clear A60
 replace H := Option.bind_eq_some_iff.mp H
 obtain ⟨⟨t208, t209, t210⟩, A70, H⟩ := H
 try dsimp only at H
 have A7 := Aside0.mk A70
 clear A70
 by_cases c8 : t208 = 0
 ·rw [if_pos c8] at H
  have c8b0 : (t208 == 0) = true := beq_iff_eq.mpr c8
  have c8b1 : (t208 != 0) = false := bne_eq_false_iff_eq.mpr c8
  clear c8
  obtain ⟨y211, hY_⟩ : ∃ y_ : List Int, y_ = (([(-100), 100, 101] : List Int)) := ⟨_, rfl⟩
  replace H : ((spec_l01Next.f s0_0 t209 t210 3).bind fun bt214 => (if 0 ≤ bt214.1 then (if bt214.1 < (y211.length : Int) then (if 0 ≤ t205 then (if t205 < (t202.length : Int) then ((spec_l02Sort.f k (t202.set (t205 : Int).toNat (⟨rd y211 bt214.1, (rd_T39 t202 t205).f1⟩ : S39))).bind fun t219 => (some (t219, bt214.2.1, bt214.2.2))) else (none)) else (none)) else (none)) else (none))) = some (r1, r2, r3) := yY_
  have Ny211 := Aside0.mk hY_
  clear hY_
  replace H := Option.bind_eq_some_iff.mp H
  obtain ⟨⟨t214, t215, t216⟩, A90, H⟩ := H
  try dsimp only at H
  have A9 := Aside0.mk A90
  clear A90
  by_cases c10 : 0 ≤ t214
  ·rw [if_pos c10] at H
   have c10b0 : decide (0 ≤ t214) = true := decide_eq_true c10
   clear c10
   by_cases c11 : t214 < (y211.length : Int)
   ·rw [if_pos c11] at H
    have c11b0 : decide (t214 < (y211.length : Int)) = true := decide_eq_true c11
    clear c11
    by_cases c12 : 0 ≤ t205
    ·rw [if_pos c12] at H
     have c12b0 : decide (0 ≤ t205) = true := decide_eq_true c12
     clear c12
     by_cases c13 : t205 < (t202.length : Int)
     ·rw [if_pos c13] at H
      have c13b0 : decide (t205 < (t202.length : Int)) = true := decide_eq_true c13
      clear c13
      obtain ⟨y218, hY_⟩ : ∃ y_ : List (S39), y_ = (t202.set (t205 : Int).toNat (⟨rd y211 t214, (rd_T39 t202 t205).f1⟩ : S39)) := ⟨_, rfl⟩
      replace H : ((spec_l02Sort.f k y218).bind fun t219 => (some (t219, t215, t216))) = some (r1, r2, r3) := yY_
      have Ny218 := Aside0.mk hY_
      clear hY_
      replace H := Option.bind_eq_some_iff.mp H
      obtain ⟨t219, A150, H⟩ := H
      try dsimp only at H
      have A15 := Aside0.mk A150
      clear A150
      simp only [Option.some.injEq, Prod.mk.injEq] at H
      obtain ⟨rfl, rfl, rfl⟩ := H
      go_enter Tryz.func14, Tryz.ntmps14
      go_wp2_with (first | ((with_reducible refine gate_callee (f := 35) rfl ?_); refine gL_ (some 8) Tryz.func35 #[.pointer (some ⟨g, 0, none⟩), .int .i64 8] ?_; (with_reducible refine (spec_l02DrawPoly.calls k g s0_0 s0_1 s0_2 8 t191 t194 t195 w0 _ ?side1 ?side2 A2.out).mono ?_); (case side1 => exact iS57_); (case side2 => exact bS57_); rintro e w16 ⟨v192, rfl, ho0, hi, hb, hk⟩; refine ⟨_, rfl, ?_⟩; have HO193 := Aside0.mk (Kd.R_lower ho0 (keep_size (w := w) (g := g) (row := none) kK_)); replace HK := Aside0.mk (KeepBut.trans kK_ hk (.inl rfl)); replace HB := Aside0.mk (hb); replace HI0 := Aside0.mk (hi); (try clear hb hk hi ho0)) | ((with_reducible refine gate_callee (f := 36) rfl ?_); refine gL_ (some 10) Tryz.func36 #[.pointer (some ⟨g, 0, none⟩), .int .i64 9] ?_; (with_reducible refine (spec_l01Next.calls g s0_0 t194 t195 9 t196 t197 t198 w0 _ ?side1 ?side2 A3.out).mono ?_); (case side1 => exact iS57_); (case side2 => exact bS57_); rintro e w17 ⟨rfl, hi, hb, hk⟩; refine ⟨_, rfl, ?_⟩; replace HO193 := Aside0.mk (Kd.R_mono (Kd.R_keep (IsS57.apart (show IsS57 w0 _ g s0_0 t194 t195 from iS57_) (rS_ HO193.out) (by decide)) hk (fun _ h => h.2)) (fun _ h => h.1)); replace HK := Aside0.mk (KeepBut.trans kK_ hk (.inl rfl)); replace HB := Aside0.mk (hb); replace HI0 := Aside0.mk (hi); (try clear hb hk hi)) | ((with_reducible refine gate_callee (f := 36) rfl ?_); refine gL_ (some 13) Tryz.func36 #[.pointer (some ⟨g, 0, none⟩), .int .i64 9] ?_; (with_reducible refine (spec_l01Next.calls g s0_0 t197 t198 9 t199 t200 t201 w0 _ ?side1 ?side2 A4.out).mono ?_); (case side1 => exact iS57_); (case side2 => exact bS57_); rintro e w18 ⟨rfl, hi, hb, hk⟩; refine ⟨_, rfl, ?_⟩; replace HO193 := Aside0.mk (Kd.R_mono (Kd.R_keep (IsS57.apart (show IsS57 w0 _ g s0_0 t197 t198 from iS57_) (rS_ HO193.out) (by decide)) hk (fun _ h => h.2)) (fun _ h => h.1)); replace HK := Aside0.mk (KeepBut.trans kK_ hk (.inl rfl)); replace HB := Aside0.mk (hb); replace HI0 := Aside0.mk (hi); (try clear hb hk hi); obtain ⟨Ao19, co19, eo19⟩ := Kd.R_slice HO193.out; subst eo19) | ((with_reducible refine gate_callee (f := 34) rfl ?_); refine gL_ (some 15) Tryz.func34 #[.slice Ao19 t191.length co19, .int .i64 (wrap64 (t196 - 4)), .int .i64 (wrap64 (t199 - 4))] ?_; (with_reducible refine (spec_l02Move.calls k _ _ t191 (wrap64 (t196 - 4)) (wrap64 (t199 - 4)) t202 _ ?side1 ?side2 A5.out).mono ?_); (case side1 => exact cS_ ((Kd.R_reads' HO193.out).2.2)); (case side2 => exact (Kd.R_reads' HO193.out).2.1); rintro e w20 ⟨v203, rfl, ho0, hb⟩; refine ⟨_, rfl, ?_⟩; have HO204 := Aside0.mk (Kd.R_lower (Kd.R_new' ho0 (Kd.R_lt (rS_ HO193.out))) (keep_size (w := w) (g := g) (row := none) kK_)); replace HO193 := Aside0.mk (Kd.R_elder' (rS_ HO193.out) (Kd.R_base ho0) hb); replace HK := Aside0.mk (KeepBut.trans kK_ (KeepBut.of_below hb g none) (.inl rfl)); replace HB := Aside0.mk (below_step bS57_ hb); replace HI0 := Aside0.mk (IsS57.below iS57_ hb); (try clear hb ho0); obtain ⟨Ao21, co21, eo21⟩ := Kd.R_slice HO204.out; subst eo21) | ((with_reducible refine gate_callee (f := 36) rfl ?_); refine gL_ (some 19) Tryz.func36 #[.pointer (some ⟨g, 0, none⟩), .int .i64 (t202.length : Int)] ?_; (with_reducible refine (spec_l01Next.calls g s0_0 t200 t201 (t202.length : Int) t205 t206 t207 w0 _ ?side1 ?side2 A6.out).mono ?_); (case side1 => exact iS57_); (case side2 => exact bS57_); rintro e w22 ⟨rfl, hi, hb, hk⟩; refine ⟨_, rfl, ?_⟩; replace HO193 := Aside0.mk (Kd.R_mono (Kd.R_keep (IsS57.apart (show IsS57 w0 _ g s0_0 t200 t201 from iS57_) (rS_ HO193.out) (by decide)) hk (fun _ h => h.2)) (fun _ h => h.1)); replace HO204 := Aside0.mk (Kd.R_mono (Kd.R_keep (IsS57.apart (show IsS57 w0 _ g s0_0 t200 t201 from iS57_) (rS_ HO204.out) (by decide)) hk (fun _ h => h.2)) (fun _ h => h.1)); replace HK := Aside0.mk (KeepBut.trans kK_ hk (.inl rfl)); replace HB := Aside0.mk (hb); replace HI0 := Aside0.mk (hi); (try clear hb hk hi)) | ((with_reducible refine gate_callee (f := 36) rfl ?_); refine gL_ (some 21) Tryz.func36 #[.pointer (some ⟨g, 0, none⟩), .int .i64 24] ?_; (with_reducible refine (spec_l01Next.calls g s0_0 t206 t207 24 t208 t209 t210 w0 _ ?side1 ?side2 A7.out).mono ?_); (case side1 => exact iS57_); (case side2 => exact bS57_); rintro e w23 ⟨rfl, hi, hb, hk⟩; refine ⟨_, rfl, ?_⟩; replace HO193 := Aside0.mk (Kd.R_mono (Kd.R_keep (IsS57.apart (show IsS57 w0 _ g s0_0 t206 t207 from iS57_) (rS_ HO193.out) (by decide)) hk (fun _ h => h.2)) (fun _ h => h.1)); replace HO204 := Aside0.mk (Kd.R_mono (Kd.R_keep (IsS57.apart (show IsS57 w0 _ g s0_0 t206 t207 from iS57_) (rS_ HO204.out) (by decide)) hk (fun _ h => h.2)) (fun _ h => h.1)); replace HK := Aside0.mk (KeepBut.trans kK_ hk (.inl rfl)); replace HB := Aside0.mk (hb); replace HI0 := Aside0.mk (hi); (try clear hb hk hi)) | ((with_reducible refine gate_dst (N := 26) rfl ?_); refine Kd.R_lit (Kd.int .i64) _ 2 ?hg (N := 26) ?hd (xs := ([(-100), 100, 101] : List Int)) (inner := [.int .i64 (-100), .int .i64 100, .int .i64 101]) (ok := fun _ => True) (okp := fun _ => True) ?hr ?hp (fun _ hk => hk) trivial (Below.refl _ _) (Nat.le_refl _) (by simp) ?_; (case hd => rfl); (case hg => rfl); (case hr => first | (go_simp; done) | (go_simp; rfl)); (case hp => exact (Reps.one (show Kd.M (Kd.int .i64) _ _ _ (-100) [.int .i64 (-100)] from rfl) (Reps.one (show Kd.M (Kd.int .i64) _ _ _ 100 [.int .i64 100] from rfl) (Reps.one (show Kd.M (Kd.int .i64) _ _ _ 101 [.int .i64 101] from rfl) (Reps.none _ _))))); intro v212 w24 ho25 hb hg_ hnew_; clear hg_ hnew_; (first | rw [← Ny211.out] at ho25 | (simp only [Int.reduceToNat] at ho25; rw [← Ny211.out] at ho25)); replace HO193 := Aside0.mk (Kd.R_below (rS_ HO193.out) hb); replace HO204 := Aside0.mk (Kd.R_below (rS_ HO204.out) hb); have HO213 := Aside0.mk (Kd.R_lower ho25 (keep_size (w := w) (g := g) (row := none) kK_)); replace HK := Aside0.mk (KeepBut.trans kK_ (KeepBut.of_below hb g none) (.inl rfl)); replace HB := Aside0.mk (below_step bS57_ hb); replace HI0 := Aside0.mk (IsS57.below iS57_ hb); clear hb ho25) | ((with_reducible refine gate_callee (f := 36) rfl ?_); refine gL_ (some 28) Tryz.func36 #[.pointer (some ⟨g, 0, none⟩), .int .i64 3] ?_; (with_reducible refine (spec_l01Next.calls g s0_0 t209 t210 3 t214 t215 t216 w0 _ ?side1 ?side2 A9.out).mono ?_); (case side1 => exact iS57_); (case side2 => exact bS57_); rintro e w26 ⟨rfl, hi, hb, hk⟩; refine ⟨_, rfl, ?_⟩; replace HO193 := Aside0.mk (Kd.R_mono (Kd.R_keep (IsS57.apart (show IsS57 w0 _ g s0_0 t209 t210 from iS57_) (rS_ HO193.out) (by decide)) hk (fun _ h => h.2)) (fun _ h => h.1)); replace HO204 := Aside0.mk (Kd.R_mono (Kd.R_keep (IsS57.apart (show IsS57 w0 _ g s0_0 t209 t210 from iS57_) (rS_ HO204.out) (by decide)) hk (fun _ h => h.2)) (fun _ h => h.1)); replace HO213 := Aside0.mk (Kd.R_mono (Kd.R_keep (IsS57.apart (show IsS57 w0 _ g s0_0 t209 t210 from iS57_) (rS_ HO213.out) (by decide)) hk (fun _ h => h.2)) (fun _ h => h.1)); replace HK := Aside0.mk (KeepBut.trans kK_ hk (.inl rfl)); replace HB := Aside0.mk (hb); replace HI0 := Aside0.mk (hi); (try clear hb hk hi); obtain ⟨Ao27, co27, eo27⟩ := Kd.R_slice HO213.out; subst eo27; have p217 : 0 ≤ (t214 : Int) := of_decide_eq_true aS_; have q217 : t214 < (y211.length : Int) := of_decide_eq_true aS_; obtain ⟨ad217, e217, hx217_0⟩ := Kd.at_int (Kd.R_reads' HO213.out).2.2 t214 p217 q217; cases e217; replace p217 := eq_true p217; replace q217 := eq_true q217; have p14 : 0 ≤ (t205 : Int) := of_decide_eq_true aS_; have q14 : (t205 : Int) < ((t202.length : Int) : Int) := of_decide_eq_true aS_; obtain ⟨go14, co14, eo14, gb14, gl14, cl14, HG14⟩ := Kd.R_form HO204.out (by omega); (first | cases eo14 | (injection eo14 with ea_ en_ ec_; (first | subst ea_ | (injection ea_ with ea_; subst ea_)); subst ec_; clear en_)); have GB14 := Aside0.mk gb14; have GG14 := Aside0.mk HG14; clear gb14 gl14 HG14; obtain ⟨ce14, hcl14, hM14, hcc14, hfr14⟩ := Kd.R_elem HO204.out z39 (t205 : Int) p14 q14; obtain rfl := k39_openM hM14; have hx14_0 : w26.cell? ⟨go14, (t205 : Int).toNat * 2, none⟩ = some (.int .i64 ((rd_T39 t202 t205).f0)) := hcc14 0 _ rfl; have hx14_1 : w26.cell? ⟨go14, (t205 : Int).toNat * 2 + 1, none⟩ = some (.int .i64 ((rd_T39 t202 t205).f1)) := hcc14 1 _ rfl; have hf14_0 : w26.frozen? ⟨go14, (t205 : Int).toNat * 2, none⟩ = false := hfr14 0; have hf14_1 : w26.frozen? ⟨go14, (t205 : Int).toNat * 2 + 1, none⟩ = false := hfr14 1; clear hcl14 hcc14 hfr14 hM14; replace p14 := eq_true p14; replace q14 := eq_true q14; have n_ := Aside0.mk (Kd.R_mono (ok' := (fun k_ => some k_ ≠ (.slice Ao19 t191.length co19 : Value).ownBlock)) HO204.out (fun k_ hk => hk.2)); clear HO204; have HO204 := n_; clear n_; have HX28 := Aside0.mk (show Kd.R k39 39 w26 w.heap.size (fun k_ => some k_ ≠ (.slice Ao19 t191.length co19 : Value).ownBlock) (.slice (some ⟨go14, 0, none⟩) t202.length co21) t202 from (rS_ HO204.out)); obtain ⟨ce28, hcl28, hM28, hcc28, hfr28⟩ := Kd.R_elem HX28.out z39 (t205 : Int) (of_decide_eq_true aS_) (by have h_ : (t205 : Int) < ((t202.length : Int) : Int) := of_decide_eq_true aS_; first | exact h_ | (have e_ := (Kd.R_reads' HO204.out).1; omega) | simpa using h_); obtain rfl := k39_openM hM28; have HP28 := Kd.R_seg HX28.out (t205 : Int) (of_decide_eq_true aS_) (by have h_ : (t205 : Int) < ((t202.length : Int) : Int) := of_decide_eq_true aS_; first | exact h_ | (have e_ := (Kd.R_reads' HO204.out).1; omega) | simpa using h_) (seg := [.int .i64 (rd y211 t214)]) (j := 0) hcl28 hcc28 (show 1 ≤ 2 from by decide) (x' := (⟨rd y211 t214, (rd_T39 t202 t205).f1⟩ : S39)) (k39_mkM _ _ _ (⟨rd y211 t214, (rd_T39 t202 t205).f1⟩ : S39) ) (fun _ hk => hk); have hx28_0 := hcc28 0 _ rfl; (try simp only [show (k39).sz = 2 from rfl, Nat.mul_one, Nat.add_zero] at hx28_0); have hf28_0 := hfr28 0; (try simp only [show (k39).sz = 2 from rfl, Nat.mul_one, Nat.add_zero] at hf28_0); clear hcl28 hcc28 hfr28 hM28) | ((with_reducible refine gate_store (t := 2) (p := 32) rfl ?_); refine store_event (t := 2) (p := 32) (v := ?vo_w29) (w1 := (w26.setCell ⟨go14, (t205 : Int).toNat * 2, none⟩ (.int .i64 (rd y211 t214)))) ?hg ?ho ?hn ?hr ?_; (case ho => rfl); (case hg => rfl); (case hn => rfl); (case hr => first | (go_simp; done) | (go_simp; rfl)); intro w29 hw; have hg : w26.grownBy w29 (some go14) := (by rw [hw]; exact HP28.2); have hp_ : Kd.R k39 39 w29 w.heap.size (fun k_ => some k_ ≠ (.slice Ao19 t191.length co19 : Value).ownBlock) (.slice (some ⟨go14, 0, none⟩) t202.length co21) y218 := (by rw [hw, Ny218.out]; exact HP28.1); clear HP28; replace HI0 := Aside0.mk (IsS57.grown iS57_ hg (IsS57.own_ne HI0.out HO204.out (by decide))); replace HO193 := Aside0.mk (Kd.R_after (v := (.slice (some ⟨go14, 0, none⟩) t202.length co21)) (v1 := (.slice (some ⟨go14, 0, none⟩) t202.length co21)) (ok := (fun _ => True)) (rS_ HO193.out) hg (.inl rfl)); replace HO213 := Aside0.mk (Kd.R_over' (v := (.slice (some ⟨go14, 0, none⟩) t202.length co21)) (rS_ HO213.out) (Kd.R_typed HO204.out) (by decide) hg); replace HB := Aside0.mk ((by rw [hw]; exact below_set (HB.out) (Nat.le_trans HL.out GB14.out) : Below w0.heap.size w0 w29)); replace HK := Aside0.mk (KeepBut.trans kK_ (KeepBut.of_grown hg g) (Kd.R_base2 HO204.out)); replace HO204 := Aside0.mk (hp_); clear hg hw hp_) | ((with_reducible refine gate_callee (f := 37) rfl ?_); refine goesL_ (some 34) rfl rfl Tryz.func37 (by kernel_rfl) rfl #[.slice (some ⟨go14, 0, none⟩) y218.length co21] rfl (by (try simp only [List.map_toArray, List.map_cons, List.map_nil]); first | done | (rw [show y218.length = t202.length from (Kd.R_reads' HO204.out).1.symm] <;> rfl) | rfl | (simp only [List.length_drop, List.length_take]; rfl)) ?_; (with_reducible refine (spec_l02Sort.calls k _ _ y218 t219 _ ?side1 ?side2 A15.out).mono ?_); (case side1 => exact cS_ ((Kd.R_reads' HO204.out).2.2)); (case side2 => rw [show y218.length = t202.length from (Kd.R_reads' HO204.out).1.symm]; exact (Kd.R_reads' HO204.out).2.1); rintro e w30 ⟨v220, rfl, ho0, hb⟩; refine ⟨_, rfl, ?_⟩; replace HO213 := Aside0.mk (Kd.R_below (rS_ HO213.out) hb); have HO221 := Aside0.mk (Kd.R_lower (Kd.R_new' (Kd.R_new' ho0 (Kd.R_lt (rS_ HO193.out))) (Kd.R_lt (rS_ HO204.out))) (keep_size (w := w) (g := g) (row := none) kK_)); replace HO193 := Aside0.mk (Kd.R_elder' (rS_ HO193.out) (Kd.R_base ho0) hb); replace HO204 := Aside0.mk (Kd.R_elder' (rS_ HO204.out) (Kd.R_base ho0) hb); replace HK := Aside0.mk (KeepBut.trans kK_ (KeepBut.of_below hb g none) (.inl rfl)); replace HB := Aside0.mk (below_step bS57_ hb); replace HI0 := Aside0.mk (IsS57.below iS57_ hb); (try clear hb ho0)))
      go_ret
      exact ⟨_, r2_, rS_ (Kd.R_mono HO221.out (fun _ hk => trivial)), iS57_, bS57_, kK_⟩
     ·rw [if_neg c13] at H
      exact absurd H (by simp)
    ·rw [if_neg c12] at H
     exact absurd H (by simp)
   ·rw [if_neg c11] at H
    exact absurd H (by simp)
  ·rw [if_neg c10] at H
   exact absurd H (by simp)
 ·rw [if_neg c8] at H
  have c8b0 : (t208 == 0) = false := beq_eq_false_iff_ne.mpr c8
  have c8b1 : (t208 != 0) = true := bne_iff_ne.mpr c8
  by_cases c31 : t208 = 1
  ·rw [if_pos c31] at H
   have c31b0 : (t208 == 1) = true := beq_iff_eq.mpr c31
   have c31b1 : (t208 != 1) = false := bne_eq_false_iff_eq.mpr c31
   clear c31
   by_cases c32 : 0 ≤ t205
   ·rw [if_pos c32] at H
    have c32b0 : decide (0 ≤ t205) = true := decide_eq_true c32
    clear c32
    by_cases c33 : t205 < (t202.length : Int)
    ·rw [if_pos c33] at H
     have c33b0 : decide (t205 < (t202.length : Int)) = true := decide_eq_true c33
     clear c33
     by_cases c34 : t202.length < 8796093022208
     ·rw [if_pos c34] at H
      have LMc34 := Aside0.mk c34
      clear c34
      obtain ⟨y223, hY_⟩ : ∃ y_ : List (S39), y_ = (t202 ++ [(⟨(rd_T39 t202 t205).f0, (rd_T39 t202 t205).f1⟩ : S39)]) := ⟨_, rfl⟩
      replace H : (some (y223, t209, t210)) = some (r1, r2, r3) := yY_
      have Ny223 := Aside0.mk hY_
      clear hY_
      simp only [Option.some.injEq, Prod.mk.injEq] at H
      obtain ⟨rfl, rfl, rfl⟩ := H
      go_enter Tryz.func14, Tryz.ntmps14
      go_wp2_with (first | ((with_reducible refine gate_callee (f := 35) rfl ?_); refine gL_ (some 8) Tryz.func35 #[.pointer (some ⟨g, 0, none⟩), .int .i64 8] ?_; (with_reducible refine (spec_l02DrawPoly.calls k g s0_0 s0_1 s0_2 8 t191 t194 t195 w0 _ ?side1 ?side2 A2.out).mono ?_); (case side1 => exact iS57_); (case side2 => exact bS57_); rintro e w35 ⟨v192, rfl, ho0, hi, hb, hk⟩; refine ⟨_, rfl, ?_⟩; have HO193 := Aside0.mk (Kd.R_lower ho0 (keep_size (w := w) (g := g) (row := none) kK_)); replace HK := Aside0.mk (KeepBut.trans kK_ hk (.inl rfl)); replace HB := Aside0.mk (hb); replace HI0 := Aside0.mk (hi); (try clear hb hk hi ho0)) | ((with_reducible refine gate_callee (f := 36) rfl ?_); refine gL_ (some 10) Tryz.func36 #[.pointer (some ⟨g, 0, none⟩), .int .i64 9] ?_; (with_reducible refine (spec_l01Next.calls g s0_0 t194 t195 9 t196 t197 t198 w0 _ ?side1 ?side2 A3.out).mono ?_); (case side1 => exact iS57_); (case side2 => exact bS57_); rintro e w36 ⟨rfl, hi, hb, hk⟩; refine ⟨_, rfl, ?_⟩; replace HO193 := Aside0.mk (Kd.R_mono (Kd.R_keep (IsS57.apart (show IsS57 w0 _ g s0_0 t194 t195 from iS57_) (rS_ HO193.out) (by decide)) hk (fun _ h => h.2)) (fun _ h => h.1)); replace HK := Aside0.mk (KeepBut.trans kK_ hk (.inl rfl)); replace HB := Aside0.mk (hb); replace HI0 := Aside0.mk (hi); (try clear hb hk hi)) | ((with_reducible refine gate_callee (f := 36) rfl ?_); refine gL_ (some 13) Tryz.func36 #[.pointer (some ⟨g, 0, none⟩), .int .i64 9] ?_; (with_reducible refine (spec_l01Next.calls g s0_0 t197 t198 9 t199 t200 t201 w0 _ ?side1 ?side2 A4.out).mono ?_); (case side1 => exact iS57_); (case side2 => exact bS57_); rintro e w37 ⟨rfl, hi, hb, hk⟩; refine ⟨_, rfl, ?_⟩; replace HO193 := Aside0.mk (Kd.R_mono (Kd.R_keep (IsS57.apart (show IsS57 w0 _ g s0_0 t197 t198 from iS57_) (rS_ HO193.out) (by decide)) hk (fun _ h => h.2)) (fun _ h => h.1)); replace HK := Aside0.mk (KeepBut.trans kK_ hk (.inl rfl)); replace HB := Aside0.mk (hb); replace HI0 := Aside0.mk (hi); (try clear hb hk hi); obtain ⟨Ao38, co38, eo38⟩ := Kd.R_slice HO193.out; subst eo38) | ((with_reducible refine gate_callee (f := 34) rfl ?_); refine gL_ (some 15) Tryz.func34 #[.slice Ao38 t191.length co38, .int .i64 (wrap64 (t196 - 4)), .int .i64 (wrap64 (t199 - 4))] ?_; (with_reducible refine (spec_l02Move.calls k _ _ t191 (wrap64 (t196 - 4)) (wrap64 (t199 - 4)) t202 _ ?side1 ?side2 A5.out).mono ?_); (case side1 => exact cS_ ((Kd.R_reads' HO193.out).2.2)); (case side2 => exact (Kd.R_reads' HO193.out).2.1); rintro e w39 ⟨v203, rfl, ho0, hb⟩; refine ⟨_, rfl, ?_⟩; have HO204 := Aside0.mk (Kd.R_lower (Kd.R_new' ho0 (Kd.R_lt (rS_ HO193.out))) (keep_size (w := w) (g := g) (row := none) kK_)); replace HO193 := Aside0.mk (Kd.R_elder' (rS_ HO193.out) (Kd.R_base ho0) hb); replace HK := Aside0.mk (KeepBut.trans kK_ (KeepBut.of_below hb g none) (.inl rfl)); replace HB := Aside0.mk (below_step bS57_ hb); replace HI0 := Aside0.mk (IsS57.below iS57_ hb); (try clear hb ho0); obtain ⟨Ao40, co40, eo40⟩ := Kd.R_slice HO204.out; subst eo40) | ((with_reducible refine gate_callee (f := 36) rfl ?_); refine gL_ (some 19) Tryz.func36 #[.pointer (some ⟨g, 0, none⟩), .int .i64 (t202.length : Int)] ?_; (with_reducible refine (spec_l01Next.calls g s0_0 t200 t201 (t202.length : Int) t205 t206 t207 w0 _ ?side1 ?side2 A6.out).mono ?_); (case side1 => exact iS57_); (case side2 => exact bS57_); rintro e w41 ⟨rfl, hi, hb, hk⟩; refine ⟨_, rfl, ?_⟩; replace HO193 := Aside0.mk (Kd.R_mono (Kd.R_keep (IsS57.apart (show IsS57 w0 _ g s0_0 t200 t201 from iS57_) (rS_ HO193.out) (by decide)) hk (fun _ h => h.2)) (fun _ h => h.1)); replace HO204 := Aside0.mk (Kd.R_mono (Kd.R_keep (IsS57.apart (show IsS57 w0 _ g s0_0 t200 t201 from iS57_) (rS_ HO204.out) (by decide)) hk (fun _ h => h.2)) (fun _ h => h.1)); replace HK := Aside0.mk (KeepBut.trans kK_ hk (.inl rfl)); replace HB := Aside0.mk (hb); replace HI0 := Aside0.mk (hi); (try clear hb hk hi)) | ((with_reducible refine gate_callee (f := 36) rfl ?_); refine gL_ (some 21) Tryz.func36 #[.pointer (some ⟨g, 0, none⟩), .int .i64 24] ?_; (with_reducible refine (spec_l01Next.calls g s0_0 t206 t207 24 t208 t209 t210 w0 _ ?side1 ?side2 A7.out).mono ?_); (case side1 => exact iS57_); (case side2 => exact bS57_); rintro e w42 ⟨rfl, hi, hb, hk⟩; refine ⟨_, rfl, ?_⟩; replace HO193 := Aside0.mk (Kd.R_mono (Kd.R_keep (IsS57.apart (show IsS57 w0 _ g s0_0 t206 t207 from iS57_) (rS_ HO193.out) (by decide)) hk (fun _ h => h.2)) (fun _ h => h.1)); replace HO204 := Aside0.mk (Kd.R_mono (Kd.R_keep (IsS57.apart (show IsS57 w0 _ g s0_0 t206 t207 from iS57_) (rS_ HO204.out) (by decide)) hk (fun _ h => h.2)) (fun _ h => h.1)); replace HK := Aside0.mk (KeepBut.trans kK_ hk (.inl rfl)); replace HB := Aside0.mk (hb); replace HI0 := Aside0.mk (hi); (try clear hb hk hi); have p222 : 0 ≤ (t205 : Int) := of_decide_eq_true aS_; have q222 : t205 < (t202.length : Int) := of_decide_eq_true aS_; obtain ⟨ad222, e222, hx222_0, hx222_1⟩ := at_T39 (Kd.R_reads' HO204.out).2.2 t205 p222 q222; cases e222; replace p222 := eq_true p222; replace q222 := eq_true q222) | ((with_reducible refine gate_builtin (b := .append) (xs := #[.tmp 37, .tmp 42]) rfl ?_); at_builtin; refine Kd.R_append k39 w.heap.size rfl (.tmp 37) (.tmp 42) 24 39 (.agg #[(.int .i64 0), (.int .i64 0)]) 16 rfl Tryz.underlying24 info39 rfl (by decide) (by omega) (.slice (some ad222) t202.length co40) t202 (⟨(rd_T39 t202 t205).f0, (rd_T39 t202 t205).f1⟩ : S39) [.int .i64 ((rd_T39 t202 t205).f0), .int .i64 ((rd_T39 t202 t205).f1)] (fun k_ => some k_ ≠ (.slice Ao38 t191.length co38 : Value).ownBlock) (fun _ => False) rfl rfl ?aP (fun _ hk => hk.elim) ?aF ?aO (Below.refl _ _) ?aS ?aL ?_; (case aP => exact k39_mkM _ _ _ (⟨(rd_T39 t202 t205).f0, (rd_T39 t202 t205).f1⟩ : S39)); (case aF => exact (fun k_ hk => Kd.fresh' (Kd.R_lt (rS_ HO193.out)) k_ hk)); (case aO => exact (rS_ (Kd.R_mono HO204.out (fun _ hk => hk.2)))); (case aS => exact (keep_size (w := w) (g := g) (row := none) kK_)); (case aL => have := LMc34.out; omega); intro v224 w43 ho hb hg hat; rw [← Ny223.out] at ho; replace HO193 := Aside0.mk (Kd.R_after (ok := (fun _ => True)) (rS_ HO193.out) hg hat); replace HB := Aside0.mk (below_weaken bS57_ HL.out hb); replace HI0 := Aside0.mk (IsS57.grown iS57_ hg (IsS57.own_ne HI0.out HO204.out (by decide))); replace HK := Aside0.mk (KeepBut.trans kK_ (KeepBut.of_grown hg g) (Kd.R_base2 HO204.out)); have HO225 := Aside0.mk (ho); clear HO204; clear ho hb hg hat))
      go_ret
      exact ⟨_, r2_, rS_ (Kd.R_mono HO225.out (fun _ hk => trivial)), iS57_, bS57_, kK_⟩
     ·rw [if_neg c34] at H
      exact absurd H (by simp)
    ·rw [if_neg c33] at H
     exact absurd H (by simp)
   ·rw [if_neg c32] at H
    exact absurd H (by simp)
  ·rw [if_neg c31] at H
   have c31b0 : (t208 == 1) = false := beq_eq_false_iff_ne.mpr c31
   have c31b1 : (t208 != 1) = true := bne_iff_ne.mpr c31
   by_cases c44 : t208 = 2
   ·rw [if_pos c44] at H
    have c44b0 : (t208 == 2) = true := beq_iff_eq.mpr c44
    have c44b1 : (t208 != 2) = false := bne_eq_false_iff_eq.mpr c44
    clear c44
    simp only [Option.some.injEq, Prod.mk.injEq] at H
    obtain ⟨rfl, rfl, rfl⟩ := H
    go_enter Tryz.func14, Tryz.ntmps14
    go_wp2_with (first | ((with_reducible refine gate_callee (f := 35) rfl ?_); refine gL_ (some 8) Tryz.func35 #[.pointer (some ⟨g, 0, none⟩), .int .i64 8] ?_; (with_reducible refine (spec_l02DrawPoly.calls k g s0_0 s0_1 s0_2 8 t191 t194 t195 w0 _ ?side1 ?side2 A2.out).mono ?_); (case side1 => exact iS57_); (case side2 => exact bS57_); rintro e w45 ⟨v192, rfl, ho0, hi, hb, hk⟩; refine ⟨_, rfl, ?_⟩; have HO193 := Aside0.mk (Kd.R_lower ho0 (keep_size (w := w) (g := g) (row := none) kK_)); replace HK := Aside0.mk (KeepBut.trans kK_ hk (.inl rfl)); replace HB := Aside0.mk (hb); replace HI0 := Aside0.mk (hi); (try clear hb hk hi ho0)) | ((with_reducible refine gate_callee (f := 36) rfl ?_); refine gL_ (some 10) Tryz.func36 #[.pointer (some ⟨g, 0, none⟩), .int .i64 9] ?_; (with_reducible refine (spec_l01Next.calls g s0_0 t194 t195 9 t196 t197 t198 w0 _ ?side1 ?side2 A3.out).mono ?_); (case side1 => exact iS57_); (case side2 => exact bS57_); rintro e w46 ⟨rfl, hi, hb, hk⟩; refine ⟨_, rfl, ?_⟩; replace HO193 := Aside0.mk (Kd.R_mono (Kd.R_keep (IsS57.apart (show IsS57 w0 _ g s0_0 t194 t195 from iS57_) (rS_ HO193.out) (by decide)) hk (fun _ h => h.2)) (fun _ h => h.1)); replace HK := Aside0.mk (KeepBut.trans kK_ hk (.inl rfl)); replace HB := Aside0.mk (hb); replace HI0 := Aside0.mk (hi); (try clear hb hk hi)) | ((with_reducible refine gate_callee (f := 36) rfl ?_); refine gL_ (some 13) Tryz.func36 #[.pointer (some ⟨g, 0, none⟩), .int .i64 9] ?_; (with_reducible refine (spec_l01Next.calls g s0_0 t197 t198 9 t199 t200 t201 w0 _ ?side1 ?side2 A4.out).mono ?_); (case side1 => exact iS57_); (case side2 => exact bS57_); rintro e w47 ⟨rfl, hi, hb, hk⟩; refine ⟨_, rfl, ?_⟩; replace HO193 := Aside0.mk (Kd.R_mono (Kd.R_keep (IsS57.apart (show IsS57 w0 _ g s0_0 t197 t198 from iS57_) (rS_ HO193.out) (by decide)) hk (fun _ h => h.2)) (fun _ h => h.1)); replace HK := Aside0.mk (KeepBut.trans kK_ hk (.inl rfl)); replace HB := Aside0.mk (hb); replace HI0 := Aside0.mk (hi); (try clear hb hk hi); obtain ⟨Ao48, co48, eo48⟩ := Kd.R_slice HO193.out; subst eo48) | ((with_reducible refine gate_callee (f := 34) rfl ?_); refine gL_ (some 15) Tryz.func34 #[.slice Ao48 t191.length co48, .int .i64 (wrap64 (t196 - 4)), .int .i64 (wrap64 (t199 - 4))] ?_; (with_reducible refine (spec_l02Move.calls k _ _ t191 (wrap64 (t196 - 4)) (wrap64 (t199 - 4)) t202 _ ?side1 ?side2 A5.out).mono ?_); (case side1 => exact cS_ ((Kd.R_reads' HO193.out).2.2)); (case side2 => exact (Kd.R_reads' HO193.out).2.1); rintro e w49 ⟨v203, rfl, ho0, hb⟩; refine ⟨_, rfl, ?_⟩; have HO204 := Aside0.mk (Kd.R_lower (Kd.R_new' ho0 (Kd.R_lt (rS_ HO193.out))) (keep_size (w := w) (g := g) (row := none) kK_)); replace HO193 := Aside0.mk (Kd.R_elder' (rS_ HO193.out) (Kd.R_base ho0) hb); replace HK := Aside0.mk (KeepBut.trans kK_ (KeepBut.of_below hb g none) (.inl rfl)); replace HB := Aside0.mk (below_step bS57_ hb); replace HI0 := Aside0.mk (IsS57.below iS57_ hb); (try clear hb ho0); obtain ⟨Ao50, co50, eo50⟩ := Kd.R_slice HO204.out; subst eo50) | ((with_reducible refine gate_callee (f := 36) rfl ?_); refine gL_ (some 19) Tryz.func36 #[.pointer (some ⟨g, 0, none⟩), .int .i64 (t202.length : Int)] ?_; (with_reducible refine (spec_l01Next.calls g s0_0 t200 t201 (t202.length : Int) t205 t206 t207 w0 _ ?side1 ?side2 A6.out).mono ?_); (case side1 => exact iS57_); (case side2 => exact bS57_); rintro e w51 ⟨rfl, hi, hb, hk⟩; refine ⟨_, rfl, ?_⟩; replace HO193 := Aside0.mk (Kd.R_mono (Kd.R_keep (IsS57.apart (show IsS57 w0 _ g s0_0 t200 t201 from iS57_) (rS_ HO193.out) (by decide)) hk (fun _ h => h.2)) (fun _ h => h.1)); replace HO204 := Aside0.mk (Kd.R_mono (Kd.R_keep (IsS57.apart (show IsS57 w0 _ g s0_0 t200 t201 from iS57_) (rS_ HO204.out) (by decide)) hk (fun _ h => h.2)) (fun _ h => h.1)); replace HK := Aside0.mk (KeepBut.trans kK_ hk (.inl rfl)); replace HB := Aside0.mk (hb); replace HI0 := Aside0.mk (hi); (try clear hb hk hi)) | ((with_reducible refine gate_callee (f := 36) rfl ?_); refine gL_ (some 21) Tryz.func36 #[.pointer (some ⟨g, 0, none⟩), .int .i64 24] ?_; (with_reducible refine (spec_l01Next.calls g s0_0 t206 t207 24 t208 t209 t210 w0 _ ?side1 ?side2 A7.out).mono ?_); (case side1 => exact iS57_); (case side2 => exact bS57_); rintro e w52 ⟨rfl, hi, hb, hk⟩; refine ⟨_, rfl, ?_⟩; replace HO193 := Aside0.mk (Kd.R_mono (Kd.R_keep (IsS57.apart (show IsS57 w0 _ g s0_0 t206 t207 from iS57_) (rS_ HO193.out) (by decide)) hk (fun _ h => h.2)) (fun _ h => h.1)); replace HO204 := Aside0.mk (Kd.R_mono (Kd.R_keep (IsS57.apart (show IsS57 w0 _ g s0_0 t206 t207 from iS57_) (rS_ HO204.out) (by decide)) hk (fun _ h => h.2)) (fun _ h => h.1)); replace HK := Aside0.mk (KeepBut.trans kK_ hk (.inl rfl)); replace HB := Aside0.mk (hb); replace HI0 := Aside0.mk (hi); (try clear hb hk hi)))
    go_ret
    exact ⟨_, r2_, by first | exact Kd.R_nil _ _ _ _ _ | exact Kd.N_nil _ _ _ _ _ | exact Kd.V_nil _ _ _ _ _ | exact Kd.Q_nil _ _ _ _ _ | exact Kd.S_nil _ _ _ _ _, iS57_, bS57_, kK_⟩
   ·rw [if_neg c44] at H
    have c44b0 : (t208 == 2) = false := beq_eq_false_iff_ne.mpr c44
    have c44b1 : (t208 != 2) = true := bne_iff_ne.mpr c44
    by_cases c53 : t208 = 3
    ·rw [if_pos c53] at H
     have c53b0 : (t208 == 3) = true := beq_iff_eq.mpr c53
     have c53b1 : (t208 != 3) = false := bne_eq_false_iff_eq.mpr c53
     clear c53
     obtain ⟨y226, hY_⟩ : ∃ y_ : List (S39), y_ = (([] : List (S39))) := ⟨_, rfl⟩
     replace H : (spec_l02Draw.l0 k y226 0 s0_0 t209 t210) = some (r1, r2, r3) := yY_
     have Ny226 := Aside0.mk hY_
     clear hY_
     have H' := Aside0.mk H
     clear H
     go_enter Tryz.func14, Tryz.ntmps14
     go_wp2_with (first | ((with_reducible refine gate_callee (f := 35) rfl ?_); refine gL_ (some 8) Tryz.func35 #[.pointer (some ⟨g, 0, none⟩), .int .i64 8] ?_; (with_reducible refine (spec_l02DrawPoly.calls k g s0_0 s0_1 s0_2 8 t191 t194 t195 w0 _ ?side1 ?side2 A2.out).mono ?_); (case side1 => exact iS57_); (case side2 => exact bS57_); rintro e w54 ⟨v192, rfl, ho0, hi, hb, hk⟩; refine ⟨_, rfl, ?_⟩; have HO193 := Aside0.mk (Kd.R_lower ho0 (keep_size (w := w) (g := g) (row := none) kK_)); replace HK := Aside0.mk (KeepBut.trans kK_ hk (.inl rfl)); replace HB := Aside0.mk (hb); replace HI0 := Aside0.mk (hi); (try clear hb hk hi ho0)) | ((with_reducible refine gate_callee (f := 36) rfl ?_); refine gL_ (some 10) Tryz.func36 #[.pointer (some ⟨g, 0, none⟩), .int .i64 9] ?_; (with_reducible refine (spec_l01Next.calls g s0_0 t194 t195 9 t196 t197 t198 w0 _ ?side1 ?side2 A3.out).mono ?_); (case side1 => exact iS57_); (case side2 => exact bS57_); rintro e w55 ⟨rfl, hi, hb, hk⟩; refine ⟨_, rfl, ?_⟩; replace HO193 := Aside0.mk (Kd.R_mono (Kd.R_keep (IsS57.apart (show IsS57 w0 _ g s0_0 t194 t195 from iS57_) (rS_ HO193.out) (by decide)) hk (fun _ h => h.2)) (fun _ h => h.1)); replace HK := Aside0.mk (KeepBut.trans kK_ hk (.inl rfl)); replace HB := Aside0.mk (hb); replace HI0 := Aside0.mk (hi); (try clear hb hk hi)) | ((with_reducible refine gate_callee (f := 36) rfl ?_); refine gL_ (some 13) Tryz.func36 #[.pointer (some ⟨g, 0, none⟩), .int .i64 9] ?_; (with_reducible refine (spec_l01Next.calls g s0_0 t197 t198 9 t199 t200 t201 w0 _ ?side1 ?side2 A4.out).mono ?_); (case side1 => exact iS57_); (case side2 => exact bS57_); rintro e w56 ⟨rfl, hi, hb, hk⟩; refine ⟨_, rfl, ?_⟩; replace HO193 := Aside0.mk (Kd.R_mono (Kd.R_keep (IsS57.apart (show IsS57 w0 _ g s0_0 t197 t198 from iS57_) (rS_ HO193.out) (by decide)) hk (fun _ h => h.2)) (fun _ h => h.1)); replace HK := Aside0.mk (KeepBut.trans kK_ hk (.inl rfl)); replace HB := Aside0.mk (hb); replace HI0 := Aside0.mk (hi); (try clear hb hk hi); obtain ⟨Ao57, co57, eo57⟩ := Kd.R_slice HO193.out; subst eo57) | ((with_reducible refine gate_callee (f := 34) rfl ?_); refine gL_ (some 15) Tryz.func34 #[.slice Ao57 t191.length co57, .int .i64 (wrap64 (t196 - 4)), .int .i64 (wrap64 (t199 - 4))] ?_; (with_reducible refine (spec_l02Move.calls k _ _ t191 (wrap64 (t196 - 4)) (wrap64 (t199 - 4)) t202 _ ?side1 ?side2 A5.out).mono ?_); (case side1 => exact cS_ ((Kd.R_reads' HO193.out).2.2)); (case side2 => exact (Kd.R_reads' HO193.out).2.1); rintro e w58 ⟨v203, rfl, ho0, hb⟩; refine ⟨_, rfl, ?_⟩; have HO204 := Aside0.mk (Kd.R_lower (Kd.R_new' ho0 (Kd.R_lt (rS_ HO193.out))) (keep_size (w := w) (g := g) (row := none) kK_)); replace HO193 := Aside0.mk (Kd.R_elder' (rS_ HO193.out) (Kd.R_base ho0) hb); replace HK := Aside0.mk (KeepBut.trans kK_ (KeepBut.of_below hb g none) (.inl rfl)); replace HB := Aside0.mk (below_step bS57_ hb); replace HI0 := Aside0.mk (IsS57.below iS57_ hb); (try clear hb ho0); obtain ⟨Ao59, co59, eo59⟩ := Kd.R_slice HO204.out; subst eo59) | ((with_reducible refine gate_callee (f := 36) rfl ?_); refine gL_ (some 19) Tryz.func36 #[.pointer (some ⟨g, 0, none⟩), .int .i64 (t202.length : Int)] ?_; (with_reducible refine (spec_l01Next.calls g s0_0 t200 t201 (t202.length : Int) t205 t206 t207 w0 _ ?side1 ?side2 A6.out).mono ?_); (case side1 => exact iS57_); (case side2 => exact bS57_); rintro e w60 ⟨rfl, hi, hb, hk⟩; refine ⟨_, rfl, ?_⟩; replace HO193 := Aside0.mk (Kd.R_mono (Kd.R_keep (IsS57.apart (show IsS57 w0 _ g s0_0 t200 t201 from iS57_) (rS_ HO193.out) (by decide)) hk (fun _ h => h.2)) (fun _ h => h.1)); replace HO204 := Aside0.mk (Kd.R_mono (Kd.R_keep (IsS57.apart (show IsS57 w0 _ g s0_0 t200 t201 from iS57_) (rS_ HO204.out) (by decide)) hk (fun _ h => h.2)) (fun _ h => h.1)); replace HK := Aside0.mk (KeepBut.trans kK_ hk (.inl rfl)); replace HB := Aside0.mk (hb); replace HI0 := Aside0.mk (hi); (try clear hb hk hi)) | ((with_reducible refine gate_callee (f := 36) rfl ?_); refine gL_ (some 21) Tryz.func36 #[.pointer (some ⟨g, 0, none⟩), .int .i64 24] ?_; (with_reducible refine (spec_l01Next.calls g s0_0 t206 t207 24 t208 t209 t210 w0 _ ?side1 ?side2 A7.out).mono ?_); (case side1 => exact iS57_); (case side2 => exact bS57_); rintro e w61 ⟨rfl, hi, hb, hk⟩; refine ⟨_, rfl, ?_⟩; replace HO193 := Aside0.mk (Kd.R_mono (Kd.R_keep (IsS57.apart (show IsS57 w0 _ g s0_0 t206 t207 from iS57_) (rS_ HO193.out) (by decide)) hk (fun _ h => h.2)) (fun _ h => h.1)); replace HO204 := Aside0.mk (Kd.R_mono (Kd.R_keep (IsS57.apart (show IsS57 w0 _ g s0_0 t206 t207 from iS57_) (rS_ HO204.out) (by decide)) hk (fun _ h => h.2)) (fun _ h => h.1)); replace HK := Aside0.mk (KeepBut.trans kK_ hk (.inl rfl)); replace HB := Aside0.mk (hb); replace HI0 := Aside0.mk (hi); (try clear hb hk hi)) | ((with_reducible refine gate_dst (N := 48) rfl ?_); refine Kd.R_lit k39 _ 39 ?hg (N := 48) ?hd (xs := ([] : List (S39))) (inner := []) (ok := fun _ => True) (okp := fun _ => True) ?hr ?hp (fun _ hk => hk) trivial (Below.refl _ _) (Nat.le_refl _) (by simp) ?_; (case hd => rfl); (case hg => rfl); (case hr => first | (go_simp; done) | (go_simp; rfl)); (case hp => exact (Reps.none _ _)); intro v227 w62 ho63 hb hg_ hnew_; clear hg_ hnew_; (first | rw [← Ny226.out] at ho63 | (simp only [Int.reduceToNat] at ho63; rw [← Ny226.out] at ho63)); have HO228 := Aside0.mk (Kd.R_lower (Kd.R_new' (Kd.R_new' ho63 (Kd.R_lt (rS_ HO193.out))) (Kd.R_lt (rS_ HO204.out))) (keep_size (w := w) (g := g) (row := none) kK_)); replace HO193 := Aside0.mk (Kd.R_elder' (rS_ HO193.out) (Kd.R_base ho63) hb); replace HO204 := Aside0.mk (Kd.R_elder' (rS_ HO204.out) (Kd.R_base ho63) hb); replace HK := Aside0.mk (KeepBut.trans kK_ (KeepBut.of_below hb g none) (.inl rfl)); replace HB := Aside0.mk (below_step bS57_ hb); replace HI0 := Aside0.mk (IsS57.below iS57_ hb); clear hb ho63))
     go_loopg [5, 6] k (fun kq v5 v6 w' => ∃ (x5_1 : List (S39)) (x6_1 : Int) (x1001_1 : Int) (x1002_1 : Int), v6 = .int .i64 x6_1 ∧ Aside0 (spec_l02Draw.l0 kq x5_1 x6_1 s0_0 x1001_1 x1002_1 = some (r1, r2, r3)) ∧ Aside0 (kq ≤ k) ∧ Aside0 (Kd.R k39 39 w' w.heap.size (fun _ => True) v5 x5_1) ∧ Aside0 (IsS57 w0 w' g s0_0 x1001_1 x1002_1) ∧ Aside0 (KeepBut w w' g none) ∧ Aside0 (Below w0.heap.size w0 w'))
     case atStart => exact ⟨(y226), (0), (t209), (t210), r3_, H', ⟨Nat.le_refl _⟩, ⟨rS_ (Kd.R_mono HO228.out (fun _ hk => trivial))⟩, ⟨iS57_⟩, ⟨kK_⟩, ⟨bS57_⟩⟩
     case round =>
      clear H'
      try clear c1
      try clear p1
      try clear q1
      try clear hx1
      try clear hf1
      try clear c2
      try clear p2
      try clear q2
      try clear hx2
      try clear hf2
      try clear c3
      try clear c4
      try clear c5
      try clear p6
      try clear c8
      try clear c8b0
      try clear c8b1
      try clear c10
      try clear c10b0
      try clear c11
      try clear c11b0
      try clear c12
      try clear c12b0
      try clear c13
      try clear c13b0
      try clear c14
      try clear p14
      try clear q14
      try clear hx14
      try clear hf14
      try clear p21
      try clear q21
      try clear hx21
      try clear p22
      try clear q22
      try clear hx22
      try clear c28
      try clear hx28
      try clear hf28
      try clear c31
      try clear c31b0
      try clear c31b1
      try clear c32
      try clear c32b0
      try clear c33
      try clear c33b0
      try clear c34
      try clear c35
      try clear c36
      try clear c37
      try clear c44
      try clear c44b0
      try clear c44b1
      try clear c53
      try clear c53b0
      try clear c53b1
      try clear hx14_0
      try clear hx14_1
      try clear hx217_0
      try clear hx222_0
      try clear hx222_1
      try clear hx28_0
      try clear p14
      try clear p217
      try clear p222
      try clear q14
      try clear q217
      try clear q222
      obtain ⟨x5_1, x6_1, x1001_1, x1002_1, rfl, HA, HK1, HO_5, HI0, HK, HB⟩ := hrel
      cases gk with
      | zero => exact absurd HA.out (by simp [spec_l02Draw.l0])
      | succ k1 =>
       have H := HA.out
       clear HA
       simp only [spec_l02Draw.l0] at H
       replace H := Option.bind_eq_some_iff.mp H
       obtain ⟨⟨t229, t230, t231⟩, A640, H⟩ := H
       try dsimp only at H
       have A64 := Aside0.mk A640
       clear A640
       by_cases c65 : x6_1 < (wrap64 (40 + t229))
       ·rw [if_pos c65] at H
        have c65b0 : decide (x6_1 < (wrap64 (40 + t229))) = true := decide_eq_true c65
        clear c65
        by_cases c66 : x5_1.length < 8796093022208
        ·rw [if_pos c66] at H
         have LMc66 := Aside0.mk c66
         clear c66
         obtain ⟨y232, hY_⟩ : ∃ y_ : List (S39), y_ = (x5_1 ++ [(⟨x6_1, 0⟩ : S39)]) := ⟨_, rfl⟩
         replace H : (spec_l02Draw.l0 k1 y232 (wrap64 (x6_1 + 1)) s0_0 t230 t231) = some (r1, r2, r3) := yY_
         have Ny232 := Aside0.mk hY_
         clear hY_
         have H' := Aside0.mk H
         clear H
         go_wp2_with (first | ((with_reducible refine gate_callee (f := 36) rfl ?_); refine gL_ (some 51) Tryz.func36 #[.pointer (some ⟨g, 0, none⟩), .int .i64 2] ?_; (with_reducible refine (spec_l01Next.calls g s0_0 x1001_1 x1002_1 2 t229 t230 t231 w0 _ ?side1 ?side2 A64.out).mono ?_); (case side1 => exact iS57_); (case side2 => exact bS57_); rintro e w67 ⟨rfl, hi, hb, hk⟩; refine ⟨_, rfl, ?_⟩; replace HO_5 := Aside0.mk (Kd.R_mono (Kd.R_keep (IsS57.apart (show IsS57 w0 _ g s0_0 x1001_1 x1002_1 from iS57_) (rS_ HO_5.out) (by decide)) hk (fun _ h => h.2)) (fun _ h => h.1)); replace HK := Aside0.mk (KeepBut.trans kK_ hk (.inl rfl)); replace HB := Aside0.mk (hb); replace HI0 := Aside0.mk (hi); (try clear hb hk hi)) | ((with_reducible refine gate_builtin (b := .append) (xs := #[.tmp 56, .tmp 59]) rfl ?_); at_builtin; refine Kd.R_append k39 w.heap.size rfl (.tmp 56) (.tmp 59) 24 39 (.agg #[(.int .i64 0), (.int .i64 0)]) 16 rfl Tryz.underlying24 info39 rfl (by decide) (by omega) u5 x5_1 (⟨x6_1, 0⟩ : S39) [.int .i64 x6_1, .int .i64 0] (fun _ => True) (fun _ => False) rfl rfl ?aP (fun _ hk => hk.elim) ?aF ?aO (Below.refl _ _) ?aS ?aL ?_; (case aP => exact k39_mkM _ _ _ (⟨x6_1, 0⟩ : S39)); (case aF => exact (fun _ _ => trivial)); (case aO => exact (rS_ HO_5.out)); (case aS => exact (keep_size (w := w) (g := g) (row := none) kK_)); (case aL => have := LMc66.out; omega); intro v233 w68 ho hb hg hat; rw [← Ny232.out] at ho; replace HB := Aside0.mk (below_weaken bS57_ HL.out hb); replace HI0 := Aside0.mk (IsS57.grown iS57_ hg (IsS57.own_ne HI0.out HO_5.out (by decide))); replace HK := Aside0.mk (KeepBut.trans kK_ (KeepBut.of_grown hg g) (Kd.R_base2 HO_5.out)); have HO234 := Aside0.mk (ho); clear HO_5; clear ho hb hg hat))
         go_roundg k1
         case measure => have := HK1.out; omega
         case rel => exact ⟨(y232), (wrap64 (x6_1 + 1)), (t230), (t231), r3_, H', ⟨by have := HK1.out; omega⟩, ⟨rS_ HO234.out⟩, ⟨iS57_⟩, ⟨kK_⟩, ⟨bS57_⟩⟩
        ·rw [if_neg c66] at H
         exact absurd H (by simp)
       ·rw [if_neg c65] at H
        have c65b0 : decide (x6_1 < (wrap64 (40 + t229))) = false := decide_eq_false c65
        clear c65
        simp only [Option.some.injEq, Prod.mk.injEq] at H
        obtain ⟨rfl, rfl, rfl⟩ := H
        go_wp2_with (first | ((with_reducible refine gate_callee (f := 36) rfl ?_); refine gL_ (some 51) Tryz.func36 #[.pointer (some ⟨g, 0, none⟩), .int .i64 2] ?_; (with_reducible refine (spec_l01Next.calls g s0_0 x1001_1 x1002_1 2 t229 t230 t231 w0 _ ?side1 ?side2 A64.out).mono ?_); (case side1 => exact iS57_); (case side2 => exact bS57_); rintro e w69 ⟨rfl, hi, hb, hk⟩; refine ⟨_, rfl, ?_⟩; replace HO_5 := Aside0.mk (Kd.R_mono (Kd.R_keep (IsS57.apart (show IsS57 w0 _ g s0_0 x1001_1 x1002_1 from iS57_) (rS_ HO_5.out) (by decide)) hk (fun _ h => h.2)) (fun _ h => h.1)); replace HK := Aside0.mk (KeepBut.trans kK_ hk (.inl rfl)); replace HB := Aside0.mk (hb); replace HI0 := Aside0.mk (hi); (try clear hb hk hi)))
        go_ret
        exact ⟨_, r2_, rS_ HO_5.out, iS57_, bS57_, kK_⟩
    ·rw [if_neg c53] at H
     have c53b0 : (t208 == 3) = false := beq_eq_false_iff_ne.mpr c53
     have c53b1 : (t208 != 3) = true := bne_iff_ne.mpr c53
     by_cases c70 : t208 = 4
     ·rw [if_pos c70] at H
      have c70b0 : (t208 == 4) = true := beq_iff_eq.mpr c70
      have c70b1 : (t208 != 4) = false := bne_eq_false_iff_eq.mpr c70
      clear c70
      by_cases c71 : 0 < (t202.length : Int)
      ·rw [if_pos c71] at H
       have c71b0 : decide (0 < (t202.length : Int)) = true := decide_eq_true c71
       have c71b1 : decide (0 < t202.length) = true := decide_eq_true (by omega)
       clear c71
       obtain ⟨ji72, hji72⟩ : ∃ j_ : Int, (wrap64 ((t202.length : Int) - 1)) = j_ := ⟨_, rfl⟩
       replace H : (if 0 ≤ (ji72) then (if (ji72) < (t202.length : Int) then (if t202.length < 8796093022208 then (some ((t202 ++ [(⟨wrap64 (((rd_T39 t202 0).f0) + 3), wrap64 (((rd_T39 t202 (ji72)).f1) + 2)⟩ : S39)]), t209, t210)) else (none)) else (none)) else (none)) = some (r1, r2, r3) := by first | (rw [hji72] at H; exact H) | (simp only [hji72] at H ⊢; exact H)
       (try rw [hji72] at A2)
       (try rw [hji72] at A3)
       (try rw [hji72] at A4)
       (try rw [hji72] at A5)
       (try rw [hji72] at A6)
       (try rw [hji72] at A7)
       have hji72w : (IntKind.i64.wrap ((t202.length : Int) - 1)) = ji72 := (i64_w _).trans hji72
       by_cases c73 : 0 ≤ (ji72)
       ·rw [if_pos c73] at H
        have c73b0 : decide (0 ≤ (ji72)) = true := decide_eq_true c73
        clear c73
        by_cases c74 : (ji72) < (t202.length : Int)
        ·rw [if_pos c74] at H
         have c74b0 : decide ((ji72) < (t202.length : Int)) = true := decide_eq_true c74
         clear c74
         by_cases c75 : t202.length < 8796093022208
         ·rw [if_pos c75] at H
          have LMc75 := Aside0.mk c75
          clear c75
          obtain ⟨y237, hY_⟩ : ∃ y_ : List (S39), y_ = (t202 ++ [(⟨wrap64 (((rd_T39 t202 0).f0) + 3), wrap64 (((rd_T39 t202 (ji72)).f1) + 2)⟩ : S39)]) := ⟨_, rfl⟩
          replace H : (some (y237, t209, t210)) = some (r1, r2, r3) := yY_
          have Ny237 := Aside0.mk hY_
          clear hY_
          simp only [Option.some.injEq, Prod.mk.injEq] at H
          obtain ⟨rfl, rfl, rfl⟩ := H
          go_enter Tryz.func14, Tryz.ntmps14
          try go_wp2_with (first | ((with_reducible refine gate_callee (f := 35) rfl ?_); refine gL_ (some 8) Tryz.func35 #[.pointer (some ⟨g, 0, none⟩), .int .i64 8] ?_; (with_reducible refine (spec_l02DrawPoly.calls k g s0_0 s0_1 s0_2 8 t191 t194 t195 w0 _ ?side1 ?side2 A2.out).mono ?_); (case side1 => exact iS57_); (case side2 => exact bS57_); rintro e w76 ⟨v192, rfl, ho0, hi, hb, hk⟩; refine ⟨_, rfl, ?_⟩; have HO193 := Aside0.mk (Kd.R_lower ho0 (keep_size (w := w) (g := g) (row := none) kK_)); replace HK := Aside0.mk (KeepBut.trans kK_ hk (.inl rfl)); replace HB := Aside0.mk (hb); replace HI0 := Aside0.mk (hi); (try clear hb hk hi ho0)) | ((with_reducible refine gate_callee (f := 36) rfl ?_); refine gL_ (some 10) Tryz.func36 #[.pointer (some ⟨g, 0, none⟩), .int .i64 9] ?_; (with_reducible refine (spec_l01Next.calls g s0_0 t194 t195 9 t196 t197 t198 w0 _ ?side1 ?side2 A3.out).mono ?_); (case side1 => exact iS57_); (case side2 => exact bS57_); rintro e w77 ⟨rfl, hi, hb, hk⟩; refine ⟨_, rfl, ?_⟩; replace HO193 := Aside0.mk (Kd.R_mono (Kd.R_keep (IsS57.apart (show IsS57 w0 _ g s0_0 t194 t195 from iS57_) (rS_ HO193.out) (by decide)) hk (fun _ h => h.2)) (fun _ h => h.1)); replace HK := Aside0.mk (KeepBut.trans kK_ hk (.inl rfl)); replace HB := Aside0.mk (hb); replace HI0 := Aside0.mk (hi); (try clear hb hk hi)) | ((with_reducible refine gate_callee (f := 36) rfl ?_); refine gL_ (some 13) Tryz.func36 #[.pointer (some ⟨g, 0, none⟩), .int .i64 9] ?_; (with_reducible refine (spec_l01Next.calls g s0_0 t197 t198 9 t199 t200 t201 w0 _ ?side1 ?side2 A4.out).mono ?_); (case side1 => exact iS57_); (case side2 => exact bS57_); rintro e w78 ⟨rfl, hi, hb, hk⟩; refine ⟨_, rfl, ?_⟩; replace HO193 := Aside0.mk (Kd.R_mono (Kd.R_keep (IsS57.apart (show IsS57 w0 _ g s0_0 t197 t198 from iS57_) (rS_ HO193.out) (by decide)) hk (fun _ h => h.2)) (fun _ h => h.1)); replace HK := Aside0.mk (KeepBut.trans kK_ hk (.inl rfl)); replace HB := Aside0.mk (hb); replace HI0 := Aside0.mk (hi); (try clear hb hk hi); obtain ⟨Ao79, co79, eo79⟩ := Kd.R_slice HO193.out; subst eo79) | ((with_reducible refine gate_callee (f := 34) rfl ?_); refine gL_ (some 15) Tryz.func34 #[.slice Ao79 t191.length co79, .int .i64 (wrap64 (t196 - 4)), .int .i64 (wrap64 (t199 - 4))] ?_; (with_reducible refine (spec_l02Move.calls k _ _ t191 (wrap64 (t196 - 4)) (wrap64 (t199 - 4)) t202 _ ?side1 ?side2 A5.out).mono ?_); (case side1 => exact cS_ ((Kd.R_reads' HO193.out).2.2)); (case side2 => exact (Kd.R_reads' HO193.out).2.1); rintro e w80 ⟨v203, rfl, ho0, hb⟩; refine ⟨_, rfl, ?_⟩; have HO204 := Aside0.mk (Kd.R_lower (Kd.R_new' ho0 (Kd.R_lt (rS_ HO193.out))) (keep_size (w := w) (g := g) (row := none) kK_)); replace HO193 := Aside0.mk (Kd.R_elder' (rS_ HO193.out) (Kd.R_base ho0) hb); replace HK := Aside0.mk (KeepBut.trans kK_ (KeepBut.of_below hb g none) (.inl rfl)); replace HB := Aside0.mk (below_step bS57_ hb); replace HI0 := Aside0.mk (IsS57.below iS57_ hb); (try clear hb ho0); obtain ⟨Ao81, co81, eo81⟩ := Kd.R_slice HO204.out; subst eo81) | ((with_reducible refine gate_callee (f := 36) rfl ?_); refine gL_ (some 19) Tryz.func36 #[.pointer (some ⟨g, 0, none⟩), .int .i64 (t202.length : Int)] ?_; (with_reducible refine (spec_l01Next.calls g s0_0 t200 t201 (t202.length : Int) t205 t206 t207 w0 _ ?side1 ?side2 A6.out).mono ?_); (case side1 => exact iS57_); (case side2 => exact bS57_); rintro e w82 ⟨rfl, hi, hb, hk⟩; refine ⟨_, rfl, ?_⟩; replace HO193 := Aside0.mk (Kd.R_mono (Kd.R_keep (IsS57.apart (show IsS57 w0 _ g s0_0 t200 t201 from iS57_) (rS_ HO193.out) (by decide)) hk (fun _ h => h.2)) (fun _ h => h.1)); replace HO204 := Aside0.mk (Kd.R_mono (Kd.R_keep (IsS57.apart (show IsS57 w0 _ g s0_0 t200 t201 from iS57_) (rS_ HO204.out) (by decide)) hk (fun _ h => h.2)) (fun _ h => h.1)); replace HK := Aside0.mk (KeepBut.trans kK_ hk (.inl rfl)); replace HB := Aside0.mk (hb); replace HI0 := Aside0.mk (hi); (try clear hb hk hi)) | ((with_reducible refine gate_callee (f := 36) rfl ?_); refine gL_ (some 21) Tryz.func36 #[.pointer (some ⟨g, 0, none⟩), .int .i64 24] ?_; (with_reducible refine (spec_l01Next.calls g s0_0 t206 t207 24 t208 t209 t210 w0 _ ?side1 ?side2 A7.out).mono ?_); (case side1 => exact iS57_); (case side2 => exact bS57_); rintro e w83 ⟨rfl, hi, hb, hk⟩; refine ⟨_, rfl, ?_⟩; replace HO193 := Aside0.mk (Kd.R_mono (Kd.R_keep (IsS57.apart (show IsS57 w0 _ g s0_0 t206 t207 from iS57_) (rS_ HO193.out) (by decide)) hk (fun _ h => h.2)) (fun _ h => h.1)); replace HO204 := Aside0.mk (Kd.R_mono (Kd.R_keep (IsS57.apart (show IsS57 w0 _ g s0_0 t206 t207 from iS57_) (rS_ HO204.out) (by decide)) hk (fun _ h => h.2)) (fun _ h => h.1)); replace HK := Aside0.mk (KeepBut.trans kK_ hk (.inl rfl)); replace HB := Aside0.mk (hb); replace HI0 := Aside0.mk (hi); (try clear hb hk hi)))
          replace HO193 := Aside0.mk (Kd.R_drew HO193.out)
          replace HO204 := Aside0.mk (Kd.R_drew HO204.out)
          replace HI0 := Aside0.mk (IsS57.drew HI0.out)
          replace HK := Aside0.mk (keep_drew HK.out)
          replace HB := Aside0.mk (below_drew1 HB.out)
          have p235 : 0 ≤ (0 : Int) := (by omega)
          have q235 : 0 < (t202.length : Int) := of_decide_eq_true aS_
          obtain ⟨ad235, e235, hx235_0, hx235_1⟩ := at_T39 (Kd.R_reads' HO204.out).2.2 0 p235 q235
          cases e235
          have qi235 : (0 < t202.length) = True := eq_true (by omega)
          (try rw [show ((0 : Int)).toNat = 0 from rfl] at hx235_0)
          (try rw [show 0 * 2 = 0 from rfl] at hx235_0)
          (try rw [Addr.add_zero'] at hx235_0)
          (try rw [show ((0 : Int)).toNat = 0 from rfl] at hx235_1)
          (try rw [show 0 * 2 = 0 from rfl] at hx235_1)
          (try rw [Addr.add_zero'] at hx235_1)
          replace p235 := eq_true p235
          replace q235 := eq_true q235
          have p236 : 0 ≤ ((ji72) : Int) := of_decide_eq_true aS_
          have q236 : (ji72) < (t202.length : Int) := of_decide_eq_true aS_
          obtain ⟨ad236, e236, hx236_0, hx236_1⟩ := at_T39 (Kd.R_reads' HO204.out).2.2 (ji72) p236 q236
          obtain rfl : ad235 = ad236 := (by injection e236)
          replace p236 := eq_true p236
          replace q236 := eq_true q236
          refine start_ (n := 18) (S := fun w' => w'.cell? ad235 = some (.int .i64 ((rd_T39 t202 0).f0)) ∧ w'.cell? ⟨ad235.block, ad235.off + 1, none⟩ = some (.int .i64 ((rd_T39 t202 0).f1)) ∧ w'.cell? (ad235.add (((ji72)).toNat * 2)) = some (.int .i64 ((rd_T39 t202 (ji72)).f0)) ∧ w'.cell? ⟨(ad235.add (((ji72)).toNat * 2)).block, (ad235.add (((ji72)).toNat * 2)).off + 1, none⟩ = some (.int .i64 ((rd_T39 t202 (ji72)).f1))) (ds := [15, 16]) #[F, F, F, F, F, F, F, F, F, F, F, F, F, F, F, F, F, F] (by kernel_rfl) rfl rfl ⟨hx235_0, hx235_1, hx236_0, hx236_1⟩ (fun hHeld => ?_); refine with_tabW spec_l02Draw.tab20 spec_l02Draw.bits20 (fun HT_ HW_ => ?_)
          generalize w83.drew = w84 at HO193 HO204 HI0 HK HB hx235_0 hx235_1 hx236_0 hx236_1 hHeld ⊢
          refine pu_ HT_ 0 (some 65) #[T,F,F,F,F,F,F,F,F,F,F,F,F,F,F,F,F,F] ?_
          refine pu_ HT_ 1 (some 66) #[T,T,F,F,F,F,F,F,F,F,F,F,F,F,F,F,F,F] ?_
          refine pu_ HT_ 2 (some 67) #[T,T,T,F,F,F,F,F,F,F,F,F,F,F,F,F,F,F] ?_
          refine pu_ HT_ 3 (some 68) #[T,T,T,T,F,F,F,F,F,F,F,F,F,F,F,F,F,F] ?_
          refine pu_ HT_ 6 (some 71) #[T,T,T,T,F,F,T,F,F,F,F,F,F,F,F,F,F,F] ?_
          refine pu_ HT_ 7 (some 72) #[T,T,T,T,F,F,T,T,F,F,F,F,F,F,F,F,F,F] ?_
          refine pu_ HT_ 8 (some 73) #[T,T,T,T,F,F,T,T,T,F,F,F,F,F,F,F,F,F] ?_
          refine pu_ HT_ 9 (some 74) #[T,T,T,T,F,F,T,T,T,T,F,F,F,F,F,F,F,F] ?_
          refine pu_ HT_ 10 (some 75) #[T,T,T,T,F,F,T,T,T,T,T,F,F,F,F,F,F,F] ?_
          refine pu_ HT_ 11 (some 76) #[T,T,T,T,F,F,T,T,T,T,T,T,F,F,F,F,F,F] ?_
          refine take_ (i := 4) (N := some 69) (v := ?_) (a' := ?_) #[T, T, T, T, T, F, T, T, T, T, T, T, F, F, F, F, F, F] rfl rfl (take_ofW HT_.out HW_.out (by kernel_rfl)) (fun _ _ _ h => h) (Or.inl ⟨by rfl, ?_⟩) hHeld ?_ ?_
          rotate_left
          ·rintro w' ⟨s0, s1, s2, s3⟩
           go_simp
           with_reducible rfl
          rotate_left
          ·simp only [Act.put, List.setIfInBounds_toArray, List.set_cons_zero, List.set_cons_succ, i64_w, i32_w]
           rfl
          refine pu_ HT_ 5 (some 70) #[T,T,T,T,T,T,T,T,T,T,T,T,F,F,F,F,F,F] ?_
          refine take_ (i := 12) (N := some 77) (v := ?_) (a' := ?_) #[T, T, T, T, T, T, T, T, T, T, T, T, T, F, F, F, F, F] rfl rfl (take_ofW HT_.out HW_.out (by kernel_rfl)) (fun _ _ _ h => h) (Or.inl ⟨by rfl, ?_⟩) hHeld ?_ ?_
          rotate_left
          ·rintro w' ⟨s0, s1, s2, s3⟩
           go_simp
           with_reducible rfl
          rotate_left
          ·simp only [Act.put, List.setIfInBounds_toArray, List.set_cons_zero, List.set_cons_succ, i64_w, i32_w]
           rfl
          refine pu_ HT_ 13 (some 78) #[T,T,T,T,T,T,T,T,T,T,T,T,T,T,F,F,F,F] ?_
          refine pu_ HT_ 14 (some 79) #[T,T,T,T,T,T,T,T,T,T,T,T,T,T,T,F,F,F] ?_
          refine last_ (i := 15) (N := some 80) #[T, T, T, T, T, T, T, T, T, T, T, T, T, T, T, T, F, F] rfl rfl (one_of HT_.out (by kernel_rfl)) (by decide) (fun K hK => ?_)
          refine value_ (w1 := ?_) (v := ?_) (by rfl) rfl ?_ ?_
          rotate_left 2
          ·go_simp
           constructor
           ·rfl
           ·rfl
          refine hK.out _ _ ?_
          clear hK K
          refine no_ (some 80) ?_
          refine last_ (i := 16) (N := some 81) #[T, T, T, T, T, T, T, T, T, T, T, T, T, T, T, T, T, F] rfl rfl (one_of HT_.out (by kernel_rfl)) (by decide) (fun K hK => ?_)
          refine Kd.R_append_step k39 w.heap.size (by rfl) (.tmp 65) (.tmp 80) 24 39 (.agg #[(.int .i64 0), (.int .i64 0)]) 16 rfl Tryz.underlying24 info39 rfl (by decide) (by omega) (.slice (some ad235) t202.length co81) t202 (⟨wrap64 (((rd_T39 t202 0).f0) + 3), wrap64 (((rd_T39 t202 (ji72)).f1) + 2)⟩ : S39) [.int .i64 (wrap64 (((rd_T39 t202 0).f0) + 3)), .int .i64 (wrap64 (((rd_T39 t202 (ji72)).f1) + 2))] (fun k_ => some k_ ≠ (.slice Ao79 t191.length co79 : Value).ownBlock) (fun _ => False) rfl rfl ?aP (fun _ hk => hk.elim) ?aF ?aO (Below.refl _ _) ?aS ?aL ?_
          (case aP => exact k39_mkM _ _ _ (⟨wrap64 (((rd_T39 t202 0).f0) + 3), wrap64 (((rd_T39 t202 (ji72)).f1) + 2)⟩ : S39))
          (case aF => exact (fun k_ hk => Kd.fresh' (Kd.R_lt (rS_ HO193.out)) k_ hk))
          (case aO => exact (rS_ (Kd.R_mono HO204.out (fun _ hk => hk.2))))
          (case aS => exact (keep_size (w := w) (g := g) (row := none) kK_))
          (case aL => have := LMc75.out; omega)
          intro v238 w85 ho hb hg hat
          rw [← Ny237.out] at ho
          replace HO193 := Aside0.mk (Kd.R_after (ok := (fun _ => True)) (rS_ HO193.out) hg hat)
          replace HB := Aside0.mk (below_weaken bS57_ HL.out hb)
          replace HI0 := Aside0.mk (IsS57.grown iS57_ hg (IsS57.own_ne HI0.out HO204.out (by decide)))
          replace HK := Aside0.mk (KeepBut.trans kK_ (KeepBut.of_grown hg g) (Kd.R_base2 HO204.out))
          have HO239 := Aside0.mk (ho)
          clear HO204
          clear ho hb hg hat
          refine hK.out _ _ ?_
          clear hK K
          refine no_ (some 81) ?_
          refine pu_ HT_ 17 (some 2) #[T,T,T,T,T,T,T,T,T,T,T,T,T,T,T,T,T,T] ?_
          refine done_ (done_of HT_.out (by kernel_rfl)) ?_
          try go_wp2
          go_ret
          exact ⟨_, by first | rfl | (simp [errW_none, errW_some] <;> rfl) | (simp only [← hji72]; first | rfl | (simp [errW_none, errW_some] <;> rfl)) | (simp [*, errW_none, errW_some] <;> rfl), rS_ (Kd.R_mono HO239.out (fun _ hk => trivial)), iS57_, bS57_, kK_⟩
         ·rw [if_neg c75] at H
          exact absurd H (by simp)
        ·rw [if_neg c74] at H
         exact absurd H (by simp)
       ·rw [if_neg c73] at H
        exact absurd H (by simp)
      ·rw [if_neg c71] at H
       exact absurd H (by simp)
     ·rw [if_neg c70] at H
      have c70b0 : (t208 == 4) = false := beq_eq_false_iff_ne.mpr c70
      have c70b1 : (t208 != 4) = true := bne_iff_ne.mpr c70
      by_cases c86 : t208 = 5
      ·rw [if_pos c86] at H
       have c86b0 : (t208 == 5) = true := beq_iff_eq.mpr c86
       have c86b1 : (t208 != 5) = false := bne_eq_false_iff_eq.mpr c86
       clear c86
       by_cases c87 : 0 < (t202.length : Int)
       ·rw [if_pos c87] at H
        have c87b0 : decide (0 < (t202.length : Int)) = true := decide_eq_true c87
        have c87b1 : decide (0 < t202.length) = true := decide_eq_true (by omega)
        clear c87
        obtain ⟨ji88, hji88⟩ : ∃ j_ : Int, (wrap64 ((t202.length : Int) - 1)) = j_ := ⟨_, rfl⟩
        replace H : (if 0 ≤ (ji88) then (if (ji88) < (t202.length : Int) then (if t202.length < 8796093022208 then (some ((t202 ++ [(⟨wrap64 (((rd_T39 t202 0).f0) + 3), wrap64 (((rd_T39 t202 (ji88)).f1) + 2)⟩ : S39)]), t209, t210)) else (none)) else (none)) else (none)) = some (r1, r2, r3) := by first | (rw [hji88] at H; exact H) | (simp only [hji88] at H ⊢; exact H)
        (try rw [hji88] at A2)
        (try rw [hji88] at A3)
        (try rw [hji88] at A4)
        (try rw [hji88] at A5)
        (try rw [hji88] at A6)
        (try rw [hji88] at A7)
        have hji88w : (IntKind.i64.wrap ((t202.length : Int) - 1)) = ji88 := (i64_w _).trans hji88
        by_cases c89 : 0 ≤ (ji88)
        ·rw [if_pos c89] at H
         have c89b0 : decide (0 ≤ (ji88)) = true := decide_eq_true c89
         clear c89
         by_cases c90 : (ji88) < (t202.length : Int)
         ·rw [if_pos c90] at H
          have c90b0 : decide ((ji88) < (t202.length : Int)) = true := decide_eq_true c90
          clear c90
          by_cases c91 : t202.length < 8796093022208
          ·rw [if_pos c91] at H
           have LMc91 := Aside0.mk c91
           clear c91
           obtain ⟨y242, hY_⟩ : ∃ y_ : List (S39), y_ = (t202 ++ [(⟨wrap64 (((rd_T39 t202 0).f0) + 3), wrap64 (((rd_T39 t202 (ji88)).f1) + 2)⟩ : S39)]) := ⟨_, rfl⟩
           replace H : (some (y242, t209, t210)) = some (r1, r2, r3) := yY_
           have Ny242 := Aside0.mk hY_
           clear hY_
           simp only [Option.some.injEq, Prod.mk.injEq] at H
           obtain ⟨rfl, rfl, rfl⟩ := H
           go_enter Tryz.func14, Tryz.ntmps14
           try go_wp2_with (first | ((with_reducible refine gate_callee (f := 35) rfl ?_); refine gL_ (some 8) Tryz.func35 #[.pointer (some ⟨g, 0, none⟩), .int .i64 8] ?_; (with_reducible refine (spec_l02DrawPoly.calls k g s0_0 s0_1 s0_2 8 t191 t194 t195 w0 _ ?side1 ?side2 A2.out).mono ?_); (case side1 => exact iS57_); (case side2 => exact bS57_); rintro e w92 ⟨v192, rfl, ho0, hi, hb, hk⟩; refine ⟨_, rfl, ?_⟩; have HO193 := Aside0.mk (Kd.R_lower ho0 (keep_size (w := w) (g := g) (row := none) kK_)); replace HK := Aside0.mk (KeepBut.trans kK_ hk (.inl rfl)); replace HB := Aside0.mk (hb); replace HI0 := Aside0.mk (hi); (try clear hb hk hi ho0)) | ((with_reducible refine gate_callee (f := 36) rfl ?_); refine gL_ (some 10) Tryz.func36 #[.pointer (some ⟨g, 0, none⟩), .int .i64 9] ?_; (with_reducible refine (spec_l01Next.calls g s0_0 t194 t195 9 t196 t197 t198 w0 _ ?side1 ?side2 A3.out).mono ?_); (case side1 => exact iS57_); (case side2 => exact bS57_); rintro e w93 ⟨rfl, hi, hb, hk⟩; refine ⟨_, rfl, ?_⟩; replace HO193 := Aside0.mk (Kd.R_mono (Kd.R_keep (IsS57.apart (show IsS57 w0 _ g s0_0 t194 t195 from iS57_) (rS_ HO193.out) (by decide)) hk (fun _ h => h.2)) (fun _ h => h.1)); replace HK := Aside0.mk (KeepBut.trans kK_ hk (.inl rfl)); replace HB := Aside0.mk (hb); replace HI0 := Aside0.mk (hi); (try clear hb hk hi)) | ((with_reducible refine gate_callee (f := 36) rfl ?_); refine gL_ (some 13) Tryz.func36 #[.pointer (some ⟨g, 0, none⟩), .int .i64 9] ?_; (with_reducible refine (spec_l01Next.calls g s0_0 t197 t198 9 t199 t200 t201 w0 _ ?side1 ?side2 A4.out).mono ?_); (case side1 => exact iS57_); (case side2 => exact bS57_); rintro e w94 ⟨rfl, hi, hb, hk⟩; refine ⟨_, rfl, ?_⟩; replace HO193 := Aside0.mk (Kd.R_mono (Kd.R_keep (IsS57.apart (show IsS57 w0 _ g s0_0 t197 t198 from iS57_) (rS_ HO193.out) (by decide)) hk (fun _ h => h.2)) (fun _ h => h.1)); replace HK := Aside0.mk (KeepBut.trans kK_ hk (.inl rfl)); replace HB := Aside0.mk (hb); replace HI0 := Aside0.mk (hi); (try clear hb hk hi); obtain ⟨Ao95, co95, eo95⟩ := Kd.R_slice HO193.out; subst eo95) | ((with_reducible refine gate_callee (f := 34) rfl ?_); refine gL_ (some 15) Tryz.func34 #[.slice Ao95 t191.length co95, .int .i64 (wrap64 (t196 - 4)), .int .i64 (wrap64 (t199 - 4))] ?_; (with_reducible refine (spec_l02Move.calls k _ _ t191 (wrap64 (t196 - 4)) (wrap64 (t199 - 4)) t202 _ ?side1 ?side2 A5.out).mono ?_); (case side1 => exact cS_ ((Kd.R_reads' HO193.out).2.2)); (case side2 => exact (Kd.R_reads' HO193.out).2.1); rintro e w96 ⟨v203, rfl, ho0, hb⟩; refine ⟨_, rfl, ?_⟩; have HO204 := Aside0.mk (Kd.R_lower (Kd.R_new' ho0 (Kd.R_lt (rS_ HO193.out))) (keep_size (w := w) (g := g) (row := none) kK_)); replace HO193 := Aside0.mk (Kd.R_elder' (rS_ HO193.out) (Kd.R_base ho0) hb); replace HK := Aside0.mk (KeepBut.trans kK_ (KeepBut.of_below hb g none) (.inl rfl)); replace HB := Aside0.mk (below_step bS57_ hb); replace HI0 := Aside0.mk (IsS57.below iS57_ hb); (try clear hb ho0); obtain ⟨Ao97, co97, eo97⟩ := Kd.R_slice HO204.out; subst eo97) | ((with_reducible refine gate_callee (f := 36) rfl ?_); refine gL_ (some 19) Tryz.func36 #[.pointer (some ⟨g, 0, none⟩), .int .i64 (t202.length : Int)] ?_; (with_reducible refine (spec_l01Next.calls g s0_0 t200 t201 (t202.length : Int) t205 t206 t207 w0 _ ?side1 ?side2 A6.out).mono ?_); (case side1 => exact iS57_); (case side2 => exact bS57_); rintro e w98 ⟨rfl, hi, hb, hk⟩; refine ⟨_, rfl, ?_⟩; replace HO193 := Aside0.mk (Kd.R_mono (Kd.R_keep (IsS57.apart (show IsS57 w0 _ g s0_0 t200 t201 from iS57_) (rS_ HO193.out) (by decide)) hk (fun _ h => h.2)) (fun _ h => h.1)); replace HO204 := Aside0.mk (Kd.R_mono (Kd.R_keep (IsS57.apart (show IsS57 w0 _ g s0_0 t200 t201 from iS57_) (rS_ HO204.out) (by decide)) hk (fun _ h => h.2)) (fun _ h => h.1)); replace HK := Aside0.mk (KeepBut.trans kK_ hk (.inl rfl)); replace HB := Aside0.mk (hb); replace HI0 := Aside0.mk (hi); (try clear hb hk hi)) | ((with_reducible refine gate_callee (f := 36) rfl ?_); refine gL_ (some 21) Tryz.func36 #[.pointer (some ⟨g, 0, none⟩), .int .i64 24] ?_; (with_reducible refine (spec_l01Next.calls g s0_0 t206 t207 24 t208 t209 t210 w0 _ ?side1 ?side2 A7.out).mono ?_); (case side1 => exact iS57_); (case side2 => exact bS57_); rintro e w99 ⟨rfl, hi, hb, hk⟩; refine ⟨_, rfl, ?_⟩; replace HO193 := Aside0.mk (Kd.R_mono (Kd.R_keep (IsS57.apart (show IsS57 w0 _ g s0_0 t206 t207 from iS57_) (rS_ HO193.out) (by decide)) hk (fun _ h => h.2)) (fun _ h => h.1)); replace HO204 := Aside0.mk (Kd.R_mono (Kd.R_keep (IsS57.apart (show IsS57 w0 _ g s0_0 t206 t207 from iS57_) (rS_ HO204.out) (by decide)) hk (fun _ h => h.2)) (fun _ h => h.1)); replace HK := Aside0.mk (KeepBut.trans kK_ hk (.inl rfl)); replace HB := Aside0.mk (hb); replace HI0 := Aside0.mk (hi); (try clear hb hk hi)))
           replace HO193 := Aside0.mk (Kd.R_drew HO193.out)
           replace HO204 := Aside0.mk (Kd.R_drew HO204.out)
           replace HI0 := Aside0.mk (IsS57.drew HI0.out)
           replace HK := Aside0.mk (keep_drew HK.out)
           replace HB := Aside0.mk (below_drew1 HB.out)
           have p240 : 0 ≤ (0 : Int) := (by omega)
           have q240 : 0 < (t202.length : Int) := of_decide_eq_true aS_
           obtain ⟨ad240, e240, hx240_0, hx240_1⟩ := at_T39 (Kd.R_reads' HO204.out).2.2 0 p240 q240
           cases e240
           have qi240 : (0 < t202.length) = True := eq_true (by omega)
           (try rw [show ((0 : Int)).toNat = 0 from rfl] at hx240_0)
           (try rw [show 0 * 2 = 0 from rfl] at hx240_0)
           (try rw [Addr.add_zero'] at hx240_0)
           (try rw [show ((0 : Int)).toNat = 0 from rfl] at hx240_1)
           (try rw [show 0 * 2 = 0 from rfl] at hx240_1)
           (try rw [Addr.add_zero'] at hx240_1)
           replace p240 := eq_true p240
           replace q240 := eq_true q240
           have p241 : 0 ≤ ((ji88) : Int) := of_decide_eq_true aS_
           have q241 : (ji88) < (t202.length : Int) := of_decide_eq_true aS_
           obtain ⟨ad241, e241, hx241_0, hx241_1⟩ := at_T39 (Kd.R_reads' HO204.out).2.2 (ji88) p241 q241
           obtain rfl : ad240 = ad241 := (by injection e241)
           replace p241 := eq_true p241
           replace q241 := eq_true q241
           refine start_ (n := 18) (S := fun w' => w'.cell? ad240 = some (.int .i64 ((rd_T39 t202 0).f0)) ∧ w'.cell? ⟨ad240.block, ad240.off + 1, none⟩ = some (.int .i64 ((rd_T39 t202 0).f1)) ∧ w'.cell? (ad240.add (((ji88)).toNat * 2)) = some (.int .i64 ((rd_T39 t202 (ji88)).f0)) ∧ w'.cell? ⟨(ad240.add (((ji88)).toNat * 2)).block, (ad240.add (((ji88)).toNat * 2)).off + 1, none⟩ = some (.int .i64 ((rd_T39 t202 (ji88)).f1))) (ds := [15, 16]) #[F, F, F, F, F, F, F, F, F, F, F, F, F, F, F, F, F, F] (by kernel_rfl) rfl rfl ⟨hx240_0, hx240_1, hx241_0, hx241_1⟩ (fun hHeld => ?_); refine with_tabW spec_l02Draw.tab20 spec_l02Draw.bits20 (fun HT_ HW_ => ?_)
           generalize w99.drew = w100 at HO193 HO204 HI0 HK HB hx240_0 hx240_1 hx241_0 hx241_1 hHeld ⊢
           refine pu_ HT_ 0 (some 65) #[T,F,F,F,F,F,F,F,F,F,F,F,F,F,F,F,F,F] ?_
           refine pu_ HT_ 1 (some 66) #[T,T,F,F,F,F,F,F,F,F,F,F,F,F,F,F,F,F] ?_
           refine pu_ HT_ 2 (some 67) #[T,T,T,F,F,F,F,F,F,F,F,F,F,F,F,F,F,F] ?_
           refine pu_ HT_ 3 (some 68) #[T,T,T,T,F,F,F,F,F,F,F,F,F,F,F,F,F,F] ?_
           refine pu_ HT_ 6 (some 71) #[T,T,T,T,F,F,T,F,F,F,F,F,F,F,F,F,F,F] ?_
           refine pu_ HT_ 7 (some 72) #[T,T,T,T,F,F,T,T,F,F,F,F,F,F,F,F,F,F] ?_
           refine pu_ HT_ 8 (some 73) #[T,T,T,T,F,F,T,T,T,F,F,F,F,F,F,F,F,F] ?_
           refine pu_ HT_ 9 (some 74) #[T,T,T,T,F,F,T,T,T,T,F,F,F,F,F,F,F,F] ?_
           refine pu_ HT_ 10 (some 75) #[T,T,T,T,F,F,T,T,T,T,T,F,F,F,F,F,F,F] ?_
           refine pu_ HT_ 11 (some 76) #[T,T,T,T,F,F,T,T,T,T,T,T,F,F,F,F,F,F] ?_
           refine take_ (i := 4) (N := some 69) (v := ?_) (a' := ?_) #[T, T, T, T, T, F, T, T, T, T, T, T, F, F, F, F, F, F] rfl rfl (take_ofW HT_.out HW_.out (by kernel_rfl)) (fun _ _ _ h => h) (Or.inl ⟨by rfl, ?_⟩) hHeld ?_ ?_
           rotate_left
           ·rintro w' ⟨s0, s1, s2, s3⟩
            go_simp
            with_reducible rfl
           rotate_left
           ·simp only [Act.put, List.setIfInBounds_toArray, List.set_cons_zero, List.set_cons_succ, i64_w, i32_w]
            rfl
           refine pu_ HT_ 5 (some 70) #[T,T,T,T,T,T,T,T,T,T,T,T,F,F,F,F,F,F] ?_
           refine take_ (i := 12) (N := some 77) (v := ?_) (a' := ?_) #[T, T, T, T, T, T, T, T, T, T, T, T, T, F, F, F, F, F] rfl rfl (take_ofW HT_.out HW_.out (by kernel_rfl)) (fun _ _ _ h => h) (Or.inl ⟨by rfl, ?_⟩) hHeld ?_ ?_
           rotate_left
           ·rintro w' ⟨s0, s1, s2, s3⟩
            go_simp
            with_reducible rfl
           rotate_left
           ·simp only [Act.put, List.setIfInBounds_toArray, List.set_cons_zero, List.set_cons_succ, i64_w, i32_w]
            rfl
           refine pu_ HT_ 13 (some 78) #[T,T,T,T,T,T,T,T,T,T,T,T,T,T,F,F,F,F] ?_
           refine pu_ HT_ 14 (some 79) #[T,T,T,T,T,T,T,T,T,T,T,T,T,T,T,F,F,F] ?_
           refine last_ (i := 15) (N := some 80) #[T, T, T, T, T, T, T, T, T, T, T, T, T, T, T, T, F, F] rfl rfl (one_of HT_.out (by kernel_rfl)) (by decide) (fun K hK => ?_)
           refine value_ (w1 := ?_) (v := ?_) (by rfl) rfl ?_ ?_
           rotate_left 2
           ·go_simp
            constructor
            ·rfl
            ·rfl
           refine hK.out _ _ ?_
           clear hK K
           refine no_ (some 80) ?_
           refine last_ (i := 16) (N := some 81) #[T, T, T, T, T, T, T, T, T, T, T, T, T, T, T, T, T, F] rfl rfl (one_of HT_.out (by kernel_rfl)) (by decide) (fun K hK => ?_)
           refine Kd.R_append_step k39 w.heap.size (by rfl) (.tmp 65) (.tmp 80) 24 39 (.agg #[(.int .i64 0), (.int .i64 0)]) 16 rfl Tryz.underlying24 info39 rfl (by decide) (by omega) (.slice (some ad240) t202.length co97) t202 (⟨wrap64 (((rd_T39 t202 0).f0) + 3), wrap64 (((rd_T39 t202 (ji88)).f1) + 2)⟩ : S39) [.int .i64 (wrap64 (((rd_T39 t202 0).f0) + 3)), .int .i64 (wrap64 (((rd_T39 t202 (ji88)).f1) + 2))] (fun k_ => some k_ ≠ (.slice Ao95 t191.length co95 : Value).ownBlock) (fun _ => False) rfl rfl ?aP (fun _ hk => hk.elim) ?aF ?aO (Below.refl _ _) ?aS ?aL ?_
           (case aP => exact k39_mkM _ _ _ (⟨wrap64 (((rd_T39 t202 0).f0) + 3), wrap64 (((rd_T39 t202 (ji88)).f1) + 2)⟩ : S39))
           (case aF => exact (fun k_ hk => Kd.fresh' (Kd.R_lt (rS_ HO193.out)) k_ hk))
           (case aO => exact (rS_ (Kd.R_mono HO204.out (fun _ hk => hk.2))))
           (case aS => exact (keep_size (w := w) (g := g) (row := none) kK_))
           (case aL => have := LMc91.out; omega)
           intro v243 w101 ho hb hg hat
           rw [← Ny242.out] at ho
           replace HO193 := Aside0.mk (Kd.R_after (ok := (fun _ => True)) (rS_ HO193.out) hg hat)
           replace HB := Aside0.mk (below_weaken bS57_ HL.out hb)
           replace HI0 := Aside0.mk (IsS57.grown iS57_ hg (IsS57.own_ne HI0.out HO204.out (by decide)))
           replace HK := Aside0.mk (KeepBut.trans kK_ (KeepBut.of_grown hg g) (Kd.R_base2 HO204.out))
           have HO244 := Aside0.mk (ho)
           clear HO204
           clear ho hb hg hat
           refine hK.out _ _ ?_
           clear hK K
           refine no_ (some 81) ?_
           refine pu_ HT_ 17 (some 2) #[T,T,T,T,T,T,T,T,T,T,T,T,T,T,T,T,T,T] ?_
           refine done_ (done_of HT_.out (by kernel_rfl)) ?_
           try go_wp2
           go_ret
           exact ⟨_, by first | rfl | (simp [errW_none, errW_some] <;> rfl) | (simp only [← hji88]; first | rfl | (simp [errW_none, errW_some] <;> rfl)) | (simp [*, errW_none, errW_some] <;> rfl), rS_ (Kd.R_mono HO244.out (fun _ hk => trivial)), iS57_, bS57_, kK_⟩
          ·rw [if_neg c91] at H
           exact absurd H (by simp)
         ·rw [if_neg c90] at H
          exact absurd H (by simp)
        ·rw [if_neg c89] at H
         exact absurd H (by simp)
       ·rw [if_neg c87] at H
        exact absurd H (by simp)
      ·rw [if_neg c86] at H
       have c86b0 : (t208 == 5) = false := beq_eq_false_iff_ne.mpr c86
       have c86b1 : (t208 != 5) = true := bne_iff_ne.mpr c86
       simp only [Option.some.injEq, Prod.mk.injEq] at H
       obtain ⟨rfl, rfl, rfl⟩ := H
       go_enter Tryz.func14, Tryz.ntmps14
       go_wp2_with (first | ((with_reducible refine gate_callee (f := 35) rfl ?_); refine gL_ (some 8) Tryz.func35 #[.pointer (some ⟨g, 0, none⟩), .int .i64 8] ?_; (with_reducible refine (spec_l02DrawPoly.calls k g s0_0 s0_1 s0_2 8 t191 t194 t195 w0 _ ?side1 ?side2 A2.out).mono ?_); (case side1 => exact iS57_); (case side2 => exact bS57_); rintro e w102 ⟨v192, rfl, ho0, hi, hb, hk⟩; refine ⟨_, rfl, ?_⟩; have HO193 := Aside0.mk (Kd.R_lower ho0 (keep_size (w := w) (g := g) (row := none) kK_)); replace HK := Aside0.mk (KeepBut.trans kK_ hk (.inl rfl)); replace HB := Aside0.mk (hb); replace HI0 := Aside0.mk (hi); (try clear hb hk hi ho0)) | ((with_reducible refine gate_callee (f := 36) rfl ?_); refine gL_ (some 10) Tryz.func36 #[.pointer (some ⟨g, 0, none⟩), .int .i64 9] ?_; (with_reducible refine (spec_l01Next.calls g s0_0 t194 t195 9 t196 t197 t198 w0 _ ?side1 ?side2 A3.out).mono ?_); (case side1 => exact iS57_); (case side2 => exact bS57_); rintro e w103 ⟨rfl, hi, hb, hk⟩; refine ⟨_, rfl, ?_⟩; replace HO193 := Aside0.mk (Kd.R_mono (Kd.R_keep (IsS57.apart (show IsS57 w0 _ g s0_0 t194 t195 from iS57_) (rS_ HO193.out) (by decide)) hk (fun _ h => h.2)) (fun _ h => h.1)); replace HK := Aside0.mk (KeepBut.trans kK_ hk (.inl rfl)); replace HB := Aside0.mk (hb); replace HI0 := Aside0.mk (hi); (try clear hb hk hi)) | ((with_reducible refine gate_callee (f := 36) rfl ?_); refine gL_ (some 13) Tryz.func36 #[.pointer (some ⟨g, 0, none⟩), .int .i64 9] ?_; (with_reducible refine (spec_l01Next.calls g s0_0 t197 t198 9 t199 t200 t201 w0 _ ?side1 ?side2 A4.out).mono ?_); (case side1 => exact iS57_); (case side2 => exact bS57_); rintro e w104 ⟨rfl, hi, hb, hk⟩; refine ⟨_, rfl, ?_⟩; replace HO193 := Aside0.mk (Kd.R_mono (Kd.R_keep (IsS57.apart (show IsS57 w0 _ g s0_0 t197 t198 from iS57_) (rS_ HO193.out) (by decide)) hk (fun _ h => h.2)) (fun _ h => h.1)); replace HK := Aside0.mk (KeepBut.trans kK_ hk (.inl rfl)); replace HB := Aside0.mk (hb); replace HI0 := Aside0.mk (hi); (try clear hb hk hi); obtain ⟨Ao105, co105, eo105⟩ := Kd.R_slice HO193.out; subst eo105) | ((with_reducible refine gate_callee (f := 34) rfl ?_); refine gL_ (some 15) Tryz.func34 #[.slice Ao105 t191.length co105, .int .i64 (wrap64 (t196 - 4)), .int .i64 (wrap64 (t199 - 4))] ?_; (with_reducible refine (spec_l02Move.calls k _ _ t191 (wrap64 (t196 - 4)) (wrap64 (t199 - 4)) t202 _ ?side1 ?side2 A5.out).mono ?_); (case side1 => exact cS_ ((Kd.R_reads' HO193.out).2.2)); (case side2 => exact (Kd.R_reads' HO193.out).2.1); rintro e w106 ⟨v203, rfl, ho0, hb⟩; refine ⟨_, rfl, ?_⟩; have HO204 := Aside0.mk (Kd.R_lower (Kd.R_new' ho0 (Kd.R_lt (rS_ HO193.out))) (keep_size (w := w) (g := g) (row := none) kK_)); replace HO193 := Aside0.mk (Kd.R_elder' (rS_ HO193.out) (Kd.R_base ho0) hb); replace HK := Aside0.mk (KeepBut.trans kK_ (KeepBut.of_below hb g none) (.inl rfl)); replace HB := Aside0.mk (below_step bS57_ hb); replace HI0 := Aside0.mk (IsS57.below iS57_ hb); (try clear hb ho0); obtain ⟨Ao107, co107, eo107⟩ := Kd.R_slice HO204.out; subst eo107) | ((with_reducible refine gate_callee (f := 36) rfl ?_); refine gL_ (some 19) Tryz.func36 #[.pointer (some ⟨g, 0, none⟩), .int .i64 (t202.length : Int)] ?_; (with_reducible refine (spec_l01Next.calls g s0_0 t200 t201 (t202.length : Int) t205 t206 t207 w0 _ ?side1 ?side2 A6.out).mono ?_); (case side1 => exact iS57_); (case side2 => exact bS57_); rintro e w108 ⟨rfl, hi, hb, hk⟩; refine ⟨_, rfl, ?_⟩; replace HO193 := Aside0.mk (Kd.R_mono (Kd.R_keep (IsS57.apart (show IsS57 w0 _ g s0_0 t200 t201 from iS57_) (rS_ HO193.out) (by decide)) hk (fun _ h => h.2)) (fun _ h => h.1)); replace HO204 := Aside0.mk (Kd.R_mono (Kd.R_keep (IsS57.apart (show IsS57 w0 _ g s0_0 t200 t201 from iS57_) (rS_ HO204.out) (by decide)) hk (fun _ h => h.2)) (fun _ h => h.1)); replace HK := Aside0.mk (KeepBut.trans kK_ hk (.inl rfl)); replace HB := Aside0.mk (hb); replace HI0 := Aside0.mk (hi); (try clear hb hk hi)) | ((with_reducible refine gate_callee (f := 36) rfl ?_); refine gL_ (some 21) Tryz.func36 #[.pointer (some ⟨g, 0, none⟩), .int .i64 24] ?_; (with_reducible refine (spec_l01Next.calls g s0_0 t206 t207 24 t208 t209 t210 w0 _ ?side1 ?side2 A7.out).mono ?_); (case side1 => exact iS57_); (case side2 => exact bS57_); rintro e w109 ⟨rfl, hi, hb, hk⟩; refine ⟨_, rfl, ?_⟩; replace HO193 := Aside0.mk (Kd.R_mono (Kd.R_keep (IsS57.apart (show IsS57 w0 _ g s0_0 t206 t207 from iS57_) (rS_ HO193.out) (by decide)) hk (fun _ h => h.2)) (fun _ h => h.1)); replace HO204 := Aside0.mk (Kd.R_mono (Kd.R_keep (IsS57.apart (show IsS57 w0 _ g s0_0 t206 t207 from iS57_) (rS_ HO204.out) (by decide)) hk (fun _ h => h.2)) (fun _ h => h.1)); replace HK := Aside0.mk (KeepBut.trans kK_ hk (.inl rfl)); replace HB := Aside0.mk (hb); replace HI0 := Aside0.mk (hi); (try clear hb hk hi)))
       go_ret
       exact ⟨_, r2_, rS_ (Kd.R_mono HO204.out (fun _ hk => trivial)), iS57_, bS57_, kK_⟩

/-! ### spec_l01From: function 15 -/
def spec_l01From.l0 : Nat → List Int → Int → List Int → Int → Int → Option (List Int × Int × Int)
 | 0, _, _, _, _, _ => none
 | k + 1, x0, x4, x246000, x246001, x246002 => if x4 < (x0.length : Int) then (if x4 < 64 then (if 0 ≤ x4 then (spec_l01From.l0 k x0 (wrap64 (x4 + 1)) x246000 x246001 (Int.tmod (wrap64 ((wrap64 (x246002 * 47)) + (wrap64 (rd x0 x4)))) 2147483647)) else (none)) else (some (x246000, x246001, x246002))) else (some (x246000, x246001, x246002))
def spec_l01From.f (k : Nat) (l0 : List Int) : Option (List Int × Int × Int) := spec_l01From.l0 k l0 0 l0 0 61003
theorem spec_l01From.mono_l : ∀ k, (∀ y0 y1 y2 y3 y4, LeO (spec_l01From.l0 k y0 y1 y2 y3 y4) (spec_l01From.l0 (k + 1) y0 y1 y2 y3 y4))
 | 0 => fun _ _ _ _ _ r h => by simp [spec_l01From.l0] at h
 | k + 1 => by
  have ih0 := spec_l01From.mono_l k
  ·intro y0 y1 y2 y3 y4
   unfold spec_l01From.l0
   repeat' first
   | (with_reducible exact ih0 _ _ _ _ _)
   | (with_reducible exact LeO.refl _)
   | (with_reducible exact LeO.none _)
   | (with_reducible refine LeO.ite ?_ ?_)
   | (with_reducible refine LeO.bind ?_ (fun _ => ?_))
   | exact ih0 _ _ _ _ _
   | exact LeO.none _
   | refine LeO.ite ?_ ?_
   | refine LeO.bind ?_ (fun _ => ?_)
theorem spec_l01From.mono : ∀ a0 k, LeO (spec_l01From.f k a0) (spec_l01From.f (k + 1) a0) := by
 intro a0 k
 have ih0 := spec_l01From.mono_l k
 unfold spec_l01From.f
 repeat' first
   | (with_reducible exact ih0 _ _ _ _ _)
   | (with_reducible exact LeO.refl _)
   | (with_reducible exact LeO.none _)
   | (with_reducible refine LeO.ite ?_ ?_)
   | (with_reducible refine LeO.bind ?_ (fun _ => ?_))
   | exact ih0 _ _ _ _ _
   | exact LeO.none _
   | refine LeO.ite ?_ ?_
   | refine LeO.bind ?_ (fun _ => ?_)
def spec_l01From.T5 : Bool × List (List Nat × List Nat) := (true, [([], []), ([], []), ([1], [1]), ([2], [2]), ([3], [3]), ([4], [4]), ([], []), ([], []), ([6, 7], [6, 7]), ([8], [8]), ([9], [9]), ([5, 10], [5, 10]), ([11], [11]), ([0, 0, 1, 2, 3, 4, 5, 6, 7, 8, 9, 10, 11, 12], [0]), ([13, 0, 1, 2, 3, 4, 5, 6, 7, 8, 9, 10, 11, 12], [13]), ([14, 12, 0, 1, 2, 3, 4, 5, 6, 7, 8, 9, 10, 11, 12], [12, 14])])
def spec_l01From.B5 : List Nat := [0, 0, 2, 6, 14, 30, 0, 0, 192, 448, 960, 2046, 4094, 8191, 16383, 32767]
theorem spec_l01From.tab5 : rtab .any (opsOf Tryz.f15 5) = spec_l01From.T5 := by kernel_rfl
theorem spec_l01From.bits5 : waitsOk spec_l01From.T5.2 spec_l01From.B5 = true := by kernel_rfl
set_option maxHeartbeats 8000000 in
set_option maxRecDepth 100000 in
theorem spec_l01From.calls (k : Nat) (A0 : Option Addr) (c0 : Nat) (l0 : List Int) (r1 : List Int) (r2 : Int) (r3 : Int) (w0 w : World) (hB : Below w0.heap.size w0 w) (hr0 : Kd.C (Kd.int .u8) w0 A0 l0.length l0) (hc0 : l0.length ≤ c0) (h : spec_l01From.f k l0 = some (r1, r2, r3)) :
  Calls Tryz.prog 15 #[.slice A0 l0.length c0] w fun e w' => ∃ g_ : Nat, e = .returned (.pointer (some ⟨g_, 0, none⟩)) ∧ IsS57 w0 w' g_ r1 r2 r3 ∧ Below w0.heap.size w0 w' ∧ Below w.heap.size w w' := by
 have hu57 := Tryz.underlying57
 have HR0 := Aside0.mk hr0
 have HC0 := Aside0.mk hc0
 clear hr0 hc0
 have HBW := Aside0.mk (Below.refl w.heap.size w)
 have HW0 := Aside0.mk hB.size
 have HB := Aside0.mk hB
 clear hB
 have H : (spec_l01From.l0 k l0 0 l0 0 61003) = some (r1, r2, r3) := h
 clear h
 have H' := Aside0.mk H
 clear H
 go_enter Tryz.func15, Tryz.ntmps15
 go_wp2_with (first | ((with_reducible refine gate_dst (N := 7) rfl ?_); refine box_event ?hg (N := 7) ?hd (cs := #[.slice A0 l0.length c0, .int .i64 0, .int .i64 61003]) (t := 57) ?hr ?_; (case hd => rfl); (case hg => rfl); (case hr => first | (go_simp; done) | (go_simp; rfl)); intro gb245 hg w2 hbox hb; replace HB := Aside0.mk (below_step bB_ hb); have BK245 := Aside0.mk (hbox); have GW245 := Aside0.mk ((by rw [hg]; exact (below_size (by repeat (first | (with_reducible first | exact HBW.out | apply below_alloc | apply pw_below_drewN | apply below_drew1) | exact HBW.out))) : w.heap.size ≤ gb245)); have GE245 := Aside0.mk ((Nat.le_trans HW0.out (by rw [hg]; exact (below_size (by repeat (first | (with_reducible first | exact HBW.out | apply below_alloc | apply pw_below_drewN | apply below_drew1) | exact HBW.out))) : w.heap.size ≤ gb245) : w0.heap.size ≤ gb245)); replace HBW := Aside0.mk (below_step HBW.out hb); clear hb hbox hg))
 go_loopg [4] k (fun kq v4 w' => ∃ (x4_1 : Int) (x246002_1 : Int), v4 = .int .i64 x4_1 ∧ Aside0 (spec_l01From.l0 kq l0 x4_1 l0 0 x246002_1 = some (r1, r2, r3)) ∧ Aside0 (kq ≤ k) ∧ Aside0 (w'.heap[gb245]? = some (.cells #[(.slice A0 l0.length c0), .int .i64 0, .int .i64 x246002_1] 57 (0, 0))) ∧ Aside0 (Below w0.heap.size w0 w') ∧ Aside0 (Below w.heap.size w w'))
 case atStart => exact ⟨(0), (61003), r3_, H', ⟨Nat.le_refl _⟩, ⟨by (with_reducible repeat (first | refine blk_drewN ?_ _ | refine blk_drew ?_ | refine blk_alloc ?_ _)); exact BK245.out⟩, ⟨by repeat (first | (with_reducible first | exact HB.out | apply below_alloc | apply pw_below_drewN | apply below_drew1 | refine below_set ?_ GE245.out) | exact HB.out)⟩, ⟨by repeat (first | (with_reducible first | exact HBW.out | apply below_alloc | apply pw_below_drewN | apply below_drew1 | refine below_set ?_ GW245.out) | exact HBW.out)⟩⟩
 case round =>
  clear H'
  try clear c1
  try clear p2
  obtain ⟨x4_1, x246002_1, rfl, HA, HK1, BK245, HB, HBW⟩ := hrel
  cases gk with
  | zero => exact absurd HA.out (by simp [spec_l01From.l0])
  | succ k1 =>
   have H := HA.out
   clear HA
   simp only [spec_l01From.l0] at H
   by_cases c3 : x4_1 < (l0.length : Int)
   ·rw [if_pos c3] at H
    have c3b0 : decide (x4_1 < (l0.length : Int)) = true := decide_eq_true c3
    clear c3
    by_cases c4 : x4_1 < 64
    ·rw [if_pos c4] at H
     have c4b0 : decide (x4_1 < 64) = true := decide_eq_true c4
     clear c4
     by_cases c5 : 0 ≤ x4_1
     ·rw [if_pos c5] at H
      have c5b0 : decide (0 ≤ x4_1) = true := decide_eq_true c5
      clear c5
      have H' := Aside0.mk H
      clear H
      try go_wp2
      replace BK245 := Aside0.mk (blk_drew BK245.out)
      replace HB := Aside0.mk (below_drew1 HB.out)
      replace HBW := Aside0.mk (below_drew1 HBW.out)
      have p246 : 0 ≤ (x4_1 : Int) := of_decide_eq_true aS_
      have q246 : x4_1 < (l0.length : Int) := of_decide_eq_true aS_
      obtain ⟨ad246, e246, hx246_0⟩ := Kd.at_int HR0.out x4_1 p246 q246
      have hw246_0 := hx246_0
      cases e246
      replace hx246_0 := pw_cell_below HB.out hx246_0
      replace p246 := eq_true p246
      replace q246 := eq_true q246
      refine start_ (n := 16) (S := fun w' => w'.cell? ⟨gb245, 0, none⟩ = some (.slice (some ad246) l0.length c0) ∧ w'.cell? ⟨gb245, 1, none⟩ = some (.int .i64 0) ∧ w'.cell? ⟨gb245, 2, none⟩ = some (.int .i64 x246002_1) ∧ w'.cell? (ad246.add (x4_1).toNat) = some (.int .u8 (rd l0 x4_1))) (ds := [15]) #[F, F, F, F, F, F, F, F, F, F, F, F, F, F, F, F] (by kernel_rfl) rfl rfl ⟨(blk_cell BK245.out 0).trans rfl, (blk_cell BK245.out 1).trans rfl, (blk_cell BK245.out 2).trans rfl, ((HB.out.cell (World.block_lt_of_cell? w0 _ hw246_0)).trans hw246_0)⟩ (fun hHeld => ?_); refine with_tabW spec_l01From.tab5 spec_l01From.bits5 (fun HT_ HW_ => ?_)
      generalize wr.drew = w6 at BK245 HB HBW hx246_0 hHeld ⊢
      refine pu_ HT_ 0 (some 18) #[T,F,F,F,F,F,F,F,F,F,F,F,F,F,F,F] ?_
      refine pu_ HT_ 1 (some 19) #[T,T,F,F,F,F,F,F,F,F,F,F,F,F,F,F] ?_
      refine pu_ HT_ 2 (some 20) #[T,T,T,F,F,F,F,F,F,F,F,F,F,F,F,F] ?_
      refine pu_ HT_ 3 (some 21) #[T,T,T,T,F,F,F,F,F,F,F,F,F,F,F,F] ?_
      refine pu_ HT_ 6 (some 24) #[T,T,T,T,F,F,T,F,F,F,F,F,F,F,F,F] ?_
      refine pu_ HT_ 7 (some 25) #[T,T,T,T,F,F,T,T,F,F,F,F,F,F,F,F] ?_
      refine pu_ HT_ 8 (some 26) #[T,T,T,T,F,F,T,T,T,F,F,F,F,F,F,F] ?_
      refine take_ (i := 4) (N := some 22) (v := ?_) (a' := ?_) #[T, T, T, T, T, F, T, T, T, F, F, F, F, F, F, F] rfl rfl (take_ofW HT_.out HW_.out (by kernel_rfl)) (fun _ _ _ h => h) (Or.inl ⟨by rfl, ?_⟩) hHeld ?_ ?_
      rotate_left
      ·rintro w' ⟨s0, s1, s2, s3⟩
       go_simp
       with_reducible rfl
      rotate_left
      ·simp only [Act.put, List.setIfInBounds_toArray, List.set_cons_zero, List.set_cons_succ, i64_w, i32_w]
       rfl
      refine pu_ HT_ 5 (some 23) #[T,T,T,T,T,T,T,T,T,F,F,F,F,F,F,F] ?_
      refine take_ (i := 9) (N := some 27) (v := ?_) (a' := ?_) #[T, T, T, T, T, T, T, T, T, T, F, F, F, F, F, F] rfl rfl (take_ofW HT_.out HW_.out (by kernel_rfl)) (fun _ _ _ h => h) (Or.inl ⟨by rfl, ?_⟩) hHeld ?_ ?_
      rotate_left
      ·rintro w' ⟨s0, s1, s2, s3⟩
       go_simp
       with_reducible rfl
      rotate_left
      ·simp only [Act.put, List.setIfInBounds_toArray, List.set_cons_zero, List.set_cons_succ, i64_w, i32_w]
       rfl
      refine pu_ HT_ 10 (some 28) #[T,T,T,T,T,T,T,T,T,T,T,F,F,F,F,F] ?_
      refine pu_ HT_ 11 (some 29) #[T,T,T,T,T,T,T,T,T,T,T,T,F,F,F,F] ?_
      refine pu_ HT_ 12 (some 30) #[T,T,T,T,T,T,T,T,T,T,T,T,T,F,F,F] ?_
      refine pu_ HT_ 13 (some 31) #[T,T,T,T,T,T,T,T,T,T,T,T,T,T,F,F] ?_
      refine pu_ HT_ 14 (some 32) #[T,T,T,T,T,T,T,T,T,T,T,T,T,T,T,F] ?_
      refine last_ (i := 15) (N := none) #[T, T, T, T, T, T, T, T, T, T, T, T, T, T, T, T] rfl rfl (one_of HT_.out (by kernel_rfl)) (by decide) (fun K hK => ?_)
      have hs7 : w6.cell? ⟨gb245, 2, none⟩ = some (.int .i64 x246002_1) := (blk_cell BK245.out 2).trans rfl
      have hfs7 := blk_frozen BK245.out 2
      refine skip_ (w1 := ?_) (by rfl) rfl ?_ ?_
      rotate_left
      ·go_simp
       rfl
      refine hK.out _ _ ?_
      clear hK K
      refine done_ (done_of HT_.out (by kernel_rfl)) ?_
      try go_wp2
      go_roundg k1
      case measure => have := HK1.out; omega
      case rel => exact ⟨(wrap64 (x4_1 + 1)), (Int.tmod (wrap64 ((wrap64 (x246002_1 * 47)) + (wrap64 (rd l0 x4_1)))) 2147483647), r3_, H', ⟨by have := HK1.out; omega⟩, ⟨by (with_reducible repeat (first | refine blk_drewN ?_ _ | refine blk_drew ?_ | refine blk_alloc ?_ _)); refine blk_put (cs := #[.slice (some ad246) l0.length c0, .int .i64 0, .int .i64 x246002_1]) ?_ 2 _ rfl; (with_reducible repeat (first | refine blk_drewN ?_ _ | refine blk_drew ?_ | refine blk_alloc ?_ _)); exact BK245.out⟩, ⟨by repeat (first | (with_reducible first | exact HB.out | apply below_alloc | apply pw_below_drewN | apply below_drew1 | refine below_set ?_ GE245.out) | exact HB.out)⟩, ⟨by repeat (first | (with_reducible first | exact HBW.out | apply below_alloc | apply pw_below_drewN | apply below_drew1 | refine below_set ?_ GW245.out) | exact HBW.out)⟩⟩
     ·rw [if_neg c5] at H
      exact absurd H (by simp)
    ·rw [if_neg c4] at H
     have c4b0 : decide (x4_1 < 64) = false := decide_eq_false c4
     clear c4
     simp only [Option.some.injEq, Prod.mk.injEq] at H
     obtain ⟨rfl, rfl, rfl⟩ := H
     go_wp2
     go_ret
     exact ⟨_, rfl, (show IsS57 w0 _ gb245 l0 0 x246002_1 from ⟨_, _, by (with_reducible repeat (first | refine blk_drewN ?_ _ | refine blk_drew ?_ | refine blk_alloc ?_ _)); exact BK245.out, GE245.out, HR0.out⟩), by repeat (first | (with_reducible first | exact HB.out | apply below_alloc | apply pw_below_drewN | apply below_drew1 | refine below_set ?_ GE245.out) | exact HB.out), by repeat (first | (with_reducible first | exact HBW.out | apply below_alloc | apply pw_below_drewN | apply below_drew1 | refine below_set ?_ GW245.out) | exact HBW.out)⟩
   ·rw [if_neg c3] at H
    have c3b0 : decide (x4_1 < (l0.length : Int)) = false := decide_eq_false c3
    clear c3
    simp only [Option.some.injEq, Prod.mk.injEq] at H
    obtain ⟨rfl, rfl, rfl⟩ := H
    go_wp2
    go_ret
    exact ⟨_, rfl, (show IsS57 w0 _ gb245 l0 0 x246002_1 from ⟨_, _, by (with_reducible repeat (first | refine blk_drewN ?_ _ | refine blk_drew ?_ | refine blk_alloc ?_ _)); exact BK245.out, GE245.out, HR0.out⟩), by repeat (first | (with_reducible first | exact HB.out | apply below_alloc | apply pw_below_drewN | apply below_drew1 | refine below_set ?_ GE245.out) | exact HB.out), by repeat (first | (with_reducible first | exact HBW.out | apply below_alloc | apply pw_below_drewN | apply below_drew1 | refine below_set ?_ GW245.out) | exact HBW.out)⟩

/-! ### spec_DrawShrinkShape: function 5 -/
def spec_DrawShrinkShape.f (k : Nat) (l0 : List Int) : Option ((List (S39))) := (spec_l01From.f k l0).bind fun bt247 => ((spec_l02Draw.f k bt247.1 bt247.2.1 bt247.2.2).bind fun bt251 => (some bt251.1))
theorem spec_DrawShrinkShape.mono : ∀ a0 k, LeO (spec_DrawShrinkShape.f k a0) (spec_DrawShrinkShape.f (k + 1) a0) := by
 intro a0 k
 unfold spec_DrawShrinkShape.f
 repeat' first
   | (with_reducible exact spec_l01From.mono _ _)
   | (with_reducible exact spec_l02Draw.mono _ _ _ _)
   | (with_reducible exact LeO.refl _)
   | (with_reducible exact LeO.none _)
   | (with_reducible refine LeO.ite ?_ ?_)
   | (with_reducible refine LeO.bind ?_ (fun _ => ?_))
   | exact spec_l01From.mono _ _
   | exact spec_l02Draw.mono _ _ _ _
   | exact LeO.none _
   | refine LeO.ite ?_ ?_
   | refine LeO.bind ?_ (fun _ => ?_)
set_option maxHeartbeats 8000000 in
set_option maxRecDepth 100000 in
theorem spec_DrawShrinkShape.calls (k : Nat) (A0 : Option Addr) (c0 : Nat) (l0 : List Int) (r : List (S39)) (w : World) (hr0 : Kd.C (Kd.int .u8) w A0 l0.length l0) (hc0 : l0.length ≤ c0) (h : spec_DrawShrinkShape.f k l0 = some r) :
  Calls Tryz.prog 5 #[.slice A0 l0.length c0] w fun e w' => ∃ v0_ : Value, e = .returned (v0_) ∧ Kd.R k39 39 w' w.heap.size (fun _ => True) v0_ r ∧ Below w.heap.size w w' := by
 have HR0 := Aside0.mk hr0
 have HC0 := Aside0.mk hc0
 clear hr0 hc0
 have HB := Aside0.mk (Below.refl w.heap.size w)
 have H : ((spec_l01From.f k l0).bind fun bt247 => ((spec_l02Draw.f k bt247.1 bt247.2.1 bt247.2.2).bind fun bt251 => (some bt251.1))) = some r := h
 clear h
 replace H := Option.bind_eq_some_iff.mp H
 obtain ⟨⟨t247, t248, t249⟩, A20, H⟩ := H
 try dsimp only at H
 have A2 := Aside0.mk A20
 clear A20
 replace H := Option.bind_eq_some_iff.mp H
 obtain ⟨⟨t251, t254, t255⟩, A30, H⟩ := H
 try dsimp only at H
 have A3 := Aside0.mk A30
 clear A30
 obtain rfl := Option.some.inj H
 go_enter Tryz.func5, Tryz.ntmps5
 go_wp2_with (first | ((with_reducible refine gate_callee (f := 15) rfl ?_); refine gL_ (some 4) Tryz.func15 #[.slice A0 l0.length c0] ?_; (with_reducible refine (spec_l01From.calls k _ _ l0 t247 t248 t249 w _ ?side1 ?side2 ?side3 A2.out).mono ?_); (case side1 => repeat (first | (with_reducible first | exact HB.out | apply below_alloc | apply pw_below_drewN | apply below_drew1) | exact HB.out)); (case side2 => exact HR0.out); (case side3 => exact HC0.out); rintro e w4 ⟨g250, rfl, hi, hb, hb2⟩; refine ⟨_, rfl, ?_⟩; replace HB := Aside0.mk (hb); have HI250 := Aside0.mk (hi); (try clear hb hb2 hi)) | ((with_reducible refine gate_callee (f := 14) rfl ?_); refine gL_ (some 5) Tryz.func14 #[.pointer (some ⟨g250, 0, none⟩)] ?_; (with_reducible refine (spec_l02Draw.calls k g250 t247 t248 t249 t251 t254 t255 w _ ?side1 ?side2 A3.out).mono ?_); (case side1 => repeat (first | (with_reducible first | exact HI250.out | apply IsS57.alloc | apply IsS57.drewN | apply IsS57.drew | apply IsS57.set_1 | apply IsS57.set_2) | exact HI250.out)); (case side2 => repeat (first | (with_reducible first | exact HB.out | apply below_alloc | apply pw_below_drewN | apply below_drew1 | refine below_set ?_ (IsS57.ge HI250.out)) | exact HB.out)); rintro e w5 ⟨v252, rfl, ho0, hi, hb, hk⟩; refine ⟨_, rfl, ?_⟩; have HO253 := Aside0.mk (Kd.R_lower ho0 (below_size (by repeat (first | (with_reducible first | exact HB.out | apply below_alloc | apply pw_below_drewN | apply below_drew1 | refine below_set ?_ (IsS57.ge HI250.out)) | exact HB.out)))); replace HB := Aside0.mk (hb); replace HI250 := Aside0.mk (hi); (try clear hb hk hi ho0)))
 go_ret
 exact ⟨_, r2_, rS_ HO253.out, by repeat (first | (with_reducible first | exact HB.out | apply below_alloc | apply pw_below_drewN | apply below_drew1 | refine below_set ?_ (IsS57.ge HI250.out)) | exact HB.out)⟩

/-! ### slices_Max_int64: function 40 -/
def slices_Max_int64.l0 : Nat → List Int → Int → Int → Option (Int)
 | 0, _, _, _ => none
 | k + 1, x0, x3, x4 => if x4 < (x0.length : Int) then (if 0 ≤ x4 then (slices_Max_int64.l0 k x0 (mx x3 (rd x0 x4)) (wrap64 (x4 + 1))) else (none)) else (some x3)
def slices_Max_int64.f (k : Nat) (l0 : List Int) : Option (Int) := if (l0.length : Int) < 1 then (none) else (if 0 < (l0.length : Int) then (slices_Max_int64.l0 k l0 (rd l0 0) 1) else (none))
theorem slices_Max_int64.mono_l : ∀ k, (∀ y0 y1 y2, LeO (slices_Max_int64.l0 k y0 y1 y2) (slices_Max_int64.l0 (k + 1) y0 y1 y2))
 | 0 => fun _ _ _ r h => by simp [slices_Max_int64.l0] at h
 | k + 1 => by
  have ih0 := slices_Max_int64.mono_l k
  ·intro y0 y1 y2
   unfold slices_Max_int64.l0
   repeat' first
   | (with_reducible exact ih0 _ _ _)
   | (with_reducible exact LeO.refl _)
   | (with_reducible exact LeO.none _)
   | (with_reducible refine LeO.ite ?_ ?_)
   | (with_reducible refine LeO.bind ?_ (fun _ => ?_))
   | exact ih0 _ _ _
   | exact LeO.none _
   | refine LeO.ite ?_ ?_
   | refine LeO.bind ?_ (fun _ => ?_)
theorem slices_Max_int64.mono : ∀ a0 k, LeO (slices_Max_int64.f k a0) (slices_Max_int64.f (k + 1) a0) := by
 intro a0 k
 have ih0 := slices_Max_int64.mono_l k
 unfold slices_Max_int64.f
 repeat' first
   | (with_reducible exact ih0 _ _ _)
   | (with_reducible exact LeO.refl _)
   | (with_reducible exact LeO.none _)
   | (with_reducible refine LeO.ite ?_ ?_)
   | (with_reducible refine LeO.bind ?_ (fun _ => ?_))
   | exact ih0 _ _ _
   | exact LeO.none _
   | refine LeO.ite ?_ ?_
   | refine LeO.bind ?_ (fun _ => ?_)
set_option maxHeartbeats 8000000 in
set_option maxRecDepth 100000 in
theorem slices_Max_int64.calls (k : Nat) (A0 : Option Addr) (c0 : Nat) (l0 : List Int) (r : Int) (w : World) (hr0 : Kd.C (Kd.int .i64) w A0 l0.length l0) (hc0 : l0.length ≤ c0) (h : slices_Max_int64.f k l0 = some r) :
  Calls Tryz.prog 40 #[.slice A0 l0.length c0] w fun e w' => e = .returned (.int .i64 r) ∧ Below w.heap.size w w' := by
 have HR0 := Aside0.mk hr0
 have HC0 := Aside0.mk hc0
 clear hr0 hc0
 have HB := Aside0.mk (Below.refl w.heap.size w)
 have H : (if (l0.length : Int) < 1 then (none) else (if 0 < (l0.length : Int) then (slices_Max_int64.l0 k l0 (rd l0 0) 1) else (none))) = some r := h
 clear h
 by_cases c2 : (l0.length : Int) < 1
 ·rw [if_pos c2] at H
  exact absurd H (by simp)
 ·rw [if_neg c2] at H
  have c2b0 : decide ((l0.length : Int) < 1) = false := decide_eq_false c2
  have c2b1 : decide (l0.length < 1) = false := decide_eq_false (by omega)
  clear c2
  by_cases c3 : 0 < (l0.length : Int)
  ·rw [if_pos c3] at H
   have c3b0 : decide (0 < (l0.length : Int)) = true := decide_eq_true c3
   have c3b1 : decide (0 < l0.length) = true := decide_eq_true (by omega)
   clear c3
   have H' := Aside0.mk H
   clear H
   have p256 : 0 ≤ (0 : Int) := (by omega)
   have q256 : 0 < (l0.length : Int) := of_decide_eq_true aS_
   obtain ⟨ad256, e256, hx256_0⟩ := Kd.at_int HR0.out 0 p256 q256
   cases e256
   have qi256 : (0 < l0.length) = True := eq_true (by omega)
   (try rw [show ((0 : Int)).toNat = 0 from rfl] at hx256_0)
   (try rw [Addr.add_zero'] at hx256_0)
   replace p256 := eq_true p256
   replace q256 := eq_true q256
   go_enter Tryz.func40, Tryz.ntmps40
   go_wp2
   go_loopg [3, 4] k (fun kq v3 v4 w' => ∃ (x3_1 : Int) (x4_1 : Int), v3 = .int .i64 x3_1 ∧ v4 = .int .i64 x4_1 ∧ Aside0 (slices_Max_int64.l0 kq l0 x3_1 x4_1 = some r) ∧ Aside0 (kq ≤ k) ∧ Aside0 (Below w.heap.size w w'))
   case atStart => exact ⟨(rd l0 0), (1), r3_, r3_, H', ⟨Nat.le_refl _⟩, ⟨bB_⟩⟩
   case round =>
    clear H'
    try clear c2
    try clear c2b0
    try clear c2b1
    try clear p2
    try clear q2
    try clear hx2
    try clear qi2
    try clear c3
    try clear c3b0
    try clear c3b1
    try clear hx256_0
    try clear p256
    try clear q256
    obtain ⟨x3_1, x4_1, rfl, rfl, HA, HK1, HB⟩ := hrel
    cases gk with
    | zero => exact absurd HA.out (by simp [slices_Max_int64.l0])
    | succ k1 =>
     have H := HA.out
     clear HA
     simp only [slices_Max_int64.l0] at H
     by_cases c4 : x4_1 < (l0.length : Int)
     ·rw [if_pos c4] at H
      have c4b0 : decide (x4_1 < (l0.length : Int)) = true := decide_eq_true c4
      clear c4
      by_cases c5 : 0 ≤ x4_1
      ·rw [if_pos c5] at H
       have c5b0 : decide (0 ≤ x4_1) = true := decide_eq_true c5
       clear c5
       obtain ⟨ji6, hji6⟩ : ∃ j_ : Int, (mx x3_1 (rd l0 x4_1)) = j_ := ⟨_, rfl⟩
       replace H : (slices_Max_int64.l0 k1 l0 ji6 (wrap64 (x4_1 + 1))) = some r := by first | (rw [hji6] at H; exact H) | (simp only [hji6] at H ⊢; exact H)
       have hji6_ : (if x3_1 < (rd l0 x4_1) then (rd l0 x4_1) else x3_1) = ji6 := hji6
       have H' := Aside0.mk H
       clear H
       have p257 : 0 ≤ (x4_1 : Int) := of_decide_eq_true aS_
       have q257 : x4_1 < (l0.length : Int) := of_decide_eq_true aS_
       obtain ⟨ad257, e257, hx257_0⟩ := Kd.at_int HR0.out x4_1 p257 q257
       obtain rfl : ad256 = ad257 := (by injection e257)
       replace hx257_0 := (HB.out.cell (World.block_lt_of_cell? w _ hx257_0)).trans hx257_0
       replace p257 := eq_true p257
       replace q257 := eq_true q257
       go_wp2
       go_roundg k1
       case measure => have := HK1.out; omega
       case rel => exact ⟨(ji6), (wrap64 (x4_1 + 1)), (by first | rfl | (simp; done) | (simp only [← hji6] <;> (first | rfl | simp)) | (simp [*]; done)), r3_, H', ⟨by have := HK1.out; omega⟩, ⟨bB_⟩⟩
      ·rw [if_neg c5] at H
       exact absurd H (by simp)
     ·rw [if_neg c4] at H
      have c4b0 : decide (x4_1 < (l0.length : Int)) = false := decide_eq_false c4
      clear c4
      obtain rfl := Option.some.inj H
      go_wp2
      go_ret
      exact ⟨r2_, bB_⟩
  ·rw [if_neg c3] at H
   exact absurd H (by simp)

/-! ### impl_around: function 20 -/
def impl_around.f (a0_0 : Int) (a0_1 : Int) : Option ((List (S39))) := some (([(⟨a0_0, wrap64 (a0_1 - 1)⟩ : S39), (⟨wrap64 (a0_0 - 1), a0_1⟩ : S39), (⟨wrap64 (a0_0 + 1), a0_1⟩ : S39), (⟨a0_0, wrap64 (a0_1 + 1)⟩ : S39)] : List (S39)))
set_option maxHeartbeats 8000000 in
set_option maxRecDepth 100000 in
theorem impl_around.calls (a0_0 : Int) (a0_1 : Int) (r : List (S39)) (w : World) (h : impl_around.f a0_0 a0_1 = some r) :
  Calls Tryz.prog 20 #[.agg #[.int .i64 a0_0, .int .i64 a0_1]] w fun e w' => ∃ v0_ : Value, e = .returned (v0_) ∧ Kd.R k39 39 w' w.heap.size (fun _ => True) v0_ r ∧ Below w.heap.size w w' := by
 have hu39 := Tryz.underlying39
 have HB := Aside0.mk (Below.refl w.heap.size w)
 have H : (some (([(⟨a0_0, wrap64 (a0_1 - 1)⟩ : S39), (⟨wrap64 (a0_0 - 1), a0_1⟩ : S39), (⟨wrap64 (a0_0 + 1), a0_1⟩ : S39), (⟨a0_0, wrap64 (a0_1 + 1)⟩ : S39)] : List (S39)))) = some r := h
 clear h
 obtain ⟨y259, hY_⟩ : ∃ y_ : List (S39), y_ = (([(⟨a0_0, wrap64 (a0_1 - 1)⟩ : S39), (⟨wrap64 (a0_0 - 1), a0_1⟩ : S39), (⟨wrap64 (a0_0 + 1), a0_1⟩ : S39), (⟨a0_0, wrap64 (a0_1 + 1)⟩ : S39)] : List (S39))) := ⟨_, rfl⟩
 replace H : (some y259) = some r := yY_
 have Ny259 := Aside0.mk hY_
 clear hY_
 obtain rfl := Option.some.inj H
 go_enter Tryz.func20, Tryz.ntmps20
 go_wp2_with (first | ((with_reducible refine gate_dst (N := 1) rfl ?_); refine box_event ?hg (N := 1) ?hd (cs := #[.int .i64 a0_0, .int .i64 a0_1]) (t := 39) ?hr ?_; (case hd => rfl); (case hg => rfl); (case hr => first | (go_simp; done) | (go_simp; rfl)); intro gb258 hg w2 hbox hb; have BK258 := Aside0.mk (hbox); have GW258 := Aside0.mk ((by rw [hg]; exact (below_size bB_) : w.heap.size ≤ gb258)); have GE258 := Aside0.mk ((by rw [hg]; exact (below_size bB_) : w.heap.size ≤ gb258)); replace HB := Aside0.mk (below_step bB_ hb); clear hb hbox hg; have hcz3_0 : w2.cell? ⟨gb258, 0, none⟩ = some (.int .i64 a0_0) := (blk_cell BK258.out 0).trans rfl; have hcz3_1 : w2.cell? ⟨gb258, 1, none⟩ = some (.int .i64 a0_1) := (blk_cell BK258.out 1).trans rfl; have hfz3_0 := blk_frozen BK258.out 0; have hfz3_1 := blk_frozen BK258.out 1) | ((with_reducible refine gate_dst (N := 27) rfl ?_); refine Kd.R_lit k39 _ 39 ?hg (N := 27) ?hd (xs := ([(⟨a0_0, wrap64 (a0_1 - 1)⟩ : S39), (⟨wrap64 (a0_0 - 1), a0_1⟩ : S39), (⟨wrap64 (a0_0 + 1), a0_1⟩ : S39), (⟨a0_0, wrap64 (a0_1 + 1)⟩ : S39)] : List (S39))) (inner := [.int .i64 a0_0, .int .i64 (wrap64 (a0_1 - 1)), .int .i64 (wrap64 (a0_0 - 1)), .int .i64 a0_1, .int .i64 (wrap64 (a0_0 + 1)), .int .i64 a0_1, .int .i64 a0_0, .int .i64 (wrap64 (a0_1 + 1))]) (ok := fun _ => True) (okp := fun _ => True) ?hr ?hp (fun _ hk => hk) trivial (Below.refl _ _) (Nat.le_refl _) (by simp) ?_; (case hd => rfl); (case hg => rfl); (case hr => first | (go_simp; done) | (go_simp; rfl)); (case hp => exact (Reps.c2 (show Kd.M k39 _ _ _ (⟨a0_0, wrap64 (a0_1 - 1)⟩ : S39) [.int .i64 a0_0, .int .i64 (wrap64 (a0_1 - 1))] from (k39_mkM _ _ _ (⟨a0_0, wrap64 (a0_1 - 1)⟩ : S39) )) (Reps.c2 (show Kd.M k39 _ _ _ (⟨wrap64 (a0_0 - 1), a0_1⟩ : S39) [.int .i64 (wrap64 (a0_0 - 1)), .int .i64 a0_1] from (k39_mkM _ _ _ (⟨wrap64 (a0_0 - 1), a0_1⟩ : S39) )) (Reps.c2 (show Kd.M k39 _ _ _ (⟨wrap64 (a0_0 + 1), a0_1⟩ : S39) [.int .i64 (wrap64 (a0_0 + 1)), .int .i64 a0_1] from (k39_mkM _ _ _ (⟨wrap64 (a0_0 + 1), a0_1⟩ : S39) )) (Reps.c2 (show Kd.M k39 _ _ _ (⟨a0_0, wrap64 (a0_1 + 1)⟩ : S39) [.int .i64 a0_0, .int .i64 (wrap64 (a0_1 + 1))] from (k39_mkM _ _ _ (⟨a0_0, wrap64 (a0_1 + 1)⟩ : S39) )) (Reps.none _ _)))))); intro v260 w4 ho5 hb hg_ hnew_; clear hg_ hnew_; (first | rw [← Ny259.out] at ho5 | (simp only [Int.reduceToNat] at ho5; rw [← Ny259.out] at ho5)); have HO261 := Aside0.mk (Kd.R_lower (Kd.R_newB ho5 (g := gb258) (o := .cells #[.int .i64 a0_0, .int .i64 a0_1] 39 (0, 0)) (by (with_reducible repeat (first | refine blk_drewN ?_ _ | refine blk_drew ?_ | refine blk_alloc ?_ _)); exact BK258.out)) (below_size (by repeat (first | (with_reducible first | exact HB.out | apply below_alloc | apply pw_below_drewN | apply below_drew1 | refine below_set ?_ GE258.out) | exact HB.out)))); replace BK258 := Aside0.mk (blk_below (g := gb258) (o := .cells #[.int .i64 a0_0, .int .i64 a0_1] 39 (0, 0)) (by (with_reducible repeat (first | refine blk_drewN ?_ _ | refine blk_drew ?_ | refine blk_alloc ?_ _)); exact BK258.out) hb); replace HB := Aside0.mk (below_step (by repeat (first | (with_reducible first | exact HB.out | apply below_alloc | apply pw_below_drewN | apply below_drew1 | refine below_set ?_ GE258.out) | exact HB.out)) hb); clear hb ho5))
 go_ret
 exact ⟨_, r2_, rS_ (Kd.R_mono HO261.out (fun _ hk => trivial)), by repeat (first | (with_reducible first | exact HB.out | apply below_alloc | apply pw_below_drewN | apply below_drew1 | refine below_set ?_ GE258.out) | exact HB.out)⟩

end Go.Proofs.YtbkafaoehheioaaGreat.X
