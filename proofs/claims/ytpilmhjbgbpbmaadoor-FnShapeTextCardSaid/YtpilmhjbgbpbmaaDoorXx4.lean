-- xprint.py
import Derived.Test.YtpilmhjbgbpbmaaDoorXx0
import Derived.Test.YtpilmhjbgbpbmaaDoorXx2
import Derived.Test.YtpilmhjbgbpbmaaDoorXx3
namespace Go.Proofs.YtpilmhjbgbpbmaaDoor.X
open Go.RowKit Go.Proofs.YtpilmhjbgbpbmaaDoorW.PrintWords Go.Proofs.YtpilmhjbgbpbmaaDoorW.PrintLast Go.Proofs.YtpilmhjbgbpbmaaDoorW.PrintMore
attribute [local go_sem] max2_int min2_int max_two min_two max_three min_three max_four min_four   -- for this text's walks alone
set_option linter.unusedVariables false
set_option linter.unusedSimpArgs false

/-! ### spec_l02Draw: function 26 -/
def spec_l02Draw.l0 : Nat → List (S43) → Int → List Int → Int → Int → Option ((List (S43)) × Int × Int)
 | 0, _, _, _, _, _ => none
 | k + 1, x5, x6, x1000, x1001, x1002 => (spec_l01Next.f x1000 x1001 x1002 2).bind fun bt231 => (if x6 < (wrap64 (40 + bt231.1)) then (if x5.length < 8796093022208 then (spec_l02Draw.l0 k (x5 ++ [(⟨x6, 0⟩ : S43)]) (wrap64 (x6 + 1)) x1000 bt231.2.1 bt231.2.2) else (none)) else (some (x5, bt231.2.1, bt231.2.2)))
def spec_l02Draw.f (k : Nat) (s0_0 : List Int) (s0_1 : Int) (s0_2 : Int) : Option ((List (S43)) × Int × Int) := (spec_l02DrawPoly.f k s0_0 s0_1 s0_2 8).bind fun bt193 => ((spec_l01Next.f s0_0 bt193.2.1 bt193.2.2 9).bind fun bt198 => ((spec_l01Next.f s0_0 bt198.2.1 bt198.2.2 9).bind fun bt201 => ((spec_l02Move.f k bt193.1 (wrap64 (bt198.1 - 4)) (wrap64 (bt201.1 - 4))).bind fun t204 => ((spec_l01Next.f s0_0 bt201.2.1 bt201.2.2 (t204.length : Int)).bind fun bt207 => ((spec_l01Next.f s0_0 bt207.2.1 bt207.2.2 24).bind fun bt210 => (if bt210.1 = 0 then ((some (([(-100), 100, 101] : List Int) : List Int)).bind fun y213 => ((spec_l01Next.f s0_0 bt210.2.1 bt210.2.2 3).bind fun bt216 => (if 0 ≤ bt216.1 then (if bt216.1 < (y213.length : Int) then (if 0 ≤ bt207.1 then (if bt207.1 < (t204.length : Int) then ((spec_l02Sort.f k (t204.set (bt207.1 : Int).toNat (⟨rd y213 bt216.1, (rd_T43 t204 bt207.1).f1⟩ : S43))).bind fun t221 => (some (t221, bt216.2.1, bt216.2.2))) else (none)) else (none)) else (none)) else (none)))) else (if bt210.1 = 1 then (if 0 ≤ bt207.1 then (if bt207.1 < (t204.length : Int) then (if t204.length < 8796093022208 then (some ((t204 ++ [(⟨(rd_T43 t204 bt207.1).f0, (rd_T43 t204 bt207.1).f1⟩ : S43)]), bt210.2.1, bt210.2.2)) else (none)) else (none)) else (none)) else (if bt210.1 = 2 then (some (([] : List (S43)), bt210.2.1, bt210.2.2)) else (if bt210.1 = 3 then (spec_l02Draw.l0 k (([] : List (S43))) 0 s0_0 bt210.2.1 bt210.2.2) else (if bt210.1 = 4 then (if 0 < (t204.length : Int) then (if 0 ≤ (wrap64 ((t204.length : Int) - 1)) then (if (wrap64 ((t204.length : Int) - 1)) < (t204.length : Int) then (if t204.length < 8796093022208 then (some ((t204 ++ [(⟨wrap64 (((rd_T43 t204 0).f0) + 3), wrap64 (((rd_T43 t204 (wrap64 ((t204.length : Int) - 1))).f1) + 2)⟩ : S43)]), bt210.2.1, bt210.2.2)) else (none)) else (none)) else (none)) else (none)) else (if bt210.1 = 5 then (if 0 < (t204.length : Int) then (if 0 ≤ (wrap64 ((t204.length : Int) - 1)) then (if (wrap64 ((t204.length : Int) - 1)) < (t204.length : Int) then (if t204.length < 8796093022208 then (some ((t204 ++ [(⟨wrap64 (((rd_T43 t204 0).f0) + 3), wrap64 (((rd_T43 t204 (wrap64 ((t204.length : Int) - 1))).f1) + 2)⟩ : S43)]), bt210.2.1, bt210.2.2)) else (none)) else (none)) else (none)) else (none)) else (some (t204, bt210.2.1, bt210.2.2)))))))))))))
theorem spec_l02Draw.mono_l : ∀ k, (∀ y0 y1 y2 y3 y4, LeO (spec_l02Draw.l0 k y0 y1 y2 y3 y4) (spec_l02Draw.l0 (k + 1) y0 y1 y2 y3 y4))
 | 0 => fun _ _ _ _ _ r h => by simp [spec_l02Draw.l0] at h
 | k + 1 => by
  have ih0 := spec_l02Draw.mono_l k
  ·intro y0 y1 y2 y3 y4
   unfold spec_l02Draw.l0
   repeat' first
   | (with_reducible exact ih0 _ _ _ _ _)
   | (with_reducible exact spec_l02DrawPoly.mono _ _ _ _ _)
   | (with_reducible exact spec_l02Move.mono _ _ _ _)
   | (with_reducible exact spec_l02Sort.mono _ _)
   | (with_reducible exact LeO.refl _)
   | (with_reducible exact LeO.none _)
   | (with_reducible refine LeO.ite ?_ ?_)
   | (with_reducible refine LeO.bind ?_ (fun _ => ?_))
   | exact ih0 _ _ _ _ _
   | exact spec_l02DrawPoly.mono _ _ _ _ _
   | exact spec_l02Move.mono _ _ _ _
   | exact spec_l02Sort.mono _ _
   | exact LeO.none _
   | refine LeO.ite ?_ ?_
   | refine LeO.bind ?_ (fun _ => ?_)
theorem spec_l02Draw.mono : ∀ a0 a1 a2 k, LeO (spec_l02Draw.f k a0 a1 a2) (spec_l02Draw.f (k + 1) a0 a1 a2) := by
 intro a0 a1 a2 k
 have ih0 := spec_l02Draw.mono_l k
 unfold spec_l02Draw.f
 repeat' first
   | (with_reducible exact ih0 _ _ _ _ _)
   | (with_reducible exact spec_l02DrawPoly.mono _ _ _ _ _)
   | (with_reducible exact spec_l02Move.mono _ _ _ _)
   | (with_reducible exact spec_l02Sort.mono _ _)
   | (with_reducible exact LeO.refl _)
   | (with_reducible exact LeO.none _)
   | (with_reducible refine LeO.ite ?_ ?_)
   | (with_reducible refine LeO.bind ?_ (fun _ => ?_))
   | exact ih0 _ _ _ _ _
   | exact spec_l02DrawPoly.mono _ _ _ _ _
   | exact spec_l02Move.mono _ _ _ _
   | exact spec_l02Sort.mono _ _
   | exact LeO.none _
   | refine LeO.ite ?_ ?_
   | refine LeO.bind ?_ (fun _ => ?_)
def spec_l02Draw.T20 : Bool × List (List Nat × List Nat) := (true, [([], []), ([], []), ([1], [1]), ([2], [2]), ([3], [3]), ([4], [4]), ([], []), ([], []), ([7], [7]), ([8], [8]), ([6, 9], [6, 9]), ([10], [10]), ([11], [11]), ([12], [12]), ([5, 13], [5, 13]), ([14], [14]), ([0, 15], [0, 15]), ([16, 16, 0, 1, 2, 3, 4, 5, 6, 7, 8, 9, 10, 11, 12, 13, 14, 15, 16], [16])])
def spec_l02Draw.B20 : List Nat := [0, 0, 2, 6, 14, 30, 0, 0, 128, 384, 960, 1984, 4032, 8128, 16382, 32766, 65535, 131071]
theorem spec_l02Draw.tab20 : rtab .any (opsOf Tryd.f26 20) = spec_l02Draw.T20 := by kernel_rfl
theorem spec_l02Draw.bits20 : waitsOk spec_l02Draw.T20.2 spec_l02Draw.B20 = true := by kernel_rfl
set_option maxHeartbeats 8000000 in
set_option maxRecDepth 100000 in
theorem spec_l02Draw.calls (k : Nat) (g : Nat) (s0_0 : List Int) (s0_1 : Int) (s0_2 : Int) (r1 : List (S43)) (r2 : Int) (r3 : Int) (w0 w : World) (hI : IsS55 w0 w g s0_0 s0_1 s0_2) (hB : Below w0.heap.size w0 w) (h : spec_l02Draw.f k s0_0 s0_1 s0_2 = some (r1, r2, r3)) :
  Calls Tryd.prog 26 #[.pointer (some ⟨g, 0, none⟩)] w fun e w' => ∃ v0_ : Value, e = .returned (v0_) ∧ Kd.R k43 43 w' w.heap.size (fun _ => True) v0_ r1 ∧ IsS55 w0 w' g s0_0 r2 r3 ∧ Below w0.heap.size w0 w' ∧ KeepBut w w' g none := by
 have hu43 := Tryd.underlying43
 have HI0 := Aside0.mk hI
 have HK := Aside0.mk (KeepBut.refl w g none)
 have HL := Aside0.mk hB.size
 clear hI
 have HW0 := Aside0.mk hB.size
 have HB := Aside0.mk hB
 clear hB
 have H : ((spec_l02DrawPoly.f k s0_0 s0_1 s0_2 8).bind fun bt193 => ((spec_l01Next.f s0_0 bt193.2.1 bt193.2.2 9).bind fun bt198 => ((spec_l01Next.f s0_0 bt198.2.1 bt198.2.2 9).bind fun bt201 => ((spec_l02Move.f k bt193.1 (wrap64 (bt198.1 - 4)) (wrap64 (bt201.1 - 4))).bind fun t204 => ((spec_l01Next.f s0_0 bt201.2.1 bt201.2.2 (t204.length : Int)).bind fun bt207 => ((spec_l01Next.f s0_0 bt207.2.1 bt207.2.2 24).bind fun bt210 => (if bt210.1 = 0 then ((some (([(-100), 100, 101] : List Int) : List Int)).bind fun y213 => ((spec_l01Next.f s0_0 bt210.2.1 bt210.2.2 3).bind fun bt216 => (if 0 ≤ bt216.1 then (if bt216.1 < (y213.length : Int) then (if 0 ≤ bt207.1 then (if bt207.1 < (t204.length : Int) then ((spec_l02Sort.f k (t204.set (bt207.1 : Int).toNat (⟨rd y213 bt216.1, (rd_T43 t204 bt207.1).f1⟩ : S43))).bind fun t221 => (some (t221, bt216.2.1, bt216.2.2))) else (none)) else (none)) else (none)) else (none)))) else (if bt210.1 = 1 then (if 0 ≤ bt207.1 then (if bt207.1 < (t204.length : Int) then (if t204.length < 8796093022208 then (some ((t204 ++ [(⟨(rd_T43 t204 bt207.1).f0, (rd_T43 t204 bt207.1).f1⟩ : S43)]), bt210.2.1, bt210.2.2)) else (none)) else (none)) else (none)) else (if bt210.1 = 2 then (some (([] : List (S43)), bt210.2.1, bt210.2.2)) else (if bt210.1 = 3 then (spec_l02Draw.l0 k (([] : List (S43))) 0 s0_0 bt210.2.1 bt210.2.2) else (if bt210.1 = 4 then (if 0 < (t204.length : Int) then (if 0 ≤ (wrap64 ((t204.length : Int) - 1)) then (if (wrap64 ((t204.length : Int) - 1)) < (t204.length : Int) then (if t204.length < 8796093022208 then (some ((t204 ++ [(⟨wrap64 (((rd_T43 t204 0).f0) + 3), wrap64 (((rd_T43 t204 (wrap64 ((t204.length : Int) - 1))).f1) + 2)⟩ : S43)]), bt210.2.1, bt210.2.2)) else (none)) else (none)) else (none)) else (none)) else (if bt210.1 = 5 then (if 0 < (t204.length : Int) then (if 0 ≤ (wrap64 ((t204.length : Int) - 1)) then (if (wrap64 ((t204.length : Int) - 1)) < (t204.length : Int) then (if t204.length < 8796093022208 then (some ((t204 ++ [(⟨wrap64 (((rd_T43 t204 0).f0) + 3), wrap64 (((rd_T43 t204 (wrap64 ((t204.length : Int) - 1))).f1) + 2)⟩ : S43)]), bt210.2.1, bt210.2.2)) else (none)) else (none)) else (none)) else (none)) else (some (t204, bt210.2.1, bt210.2.2)))))))))))))) = some (r1, r2, r3) := h
 clear h
 replace H := Option.bind_eq_some_iff.mp H
 obtain ⟨⟨t193, t196, t197⟩, A20, H⟩ := H
 try dsimp only at H
 have A2 := Aside0.mk A20
 clear A20
 replace H := Option.bind_eq_some_iff.mp H
 obtain ⟨⟨t198, t199, t200⟩, A30, H⟩ := H
 try dsimp only at H
 have A3 := Aside0.mk A30
 clear A30
 replace H := Option.bind_eq_some_iff.mp H
 obtain ⟨⟨t201, t202, t203⟩, A40, H⟩ := H
 try dsimp only at H
 have A4 := Aside0.mk A40
 clear A40
 replace H := Option.bind_eq_some_iff.mp H
 obtain ⟨t204, A50, H⟩ := H
 try dsimp only at H
 have A5 := Aside0.mk A50
 clear A50
 replace H := Option.bind_eq_some_iff.mp H
 obtain ⟨⟨t207, t208, t209⟩, A60, H⟩ := H
 try dsimp only at H
 have A6 := Aside0.mk A60
 clear A60
 replace H := Option.bind_eq_some_iff.mp H
 obtain ⟨⟨t210, t211, t212⟩, A70, H⟩ := H
 try dsimp only at H
 have A7 := Aside0.mk A70
 clear A70
 by_cases c8 : t210 = 0
 ·rw [if_pos c8] at H
  have c8b0 : (t210 == 0) = true := beq_iff_eq.mpr c8
  have c8b1 : (t210 != 0) = false := bne_eq_false_iff_eq.mpr c8
  clear c8
  obtain ⟨y213, hY_⟩ : ∃ y_ : List Int, y_ = (([(-100), 100, 101] : List Int)) := ⟨_, rfl⟩
  replace H : ((spec_l01Next.f s0_0 t211 t212 3).bind fun bt216 => (if 0 ≤ bt216.1 then (if bt216.1 < (y213.length : Int) then (if 0 ≤ t207 then (if t207 < (t204.length : Int) then ((spec_l02Sort.f k (t204.set (t207 : Int).toNat (⟨rd y213 bt216.1, (rd_T43 t204 t207).f1⟩ : S43))).bind fun t221 => (some (t221, bt216.2.1, bt216.2.2))) else (none)) else (none)) else (none)) else (none))) = some (r1, r2, r3) := yY_
  have Ny213 := Aside0.mk hY_
  clear hY_
  replace H := Option.bind_eq_some_iff.mp H
  obtain ⟨⟨t216, t217, t218⟩, A90, H⟩ := H
  try dsimp only at H
  have A9 := Aside0.mk A90
  clear A90
  by_cases c10 : 0 ≤ t216
  ·rw [if_pos c10] at H
   have c10b0 : decide (0 ≤ t216) = true := decide_eq_true c10
   clear c10
   by_cases c11 : t216 < (y213.length : Int)
   ·rw [if_pos c11] at H
    have c11b0 : decide (t216 < (y213.length : Int)) = true := decide_eq_true c11
    clear c11
    by_cases c12 : 0 ≤ t207
    ·rw [if_pos c12] at H
     have c12b0 : decide (0 ≤ t207) = true := decide_eq_true c12
     clear c12
     by_cases c13 : t207 < (t204.length : Int)
     ·rw [if_pos c13] at H
      have c13b0 : decide (t207 < (t204.length : Int)) = true := decide_eq_true c13
      clear c13
      obtain ⟨y220, hY_⟩ : ∃ y_ : List (S43), y_ = (t204.set (t207 : Int).toNat (⟨rd y213 t216, (rd_T43 t204 t207).f1⟩ : S43)) := ⟨_, rfl⟩
      replace H : ((spec_l02Sort.f k y220).bind fun t221 => (some (t221, t217, t218))) = some (r1, r2, r3) := yY_
      have Ny220 := Aside0.mk hY_
      clear hY_
      replace H := Option.bind_eq_some_iff.mp H
      obtain ⟨t221, A150, H⟩ := H
      try dsimp only at H
      have A15 := Aside0.mk A150
      clear A150
      simp only [Option.some.injEq, Prod.mk.injEq] at H
      obtain ⟨rfl, rfl, rfl⟩ := H
      go_enter Tryd.func26, Tryd.ntmps26
      go_wp2_with (first | ((with_reducible refine gate_callee (f := 20) rfl ?_); refine gL_ (some 8) Tryd.func20 #[.pointer (some ⟨g, 0, none⟩), .int .i64 8] ?_; (with_reducible refine (spec_l02DrawPoly.calls k g s0_0 s0_1 s0_2 8 t193 t196 t197 w0 _ ?side1 ?side2 A2.out).mono ?_); (case side1 => exact iS55_); (case side2 => exact bS55_); rintro e w16 ⟨v194, rfl, ho0, hi, hb, hk⟩; refine ⟨_, rfl, ?_⟩; have HO195 := Aside0.mk (Kd.R_lower ho0 (keep_size (w := w) (g := g) (row := none) kK_)); replace HK := Aside0.mk (KeepBut.trans kK_ hk (.inl rfl)); replace HB := Aside0.mk (hb); replace HI0 := Aside0.mk (hi); (try clear hb hk hi ho0)) | ((with_reducible refine gate_callee (f := 19) rfl ?_); refine gL_ (some 10) Tryd.func19 #[.pointer (some ⟨g, 0, none⟩), .int .i64 9] ?_; (with_reducible refine (spec_l01Next.calls g s0_0 t196 t197 9 t198 t199 t200 w0 _ ?side1 ?side2 A3.out).mono ?_); (case side1 => exact iS55_); (case side2 => exact bS55_); rintro e w17 ⟨rfl, hi, hb, hk⟩; refine ⟨_, rfl, ?_⟩; replace HO195 := Aside0.mk (Kd.R_mono (Kd.R_keep (IsS55.apart (show IsS55 w0 _ g s0_0 t196 t197 from iS55_) (rS_ HO195.out) (by decide)) hk (fun _ h => h.2)) (fun _ h => h.1)); replace HK := Aside0.mk (KeepBut.trans kK_ hk (.inl rfl)); replace HB := Aside0.mk (hb); replace HI0 := Aside0.mk (hi); (try clear hb hk hi)) | ((with_reducible refine gate_callee (f := 19) rfl ?_); refine gL_ (some 13) Tryd.func19 #[.pointer (some ⟨g, 0, none⟩), .int .i64 9] ?_; (with_reducible refine (spec_l01Next.calls g s0_0 t199 t200 9 t201 t202 t203 w0 _ ?side1 ?side2 A4.out).mono ?_); (case side1 => exact iS55_); (case side2 => exact bS55_); rintro e w18 ⟨rfl, hi, hb, hk⟩; refine ⟨_, rfl, ?_⟩; replace HO195 := Aside0.mk (Kd.R_mono (Kd.R_keep (IsS55.apart (show IsS55 w0 _ g s0_0 t199 t200 from iS55_) (rS_ HO195.out) (by decide)) hk (fun _ h => h.2)) (fun _ h => h.1)); replace HK := Aside0.mk (KeepBut.trans kK_ hk (.inl rfl)); replace HB := Aside0.mk (hb); replace HI0 := Aside0.mk (hi); (try clear hb hk hi); obtain ⟨Ao19, co19, eo19⟩ := Kd.R_slice HO195.out; subst eo19) | ((with_reducible refine gate_callee (f := 43) rfl ?_); refine gL_ (some 15) Tryd.func43 #[.slice Ao19 t193.length co19, .int .i64 (wrap64 (t198 - 4)), .int .i64 (wrap64 (t201 - 4))] ?_; (with_reducible refine (spec_l02Move.calls k _ _ t193 (wrap64 (t198 - 4)) (wrap64 (t201 - 4)) t204 _ ?side1 ?side2 A5.out).mono ?_); (case side1 => exact cS_ ((Kd.R_reads' HO195.out).2.2)); (case side2 => exact (Kd.R_reads' HO195.out).2.1); rintro e w20 ⟨v205, rfl, ho0, hb⟩; refine ⟨_, rfl, ?_⟩; have HO206 := Aside0.mk (Kd.R_lower (Kd.R_new' ho0 (Kd.R_lt (rS_ HO195.out))) (keep_size (w := w) (g := g) (row := none) kK_)); replace HO195 := Aside0.mk (Kd.R_elder' (rS_ HO195.out) (Kd.R_base ho0) hb); replace HK := Aside0.mk (KeepBut.trans kK_ (KeepBut.of_below hb g none) (.inl rfl)); replace HB := Aside0.mk (below_step bS55_ hb); replace HI0 := Aside0.mk (IsS55.below iS55_ hb); (try clear hb ho0); obtain ⟨Ao21, co21, eo21⟩ := Kd.R_slice HO206.out; subst eo21) | ((with_reducible refine gate_callee (f := 19) rfl ?_); refine gL_ (some 19) Tryd.func19 #[.pointer (some ⟨g, 0, none⟩), .int .i64 (t204.length : Int)] ?_; (with_reducible refine (spec_l01Next.calls g s0_0 t202 t203 (t204.length : Int) t207 t208 t209 w0 _ ?side1 ?side2 A6.out).mono ?_); (case side1 => exact iS55_); (case side2 => exact bS55_); rintro e w22 ⟨rfl, hi, hb, hk⟩; refine ⟨_, rfl, ?_⟩; replace HO195 := Aside0.mk (Kd.R_mono (Kd.R_keep (IsS55.apart (show IsS55 w0 _ g s0_0 t202 t203 from iS55_) (rS_ HO195.out) (by decide)) hk (fun _ h => h.2)) (fun _ h => h.1)); replace HO206 := Aside0.mk (Kd.R_mono (Kd.R_keep (IsS55.apart (show IsS55 w0 _ g s0_0 t202 t203 from iS55_) (rS_ HO206.out) (by decide)) hk (fun _ h => h.2)) (fun _ h => h.1)); replace HK := Aside0.mk (KeepBut.trans kK_ hk (.inl rfl)); replace HB := Aside0.mk (hb); replace HI0 := Aside0.mk (hi); (try clear hb hk hi)) | ((with_reducible refine gate_callee (f := 19) rfl ?_); refine gL_ (some 21) Tryd.func19 #[.pointer (some ⟨g, 0, none⟩), .int .i64 24] ?_; (with_reducible refine (spec_l01Next.calls g s0_0 t208 t209 24 t210 t211 t212 w0 _ ?side1 ?side2 A7.out).mono ?_); (case side1 => exact iS55_); (case side2 => exact bS55_); rintro e w23 ⟨rfl, hi, hb, hk⟩; refine ⟨_, rfl, ?_⟩; replace HO195 := Aside0.mk (Kd.R_mono (Kd.R_keep (IsS55.apart (show IsS55 w0 _ g s0_0 t208 t209 from iS55_) (rS_ HO195.out) (by decide)) hk (fun _ h => h.2)) (fun _ h => h.1)); replace HO206 := Aside0.mk (Kd.R_mono (Kd.R_keep (IsS55.apart (show IsS55 w0 _ g s0_0 t208 t209 from iS55_) (rS_ HO206.out) (by decide)) hk (fun _ h => h.2)) (fun _ h => h.1)); replace HK := Aside0.mk (KeepBut.trans kK_ hk (.inl rfl)); replace HB := Aside0.mk (hb); replace HI0 := Aside0.mk (hi); (try clear hb hk hi)) | ((with_reducible refine gate_dst (N := 26) rfl ?_); refine Kd.R_lit (Kd.int .i64) _ 2 ?hg (N := 26) ?hd (xs := ([(-100), 100, 101] : List Int)) (inner := [.int .i64 (-100), .int .i64 100, .int .i64 101]) (ok := fun _ => True) (okp := fun _ => True) ?hr ?hp (fun _ hk => hk) trivial (Below.refl _ _) (Nat.le_refl _) (by simp) ?_; (case hd => rfl); (case hg => rfl); (case hr => first | (go_simp; done) | (go_simp; rfl)); (case hp => exact (Reps.one (show Kd.M (Kd.int .i64) _ _ _ (-100) [.int .i64 (-100)] from rfl) (Reps.one (show Kd.M (Kd.int .i64) _ _ _ 100 [.int .i64 100] from rfl) (Reps.one (show Kd.M (Kd.int .i64) _ _ _ 101 [.int .i64 101] from rfl) (Reps.none _ _))))); intro v214 w24 ho25 hb hg_ hnew_; clear hg_ hnew_; (first | rw [← Ny213.out] at ho25 | (simp only [Int.reduceToNat] at ho25; rw [← Ny213.out] at ho25)); replace HO195 := Aside0.mk (Kd.R_below (rS_ HO195.out) hb); replace HO206 := Aside0.mk (Kd.R_below (rS_ HO206.out) hb); have HO215 := Aside0.mk (Kd.R_lower ho25 (keep_size (w := w) (g := g) (row := none) kK_)); replace HK := Aside0.mk (KeepBut.trans kK_ (KeepBut.of_below hb g none) (.inl rfl)); replace HB := Aside0.mk (below_step bS55_ hb); replace HI0 := Aside0.mk (IsS55.below iS55_ hb); clear hb ho25) | ((with_reducible refine gate_callee (f := 19) rfl ?_); refine gL_ (some 28) Tryd.func19 #[.pointer (some ⟨g, 0, none⟩), .int .i64 3] ?_; (with_reducible refine (spec_l01Next.calls g s0_0 t211 t212 3 t216 t217 t218 w0 _ ?side1 ?side2 A9.out).mono ?_); (case side1 => exact iS55_); (case side2 => exact bS55_); rintro e w26 ⟨rfl, hi, hb, hk⟩; refine ⟨_, rfl, ?_⟩; replace HO195 := Aside0.mk (Kd.R_mono (Kd.R_keep (IsS55.apart (show IsS55 w0 _ g s0_0 t211 t212 from iS55_) (rS_ HO195.out) (by decide)) hk (fun _ h => h.2)) (fun _ h => h.1)); replace HO206 := Aside0.mk (Kd.R_mono (Kd.R_keep (IsS55.apart (show IsS55 w0 _ g s0_0 t211 t212 from iS55_) (rS_ HO206.out) (by decide)) hk (fun _ h => h.2)) (fun _ h => h.1)); replace HO215 := Aside0.mk (Kd.R_mono (Kd.R_keep (IsS55.apart (show IsS55 w0 _ g s0_0 t211 t212 from iS55_) (rS_ HO215.out) (by decide)) hk (fun _ h => h.2)) (fun _ h => h.1)); replace HK := Aside0.mk (KeepBut.trans kK_ hk (.inl rfl)); replace HB := Aside0.mk (hb); replace HI0 := Aside0.mk (hi); (try clear hb hk hi); obtain ⟨Ao27, co27, eo27⟩ := Kd.R_slice HO215.out; subst eo27; have p219 : 0 ≤ (t216 : Int) := of_decide_eq_true aS_; have q219 : t216 < (y213.length : Int) := of_decide_eq_true aS_; obtain ⟨ad219, e219, hx219_0⟩ := Kd.at_int (Kd.R_reads' HO215.out).2.2 t216 p219 q219; cases e219; replace p219 := eq_true p219; replace q219 := eq_true q219; have p14 : 0 ≤ (t207 : Int) := of_decide_eq_true aS_; have q14 : (t207 : Int) < ((t204.length : Int) : Int) := of_decide_eq_true aS_; obtain ⟨go14, co14, eo14, gb14, gl14, cl14, HG14⟩ := Kd.R_form HO206.out (by omega); (first | cases eo14 | (injection eo14 with ea_ en_ ec_; (first | subst ea_ | (injection ea_ with ea_; subst ea_)); subst ec_; clear en_)); have GB14 := Aside0.mk gb14; have GG14 := Aside0.mk HG14; clear gb14 gl14 HG14; obtain ⟨ce14, hcl14, hM14, hcc14, hfr14⟩ := Kd.R_elem HO206.out z43 (t207 : Int) p14 q14; obtain rfl := k43_openM hM14; have hx14_0 : w26.cell? ⟨go14, (t207 : Int).toNat * 2, none⟩ = some (.int .i64 ((rd_T43 t204 t207).f0)) := hcc14 0 _ rfl; have hx14_1 : w26.cell? ⟨go14, (t207 : Int).toNat * 2 + 1, none⟩ = some (.int .i64 ((rd_T43 t204 t207).f1)) := hcc14 1 _ rfl; have hf14_0 : w26.frozen? ⟨go14, (t207 : Int).toNat * 2, none⟩ = false := hfr14 0; have hf14_1 : w26.frozen? ⟨go14, (t207 : Int).toNat * 2 + 1, none⟩ = false := hfr14 1; clear hcl14 hcc14 hfr14 hM14; replace p14 := eq_true p14; replace q14 := eq_true q14; have n_ := Aside0.mk (Kd.R_mono (ok' := (fun k_ => some k_ ≠ (.slice Ao19 t193.length co19 : Value).ownBlock)) HO206.out (fun k_ hk => hk.2)); clear HO206; have HO206 := n_; clear n_; have HX28 := Aside0.mk (show Kd.R k43 43 w26 w.heap.size (fun k_ => some k_ ≠ (.slice Ao19 t193.length co19 : Value).ownBlock) (.slice (some ⟨go14, 0, none⟩) t204.length co21) t204 from (rS_ HO206.out)); obtain ⟨ce28, hcl28, hM28, hcc28, hfr28⟩ := Kd.R_elem HX28.out z43 (t207 : Int) (of_decide_eq_true aS_) (by have h_ : (t207 : Int) < ((t204.length : Int) : Int) := of_decide_eq_true aS_; first | exact h_ | (have e_ := (Kd.R_reads' HO206.out).1; omega) | simpa using h_); obtain rfl := k43_openM hM28; have HP28 := Kd.R_seg HX28.out (t207 : Int) (of_decide_eq_true aS_) (by have h_ : (t207 : Int) < ((t204.length : Int) : Int) := of_decide_eq_true aS_; first | exact h_ | (have e_ := (Kd.R_reads' HO206.out).1; omega) | simpa using h_) (seg := [.int .i64 (rd y213 t216)]) (j := 0) hcl28 hcc28 (show 1 ≤ 2 from by decide) (x' := (⟨rd y213 t216, (rd_T43 t204 t207).f1⟩ : S43)) (k43_mkM _ _ _ (⟨rd y213 t216, (rd_T43 t204 t207).f1⟩ : S43) ) (fun _ hk => hk); have hx28_0 := hcc28 0 _ rfl; (try simp only [show (k43).sz = 2 from rfl, Nat.mul_one, Nat.add_zero] at hx28_0); have hf28_0 := hfr28 0; (try simp only [show (k43).sz = 2 from rfl, Nat.mul_one, Nat.add_zero] at hf28_0); clear hcl28 hcc28 hfr28 hM28) | ((with_reducible refine gate_store (t := 2) (p := 32) rfl ?_); refine store_event (t := 2) (p := 32) (v := ?vo_w29) (w1 := (w26.setCell ⟨go14, (t207 : Int).toNat * 2, none⟩ (.int .i64 (rd y213 t216)))) ?hg ?ho ?hn ?hr ?_; (case ho => rfl); (case hg => rfl); (case hn => rfl); (case hr => first | (go_simp; done) | (go_simp; rfl)); intro w29 hw; have hg : w26.grownBy w29 (some go14) := (by rw [hw]; exact HP28.2); have hp_ : Kd.R k43 43 w29 w.heap.size (fun k_ => some k_ ≠ (.slice Ao19 t193.length co19 : Value).ownBlock) (.slice (some ⟨go14, 0, none⟩) t204.length co21) y220 := (by rw [hw, Ny220.out]; exact HP28.1); clear HP28; replace HI0 := Aside0.mk (IsS55.grown iS55_ hg (IsS55.own_ne HI0.out HO206.out (by decide))); replace HO195 := Aside0.mk (Kd.R_after (v := (.slice (some ⟨go14, 0, none⟩) t204.length co21)) (v1 := (.slice (some ⟨go14, 0, none⟩) t204.length co21)) (ok := (fun _ => True)) (rS_ HO195.out) hg (.inl rfl)); replace HO215 := Aside0.mk (Kd.R_over' (v := (.slice (some ⟨go14, 0, none⟩) t204.length co21)) (rS_ HO215.out) (Kd.R_typed HO206.out) (by decide) hg); replace HB := Aside0.mk ((by rw [hw]; exact below_set (HB.out) (Nat.le_trans HL.out GB14.out) : Below w0.heap.size w0 w29)); replace HK := Aside0.mk (KeepBut.trans kK_ (KeepBut.of_grown hg g) (Kd.R_base2 HO206.out)); replace HO206 := Aside0.mk (hp_); clear hg hw hp_) | ((with_reducible refine gate_callee (f := 44) rfl ?_); refine goesL_ (some 34) rfl rfl Tryd.func44 (by kernel_rfl) rfl #[.slice (some ⟨go14, 0, none⟩) y220.length co21] rfl (by (try simp only [List.map_toArray, List.map_cons, List.map_nil]); first | done | (rw [show y220.length = t204.length from (Kd.R_reads' HO206.out).1.symm] <;> rfl) | rfl | (simp only [List.length_drop, List.length_take]; rfl)) ?_; (with_reducible refine (spec_l02Sort.calls k _ _ y220 t221 _ ?side1 ?side2 A15.out).mono ?_); (case side1 => exact cS_ ((Kd.R_reads' HO206.out).2.2)); (case side2 => rw [show y220.length = t204.length from (Kd.R_reads' HO206.out).1.symm]; exact (Kd.R_reads' HO206.out).2.1); rintro e w30 ⟨v222, rfl, ho0, hb⟩; refine ⟨_, rfl, ?_⟩; replace HO215 := Aside0.mk (Kd.R_below (rS_ HO215.out) hb); have HO223 := Aside0.mk (Kd.R_lower (Kd.R_new' (Kd.R_new' ho0 (Kd.R_lt (rS_ HO195.out))) (Kd.R_lt (rS_ HO206.out))) (keep_size (w := w) (g := g) (row := none) kK_)); replace HO195 := Aside0.mk (Kd.R_elder' (rS_ HO195.out) (Kd.R_base ho0) hb); replace HO206 := Aside0.mk (Kd.R_elder' (rS_ HO206.out) (Kd.R_base ho0) hb); replace HK := Aside0.mk (KeepBut.trans kK_ (KeepBut.of_below hb g none) (.inl rfl)); replace HB := Aside0.mk (below_step bS55_ hb); replace HI0 := Aside0.mk (IsS55.below iS55_ hb); (try clear hb ho0)))
      go_ret
      exact ⟨_, r2_, rS_ (Kd.R_mono HO223.out (fun _ hk => trivial)), iS55_, bS55_, kK_⟩
     ·rw [if_neg c13] at H
      exact absurd H (by simp)
    ·rw [if_neg c12] at H
     exact absurd H (by simp)
   ·rw [if_neg c11] at H
    exact absurd H (by simp)
  ·rw [if_neg c10] at H
   exact absurd H (by simp)
 ·rw [if_neg c8] at H
  have c8b0 : (t210 == 0) = false := beq_eq_false_iff_ne.mpr c8
  have c8b1 : (t210 != 0) = true := bne_iff_ne.mpr c8
  by_cases c31 : t210 = 1
  ·rw [if_pos c31] at H
   have c31b0 : (t210 == 1) = true := beq_iff_eq.mpr c31
   have c31b1 : (t210 != 1) = false := bne_eq_false_iff_eq.mpr c31
   clear c31
   by_cases c32 : 0 ≤ t207
   ·rw [if_pos c32] at H
    have c32b0 : decide (0 ≤ t207) = true := decide_eq_true c32
    clear c32
    by_cases c33 : t207 < (t204.length : Int)
    ·rw [if_pos c33] at H
     have c33b0 : decide (t207 < (t204.length : Int)) = true := decide_eq_true c33
     clear c33
     by_cases c34 : t204.length < 8796093022208
     ·rw [if_pos c34] at H
      have LMc34 := Aside0.mk c34
      clear c34
      obtain ⟨y225, hY_⟩ : ∃ y_ : List (S43), y_ = (t204 ++ [(⟨(rd_T43 t204 t207).f0, (rd_T43 t204 t207).f1⟩ : S43)]) := ⟨_, rfl⟩
      replace H : (some (y225, t211, t212)) = some (r1, r2, r3) := yY_
      have Ny225 := Aside0.mk hY_
      clear hY_
      simp only [Option.some.injEq, Prod.mk.injEq] at H
      obtain ⟨rfl, rfl, rfl⟩ := H
      go_enter Tryd.func26, Tryd.ntmps26
      go_wp2_with (first | ((with_reducible refine gate_callee (f := 20) rfl ?_); refine gL_ (some 8) Tryd.func20 #[.pointer (some ⟨g, 0, none⟩), .int .i64 8] ?_; (with_reducible refine (spec_l02DrawPoly.calls k g s0_0 s0_1 s0_2 8 t193 t196 t197 w0 _ ?side1 ?side2 A2.out).mono ?_); (case side1 => exact iS55_); (case side2 => exact bS55_); rintro e w35 ⟨v194, rfl, ho0, hi, hb, hk⟩; refine ⟨_, rfl, ?_⟩; have HO195 := Aside0.mk (Kd.R_lower ho0 (keep_size (w := w) (g := g) (row := none) kK_)); replace HK := Aside0.mk (KeepBut.trans kK_ hk (.inl rfl)); replace HB := Aside0.mk (hb); replace HI0 := Aside0.mk (hi); (try clear hb hk hi ho0)) | ((with_reducible refine gate_callee (f := 19) rfl ?_); refine gL_ (some 10) Tryd.func19 #[.pointer (some ⟨g, 0, none⟩), .int .i64 9] ?_; (with_reducible refine (spec_l01Next.calls g s0_0 t196 t197 9 t198 t199 t200 w0 _ ?side1 ?side2 A3.out).mono ?_); (case side1 => exact iS55_); (case side2 => exact bS55_); rintro e w36 ⟨rfl, hi, hb, hk⟩; refine ⟨_, rfl, ?_⟩; replace HO195 := Aside0.mk (Kd.R_mono (Kd.R_keep (IsS55.apart (show IsS55 w0 _ g s0_0 t196 t197 from iS55_) (rS_ HO195.out) (by decide)) hk (fun _ h => h.2)) (fun _ h => h.1)); replace HK := Aside0.mk (KeepBut.trans kK_ hk (.inl rfl)); replace HB := Aside0.mk (hb); replace HI0 := Aside0.mk (hi); (try clear hb hk hi)) | ((with_reducible refine gate_callee (f := 19) rfl ?_); refine gL_ (some 13) Tryd.func19 #[.pointer (some ⟨g, 0, none⟩), .int .i64 9] ?_; (with_reducible refine (spec_l01Next.calls g s0_0 t199 t200 9 t201 t202 t203 w0 _ ?side1 ?side2 A4.out).mono ?_); (case side1 => exact iS55_); (case side2 => exact bS55_); rintro e w37 ⟨rfl, hi, hb, hk⟩; refine ⟨_, rfl, ?_⟩; replace HO195 := Aside0.mk (Kd.R_mono (Kd.R_keep (IsS55.apart (show IsS55 w0 _ g s0_0 t199 t200 from iS55_) (rS_ HO195.out) (by decide)) hk (fun _ h => h.2)) (fun _ h => h.1)); replace HK := Aside0.mk (KeepBut.trans kK_ hk (.inl rfl)); replace HB := Aside0.mk (hb); replace HI0 := Aside0.mk (hi); (try clear hb hk hi); obtain ⟨Ao38, co38, eo38⟩ := Kd.R_slice HO195.out; subst eo38) | ((with_reducible refine gate_callee (f := 43) rfl ?_); refine gL_ (some 15) Tryd.func43 #[.slice Ao38 t193.length co38, .int .i64 (wrap64 (t198 - 4)), .int .i64 (wrap64 (t201 - 4))] ?_; (with_reducible refine (spec_l02Move.calls k _ _ t193 (wrap64 (t198 - 4)) (wrap64 (t201 - 4)) t204 _ ?side1 ?side2 A5.out).mono ?_); (case side1 => exact cS_ ((Kd.R_reads' HO195.out).2.2)); (case side2 => exact (Kd.R_reads' HO195.out).2.1); rintro e w39 ⟨v205, rfl, ho0, hb⟩; refine ⟨_, rfl, ?_⟩; have HO206 := Aside0.mk (Kd.R_lower (Kd.R_new' ho0 (Kd.R_lt (rS_ HO195.out))) (keep_size (w := w) (g := g) (row := none) kK_)); replace HO195 := Aside0.mk (Kd.R_elder' (rS_ HO195.out) (Kd.R_base ho0) hb); replace HK := Aside0.mk (KeepBut.trans kK_ (KeepBut.of_below hb g none) (.inl rfl)); replace HB := Aside0.mk (below_step bS55_ hb); replace HI0 := Aside0.mk (IsS55.below iS55_ hb); (try clear hb ho0); obtain ⟨Ao40, co40, eo40⟩ := Kd.R_slice HO206.out; subst eo40) | ((with_reducible refine gate_callee (f := 19) rfl ?_); refine gL_ (some 19) Tryd.func19 #[.pointer (some ⟨g, 0, none⟩), .int .i64 (t204.length : Int)] ?_; (with_reducible refine (spec_l01Next.calls g s0_0 t202 t203 (t204.length : Int) t207 t208 t209 w0 _ ?side1 ?side2 A6.out).mono ?_); (case side1 => exact iS55_); (case side2 => exact bS55_); rintro e w41 ⟨rfl, hi, hb, hk⟩; refine ⟨_, rfl, ?_⟩; replace HO195 := Aside0.mk (Kd.R_mono (Kd.R_keep (IsS55.apart (show IsS55 w0 _ g s0_0 t202 t203 from iS55_) (rS_ HO195.out) (by decide)) hk (fun _ h => h.2)) (fun _ h => h.1)); replace HO206 := Aside0.mk (Kd.R_mono (Kd.R_keep (IsS55.apart (show IsS55 w0 _ g s0_0 t202 t203 from iS55_) (rS_ HO206.out) (by decide)) hk (fun _ h => h.2)) (fun _ h => h.1)); replace HK := Aside0.mk (KeepBut.trans kK_ hk (.inl rfl)); replace HB := Aside0.mk (hb); replace HI0 := Aside0.mk (hi); (try clear hb hk hi)) | ((with_reducible refine gate_callee (f := 19) rfl ?_); refine gL_ (some 21) Tryd.func19 #[.pointer (some ⟨g, 0, none⟩), .int .i64 24] ?_; (with_reducible refine (spec_l01Next.calls g s0_0 t208 t209 24 t210 t211 t212 w0 _ ?side1 ?side2 A7.out).mono ?_); (case side1 => exact iS55_); (case side2 => exact bS55_); rintro e w42 ⟨rfl, hi, hb, hk⟩; refine ⟨_, rfl, ?_⟩; replace HO195 := Aside0.mk (Kd.R_mono (Kd.R_keep (IsS55.apart (show IsS55 w0 _ g s0_0 t208 t209 from iS55_) (rS_ HO195.out) (by decide)) hk (fun _ h => h.2)) (fun _ h => h.1)); replace HO206 := Aside0.mk (Kd.R_mono (Kd.R_keep (IsS55.apart (show IsS55 w0 _ g s0_0 t208 t209 from iS55_) (rS_ HO206.out) (by decide)) hk (fun _ h => h.2)) (fun _ h => h.1)); replace HK := Aside0.mk (KeepBut.trans kK_ hk (.inl rfl)); replace HB := Aside0.mk (hb); replace HI0 := Aside0.mk (hi); (try clear hb hk hi); have p224 : 0 ≤ (t207 : Int) := of_decide_eq_true aS_; have q224 : t207 < (t204.length : Int) := of_decide_eq_true aS_; obtain ⟨ad224, e224, hx224_0, hx224_1⟩ := at_T43 (Kd.R_reads' HO206.out).2.2 t207 p224 q224; cases e224; replace p224 := eq_true p224; replace q224 := eq_true q224) | ((with_reducible refine gate_builtin (b := .append) (xs := #[.tmp 37, .tmp 42]) rfl ?_); at_builtin; refine Kd.R_append k43 w.heap.size rfl (.tmp 37) (.tmp 42) 24 43 (.agg #[(.int .i64 0), (.int .i64 0)]) 16 rfl Tryd.underlying24 info43 rfl (by decide) (by omega) (.slice (some ad224) t204.length co40) t204 (⟨(rd_T43 t204 t207).f0, (rd_T43 t204 t207).f1⟩ : S43) [.int .i64 ((rd_T43 t204 t207).f0), .int .i64 ((rd_T43 t204 t207).f1)] (fun k_ => some k_ ≠ (.slice Ao38 t193.length co38 : Value).ownBlock) (fun _ => False) rfl rfl ?aP (fun _ hk => hk.elim) ?aF ?aO (Below.refl _ _) ?aS ?aL ?_; (case aP => exact k43_mkM _ _ _ (⟨(rd_T43 t204 t207).f0, (rd_T43 t204 t207).f1⟩ : S43)); (case aF => exact (fun k_ hk => Kd.fresh' (Kd.R_lt (rS_ HO195.out)) k_ hk)); (case aO => exact (rS_ (Kd.R_mono HO206.out (fun _ hk => hk.2)))); (case aS => exact (keep_size (w := w) (g := g) (row := none) kK_)); (case aL => have := LMc34.out; omega); intro v226 w43 ho hb hg hat; rw [← Ny225.out] at ho; replace HO195 := Aside0.mk (Kd.R_after (ok := (fun _ => True)) (rS_ HO195.out) hg hat); replace HB := Aside0.mk (below_weaken bS55_ HL.out hb); replace HI0 := Aside0.mk (IsS55.grown iS55_ hg (IsS55.own_ne HI0.out HO206.out (by decide))); replace HK := Aside0.mk (KeepBut.trans kK_ (KeepBut.of_grown hg g) (Kd.R_base2 HO206.out)); have HO227 := Aside0.mk (ho); clear HO206; clear ho hb hg hat))
      go_ret
      exact ⟨_, r2_, rS_ (Kd.R_mono HO227.out (fun _ hk => trivial)), iS55_, bS55_, kK_⟩
     ·rw [if_neg c34] at H
      exact absurd H (by simp)
    ·rw [if_neg c33] at H
     exact absurd H (by simp)
   ·rw [if_neg c32] at H
    exact absurd H (by simp)
  ·rw [if_neg c31] at H
   have c31b0 : (t210 == 1) = false := beq_eq_false_iff_ne.mpr c31
   have c31b1 : (t210 != 1) = true := bne_iff_ne.mpr c31
   by_cases c44 : t210 = 2
   ·rw [if_pos c44] at H
    have c44b0 : (t210 == 2) = true := beq_iff_eq.mpr c44
    have c44b1 : (t210 != 2) = false := bne_eq_false_iff_eq.mpr c44
    clear c44
    simp only [Option.some.injEq, Prod.mk.injEq] at H
    obtain ⟨rfl, rfl, rfl⟩ := H
    go_enter Tryd.func26, Tryd.ntmps26
    go_wp2_with (first | ((with_reducible refine gate_callee (f := 20) rfl ?_); refine gL_ (some 8) Tryd.func20 #[.pointer (some ⟨g, 0, none⟩), .int .i64 8] ?_; (with_reducible refine (spec_l02DrawPoly.calls k g s0_0 s0_1 s0_2 8 t193 t196 t197 w0 _ ?side1 ?side2 A2.out).mono ?_); (case side1 => exact iS55_); (case side2 => exact bS55_); rintro e w45 ⟨v194, rfl, ho0, hi, hb, hk⟩; refine ⟨_, rfl, ?_⟩; have HO195 := Aside0.mk (Kd.R_lower ho0 (keep_size (w := w) (g := g) (row := none) kK_)); replace HK := Aside0.mk (KeepBut.trans kK_ hk (.inl rfl)); replace HB := Aside0.mk (hb); replace HI0 := Aside0.mk (hi); (try clear hb hk hi ho0)) | ((with_reducible refine gate_callee (f := 19) rfl ?_); refine gL_ (some 10) Tryd.func19 #[.pointer (some ⟨g, 0, none⟩), .int .i64 9] ?_; (with_reducible refine (spec_l01Next.calls g s0_0 t196 t197 9 t198 t199 t200 w0 _ ?side1 ?side2 A3.out).mono ?_); (case side1 => exact iS55_); (case side2 => exact bS55_); rintro e w46 ⟨rfl, hi, hb, hk⟩; refine ⟨_, rfl, ?_⟩; replace HO195 := Aside0.mk (Kd.R_mono (Kd.R_keep (IsS55.apart (show IsS55 w0 _ g s0_0 t196 t197 from iS55_) (rS_ HO195.out) (by decide)) hk (fun _ h => h.2)) (fun _ h => h.1)); replace HK := Aside0.mk (KeepBut.trans kK_ hk (.inl rfl)); replace HB := Aside0.mk (hb); replace HI0 := Aside0.mk (hi); (try clear hb hk hi)) | ((with_reducible refine gate_callee (f := 19) rfl ?_); refine gL_ (some 13) Tryd.func19 #[.pointer (some ⟨g, 0, none⟩), .int .i64 9] ?_; (with_reducible refine (spec_l01Next.calls g s0_0 t199 t200 9 t201 t202 t203 w0 _ ?side1 ?side2 A4.out).mono ?_); (case side1 => exact iS55_); (case side2 => exact bS55_); rintro e w47 ⟨rfl, hi, hb, hk⟩; refine ⟨_, rfl, ?_⟩; replace HO195 := Aside0.mk (Kd.R_mono (Kd.R_keep (IsS55.apart (show IsS55 w0 _ g s0_0 t199 t200 from iS55_) (rS_ HO195.out) (by decide)) hk (fun _ h => h.2)) (fun _ h => h.1)); replace HK := Aside0.mk (KeepBut.trans kK_ hk (.inl rfl)); replace HB := Aside0.mk (hb); replace HI0 := Aside0.mk (hi); (try clear hb hk hi); obtain ⟨Ao48, co48, eo48⟩ := Kd.R_slice HO195.out; subst eo48) | ((with_reducible refine gate_callee (f := 43) rfl ?_); refine gL_ (some 15) Tryd.func43 #[.slice Ao48 t193.length co48, .int .i64 (wrap64 (t198 - 4)), .int .i64 (wrap64 (t201 - 4))] ?_; (with_reducible refine (spec_l02Move.calls k _ _ t193 (wrap64 (t198 - 4)) (wrap64 (t201 - 4)) t204 _ ?side1 ?side2 A5.out).mono ?_); (case side1 => exact cS_ ((Kd.R_reads' HO195.out).2.2)); (case side2 => exact (Kd.R_reads' HO195.out).2.1); rintro e w49 ⟨v205, rfl, ho0, hb⟩; refine ⟨_, rfl, ?_⟩; have HO206 := Aside0.mk (Kd.R_lower (Kd.R_new' ho0 (Kd.R_lt (rS_ HO195.out))) (keep_size (w := w) (g := g) (row := none) kK_)); replace HO195 := Aside0.mk (Kd.R_elder' (rS_ HO195.out) (Kd.R_base ho0) hb); replace HK := Aside0.mk (KeepBut.trans kK_ (KeepBut.of_below hb g none) (.inl rfl)); replace HB := Aside0.mk (below_step bS55_ hb); replace HI0 := Aside0.mk (IsS55.below iS55_ hb); (try clear hb ho0); obtain ⟨Ao50, co50, eo50⟩ := Kd.R_slice HO206.out; subst eo50) | ((with_reducible refine gate_callee (f := 19) rfl ?_); refine gL_ (some 19) Tryd.func19 #[.pointer (some ⟨g, 0, none⟩), .int .i64 (t204.length : Int)] ?_; (with_reducible refine (spec_l01Next.calls g s0_0 t202 t203 (t204.length : Int) t207 t208 t209 w0 _ ?side1 ?side2 A6.out).mono ?_); (case side1 => exact iS55_); (case side2 => exact bS55_); rintro e w51 ⟨rfl, hi, hb, hk⟩; refine ⟨_, rfl, ?_⟩; replace HO195 := Aside0.mk (Kd.R_mono (Kd.R_keep (IsS55.apart (show IsS55 w0 _ g s0_0 t202 t203 from iS55_) (rS_ HO195.out) (by decide)) hk (fun _ h => h.2)) (fun _ h => h.1)); replace HO206 := Aside0.mk (Kd.R_mono (Kd.R_keep (IsS55.apart (show IsS55 w0 _ g s0_0 t202 t203 from iS55_) (rS_ HO206.out) (by decide)) hk (fun _ h => h.2)) (fun _ h => h.1)); replace HK := Aside0.mk (KeepBut.trans kK_ hk (.inl rfl)); replace HB := Aside0.mk (hb); replace HI0 := Aside0.mk (hi); (try clear hb hk hi)) | ((with_reducible refine gate_callee (f := 19) rfl ?_); refine gL_ (some 21) Tryd.func19 #[.pointer (some ⟨g, 0, none⟩), .int .i64 24] ?_; (with_reducible refine (spec_l01Next.calls g s0_0 t208 t209 24 t210 t211 t212 w0 _ ?side1 ?side2 A7.out).mono ?_); (case side1 => exact iS55_); (case side2 => exact bS55_); rintro e w52 ⟨rfl, hi, hb, hk⟩; refine ⟨_, rfl, ?_⟩; replace HO195 := Aside0.mk (Kd.R_mono (Kd.R_keep (IsS55.apart (show IsS55 w0 _ g s0_0 t208 t209 from iS55_) (rS_ HO195.out) (by decide)) hk (fun _ h => h.2)) (fun _ h => h.1)); replace HO206 := Aside0.mk (Kd.R_mono (Kd.R_keep (IsS55.apart (show IsS55 w0 _ g s0_0 t208 t209 from iS55_) (rS_ HO206.out) (by decide)) hk (fun _ h => h.2)) (fun _ h => h.1)); replace HK := Aside0.mk (KeepBut.trans kK_ hk (.inl rfl)); replace HB := Aside0.mk (hb); replace HI0 := Aside0.mk (hi); (try clear hb hk hi)))
    go_ret
    exact ⟨_, r2_, by first | exact Kd.R_nil _ _ _ _ _ | exact Kd.N_nil _ _ _ _ _ | exact Kd.V_nil _ _ _ _ _ | exact Kd.Q_nil _ _ _ _ _ | exact Kd.S_nil _ _ _ _ _, iS55_, bS55_, kK_⟩
   ·rw [if_neg c44] at H
    have c44b0 : (t210 == 2) = false := beq_eq_false_iff_ne.mpr c44
    have c44b1 : (t210 != 2) = true := bne_iff_ne.mpr c44
    by_cases c53 : t210 = 3
    ·rw [if_pos c53] at H
     have c53b0 : (t210 == 3) = true := beq_iff_eq.mpr c53
     have c53b1 : (t210 != 3) = false := bne_eq_false_iff_eq.mpr c53
     clear c53
     obtain ⟨y228, hY_⟩ : ∃ y_ : List (S43), y_ = (([] : List (S43))) := ⟨_, rfl⟩
     replace H : (spec_l02Draw.l0 k y228 0 s0_0 t211 t212) = some (r1, r2, r3) := yY_
     have Ny228 := Aside0.mk hY_
     clear hY_
     have H' := Aside0.mk H
     clear H
     go_enter Tryd.func26, Tryd.ntmps26
     go_wp2_with (first | ((with_reducible refine gate_callee (f := 20) rfl ?_); refine gL_ (some 8) Tryd.func20 #[.pointer (some ⟨g, 0, none⟩), .int .i64 8] ?_; (with_reducible refine (spec_l02DrawPoly.calls k g s0_0 s0_1 s0_2 8 t193 t196 t197 w0 _ ?side1 ?side2 A2.out).mono ?_); (case side1 => exact iS55_); (case side2 => exact bS55_); rintro e w54 ⟨v194, rfl, ho0, hi, hb, hk⟩; refine ⟨_, rfl, ?_⟩; have HO195 := Aside0.mk (Kd.R_lower ho0 (keep_size (w := w) (g := g) (row := none) kK_)); replace HK := Aside0.mk (KeepBut.trans kK_ hk (.inl rfl)); replace HB := Aside0.mk (hb); replace HI0 := Aside0.mk (hi); (try clear hb hk hi ho0)) | ((with_reducible refine gate_callee (f := 19) rfl ?_); refine gL_ (some 10) Tryd.func19 #[.pointer (some ⟨g, 0, none⟩), .int .i64 9] ?_; (with_reducible refine (spec_l01Next.calls g s0_0 t196 t197 9 t198 t199 t200 w0 _ ?side1 ?side2 A3.out).mono ?_); (case side1 => exact iS55_); (case side2 => exact bS55_); rintro e w55 ⟨rfl, hi, hb, hk⟩; refine ⟨_, rfl, ?_⟩; replace HO195 := Aside0.mk (Kd.R_mono (Kd.R_keep (IsS55.apart (show IsS55 w0 _ g s0_0 t196 t197 from iS55_) (rS_ HO195.out) (by decide)) hk (fun _ h => h.2)) (fun _ h => h.1)); replace HK := Aside0.mk (KeepBut.trans kK_ hk (.inl rfl)); replace HB := Aside0.mk (hb); replace HI0 := Aside0.mk (hi); (try clear hb hk hi)) | ((with_reducible refine gate_callee (f := 19) rfl ?_); refine gL_ (some 13) Tryd.func19 #[.pointer (some ⟨g, 0, none⟩), .int .i64 9] ?_; (with_reducible refine (spec_l01Next.calls g s0_0 t199 t200 9 t201 t202 t203 w0 _ ?side1 ?side2 A4.out).mono ?_); (case side1 => exact iS55_); (case side2 => exact bS55_); rintro e w56 ⟨rfl, hi, hb, hk⟩; refine ⟨_, rfl, ?_⟩; replace HO195 := Aside0.mk (Kd.R_mono (Kd.R_keep (IsS55.apart (show IsS55 w0 _ g s0_0 t199 t200 from iS55_) (rS_ HO195.out) (by decide)) hk (fun _ h => h.2)) (fun _ h => h.1)); replace HK := Aside0.mk (KeepBut.trans kK_ hk (.inl rfl)); replace HB := Aside0.mk (hb); replace HI0 := Aside0.mk (hi); (try clear hb hk hi); obtain ⟨Ao57, co57, eo57⟩ := Kd.R_slice HO195.out; subst eo57) | ((with_reducible refine gate_callee (f := 43) rfl ?_); refine gL_ (some 15) Tryd.func43 #[.slice Ao57 t193.length co57, .int .i64 (wrap64 (t198 - 4)), .int .i64 (wrap64 (t201 - 4))] ?_; (with_reducible refine (spec_l02Move.calls k _ _ t193 (wrap64 (t198 - 4)) (wrap64 (t201 - 4)) t204 _ ?side1 ?side2 A5.out).mono ?_); (case side1 => exact cS_ ((Kd.R_reads' HO195.out).2.2)); (case side2 => exact (Kd.R_reads' HO195.out).2.1); rintro e w58 ⟨v205, rfl, ho0, hb⟩; refine ⟨_, rfl, ?_⟩; have HO206 := Aside0.mk (Kd.R_lower (Kd.R_new' ho0 (Kd.R_lt (rS_ HO195.out))) (keep_size (w := w) (g := g) (row := none) kK_)); replace HO195 := Aside0.mk (Kd.R_elder' (rS_ HO195.out) (Kd.R_base ho0) hb); replace HK := Aside0.mk (KeepBut.trans kK_ (KeepBut.of_below hb g none) (.inl rfl)); replace HB := Aside0.mk (below_step bS55_ hb); replace HI0 := Aside0.mk (IsS55.below iS55_ hb); (try clear hb ho0); obtain ⟨Ao59, co59, eo59⟩ := Kd.R_slice HO206.out; subst eo59) | ((with_reducible refine gate_callee (f := 19) rfl ?_); refine gL_ (some 19) Tryd.func19 #[.pointer (some ⟨g, 0, none⟩), .int .i64 (t204.length : Int)] ?_; (with_reducible refine (spec_l01Next.calls g s0_0 t202 t203 (t204.length : Int) t207 t208 t209 w0 _ ?side1 ?side2 A6.out).mono ?_); (case side1 => exact iS55_); (case side2 => exact bS55_); rintro e w60 ⟨rfl, hi, hb, hk⟩; refine ⟨_, rfl, ?_⟩; replace HO195 := Aside0.mk (Kd.R_mono (Kd.R_keep (IsS55.apart (show IsS55 w0 _ g s0_0 t202 t203 from iS55_) (rS_ HO195.out) (by decide)) hk (fun _ h => h.2)) (fun _ h => h.1)); replace HO206 := Aside0.mk (Kd.R_mono (Kd.R_keep (IsS55.apart (show IsS55 w0 _ g s0_0 t202 t203 from iS55_) (rS_ HO206.out) (by decide)) hk (fun _ h => h.2)) (fun _ h => h.1)); replace HK := Aside0.mk (KeepBut.trans kK_ hk (.inl rfl)); replace HB := Aside0.mk (hb); replace HI0 := Aside0.mk (hi); (try clear hb hk hi)) | ((with_reducible refine gate_callee (f := 19) rfl ?_); refine gL_ (some 21) Tryd.func19 #[.pointer (some ⟨g, 0, none⟩), .int .i64 24] ?_; (with_reducible refine (spec_l01Next.calls g s0_0 t208 t209 24 t210 t211 t212 w0 _ ?side1 ?side2 A7.out).mono ?_); (case side1 => exact iS55_); (case side2 => exact bS55_); rintro e w61 ⟨rfl, hi, hb, hk⟩; refine ⟨_, rfl, ?_⟩; replace HO195 := Aside0.mk (Kd.R_mono (Kd.R_keep (IsS55.apart (show IsS55 w0 _ g s0_0 t208 t209 from iS55_) (rS_ HO195.out) (by decide)) hk (fun _ h => h.2)) (fun _ h => h.1)); replace HO206 := Aside0.mk (Kd.R_mono (Kd.R_keep (IsS55.apart (show IsS55 w0 _ g s0_0 t208 t209 from iS55_) (rS_ HO206.out) (by decide)) hk (fun _ h => h.2)) (fun _ h => h.1)); replace HK := Aside0.mk (KeepBut.trans kK_ hk (.inl rfl)); replace HB := Aside0.mk (hb); replace HI0 := Aside0.mk (hi); (try clear hb hk hi)) | ((with_reducible refine gate_dst (N := 48) rfl ?_); refine Kd.R_lit k43 _ 43 ?hg (N := 48) ?hd (xs := ([] : List (S43))) (inner := []) (ok := fun _ => True) (okp := fun _ => True) ?hr ?hp (fun _ hk => hk) trivial (Below.refl _ _) (Nat.le_refl _) (by simp) ?_; (case hd => rfl); (case hg => rfl); (case hr => first | (go_simp; done) | (go_simp; rfl)); (case hp => exact (Reps.none _ _)); intro v229 w62 ho63 hb hg_ hnew_; clear hg_ hnew_; (first | rw [← Ny228.out] at ho63 | (simp only [Int.reduceToNat] at ho63; rw [← Ny228.out] at ho63)); have HO230 := Aside0.mk (Kd.R_lower (Kd.R_new' (Kd.R_new' ho63 (Kd.R_lt (rS_ HO195.out))) (Kd.R_lt (rS_ HO206.out))) (keep_size (w := w) (g := g) (row := none) kK_)); replace HO195 := Aside0.mk (Kd.R_elder' (rS_ HO195.out) (Kd.R_base ho63) hb); replace HO206 := Aside0.mk (Kd.R_elder' (rS_ HO206.out) (Kd.R_base ho63) hb); replace HK := Aside0.mk (KeepBut.trans kK_ (KeepBut.of_below hb g none) (.inl rfl)); replace HB := Aside0.mk (below_step bS55_ hb); replace HI0 := Aside0.mk (IsS55.below iS55_ hb); clear hb ho63))
     go_loopg [5, 6] k (fun kq v5 v6 w' => ∃ (x5_1 : List (S43)) (x6_1 : Int) (x1001_1 : Int) (x1002_1 : Int), v6 = .int .i64 x6_1 ∧ Aside0 (spec_l02Draw.l0 kq x5_1 x6_1 s0_0 x1001_1 x1002_1 = some (r1, r2, r3)) ∧ Aside0 (kq ≤ k) ∧ Aside0 (Kd.R k43 43 w' w.heap.size (fun _ => True) v5 x5_1) ∧ Aside0 (IsS55 w0 w' g s0_0 x1001_1 x1002_1) ∧ Aside0 (KeepBut w w' g none) ∧ Aside0 (Below w0.heap.size w0 w'))
     case atStart => exact ⟨(y228), (0), (t211), (t212), r3_, H', ⟨Nat.le_refl _⟩, ⟨rS_ (Kd.R_mono HO230.out (fun _ hk => trivial))⟩, ⟨iS55_⟩, ⟨kK_⟩, ⟨bS55_⟩⟩
     case round =>
      clear H'
      try clear c1
      try clear p1
      try clear q1
      try clear hx1
      try clear hf1
      try clear c2
      try clear p2
      try clear q2
      try clear hx2
      try clear hf2
      try clear c3
      try clear c4
      try clear c5
      try clear p6
      try clear c8
      try clear c8b0
      try clear c8b1
      try clear c10
      try clear c10b0
      try clear c11
      try clear c11b0
      try clear c12
      try clear c12b0
      try clear c13
      try clear c13b0
      try clear c14
      try clear p14
      try clear q14
      try clear hx14
      try clear hf14
      try clear c19
      try clear c20
      try clear p21
      try clear q21
      try clear hx21
      try clear p22
      try clear q22
      try clear hx22
      try clear c26
      try clear c28
      try clear hx28
      try clear hf28
      try clear c31
      try clear c31b0
      try clear c31b1
      try clear c32
      try clear c32b0
      try clear c33
      try clear c33b0
      try clear c34
      try clear c43
      try clear c44
      try clear c44b0
      try clear c44b1
      try clear c53
      try clear c53b0
      try clear c53b1
      try clear hx14_0
      try clear hx14_1
      try clear hx219_0
      try clear hx224_0
      try clear hx224_1
      try clear hx28_0
      try clear p14
      try clear p219
      try clear p224
      try clear q14
      try clear q219
      try clear q224
      obtain ⟨x5_1, x6_1, x1001_1, x1002_1, rfl, HA, HK1, HO_5, HI0, HK, HB⟩ := hrel
      cases gk with
      | zero => exact absurd HA.out (by simp [spec_l02Draw.l0])
      | succ k1 =>
       have H := HA.out
       clear HA
       simp only [spec_l02Draw.l0] at H
       replace H := Option.bind_eq_some_iff.mp H
       obtain ⟨⟨t231, t232, t233⟩, A640, H⟩ := H
       try dsimp only at H
       have A64 := Aside0.mk A640
       clear A640
       by_cases c65 : x6_1 < (wrap64 (40 + t231))
       ·rw [if_pos c65] at H
        have c65b0 : decide (x6_1 < (wrap64 (40 + t231))) = true := decide_eq_true c65
        clear c65
        by_cases c66 : x5_1.length < 8796093022208
        ·rw [if_pos c66] at H
         have LMc66 := Aside0.mk c66
         clear c66
         obtain ⟨y234, hY_⟩ : ∃ y_ : List (S43), y_ = (x5_1 ++ [(⟨x6_1, 0⟩ : S43)]) := ⟨_, rfl⟩
         replace H : (spec_l02Draw.l0 k1 y234 (wrap64 (x6_1 + 1)) s0_0 t232 t233) = some (r1, r2, r3) := yY_
         have Ny234 := Aside0.mk hY_
         clear hY_
         have H' := Aside0.mk H
         clear H
         go_wp2_with (first | ((with_reducible refine gate_callee (f := 19) rfl ?_); refine gL_ (some 51) Tryd.func19 #[.pointer (some ⟨g, 0, none⟩), .int .i64 2] ?_; (with_reducible refine (spec_l01Next.calls g s0_0 x1001_1 x1002_1 2 t231 t232 t233 w0 _ ?side1 ?side2 A64.out).mono ?_); (case side1 => exact iS55_); (case side2 => exact bS55_); rintro e w67 ⟨rfl, hi, hb, hk⟩; refine ⟨_, rfl, ?_⟩; replace HO_5 := Aside0.mk (Kd.R_mono (Kd.R_keep (IsS55.apart (show IsS55 w0 _ g s0_0 x1001_1 x1002_1 from iS55_) (rS_ HO_5.out) (by decide)) hk (fun _ h => h.2)) (fun _ h => h.1)); replace HK := Aside0.mk (KeepBut.trans kK_ hk (.inl rfl)); replace HB := Aside0.mk (hb); replace HI0 := Aside0.mk (hi); (try clear hb hk hi)) | ((with_reducible refine gate_builtin (b := .append) (xs := #[.tmp 56, .tmp 59]) rfl ?_); at_builtin; refine Kd.R_append k43 w.heap.size rfl (.tmp 56) (.tmp 59) 24 43 (.agg #[(.int .i64 0), (.int .i64 0)]) 16 rfl Tryd.underlying24 info43 rfl (by decide) (by omega) u5 x5_1 (⟨x6_1, 0⟩ : S43) [.int .i64 x6_1, .int .i64 0] (fun _ => True) (fun _ => False) rfl rfl ?aP (fun _ hk => hk.elim) ?aF ?aO (Below.refl _ _) ?aS ?aL ?_; (case aP => exact k43_mkM _ _ _ (⟨x6_1, 0⟩ : S43)); (case aF => exact (fun _ _ => trivial)); (case aO => exact (rS_ HO_5.out)); (case aS => exact (keep_size (w := w) (g := g) (row := none) kK_)); (case aL => have := LMc66.out; omega); intro v235 w68 ho hb hg hat; rw [← Ny234.out] at ho; replace HB := Aside0.mk (below_weaken bS55_ HL.out hb); replace HI0 := Aside0.mk (IsS55.grown iS55_ hg (IsS55.own_ne HI0.out HO_5.out (by decide))); replace HK := Aside0.mk (KeepBut.trans kK_ (KeepBut.of_grown hg g) (Kd.R_base2 HO_5.out)); have HO236 := Aside0.mk (ho); clear HO_5; clear ho hb hg hat))
         go_roundg k1
         case measure => have := HK1.out; omega
         case rel => exact ⟨(y234), (wrap64 (x6_1 + 1)), (t232), (t233), r3_, H', ⟨by have := HK1.out; omega⟩, ⟨rS_ HO236.out⟩, ⟨iS55_⟩, ⟨kK_⟩, ⟨bS55_⟩⟩
        ·rw [if_neg c66] at H
         exact absurd H (by simp)
       ·rw [if_neg c65] at H
        have c65b0 : decide (x6_1 < (wrap64 (40 + t231))) = false := decide_eq_false c65
        clear c65
        simp only [Option.some.injEq, Prod.mk.injEq] at H
        obtain ⟨rfl, rfl, rfl⟩ := H
        go_wp2_with (first | ((with_reducible refine gate_callee (f := 19) rfl ?_); refine gL_ (some 51) Tryd.func19 #[.pointer (some ⟨g, 0, none⟩), .int .i64 2] ?_; (with_reducible refine (spec_l01Next.calls g s0_0 x1001_1 x1002_1 2 t231 t232 t233 w0 _ ?side1 ?side2 A64.out).mono ?_); (case side1 => exact iS55_); (case side2 => exact bS55_); rintro e w69 ⟨rfl, hi, hb, hk⟩; refine ⟨_, rfl, ?_⟩; replace HO_5 := Aside0.mk (Kd.R_mono (Kd.R_keep (IsS55.apart (show IsS55 w0 _ g s0_0 x1001_1 x1002_1 from iS55_) (rS_ HO_5.out) (by decide)) hk (fun _ h => h.2)) (fun _ h => h.1)); replace HK := Aside0.mk (KeepBut.trans kK_ hk (.inl rfl)); replace HB := Aside0.mk (hb); replace HI0 := Aside0.mk (hi); (try clear hb hk hi)))
        go_ret
        exact ⟨_, r2_, rS_ HO_5.out, iS55_, bS55_, kK_⟩
    ·rw [if_neg c53] at H
     have c53b0 : (t210 == 3) = false := beq_eq_false_iff_ne.mpr c53
     have c53b1 : (t210 != 3) = true := bne_iff_ne.mpr c53
     by_cases c70 : t210 = 4
     ·rw [if_pos c70] at H
      have c70b0 : (t210 == 4) = true := beq_iff_eq.mpr c70
      have c70b1 : (t210 != 4) = false := bne_eq_false_iff_eq.mpr c70
      clear c70
      by_cases c71 : 0 < (t204.length : Int)
      ·rw [if_pos c71] at H
       have c71b0 : decide (0 < (t204.length : Int)) = true := decide_eq_true c71
       have c71b1 : decide (0 < t204.length) = true := decide_eq_true (by omega)
       clear c71
       obtain ⟨ji72, hji72⟩ : ∃ j_ : Int, (wrap64 ((t204.length : Int) - 1)) = j_ := ⟨_, rfl⟩
       replace H : (if 0 ≤ (ji72) then (if (ji72) < (t204.length : Int) then (if t204.length < 8796093022208 then (some ((t204 ++ [(⟨wrap64 (((rd_T43 t204 0).f0) + 3), wrap64 (((rd_T43 t204 (ji72)).f1) + 2)⟩ : S43)]), t211, t212)) else (none)) else (none)) else (none)) = some (r1, r2, r3) := by first | (rw [hji72] at H; exact H) | (simp only [hji72] at H ⊢; exact H)
       (try rw [hji72] at A2)
       (try rw [hji72] at A3)
       (try rw [hji72] at A4)
       (try rw [hji72] at A5)
       (try rw [hji72] at A6)
       (try rw [hji72] at A7)
       have hji72w : (IntKind.i64.wrap ((t204.length : Int) - 1)) = ji72 := (i64_w _).trans hji72
       by_cases c73 : 0 ≤ (ji72)
       ·rw [if_pos c73] at H
        have c73b0 : decide (0 ≤ (ji72)) = true := decide_eq_true c73
        clear c73
        by_cases c74 : (ji72) < (t204.length : Int)
        ·rw [if_pos c74] at H
         have c74b0 : decide ((ji72) < (t204.length : Int)) = true := decide_eq_true c74
         clear c74
         by_cases c75 : t204.length < 8796093022208
         ·rw [if_pos c75] at H
          have LMc75 := Aside0.mk c75
          clear c75
          obtain ⟨y239, hY_⟩ : ∃ y_ : List (S43), y_ = (t204 ++ [(⟨wrap64 (((rd_T43 t204 0).f0) + 3), wrap64 (((rd_T43 t204 (ji72)).f1) + 2)⟩ : S43)]) := ⟨_, rfl⟩
          replace H : (some (y239, t211, t212)) = some (r1, r2, r3) := yY_
          have Ny239 := Aside0.mk hY_
          clear hY_
          simp only [Option.some.injEq, Prod.mk.injEq] at H
          obtain ⟨rfl, rfl, rfl⟩ := H
          go_enter Tryd.func26, Tryd.ntmps26
          try go_wp2_with (first | ((with_reducible refine gate_callee (f := 20) rfl ?_); refine gL_ (some 8) Tryd.func20 #[.pointer (some ⟨g, 0, none⟩), .int .i64 8] ?_; (with_reducible refine (spec_l02DrawPoly.calls k g s0_0 s0_1 s0_2 8 t193 t196 t197 w0 _ ?side1 ?side2 A2.out).mono ?_); (case side1 => exact iS55_); (case side2 => exact bS55_); rintro e w76 ⟨v194, rfl, ho0, hi, hb, hk⟩; refine ⟨_, rfl, ?_⟩; have HO195 := Aside0.mk (Kd.R_lower ho0 (keep_size (w := w) (g := g) (row := none) kK_)); replace HK := Aside0.mk (KeepBut.trans kK_ hk (.inl rfl)); replace HB := Aside0.mk (hb); replace HI0 := Aside0.mk (hi); (try clear hb hk hi ho0)) | ((with_reducible refine gate_callee (f := 19) rfl ?_); refine gL_ (some 10) Tryd.func19 #[.pointer (some ⟨g, 0, none⟩), .int .i64 9] ?_; (with_reducible refine (spec_l01Next.calls g s0_0 t196 t197 9 t198 t199 t200 w0 _ ?side1 ?side2 A3.out).mono ?_); (case side1 => exact iS55_); (case side2 => exact bS55_); rintro e w77 ⟨rfl, hi, hb, hk⟩; refine ⟨_, rfl, ?_⟩; replace HO195 := Aside0.mk (Kd.R_mono (Kd.R_keep (IsS55.apart (show IsS55 w0 _ g s0_0 t196 t197 from iS55_) (rS_ HO195.out) (by decide)) hk (fun _ h => h.2)) (fun _ h => h.1)); replace HK := Aside0.mk (KeepBut.trans kK_ hk (.inl rfl)); replace HB := Aside0.mk (hb); replace HI0 := Aside0.mk (hi); (try clear hb hk hi)) | ((with_reducible refine gate_callee (f := 19) rfl ?_); refine gL_ (some 13) Tryd.func19 #[.pointer (some ⟨g, 0, none⟩), .int .i64 9] ?_; (with_reducible refine (spec_l01Next.calls g s0_0 t199 t200 9 t201 t202 t203 w0 _ ?side1 ?side2 A4.out).mono ?_); (case side1 => exact iS55_); (case side2 => exact bS55_); rintro e w78 ⟨rfl, hi, hb, hk⟩; refine ⟨_, rfl, ?_⟩; replace HO195 := Aside0.mk (Kd.R_mono (Kd.R_keep (IsS55.apart (show IsS55 w0 _ g s0_0 t199 t200 from iS55_) (rS_ HO195.out) (by decide)) hk (fun _ h => h.2)) (fun _ h => h.1)); replace HK := Aside0.mk (KeepBut.trans kK_ hk (.inl rfl)); replace HB := Aside0.mk (hb); replace HI0 := Aside0.mk (hi); (try clear hb hk hi); obtain ⟨Ao79, co79, eo79⟩ := Kd.R_slice HO195.out; subst eo79) | ((with_reducible refine gate_callee (f := 43) rfl ?_); refine gL_ (some 15) Tryd.func43 #[.slice Ao79 t193.length co79, .int .i64 (wrap64 (t198 - 4)), .int .i64 (wrap64 (t201 - 4))] ?_; (with_reducible refine (spec_l02Move.calls k _ _ t193 (wrap64 (t198 - 4)) (wrap64 (t201 - 4)) t204 _ ?side1 ?side2 A5.out).mono ?_); (case side1 => exact cS_ ((Kd.R_reads' HO195.out).2.2)); (case side2 => exact (Kd.R_reads' HO195.out).2.1); rintro e w80 ⟨v205, rfl, ho0, hb⟩; refine ⟨_, rfl, ?_⟩; have HO206 := Aside0.mk (Kd.R_lower (Kd.R_new' ho0 (Kd.R_lt (rS_ HO195.out))) (keep_size (w := w) (g := g) (row := none) kK_)); replace HO195 := Aside0.mk (Kd.R_elder' (rS_ HO195.out) (Kd.R_base ho0) hb); replace HK := Aside0.mk (KeepBut.trans kK_ (KeepBut.of_below hb g none) (.inl rfl)); replace HB := Aside0.mk (below_step bS55_ hb); replace HI0 := Aside0.mk (IsS55.below iS55_ hb); (try clear hb ho0); obtain ⟨Ao81, co81, eo81⟩ := Kd.R_slice HO206.out; subst eo81) | ((with_reducible refine gate_callee (f := 19) rfl ?_); refine gL_ (some 19) Tryd.func19 #[.pointer (some ⟨g, 0, none⟩), .int .i64 (t204.length : Int)] ?_; (with_reducible refine (spec_l01Next.calls g s0_0 t202 t203 (t204.length : Int) t207 t208 t209 w0 _ ?side1 ?side2 A6.out).mono ?_); (case side1 => exact iS55_); (case side2 => exact bS55_); rintro e w82 ⟨rfl, hi, hb, hk⟩; refine ⟨_, rfl, ?_⟩; replace HO195 := Aside0.mk (Kd.R_mono (Kd.R_keep (IsS55.apart (show IsS55 w0 _ g s0_0 t202 t203 from iS55_) (rS_ HO195.out) (by decide)) hk (fun _ h => h.2)) (fun _ h => h.1)); replace HO206 := Aside0.mk (Kd.R_mono (Kd.R_keep (IsS55.apart (show IsS55 w0 _ g s0_0 t202 t203 from iS55_) (rS_ HO206.out) (by decide)) hk (fun _ h => h.2)) (fun _ h => h.1)); replace HK := Aside0.mk (KeepBut.trans kK_ hk (.inl rfl)); replace HB := Aside0.mk (hb); replace HI0 := Aside0.mk (hi); (try clear hb hk hi)) | ((with_reducible refine gate_callee (f := 19) rfl ?_); refine gL_ (some 21) Tryd.func19 #[.pointer (some ⟨g, 0, none⟩), .int .i64 24] ?_; (with_reducible refine (spec_l01Next.calls g s0_0 t208 t209 24 t210 t211 t212 w0 _ ?side1 ?side2 A7.out).mono ?_); (case side1 => exact iS55_); (case side2 => exact bS55_); rintro e w83 ⟨rfl, hi, hb, hk⟩; refine ⟨_, rfl, ?_⟩; replace HO195 := Aside0.mk (Kd.R_mono (Kd.R_keep (IsS55.apart (show IsS55 w0 _ g s0_0 t208 t209 from iS55_) (rS_ HO195.out) (by decide)) hk (fun _ h => h.2)) (fun _ h => h.1)); replace HO206 := Aside0.mk (Kd.R_mono (Kd.R_keep (IsS55.apart (show IsS55 w0 _ g s0_0 t208 t209 from iS55_) (rS_ HO206.out) (by decide)) hk (fun _ h => h.2)) (fun _ h => h.1)); replace HK := Aside0.mk (KeepBut.trans kK_ hk (.inl rfl)); replace HB := Aside0.mk (hb); replace HI0 := Aside0.mk (hi); (try clear hb hk hi)))
          replace HO195 := Aside0.mk (Kd.R_drew HO195.out)
          replace HO206 := Aside0.mk (Kd.R_drew HO206.out)
          replace HI0 := Aside0.mk (IsS55.drew HI0.out)
          replace HK := Aside0.mk (keep_drew HK.out)
          replace HB := Aside0.mk (below_drew1 HB.out)
          have p237 : 0 ≤ (0 : Int) := (by omega)
          have q237 : 0 < (t204.length : Int) := of_decide_eq_true aS_
          obtain ⟨ad237, e237, hx237_0, hx237_1⟩ := at_T43 (Kd.R_reads' HO206.out).2.2 0 p237 q237
          cases e237
          have qi237 : (0 < t204.length) = True := eq_true (by omega)
          (try rw [show ((0 : Int)).toNat = 0 from rfl] at hx237_0)
          (try rw [show 0 * 2 = 0 from rfl] at hx237_0)
          (try rw [Addr.add_zero'] at hx237_0)
          (try rw [show ((0 : Int)).toNat = 0 from rfl] at hx237_1)
          (try rw [show 0 * 2 = 0 from rfl] at hx237_1)
          (try rw [Addr.add_zero'] at hx237_1)
          replace p237 := eq_true p237
          replace q237 := eq_true q237
          have p238 : 0 ≤ ((ji72) : Int) := of_decide_eq_true aS_
          have q238 : (ji72) < (t204.length : Int) := of_decide_eq_true aS_
          obtain ⟨ad238, e238, hx238_0, hx238_1⟩ := at_T43 (Kd.R_reads' HO206.out).2.2 (ji72) p238 q238
          obtain rfl : ad237 = ad238 := (by injection e238)
          replace p238 := eq_true p238
          replace q238 := eq_true q238
          refine start_ (n := 18) (S := fun w' => w'.cell? ad237 = some (.int .i64 ((rd_T43 t204 0).f0)) ∧ w'.cell? ⟨ad237.block, ad237.off + 1, none⟩ = some (.int .i64 ((rd_T43 t204 0).f1)) ∧ w'.cell? (ad237.add (((ji72)).toNat * 2)) = some (.int .i64 ((rd_T43 t204 (ji72)).f0)) ∧ w'.cell? ⟨(ad237.add (((ji72)).toNat * 2)).block, (ad237.add (((ji72)).toNat * 2)).off + 1, none⟩ = some (.int .i64 ((rd_T43 t204 (ji72)).f1))) (ds := [15, 16]) #[F, F, F, F, F, F, F, F, F, F, F, F, F, F, F, F, F, F] (by kernel_rfl) rfl rfl ⟨hx237_0, hx237_1, hx238_0, hx238_1⟩ (fun hHeld => ?_); refine with_tabW spec_l02Draw.tab20 spec_l02Draw.bits20 (fun HT_ HW_ => ?_)
          generalize w83.drew = w84 at HO195 HO206 HI0 HK HB hx237_0 hx237_1 hx238_0 hx238_1 hHeld ⊢
          refine pu_ HT_ 0 (some 65) #[T,F,F,F,F,F,F,F,F,F,F,F,F,F,F,F,F,F] ?_
          refine pu_ HT_ 1 (some 66) #[T,T,F,F,F,F,F,F,F,F,F,F,F,F,F,F,F,F] ?_
          refine pu_ HT_ 2 (some 67) #[T,T,T,F,F,F,F,F,F,F,F,F,F,F,F,F,F,F] ?_
          refine pu_ HT_ 3 (some 68) #[T,T,T,T,F,F,F,F,F,F,F,F,F,F,F,F,F,F] ?_
          refine pu_ HT_ 6 (some 71) #[T,T,T,T,F,F,T,F,F,F,F,F,F,F,F,F,F,F] ?_
          refine pu_ HT_ 7 (some 72) #[T,T,T,T,F,F,T,T,F,F,F,F,F,F,F,F,F,F] ?_
          refine pu_ HT_ 8 (some 73) #[T,T,T,T,F,F,T,T,T,F,F,F,F,F,F,F,F,F] ?_
          refine pu_ HT_ 9 (some 74) #[T,T,T,T,F,F,T,T,T,T,F,F,F,F,F,F,F,F] ?_
          refine pu_ HT_ 10 (some 75) #[T,T,T,T,F,F,T,T,T,T,T,F,F,F,F,F,F,F] ?_
          refine pu_ HT_ 11 (some 76) #[T,T,T,T,F,F,T,T,T,T,T,T,F,F,F,F,F,F] ?_
          refine take_ (i := 4) (N := some 69) (v := ?_) (a' := ?_) #[T, T, T, T, T, F, T, T, T, T, T, T, F, F, F, F, F, F] rfl rfl (take_ofW HT_.out HW_.out (by kernel_rfl)) (fun _ _ _ h => h) (Or.inl ⟨by rfl, ?_⟩) hHeld ?_ ?_
          rotate_left
          ·rintro w' ⟨s0, s1, s2, s3⟩
           go_simp
           with_reducible rfl
          rotate_left
          ·simp only [Act.put, List.setIfInBounds_toArray, List.set_cons_zero, List.set_cons_succ, i64_w, i32_w]
           rfl
          refine pu_ HT_ 5 (some 70) #[T,T,T,T,T,T,T,T,T,T,T,T,F,F,F,F,F,F] ?_
          refine take_ (i := 12) (N := some 77) (v := ?_) (a' := ?_) #[T, T, T, T, T, T, T, T, T, T, T, T, T, F, F, F, F, F] rfl rfl (take_ofW HT_.out HW_.out (by kernel_rfl)) (fun _ _ _ h => h) (Or.inl ⟨by rfl, ?_⟩) hHeld ?_ ?_
          rotate_left
          ·rintro w' ⟨s0, s1, s2, s3⟩
           go_simp
           with_reducible rfl
          rotate_left
          ·simp only [Act.put, List.setIfInBounds_toArray, List.set_cons_zero, List.set_cons_succ, i64_w, i32_w]
           rfl
          refine pu_ HT_ 13 (some 78) #[T,T,T,T,T,T,T,T,T,T,T,T,T,T,F,F,F,F] ?_
          refine pu_ HT_ 14 (some 79) #[T,T,T,T,T,T,T,T,T,T,T,T,T,T,T,F,F,F] ?_
          refine last_ (i := 15) (N := some 80) #[T, T, T, T, T, T, T, T, T, T, T, T, T, T, T, T, F, F] rfl rfl (one_of HT_.out (by kernel_rfl)) (by decide) (fun K hK => ?_)
          refine value_ (w1 := ?_) (v := ?_) (by rfl) rfl ?_ ?_
          rotate_left 2
          ·go_simp
           constructor
           ·rfl
           ·rfl
          refine hK.out _ _ ?_
          clear hK K
          refine no_ (some 80) ?_
          refine last_ (i := 16) (N := some 81) #[T, T, T, T, T, T, T, T, T, T, T, T, T, T, T, T, T, F] rfl rfl (one_of HT_.out (by kernel_rfl)) (by decide) (fun K hK => ?_)
          refine Kd.R_append_step k43 w.heap.size (by rfl) (.tmp 65) (.tmp 80) 24 43 (.agg #[(.int .i64 0), (.int .i64 0)]) 16 rfl Tryd.underlying24 info43 rfl (by decide) (by omega) (.slice (some ad237) t204.length co81) t204 (⟨wrap64 (((rd_T43 t204 0).f0) + 3), wrap64 (((rd_T43 t204 (ji72)).f1) + 2)⟩ : S43) [.int .i64 (wrap64 (((rd_T43 t204 0).f0) + 3)), .int .i64 (wrap64 (((rd_T43 t204 (ji72)).f1) + 2))] (fun k_ => some k_ ≠ (.slice Ao79 t193.length co79 : Value).ownBlock) (fun _ => False) rfl rfl ?aP (fun _ hk => hk.elim) ?aF ?aO (Below.refl _ _) ?aS ?aL ?_
          (case aP => exact k43_mkM _ _ _ (⟨wrap64 (((rd_T43 t204 0).f0) + 3), wrap64 (((rd_T43 t204 (ji72)).f1) + 2)⟩ : S43))
          (case aF => exact (fun k_ hk => Kd.fresh' (Kd.R_lt (rS_ HO195.out)) k_ hk))
          (case aO => exact (rS_ (Kd.R_mono HO206.out (fun _ hk => hk.2))))
          (case aS => exact (keep_size (w := w) (g := g) (row := none) kK_))
          (case aL => have := LMc75.out; omega)
          intro v240 w85 ho hb hg hat
          rw [← Ny239.out] at ho
          replace HO195 := Aside0.mk (Kd.R_after (ok := (fun _ => True)) (rS_ HO195.out) hg hat)
          replace HB := Aside0.mk (below_weaken bS55_ HL.out hb)
          replace HI0 := Aside0.mk (IsS55.grown iS55_ hg (IsS55.own_ne HI0.out HO206.out (by decide)))
          replace HK := Aside0.mk (KeepBut.trans kK_ (KeepBut.of_grown hg g) (Kd.R_base2 HO206.out))
          have HO241 := Aside0.mk (ho)
          clear HO206
          clear ho hb hg hat
          refine hK.out _ _ ?_
          clear hK K
          refine no_ (some 81) ?_
          refine pu_ HT_ 17 (some 2) #[T,T,T,T,T,T,T,T,T,T,T,T,T,T,T,T,T,T] ?_
          refine done_ (done_of HT_.out (by kernel_rfl)) ?_
          try go_wp2
          go_ret
          exact ⟨_, by first | rfl | (simp [errW_none, errW_some] <;> rfl) | (simp only [← hji72]; first | rfl | (simp [errW_none, errW_some] <;> rfl)) | (simp [*, errW_none, errW_some] <;> rfl), rS_ (Kd.R_mono HO241.out (fun _ hk => trivial)), iS55_, bS55_, kK_⟩
         ·rw [if_neg c75] at H
          exact absurd H (by simp)
        ·rw [if_neg c74] at H
         exact absurd H (by simp)
       ·rw [if_neg c73] at H
        exact absurd H (by simp)
      ·rw [if_neg c71] at H
       exact absurd H (by simp)
     ·rw [if_neg c70] at H
      have c70b0 : (t210 == 4) = false := beq_eq_false_iff_ne.mpr c70
      have c70b1 : (t210 != 4) = true := bne_iff_ne.mpr c70
      by_cases c86 : t210 = 5
      ·rw [if_pos c86] at H
       have c86b0 : (t210 == 5) = true := beq_iff_eq.mpr c86
       have c86b1 : (t210 != 5) = false := bne_eq_false_iff_eq.mpr c86
       clear c86
       by_cases c87 : 0 < (t204.length : Int)
       ·rw [if_pos c87] at H
        have c87b0 : decide (0 < (t204.length : Int)) = true := decide_eq_true c87
        have c87b1 : decide (0 < t204.length) = true := decide_eq_true (by omega)
        clear c87
        obtain ⟨ji88, hji88⟩ : ∃ j_ : Int, (wrap64 ((t204.length : Int) - 1)) = j_ := ⟨_, rfl⟩
        replace H : (if 0 ≤ (ji88) then (if (ji88) < (t204.length : Int) then (if t204.length < 8796093022208 then (some ((t204 ++ [(⟨wrap64 (((rd_T43 t204 0).f0) + 3), wrap64 (((rd_T43 t204 (ji88)).f1) + 2)⟩ : S43)]), t211, t212)) else (none)) else (none)) else (none)) = some (r1, r2, r3) := by first | (rw [hji88] at H; exact H) | (simp only [hji88] at H ⊢; exact H)
        (try rw [hji88] at A2)
        (try rw [hji88] at A3)
        (try rw [hji88] at A4)
        (try rw [hji88] at A5)
        (try rw [hji88] at A6)
        (try rw [hji88] at A7)
        have hji88w : (IntKind.i64.wrap ((t204.length : Int) - 1)) = ji88 := (i64_w _).trans hji88
        by_cases c89 : 0 ≤ (ji88)
        ·rw [if_pos c89] at H
         have c89b0 : decide (0 ≤ (ji88)) = true := decide_eq_true c89
         clear c89
         by_cases c90 : (ji88) < (t204.length : Int)
         ·rw [if_pos c90] at H
          have c90b0 : decide ((ji88) < (t204.length : Int)) = true := decide_eq_true c90
          clear c90
          by_cases c91 : t204.length < 8796093022208
          ·rw [if_pos c91] at H
           have LMc91 := Aside0.mk c91
           clear c91
           obtain ⟨y244, hY_⟩ : ∃ y_ : List (S43), y_ = (t204 ++ [(⟨wrap64 (((rd_T43 t204 0).f0) + 3), wrap64 (((rd_T43 t204 (ji88)).f1) + 2)⟩ : S43)]) := ⟨_, rfl⟩
           replace H : (some (y244, t211, t212)) = some (r1, r2, r3) := yY_
           have Ny244 := Aside0.mk hY_
           clear hY_
           simp only [Option.some.injEq, Prod.mk.injEq] at H
           obtain ⟨rfl, rfl, rfl⟩ := H
           go_enter Tryd.func26, Tryd.ntmps26
           try go_wp2_with (first | ((with_reducible refine gate_callee (f := 20) rfl ?_); refine gL_ (some 8) Tryd.func20 #[.pointer (some ⟨g, 0, none⟩), .int .i64 8] ?_; (with_reducible refine (spec_l02DrawPoly.calls k g s0_0 s0_1 s0_2 8 t193 t196 t197 w0 _ ?side1 ?side2 A2.out).mono ?_); (case side1 => exact iS55_); (case side2 => exact bS55_); rintro e w92 ⟨v194, rfl, ho0, hi, hb, hk⟩; refine ⟨_, rfl, ?_⟩; have HO195 := Aside0.mk (Kd.R_lower ho0 (keep_size (w := w) (g := g) (row := none) kK_)); replace HK := Aside0.mk (KeepBut.trans kK_ hk (.inl rfl)); replace HB := Aside0.mk (hb); replace HI0 := Aside0.mk (hi); (try clear hb hk hi ho0)) | ((with_reducible refine gate_callee (f := 19) rfl ?_); refine gL_ (some 10) Tryd.func19 #[.pointer (some ⟨g, 0, none⟩), .int .i64 9] ?_; (with_reducible refine (spec_l01Next.calls g s0_0 t196 t197 9 t198 t199 t200 w0 _ ?side1 ?side2 A3.out).mono ?_); (case side1 => exact iS55_); (case side2 => exact bS55_); rintro e w93 ⟨rfl, hi, hb, hk⟩; refine ⟨_, rfl, ?_⟩; replace HO195 := Aside0.mk (Kd.R_mono (Kd.R_keep (IsS55.apart (show IsS55 w0 _ g s0_0 t196 t197 from iS55_) (rS_ HO195.out) (by decide)) hk (fun _ h => h.2)) (fun _ h => h.1)); replace HK := Aside0.mk (KeepBut.trans kK_ hk (.inl rfl)); replace HB := Aside0.mk (hb); replace HI0 := Aside0.mk (hi); (try clear hb hk hi)) | ((with_reducible refine gate_callee (f := 19) rfl ?_); refine gL_ (some 13) Tryd.func19 #[.pointer (some ⟨g, 0, none⟩), .int .i64 9] ?_; (with_reducible refine (spec_l01Next.calls g s0_0 t199 t200 9 t201 t202 t203 w0 _ ?side1 ?side2 A4.out).mono ?_); (case side1 => exact iS55_); (case side2 => exact bS55_); rintro e w94 ⟨rfl, hi, hb, hk⟩; refine ⟨_, rfl, ?_⟩; replace HO195 := Aside0.mk (Kd.R_mono (Kd.R_keep (IsS55.apart (show IsS55 w0 _ g s0_0 t199 t200 from iS55_) (rS_ HO195.out) (by decide)) hk (fun _ h => h.2)) (fun _ h => h.1)); replace HK := Aside0.mk (KeepBut.trans kK_ hk (.inl rfl)); replace HB := Aside0.mk (hb); replace HI0 := Aside0.mk (hi); (try clear hb hk hi); obtain ⟨Ao95, co95, eo95⟩ := Kd.R_slice HO195.out; subst eo95) | ((with_reducible refine gate_callee (f := 43) rfl ?_); refine gL_ (some 15) Tryd.func43 #[.slice Ao95 t193.length co95, .int .i64 (wrap64 (t198 - 4)), .int .i64 (wrap64 (t201 - 4))] ?_; (with_reducible refine (spec_l02Move.calls k _ _ t193 (wrap64 (t198 - 4)) (wrap64 (t201 - 4)) t204 _ ?side1 ?side2 A5.out).mono ?_); (case side1 => exact cS_ ((Kd.R_reads' HO195.out).2.2)); (case side2 => exact (Kd.R_reads' HO195.out).2.1); rintro e w96 ⟨v205, rfl, ho0, hb⟩; refine ⟨_, rfl, ?_⟩; have HO206 := Aside0.mk (Kd.R_lower (Kd.R_new' ho0 (Kd.R_lt (rS_ HO195.out))) (keep_size (w := w) (g := g) (row := none) kK_)); replace HO195 := Aside0.mk (Kd.R_elder' (rS_ HO195.out) (Kd.R_base ho0) hb); replace HK := Aside0.mk (KeepBut.trans kK_ (KeepBut.of_below hb g none) (.inl rfl)); replace HB := Aside0.mk (below_step bS55_ hb); replace HI0 := Aside0.mk (IsS55.below iS55_ hb); (try clear hb ho0); obtain ⟨Ao97, co97, eo97⟩ := Kd.R_slice HO206.out; subst eo97) | ((with_reducible refine gate_callee (f := 19) rfl ?_); refine gL_ (some 19) Tryd.func19 #[.pointer (some ⟨g, 0, none⟩), .int .i64 (t204.length : Int)] ?_; (with_reducible refine (spec_l01Next.calls g s0_0 t202 t203 (t204.length : Int) t207 t208 t209 w0 _ ?side1 ?side2 A6.out).mono ?_); (case side1 => exact iS55_); (case side2 => exact bS55_); rintro e w98 ⟨rfl, hi, hb, hk⟩; refine ⟨_, rfl, ?_⟩; replace HO195 := Aside0.mk (Kd.R_mono (Kd.R_keep (IsS55.apart (show IsS55 w0 _ g s0_0 t202 t203 from iS55_) (rS_ HO195.out) (by decide)) hk (fun _ h => h.2)) (fun _ h => h.1)); replace HO206 := Aside0.mk (Kd.R_mono (Kd.R_keep (IsS55.apart (show IsS55 w0 _ g s0_0 t202 t203 from iS55_) (rS_ HO206.out) (by decide)) hk (fun _ h => h.2)) (fun _ h => h.1)); replace HK := Aside0.mk (KeepBut.trans kK_ hk (.inl rfl)); replace HB := Aside0.mk (hb); replace HI0 := Aside0.mk (hi); (try clear hb hk hi)) | ((with_reducible refine gate_callee (f := 19) rfl ?_); refine gL_ (some 21) Tryd.func19 #[.pointer (some ⟨g, 0, none⟩), .int .i64 24] ?_; (with_reducible refine (spec_l01Next.calls g s0_0 t208 t209 24 t210 t211 t212 w0 _ ?side1 ?side2 A7.out).mono ?_); (case side1 => exact iS55_); (case side2 => exact bS55_); rintro e w99 ⟨rfl, hi, hb, hk⟩; refine ⟨_, rfl, ?_⟩; replace HO195 := Aside0.mk (Kd.R_mono (Kd.R_keep (IsS55.apart (show IsS55 w0 _ g s0_0 t208 t209 from iS55_) (rS_ HO195.out) (by decide)) hk (fun _ h => h.2)) (fun _ h => h.1)); replace HO206 := Aside0.mk (Kd.R_mono (Kd.R_keep (IsS55.apart (show IsS55 w0 _ g s0_0 t208 t209 from iS55_) (rS_ HO206.out) (by decide)) hk (fun _ h => h.2)) (fun _ h => h.1)); replace HK := Aside0.mk (KeepBut.trans kK_ hk (.inl rfl)); replace HB := Aside0.mk (hb); replace HI0 := Aside0.mk (hi); (try clear hb hk hi)))
           replace HO195 := Aside0.mk (Kd.R_drew HO195.out)
           replace HO206 := Aside0.mk (Kd.R_drew HO206.out)
           replace HI0 := Aside0.mk (IsS55.drew HI0.out)
           replace HK := Aside0.mk (keep_drew HK.out)
           replace HB := Aside0.mk (below_drew1 HB.out)
           have p242 : 0 ≤ (0 : Int) := (by omega)
           have q242 : 0 < (t204.length : Int) := of_decide_eq_true aS_
           obtain ⟨ad242, e242, hx242_0, hx242_1⟩ := at_T43 (Kd.R_reads' HO206.out).2.2 0 p242 q242
           cases e242
           have qi242 : (0 < t204.length) = True := eq_true (by omega)
           (try rw [show ((0 : Int)).toNat = 0 from rfl] at hx242_0)
           (try rw [show 0 * 2 = 0 from rfl] at hx242_0)
           (try rw [Addr.add_zero'] at hx242_0)
           (try rw [show ((0 : Int)).toNat = 0 from rfl] at hx242_1)
           (try rw [show 0 * 2 = 0 from rfl] at hx242_1)
           (try rw [Addr.add_zero'] at hx242_1)
           replace p242 := eq_true p242
           replace q242 := eq_true q242
           have p243 : 0 ≤ ((ji88) : Int) := of_decide_eq_true aS_
           have q243 : (ji88) < (t204.length : Int) := of_decide_eq_true aS_
           obtain ⟨ad243, e243, hx243_0, hx243_1⟩ := at_T43 (Kd.R_reads' HO206.out).2.2 (ji88) p243 q243
           obtain rfl : ad242 = ad243 := (by injection e243)
           replace p243 := eq_true p243
           replace q243 := eq_true q243
           refine start_ (n := 18) (S := fun w' => w'.cell? ad242 = some (.int .i64 ((rd_T43 t204 0).f0)) ∧ w'.cell? ⟨ad242.block, ad242.off + 1, none⟩ = some (.int .i64 ((rd_T43 t204 0).f1)) ∧ w'.cell? (ad242.add (((ji88)).toNat * 2)) = some (.int .i64 ((rd_T43 t204 (ji88)).f0)) ∧ w'.cell? ⟨(ad242.add (((ji88)).toNat * 2)).block, (ad242.add (((ji88)).toNat * 2)).off + 1, none⟩ = some (.int .i64 ((rd_T43 t204 (ji88)).f1))) (ds := [15, 16]) #[F, F, F, F, F, F, F, F, F, F, F, F, F, F, F, F, F, F] (by kernel_rfl) rfl rfl ⟨hx242_0, hx242_1, hx243_0, hx243_1⟩ (fun hHeld => ?_); refine with_tabW spec_l02Draw.tab20 spec_l02Draw.bits20 (fun HT_ HW_ => ?_)
           generalize w99.drew = w100 at HO195 HO206 HI0 HK HB hx242_0 hx242_1 hx243_0 hx243_1 hHeld ⊢
           refine pu_ HT_ 0 (some 65) #[T,F,F,F,F,F,F,F,F,F,F,F,F,F,F,F,F,F] ?_
           refine pu_ HT_ 1 (some 66) #[T,T,F,F,F,F,F,F,F,F,F,F,F,F,F,F,F,F] ?_
           refine pu_ HT_ 2 (some 67) #[T,T,T,F,F,F,F,F,F,F,F,F,F,F,F,F,F,F] ?_
           refine pu_ HT_ 3 (some 68) #[T,T,T,T,F,F,F,F,F,F,F,F,F,F,F,F,F,F] ?_
           refine pu_ HT_ 6 (some 71) #[T,T,T,T,F,F,T,F,F,F,F,F,F,F,F,F,F,F] ?_
           refine pu_ HT_ 7 (some 72) #[T,T,T,T,F,F,T,T,F,F,F,F,F,F,F,F,F,F] ?_
           refine pu_ HT_ 8 (some 73) #[T,T,T,T,F,F,T,T,T,F,F,F,F,F,F,F,F,F] ?_
           refine pu_ HT_ 9 (some 74) #[T,T,T,T,F,F,T,T,T,T,F,F,F,F,F,F,F,F] ?_
           refine pu_ HT_ 10 (some 75) #[T,T,T,T,F,F,T,T,T,T,T,F,F,F,F,F,F,F] ?_
           refine pu_ HT_ 11 (some 76) #[T,T,T,T,F,F,T,T,T,T,T,T,F,F,F,F,F,F] ?_
           refine take_ (i := 4) (N := some 69) (v := ?_) (a' := ?_) #[T, T, T, T, T, F, T, T, T, T, T, T, F, F, F, F, F, F] rfl rfl (take_ofW HT_.out HW_.out (by kernel_rfl)) (fun _ _ _ h => h) (Or.inl ⟨by rfl, ?_⟩) hHeld ?_ ?_
           rotate_left
           ·rintro w' ⟨s0, s1, s2, s3⟩
            go_simp
            with_reducible rfl
           rotate_left
           ·simp only [Act.put, List.setIfInBounds_toArray, List.set_cons_zero, List.set_cons_succ, i64_w, i32_w]
            rfl
           refine pu_ HT_ 5 (some 70) #[T,T,T,T,T,T,T,T,T,T,T,T,F,F,F,F,F,F] ?_
           refine take_ (i := 12) (N := some 77) (v := ?_) (a' := ?_) #[T, T, T, T, T, T, T, T, T, T, T, T, T, F, F, F, F, F] rfl rfl (take_ofW HT_.out HW_.out (by kernel_rfl)) (fun _ _ _ h => h) (Or.inl ⟨by rfl, ?_⟩) hHeld ?_ ?_
           rotate_left
           ·rintro w' ⟨s0, s1, s2, s3⟩
            go_simp
            with_reducible rfl
           rotate_left
           ·simp only [Act.put, List.setIfInBounds_toArray, List.set_cons_zero, List.set_cons_succ, i64_w, i32_w]
            rfl
           refine pu_ HT_ 13 (some 78) #[T,T,T,T,T,T,T,T,T,T,T,T,T,T,F,F,F,F] ?_
           refine pu_ HT_ 14 (some 79) #[T,T,T,T,T,T,T,T,T,T,T,T,T,T,T,F,F,F] ?_
           refine last_ (i := 15) (N := some 80) #[T, T, T, T, T, T, T, T, T, T, T, T, T, T, T, T, F, F] rfl rfl (one_of HT_.out (by kernel_rfl)) (by decide) (fun K hK => ?_)
           refine value_ (w1 := ?_) (v := ?_) (by rfl) rfl ?_ ?_
           rotate_left 2
           ·go_simp
            constructor
            ·rfl
            ·rfl
           refine hK.out _ _ ?_
           clear hK K
           refine no_ (some 80) ?_
           refine last_ (i := 16) (N := some 81) #[T, T, T, T, T, T, T, T, T, T, T, T, T, T, T, T, T, F] rfl rfl (one_of HT_.out (by kernel_rfl)) (by decide) (fun K hK => ?_)
           refine Kd.R_append_step k43 w.heap.size (by rfl) (.tmp 65) (.tmp 80) 24 43 (.agg #[(.int .i64 0), (.int .i64 0)]) 16 rfl Tryd.underlying24 info43 rfl (by decide) (by omega) (.slice (some ad242) t204.length co97) t204 (⟨wrap64 (((rd_T43 t204 0).f0) + 3), wrap64 (((rd_T43 t204 (ji88)).f1) + 2)⟩ : S43) [.int .i64 (wrap64 (((rd_T43 t204 0).f0) + 3)), .int .i64 (wrap64 (((rd_T43 t204 (ji88)).f1) + 2))] (fun k_ => some k_ ≠ (.slice Ao95 t193.length co95 : Value).ownBlock) (fun _ => False) rfl rfl ?aP (fun _ hk => hk.elim) ?aF ?aO (Below.refl _ _) ?aS ?aL ?_
           (case aP => exact k43_mkM _ _ _ (⟨wrap64 (((rd_T43 t204 0).f0) + 3), wrap64 (((rd_T43 t204 (ji88)).f1) + 2)⟩ : S43))
           (case aF => exact (fun k_ hk => Kd.fresh' (Kd.R_lt (rS_ HO195.out)) k_ hk))
           (case aO => exact (rS_ (Kd.R_mono HO206.out (fun _ hk => hk.2))))
           (case aS => exact (keep_size (w := w) (g := g) (row := none) kK_))
           (case aL => have := LMc91.out; omega)
           intro v245 w101 ho hb hg hat
           rw [← Ny244.out] at ho
           replace HO195 := Aside0.mk (Kd.R_after (ok := (fun _ => True)) (rS_ HO195.out) hg hat)
           replace HB := Aside0.mk (below_weaken bS55_ HL.out hb)
           replace HI0 := Aside0.mk (IsS55.grown iS55_ hg (IsS55.own_ne HI0.out HO206.out (by decide)))
           replace HK := Aside0.mk (KeepBut.trans kK_ (KeepBut.of_grown hg g) (Kd.R_base2 HO206.out))
           have HO246 := Aside0.mk (ho)
           clear HO206
           clear ho hb hg hat
           refine hK.out _ _ ?_
           clear hK K
           refine no_ (some 81) ?_
           refine pu_ HT_ 17 (some 2) #[T,T,T,T,T,T,T,T,T,T,T,T,T,T,T,T,T,T] ?_
           refine done_ (done_of HT_.out (by kernel_rfl)) ?_
           try go_wp2
           go_ret
           exact ⟨_, by first | rfl | (simp [errW_none, errW_some] <;> rfl) | (simp only [← hji88]; first | rfl | (simp [errW_none, errW_some] <;> rfl)) | (simp [*, errW_none, errW_some] <;> rfl), rS_ (Kd.R_mono HO246.out (fun _ hk => trivial)), iS55_, bS55_, kK_⟩
          ·rw [if_neg c91] at H
           exact absurd H (by simp)
         ·rw [if_neg c90] at H
          exact absurd H (by simp)
        ·rw [if_neg c89] at H
         exact absurd H (by simp)
       ·rw [if_neg c87] at H
        exact absurd H (by simp)
      ·rw [if_neg c86] at H
       have c86b0 : (t210 == 5) = false := beq_eq_false_iff_ne.mpr c86
       have c86b1 : (t210 != 5) = true := bne_iff_ne.mpr c86
       simp only [Option.some.injEq, Prod.mk.injEq] at H
       obtain ⟨rfl, rfl, rfl⟩ := H
       go_enter Tryd.func26, Tryd.ntmps26
       go_wp2_with (first | ((with_reducible refine gate_callee (f := 20) rfl ?_); refine gL_ (some 8) Tryd.func20 #[.pointer (some ⟨g, 0, none⟩), .int .i64 8] ?_; (with_reducible refine (spec_l02DrawPoly.calls k g s0_0 s0_1 s0_2 8 t193 t196 t197 w0 _ ?side1 ?side2 A2.out).mono ?_); (case side1 => exact iS55_); (case side2 => exact bS55_); rintro e w102 ⟨v194, rfl, ho0, hi, hb, hk⟩; refine ⟨_, rfl, ?_⟩; have HO195 := Aside0.mk (Kd.R_lower ho0 (keep_size (w := w) (g := g) (row := none) kK_)); replace HK := Aside0.mk (KeepBut.trans kK_ hk (.inl rfl)); replace HB := Aside0.mk (hb); replace HI0 := Aside0.mk (hi); (try clear hb hk hi ho0)) | ((with_reducible refine gate_callee (f := 19) rfl ?_); refine gL_ (some 10) Tryd.func19 #[.pointer (some ⟨g, 0, none⟩), .int .i64 9] ?_; (with_reducible refine (spec_l01Next.calls g s0_0 t196 t197 9 t198 t199 t200 w0 _ ?side1 ?side2 A3.out).mono ?_); (case side1 => exact iS55_); (case side2 => exact bS55_); rintro e w103 ⟨rfl, hi, hb, hk⟩; refine ⟨_, rfl, ?_⟩; replace HO195 := Aside0.mk (Kd.R_mono (Kd.R_keep (IsS55.apart (show IsS55 w0 _ g s0_0 t196 t197 from iS55_) (rS_ HO195.out) (by decide)) hk (fun _ h => h.2)) (fun _ h => h.1)); replace HK := Aside0.mk (KeepBut.trans kK_ hk (.inl rfl)); replace HB := Aside0.mk (hb); replace HI0 := Aside0.mk (hi); (try clear hb hk hi)) | ((with_reducible refine gate_callee (f := 19) rfl ?_); refine gL_ (some 13) Tryd.func19 #[.pointer (some ⟨g, 0, none⟩), .int .i64 9] ?_; (with_reducible refine (spec_l01Next.calls g s0_0 t199 t200 9 t201 t202 t203 w0 _ ?side1 ?side2 A4.out).mono ?_); (case side1 => exact iS55_); (case side2 => exact bS55_); rintro e w104 ⟨rfl, hi, hb, hk⟩; refine ⟨_, rfl, ?_⟩; replace HO195 := Aside0.mk (Kd.R_mono (Kd.R_keep (IsS55.apart (show IsS55 w0 _ g s0_0 t199 t200 from iS55_) (rS_ HO195.out) (by decide)) hk (fun _ h => h.2)) (fun _ h => h.1)); replace HK := Aside0.mk (KeepBut.trans kK_ hk (.inl rfl)); replace HB := Aside0.mk (hb); replace HI0 := Aside0.mk (hi); (try clear hb hk hi); obtain ⟨Ao105, co105, eo105⟩ := Kd.R_slice HO195.out; subst eo105) | ((with_reducible refine gate_callee (f := 43) rfl ?_); refine gL_ (some 15) Tryd.func43 #[.slice Ao105 t193.length co105, .int .i64 (wrap64 (t198 - 4)), .int .i64 (wrap64 (t201 - 4))] ?_; (with_reducible refine (spec_l02Move.calls k _ _ t193 (wrap64 (t198 - 4)) (wrap64 (t201 - 4)) t204 _ ?side1 ?side2 A5.out).mono ?_); (case side1 => exact cS_ ((Kd.R_reads' HO195.out).2.2)); (case side2 => exact (Kd.R_reads' HO195.out).2.1); rintro e w106 ⟨v205, rfl, ho0, hb⟩; refine ⟨_, rfl, ?_⟩; have HO206 := Aside0.mk (Kd.R_lower (Kd.R_new' ho0 (Kd.R_lt (rS_ HO195.out))) (keep_size (w := w) (g := g) (row := none) kK_)); replace HO195 := Aside0.mk (Kd.R_elder' (rS_ HO195.out) (Kd.R_base ho0) hb); replace HK := Aside0.mk (KeepBut.trans kK_ (KeepBut.of_below hb g none) (.inl rfl)); replace HB := Aside0.mk (below_step bS55_ hb); replace HI0 := Aside0.mk (IsS55.below iS55_ hb); (try clear hb ho0); obtain ⟨Ao107, co107, eo107⟩ := Kd.R_slice HO206.out; subst eo107) | ((with_reducible refine gate_callee (f := 19) rfl ?_); refine gL_ (some 19) Tryd.func19 #[.pointer (some ⟨g, 0, none⟩), .int .i64 (t204.length : Int)] ?_; (with_reducible refine (spec_l01Next.calls g s0_0 t202 t203 (t204.length : Int) t207 t208 t209 w0 _ ?side1 ?side2 A6.out).mono ?_); (case side1 => exact iS55_); (case side2 => exact bS55_); rintro e w108 ⟨rfl, hi, hb, hk⟩; refine ⟨_, rfl, ?_⟩; replace HO195 := Aside0.mk (Kd.R_mono (Kd.R_keep (IsS55.apart (show IsS55 w0 _ g s0_0 t202 t203 from iS55_) (rS_ HO195.out) (by decide)) hk (fun _ h => h.2)) (fun _ h => h.1)); replace HO206 := Aside0.mk (Kd.R_mono (Kd.R_keep (IsS55.apart (show IsS55 w0 _ g s0_0 t202 t203 from iS55_) (rS_ HO206.out) (by decide)) hk (fun _ h => h.2)) (fun _ h => h.1)); replace HK := Aside0.mk (KeepBut.trans kK_ hk (.inl rfl)); replace HB := Aside0.mk (hb); replace HI0 := Aside0.mk (hi); (try clear hb hk hi)) | ((with_reducible refine gate_callee (f := 19) rfl ?_); refine gL_ (some 21) Tryd.func19 #[.pointer (some ⟨g, 0, none⟩), .int .i64 24] ?_; (with_reducible refine (spec_l01Next.calls g s0_0 t208 t209 24 t210 t211 t212 w0 _ ?side1 ?side2 A7.out).mono ?_); (case side1 => exact iS55_); (case side2 => exact bS55_); rintro e w109 ⟨rfl, hi, hb, hk⟩; refine ⟨_, rfl, ?_⟩; replace HO195 := Aside0.mk (Kd.R_mono (Kd.R_keep (IsS55.apart (show IsS55 w0 _ g s0_0 t208 t209 from iS55_) (rS_ HO195.out) (by decide)) hk (fun _ h => h.2)) (fun _ h => h.1)); replace HO206 := Aside0.mk (Kd.R_mono (Kd.R_keep (IsS55.apart (show IsS55 w0 _ g s0_0 t208 t209 from iS55_) (rS_ HO206.out) (by decide)) hk (fun _ h => h.2)) (fun _ h => h.1)); replace HK := Aside0.mk (KeepBut.trans kK_ hk (.inl rfl)); replace HB := Aside0.mk (hb); replace HI0 := Aside0.mk (hi); (try clear hb hk hi)))
       go_ret
       exact ⟨_, r2_, rS_ (Kd.R_mono HO206.out (fun _ hk => trivial)), iS55_, bS55_, kK_⟩

/-! ### spec_DrawNormalForm: function 13 -/
def spec_DrawNormalForm.f (k : Nat) (l0 : List Int) : Option ((List (S43))) := (spec_l01From.f k l0).bind fun bt247 => ((spec_l02Draw.f k bt247.1 bt247.2.1 bt247.2.2).bind fun bt251 => ((spec_l01Next.f bt247.1 bt251.2.1 bt251.2.2 24).bind fun bt256 => (if bt256.1 = 0 then ((spec_l01Next.f bt247.1 bt256.2.1 bt256.2.2 2).bind fun bt259 => (some (([(⟨(-60), 0⟩ : S43), (⟨wrap64 (40 + bt259.1), 0⟩ : S43)] : List (S43))))) else (some bt251.1))))
theorem spec_DrawNormalForm.mono : ∀ a0 k, LeO (spec_DrawNormalForm.f k a0) (spec_DrawNormalForm.f (k + 1) a0) := by
 intro a0 k
 unfold spec_DrawNormalForm.f
 repeat' first
   | (with_reducible exact spec_l01From.mono _ _)
   | (with_reducible exact spec_l02Draw.mono _ _ _ _)
   | (with_reducible exact LeO.refl _)
   | (with_reducible exact LeO.none _)
   | (with_reducible refine LeO.ite ?_ ?_)
   | (with_reducible refine LeO.bind ?_ (fun _ => ?_))
   | exact spec_l01From.mono _ _
   | exact spec_l02Draw.mono _ _ _ _
   | exact LeO.none _
   | refine LeO.ite ?_ ?_
   | refine LeO.bind ?_ (fun _ => ?_)
set_option maxHeartbeats 8000000 in
set_option maxRecDepth 100000 in
theorem spec_DrawNormalForm.calls (k : Nat) (A0 : Option Addr) (c0 : Nat) (l0 : List Int) (r : List (S43)) (w : World) (hr0 : Kd.C (Kd.int .u8) w A0 l0.length l0) (hc0 : l0.length ≤ c0) (h : spec_DrawNormalForm.f k l0 = some r) :
  Calls Tryd.prog 13 #[.slice A0 l0.length c0] w fun e w' => ∃ v0_ : Value, e = .returned (v0_) ∧ Kd.R k43 43 w' w.heap.size (fun _ => True) v0_ r ∧ Below w.heap.size w w' := by
 have hu43 := Tryd.underlying43
 have HR0 := Aside0.mk hr0
 have HC0 := Aside0.mk hc0
 clear hr0 hc0
 have HB := Aside0.mk (Below.refl w.heap.size w)
 have H : ((spec_l01From.f k l0).bind fun bt247 => ((spec_l02Draw.f k bt247.1 bt247.2.1 bt247.2.2).bind fun bt251 => ((spec_l01Next.f bt247.1 bt251.2.1 bt251.2.2 24).bind fun bt256 => (if bt256.1 = 0 then ((spec_l01Next.f bt247.1 bt256.2.1 bt256.2.2 2).bind fun bt259 => (some (([(⟨(-60), 0⟩ : S43), (⟨wrap64 (40 + bt259.1), 0⟩ : S43)] : List (S43))))) else (some bt251.1))))) = some r := h
 clear h
 replace H := Option.bind_eq_some_iff.mp H
 obtain ⟨⟨t247, t248, t249⟩, A20, H⟩ := H
 try dsimp only at H
 have A2 := Aside0.mk A20
 clear A20
 replace H := Option.bind_eq_some_iff.mp H
 obtain ⟨⟨t251, t254, t255⟩, A30, H⟩ := H
 try dsimp only at H
 have A3 := Aside0.mk A30
 clear A30
 replace H := Option.bind_eq_some_iff.mp H
 obtain ⟨⟨t256, t257, t258⟩, A40, H⟩ := H
 try dsimp only at H
 have A4 := Aside0.mk A40
 clear A40
 by_cases c5 : t256 = 0
 ·rw [if_pos c5] at H
  have c5b0 : (t256 == 0) = true := beq_iff_eq.mpr c5
  have c5b1 : (t256 != 0) = false := bne_eq_false_iff_eq.mpr c5
  clear c5
  replace H := Option.bind_eq_some_iff.mp H
  obtain ⟨⟨t259, t260, t261⟩, A60, H⟩ := H
  try dsimp only at H
  have A6 := Aside0.mk A60
  clear A60
  obtain ⟨y262, hY_⟩ : ∃ y_ : List (S43), y_ = (([(⟨(-60), 0⟩ : S43), (⟨wrap64 (40 + t259), 0⟩ : S43)] : List (S43))) := ⟨_, rfl⟩
  replace H : (some y262) = some r := yY_
  have Ny262 := Aside0.mk hY_
  clear hY_
  obtain rfl := Option.some.inj H
  go_enter Tryd.func13, Tryd.ntmps13
  go_wp2_with (first | ((with_reducible refine gate_callee (f := 18) rfl ?_); refine gL_ (some 6) Tryd.func18 #[.slice A0 l0.length c0] ?_; (with_reducible refine (spec_l01From.calls k _ _ l0 t247 t248 t249 w _ ?side1 ?side2 ?side3 A2.out).mono ?_); (case side1 => repeat (first | (with_reducible first | exact HB.out | apply below_alloc | apply pw_below_drewN | apply below_drew1) | exact HB.out)); (case side2 => exact HR0.out); (case side3 => exact HC0.out); rintro e w7 ⟨g250, rfl, hi, hb, hb2⟩; refine ⟨_, rfl, ?_⟩; replace HB := Aside0.mk (hb); have HI250 := Aside0.mk (hi); (try clear hb hb2 hi)) | ((with_reducible refine gate_callee (f := 26) rfl ?_); refine gL_ (some 8) Tryd.func26 #[.pointer (some ⟨g250, 0, none⟩)] ?_; (with_reducible refine (spec_l02Draw.calls k g250 t247 t248 t249 t251 t254 t255 w _ ?side1 ?side2 A3.out).mono ?_); (case side1 => repeat (first | (with_reducible first | exact HI250.out | apply IsS55.alloc | apply IsS55.drewN | apply IsS55.drew | apply IsS55.set_1 | apply IsS55.set_2) | exact HI250.out)); (case side2 => repeat (first | (with_reducible first | exact HB.out | apply below_alloc | apply pw_below_drewN | apply below_drew1 | refine below_set ?_ (IsS55.ge HI250.out)) | exact HB.out)); rintro e w8 ⟨v252, rfl, ho0, hi, hb, hk⟩; refine ⟨_, rfl, ?_⟩; have HO253 := Aside0.mk (Kd.R_lower ho0 (below_size (by repeat (first | (with_reducible first | exact HB.out | apply below_alloc | apply pw_below_drewN | apply below_drew1 | refine below_set ?_ (IsS55.ge HI250.out)) | exact HB.out)))); replace HB := Aside0.mk (hb); replace HI250 := Aside0.mk (hi); (try clear hb hk hi ho0)) | ((with_reducible refine gate_callee (f := 19) rfl ?_); refine gL_ (some 10) Tryd.func19 #[.pointer (some ⟨g250, 0, none⟩), .int .i64 24] ?_; (with_reducible refine (spec_l01Next.calls g250 t247 t254 t255 24 t256 t257 t258 w _ ?side1 ?side2 A4.out).mono ?_); (case side1 => repeat (first | (with_reducible first | exact HI250.out | apply IsS55.alloc | apply IsS55.drewN | apply IsS55.drew | apply IsS55.set_1 | apply IsS55.set_2) | exact HI250.out)); (case side2 => repeat (first | (with_reducible first | exact HB.out | apply below_alloc | apply pw_below_drewN | apply below_drew1 | refine below_set ?_ (IsS55.ge HI250.out)) | exact HB.out)); rintro e w9 ⟨rfl, hi, hb, hk⟩; refine ⟨_, rfl, ?_⟩; replace HO253 := Aside0.mk (Kd.R_mono (Kd.R_keep (IsS55.apart (show IsS55 w _ g250 t247 t254 t255 from by repeat (first | (with_reducible first | exact HI250.out | apply IsS55.alloc | apply IsS55.drewN | apply IsS55.drew | apply IsS55.set_1 | apply IsS55.set_2) | exact HI250.out)) (rS_ HO253.out) (by decide)) hk (fun _ h => h.2)) (fun _ h => h.1)); replace HB := Aside0.mk (hb); replace HI250 := Aside0.mk (hi); (try clear hb hk hi)) | ((with_reducible refine gate_callee (f := 19) rfl ?_); refine gL_ (some 14) Tryd.func19 #[.pointer (some ⟨g250, 0, none⟩), .int .i64 2] ?_; (with_reducible refine (spec_l01Next.calls g250 t247 t257 t258 2 t259 t260 t261 w _ ?side1 ?side2 A6.out).mono ?_); (case side1 => repeat (first | (with_reducible first | exact HI250.out | apply IsS55.alloc | apply IsS55.drewN | apply IsS55.drew | apply IsS55.set_1 | apply IsS55.set_2) | exact HI250.out)); (case side2 => repeat (first | (with_reducible first | exact HB.out | apply below_alloc | apply pw_below_drewN | apply below_drew1 | refine below_set ?_ (IsS55.ge HI250.out)) | exact HB.out)); rintro e w10 ⟨rfl, hi, hb, hk⟩; refine ⟨_, rfl, ?_⟩; replace HO253 := Aside0.mk (Kd.R_mono (Kd.R_keep (IsS55.apart (show IsS55 w _ g250 t247 t257 t258 from by repeat (first | (with_reducible first | exact HI250.out | apply IsS55.alloc | apply IsS55.drewN | apply IsS55.drew | apply IsS55.set_1 | apply IsS55.set_2) | exact HI250.out)) (rS_ HO253.out) (by decide)) hk (fun _ h => h.2)) (fun _ h => h.1)); replace HB := Aside0.mk (hb); replace HI250 := Aside0.mk (hi); (try clear hb hk hi)) | ((with_reducible refine gate_dst (N := 17) rfl ?_); refine Kd.R_lit k43 _ 43 ?hg (N := 17) ?hd (xs := ([(⟨(-60), 0⟩ : S43), (⟨wrap64 (40 + t259), 0⟩ : S43)] : List (S43))) (inner := [.int .i64 (-60), .int .i64 0, .int .i64 (wrap64 (40 + t259)), .int .i64 0]) (ok := fun _ => True) (okp := fun _ => True) ?hr ?hp (fun _ hk => hk) trivial (Below.refl _ _) (Nat.le_refl _) (by simp) ?_; (case hd => rfl); (case hg => rfl); (case hr => first | (go_simp; done) | (go_simp; rfl)); (case hp => exact (Reps.c2 (show Kd.M k43 _ _ _ (⟨(-60), 0⟩ : S43) [.int .i64 (-60), .int .i64 0] from (k43_mkM _ _ _ (⟨(-60), 0⟩ : S43) )) (Reps.c2 (show Kd.M k43 _ _ _ (⟨wrap64 (40 + t259), 0⟩ : S43) [.int .i64 (wrap64 (40 + t259)), .int .i64 0] from (k43_mkM _ _ _ (⟨wrap64 (40 + t259), 0⟩ : S43) )) (Reps.none _ _)))); intro v263 w11 ho12 hb hg_ hnew_; clear hg_ hnew_; (first | rw [← Ny262.out] at ho12 | (simp only [Int.reduceToNat] at ho12; rw [← Ny262.out] at ho12)); have HO264 := Aside0.mk (Kd.R_lower (Kd.R_new' ho12 (Kd.R_lt (rS_ HO253.out))) (below_size (by repeat (first | (with_reducible first | exact HB.out | apply below_alloc | apply pw_below_drewN | apply below_drew1 | refine below_set ?_ (IsS55.ge HI250.out)) | exact HB.out)))); replace HO253 := Aside0.mk (Kd.R_elder' (rS_ HO253.out) (Kd.R_base ho12) hb); replace HB := Aside0.mk (below_step (by repeat (first | (with_reducible first | exact HB.out | apply below_alloc | apply pw_below_drewN | apply below_drew1 | refine below_set ?_ (IsS55.ge HI250.out)) | exact HB.out)) hb); replace HI250 := Aside0.mk (IsS55.below (by repeat (first | (with_reducible first | exact HI250.out | apply IsS55.alloc | apply IsS55.drewN | apply IsS55.drew | apply IsS55.set_1 | apply IsS55.set_2) | exact HI250.out)) hb); clear hb ho12))
  go_ret
  exact ⟨_, r2_, rS_ (Kd.R_mono HO264.out (fun _ hk => trivial)), by repeat (first | (with_reducible first | exact HB.out | apply below_alloc | apply pw_below_drewN | apply below_drew1 | refine below_set ?_ (IsS55.ge HI250.out)) | exact HB.out)⟩
 ·rw [if_neg c5] at H
  have c5b0 : (t256 == 0) = false := beq_eq_false_iff_ne.mpr c5
  have c5b1 : (t256 != 0) = true := bne_iff_ne.mpr c5
  obtain rfl := Option.some.inj H
  go_enter Tryd.func13, Tryd.ntmps13
  go_wp2_with (first | ((with_reducible refine gate_callee (f := 18) rfl ?_); refine gL_ (some 6) Tryd.func18 #[.slice A0 l0.length c0] ?_; (with_reducible refine (spec_l01From.calls k _ _ l0 t247 t248 t249 w _ ?side1 ?side2 ?side3 A2.out).mono ?_); (case side1 => repeat (first | (with_reducible first | exact HB.out | apply below_alloc | apply pw_below_drewN | apply below_drew1) | exact HB.out)); (case side2 => exact HR0.out); (case side3 => exact HC0.out); rintro e w13 ⟨g250, rfl, hi, hb, hb2⟩; refine ⟨_, rfl, ?_⟩; replace HB := Aside0.mk (hb); have HI250 := Aside0.mk (hi); (try clear hb hb2 hi)) | ((with_reducible refine gate_callee (f := 26) rfl ?_); refine gL_ (some 8) Tryd.func26 #[.pointer (some ⟨g250, 0, none⟩)] ?_; (with_reducible refine (spec_l02Draw.calls k g250 t247 t248 t249 t251 t254 t255 w _ ?side1 ?side2 A3.out).mono ?_); (case side1 => repeat (first | (with_reducible first | exact HI250.out | apply IsS55.alloc | apply IsS55.drewN | apply IsS55.drew | apply IsS55.set_1 | apply IsS55.set_2) | exact HI250.out)); (case side2 => repeat (first | (with_reducible first | exact HB.out | apply below_alloc | apply pw_below_drewN | apply below_drew1 | refine below_set ?_ (IsS55.ge HI250.out)) | exact HB.out)); rintro e w14 ⟨v252, rfl, ho0, hi, hb, hk⟩; refine ⟨_, rfl, ?_⟩; have HO253 := Aside0.mk (Kd.R_lower ho0 (below_size (by repeat (first | (with_reducible first | exact HB.out | apply below_alloc | apply pw_below_drewN | apply below_drew1 | refine below_set ?_ (IsS55.ge HI250.out)) | exact HB.out)))); replace HB := Aside0.mk (hb); replace HI250 := Aside0.mk (hi); (try clear hb hk hi ho0)) | ((with_reducible refine gate_callee (f := 19) rfl ?_); refine gL_ (some 10) Tryd.func19 #[.pointer (some ⟨g250, 0, none⟩), .int .i64 24] ?_; (with_reducible refine (spec_l01Next.calls g250 t247 t254 t255 24 t256 t257 t258 w _ ?side1 ?side2 A4.out).mono ?_); (case side1 => repeat (first | (with_reducible first | exact HI250.out | apply IsS55.alloc | apply IsS55.drewN | apply IsS55.drew | apply IsS55.set_1 | apply IsS55.set_2) | exact HI250.out)); (case side2 => repeat (first | (with_reducible first | exact HB.out | apply below_alloc | apply pw_below_drewN | apply below_drew1 | refine below_set ?_ (IsS55.ge HI250.out)) | exact HB.out)); rintro e w15 ⟨rfl, hi, hb, hk⟩; refine ⟨_, rfl, ?_⟩; replace HO253 := Aside0.mk (Kd.R_mono (Kd.R_keep (IsS55.apart (show IsS55 w _ g250 t247 t254 t255 from by repeat (first | (with_reducible first | exact HI250.out | apply IsS55.alloc | apply IsS55.drewN | apply IsS55.drew | apply IsS55.set_1 | apply IsS55.set_2) | exact HI250.out)) (rS_ HO253.out) (by decide)) hk (fun _ h => h.2)) (fun _ h => h.1)); replace HB := Aside0.mk (hb); replace HI250 := Aside0.mk (hi); (try clear hb hk hi)))
  go_ret
  exact ⟨_, r2_, rS_ HO253.out, by repeat (first | (with_reducible first | exact HB.out | apply below_alloc | apply pw_below_drewN | apply below_drew1 | refine below_set ?_ (IsS55.ge HI250.out)) | exact HB.out)⟩

/-! ### spec_DrawShapeText: function 5 -/
def spec_DrawShapeText.f (k : Nat) (l0 : List Int) : Option ((List (S43))) := (spec_DrawNormalForm.f k l0).bind fun t265 => (some t265)
theorem spec_DrawShapeText.mono : ∀ a0 k, LeO (spec_DrawShapeText.f k a0) (spec_DrawShapeText.f (k + 1) a0) := by
 intro a0 k
 unfold spec_DrawShapeText.f
 repeat' first
   | (with_reducible exact spec_DrawNormalForm.mono _ _)
   | (with_reducible exact LeO.refl _)
   | (with_reducible exact LeO.none _)
   | (with_reducible refine LeO.ite ?_ ?_)
   | (with_reducible refine LeO.bind ?_ (fun _ => ?_))
   | exact spec_DrawNormalForm.mono _ _
   | exact LeO.none _
   | refine LeO.ite ?_ ?_
   | refine LeO.bind ?_ (fun _ => ?_)
set_option maxHeartbeats 8000000 in
set_option maxRecDepth 100000 in
theorem spec_DrawShapeText.calls (k : Nat) (A0 : Option Addr) (c0 : Nat) (l0 : List Int) (r : List (S43)) (w : World) (hr0 : Kd.C (Kd.int .u8) w A0 l0.length l0) (hc0 : l0.length ≤ c0) (h : spec_DrawShapeText.f k l0 = some r) :
  Calls Tryd.prog 5 #[.slice A0 l0.length c0] w fun e w' => ∃ v0_ : Value, e = .returned (v0_) ∧ Kd.R k43 43 w' w.heap.size (fun _ => True) v0_ r ∧ Below w.heap.size w w' := by
 have HR0 := Aside0.mk hr0
 have HC0 := Aside0.mk hc0
 clear hr0 hc0
 have HB := Aside0.mk (Below.refl w.heap.size w)
 have H : ((spec_DrawNormalForm.f k l0).bind fun t265 => (some t265)) = some r := h
 clear h
 replace H := Option.bind_eq_some_iff.mp H
 obtain ⟨t265, A20, H⟩ := H
 try dsimp only at H
 have A2 := Aside0.mk A20
 clear A20
 obtain rfl := Option.some.inj H
 go_enter Tryd.func5, Tryd.ntmps5
 go_wp2_with (first | ((with_reducible refine gate_callee (f := 13) rfl ?_); refine gL_ (some 4) Tryd.func13 #[.slice A0 l0.length c0] ?_; (with_reducible refine (spec_DrawNormalForm.calls k _ _ l0 t265 _ ?side1 ?side2 A2.out).mono ?_); (case side1 => exact cS_ HR0.out); (case side2 => exact HC0.out); rintro e w3 ⟨v266, rfl, ho0, hb⟩; refine ⟨_, rfl, ?_⟩; have HO267 := Aside0.mk (Kd.R_lower ho0 (below_size bB_)); replace HB := Aside0.mk (below_step bB_ hb); (try clear hb ho0)))
 go_ret
 exact ⟨_, r2_, rS_ HO267.out, bB_⟩

/-! ### impl_within: function 56 -/
def impl_within.f (a0 : Int) (a1 : Int) (a2 : Int) : Option (Bool) := if a0 ≥ a1 then (some (decide (a0 ≤ a2))) else (some false)
set_option maxHeartbeats 8000000 in
set_option maxRecDepth 100000 in
theorem impl_within.calls (a0 : Int) (a1 : Int) (a2 : Int) (r : Bool) (w : World) (h : impl_within.f a0 a1 a2 = some r) :
  Calls Tryd.prog 56 #[.int .i64 a0, .int .i64 a1, .int .i64 a2] w fun e w' => e = .returned (.bool r) ∧ Drawn0 w w' := by
 have H : (if a0 ≥ a1 then (some (decide (a0 ≤ a2))) else (some false)) = some r := h
 clear h
 by_cases c4 : a0 ≥ a1
 ·rw [if_pos c4] at H
  have c4b0 : decide (a1 ≤ a0) = true := decide_eq_true c4
  clear c4
  obtain rfl := Option.some.inj H
  go_enter Tryd.func56, Tryd.ntmps56
  go_wp2
  go_ret
  exact ⟨r3_, by repeat (first | exact Drawn0.refl _ | apply Drawn0.step)⟩
 ·rw [if_neg c4] at H
  have c4b0 : decide (a1 ≤ a0) = false := decide_eq_false c4
  clear c4
  obtain rfl := Option.some.inj H
  go_enter Tryd.func56, Tryd.ntmps56
  go_wp2
  go_ret
  exact ⟨r3_, by repeat (first | exact Drawn0.refl _ | apply Drawn0.step)⟩

/-! ### impl_isCoordinate: function 36 -/
def impl_isCoordinate.f (a0 : Int) : Option (Bool) := (impl_within.f a0 (-100) 100).bind fun t268 => (some t268)
set_option maxHeartbeats 8000000 in
set_option maxRecDepth 100000 in
theorem impl_isCoordinate.calls (a0 : Int) (r : Bool) (w : World) (h : impl_isCoordinate.f a0 = some r) :
  Calls Tryd.prog 36 #[.int .i64 a0] w fun e w' => e = .returned (.bool r) ∧ Drawn0 w w' := by
 have H : ((impl_within.f a0 (-100) 100).bind fun t268 => (some t268)) = some r := h
 clear h
 replace H := Option.bind_eq_some_iff.mp H
 obtain ⟨t268, A20, H⟩ := H
 try dsimp only at H
 have A2 := Aside0.mk A20
 clear A20
 obtain rfl := Option.some.inj H
 go_enter Tryd.func36, Tryd.ntmps36
 go_wp2_with (first | ((with_reducible refine gate_callee (f := 56) rfl ?_); refine gL_ (some 4) Tryd.func56 #[.int .i64 a0, .int .i64 (-100), .int .i64 100] ?_; (with_reducible refine (impl_within.calls a0 (-100) 100 t268 _ A2.out).mono ?_); rintro e w' ⟨rfl, ⟨nd, rfl⟩⟩; refine ⟨_, rfl, ?_⟩))
 go_ret
 exact ⟨r3_, by repeat (first | exact Drawn0.refl _ | apply Drawn0.step)⟩

/-! ### cmp_isNaN_int64: function 67 -/
def cmp_isNaN_int64.f (a0 : Int) : Option (Bool) := some (a0 != a0)
set_option maxHeartbeats 8000000 in
set_option maxRecDepth 100000 in
theorem cmp_isNaN_int64.calls (a0 : Int) (r : Bool) (w : World) (h : cmp_isNaN_int64.f a0 = some r) :
  Calls Tryd.prog 67 #[.int .i64 a0] w fun e w' => e = .returned (.bool r) ∧ Drawn0 w w' := by
 have H : (some (a0 != a0)) = some r := h
 clear h
 obtain rfl := Option.some.inj H
 go_enter Tryd.func67, Tryd.ntmps67
 go_wp2
 go_ret
 exact ⟨r3_, by repeat (first | exact Drawn0.refl _ | apply Drawn0.step)⟩

/-! ### cmp_Compare_int64: function 57 -/
def cmp_Compare_int64.f (a0 : Int) (a1 : Int) : Option (Int) := (cmp_isNaN_int64.f a0).bind fun t269 => ((cmp_isNaN_int64.f a1).bind fun t270 => (if t269 = true then (if t270 = true then (some 0) else (some (-1))) else (if t270 = true then (some 1) else (if a0 < a1 then (some (-1)) else (if a0 > a1 then (some 1) else (some 0))))))
set_option maxHeartbeats 8000000 in
set_option maxRecDepth 100000 in
theorem cmp_Compare_int64.calls (a0 : Int) (a1 : Int) (r : Int) (w : World) (h : cmp_Compare_int64.f a0 a1 = some r) :
  Calls Tryd.prog 57 #[.int .i64 a0, .int .i64 a1] w fun e w' => e = .returned (.int .i64 r) ∧ Drawn0 w w' := by
 have H : ((cmp_isNaN_int64.f a0).bind fun t269 => ((cmp_isNaN_int64.f a1).bind fun t270 => (if t269 = true then (if t270 = true then (some 0) else (some (-1))) else (if t270 = true then (some 1) else (if a0 < a1 then (some (-1)) else (if a0 > a1 then (some 1) else (some 0))))))) = some r := h
 clear h
 replace H := Option.bind_eq_some_iff.mp H
 obtain ⟨t269, A30, H⟩ := H
 try dsimp only at H
 have A3 := Aside0.mk A30
 clear A30
 replace H := Option.bind_eq_some_iff.mp H
 obtain ⟨t270, A40, H⟩ := H
 try dsimp only at H
 have A4 := Aside0.mk A40
 clear A40
 by_cases c5 : t269 = true
 ·subst c5
  have H1 : (if t270 = true then (some 0) else (some (-1))) = some r := by rw [if_pos rfl] at H; exact H
  clear H
  have H := H1
  clear H1
  by_cases c6 : t270 = true
  ·subst c6
   have H1 : (some 0) = some r := by rw [if_pos rfl] at H; exact H
   clear H
   have H := H1
   clear H1
   obtain rfl := Option.some.inj H
   go_enter Tryd.func57, Tryd.ntmps57
   go_wp2_with (first | ((with_reducible refine gate_callee (f := 67) rfl ?_); refine gL_ (some 8) Tryd.func67 #[.int .i64 a0] ?_; (with_reducible refine (cmp_isNaN_int64.calls a0 true _ A3.out).mono ?_); rintro e w' ⟨rfl, ⟨nd, rfl⟩⟩; refine ⟨_, rfl, ?_⟩) | ((with_reducible refine gate_callee (f := 67) rfl ?_); refine gL_ (some 10) Tryd.func67 #[.int .i64 a1] ?_; (with_reducible refine (cmp_isNaN_int64.calls a1 true _ A4.out).mono ?_); rintro e w' ⟨rfl, ⟨nd, rfl⟩⟩; refine ⟨_, rfl, ?_⟩))
   go_ret
   exact ⟨r3_, by repeat (first | exact Drawn0.refl _ | apply Drawn0.step)⟩
  ·replace c6 := Bool.eq_false_iff.mpr c6
   subst c6
   have H1 : (some (-1)) = some r := by rw [if_neg (show ¬ (false = true) by decide)] at H; exact H
   clear H
   have H := H1
   clear H1
   obtain rfl := Option.some.inj H
   go_enter Tryd.func57, Tryd.ntmps57
   go_wp2_with (first | ((with_reducible refine gate_callee (f := 67) rfl ?_); refine gL_ (some 8) Tryd.func67 #[.int .i64 a0] ?_; (with_reducible refine (cmp_isNaN_int64.calls a0 true _ A3.out).mono ?_); rintro e w' ⟨rfl, ⟨nd, rfl⟩⟩; refine ⟨_, rfl, ?_⟩) | ((with_reducible refine gate_callee (f := 67) rfl ?_); refine gL_ (some 10) Tryd.func67 #[.int .i64 a1] ?_; (with_reducible refine (cmp_isNaN_int64.calls a1 false _ A4.out).mono ?_); rintro e w' ⟨rfl, ⟨nd, rfl⟩⟩; refine ⟨_, rfl, ?_⟩))
   go_ret
   exact ⟨r3_, by repeat (first | exact Drawn0.refl _ | apply Drawn0.step)⟩
 ·replace c5 := Bool.eq_false_iff.mpr c5
  subst c5
  have H1 : (if t270 = true then (some 1) else (if a0 < a1 then (some (-1)) else (if a0 > a1 then (some 1) else (some 0)))) = some r := by rw [if_neg (show ¬ (false = true) by decide)] at H; exact H
  clear H
  have H := H1
  clear H1
  by_cases c7 : t270 = true
  ·subst c7
   have H1 : (some 1) = some r := by rw [if_pos rfl] at H; exact H
   clear H
   have H := H1
   clear H1
   obtain rfl := Option.some.inj H
   go_enter Tryd.func57, Tryd.ntmps57
   go_wp2_with (first | ((with_reducible refine gate_callee (f := 67) rfl ?_); refine gL_ (some 8) Tryd.func67 #[.int .i64 a0] ?_; (with_reducible refine (cmp_isNaN_int64.calls a0 false _ A3.out).mono ?_); rintro e w' ⟨rfl, ⟨nd, rfl⟩⟩; refine ⟨_, rfl, ?_⟩) | ((with_reducible refine gate_callee (f := 67) rfl ?_); refine gL_ (some 10) Tryd.func67 #[.int .i64 a1] ?_; (with_reducible refine (cmp_isNaN_int64.calls a1 true _ A4.out).mono ?_); rintro e w' ⟨rfl, ⟨nd, rfl⟩⟩; refine ⟨_, rfl, ?_⟩))
   go_ret
   exact ⟨r3_, by repeat (first | exact Drawn0.refl _ | apply Drawn0.step)⟩
  ·replace c7 := Bool.eq_false_iff.mpr c7
   subst c7
   have H1 : (if a0 < a1 then (some (-1)) else (if a0 > a1 then (some 1) else (some 0))) = some r := by rw [if_neg (show ¬ (false = true) by decide)] at H; exact H
   clear H
   have H := H1
   clear H1
   by_cases c8 : a0 < a1
   ·rw [if_pos c8] at H
    have c8b0 : decide (a0 < a1) = true := decide_eq_true c8
    clear c8
    obtain rfl := Option.some.inj H
    go_enter Tryd.func57, Tryd.ntmps57
    go_wp2_with (first | ((with_reducible refine gate_callee (f := 67) rfl ?_); refine gL_ (some 8) Tryd.func67 #[.int .i64 a0] ?_; (with_reducible refine (cmp_isNaN_int64.calls a0 false _ A3.out).mono ?_); rintro e w' ⟨rfl, ⟨nd, rfl⟩⟩; refine ⟨_, rfl, ?_⟩) | ((with_reducible refine gate_callee (f := 67) rfl ?_); refine gL_ (some 10) Tryd.func67 #[.int .i64 a1] ?_; (with_reducible refine (cmp_isNaN_int64.calls a1 false _ A4.out).mono ?_); rintro e w' ⟨rfl, ⟨nd, rfl⟩⟩; refine ⟨_, rfl, ?_⟩))
    go_ret
    exact ⟨r3_, by repeat (first | exact Drawn0.refl _ | apply Drawn0.step)⟩
   ·rw [if_neg c8] at H
    have c8b0 : decide (a0 < a1) = false := decide_eq_false c8
    clear c8
    by_cases c9 : a0 > a1
    ·rw [if_pos c9] at H
     have c9b0 : decide (a1 < a0) = true := decide_eq_true c9
     clear c9
     obtain rfl := Option.some.inj H
     go_enter Tryd.func57, Tryd.ntmps57
     go_wp2_with (first | ((with_reducible refine gate_callee (f := 67) rfl ?_); refine gL_ (some 8) Tryd.func67 #[.int .i64 a0] ?_; (with_reducible refine (cmp_isNaN_int64.calls a0 false _ A3.out).mono ?_); rintro e w' ⟨rfl, ⟨nd, rfl⟩⟩; refine ⟨_, rfl, ?_⟩) | ((with_reducible refine gate_callee (f := 67) rfl ?_); refine gL_ (some 10) Tryd.func67 #[.int .i64 a1] ?_; (with_reducible refine (cmp_isNaN_int64.calls a1 false _ A4.out).mono ?_); rintro e w' ⟨rfl, ⟨nd, rfl⟩⟩; refine ⟨_, rfl, ?_⟩))
     go_ret
     exact ⟨r3_, by repeat (first | exact Drawn0.refl _ | apply Drawn0.step)⟩
    ·rw [if_neg c9] at H
     have c9b0 : decide (a1 < a0) = false := decide_eq_false c9
     clear c9
     obtain rfl := Option.some.inj H
     go_enter Tryd.func57, Tryd.ntmps57
     go_wp2_with (first | ((with_reducible refine gate_callee (f := 67) rfl ?_); refine gL_ (some 8) Tryd.func67 #[.int .i64 a0] ?_; (with_reducible refine (cmp_isNaN_int64.calls a0 false _ A3.out).mono ?_); rintro e w' ⟨rfl, ⟨nd, rfl⟩⟩; refine ⟨_, rfl, ?_⟩) | ((with_reducible refine gate_callee (f := 67) rfl ?_); refine gL_ (some 10) Tryd.func67 #[.int .i64 a1] ?_; (with_reducible refine (cmp_isNaN_int64.calls a1 false _ A4.out).mono ?_); rintro e w' ⟨rfl, ⟨nd, rfl⟩⟩; refine ⟨_, rfl, ?_⟩))
     go_ret
     exact ⟨r3_, by repeat (first | exact Drawn0.refl _ | apply Drawn0.step)⟩

/-! ### impl_compareCells: function 37 -/
def impl_compareCells.f (a0_0 : Int) (a0_1 : Int) (a1_0 : Int) (a1_1 : Int) : Option (Int) := (cmp_Compare_int64.f a0_1 a1_1).bind fun t273 => (if t273 = 0 then ((cmp_Compare_int64.f a0_0 a1_0).bind fun t274 => (some t274)) else (some t273))
set_option maxHeartbeats 8000000 in
set_option maxRecDepth 100000 in
theorem impl_compareCells.calls (a0_0 : Int) (a0_1 : Int) (a1_0 : Int) (a1_1 : Int) (r : Int) (w : World) (h : impl_compareCells.f a0_0 a0_1 a1_0 a1_1 = some r) :
  Calls Tryd.prog 37 #[.agg #[.int .i64 a0_0, .int .i64 a0_1], .agg #[.int .i64 a1_0, .int .i64 a1_1]] w fun e w' => e = .returned (.int .i64 r) ∧ Below w.heap.size w w' := by
 have hu43 := Tryd.underlying43
 have HB := Aside0.mk (Below.refl w.heap.size w)
 have H : ((cmp_Compare_int64.f a0_1 a1_1).bind fun t273 => (if t273 = 0 then ((cmp_Compare_int64.f a0_0 a1_0).bind fun t274 => (some t274)) else (some t273))) = some r := h
 clear h
 replace H := Option.bind_eq_some_iff.mp H
 obtain ⟨t273, A30, H⟩ := H
 try dsimp only at H
 have A3 := Aside0.mk A30
 clear A30
 by_cases c4 : t273 = 0
 ·rw [if_pos c4] at H
  have c4b0 : (t273 == 0) = true := beq_iff_eq.mpr c4
  have c4b1 : (t273 != 0) = false := bne_eq_false_iff_eq.mpr c4
  clear c4
  replace H := Option.bind_eq_some_iff.mp H
  obtain ⟨t274, A50, H⟩ := H
  try dsimp only at H
  have A5 := Aside0.mk A50
  clear A50
  obtain rfl := Option.some.inj H
  go_enter Tryd.func37, Tryd.ntmps37
  go_wp2_with (first | ((with_reducible refine gate_dst (N := 2) rfl ?_); refine box_event ?hg (N := 2) ?hd (cs := #[.int .i64 a0_0, .int .i64 a0_1]) (t := 43) ?hr ?_; (case hd => rfl); (case hg => rfl); (case hr => first | (go_simp; done) | (go_simp; rfl)); intro gb271 hg w6 hbox hb; have BK271 := Aside0.mk (hbox); have GW271 := Aside0.mk ((by rw [hg]; exact (below_size bB_) : w.heap.size ≤ gb271)); have GE271 := Aside0.mk ((by rw [hg]; exact (below_size bB_) : w.heap.size ≤ gb271)); replace HB := Aside0.mk (below_step bB_ hb); clear hb hbox hg) | ((with_reducible refine gate_dst (N := 3) rfl ?_); refine box_event ?hg (N := 3) ?hd (cs := #[.int .i64 a1_0, .int .i64 a1_1]) (t := 43) ?hr ?_; (case hd => rfl); (case hg => rfl); (case hr => first | (go_simp; done) | (go_simp; rfl)); intro gb272 hg w7 hbox hb; have BK272 := Aside0.mk (hbox); have GW272 := Aside0.mk ((by rw [hg]; exact (below_size (by repeat (first | (with_reducible first | exact HB.out | apply below_alloc | apply pw_below_drewN | apply below_drew1 | refine below_set ?_ GE271.out) | exact HB.out))) : w.heap.size ≤ gb272)); have GE272 := Aside0.mk ((by rw [hg]; exact (below_size (by repeat (first | (with_reducible first | exact HB.out | apply below_alloc | apply pw_below_drewN | apply below_drew1 | refine below_set ?_ GE271.out) | exact HB.out))) : w.heap.size ≤ gb272)); replace HB := Aside0.mk (below_step (by repeat (first | (with_reducible first | exact HB.out | apply below_alloc | apply pw_below_drewN | apply below_drew1 | refine below_set ?_ GE271.out) | exact HB.out)) hb); have NB271_272 := Aside0.mk ((by rw [hg]; exact Nat.ne_of_lt (blk_lt (g := gb271) (o := .cells #[.int .i64 a0_0, .int .i64 a0_1] 43 (0, 0)) (by (with_reducible repeat (first | refine blk_drewN ?_ _ | refine blk_drew ?_ | refine blk_alloc ?_ _)); exact BK271.out)) : gb271 ≠ gb272)); have NB272_271 := Aside0.mk ((by rw [hg]; exact Nat.ne_of_gt (blk_lt (g := gb271) (o := .cells #[.int .i64 a0_0, .int .i64 a0_1] 43 (0, 0)) (by (with_reducible repeat (first | refine blk_drewN ?_ _ | refine blk_drew ?_ | refine blk_alloc ?_ _)); exact BK271.out)) : gb272 ≠ gb271)); replace BK271 := Aside0.mk (blk_below (g := gb271) (o := .cells #[.int .i64 a0_0, .int .i64 a0_1] 43 (0, 0)) (by (with_reducible repeat (first | refine blk_drewN ?_ _ | refine blk_drew ?_ | refine blk_alloc ?_ _)); exact BK271.out) hb); clear hb hbox hg; have hnb8 := NB271_272.out; have hnc8 := NB272_271.out; have hcz9_0 : w7.cell? ⟨gb271, 0, none⟩ = some (.int .i64 a0_0) := (blk_cell BK271.out 0).trans rfl; have hcz9_1 : w7.cell? ⟨gb271, 1, none⟩ = some (.int .i64 a0_1) := (blk_cell BK271.out 1).trans rfl; have hfz9_0 := blk_frozen BK271.out 0; have hfz9_1 := blk_frozen BK271.out 1; have hcz10_0 : w7.cell? ⟨gb272, 0, none⟩ = some (.int .i64 a1_0) := (blk_cell BK272.out 0).trans rfl; have hcz10_1 : w7.cell? ⟨gb272, 1, none⟩ = some (.int .i64 a1_1) := (blk_cell BK272.out 1).trans rfl; have hfz10_0 := blk_frozen BK272.out 0; have hfz10_1 := blk_frozen BK272.out 1) | ((with_reducible refine gate_callee (f := 57) rfl ?_); refine gL_ (some 10) Tryd.func57 #[.int .i64 a0_1, .int .i64 a1_1] ?_; (with_reducible refine (cmp_Compare_int64.calls a0_1 a1_1 t273 _ A3.out).mono ?_); rintro e w' ⟨rfl, ⟨nd, rfl⟩⟩; refine ⟨_, rfl, ?_⟩) | ((with_reducible refine gate_callee (f := 57) rfl ?_); refine gL_ (some 18) Tryd.func57 #[.int .i64 a0_0, .int .i64 a1_0] ?_; (with_reducible refine (cmp_Compare_int64.calls a0_0 a1_0 t274 _ A5.out).mono ?_); rintro e w' ⟨rfl, ⟨nd, rfl⟩⟩; refine ⟨_, rfl, ?_⟩))
  go_ret
  exact ⟨r2_, by repeat (first | (with_reducible first | exact HB.out | apply below_alloc | apply pw_below_drewN | apply below_drew1 | refine below_set ?_ GE271.out | refine below_set ?_ GE272.out) | exact HB.out)⟩
 ·rw [if_neg c4] at H
  have c4b0 : (t273 == 0) = false := beq_eq_false_iff_ne.mpr c4
  have c4b1 : (t273 != 0) = true := bne_iff_ne.mpr c4
  obtain rfl := Option.some.inj H
  go_enter Tryd.func37, Tryd.ntmps37
  go_wp2_with (first | ((with_reducible refine gate_dst (N := 2) rfl ?_); refine box_event ?hg (N := 2) ?hd (cs := #[.int .i64 a0_0, .int .i64 a0_1]) (t := 43) ?hr ?_; (case hd => rfl); (case hg => rfl); (case hr => first | (go_simp; done) | (go_simp; rfl)); intro gb271 hg w11 hbox hb; have BK271 := Aside0.mk (hbox); have GW271 := Aside0.mk ((by rw [hg]; exact (below_size bB_) : w.heap.size ≤ gb271)); have GE271 := Aside0.mk ((by rw [hg]; exact (below_size bB_) : w.heap.size ≤ gb271)); replace HB := Aside0.mk (below_step bB_ hb); clear hb hbox hg) | ((with_reducible refine gate_dst (N := 3) rfl ?_); refine box_event ?hg (N := 3) ?hd (cs := #[.int .i64 a1_0, .int .i64 a1_1]) (t := 43) ?hr ?_; (case hd => rfl); (case hg => rfl); (case hr => first | (go_simp; done) | (go_simp; rfl)); intro gb272 hg w12 hbox hb; have BK272 := Aside0.mk (hbox); have GW272 := Aside0.mk ((by rw [hg]; exact (below_size (by repeat (first | (with_reducible first | exact HB.out | apply below_alloc | apply pw_below_drewN | apply below_drew1 | refine below_set ?_ GE271.out) | exact HB.out))) : w.heap.size ≤ gb272)); have GE272 := Aside0.mk ((by rw [hg]; exact (below_size (by repeat (first | (with_reducible first | exact HB.out | apply below_alloc | apply pw_below_drewN | apply below_drew1 | refine below_set ?_ GE271.out) | exact HB.out))) : w.heap.size ≤ gb272)); replace HB := Aside0.mk (below_step (by repeat (first | (with_reducible first | exact HB.out | apply below_alloc | apply pw_below_drewN | apply below_drew1 | refine below_set ?_ GE271.out) | exact HB.out)) hb); have NB271_272 := Aside0.mk ((by rw [hg]; exact Nat.ne_of_lt (blk_lt (g := gb271) (o := .cells #[.int .i64 a0_0, .int .i64 a0_1] 43 (0, 0)) (by (with_reducible repeat (first | refine blk_drewN ?_ _ | refine blk_drew ?_ | refine blk_alloc ?_ _)); exact BK271.out)) : gb271 ≠ gb272)); have NB272_271 := Aside0.mk ((by rw [hg]; exact Nat.ne_of_gt (blk_lt (g := gb271) (o := .cells #[.int .i64 a0_0, .int .i64 a0_1] 43 (0, 0)) (by (with_reducible repeat (first | refine blk_drewN ?_ _ | refine blk_drew ?_ | refine blk_alloc ?_ _)); exact BK271.out)) : gb272 ≠ gb271)); replace BK271 := Aside0.mk (blk_below (g := gb271) (o := .cells #[.int .i64 a0_0, .int .i64 a0_1] 43 (0, 0)) (by (with_reducible repeat (first | refine blk_drewN ?_ _ | refine blk_drew ?_ | refine blk_alloc ?_ _)); exact BK271.out) hb); clear hb hbox hg; have hnb13 := NB271_272.out; have hnc13 := NB272_271.out; have hcz14_0 : w12.cell? ⟨gb271, 0, none⟩ = some (.int .i64 a0_0) := (blk_cell BK271.out 0).trans rfl; have hcz14_1 : w12.cell? ⟨gb271, 1, none⟩ = some (.int .i64 a0_1) := (blk_cell BK271.out 1).trans rfl; have hfz14_0 := blk_frozen BK271.out 0; have hfz14_1 := blk_frozen BK271.out 1; have hcz15_0 : w12.cell? ⟨gb272, 0, none⟩ = some (.int .i64 a1_0) := (blk_cell BK272.out 0).trans rfl; have hcz15_1 : w12.cell? ⟨gb272, 1, none⟩ = some (.int .i64 a1_1) := (blk_cell BK272.out 1).trans rfl; have hfz15_0 := blk_frozen BK272.out 0; have hfz15_1 := blk_frozen BK272.out 1) | ((with_reducible refine gate_callee (f := 57) rfl ?_); refine gL_ (some 10) Tryd.func57 #[.int .i64 a0_1, .int .i64 a1_1] ?_; (with_reducible refine (cmp_Compare_int64.calls a0_1 a1_1 t273 _ A3.out).mono ?_); rintro e w' ⟨rfl, ⟨nd, rfl⟩⟩; refine ⟨_, rfl, ?_⟩))
  go_ret
  exact ⟨r2_, by repeat (first | (with_reducible first | exact HB.out | apply below_alloc | apply pw_below_drewN | apply below_drew1 | refine below_set ?_ GE271.out | refine below_set ?_ GE272.out) | exact HB.out)⟩

end Go.Proofs.YtpilmhjbgbpbmaaDoor.X
