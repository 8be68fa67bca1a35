-- xprint.py
import Derived.Test.YtbfmocohknadkaaXx0
import Derived.Test.YtbfmocohknadkaaXx2
import Derived.Test.YtbfmocohknadkaaXx3
import Derived.Test.YtbfmocohknadkaaXx13
import Derived.Test.YtbfmocohknadkaaXx17
import Derived.Test.YtbfmocohknadkaaXx18
namespace Go.Proofs.Ytbfmocohknadkaa.X
open Go.RowKit Go.Proofs.YtbfmocohknadkaaW.PrintWords Go.Proofs.YtbfmocohknadkaaW.PrintLast Go.Proofs.YtbfmocohknadkaaW.PrintMore
attribute [local go_sem] max2_int min2_int max_two min_two max_three min_three max_four min_four   -- for this text's walks alone
set_option linter.unusedVariables false
set_option linter.unusedSimpArgs false

/-! ### spec_DrawMoveShape: function 56 -/
def spec_DrawMoveShape.f (k : Nat) (l0 : List Int) : Option ((List (S57)) × Int × Int) := (spec_l01From.f k l0).bind fun bt1094 => ((spec_l02Draw.f k bt1094.1 bt1094.2.1 bt1094.2.2).bind fun bt1098 => ((spec_l01Next.f bt1094.1 bt1098.2.1 bt1098.2.2 8).bind fun bt1103 => (if bt1103.1 = 0 then ((some (([(-200), 200, 201, 100] : List Int) : List Int)).bind fun y1106 => ((spec_l01Next.f bt1094.1 bt1103.2.1 bt1103.2.2 4).bind fun bt1109 => (if 0 ≤ bt1109.1 then (if bt1109.1 < (y1106.length : Int) then ((spec_l01Next.f bt1094.1 bt1109.2.1 bt1109.2.2 9).bind fun bt1113 => (some (bt1098.1, rd y1106 bt1109.1, bt1113.1))) else (none)) else (none)))) else ((spec_l01Next.f bt1094.1 bt1103.2.1 bt1103.2.2 21).bind fun bt1116 => ((spec_l01Next.f bt1094.1 bt1116.2.1 bt1116.2.2 21).bind fun bt1119 => (some (bt1098.1, wrap64 (bt1116.1 - 10), wrap64 (bt1119.1 - 10))))))))
theorem spec_DrawMoveShape.mono : ∀ a0 k, LeO (spec_DrawMoveShape.f k a0) (spec_DrawMoveShape.f (k + 1) a0) := by
 intro a0 k
 unfold spec_DrawMoveShape.f
 repeat' first
   | (with_reducible exact spec_l01From.mono _ _)
   | (with_reducible exact spec_l02Draw.mono _ _ _ _)
   | (with_reducible exact LeO.refl _)
   | (with_reducible exact LeO.none _)
   | (with_reducible refine LeO.ite ?_ ?_)
   | (with_reducible refine LeO.bind ?_ (fun _ => ?_))
   | exact spec_l01From.mono _ _
   | exact spec_l02Draw.mono _ _ _ _
   | exact LeO.none _
   | refine LeO.ite ?_ ?_
   | refine LeO.bind ?_ (fun _ => ?_)
def spec_DrawMoveShape.T4 : Bool × List (List Nat × List Nat) := (true, [([], []), ([], []), ([], []), ([2], [2]), ([1, 3], [1, 3]), ([4], [4]), ([], []), ([6, 3], [6]), ([0, 7, 0], [0]), ([5, 8, 0, 1, 2, 3, 4, 5, 8], [5]), ([7, 9, 0, 1, 2, 3, 4, 5, 6, 7, 8, 9], [7])])
def spec_DrawMoveShape.B4 : List Nat := [0, 0, 0, 4, 14, 30, 0, 76, 205, 511, 1023]
theorem spec_DrawMoveShape.tab4 : rtab .any (opsOf Try.f56 4) = spec_DrawMoveShape.T4 := by kernel_rfl
theorem spec_DrawMoveShape.bits4 : waitsOk spec_DrawMoveShape.T4.2 spec_DrawMoveShape.B4 = true := by kernel_rfl
set_option maxHeartbeats 8000000 in
set_option maxRecDepth 100000 in
theorem spec_DrawMoveShape.calls (k : Nat) (A0 : Option Addr) (c0 : Nat) (l0 : List Int) (r1 : List (S57)) (r2 : Int) (r3 : Int) (w : World) (hr0 : Kd.C (Kd.int .u8) w A0 l0.length l0) (hc0 : l0.length ≤ c0) (h : spec_DrawMoveShape.f k l0 = some (r1, r2, r3)) :
  Calls Try.prog 56 #[.slice A0 l0.length c0] w fun e w' => ∃ v0_ : Value, e = .returned (.tuple #[v0_, .int .i64 r2, .int .i64 r3]) ∧ Kd.R k57 57 w' w.heap.size (fun _ => True) v0_ r1 ∧ Below w.heap.size w w' := by
 have HR0 := Aside0.mk hr0
 have HC0 := Aside0.mk hc0
 clear hr0 hc0
 have HB := Aside0.mk (Below.refl w.heap.size w)
 have H : ((spec_l01From.f k l0).bind fun bt1094 => ((spec_l02Draw.f k bt1094.1 bt1094.2.1 bt1094.2.2).bind fun bt1098 => ((spec_l01Next.f bt1094.1 bt1098.2.1 bt1098.2.2 8).bind fun bt1103 => (if bt1103.1 = 0 then ((some (([(-200), 200, 201, 100] : List Int) : List Int)).bind fun y1106 => ((spec_l01Next.f bt1094.1 bt1103.2.1 bt1103.2.2 4).bind fun bt1109 => (if 0 ≤ bt1109.1 then (if bt1109.1 < (y1106.length : Int) then ((spec_l01Next.f bt1094.1 bt1109.2.1 bt1109.2.2 9).bind fun bt1113 => (some (bt1098.1, rd y1106 bt1109.1, bt1113.1))) else (none)) else (none)))) else ((spec_l01Next.f bt1094.1 bt1103.2.1 bt1103.2.2 21).bind fun bt1116 => ((spec_l01Next.f bt1094.1 bt1116.2.1 bt1116.2.2 21).bind fun bt1119 => (some (bt1098.1, wrap64 (bt1116.1 - 10), wrap64 (bt1119.1 - 10))))))))) = some (r1, r2, r3) := h
 clear h
 replace H := Option.bind_eq_some_iff.mp H
 obtain ⟨⟨t1094, t1095, t1096⟩, A20, H⟩ := H
 try dsimp only at H
 have A2 := Aside0.mk A20
 clear A20
 replace H := Option.bind_eq_some_iff.mp H
 obtain ⟨⟨t1098, t1101, t1102⟩, A30, H⟩ := H
 try dsimp only at H
 have A3 := Aside0.mk A30
 clear A30
 replace H := Option.bind_eq_some_iff.mp H
 obtain ⟨⟨t1103, t1104, t1105⟩, A40, H⟩ := H
 try dsimp only at H
 have A4 := Aside0.mk A40
 clear A40
 by_cases c5 : t1103 = 0
 ·rw [if_pos c5] at H
  have c5b0 : (t1103 == 0) = true := beq_iff_eq.mpr c5
  have c5b1 : (t1103 != 0) = false := bne_eq_false_iff_eq.mpr c5
  clear c5
  obtain ⟨y1106, hY_⟩ : ∃ y_ : List Int, y_ = (([(-200), 200, 201, 100] : List Int)) := ⟨_, rfl⟩
  replace H : ((spec_l01Next.f t1094 t1104 t1105 4).bind fun bt1109 => (if 0 ≤ bt1109.1 then (if bt1109.1 < (y1106.length : Int) then ((spec_l01Next.f t1094 bt1109.2.1 bt1109.2.2 9).bind fun bt1113 => (some (t1098, rd y1106 bt1109.1, bt1113.1))) else (none)) else (none))) = some (r1, r2, r3) := yY_
  have Ny1106 := Aside0.mk hY_
  clear hY_
  replace H := Option.bind_eq_some_iff.mp H
  obtain ⟨⟨t1109, t1110, t1111⟩, A60, H⟩ := H
  try dsimp only at H
  have A6 := Aside0.mk A60
  clear A60
  by_cases c7 : 0 ≤ t1109
  ·rw [if_pos c7] at H
   have c7b0 : decide (0 ≤ t1109) = true := decide_eq_true c7
   clear c7
   by_cases c8 : t1109 < (y1106.length : Int)
   ·rw [if_pos c8] at H
    have c8b0 : decide (t1109 < (y1106.length : Int)) = true := decide_eq_true c8
    clear c8
    replace H := Option.bind_eq_some_iff.mp H
    obtain ⟨⟨t1113, t1114, t1115⟩, A90, H⟩ := H
    try dsimp only at H
    have A9 := Aside0.mk A90
    clear A90
    simp only [Option.some.injEq, Prod.mk.injEq] at H
    obtain ⟨rfl, rfl, rfl⟩ := H
    go_enter Try.func56, Try.ntmps56
    try go_wp2_with (first | ((with_reducible refine gate_callee (f := 77) rfl ?_); refine gL_ (some 8) Try.func77 #[.slice A0 l0.length c0] ?_; (with_reducible refine (spec_l01From.calls k _ _ l0 t1094 t1095 t1096 w _ ?side1 ?side2 ?side3 A2.out).mono ?_); (case side1 => repeat (first | (with_reducible first | exact HB.out | apply below_alloc | apply pw_below_drewN | apply below_drew1) | exact HB.out)); (case side2 => exact HR0.out); (case side3 => exact HC0.out); rintro e w10 ⟨g1097, rfl, hi, hb, hb2⟩; refine ⟨_, rfl, ?_⟩; replace HB := Aside0.mk (hb); have HI1097 := Aside0.mk (hi); (try clear hb hb2 hi)) | ((with_reducible refine gate_callee (f := 76) rfl ?_); refine gL_ (some 10) Try.func76 #[.pointer (some ⟨g1097, 0, none⟩)] ?_; (with_reducible refine (spec_l02Draw.calls k g1097 t1094 t1095 t1096 t1098 t1101 t1102 w _ ?side1 ?side2 A3.out).mono ?_); (case side1 => repeat (first | (with_reducible first | exact HI1097.out | apply IsS96.alloc | apply IsS96.drewN | apply IsS96.drew | apply IsS96.set_1 | apply IsS96.set_2) | exact HI1097.out)); (case side2 => repeat (first | (with_reducible first | exact HB.out | apply below_alloc | apply pw_below_drewN | apply below_drew1 | refine below_set ?_ (IsS96.ge HI1097.out)) | exact HB.out)); rintro e w11 ⟨v1099, rfl, ho0, hi, hb, hk⟩; refine ⟨_, rfl, ?_⟩; have HO1100 := Aside0.mk (Kd.R_lower ho0 (below_size (by repeat (first | (with_reducible first | exact HB.out | apply below_alloc | apply pw_below_drewN | apply below_drew1 | refine below_set ?_ (IsS96.ge HI1097.out)) | exact HB.out)))); replace HB := Aside0.mk (hb); replace HI1097 := Aside0.mk (hi); (try clear hb hk hi ho0)) | ((with_reducible refine gate_callee (f := 96) rfl ?_); refine gL_ (some 12) Try.func96 #[.pointer (some ⟨g1097, 0, none⟩), .int .i64 8] ?_; (with_reducible refine (spec_l01Next.calls g1097 t1094 t1101 t1102 8 t1103 t1104 t1105 w _ ?side1 ?side2 A4.out).mono ?_); (case side1 => repeat (first | (with_reducible first | exact HI1097.out | apply IsS96.alloc | apply IsS96.drewN | apply IsS96.drew | apply IsS96.set_1 | apply IsS96.set_2) | exact HI1097.out)); (case side2 => repeat (first | (with_reducible first | exact HB.out | apply below_alloc | apply pw_below_drewN | apply below_drew1 | refine below_set ?_ (IsS96.ge HI1097.out)) | exact HB.out)); rintro e w12 ⟨rfl, hi, hb, hk⟩; refine ⟨_, rfl, ?_⟩; replace HO1100 := Aside0.mk (Kd.R_mono (Kd.R_keep (IsS96.apart (show IsS96 w _ g1097 t1094 t1101 t1102 from by repeat (first | (with_reducible first | exact HI1097.out | apply IsS96.alloc | apply IsS96.drewN | apply IsS96.drew | apply IsS96.set_1 | apply IsS96.set_2) | exact HI1097.out)) (rS_ HO1100.out) (by decide)) hk (fun _ h => h.2)) (fun _ h => h.1)); replace HB := Aside0.mk (hb); replace HI1097 := Aside0.mk (hi); (try clear hb hk hi)))
    have pi1112 : (0 ≤ (t1109 : Int)) = True := eq_true (of_decide_eq_true aS_)
    have qi1112 : (t1109 < (y1106.length : Int)) = True := eq_true (of_decide_eq_true aS_)
    replace HO1100 := Aside0.mk (Kd.R_drew HO1100.out)
    replace HI1097 := Aside0.mk (IsS96.drew HI1097.out)
    replace HB := Aside0.mk (below_drew1 HB.out)
    refine start_ (n := 11) (S := fun w' => True) (ds := []) #[F, F, F, F, F, F, F, F, F, F, F] (by kernel_rfl) rfl rfl trivial (fun hHeld => ?_); refine with_tabW spec_DrawMoveShape.tab4 spec_DrawMoveShape.bits4 (fun HT_ HW_ => ?_)
    generalize w12.drew = w13 at HO1100 HI1097 HB hHeld ⊢
    refine pu_ HT_ 0 (some 14) #[T,F,F,F,F,F,F,F,F,F,F] ?_
    refine pu_ HT_ 2 (some 16) #[T,F,T,F,F,F,F,F,F,F,F] ?_
    refine pu_ HT_ 6 (some 20) #[T,F,T,F,F,F,T,F,F,F,F] ?_
    refine join_ (σ := Value × Addr) 2 #[T, T, T, T, T, T, T, T, T, F, F] (fun s_ => [(15, s_.1), (17, .int .i64 t1109), (19, .int .i64 (rd y1106 t1109)), (21, .int .i64 t1113), (18, .pointer (some (s_.2.add (t1109).toNat))), (2, v1099)]) (fun s_ w' => (Kd.R k57 57 w' w.heap.size (fun _ => True) v1099 t1098) ∧ (Kd.R (Kd.int .i64) 2 w' w.heap.size (fun _ => True) s_.1 y1106) ∧ (∃ c_, (s_.1 : Value) = .slice (some s_.2) y1106.length c_) ∧ (IsS96 w w' g1097 t1094 t1114 t1115) ∧ (Below w.heap.size w w')) ?_ ?_
    rotate_left
    ·intro hJ1_3_5_7
     refine join_ (σ := Value × Addr) 4 #[T, T, T, T, T, T, T, F, F, F, F] (fun s_ => [(15, s_.1), (17, .int .i64 t1109), (19, .int .i64 (rd y1106 t1109)), (18, .pointer (some (s_.2.add (t1109).toNat)))]) (fun s_ w' => (Kd.R k57 57 w' w.heap.size (fun _ => True) v1099 t1098) ∧ (Kd.R (Kd.int .i64) 2 w' w.heap.size (fun _ => True) s_.1 y1106) ∧ (∃ c_, (s_.1 : Value) = .slice (some s_.2) y1106.length c_) ∧ (IsS96 w w' g1097 t1094 t1110 t1111) ∧ (Below w.heap.size w w')) ?_ ?_
     rotate_left
     ·intro hJ1_3_5
      refine join_ (σ := Value × Addr) 3 #[T, T, T, T, T, F, T, T, T, F, F] (fun s_ => [(15, s_.1), (17, .int .i64 t1109), (21, .int .i64 t1113), (18, .pointer (some (s_.2.add (t1109).toNat))), (2, v1099)]) (fun s_ w' => (Kd.R k57 57 w' w.heap.size (fun _ => True) v1099 t1098) ∧ (Kd.R (Kd.int .i64) 2 w' w.heap.size (fun _ => True) s_.1 y1106) ∧ (∃ c_, (s_.1 : Value) = .slice (some s_.2) y1106.length c_) ∧ (IsS96 w w' g1097 t1094 t1114 t1115) ∧ (Below w.heap.size w w')) ?_ ?_
      rotate_left
      ·intro hJ1_3_7
       refine join_ (σ := Value × Addr) 5 #[T, T, T, T, T, F, T, F, F, F, F] (fun s_ => [(15, s_.1), (17, .int .i64 t1109), (18, .pointer (some (s_.2.add (t1109).toNat)))]) (fun s_ w' => (Kd.R k57 57 w' w.heap.size (fun _ => True) v1099 t1098) ∧ (Kd.R (Kd.int .i64) 2 w' w.heap.size (fun _ => True) s_.1 y1106) ∧ (∃ c_, (s_.1 : Value) = .slice (some s_.2) y1106.length c_) ∧ (IsS96 w w' g1097 t1094 t1110 t1111) ∧ (Below w.heap.size w w')) ?_ ?_
       rotate_left
       ·intro hJ1_3
        refine join_ (σ := Unit) 5 #[T, F, T, T, F, F, T, T, T, F, F] (fun s_ => [(17, .int .i64 t1109), (21, .int .i64 t1113), (2, v1099)]) (fun s_ w' => (Kd.R k57 57 w' w.heap.size (fun _ => True) v1099 t1098) ∧ (IsS96 w w' g1097 t1094 t1114 t1115) ∧ (Below w.heap.size w w')) ?_ ?_
        rotate_left
        ·intro hJ3_7
         refine join_ (σ := Value × Addr) 7 #[T, T, T, F, F, F, T, F, F, F, F] (fun s_ => [(15, s_.1)]) (fun s_ w' => (Kd.R k57 57 w' w.heap.size (fun _ => True) v1099 t1098) ∧ (Kd.R (Kd.int .i64) 2 w' w.heap.size (fun _ => True) s_.1 y1106) ∧ (∃ c_, (s_.1 : Value) = .slice (some s_.2) y1106.length c_) ∧ (IsS96 w w' g1097 t1094 t1104 t1105) ∧ (Below w.heap.size w w')) ?_ ?_
         rotate_left
         ·intro hJ1
          refine join_ (σ := Unit) 7 #[T, F, T, T, F, F, T, F, F, F, F] (fun s_ => [(17, .int .i64 t1109)]) (fun s_ w' => (Kd.R k57 57 w' w.heap.size (fun _ => True) v1099 t1098) ∧ (IsS96 w w' g1097 t1094 t1110 t1111) ∧ (Below w.heap.size w w')) ?_ ?_
          rotate_left
          ·intro hJ3
           refine two_ (i := 1) (j := 3) (Ni := some 15) (Nj := some 17) #[T, T, T, F, F, F, T, F, F, F, F] #[T, F, T, T, F, F, T, F, F, F, F] rfl rfl rfl rfl (two_of HT_.out (by kernel_rfl)) (by decide) (by decide) (fun K hK => ?_) (fun K hK => ?_)
           ·skip
            refine Kd.R_lit_step (Kd.int .i64) _ 2 ?hg (N := 15) ?hd (xs := ([(-200), 200, 201, 100] : List Int)) (inner := [.int .i64 (-200), .int .i64 200, .int .i64 201, .int .i64 100]) (ok := fun _ => True) (okp := fun _ => True) ?hr ?hp (fun _ hk => hk) trivial (Below.refl _ _) (Nat.le_refl _) (by simp) ?_; (case hd => rfl); (case hg => rfl); (case hr => first | (go_simp; done) | (go_simp; rfl)); (case hp => exact (Reps.one (show Kd.M (Kd.int .i64) _ _ _ (-200) [.int .i64 (-200)] from rfl) (Reps.one (show Kd.M (Kd.int .i64) _ _ _ 200 [.int .i64 200] from rfl) (Reps.one (show Kd.M (Kd.int .i64) _ _ _ 201 [.int .i64 201] from rfl) (Reps.one (show Kd.M (Kd.int .i64) _ _ _ 100 [.int .i64 100] from rfl) (Reps.none _ _))))))
            intro v1107 w14 ho15 hb hg_ hnew_
            clear hg_ hnew_
            (first | rw [← Ny1106.out] at ho15 | (simp only [Int.reduceToNat] at ho15; rw [← Ny1106.out] at ho15))
            replace HO1100 := Aside0.mk (Kd.R_below (rS_ HO1100.out) hb)
            have HO1108 := Aside0.mk (Kd.R_lower ho15 (below_size (by repeat (first | (with_reducible first | exact HB.out | apply below_alloc | apply pw_below_drewN | apply below_drew1 | refine below_set ?_ (IsS96.ge HI1097.out)) | exact HB.out))))
            replace HB := Aside0.mk (below_step (by repeat (first | (with_reducible first | exact HB.out | apply below_alloc | apply pw_below_drewN | apply below_drew1 | refine below_set ?_ (IsS96.ge HI1097.out)) | exact HB.out)) hb)
            replace HI1097 := Aside0.mk (IsS96.below (by repeat (first | (with_reducible first | exact HI1097.out | apply IsS96.alloc | apply IsS96.drewN | apply IsS96.drew | apply IsS96.set_1 | apply IsS96.set_2) | exact HI1097.out)) hb)
            clear hb ho15
            obtain ⟨Ao16, co16, eo16⟩ := Kd.R_slice HO1108.out
            subst eo16
            obtain ⟨ado16, fo16, _⟩ := Kd.at_int (Kd.R_reads' HO1108.out).2.2 0 (by decide) (by rw [Ny1106.out]; simp)
            cases fo16
            refine hK.out _ _ trivial (fun hHeld => ?_)
            clear hK K
            refine no_ (some 15) ?_
            exact norm_ (by first | (simp only [putAll, Act.put, List.setIfInBounds_toArray, List.set_cons_zero, List.set_cons_succ]; done) | (simp only [putAll, Act.put, List.setIfInBounds_toArray, List.set_cons_zero, List.set_cons_succ]; rfl)) (hJ1 (.slice (some ado16) y1106.length co16, ado16) _ ⟨(rS_ HO1100.out), (rS_ HO1108.out), ⟨_, rfl⟩, (by repeat (first | (with_reducible first | exact HI1097.out | apply IsS96.alloc | apply IsS96.drewN | apply IsS96.drew | apply IsS96.set_1 | apply IsS96.set_2) | exact HI1097.out)), (by repeat (first | (with_reducible first | exact HB.out | apply below_alloc | apply pw_below_drewN | apply below_drew1 | refine below_set ?_ (IsS96.ge HI1097.out)) | exact HB.out))⟩)
           ·skip
            refine goes_ Try.func96 (by kernel_rfl) rfl #[.pointer (some ⟨g1097, 0, none⟩), .int .i64 4] (by rfl) rfl rfl mA_ ?_
            with_reducible refine (spec_l01Next.calls g1097 t1094 t1104 t1105 4 t1109 t1110 t1111 w _ ?side1 ?side2 A6.out).mono ?_
            (case side1 => repeat (first | (with_reducible first | exact HI1097.out | apply IsS96.alloc | apply IsS96.drewN | apply IsS96.drew | apply IsS96.set_1 | apply IsS96.set_2) | exact HI1097.out))
            (case side2 => repeat (first | (with_reducible first | exact HB.out | apply below_alloc | apply pw_below_drewN | apply below_drew1 | refine below_set ?_ (IsS96.ge HI1097.out)) | exact HB.out))
            rintro e w14 ⟨rfl, hi, hb, hk⟩
            refine ⟨_, rfl, ?_⟩
            replace HO1100 := Aside0.mk (Kd.R_mono (Kd.R_keep (IsS96.apart (show IsS96 w _ g1097 t1094 t1104 t1105 from by repeat (first | (with_reducible first | exact HI1097.out | apply IsS96.alloc | apply IsS96.drewN | apply IsS96.drew | apply IsS96.set_1 | apply IsS96.set_2) | exact HI1097.out)) (rS_ HO1100.out) (by decide)) hk (fun _ h => h.2)) (fun _ h => h.1))
            replace HB := Aside0.mk (hb)
            replace HI1097 := Aside0.mk (hi)
            (try clear hb)
            (try clear hk)
            (try clear hi)
            refine hK.out _ _ trivial (fun hHeld => ?_)
            clear hK K
            refine no_ (some 17) ?_
            exact norm_ (by first | (simp only [putAll, Act.put, List.setIfInBounds_toArray, List.set_cons_zero, List.set_cons_succ]; done) | (simp only [putAll, Act.put, List.setIfInBounds_toArray, List.set_cons_zero, List.set_cons_succ]; rfl)) (hJ3 () _ ⟨(rS_ HO1100.out), (by repeat (first | (with_reducible first | exact HI1097.out | apply IsS96.alloc | apply IsS96.drewN | apply IsS96.drew | apply IsS96.set_1 | apply IsS96.set_2) | exact HI1097.out)), (by repeat (first | (with_reducible first | exact HB.out | apply below_alloc | apply pw_below_drewN | apply below_drew1 | refine below_set ?_ (IsS96.ge HI1097.out)) | exact HB.out))⟩)
          ·skip
           rintro _ w15 ⟨h0_, h1_, h2_⟩
           have n0_ : Aside0 (Kd.R k57 57 w15 w.heap.size (fun _ => True) v1099 t1098) := ⟨h0_⟩
           have n1_ : Aside0 (IsS96 w w15 g1097 t1094 t1110 t1111) := ⟨h1_⟩
           have n2_ : Aside0 (Below w.heap.size w w15) := ⟨h2_⟩
           clear HO1100
           clear HI1097
           clear HB
           clear h0_ h1_ h2_
           have HO1100 := n0_
           have HI1097 := n1_
           have HB := n2_
           clear n0_ n1_ n2_
           have hHeld := trivial
           refine norm_ (a' := ?_) ?_ ?_
           rotate_left
           ·simp only [putAll, Act.put, List.setIfInBounds_toArray, List.set_cons_zero, List.set_cons_succ]
            rfl
           refine two_ (i := 1) (j := 7) (Ni := some 15) (Nj := some 21) #[T, T, T, T, F, F, T, F, F, F, F] #[T, F, T, T, F, F, T, T, F, F, F] rfl rfl rfl rfl (two_of HT_.out (by kernel_rfl)) (by decide) (by decide) (fun K hK => ?_) (fun K hK => ?_)
           ·skip
            refine Kd.R_lit_step (Kd.int .i64) _ 2 ?hg (N := 15) ?hd (xs := ([(-200), 200, 201, 100] : List Int)) (inner := [.int .i64 (-200), .int .i64 200, .int .i64 201, .int .i64 100]) (ok := fun _ => True) (okp := fun _ => True) ?hr ?hp (fun _ hk => hk) trivial (Below.refl _ _) (Nat.le_refl _) (by simp) ?_; (case hd => rfl); (case hg => rfl); (case hr => first | (go_simp; done) | (go_simp; rfl)); (case hp => exact (Reps.one (show Kd.M (Kd.int .i64) _ _ _ (-200) [.int .i64 (-200)] from rfl) (Reps.one (show Kd.M (Kd.int .i64) _ _ _ 200 [.int .i64 200] from rfl) (Reps.one (show Kd.M (Kd.int .i64) _ _ _ 201 [.int .i64 201] from rfl) (Reps.one (show Kd.M (Kd.int .i64) _ _ _ 100 [.int .i64 100] from rfl) (Reps.none _ _))))))
            intro v1107 w16 ho17 hb hg_ hnew_
            clear hg_ hnew_
            (first | rw [← Ny1106.out] at ho17 | (simp only [Int.reduceToNat] at ho17; rw [← Ny1106.out] at ho17))
            replace HO1100 := Aside0.mk (Kd.R_below (rS_ HO1100.out) hb)
            have HO1108 := Aside0.mk (Kd.R_lower ho17 (below_size (by repeat (first | (with_reducible first | exact HB.out | apply below_alloc | apply pw_below_drewN | apply below_drew1 | refine below_set ?_ (IsS96.ge HI1097.out)) | exact HB.out))))
            replace HB := Aside0.mk (below_step (by repeat (first | (with_reducible first | exact HB.out | apply below_alloc | apply pw_below_drewN | apply below_drew1 | refine below_set ?_ (IsS96.ge HI1097.out)) | exact HB.out)) hb)
            replace HI1097 := Aside0.mk (IsS96.below (by repeat (first | (with_reducible first | exact HI1097.out | apply IsS96.alloc | apply IsS96.drewN | apply IsS96.drew | apply IsS96.set_1 | apply IsS96.set_2) | exact HI1097.out)) hb)
            clear hb ho17
            obtain ⟨Ao18, co18, eo18⟩ := Kd.R_slice HO1108.out
            subst eo18
            obtain ⟨ado18, fo18, _⟩ := Kd.at_int (Kd.R_reads' HO1108.out).2.2 0 (by decide) (by rw [Ny1106.out]; simp)
            cases fo18
            refine hK.out _ _ trivial (fun hHeld => ?_)
            clear hK K
            refine no_ (some 15) ?_
            refine pu_ HT_ 4 (some 18) #[T,T,T,T,T,F,T,F,F,F,F] ?_
            exact norm_ (by first | (simp only [putAll, Act.put, List.setIfInBounds_toArray, List.set_cons_zero, List.set_cons_succ]; done) | (simp only [putAll, Act.put, List.setIfInBounds_toArray, List.set_cons_zero, List.set_cons_succ]; rfl)) (hJ1_3 (.slice (some ado18) y1106.length co18, ado18) _ ⟨(rS_ HO1100.out), (rS_ HO1108.out), ⟨_, rfl⟩, (by repeat (first | (with_reducible first | exact HI1097.out | apply IsS96.alloc | apply IsS96.drewN | apply IsS96.drew | apply IsS96.set_1 | apply IsS96.set_2) | exact HI1097.out)), (by repeat (first | (with_reducible first | exact HB.out | apply below_alloc | apply pw_below_drewN | apply below_drew1 | refine below_set ?_ (IsS96.ge HI1097.out)) | exact HB.out))⟩)
           ·skip
            refine goes_ Try.func96 (by kernel_rfl) rfl #[.pointer (some ⟨g1097, 0, none⟩), .int .i64 9] (by rfl) rfl rfl mA_ ?_
            with_reducible refine (spec_l01Next.calls g1097 t1094 t1110 t1111 9 t1113 t1114 t1115 w _ ?side1 ?side2 A9.out).mono ?_
            (case side1 => repeat (first | (with_reducible first | exact HI1097.out | apply IsS96.alloc | apply IsS96.drewN | apply IsS96.drew | apply IsS96.set_1 | apply IsS96.set_2) | exact HI1097.out))
            (case side2 => repeat (first | (with_reducible first | exact HB.out | apply below_alloc | apply pw_below_drewN | apply below_drew1 | refine below_set ?_ (IsS96.ge HI1097.out)) | exact HB.out))
            rintro e w16 ⟨rfl, hi, hb, hk⟩
            refine ⟨_, rfl, ?_⟩
            replace HO1100 := Aside0.mk (Kd.R_mono (Kd.R_keep (IsS96.apart (show IsS96 w _ g1097 t1094 t1110 t1111 from by repeat (first | (with_reducible first | exact HI1097.out | apply IsS96.alloc | apply IsS96.drewN | apply IsS96.drew | apply IsS96.set_1 | apply IsS96.set_2) | exact HI1097.out)) (rS_ HO1100.out) (by decide)) hk (fun _ h => h.2)) (fun _ h => h.1))
            replace HB := Aside0.mk (hb)
            replace HI1097 := Aside0.mk (hi)
            (try clear hb)
            (try clear hk)
            (try clear hi)
            refine hK.out _ _ trivial (fun hHeld => ?_)
            clear hK K
            refine no_ (some 21) ?_
            refine pu_ HT_ 8 (some 2) #[T,F,T,T,F,F,T,T,T,F,F] ?_
            exact norm_ (by first | (simp only [putAll, Act.put, List.setIfInBounds_toArray, List.set_cons_zero, List.set_cons_succ]; done) | (simp only [putAll, Act.put, List.setIfInBounds_toArray, List.set_cons_zero, List.set_cons_succ]; rfl)) (hJ3_7 () _ ⟨(rS_ HO1100.out), (by repeat (first | (with_reducible first | exact HI1097.out | apply IsS96.alloc | apply IsS96.drewN | apply IsS96.drew | apply IsS96.set_1 | apply IsS96.set_2) | exact HI1097.out)), (by repeat (first | (with_reducible first | exact HB.out | apply below_alloc | apply pw_below_drewN | apply below_drew1 | refine below_set ?_ (IsS96.ge HI1097.out)) | exact HB.out))⟩)
         ·skip
          rintro ⟨v1107, adz_v1107⟩ w17 ⟨h0_, h1_, h2_, h3_, h4_⟩
          have n0_ : Aside0 (Kd.R k57 57 w17 w.heap.size (fun _ => True) v1099 t1098) := ⟨h0_⟩
          have n1_ : Aside0 (Kd.R (Kd.int .i64) 2 w17 w.heap.size (fun _ => True) v1107 y1106) := ⟨h1_⟩
          have n2_ : Aside0 (∃ c_, (v1107 : Value) = .slice (some adz_v1107) y1106.length c_) := ⟨h2_⟩
          have n3_ : Aside0 (IsS96 w w17 g1097 t1094 t1104 t1105) := ⟨h3_⟩
          have n4_ : Aside0 (Below w.heap.size w w17) := ⟨h4_⟩
          clear HO1100
          clear HI1097
          clear HB
          clear h0_ h1_ h2_ h3_ h4_
          have HO1100 := n0_
          have HO1108 := n1_
          have HA_HO1108 := n2_
          have HI1097 := n3_
          have HB := n4_
          clear n0_ n1_ n2_ n3_ n4_
          have hHeld := trivial
          obtain ⟨co18, eo18⟩ := HA_HO1108.out
          clear HA_HO1108
          subst eo18
          refine norm_ (a' := ?_) ?_ ?_
          rotate_left
          ·simp only [putAll, Act.put, List.setIfInBounds_toArray, List.set_cons_zero, List.set_cons_succ]
           rfl
          refine one_ (i := 3) (N := some 17) #[T, T, T, T, F, F, T, F, F, F, F] rfl rfl (one_of HT_.out (by kernel_rfl)) (by decide) (fun K hK => ?_)
          refine goes_ Try.func96 (by kernel_rfl) rfl #[.pointer (some ⟨g1097, 0, none⟩), .int .i64 4] (by rfl) rfl rfl mA_ ?_
          with_reducible refine (spec_l01Next.calls g1097 t1094 t1104 t1105 4 t1109 t1110 t1111 w _ ?side1 ?side2 A6.out).mono ?_
          (case side1 => repeat (first | (with_reducible first | exact HI1097.out | apply IsS96.alloc | apply IsS96.drewN | apply IsS96.drew | apply IsS96.set_1 | apply IsS96.set_2) | exact HI1097.out))
          (case side2 => repeat (first | (with_reducible first | exact HB.out | apply below_alloc | apply pw_below_drewN | apply below_drew1 | refine below_set ?_ (IsS96.ge HI1097.out)) | exact HB.out))
          rintro e w19 ⟨rfl, hi, hb, hk⟩
          refine ⟨_, rfl, ?_⟩
          replace HO1100 := Aside0.mk (Kd.R_mono (Kd.R_keep (IsS96.apart (show IsS96 w _ g1097 t1094 t1104 t1105 from by repeat (first | (with_reducible first | exact HI1097.out | apply IsS96.alloc | apply IsS96.drewN | apply IsS96.drew | apply IsS96.set_1 | apply IsS96.set_2) | exact HI1097.out)) (rS_ HO1100.out) (by decide)) hk (fun _ h => h.2)) (fun _ h => h.1))
          replace HO1108 := Aside0.mk (Kd.R_mono (Kd.R_keep (IsS96.apart (show IsS96 w _ g1097 t1094 t1104 t1105 from by repeat (first | (with_reducible first | exact HI1097.out | apply IsS96.alloc | apply IsS96.drewN | apply IsS96.drew | apply IsS96.set_1 | apply IsS96.set_2) | exact HI1097.out)) (rS_ HO1108.out) (by decide)) hk (fun _ h => h.2)) (fun _ h => h.1))
          replace HB := Aside0.mk (hb)
          replace HI1097 := Aside0.mk (hi)
          (try clear hb)
          (try clear hk)
          (try clear hi)
          refine hK.out _ _ trivial (fun hHeld => ?_)
          clear hK K
          refine no_ (some 17) ?_
          refine pu_ HT_ 4 (some 18) #[T,T,T,T,T,F,T,F,F,F,F] ?_
          exact norm_ (by first | (simp only [putAll, Act.put, List.setIfInBounds_toArray, List.set_cons_zero, List.set_cons_succ]; done) | (simp only [putAll, Act.put, List.setIfInBounds_toArray, List.set_cons_zero, List.set_cons_succ]; rfl)) (hJ1_3 (.slice (some adz_v1107) y1106.length co18, adz_v1107) _ ⟨(rS_ HO1100.out), (rS_ HO1108.out), ⟨_, rfl⟩, (by repeat (first | (with_reducible first | exact HI1097.out | apply IsS96.alloc | apply IsS96.drewN | apply IsS96.drew | apply IsS96.set_1 | apply IsS96.set_2) | exact HI1097.out)), (by repeat (first | (with_reducible first | exact HB.out | apply below_alloc | apply pw_below_drewN | apply below_drew1 | refine below_set ?_ (IsS96.ge HI1097.out)) | exact HB.out))⟩)
        ·skip
         rintro _ w16 ⟨h0_, h1_, h2_⟩
         have n0_ : Aside0 (Kd.R k57 57 w16 w.heap.size (fun _ => True) v1099 t1098) := ⟨h0_⟩
         have n1_ : Aside0 (IsS96 w w16 g1097 t1094 t1114 t1115) := ⟨h1_⟩
         have n2_ : Aside0 (Below w.heap.size w w16) := ⟨h2_⟩
         clear HO1100
         clear HI1097
         clear HB
         clear h0_ h1_ h2_
         have HO1100 := n0_
         have HI1097 := n1_
         have HB := n2_
         clear n0_ n1_ n2_
         have hHeld := trivial
         refine norm_ (a' := ?_) ?_ ?_
         rotate_left
         ·simp only [putAll, Act.put, List.setIfInBounds_toArray, List.set_cons_zero, List.set_cons_succ]
          rfl
         refine one_ (i := 1) (N := some 15) #[T, T, T, T, F, F, T, T, T, F, F] rfl rfl (one_of HT_.out (by kernel_rfl)) (by decide) (fun K hK => ?_)
         refine Kd.R_lit_step (Kd.int .i64) _ 2 ?hg (N := 15) ?hd (xs := ([(-200), 200, 201, 100] : List Int)) (inner := [.int .i64 (-200), .int .i64 200, .int .i64 201, .int .i64 100]) (ok := fun _ => True) (okp := fun _ => True) ?hr ?hp (fun _ hk => hk) trivial (Below.refl _ _) (Nat.le_refl _) (by simp) ?_; (case hd => rfl); (case hg => rfl); (case hr => first | (go_simp; done) | (go_simp; rfl)); (case hp => exact (Reps.one (show Kd.M (Kd.int .i64) _ _ _ (-200) [.int .i64 (-200)] from rfl) (Reps.one (show Kd.M (Kd.int .i64) _ _ _ 200 [.int .i64 200] from rfl) (Reps.one (show Kd.M (Kd.int .i64) _ _ _ 201 [.int .i64 201] from rfl) (Reps.one (show Kd.M (Kd.int .i64) _ _ _ 100 [.int .i64 100] from rfl) (Reps.none _ _))))))
         intro v1107 w17 ho18 hb hg_ hnew_
         clear hg_ hnew_
         (first | rw [← Ny1106.out] at ho18 | (simp only [Int.reduceToNat] at ho18; rw [← Ny1106.out] at ho18))
         replace HO1100 := Aside0.mk (Kd.R_below (rS_ HO1100.out) hb)
         have HO1108 := Aside0.mk (Kd.R_lower ho18 (below_size (by repeat (first | (with_reducible first | exact HB.out | apply below_alloc | apply pw_below_drewN | apply below_drew1 | refine below_set ?_ (IsS96.ge HI1097.out)) | exact HB.out))))
         replace HB := Aside0.mk (below_step (by repeat (first | (with_reducible first | exact HB.out | apply below_alloc | apply pw_below_drewN | apply below_drew1 | refine below_set ?_ (IsS96.ge HI1097.out)) | exact HB.out)) hb)
         replace HI1097 := Aside0.mk (IsS96.below (by repeat (first | (with_reducible first | exact HI1097.out | apply IsS96.alloc | apply IsS96.drewN | apply IsS96.drew | apply IsS96.set_1 | apply IsS96.set_2) | exact HI1097.out)) hb)
         clear hb ho18
         obtain ⟨Ao19, co19, eo19⟩ := Kd.R_slice HO1108.out
         subst eo19
         obtain ⟨ado19, fo19, _⟩ := Kd.at_int (Kd.R_reads' HO1108.out).2.2 0 (by decide) (by rw [Ny1106.out]; simp)
         cases fo19
         refine hK.out _ _ trivial (fun hHeld => ?_)
         clear hK K
         refine no_ (some 15) ?_
         refine pu_ HT_ 4 (some 18) #[T,T,T,T,T,F,T,T,T,F,F] ?_
         exact norm_ (by first | (simp only [putAll, Act.put, List.setIfInBounds_toArray, List.set_cons_zero, List.set_cons_succ]; done) | (simp only [putAll, Act.put, List.setIfInBounds_toArray, List.set_cons_zero, List.set_cons_succ]; rfl)) (hJ1_3_7 (.slice (some ado19) y1106.length co19, ado19) _ ⟨(rS_ HO1100.out), (rS_ HO1108.out), ⟨_, rfl⟩, (by repeat (first | (with_reducible first | exact HI1097.out | apply IsS96.alloc | apply IsS96.drewN | apply IsS96.drew | apply IsS96.set_1 | apply IsS96.set_2) | exact HI1097.out)), (by repeat (first | (with_reducible first | exact HB.out | apply below_alloc | apply pw_below_drewN | apply below_drew1 | refine below_set ?_ (IsS96.ge HI1097.out)) | exact HB.out))⟩)
       ·skip
        rintro ⟨v1107, adz_v1107⟩ w18 ⟨h0_, h1_, h2_, h3_, h4_⟩
        have n0_ : Aside0 (Kd.R k57 57 w18 w.heap.size (fun _ => True) v1099 t1098) := ⟨h0_⟩
        have n1_ : Aside0 (Kd.R (Kd.int .i64) 2 w18 w.heap.size (fun _ => True) v1107 y1106) := ⟨h1_⟩
        have n2_ : Aside0 (∃ c_, (v1107 : Value) = .slice (some adz_v1107) y1106.length c_) := ⟨h2_⟩
        have n3_ : Aside0 (IsS96 w w18 g1097 t1094 t1110 t1111) := ⟨h3_⟩
        have n4_ : Aside0 (Below w.heap.size w w18) := ⟨h4_⟩
        clear HO1100
        clear HI1097
        clear HB
        clear h0_ h1_ h2_ h3_ h4_
        have HO1100 := n0_
        have HO1108 := n1_
        have HA_HO1108 := n2_
        have HI1097 := n3_
        have HB := n4_
        clear n0_ n1_ n2_ n3_ n4_
        have hHeld := trivial
        obtain ⟨co19, eo19⟩ := HA_HO1108.out
        clear HA_HO1108
        subst eo19
        refine norm_ (a' := ?_) ?_ ?_
        rotate_left
        ·simp only [putAll, Act.put, List.setIfInBounds_toArray, List.set_cons_zero, List.set_cons_succ]
         rfl
        refine two_ (i := 5) (j := 7) (Ni := some 19) (Nj := some 21) #[T, T, T, T, T, T, T, F, F, F, F] #[T, T, T, T, T, F, T, T, F, F, F] rfl rfl rfl rfl (two_of HT_.out (by kernel_rfl)) (by decide) (by decide) (fun K hK => ?_) (fun K hK => ?_)
        ·skip
         (have p1112 : 0 ≤ (t1109 : Int) := of_decide_eq_true aS_; have q1112 : t1109 < (y1106.length : Int) := of_decide_eq_true aS_; obtain ⟨ad1112, e1112, hx1112_0⟩ := Kd.at_int (Kd.R_reads' HO1108.out).2.2 t1109 p1112 q1112; obtain rfl : adz_v1107 = ad1112 := (by injection e1112))
         refine value_ (w1 := ?_) (v := ?_) (by rfl) rfl ?_ ?_
         rotate_left 2
         ·go_simp
          constructor
          ·rfl
          ·rfl
         clear hx1112_0
         refine hK.out _ _ trivial (fun hHeld => ?_)
         clear hK K
         refine no_ (some 19) ?_
         exact norm_ (by first | (simp only [putAll, Act.put, List.setIfInBounds_toArray, List.set_cons_zero, List.set_cons_succ]; done) | (simp only [putAll, Act.put, List.setIfInBounds_toArray, List.set_cons_zero, List.set_cons_succ]; rfl)) (hJ1_3_5 (.slice (some adz_v1107) y1106.length co19, adz_v1107) _ ⟨(rS_ HO1100.out), (rS_ HO1108.out), ⟨_, rfl⟩, (by repeat (first | (with_reducible first | exact HI1097.out | apply IsS96.alloc | apply IsS96.drewN | apply IsS96.drew | apply IsS96.set_1 | apply IsS96.set_2) | exact HI1097.out)), (by repeat (first | (with_reducible first | exact HB.out | apply below_alloc | apply pw_below_drewN | apply below_drew1 | refine below_set ?_ (IsS96.ge HI1097.out)) | exact HB.out))⟩)
        ·skip
         refine goes_ Try.func96 (by kernel_rfl) rfl #[.pointer (some ⟨g1097, 0, none⟩), .int .i64 9] (by rfl) rfl rfl mA_ ?_
         with_reducible refine (spec_l01Next.calls g1097 t1094 t1110 t1111 9 t1113 t1114 t1115 w _ ?side1 ?side2 A9.out).mono ?_
         (case side1 => repeat (first | (with_reducible first | exact HI1097.out | apply IsS96.alloc | apply IsS96.drewN | apply IsS96.drew | apply IsS96.set_1 | apply IsS96.set_2) | exact HI1097.out))
         (case side2 => repeat (first | (with_reducible first | exact HB.out | apply below_alloc | apply pw_below_drewN | apply below_drew1 | refine below_set ?_ (IsS96.ge HI1097.out)) | exact HB.out))
         rintro e w20 ⟨rfl, hi, hb, hk⟩
         refine ⟨_, rfl, ?_⟩
         replace HO1100 := Aside0.mk (Kd.R_mono (Kd.R_keep (IsS96.apart (show IsS96 w _ g1097 t1094 t1110 t1111 from by repeat (first | (with_reducible first | exact HI1097.out | apply IsS96.alloc | apply IsS96.drewN | apply IsS96.drew | apply IsS96.set_1 | apply IsS96.set_2) | exact HI1097.out)) (rS_ HO1100.out) (by decide)) hk (fun _ h => h.2)) (fun _ h => h.1))
         replace HO1108 := Aside0.mk (Kd.R_mono (Kd.R_keep (IsS96.apart (show IsS96 w _ g1097 t1094 t1110 t1111 from by repeat (first | (with_reducible first | exact HI1097.out | apply IsS96.alloc | apply IsS96.drewN | apply IsS96.drew | apply IsS96.set_1 | apply IsS96.set_2) | exact HI1097.out)) (rS_ HO1108.out) (by decide)) hk (fun _ h => h.2)) (fun _ h => h.1))
         replace HB := Aside0.mk (hb)
         replace HI1097 := Aside0.mk (hi)
         (try clear hb)
         (try clear hk)
         (try clear hi)
         refine hK.out _ _ trivial (fun hHeld => ?_)
         clear hK K
         refine no_ (some 21) ?_
         refine pu_ HT_ 8 (some 2) #[T,T,T,T,T,F,T,T,T,F,F] ?_
         exact norm_ (by first | (simp only [putAll, Act.put, List.setIfInBounds_toArray, List.set_cons_zero, List.set_cons_succ]; done) | (simp only [putAll, Act.put, List.setIfInBounds_toArray, List.set_cons_zero, List.set_cons_succ]; rfl)) (hJ1_3_7 (.slice (some adz_v1107) y1106.length co19, adz_v1107) _ ⟨(rS_ HO1100.out), (rS_ HO1108.out), ⟨_, rfl⟩, (by repeat (first | (with_reducible first | exact HI1097.out | apply IsS96.alloc | apply IsS96.drewN | apply IsS96.drew | apply IsS96.set_1 | apply IsS96.set_2) | exact HI1097.out)), (by repeat (first | (with_reducible first | exact HB.out | apply below_alloc | apply pw_below_drewN | apply below_drew1 | refine below_set ?_ (IsS96.ge HI1097.out)) | exact HB.out))⟩)
      ·skip
       rintro ⟨v1107, adz_v1107⟩ w19 ⟨h0_, h1_, h2_, h3_, h4_⟩
       have n0_ : Aside0 (Kd.R k57 57 w19 w.heap.size (fun _ => True) v1099 t1098) := ⟨h0_⟩
       have n1_ : Aside0 (Kd.R (Kd.int .i64) 2 w19 w.heap.size (fun _ => True) v1107 y1106) := ⟨h1_⟩
       have n2_ : Aside0 (∃ c_, (v1107 : Value) = .slice (some adz_v1107) y1106.length c_) := ⟨h2_⟩
       have n3_ : Aside0 (IsS96 w w19 g1097 t1094 t1114 t1115) := ⟨h3_⟩
       have n4_ : Aside0 (Below w.heap.size w w19) := ⟨h4_⟩
       clear HO1100
       clear HI1097
       clear HB
       clear h0_ h1_ h2_ h3_ h4_
       have HO1100 := n0_
       have HO1108 := n1_
       have HA_HO1108 := n2_
       have HI1097 := n3_
       have HB := n4_
       clear n0_ n1_ n2_ n3_ n4_
       have hHeld := trivial
       obtain ⟨co20, eo20⟩ := HA_HO1108.out
       clear HA_HO1108
       subst eo20
       refine norm_ (a' := ?_) ?_ ?_
       rotate_left
       ·simp only [putAll, Act.put, List.setIfInBounds_toArray, List.set_cons_zero, List.set_cons_succ]
        rfl
       refine one_ (i := 5) (N := some 19) #[T, T, T, T, T, T, T, T, T, F, F] rfl rfl (one_of HT_.out (by kernel_rfl)) (by decide) (fun K hK => ?_)
       (have p1112 : 0 ≤ (t1109 : Int) := of_decide_eq_true aS_; have q1112 : t1109 < (y1106.length : Int) := of_decide_eq_true aS_; obtain ⟨ad1112, e1112, hx1112_0⟩ := Kd.at_int (Kd.R_reads' HO1108.out).2.2 t1109 p1112 q1112; obtain rfl : adz_v1107 = ad1112 := (by injection e1112))
       refine value_ (w1 := ?_) (v := ?_) (by rfl) rfl ?_ ?_
       rotate_left 2
       ·go_simp
        constructor
        ·rfl
        ·rfl
       clear hx1112_0
       refine hK.out _ _ trivial (fun hHeld => ?_)
       clear hK K
       refine no_ (some 19) ?_
       exact norm_ (by first | (simp only [putAll, Act.put, List.setIfInBounds_toArray, List.set_cons_zero, List.set_cons_succ]; done) | (simp only [putAll, Act.put, List.setIfInBounds_toArray, List.set_cons_zero, List.set_cons_succ]; rfl)) (hJ1_3_5_7 (.slice (some adz_v1107) y1106.length co20, adz_v1107) _ ⟨(rS_ HO1100.out), (rS_ HO1108.out), ⟨_, rfl⟩, (by repeat (first | (with_reducible first | exact HI1097.out | apply IsS96.alloc | apply IsS96.drewN | apply IsS96.drew | apply IsS96.set_1 | apply IsS96.set_2) | exact HI1097.out)), (by repeat (first | (with_reducible first | exact HB.out | apply below_alloc | apply pw_below_drewN | apply below_drew1 | refine below_set ?_ (IsS96.ge HI1097.out)) | exact HB.out))⟩)
     ·skip
      rintro ⟨v1107, adz_v1107⟩ w18 ⟨h0_, h1_, h2_, h3_, h4_⟩
      have n0_ : Aside0 (Kd.R k57 57 w18 w.heap.size (fun _ => True) v1099 t1098) := ⟨h0_⟩
      have n1_ : Aside0 (Kd.R (Kd.int .i64) 2 w18 w.heap.size (fun _ => True) v1107 y1106) := ⟨h1_⟩
      have n2_ : Aside0 (∃ c_, (v1107 : Value) = .slice (some adz_v1107) y1106.length c_) := ⟨h2_⟩
      have n3_ : Aside0 (IsS96 w w18 g1097 t1094 t1110 t1111) := ⟨h3_⟩
      have n4_ : Aside0 (Below w.heap.size w w18) := ⟨h4_⟩
      clear HO1100
      clear HI1097
      clear HB
      clear h0_ h1_ h2_ h3_ h4_
      have HO1100 := n0_
      have HO1108 := n1_
      have HA_HO1108 := n2_
      have HI1097 := n3_
      have HB := n4_
      clear n0_ n1_ n2_ n3_ n4_
      have hHeld := trivial
      obtain ⟨co19, eo19⟩ := HA_HO1108.out
      clear HA_HO1108
      subst eo19
      refine norm_ (a' := ?_) ?_ ?_
      rotate_left
      ·simp only [putAll, Act.put, List.setIfInBounds_toArray, List.set_cons_zero, List.set_cons_succ]
       rfl
      refine one_ (i := 7) (N := some 21) #[T, T, T, T, T, T, T, T, F, F, F] rfl rfl (one_of HT_.out (by kernel_rfl)) (by decide) (fun K hK => ?_)
      refine goes_ Try.func96 (by kernel_rfl) rfl #[.pointer (some ⟨g1097, 0, none⟩), .int .i64 9] (by rfl) rfl rfl mA_ ?_
      with_reducible refine (spec_l01Next.calls g1097 t1094 t1110 t1111 9 t1113 t1114 t1115 w _ ?side1 ?side2 A9.out).mono ?_
      (case side1 => repeat (first | (with_reducible first | exact HI1097.out | apply IsS96.alloc | apply IsS96.drewN | apply IsS96.drew | apply IsS96.set_1 | apply IsS96.set_2) | exact HI1097.out))
      (case side2 => repeat (first | (with_reducible first | exact HB.out | apply below_alloc | apply pw_below_drewN | apply below_drew1 | refine below_set ?_ (IsS96.ge HI1097.out)) | exact HB.out))
      rintro e w20 ⟨rfl, hi, hb, hk⟩
      refine ⟨_, rfl, ?_⟩
      replace HO1100 := Aside0.mk (Kd.R_mono (Kd.R_keep (IsS96.apart (show IsS96 w _ g1097 t1094 t1110 t1111 from by repeat (first | (with_reducible first | exact HI1097.out | apply IsS96.alloc | apply IsS96.drewN | apply IsS96.drew | apply IsS96.set_1 | apply IsS96.set_2) | exact HI1097.out)) (rS_ HO1100.out) (by decide)) hk (fun _ h => h.2)) (fun _ h => h.1))
      replace HO1108 := Aside0.mk (Kd.R_mono (Kd.R_keep (IsS96.apart (show IsS96 w _ g1097 t1094 t1110 t1111 from by repeat (first | (with_reducible first | exact HI1097.out | apply IsS96.alloc | apply IsS96.drewN | apply IsS96.drew | apply IsS96.set_1 | apply IsS96.set_2) | exact HI1097.out)) (rS_ HO1108.out) (by decide)) hk (fun _ h => h.2)) (fun _ h => h.1))
      replace HB := Aside0.mk (hb)
      replace HI1097 := Aside0.mk (hi)
      (try clear hb)
      (try clear hk)
      (try clear hi)
      refine hK.out _ _ trivial (fun hHeld => ?_)
      clear hK K
      refine no_ (some 21) ?_
      refine pu_ HT_ 8 (some 2) #[T,T,T,T,T,T,T,T,T,F,F] ?_
      exact norm_ (by first | (simp only [putAll, Act.put, List.setIfInBounds_toArray, List.set_cons_zero, List.set_cons_succ]; done) | (simp only [putAll, Act.put, List.setIfInBounds_toArray, List.set_cons_zero, List.set_cons_succ]; rfl)) (hJ1_3_5_7 (.slice (some adz_v1107) y1106.length co19, adz_v1107) _ ⟨(rS_ HO1100.out), (rS_ HO1108.out), ⟨_, rfl⟩, (by repeat (first | (with_reducible first | exact HI1097.out | apply IsS96.alloc | apply IsS96.drewN | apply IsS96.drew | apply IsS96.set_1 | apply IsS96.set_2) | exact HI1097.out)), (by repeat (first | (with_reducible first | exact HB.out | apply below_alloc | apply pw_below_drewN | apply below_drew1 | refine below_set ?_ (IsS96.ge HI1097.out)) | exact HB.out))⟩)
    rintro ⟨v1107, adz_v1107⟩ w19 ⟨h0_, h1_, h2_, h3_, h4_⟩
    have n0_ : Aside0 (Kd.R k57 57 w19 w.heap.size (fun _ => True) v1099 t1098) := ⟨h0_⟩
    have n1_ : Aside0 (Kd.R (Kd.int .i64) 2 w19 w.heap.size (fun _ => True) v1107 y1106) := ⟨h1_⟩
    have n2_ : Aside0 (∃ c_, (v1107 : Value) = .slice (some adz_v1107) y1106.length c_) := ⟨h2_⟩
    have n3_ : Aside0 (IsS96 w w19 g1097 t1094 t1114 t1115) := ⟨h3_⟩
    have n4_ : Aside0 (Below w.heap.size w w19) := ⟨h4_⟩
    clear HO1100
    clear HI1097
    clear HB
    clear h0_ h1_ h2_ h3_ h4_
    have HO1100 := n0_
    have HO1108 := n1_
    have HA_HO1108 := n2_
    have HI1097 := n3_
    have HB := n4_
    clear n0_ n1_ n2_ n3_ n4_
    have hHeld := trivial
    obtain ⟨co20, eo20⟩ := HA_HO1108.out
    clear HA_HO1108
    subst eo20
    refine norm_ (a' := ?_) ?_ ?_
    rotate_left
    ·simp only [putAll, Act.put, List.setIfInBounds_toArray, List.set_cons_zero, List.set_cons_succ]
     rfl
    refine pu_ HT_ 9 (some 3) #[T,T,T,T,T,T,T,T,T,T,F] ?_
    refine pu_ HT_ 10 (some 4) #[T,T,T,T,T,T,T,T,T,T,T] ?_
    refine done_ (done_of HT_.out (by kernel_rfl)) ?_
    try go_wp2
    go_ret3
    exact ⟨_, r2_, rS_ HO1100.out, by repeat (first | (with_reducible first | exact HB.out | apply below_alloc | apply pw_below_drewN | apply below_drew1 | refine below_set ?_ (IsS96.ge HI1097.out)) | exact HB.out)⟩
   ·rw [if_neg c8] at H
    exact absurd H (by simp)
  ·rw [if_neg c7] at H
   exact absurd H (by simp)
 ·rw [if_neg c5] at H
  have c5b0 : (t1103 == 0) = false := beq_eq_false_iff_ne.mpr c5
  have c5b1 : (t1103 != 0) = true := bne_iff_ne.mpr c5
  replace H := Option.bind_eq_some_iff.mp H
  obtain ⟨⟨t1116, t1117, t1118⟩, A210, H⟩ := H
  try dsimp only at H
  have A21 := Aside0.mk A210
  clear A210
  replace H := Option.bind_eq_some_iff.mp H
  obtain ⟨⟨t1119, t1120, t1121⟩, A220, H⟩ := H
  try dsimp only at H
  have A22 := Aside0.mk A220
  clear A220
  simp only [Option.some.injEq, Prod.mk.injEq] at H
  obtain ⟨rfl, rfl, rfl⟩ := H
  go_enter Try.func56, Try.ntmps56
  go_wp2_with (first | ((with_reducible refine gate_callee (f := 77) rfl ?_); refine gL_ (some 8) Try.func77 #[.slice A0 l0.length c0] ?_; (with_reducible refine (spec_l01From.calls k _ _ l0 t1094 t1095 t1096 w _ ?side1 ?side2 ?side3 A2.out).mono ?_); (case side1 => repeat (first | (with_reducible first | exact HB.out | apply below_alloc | apply pw_below_drewN | apply below_drew1) | exact HB.out)); (case side2 => exact HR0.out); (case side3 => exact HC0.out); rintro e w23 ⟨g1097, rfl, hi, hb, hb2⟩; refine ⟨_, rfl, ?_⟩; replace HB := Aside0.mk (hb); have HI1097 := Aside0.mk (hi); (try clear hb hb2 hi)) | ((with_reducible refine gate_callee (f := 76) rfl ?_); refine gL_ (some 10) Try.func76 #[.pointer (some ⟨g1097, 0, none⟩)] ?_; (with_reducible refine (spec_l02Draw.calls k g1097 t1094 t1095 t1096 t1098 t1101 t1102 w _ ?side1 ?side2 A3.out).mono ?_); (case side1 => repeat (first | (with_reducible first | exact HI1097.out | apply IsS96.alloc | apply IsS96.drewN | apply IsS96.drew | apply IsS96.set_1 | apply IsS96.set_2) | exact HI1097.out)); (case side2 => repeat (first | (with_reducible first | exact HB.out | apply below_alloc | apply pw_below_drewN | apply below_drew1 | refine below_set ?_ (IsS96.ge HI1097.out)) | exact HB.out)); rintro e w24 ⟨v1099, rfl, ho0, hi, hb, hk⟩; refine ⟨_, rfl, ?_⟩; have HO1100 := Aside0.mk (Kd.R_lower ho0 (below_size (by repeat (first | (with_reducible first | exact HB.out | apply below_alloc | apply pw_below_drewN | apply below_drew1 | refine below_set ?_ (IsS96.ge HI1097.out)) | exact HB.out)))); replace HB := Aside0.mk (hb); replace HI1097 := Aside0.mk (hi); (try clear hb hk hi ho0)) | ((with_reducible refine gate_callee (f := 96) rfl ?_); refine gL_ (some 12) Try.func96 #[.pointer (some ⟨g1097, 0, none⟩), .int .i64 8] ?_; (with_reducible refine (spec_l01Next.calls g1097 t1094 t1101 t1102 8 t1103 t1104 t1105 w _ ?side1 ?side2 A4.out).mono ?_); (case side1 => repeat (first | (with_reducible first | exact HI1097.out | apply IsS96.alloc | apply IsS96.drewN | apply IsS96.drew | apply IsS96.set_1 | apply IsS96.set_2) | exact HI1097.out)); (case side2 => repeat (first | (with_reducible first | exact HB.out | apply below_alloc | apply pw_below_drewN | apply below_drew1 | refine below_set ?_ (IsS96.ge HI1097.out)) | exact HB.out)); rintro e w25 ⟨rfl, hi, hb, hk⟩; refine ⟨_, rfl, ?_⟩; replace HO1100 := Aside0.mk (Kd.R_mono (Kd.R_keep (IsS96.apart (show IsS96 w _ g1097 t1094 t1101 t1102 from by repeat (first | (with_reducible first | exact HI1097.out | apply IsS96.alloc | apply IsS96.drewN | apply IsS96.drew | apply IsS96.set_1 | apply IsS96.set_2) | exact HI1097.out)) (rS_ HO1100.out) (by decide)) hk (fun _ h => h.2)) (fun _ h => h.1)); replace HB := Aside0.mk (hb); replace HI1097 := Aside0.mk (hi); (try clear hb hk hi)) | ((with_reducible refine gate_callee (f := 96) rfl ?_); refine gL_ (some 24) Try.func96 #[.pointer (some ⟨g1097, 0, none⟩), .int .i64 21] ?_; (with_reducible refine (spec_l01Next.calls g1097 t1094 t1104 t1105 21 t1116 t1117 t1118 w _ ?side1 ?side2 A21.out).mono ?_); (case side1 => repeat (first | (with_reducible first | exact HI1097.out | apply IsS96.alloc | apply IsS96.drewN | apply IsS96.drew | apply IsS96.set_1 | apply IsS96.set_2) | exact HI1097.out)); (case side2 => repeat (first | (with_reducible first | exact HB.out | apply below_alloc | apply pw_below_drewN | apply below_drew1 | refine below_set ?_ (IsS96.ge HI1097.out)) | exact HB.out)); rintro e w26 ⟨rfl, hi, hb, hk⟩; refine ⟨_, rfl, ?_⟩; replace HO1100 := Aside0.mk (Kd.R_mono (Kd.R_keep (IsS96.apart (show IsS96 w _ g1097 t1094 t1104 t1105 from by repeat (first | (with_reducible first | exact HI1097.out | apply IsS96.alloc | apply IsS96.drewN | apply IsS96.drew | apply IsS96.set_1 | apply IsS96.set_2) | exact HI1097.out)) (rS_ HO1100.out) (by decide)) hk (fun _ h => h.2)) (fun _ h => h.1)); replace HB := Aside0.mk (hb); replace HI1097 := Aside0.mk (hi); (try clear hb hk hi)) | ((with_reducible refine gate_callee (f := 96) rfl ?_); refine gL_ (some 27) Try.func96 #[.pointer (some ⟨g1097, 0, none⟩), .int .i64 21] ?_; (with_reducible refine (spec_l01Next.calls g1097 t1094 t1117 t1118 21 t1119 t1120 t1121 w _ ?side1 ?side2 A22.out).mono ?_); (case side1 => repeat (first | (with_reducible first | exact HI1097.out | apply IsS96.alloc | apply IsS96.drewN | apply IsS96.drew | apply IsS96.set_1 | apply IsS96.set_2) | exact HI1097.out)); (case side2 => repeat (first | (with_reducible first | exact HB.out | apply below_alloc | apply pw_below_drewN | apply below_drew1 | refine below_set ?_ (IsS96.ge HI1097.out)) | exact HB.out)); rintro e w27 ⟨rfl, hi, hb, hk⟩; refine ⟨_, rfl, ?_⟩; replace HO1100 := Aside0.mk (Kd.R_mono (Kd.R_keep (IsS96.apart (show IsS96 w _ g1097 t1094 t1117 t1118 from by repeat (first | (with_reducible first | exact HI1097.out | apply IsS96.alloc | apply IsS96.drewN | apply IsS96.drew | apply IsS96.set_1 | apply IsS96.set_2) | exact HI1097.out)) (rS_ HO1100.out) (by decide)) hk (fun _ h => h.2)) (fun _ h => h.1)); replace HB := Aside0.mk (hb); replace HI1097 := Aside0.mk (hi); (try clear hb hk hi)))
  go_ret3
  exact ⟨_, r2_, rS_ HO1100.out, by repeat (first | (with_reducible first | exact HB.out | apply below_alloc | apply pw_below_drewN | apply below_drew1 | refine below_set ?_ (IsS96.ge HI1097.out)) | exact HB.out)⟩

/-! ### impl_MoveShape: function 57 -/
def impl_MoveShape.j0 : Nat → List (S57) → Int → Int → Bool → Option ((List (S57)) × Int)
 | 0, _, _, _, _ => none
 | k + 1, x0, x1, x2, x19 => if x19 = true then (some (([] : List (S57)), 2)) else ((impl_moved.f k x0 x1 x2).bind fun t1125 => ((impl_IsShape.f k t1125).bind fun t1128 => (if t1128 = true then (some (t1125, 0)) else (some (([] : List (S57)), 3)))))
def impl_MoveShape.f (k : Nat) (l0 : List (S57)) (a1 : Int) (a2 : Int) : Option ((List (S57)) × Int) := (impl_IsShape.f k l0).bind fun t1122 => (if t1122 = true then ((impl_within.f a1 (-200) 200).bind fun t1123 => (if t1123 = true then ((impl_within.f a2 (-200) 200).bind fun t1124 => (impl_MoveShape.j0 k l0 a1 a2 (!t1124))) else (impl_MoveShape.j0 k l0 a1 a2 true))) else (some (([] : List (S57)), 1)))
theorem impl_MoveShape.mono_l : ∀ k, (∀ y0 y1 y2 y3, LeO (impl_MoveShape.j0 k y0 y1 y2 y3) (impl_MoveShape.j0 (k + 1) y0 y1 y2 y3))
 | 0 => fun _ _ _ _ r h => by simp [impl_MoveShape.j0] at h
 | k + 1 => by
  have ih0 := impl_MoveShape.mono_l k
  ·intro y0 y1 y2 y3
   unfold impl_MoveShape.j0
   repeat' first
   | (with_reducible exact ih0 _ _ _ _)
   | (with_reducible exact impl_IsShape.mono _ _)
   | (with_reducible exact impl_moved.mono _ _ _ _)
   | (with_reducible exact LeO.refl _)
   | (with_reducible exact LeO.none _)
   | (with_reducible refine LeO.ite ?_ ?_)
   | (with_reducible refine LeO.bind ?_ (fun _ => ?_))
   | exact ih0 _ _ _ _
   | exact impl_IsShape.mono _ _
   | exact impl_moved.mono _ _ _ _
   | exact LeO.none _
   | refine LeO.ite ?_ ?_
   | refine LeO.bind ?_ (fun _ => ?_)
theorem impl_MoveShape.mono : ∀ a0 a1 a2 k, LeO (impl_MoveShape.f k a0 a1 a2) (impl_MoveShape.f (k + 1) a0 a1 a2) := by
 intro a0 a1 a2 k
 have ih0 := impl_MoveShape.mono_l k
 unfold impl_MoveShape.f
 repeat' first
   | (with_reducible exact ih0 _ _ _ _)
   | (with_reducible exact impl_IsShape.mono _ _)
   | (with_reducible exact impl_moved.mono _ _ _ _)
   | (with_reducible exact LeO.refl _)
   | (with_reducible exact LeO.none _)
   | (with_reducible refine LeO.ite ?_ ?_)
   | (with_reducible refine LeO.bind ?_ (fun _ => ?_))
   | exact ih0 _ _ _ _
   | exact impl_IsShape.mono _ _
   | exact impl_moved.mono _ _ _ _
   | exact LeO.none _
   | refine LeO.ite ?_ ?_
   | refine LeO.bind ?_ (fun _ => ?_)
set_option maxHeartbeats 8000000 in
set_option maxRecDepth 100000 in
theorem impl_MoveShape.calls (k : Nat) (A0 : Option Addr) (c0 : Nat) (l0 : List (S57)) (a1 : Int) (a2 : Int) (r1 : List (S57)) (r2 : Int) (w : World) (hr0 : Kd.C k57 w A0 l0.length l0) (hc0 : l0.length ≤ c0) (h : impl_MoveShape.f k l0 a1 a2 = some (r1, r2)) :
  Calls Try.prog 57 #[.slice A0 l0.length c0, .int .i64 a1, .int .i64 a2] w fun e w' => ∃ v0_ : Value, e = .returned (.tuple #[v0_, .int .i64 r2]) ∧ Kd.R k57 57 w' w.heap.size (fun _ => True) v0_ r1 ∧ Below w.heap.size w w' := by
 have HR0 := Aside0.mk hr0
 have HC0 := Aside0.mk hc0
 clear hr0 hc0
 have HB := Aside0.mk (Below.refl w.heap.size w)
 have H : ((impl_IsShape.f k l0).bind fun t1122 => (if t1122 = true then ((impl_within.f a1 (-200) 200).bind fun t1123 => (if t1123 = true then ((impl_within.f a2 (-200) 200).bind fun t1124 => (impl_MoveShape.j0 k l0 a1 a2 (!t1124))) else (impl_MoveShape.j0 k l0 a1 a2 true))) else (some (([] : List (S57)), 1)))) = some (r1, r2) := h
 clear h
 replace H := Option.bind_eq_some_iff.mp H
 obtain ⟨t1122, A40, H⟩ := H
 try dsimp only at H
 have A4 := Aside0.mk A40
 clear A40
 by_cases c5 : t1122 = true
 ·subst c5
  have H1 : ((impl_within.f a1 (-200) 200).bind fun t1123 => (if t1123 = true then ((impl_within.f a2 (-200) 200).bind fun t1124 => (impl_MoveShape.j0 k l0 a1 a2 (!t1124))) else (impl_MoveShape.j0 k l0 a1 a2 true))) = some (r1, r2) := by rw [if_pos rfl] at H; exact H
  clear H
  have H := H1
  clear H1
  have HC6 := Aside0.mk H
  clear H
  go_enter Try.func57, Try.ntmps57
  go_upto_region 3 with (first | ((with_reducible refine gate_callee (f := 60) rfl ?_); refine gL_ (some 10) Try.func60 #[.slice A0 l0.length c0] ?_; (with_reducible refine (impl_IsShape.calls k _ _ l0 true _ ?side1 ?side2 A4.out).mono ?_); (case side1 => exact cS_ HR0.out); (case side2 => exact HC0.out); rintro e w7 ⟨rfl, hb⟩; refine ⟨_, rfl, ?_⟩; replace HB := Aside0.mk (below_step bB_ hb); (try clear hb)))
  (try simp only [Act.put, List.setIfInBounds_toArray, List.set_cons_zero, List.set_cons_succ])
  go_cut [19] (fun v19 wc => ∃ (kq : Nat) (x19_5 : Bool), v19 = .bool x19_5 ∧ Aside0 (impl_MoveShape.j0 kq l0 a1 a2 x19_5 = some (r1, r2)) ∧ Aside0 (kq ≤ k) ∧ Aside0 (Below w.heap.size w wc))
  case first =>
   have H := HC6.out
   clear HC6
   replace H := Option.bind_eq_some_iff.mp H
   obtain ⟨t1123, A80, H⟩ := H
   try dsimp only at H
   have A8 := Aside0.mk A80
   clear A80
   by_cases c9 : t1123 = true
   ·subst c9
    have H1 : ((impl_within.f a2 (-200) 200).bind fun t1124 => (impl_MoveShape.j0 k l0 a1 a2 (!t1124))) = some (r1, r2) := by rw [if_pos rfl] at H; exact H
    clear H
    have H := H1
    clear H1
    replace H := Option.bind_eq_some_iff.mp H
    obtain ⟨t1124, A100, H⟩ := H
    try dsimp only at H
    have A10 := Aside0.mk A100
    clear A100
    have H' := Aside0.mk H
    clear H
    go_wp2_with (first | ((with_reducible refine gate_callee (f := 98) rfl ?_); refine gL_ (some 13) Try.func98 #[.int .i64 a1, .int .i64 (-200), .int .i64 200] ?_; (with_reducible refine (impl_within.calls a1 (-200) 200 true _ A8.out).mono ?_); rintro e w' ⟨rfl, ⟨nd, rfl⟩⟩; refine ⟨_, rfl, ?_⟩) | (go_at_call 98; (with_reducible refine (impl_within.calls a2 (-200) 200 t1124 _ A10.out).mono ?_); rintro e w' ⟨rfl, ⟨nd, rfl⟩⟩))
    go_meet
    case rel => exact ⟨_, (!t1124), r3_, H', ⟨by first | omega | exact Nat.le_refl _⟩, ⟨bB_⟩⟩
   ·replace c9 := Bool.eq_false_iff.mpr c9
    subst c9
    have H1 : (impl_MoveShape.j0 k l0 a1 a2 true) = some (r1, r2) := by rw [if_neg (show ¬ (false = true) by decide)] at H; exact H
    clear H
    have H := H1
    clear H1
    have H' := Aside0.mk H
    clear H
    go_wp2_with (first | ((with_reducible refine gate_callee (f := 98) rfl ?_); refine gL_ (some 13) Try.func98 #[.int .i64 a1, .int .i64 (-200), .int .i64 200] ?_; (with_reducible refine (impl_within.calls a1 (-200) 200 false _ A8.out).mono ?_); rintro e w' ⟨rfl, ⟨nd, rfl⟩⟩; refine ⟨_, rfl, ?_⟩))
    go_meet
    case rel => exact ⟨_, (true), r3_, H', ⟨by first | omega | exact Nat.le_refl _⟩, ⟨bB_⟩⟩
  case rest =>
   clear HC6
   try clear p2
   try clear c5
   try clear c6
   try clear c9
   obtain ⟨kq, x19_5, rfl, HA, HJ5, HB⟩ := hcut
   cases kq with
   | zero => exact absurd HA.out (by simp [impl_MoveShape.j0])
   | succ kj5 =>
    have H := HA.out
    clear HA
    simp only [impl_MoveShape.j0] at H
    by_cases c11 : x19_5 = true
    ·subst c11
     have H1 : (some (([] : List (S57)), 2)) = some (r1, r2) := by rw [if_pos rfl] at H; exact H
     clear H
     have H := H1
     clear H1
     simp only [Option.some.injEq, Prod.mk.injEq] at H
     obtain ⟨rfl, rfl⟩ := H
     go_wp2
     go_ret2
     exact ⟨_, r2_, by first | exact Kd.R_nil _ _ _ _ _ | exact Kd.N_nil _ _ _ _ _ | exact Kd.V_nil _ _ _ _ _ | exact Kd.Q_nil _ _ _ _ _ | exact Kd.S_nil _ _ _ _ _, bB_⟩
    ·replace c11 := Bool.eq_false_iff.mpr c11
     subst c11
     have H1 : ((impl_moved.f kj5 l0 a1 a2).bind fun t1125 => ((impl_IsShape.f kj5 t1125).bind fun t1128 => (if t1128 = true then (some (t1125, 0)) else (some (([] : List (S57)), 3))))) = some (r1, r2) := by rw [if_neg (show ¬ (false = true) by decide)] at H; exact H
     clear H
     have H := H1
     clear H1
     replace H := Option.bind_eq_some_iff.mp H
     obtain ⟨t1125, A120, H⟩ := H
     try dsimp only at H
     have A12 := Aside0.mk A120
     clear A120
     replace H := Option.bind_eq_some_iff.mp H
     obtain ⟨t1128, A130, H⟩ := H
     try dsimp only at H
     have A13 := Aside0.mk A130
     clear A130
     by_cases c14 : t1128 = true
     ·subst c14
      have H1 : (some (t1125, 0)) = some (r1, r2) := by rw [if_pos rfl] at H; exact H
      clear H
      have H := H1
      clear H1
      simp only [Option.some.injEq, Prod.mk.injEq] at H
      obtain ⟨rfl, rfl⟩ := H
      go_wp2_with (first | ((with_reducible refine gate_callee (f := 99) rfl ?_); refine gL_ (some 23) Try.func99 #[.slice A0 l0.length c0, .int .i64 a1, .int .i64 a2] ?_; (with_reducible refine (impl_moved.calls kj5 _ _ l0 a1 a2 t1125 _ ?side1 ?side2 A12.out).mono ?_); (case side1 => exact cS_ (Kd.C_below HR0.out HB.out)); (case side2 => exact HC0.out); rintro e w15 ⟨v1126, rfl, ho0, hb⟩; refine ⟨_, rfl, ?_⟩; have HO1127 := Aside0.mk (Kd.R_lower ho0 (below_size bB_)); replace HB := Aside0.mk (below_step bB_ hb); (try clear hb ho0); obtain ⟨Ao16, co16, eo16⟩ := Kd.R_slice HO1127.out; subst eo16) | ((with_reducible refine gate_callee (f := 60) rfl ?_); refine gL_ (some 25) Try.func60 #[.slice Ao16 t1125.length co16] ?_; (with_reducible refine (impl_IsShape.calls kj5 _ _ t1125 true _ ?side1 ?side2 A13.out).mono ?_); (case side1 => exact cS_ ((Kd.R_reads' HO1127.out).2.2)); (case side2 => exact (Kd.R_reads' HO1127.out).2.1); rintro e w17 ⟨rfl, hb⟩; refine ⟨_, rfl, ?_⟩; replace HO1127 := Aside0.mk (Kd.R_below (rS_ HO1127.out) hb); replace HB := Aside0.mk (below_step bB_ hb); (try clear hb)))
      go_ret2
      exact ⟨_, r2_, rS_ HO1127.out, bB_⟩
     ·replace c14 := Bool.eq_false_iff.mpr c14
      subst c14
      have H1 : (some (([] : List (S57)), 3)) = some (r1, r2) := by rw [if_neg (show ¬ (false = true) by decide)] at H; exact H
      clear H
      have H := H1
      clear H1
      simp only [Option.some.injEq, Prod.mk.injEq] at H
      obtain ⟨rfl, rfl⟩ := H
      go_wp2_with (first | ((with_reducible refine gate_callee (f := 99) rfl ?_); refine gL_ (some 23) Try.func99 #[.slice A0 l0.length c0, .int .i64 a1, .int .i64 a2] ?_; (with_reducible refine (impl_moved.calls kj5 _ _ l0 a1 a2 t1125 _ ?side1 ?side2 A12.out).mono ?_); (case side1 => exact cS_ (Kd.C_below HR0.out HB.out)); (case side2 => exact HC0.out); rintro e w18 ⟨v1126, rfl, ho0, hb⟩; refine ⟨_, rfl, ?_⟩; have HO1127 := Aside0.mk (Kd.R_lower ho0 (below_size bB_)); replace HB := Aside0.mk (below_step bB_ hb); (try clear hb ho0); obtain ⟨Ao19, co19, eo19⟩ := Kd.R_slice HO1127.out; subst eo19) | ((with_reducible refine gate_callee (f := 60) rfl ?_); refine gL_ (some 25) Try.func60 #[.slice Ao19 t1125.length co19] ?_; (with_reducible refine (impl_IsShape.calls kj5 _ _ t1125 false _ ?side1 ?side2 A13.out).mono ?_); (case side1 => exact cS_ ((Kd.R_reads' HO1127.out).2.2)); (case side2 => exact (Kd.R_reads' HO1127.out).2.1); rintro e w20 ⟨rfl, hb⟩; refine ⟨_, rfl, ?_⟩; replace HO1127 := Aside0.mk (Kd.R_below (rS_ HO1127.out) hb); replace HB := Aside0.mk (below_step bB_ hb); (try clear hb)))
      go_ret2
      exact ⟨_, r2_, by first | exact Kd.R_nil _ _ _ _ _ | exact Kd.N_nil _ _ _ _ _ | exact Kd.V_nil _ _ _ _ _ | exact Kd.Q_nil _ _ _ _ _ | exact Kd.S_nil _ _ _ _ _, bB_⟩
 ·replace c5 := Bool.eq_false_iff.mpr c5
  subst c5
  have H1 : (some (([] : List (S57)), 1)) = some (r1, r2) := by rw [if_neg (show ¬ (false = true) by decide)] at H; exact H
  clear H
  have H := H1
  clear H1
  simp only [Option.some.injEq, Prod.mk.injEq] at H
  obtain ⟨rfl, rfl⟩ := H
  go_enter Try.func57, Try.ntmps57
  go_wp2_with (first | ((with_reducible refine gate_callee (f := 60) rfl ?_); refine gL_ (some 10) Try.func60 #[.slice A0 l0.length c0] ?_; (with_reducible refine (impl_IsShape.calls k _ _ l0 false _ ?side1 ?side2 A4.out).mono ?_); (case side1 => exact cS_ HR0.out); (case side2 => exact HC0.out); rintro e w21 ⟨rfl, hb⟩; refine ⟨_, rfl, ?_⟩; replace HB := Aside0.mk (below_step bB_ hb); (try clear hb)))
  go_ret2
  exact ⟨_, r2_, by first | exact Kd.R_nil _ _ _ _ _ | exact Kd.N_nil _ _ _ _ _ | exact Kd.V_nil _ _ _ _ _ | exact Kd.Q_nil _ _ _ _ _ | exact Kd.S_nil _ _ _ _ _, bB_⟩

/-! ### spec_MoveShape: function 58 -/
def spec_MoveShape.j0 : Nat → List (S57) → Int → Int → Bool → Option ((List (S57)) × Int)
 | 0, _, _, _, _ => none
 | k + 1, x0, x1, x2, x19 => if x19 = true then (some (([] : List (S57)), 2)) else ((spec_l02Move.f k x0 x1 x2).bind fun t1132 => ((spec_IsShape.f k t1132).bind fun t1135 => (if t1135 = true then (some (t1132, 0)) else (some (([] : List (S57)), 3)))))
def spec_MoveShape.f (k : Nat) (l0 : List (S57)) (a1 : Int) (a2 : Int) : Option ((List (S57)) × Int) := (spec_IsShape.f k l0).bind fun t1129 => (if t1129 = true then ((spec_l01In.f a1 (-200) 200).bind fun t1130 => (if t1130 = true then ((spec_l01In.f a2 (-200) 200).bind fun t1131 => (spec_MoveShape.j0 k l0 a1 a2 (!t1131))) else (spec_MoveShape.j0 k l0 a1 a2 true))) else (some (([] : List (S57)), 1)))
theorem spec_MoveShape.mono_l : ∀ k, (∀ y0 y1 y2 y3, LeO (spec_MoveShape.j0 k y0 y1 y2 y3) (spec_MoveShape.j0 (k + 1) y0 y1 y2 y3))
 | 0 => fun _ _ _ _ r h => by simp [spec_MoveShape.j0] at h
 | k + 1 => by
  have ih0 := spec_MoveShape.mono_l k
  ·intro y0 y1 y2 y3
   unfold spec_MoveShape.j0
   repeat' first
   | (with_reducible exact ih0 _ _ _ _)
   | (with_reducible exact spec_IsShape.mono _ _)
   | (with_reducible exact spec_l02Move.mono _ _ _ _)
   | (with_reducible exact LeO.refl _)
   | (with_reducible exact LeO.none _)
   | (with_reducible refine LeO.ite ?_ ?_)
   | (with_reducible refine LeO.bind ?_ (fun _ => ?_))
   | exact ih0 _ _ _ _
   | exact spec_IsShape.mono _ _
   | exact spec_l02Move.mono _ _ _ _
   | exact LeO.none _
   | refine LeO.ite ?_ ?_
   | refine LeO.bind ?_ (fun _ => ?_)
theorem spec_MoveShape.mono : ∀ a0 a1 a2 k, LeO (spec_MoveShape.f k a0 a1 a2) (spec_MoveShape.f (k + 1) a0 a1 a2) := by
 intro a0 a1 a2 k
 have ih0 := spec_MoveShape.mono_l k
 unfold spec_MoveShape.f
 repeat' first
   | (with_reducible exact ih0 _ _ _ _)
   | (with_reducible exact spec_IsShape.mono _ _)
   | (with_reducible exact spec_l02Move.mono _ _ _ _)
   | (with_reducible exact LeO.refl _)
   | (with_reducible exact LeO.none _)
   | (with_reducible refine LeO.ite ?_ ?_)
   | (with_reducible refine LeO.bind ?_ (fun _ => ?_))
   | exact ih0 _ _ _ _
   | exact spec_IsShape.mono _ _
   | exact spec_l02Move.mono _ _ _ _
   | exact LeO.none _
   | refine LeO.ite ?_ ?_
   | refine LeO.bind ?_ (fun _ => ?_)
set_option maxHeartbeats 8000000 in
set_option maxRecDepth 100000 in
theorem spec_MoveShape.calls (k : Nat) (A0 : Option Addr) (c0 : Nat) (l0 : List (S57)) (a1 : Int) (a2 : Int) (r1 : List (S57)) (r2 : Int) (w : World) (hr0 : Kd.C k57 w A0 l0.length l0) (hc0 : l0.length ≤ c0) (h : spec_MoveShape.f k l0 a1 a2 = some (r1, r2)) :
  Calls Try.prog 58 #[.slice A0 l0.length c0, .int .i64 a1, .int .i64 a2] w fun e w' => ∃ v0_ : Value, e = .returned (.tuple #[v0_, .int .i64 r2]) ∧ Kd.R k57 57 w' w.heap.size (fun _ => True) v0_ r1 ∧ Below w.heap.size w w' := by
 have HR0 := Aside0.mk hr0
 have HC0 := Aside0.mk hc0
 clear hr0 hc0
 have HB := Aside0.mk (Below.refl w.heap.size w)
 have H : ((spec_IsShape.f k l0).bind fun t1129 => (if t1129 = true then ((spec_l01In.f a1 (-200) 200).bind fun t1130 => (if t1130 = true then ((spec_l01In.f a2 (-200) 200).bind fun t1131 => (spec_MoveShape.j0 k l0 a1 a2 (!t1131))) else (spec_MoveShape.j0 k l0 a1 a2 true))) else (some (([] : List (S57)), 1)))) = some (r1, r2) := h
 clear h
 replace H := Option.bind_eq_some_iff.mp H
 obtain ⟨t1129, A40, H⟩ := H
 try dsimp only at H
 have A4 := Aside0.mk A40
 clear A40
 by_cases c5 : t1129 = true
 ·subst c5
  have H1 : ((spec_l01In.f a1 (-200) 200).bind fun t1130 => (if t1130 = true then ((spec_l01In.f a2 (-200) 200).bind fun t1131 => (spec_MoveShape.j0 k l0 a1 a2 (!t1131))) else (spec_MoveShape.j0 k l0 a1 a2 true))) = some (r1, r2) := by rw [if_pos rfl] at H; exact H
  clear H
  have H := H1
  clear H1
  have HC6 := Aside0.mk H
  clear H
  go_enter Try.func58, Try.ntmps58
  go_upto_region 3 with (first | ((with_reducible refine gate_callee (f := 61) rfl ?_); refine gL_ (some 10) Try.func61 #[.slice A0 l0.length c0] ?_; (with_reducible refine (spec_IsShape.calls k _ _ l0 true _ ?side1 ?side2 A4.out).mono ?_); (case side1 => exact cS_ HR0.out); (case side2 => exact HC0.out); rintro e w7 ⟨rfl, hb⟩; refine ⟨_, rfl, ?_⟩; replace HB := Aside0.mk (below_step bB_ hb); (try clear hb)))
  (try simp only [Act.put, List.setIfInBounds_toArray, List.set_cons_zero, List.set_cons_succ])
  go_cut [19] (fun v19 wc => ∃ (kq : Nat) (x19_5 : Bool), v19 = .bool x19_5 ∧ Aside0 (spec_MoveShape.j0 kq l0 a1 a2 x19_5 = some (r1, r2)) ∧ Aside0 (kq ≤ k) ∧ Aside0 (Below w.heap.size w wc))
  case first =>
   have H := HC6.out
   clear HC6
   replace H := Option.bind_eq_some_iff.mp H
   obtain ⟨t1130, A80, H⟩ := H
   try dsimp only at H
   have A8 := Aside0.mk A80
   clear A80
   by_cases c9 : t1130 = true
   ·subst c9
    have H1 : ((spec_l01In.f a2 (-200) 200).bind fun t1131 => (spec_MoveShape.j0 k l0 a1 a2 (!t1131))) = some (r1, r2) := by rw [if_pos rfl] at H; exact H
    clear H
    have H := H1
    clear H1
    replace H := Option.bind_eq_some_iff.mp H
    obtain ⟨t1131, A100, H⟩ := H
    try dsimp only at H
    have A10 := Aside0.mk A100
    clear A100
    have H' := Aside0.mk H
    clear H
    go_wp2_with (first | ((with_reducible refine gate_callee (f := 100) rfl ?_); refine gL_ (some 13) Try.func100 #[.int .i64 a1, .int .i64 (-200), .int .i64 200] ?_; (with_reducible refine (spec_l01In.calls a1 (-200) 200 true _ A8.out).mono ?_); rintro e w' ⟨rfl, ⟨nd, rfl⟩⟩; refine ⟨_, rfl, ?_⟩) | (go_at_call 100; (with_reducible refine (spec_l01In.calls a2 (-200) 200 t1131 _ A10.out).mono ?_); rintro e w' ⟨rfl, ⟨nd, rfl⟩⟩))
    go_meet
    case rel => exact ⟨_, (!t1131), r3_, H', ⟨by first | omega | exact Nat.le_refl _⟩, ⟨bB_⟩⟩
   ·replace c9 := Bool.eq_false_iff.mpr c9
    subst c9
    have H1 : (spec_MoveShape.j0 k l0 a1 a2 true) = some (r1, r2) := by rw [if_neg (show ¬ (false = true) by decide)] at H; exact H
    clear H
    have H := H1
    clear H1
    have H' := Aside0.mk H
    clear H
    go_wp2_with (first | ((with_reducible refine gate_callee (f := 100) rfl ?_); refine gL_ (some 13) Try.func100 #[.int .i64 a1, .int .i64 (-200), .int .i64 200] ?_; (with_reducible refine (spec_l01In.calls a1 (-200) 200 false _ A8.out).mono ?_); rintro e w' ⟨rfl, ⟨nd, rfl⟩⟩; refine ⟨_, rfl, ?_⟩))
    go_meet
    case rel => exact ⟨_, (true), r3_, H', ⟨by first | omega | exact Nat.le_refl _⟩, ⟨bB_⟩⟩
  case rest =>
   clear HC6
   try clear c1
   try clear p2
   try clear c5
   try clear c6
   try clear c9
   try clear c10
   obtain ⟨kq, x19_5, rfl, HA, HJ5, HB⟩ := hcut
   cases kq with
   | zero => exact absurd HA.out (by simp [spec_MoveShape.j0])
   | succ kj5 =>
    have H := HA.out
    clear HA
    simp only [spec_MoveShape.j0] at H
    by_cases c11 : x19_5 = true
    ·subst c11
     have H1 : (some (([] : List (S57)), 2)) = some (r1, r2) := by rw [if_pos rfl] at H; exact H
     clear H
     have H := H1
     clear H1
     simp only [Option.some.injEq, Prod.mk.injEq] at H
     obtain ⟨rfl, rfl⟩ := H
     go_wp2
     go_ret2
     exact ⟨_, r2_, by first | exact Kd.R_nil _ _ _ _ _ | exact Kd.N_nil _ _ _ _ _ | exact Kd.V_nil _ _ _ _ _ | exact Kd.Q_nil _ _ _ _ _ | exact Kd.S_nil _ _ _ _ _, bB_⟩
    ·replace c11 := Bool.eq_false_iff.mpr c11
     subst c11
     have H1 : ((spec_l02Move.f kj5 l0 a1 a2).bind fun t1132 => ((spec_IsShape.f kj5 t1132).bind fun t1135 => (if t1135 = true then (some (t1132, 0)) else (some (([] : List (S57)), 3))))) = some (r1, r2) := by rw [if_neg (show ¬ (false = true) by decide)] at H; exact H
     clear H
     have H := H1
     clear H1
     replace H := Option.bind_eq_some_iff.mp H
     obtain ⟨t1132, A120, H⟩ := H
     try dsimp only at H
     have A12 := Aside0.mk A120
     clear A120
     replace H := Option.bind_eq_some_iff.mp H
     obtain ⟨t1135, A130, H⟩ := H
     try dsimp only at H
     have A13 := Aside0.mk A130
     clear A130
     by_cases c14 : t1135 = true
     ·subst c14
      have H1 : (some (t1132, 0)) = some (r1, r2) := by rw [if_pos rfl] at H; exact H
      clear H
      have H := H1
      clear H1
      simp only [Option.some.injEq, Prod.mk.injEq] at H
      obtain ⟨rfl, rfl⟩ := H
      go_wp2_with (first | ((with_reducible refine gate_callee (f := 95) rfl ?_); refine gL_ (some 23) Try.func95 #[.slice A0 l0.length c0, .int .i64 a1, .int .i64 a2] ?_; (with_reducible refine (spec_l02Move.calls kj5 _ _ l0 a1 a2 t1132 _ ?side1 ?side2 A12.out).mono ?_); (case side1 => exact cS_ (Kd.C_below HR0.out HB.out)); (case side2 => exact HC0.out); rintro e w15 ⟨v1133, rfl, ho0, hb⟩; refine ⟨_, rfl, ?_⟩; have HO1134 := Aside0.mk (Kd.R_lower ho0 (below_size bB_)); replace HB := Aside0.mk (below_step bB_ hb); (try clear hb ho0); obtain ⟨Ao16, co16, eo16⟩ := Kd.R_slice HO1134.out; subst eo16) | ((with_reducible refine gate_callee (f := 61) rfl ?_); refine gL_ (some 25) Try.func61 #[.slice Ao16 t1132.length co16] ?_; (with_reducible refine (spec_IsShape.calls kj5 _ _ t1132 true _ ?side1 ?side2 A13.out).mono ?_); (case side1 => exact cS_ ((Kd.R_reads' HO1134.out).2.2)); (case side2 => exact (Kd.R_reads' HO1134.out).2.1); rintro e w17 ⟨rfl, hb⟩; refine ⟨_, rfl, ?_⟩; replace HO1134 := Aside0.mk (Kd.R_below (rS_ HO1134.out) hb); replace HB := Aside0.mk (below_step bB_ hb); (try clear hb)))
      go_ret2
      exact ⟨_, r2_, rS_ HO1134.out, bB_⟩
     ·replace c14 := Bool.eq_false_iff.mpr c14
      subst c14
      have H1 : (some (([] : List (S57)), 3)) = some (r1, r2) := by rw [if_neg (show ¬ (false = true) by decide)] at H; exact H
      clear H
      have H := H1
      clear H1
      simp only [Option.some.injEq, Prod.mk.injEq] at H
      obtain ⟨rfl, rfl⟩ := H
      go_wp2_with (first | ((with_reducible refine gate_callee (f := 95) rfl ?_); refine gL_ (some 23) Try.func95 #[.slice A0 l0.length c0, .int .i64 a1, .int .i64 a2] ?_; (with_reducible refine (spec_l02Move.calls kj5 _ _ l0 a1 a2 t1132 _ ?side1 ?side2 A12.out).mono ?_); (case side1 => exact cS_ (Kd.C_below HR0.out HB.out)); (case side2 => exact HC0.out); rintro e w18 ⟨v1133, rfl, ho0, hb⟩; refine ⟨_, rfl, ?_⟩; have HO1134 := Aside0.mk (Kd.R_lower ho0 (below_size bB_)); replace HB := Aside0.mk (below_step bB_ hb); (try clear hb ho0); obtain ⟨Ao19, co19, eo19⟩ := Kd.R_slice HO1134.out; subst eo19) | ((with_reducible refine gate_callee (f := 61) rfl ?_); refine gL_ (some 25) Try.func61 #[.slice Ao19 t1132.length co19] ?_; (with_reducible refine (spec_IsShape.calls kj5 _ _ t1132 false _ ?side1 ?side2 A13.out).mono ?_); (case side1 => exact cS_ ((Kd.R_reads' HO1134.out).2.2)); (case side2 => exact (Kd.R_reads' HO1134.out).2.1); rintro e w20 ⟨rfl, hb⟩; refine ⟨_, rfl, ?_⟩; replace HO1134 := Aside0.mk (Kd.R_below (rS_ HO1134.out) hb); replace HB := Aside0.mk (below_step bB_ hb); (try clear hb)))
      go_ret2
      exact ⟨_, r2_, by first | exact Kd.R_nil _ _ _ _ _ | exact Kd.N_nil _ _ _ _ _ | exact Kd.V_nil _ _ _ _ _ | exact Kd.Q_nil _ _ _ _ _ | exact Kd.S_nil _ _ _ _ _, bB_⟩
 ·replace c5 := Bool.eq_false_iff.mpr c5
  subst c5
  have H1 : (some (([] : List (S57)), 1)) = some (r1, r2) := by rw [if_neg (show ¬ (false = true) by decide)] at H; exact H
  clear H
  have H := H1
  clear H1
  simp only [Option.some.injEq, Prod.mk.injEq] at H
  obtain ⟨rfl, rfl⟩ := H
  go_enter Try.func58, Try.ntmps58
  go_wp2_with (first | ((with_reducible refine gate_callee (f := 61) rfl ?_); refine gL_ (some 10) Try.func61 #[.slice A0 l0.length c0] ?_; (with_reducible refine (spec_IsShape.calls k _ _ l0 false _ ?side1 ?side2 A4.out).mono ?_); (case side1 => exact cS_ HR0.out); (case side2 => exact HC0.out); rintro e w21 ⟨rfl, hb⟩; refine ⟨_, rfl, ?_⟩; replace HB := Aside0.mk (below_step bB_ hb); (try clear hb)))
  go_ret2
  exact ⟨_, r2_, by first | exact Kd.R_nil _ _ _ _ _ | exact Kd.N_nil _ _ _ _ _ | exact Kd.V_nil _ _ _ _ _ | exact Kd.Q_nil _ _ _ _ _ | exact Kd.S_nil _ _ _ _ _, bB_⟩

/-! ### spec_DrawSortCells: function 59, by hand -/
-- COMMONS none
def spec_DrawSortCells.go (k : Nat) (c : List Int) : Nat → List S57 → Int → Int → Option (List S57)
 | 0, l, _, _ => some l
 | d + 1, l, i, s => if 1 < l.length then ((spec_l01Next.f c i s (l.length : Int)).bind fun b => if (0 ≤ b.1 ∧ b.1 < (l.length : Int)) ∧ l.length ≤ 1000 then spec_DrawSortCells.go k c d (l.take b.1.toNat ++ l.drop (b.1.toNat + 1) ++ [rd_T57 l b.1]) b.2.1 b.2.2 else none) else some l
def spec_DrawSortCells.f (k : Nat) (l0 : List Int) : Option (List S57) :=
 (spec_l01From.f k l0).bind fun s => (spec_l02Draw.f k s.1 s.2.1 s.2.2).bind fun d => spec_DrawSortCells.go k s.1 3 d.1 d.2.1 d.2.2
theorem spec_DrawSortCells.go_mono (k : Nat) (c : List Int) : ∀ d l i s, LeO (spec_DrawSortCells.go k c d l i s) (spec_DrawSortCells.go (k + 1) c d l i s) := by
 intro d
 induction d with
 | zero => intro l i s; exact LeO.refl _
 | succ d ih => intro l i s; exact LeO.ite (LeO.bind (LeO.refl _) fun b => LeO.ite (ih _ _ _) (LeO.refl _)) (LeO.refl _)
theorem spec_DrawSortCells.mono : ∀ a0 k, LeO (spec_DrawSortCells.f k a0) (spec_DrawSortCells.f (k + 1) a0) := by
 intro a0 k
 unfold spec_DrawSortCells.f
 exact LeO.bind (spec_l01From.mono _ _) fun s => LeO.bind (spec_l02Draw.mono _ _ _ _) fun d => spec_DrawSortCells.go_mono k _ _ _ _ _
def spec_DrawSortCells.T7 : Bool × List (List Nat × List Nat) := (true, [([], []), ([], []), ([], []), ([1, 2], [1, 2]), ([0, 3], [0, 3]), ([], []), ([], []), ([6], [6]), ([5, 7], [5, 7]), ([4, 8, 4], [4, 8]), ([], []), ([], []), ([10, 11], [10, 11]), ([12], [12]), ([13], [13]), ([9, 14, 9], [9, 14]), ([15, 15, 0, 1, 2, 3, 4, 5, 6, 7, 8, 9, 10, 11, 12, 13, 14, 15], [1, 5, 10, 15])])
def spec_DrawSortCells.B7 : List Nat := [0, 0, 0, 6, 15, 0, 0, 64, 224, 511, 0, 0, 3072, 7168, 15360, 32767, 65535]
theorem spec_DrawSortCells.tab7 : rtab .any (opsOf Try.f59 7) = spec_DrawSortCells.T7 := by kernel_rfl
theorem spec_DrawSortCells.bits7 : waitsOk spec_DrawSortCells.T7.2 spec_DrawSortCells.B7 = true := by kernel_rfl
set_option maxHeartbeats 8000000 in
set_option maxRecDepth 100000 in
theorem spec_DrawSortCells.calls (k : Nat) (A0 : Option Addr) (c0 : Nat) (l0 : List Int) (r : List S57) (w : World) (hr0 : Kd.C (Kd.int .u8) w A0 l0.length l0) (hc0 : l0.length ≤ c0) (h : spec_DrawSortCells.f k l0 = some r) :
  Calls Try.prog 59 #[.slice A0 l0.length c0] w fun e w' => ∃ v0_ : Value, e = .returned (v0_) ∧ Kd.R k57 57 w' w.heap.size (fun _ => True) v0_ r ∧ Below w.heap.size w w' := by
 have hu1 := Try.underlying30
 have hu2 := Try.underlying57
 have HR0 := Aside0.mk hr0
 have HC0 := Aside0.mk hc0
 clear hr0 hc0
 obtain ⟨⟨c, i, s⟩, hf, h1⟩ := Option.bind_eq_some_iff.mp h
 obtain ⟨⟨d, di, ds⟩, hd, h2⟩ := Option.bind_eq_some_iff.mp h1
 have HF := Aside0.mk hf
 have HD := Aside0.mk (show spec_l02Draw.f k c i s = some (d, di, ds) from hd)
 have HGO := Aside0.mk (show spec_DrawSortCells.go k c 3 d di ds = some r from h2)
 clear h h1 h2 hf hd
 go_enter Try.func59, Try.ntmps59
 go_wp2_with fail
 refine (spec_l01From.calls k A0 c0 l0 c i s w _ (Below.refl _ _) HR0.out HC0.out HF.out).mono ?_
 rintro e w1 ⟨g, rfl, hI, hb, _⟩
 have HI1 := Aside0.mk hI
 have HB1 := Aside0.mk hb
 clear hI hb HF
 go_wp2_with fail
 refine (spec_l02Draw.calls k g c i s d di ds w _ HI1.out HB1.out HD.out).mono ?_
 rintro e w2 ⟨v, rfl, hR, hI, hb, _⟩
 have HO := Aside0.mk (Kd.R_lower hR (below_size HB1.out))
 have HI := Aside0.mk hI
 have HB := Aside0.mk hb
 clear hR hI hb HD HI1 HB1
 obtain ⟨A4, c4, e4⟩ := Kd.R_slice HO.out
 subst e4
 go_wp2_with fail
 go_loopg [4, 5] 3 (fun gk v4 v5 wr => ∃ (j : Nat) (l : List S57) (i s : Int), v5 = .int .i64 j ∧ Aside0 (gk + j = 3) ∧ Aside0 (spec_DrawSortCells.go k c gk l i s = some r) ∧ Aside0 (Kd.R k57 57 wr w.heap.size (fun _ => True) v4 l) ∧ Aside0 (IsS96 w wr g c i s) ∧ Aside0 (Below w.heap.size w wr))
 case atStart => exact ⟨0, d, di, ds, rfl, ⟨rfl⟩, HGO, HO, HI, HB⟩
 case round =>
  clear HGO HO HI HB
  obtain ⟨j, l, i2, s2, rfl, HK, HGO, HO, HI, HB⟩ := hrel
  obtain ⟨A4, c4, e4⟩ := Kd.R_slice HO.out
  subst e4
  have HLEN := Aside0.mk (Kd.R_reads' HO.out).2.2.2.1
  cases gk with
  | zero =>
   have hj : j = 3 := by have := HK.out; omega
   subst hj
   have hs2 : some l = some r := HGO.out
   obtain rfl := Option.some.inj hs2
   clear hs2 HGO
   go_wp2_with fail
   go_ret
   exact ⟨_, rfl, HO.out, HB.out⟩
  | succ gk2 =>
   have hj : j < 3 := by have := HK.out; omega
   have z1 : decide ((j : Int) < 3) = true := decide_eq_true (by omega)
   have z2 : decide (j < 3) = true := decide_eq_true hj
   have hlen := HLEN.out
   by_cases hl : 1 < l.length
   rotate_left
   ·have z3 : decide ((l.length : Int) > 1) = false := decide_eq_false (by omega)
    have z4 : decide (1 < l.length) = false := decide_eq_false hl
    have z5 : decide (1 < (l.length : Int)) = false := decide_eq_false (by omega)
    have hs := HGO.out
    unfold spec_DrawSortCells.go at hs
    rw [if_neg hl] at hs
    obtain rfl := Option.some.inj hs
    clear hs HGO hl
    go_wp2_with fail
    go_ret
    exact ⟨_, rfl, HO.out, HB.out⟩
   have z3 : decide ((l.length : Int) > 1) = true := decide_eq_true (by omega)
   have z4 : decide (1 < l.length) = true := decide_eq_true hl
   have z5 : decide (1 < (l.length : Int)) = true := decide_eq_true (by omega)
   have hs := HGO.out
   unfold spec_DrawSortCells.go at hs
   rw [if_pos hl] at hs
   obtain ⟨⟨b, bi, bs⟩, hb, hs2⟩ := Option.bind_eq_some_iff.mp hs
   by_cases hbb : (0 ≤ b ∧ b < (l.length : Int)) ∧ l.length ≤ 1000
   rotate_left
   ·rw [if_neg hbb] at hs2; exact absurd hs2 (by simp)
   rw [if_pos hbb] at hs2
   obtain ⟨⟨hb0, hb1⟩, hb3⟩ := hbb
   obtain ⟨n, rfl⟩ : ∃ n : Nat, b = (n : Int) := ⟨b.toNat, by omega⟩
   have hn : n < l.length := by omega
   have HN := Aside0.mk (show spec_l01Next.f c i2 s2 (l.length : Int) = some ((n : Int), bi, bs) from hb)
   have HG2 := Aside0.mk (show spec_DrawSortCells.go k c gk2 (l.take n ++ l.drop (n + 1) ++ [rd_T57 l (n : Int)]) bi bs = some r by simpa using hs2)
   have HNL := Aside0.mk (⟨hn, hb3⟩ : n < l.length ∧ l.length ≤ 1000)
   clear hs hs2 hb HGO hl hb3 hb0 hb1
   go_wp2_with fail
   refine (spec_l01Next.calls g c i2 s2 (l.length : Int) (n : Int) bi bs w _ HI.out HB.out HN.out).mono ?_
   rintro e w3 ⟨rfl, hI, hb, hk⟩
   have HO3 := Aside0.mk (Kd.R_mono (ok' := fun _ => True) (Kd.R_keep (IsS96.apart HI.out HO.out (by decide)) hk (fun _ h => h.2)) (fun _ _ => trivial))
   have HI3 := Aside0.mk hI
   have HB3 := Aside0.mk hb
   clear hI hb hk HO HI HB HN
   go_wp2_with fail
   have hn1 := HNL.out.1
   have hn2 := HNL.out.2
   have HO4 := Aside0.mk (Kd.R_drew HO3.out)
   have HI4 := Aside0.mk (IsS96.drew HI3.out)
   have HB4 := Aside0.mk (below_drew1 HB3.out)
   clear HO3 HI3 HB3
   have p1 : 0 ≤ (n : Int) := by omega
   have q1 : (n : Int) < (l.length : Int) := by omega
   have p5 : 0 ≤ (n : Int) + 1 := by omega
   have q5 : (n : Int) + 1 ≤ (l.length : Int) := by omega
   have hw1 : IntKind.i64.wrap ((n : Int) + 1) = (n : Int) + 1 := by rw [IntKind.wrap_i64]; omega
   have hrm := (Kd.R_reads' HO4.out).2.1
   have hC := (Kd.R_reads' HO4.out).2.2
   obtain ⟨ad, ead, hx0, hx1⟩ := at_T57 hC (n : Int) p1 q1
   cases ead
   obtain ⟨i0, hi0, _, hsz0, _⟩ := info_parts info57
   have hcut1 := cut_to (P := Try.prog) 30 57 .i64 hu1 hi0 (some ad) l.length c4 (n : Int) p1 (by omega) hrm
   have hcut2 := cut_from (P := Try.prog) 30 57 .i64 hu1 hi0 2 hsz0 (some ad) l.length c4 ((n : Int) + 1) p5 q5
   have hC1 := Kd.C_take (m := n) hC (by omega)
   have hC2 := Kd.C_drop (m := n + 1) (c := c4) hC (by omega) hrm
   rw [Int.toNat_natCast] at hcut1 hx0 hx1
   rw [show ((n : Int) + 1).toNat = n + 1 by omega] at hcut2
   obtain ⟨A2, hA2⟩ : ∃ A2, A2 = (if c4 = n + 1 then some ad else (some ad : Option Addr).map (·.add ((n + 1) * 2))) := ⟨_, rfl⟩
   rw [← hA2] at hcut2
   have hlt : (l.take n).length = n := by rw [List.length_take]; omega
   have hld : (l.drop (n + 1)).length = l.length - (n + 1) := List.length_drop ..
   have hC2' : Kd.C k57 w3.drew A2 (l.length - (n + 1)) (l.drop (n + 1)) := by rw [hA2, ← hld]; exact hC2
   rw [hlt] at hC1
   have HC1 := Aside0.mk hC1
   have HC2 := Aside0.mk hC2'
   have HLT := Aside0.mk hlt
   have HLD := Aside0.mk hld
   clear hC hC1 hC2 hC2' hA2 hi0 hsz0 hrm hlen HLEN hlt hld
   generalize rd_T57 l (n : Int) = x at *
   refine start_ (n := 17) (S := fun w' => w'.cell? (ad.add (n * 2)) = some (.int .i64 x.f0) ∧ w'.cell? ⟨(ad.add (n * 2)).block, (ad.add (n * 2)).off + 1, none⟩ = some (.int .i64 x.f1)) (ds := []) #[F, F, F, F, F, F, F, F, F, F, F, F, F, F, F, F, F] (by kernel_rfl) rfl rfl ⟨hx0, hx1⟩ (fun hHeld => ?_); refine with_tabW spec_DrawSortCells.tab7 spec_DrawSortCells.bits7 (fun HT_ HW_ => ?_)
   generalize w3.drew = w9 at *
   have HB9 := Aside0.mk (Below.refl w9.heap.size w9)
   refine pu_ HT_ 1 (some 25) #[F, T, F, F, F, F, F, F, F, F, F, F, F, F, F, F, F] ?_
   refine pu_ HT_ 2 (some 26) #[F, T, T, F, F, F, F, F, F, F, F, F, F, F, F, F, F] ?_
   refine pu_ HT_ 3 (some 27) #[F, T, T, T, F, F, F, F, F, F, F, F, F, F, F, F, F] ?_
   refine pu_ HT_ 5 (some 29) #[F, T, T, T, F, T, F, F, F, F, F, F, F, F, F, F, F] ?_
   refine pu_ HT_ 6 (some 30) #[F, T, T, T, F, T, T, F, F, F, F, F, F, F, F, F, F] ?_
   refine pu_ HT_ 7 (some 31) #[F, T, T, T, F, T, T, T, F, F, F, F, F, F, F, F, F] ?_
   refine pu_ HT_ 8 (some 32) #[F, T, T, T, F, T, T, T, T, F, F, F, F, F, F, F, F] ?_
   refine pu_ HT_ 10 (some 34) #[F, T, T, T, F, T, T, T, T, F, T, F, F, F, F, F, F] ?_
   refine pu_ HT_ 11 (some 35) #[F, T, T, T, F, T, T, T, T, F, T, T, F, F, F, F, F] ?_
   refine pu_ HT_ 12 (some 36) #[F, T, T, T, F, T, T, T, T, F, T, T, T, F, F, F, F] ?_
   refine take_ (i := 13) (N := some 37) (v := ?_) (a' := ?_) #[F, T, T, T, F, T, T, T, T, F, T, T, T, T, F, F, F] rfl rfl (take_ofW HT_.out HW_.out (by kernel_rfl)) (fun _ _ _ h => h) (Or.inl ⟨by rfl, ?_⟩) hHeld ?_ ?_
   rotate_left
   ·rintro w' ⟨s0, s1⟩
    go_simp
    with_reducible rfl
   rotate_left
   ·simp only [Act.put, List.setIfInBounds_toArray, List.set_cons_zero, List.set_cons_succ, i64_w, i32_w]
    rfl
   refine join_ (σ := Value × Value × Value × Value) 2 #[T, T, T, T, T, T, T, T, T, T, T, T, T, T, T, F, F] (fun s_ => [(24, s_.1), (28, s_.2.1), (33, s_.2.2.1), (38, s_.2.2.2)]) (fun s_ w' => (w'.cell? (ad.add (n * 2)) = some (.int .i64 x.f0) ∧ w'.cell? ⟨(ad.add (n * 2)).block, (ad.add (n * 2)).off + 1, none⟩ = some (.int .i64 x.f1)) ∧ Kd.R k57 57 w' w9.heap.size (fun _ => True) s_.2.2.1 (l.take n ++ l.drop (n + 1)) ∧ Kd.R k57 57 w' w9.heap.size (fun _ => True) s_.2.2.2 [x] ∧ Below w9.heap.size w9 w') ?_ ?_
   rotate_left
   ·intro hCont
    refine two_ (i := 0) (j := 14) (Ni := some 24) (Nj := some 38) #[T, T, T, T, F, T, T, T, T, F, T, T, T, T, F, F, F] #[F, T, T, T, F, T, T, T, T, F, T, T, T, T, T, F, F] rfl rfl rfl rfl (two_of HT_.out (by kernel_rfl)) (by decide) (by decide) (fun K hK => ?_) (fun K hK => ?_)
    ·skip
     refine Kd.R_lit_step k57 _ 57 ?hg (N := 24) ?hd (xs := ([] : List S57)) (inner := []) (ok := fun _ => True) (okp := fun _ => True) ?hr ?hp (fun _ hk => hk) trivial (Below.refl _ _) (Nat.le_refl _) (by simp) ?_; (case hd => rfl); (case hg => rfl); (case hr => first | (go_simp; done) | (go_simp; rfl)); (case hp => exact (Reps.none _ _))
     intro v24 w21 ho hb hg_ hnew_
     clear hg_ hnew_
     have H24 := Aside0.mk (Kd.R_lower ho (below_size HB9.out))
     replace HB9 := Aside0.mk (below_step HB9.out hb)
     clear ho hb
     refine hK.out _ _ ⟨(HB9.out.cell (World.block_lt_of_cell? w9 _ hx0)).trans hx0, (HB9.out.cell (World.block_lt_of_cell? w9 _ hx1)).trans hx1⟩ (fun hHeld => ?_)
     clear hK K
     refine no_ (some 24) ?_
     refine two_ (i := 4) (j := 14) (Ni := some 28) (Nj := some 38) #[T, T, T, T, T, T, T, T, T, F, T, T, T, T, F, F, F] #[T, T, T, T, F, T, T, T, T, F, T, T, T, T, T, F, F] rfl rfl rfl rfl (two_of HT_.out (by kernel_rfl)) (by decide) (by decide) (fun K hK => ?_) (fun K hK => ?_)
     ·skip
      refine Kd.R_append_rows_step k57 (w0 := w9) w9.heap.size (by rfl) (.tmp 24) (.tmp 27) 30 57 (.agg #[(.int .i64 0), (.int .i64 0)]) 16 rfl Try.underlying30 info57 rfl (by decide) (by omega) v24 ([] : List S57) (l.take n) (some ad) n c4 (fun _ => True) (fun _ => False) rfl rfl ?aO ?aR (fun _ _ h => h) (fun _ h => h.elim) ?aF ?aB ?aS ?aL ?_
      (case aR => exact (Kd.C_below HC1.out HB9.out))
      (case aB => exact HB9.out)
      (case aF => exact (fun _ _ => trivial))
      (case aO => exact H24.out)
      (case aS => exact (below_size HB9.out))
      (case aL => have h1_ := HNL.out; have h2_ := HLT.out; simp only [List.length_append, List.length_nil] at *; omega)
      intro v28 w22 ho hb hg hat
      have H28 := Aside0.mk ho
      replace HB9 := Aside0.mk hb
      clear ho hb hg hat H24
      refine hK.out _ _ ⟨(HB9.out.cell (World.block_lt_of_cell? w9 _ hx0)).trans hx0, (HB9.out.cell (World.block_lt_of_cell? w9 _ hx1)).trans hx1⟩ (fun hHeld => ?_)
      clear hK K
      refine no_ (some 28) ?_
      refine two_ (i := 9) (j := 14) (Ni := some 33) (Nj := some 38) #[T, T, T, T, T, T, T, T, T, T, T, T, T, T, F, F, F] #[T, T, T, T, T, T, T, T, T, F, T, T, T, T, T, F, F] rfl rfl rfl rfl (two_of HT_.out (by kernel_rfl)) (by decide) (by decide) (fun K hK => ?_) (fun K hK => ?_)
      ·skip
       refine Kd.R_append_rows_step k57 (w0 := w9) w9.heap.size (by rfl) (.tmp 28) (.tmp 32) 30 57 (.agg #[(.int .i64 0), (.int .i64 0)]) 16 rfl Try.underlying30 info57 rfl (by decide) (by omega) v28 ([] ++ l.take n) (l.drop (n + 1)) A2 (l.length - (n + 1)) (c4 - (n + 1)) (fun _ => True) (fun _ => False) rfl rfl ?aO ?aR (fun _ _ h => h) (fun _ h => h.elim) ?aF ?aB ?aS ?aL ?_
       (case aR => exact (Kd.C_below HC2.out HB9.out))
       (case aB => exact HB9.out)
       (case aF => exact (fun _ _ => trivial))
       (case aO => exact H28.out)
       (case aS => exact (below_size HB9.out))
       (case aL => have h1_ := HNL.out; have h2_ := HLT.out; simp only [List.length_append, List.length_nil] at *; omega)
       intro v33 w23 ho hb hg hat
       have H33 := Aside0.mk ho
       replace HB9 := Aside0.mk hb
       clear ho hb hg hat H28
       refine hK.out _ _ ⟨(HB9.out.cell (World.block_lt_of_cell? w9 _ hx0)).trans hx0, (HB9.out.cell (World.block_lt_of_cell? w9 _ hx1)).trans hx1⟩ (fun hHeld => ?_)
       clear hK K
       refine no_ (some 33) ?_
       refine one_ (i := 14) (N := some 38) #[T, T, T, T, T, T, T, T, T, T, T, T, T, T, T, F, F] rfl rfl (one_of HT_.out (by kernel_rfl)) (by decide) (fun K hK => ?_)
       refine Kd.R_lit_step k57 _ 57 ?hg (N := 38) ?hd (xs := [x]) (inner := [.int .i64 x.f0, .int .i64 x.f1]) (ok := fun _ => True) (okp := fun _ => True) ?hr ?hp (fun _ hk => hk) trivial (Below.refl _ _) (Nat.le_refl _) (by simp) ?_; (case hd => rfl); (case hg => rfl); (case hr => first | (go_simp; done) | (go_simp; rfl)); (case hp => exact Reps.c2 (k57_mkM _ _ _ x) (Reps.none _ _))
       intro v38 w24 ho hb hg_ hnew_
       clear hg_ hnew_
       have H38 := Aside0.mk (Kd.R_lower (Kd.R_new' ho (Kd.R_lt H33.out)) (below_size HB9.out))
       replace H33 := Aside0.mk (Kd.R_below H33.out hb)
       replace HB9 := Aside0.mk (below_step HB9.out hb)
       clear ho hb
       refine hK.out _ _ ⟨(HB9.out.cell (World.block_lt_of_cell? w9 _ hx0)).trans hx0, (HB9.out.cell (World.block_lt_of_cell? w9 _ hx1)).trans hx1⟩ (fun hHeld => ?_)
       clear hK K
       refine no_ (some 38) ?_
       exact norm_ (by simp only [putAll, Act.put, List.setIfInBounds_toArray, List.set_cons_zero, List.set_cons_succ]) (hCont (v24, v28, v33, v38) _ ⟨hHeld, H33.out, Kd.R_mono H38.out (fun _ _ => trivial), HB9.out⟩)
      ·skip
       refine Kd.R_lit_step k57 _ 57 ?hg (N := 38) ?hd (xs := [x]) (inner := [.int .i64 x.f0, .int .i64 x.f1]) (ok := fun _ => True) (okp := fun _ => True) ?hr ?hp (fun _ hk => hk) trivial (Below.refl _ _) (Nat.le_refl _) (by simp) ?_; (case hd => rfl); (case hg => rfl); (case hr => first | (go_simp; done) | (go_simp; rfl)); (case hp => exact Reps.c2 (k57_mkM _ _ _ x) (Reps.none _ _))
       intro v38 w25 ho hb hg_ hnew_
       clear hg_ hnew_
       have H38 := Aside0.mk (Kd.R_lower (Kd.R_new' ho (Kd.R_lt H28.out)) (below_size HB9.out))
       replace H28 := Aside0.mk (Kd.R_below H28.out hb)
       replace HB9 := Aside0.mk (below_step HB9.out hb)
       clear ho hb
       refine hK.out _ _ ⟨(HB9.out.cell (World.block_lt_of_cell? w9 _ hx0)).trans hx0, (HB9.out.cell (World.block_lt_of_cell? w9 _ hx1)).trans hx1⟩ (fun hHeld => ?_)
       clear hK K
       refine no_ (some 38) ?_
       refine one_ (i := 9) (N := some 33) #[T, T, T, T, T, T, T, T, T, T, T, T, T, T, T, F, F] rfl rfl (one_of HT_.out (by kernel_rfl)) (by decide) (fun K hK => ?_)
       refine Kd.R_append_rows_step k57 (w0 := w9) w9.heap.size (by rfl) (.tmp 28) (.tmp 32) 30 57 (.agg #[(.int .i64 0), (.int .i64 0)]) 16 rfl Try.underlying30 info57 rfl (by decide) (by omega) v28 ([] ++ l.take n) (l.drop (n + 1)) A2 (l.length - (n + 1)) (c4 - (n + 1)) (fun _ => True) (fun _ => False) rfl rfl ?aO ?aR (fun _ _ h => h) (fun _ h => h.elim) ?aF ?aB ?aS ?aL ?_
       (case aR => exact (Kd.C_below HC2.out HB9.out))
       (case aB => exact HB9.out)
       (case aF => exact (fun _ _ => trivial))
       (case aO => exact H28.out)
       (case aS => exact (below_size HB9.out))
       (case aL => have h1_ := HNL.out; have h2_ := HLT.out; simp only [List.length_append, List.length_nil] at *; omega)
       intro v33 w26 ho hb hg hat
       replace H38 := Aside0.mk (Kd.R_after (ok := fun _ => True) H38.out hg hat)
       have H33 := Aside0.mk ho
       replace HB9 := Aside0.mk hb
       clear ho hb hg hat H28
       refine hK.out _ _ ⟨(HB9.out.cell (World.block_lt_of_cell? w9 _ hx0)).trans hx0, (HB9.out.cell (World.block_lt_of_cell? w9 _ hx1)).trans hx1⟩ (fun hHeld => ?_)
       clear hK K
       refine no_ (some 33) ?_
       exact norm_ (by simp only [putAll, Act.put, List.setIfInBounds_toArray, List.set_cons_zero, List.set_cons_succ]) (hCont (v24, v28, v33, v38) _ ⟨hHeld, H33.out, Kd.R_mono H38.out (fun _ _ => trivial), HB9.out⟩)
     ·skip
      refine Kd.R_lit_step k57 _ 57 ?hg (N := 38) ?hd (xs := [x]) (inner := [.int .i64 x.f0, .int .i64 x.f1]) (ok := fun _ => True) (okp := fun _ => True) ?hr ?hp (fun _ hk => hk) trivial (Below.refl _ _) (Nat.le_refl _) (by simp) ?_; (case hd => rfl); (case hg => rfl); (case hr => first | (go_simp; done) | (go_simp; rfl)); (case hp => exact Reps.c2 (k57_mkM _ _ _ x) (Reps.none _ _))
      intro v38 w27 ho hb hg_ hnew_
      clear hg_ hnew_
      have H38 := Aside0.mk (Kd.R_lower (Kd.R_new' ho (Kd.R_lt H24.out)) (below_size HB9.out))
      replace H24 := Aside0.mk (Kd.R_below H24.out hb)
      replace HB9 := Aside0.mk (below_step HB9.out hb)
      clear ho hb
      refine hK.out _ _ ⟨(HB9.out.cell (World.block_lt_of_cell? w9 _ hx0)).trans hx0, (HB9.out.cell (World.block_lt_of_cell? w9 _ hx1)).trans hx1⟩ (fun hHeld => ?_)
      clear hK K
      refine no_ (some 38) ?_
      refine one_ (i := 4) (N := some 28) #[T, T, T, T, T, T, T, T, T, F, T, T, T, T, T, F, F] rfl rfl (one_of HT_.out (by kernel_rfl)) (by decide) (fun K hK => ?_)
      refine Kd.R_append_rows_step k57 (w0 := w9) w9.heap.size (by rfl) (.tmp 24) (.tmp 27) 30 57 (.agg #[(.int .i64 0), (.int .i64 0)]) 16 rfl Try.underlying30 info57 rfl (by decide) (by omega) v24 ([] : List S57) (l.take n) (some ad) n c4 (fun _ => True) (fun _ => False) rfl rfl ?aO ?aR (fun _ _ h => h) (fun _ h => h.elim) ?aF ?aB ?aS ?aL ?_
      (case aR => exact (Kd.C_below HC1.out HB9.out))
      (case aB => exact HB9.out)
      (case aF => exact (fun _ _ => trivial))
      (case aO => exact H24.out)
      (case aS => exact (below_size HB9.out))
      (case aL => have h1_ := HNL.out; have h2_ := HLT.out; simp only [List.length_append, List.length_nil] at *; omega)
      intro v28 w28 ho hb hg hat
      replace H38 := Aside0.mk (Kd.R_after (ok := fun _ => True) H38.out hg hat)
      have H28 := Aside0.mk ho
      replace HB9 := Aside0.mk hb
      clear ho hb hg hat H24
      refine hK.out _ _ ⟨(HB9.out.cell (World.block_lt_of_cell? w9 _ hx0)).trans hx0, (HB9.out.cell (World.block_lt_of_cell? w9 _ hx1)).trans hx1⟩ (fun hHeld => ?_)
      clear hK K
      refine no_ (some 28) ?_
      refine one_ (i := 9) (N := some 33) #[T, T, T, T, T, T, T, T, T, T, T, T, T, T, T, F, F] rfl rfl (one_of HT_.out (by kernel_rfl)) (by decide) (fun K hK => ?_)
      refine Kd.R_append_rows_step k57 (w0 := w9) w9.heap.size (by rfl) (.tmp 28) (.tmp 32) 30 57 (.agg #[(.int .i64 0), (.int .i64 0)]) 16 rfl Try.underlying30 info57 rfl (by decide) (by omega) v28 ([] ++ l.take n) (l.drop (n + 1)) A2 (l.length - (n + 1)) (c4 - (n + 1)) (fun _ => True) (fun _ => False) rfl rfl ?aO ?aR (fun _ _ h => h) (fun _ h => h.elim) ?aF ?aB ?aS ?aL ?_
      (case aR => exact (Kd.C_below HC2.out HB9.out))
      (case aB => exact HB9.out)
      (case aF => exact (fun _ _ => trivial))
      (case aO => exact H28.out)
      (case aS => exact (below_size HB9.out))
      (case aL => have h1_ := HNL.out; have h2_ := HLT.out; simp only [List.length_append, List.length_nil] at *; omega)
      intro v33 w29 ho hb hg hat
      replace H38 := Aside0.mk (Kd.R_after (ok := fun _ => True) H38.out hg hat)
      have H33 := Aside0.mk ho
      replace HB9 := Aside0.mk hb
      clear ho hb hg hat H28
      refine hK.out _ _ ⟨(HB9.out.cell (World.block_lt_of_cell? w9 _ hx0)).trans hx0, (HB9.out.cell (World.block_lt_of_cell? w9 _ hx1)).trans hx1⟩ (fun hHeld => ?_)
      clear hK K
      refine no_ (some 33) ?_
      exact norm_ (by simp only [putAll, Act.put, List.setIfInBounds_toArray, List.set_cons_zero, List.set_cons_succ]) (hCont (v24, v28, v33, v38) _ ⟨hHeld, H33.out, Kd.R_mono H38.out (fun _ _ => trivial), HB9.out⟩)
    ·skip
     refine Kd.R_lit_step k57 _ 57 ?hg (N := 38) ?hd (xs := [x]) (inner := [.int .i64 x.f0, .int .i64 x.f1]) (ok := fun _ => True) (okp := fun _ => True) ?hr ?hp (fun _ hk => hk) trivial (Below.refl _ _) (Nat.le_refl _) (by simp) ?_; (case hd => rfl); (case hg => rfl); (case hr => first | (go_simp; done) | (go_simp; rfl)); (case hp => exact Reps.c2 (k57_mkM _ _ _ x) (Reps.none _ _))
     intro v38 w30 ho hb hg_ hnew_
     clear hg_ hnew_
     have H38 := Aside0.mk (Kd.R_lower ho (below_size HB9.out))
     replace HB9 := Aside0.mk (below_step HB9.out hb)
     clear ho hb
     refine hK.out _ _ ⟨(HB9.out.cell (World.block_lt_of_cell? w9 _ hx0)).trans hx0, (HB9.out.cell (World.block_lt_of_cell? w9 _ hx1)).trans hx1⟩ (fun hHeld => ?_)
     clear hK K
     refine no_ (some 38) ?_
     refine one_ (i := 0) (N := some 24) #[T, T, T, T, F, T, T, T, T, F, T, T, T, T, T, F, F] rfl rfl (one_of HT_.out (by kernel_rfl)) (by decide) (fun K hK => ?_)
     refine Kd.R_lit_step k57 _ 57 ?hg (N := 24) ?hd (xs := ([] : List S57)) (inner := []) (ok := fun _ => True) (okp := fun _ => True) ?hr ?hp (fun _ hk => hk) trivial (Below.refl _ _) (Nat.le_refl _) (by simp) ?_; (case hd => rfl); (case hg => rfl); (case hr => first | (go_simp; done) | (go_simp; rfl)); (case hp => exact (Reps.none _ _))
     intro v24 w31 ho hb hg_ hnew_
     clear hg_ hnew_
     replace H38 := Aside0.mk (Kd.R_mono (ok' := fun k_ => True ∧ some k_ ≠ (v24 : Value).ownBlock) (Kd.R_elder' H38.out (Kd.R_base ho) hb) (fun _ hk => ⟨trivial, hk.2⟩))
     have H24 := Aside0.mk (Kd.R_lower ho (below_size HB9.out))
     replace HB9 := Aside0.mk (below_step HB9.out hb)
     clear ho hb
     refine hK.out _ _ ⟨(HB9.out.cell (World.block_lt_of_cell? w9 _ hx0)).trans hx0, (HB9.out.cell (World.block_lt_of_cell? w9 _ hx1)).trans hx1⟩ (fun hHeld => ?_)
     clear hK K
     refine no_ (some 24) ?_
     refine one_ (i := 4) (N := some 28) #[T, T, T, T, T, T, T, T, T, F, T, T, T, T, T, F, F] rfl rfl (one_of HT_.out (by kernel_rfl)) (by decide) (fun K hK => ?_)
     refine Kd.R_append_rows_step k57 (w0 := w9) w9.heap.size (by rfl) (.tmp 24) (.tmp 27) 30 57 (.agg #[(.int .i64 0), (.int .i64 0)]) 16 rfl Try.underlying30 info57 rfl (by decide) (by omega) v24 ([] : List S57) (l.take n) (some ad) n c4 (fun _ => True) (fun _ => False) rfl rfl ?aO ?aR (fun _ _ h => h) (fun _ h => h.elim) ?aF ?aB ?aS ?aL ?_
     (case aR => exact (Kd.C_below HC1.out HB9.out))
     (case aB => exact HB9.out)
     (case aF => exact (fun _ _ => trivial))
     (case aO => exact H24.out)
     (case aS => exact (below_size HB9.out))
     (case aL => have h1_ := HNL.out; have h2_ := HLT.out; simp only [List.length_append, List.length_nil] at *; omega)
     intro v28 w32 ho hb hg hat
     replace H38 := Aside0.mk (Kd.R_after (ok := fun _ => True) H38.out hg hat)
     have H28 := Aside0.mk ho
     replace HB9 := Aside0.mk hb
     clear ho hb hg hat H24
     refine hK.out _ _ ⟨(HB9.out.cell (World.block_lt_of_cell? w9 _ hx0)).trans hx0, (HB9.out.cell (World.block_lt_of_cell? w9 _ hx1)).trans hx1⟩ (fun hHeld => ?_)
     clear hK K
     refine no_ (some 28) ?_
     refine one_ (i := 9) (N := some 33) #[T, T, T, T, T, T, T, T, T, T, T, T, T, T, T, F, F] rfl rfl (one_of HT_.out (by kernel_rfl)) (by decide) (fun K hK => ?_)
     refine Kd.R_append_rows_step k57 (w0 := w9) w9.heap.size (by rfl) (.tmp 28) (.tmp 32) 30 57 (.agg #[(.int .i64 0), (.int .i64 0)]) 16 rfl Try.underlying30 info57 rfl (by decide) (by omega) v28 ([] ++ l.take n) (l.drop (n + 1)) A2 (l.length - (n + 1)) (c4 - (n + 1)) (fun _ => True) (fun _ => False) rfl rfl ?aO ?aR (fun _ _ h => h) (fun _ h => h.elim) ?aF ?aB ?aS ?aL ?_
     (case aR => exact (Kd.C_below HC2.out HB9.out))
     (case aB => exact HB9.out)
     (case aF => exact (fun _ _ => trivial))
     (case aO => exact H28.out)
     (case aS => exact (below_size HB9.out))
     (case aL => have h1_ := HNL.out; have h2_ := HLT.out; simp only [List.length_append, List.length_nil] at *; omega)
     intro v33 w33 ho hb hg hat
     replace H38 := Aside0.mk (Kd.R_after (ok := fun _ => True) H38.out hg hat)
     have H33 := Aside0.mk ho
     replace HB9 := Aside0.mk hb
     clear ho hb hg hat H28
     refine hK.out _ _ ⟨(HB9.out.cell (World.block_lt_of_cell? w9 _ hx0)).trans hx0, (HB9.out.cell (World.block_lt_of_cell? w9 _ hx1)).trans hx1⟩ (fun hHeld => ?_)
     clear hK K
     refine no_ (some 33) ?_
     exact norm_ (by simp only [putAll, Act.put, List.setIfInBounds_toArray, List.set_cons_zero, List.set_cons_succ]) (hCont (v24, v28, v33, v38) _ ⟨hHeld, H33.out, Kd.R_mono H38.out (fun _ _ => trivial), HB9.out⟩)
   rintro ⟨v24, v28, v33, v38⟩ w10 ⟨hHeld, h33, h38, hb9⟩
   have H33 := Aside0.mk h33
   have H38 := Aside0.mk h38
   have HB10 := Aside0.mk hb9
   clear h33 h38 hb9 HB9
   refine norm_ (a' := ?_) ?_ ?_
   rotate_left
   ·simp only [putAll, Act.put, List.setIfInBounds_toArray, List.set_cons_zero, List.set_cons_succ]
    rfl
   obtain ⟨A38, c38, e38, hl38, hC38⟩ := Kd.R_reads H38.out
   have e38' : v38 = .slice A38 1 c38 := e38
   subst e38'
   have HC38 := Aside0.mk (show Kd.C k57 w10 A38 1 [x] from hC38)
   clear e38 hl38 hC38 H38
   refine one_ (i := 15) (N := some 39) #[T, T, T, T, T, T, T, T, T, T, T, T, T, T, T, T, F] rfl rfl (one_of HT_.out (by kernel_rfl)) (by decide) (fun K hK => ?_)
   refine Kd.R_append_rows_step k57 (w0 := w9) w9.heap.size (by rfl) (.tmp 33) (.tmp 38) 30 57 (.agg #[(.int .i64 0), (.int .i64 0)]) 16 rfl Try.underlying30 info57 rfl (by decide) (by omega) v33 (l.take n ++ l.drop (n + 1)) [x] A38 1 c38 (fun _ => True) (fun _ => False) rfl rfl ?aO ?aR (fun _ _ h => h) (fun _ h => h.elim) ?aF ?aB ?aS ?aL ?_
   (case aR => exact HC38.out)
   (case aB => exact HB10.out)
   (case aF => exact (fun _ _ => trivial))
   (case aO => exact H33.out)
   (case aS => exact (below_size HB10.out))
   (case aL => have h1_ := HNL.out; have h2_ := HLT.out; have h3_ := HLD.out; rw [List.length_append]; omega)
   intro v39 w11 ho hb hg hat
   have HO5 := Aside0.mk (Kd.R_lower ho (below_size HB4.out))
   have HI5 := Aside0.mk (IsS96.below HI4.out hb)
   have HB5 := Aside0.mk (below_step HB4.out hb)
   refine hK.out _ _ ⟨(hb.cell (World.block_lt_of_cell? w9 _ hx0)).trans hx0, (hb.cell (World.block_lt_of_cell? w9 _ hx1)).trans hx1⟩ (fun hHeld => ?_)
   clear hK K ho hb hg hat
   refine no_ (some 39) ?_
   refine pu_ HT_ 16 (some 4) #[T, T, T, T, T, T, T, T, T, T, T, T, T, T, T, T, T] ?_
   refine done_ (done_of HT_.out (by kernel_rfl)) ?_
   clear hHeld HT_ HW_ HO4 HI4 HB4 H33 HB10 HC1 HC2 HC38 hx0 hx1 hcut1 hcut2
   go_wp2_with fail
   go_roundg gk2
   case measure => omega
   case rel => exact ⟨j + 1, l.take n ++ l.drop (n + 1) ++ [x], bi, bs, by go_num, ⟨by have := HK.out; omega⟩, HG2, HO5, HI5, HB5⟩

/-! ### impl_NormalForm: function 62 -/
def impl_NormalForm.f (k : Nat) (l0 : List (S57)) : Option ((List (S57)) × Int) := (impl_IsShape.f k l0).bind fun t1136 => (if t1136 = true then ((impl_normal.f k l0).bind fun t1137 => ((impl_IsShape.f k t1137).bind fun t1140 => (if t1140 = true then (some (t1137, 0)) else (some (([] : List (S57)), 3))))) else (some (([] : List (S57)), 1)))
theorem impl_NormalForm.mono : ∀ a0 k, LeO (impl_NormalForm.f k a0) (impl_NormalForm.f (k + 1) a0) := by
 intro a0 k
 unfold impl_NormalForm.f
 repeat' first
   | (with_reducible exact impl_IsShape.mono _ _)
   | (with_reducible exact impl_normal.mono _ _)
   | (with_reducible exact LeO.refl _)
   | (with_reducible exact LeO.none _)
   | (with_reducible refine LeO.ite ?_ ?_)
   | (with_reducible refine LeO.bind ?_ (fun _ => ?_))
   | exact impl_IsShape.mono _ _
   | exact impl_normal.mono _ _
   | exact LeO.none _
   | refine LeO.ite ?_ ?_
   | refine LeO.bind ?_ (fun _ => ?_)
set_option maxHeartbeats 8000000 in
set_option maxRecDepth 100000 in
theorem impl_NormalForm.calls (k : Nat) (A0 : Option Addr) (c0 : Nat) (l0 : List (S57)) (r1 : List (S57)) (r2 : Int) (w : World) (hr0 : Kd.C k57 w A0 l0.length l0) (hc0 : l0.length ≤ c0) (h : impl_NormalForm.f k l0 = some (r1, r2)) :
  Calls Try.prog 62 #[.slice A0 l0.length c0] w fun e w' => ∃ v0_ : Value, e = .returned (.tuple #[v0_, .int .i64 r2]) ∧ Kd.R k57 57 w' w.heap.size (fun _ => True) v0_ r1 ∧ Below w.heap.size w w' := by
 have HR0 := Aside0.mk hr0
 have HC0 := Aside0.mk hc0
 clear hr0 hc0
 have HB := Aside0.mk (Below.refl w.heap.size w)
 have H : ((impl_IsShape.f k l0).bind fun t1136 => (if t1136 = true then ((impl_normal.f k l0).bind fun t1137 => ((impl_IsShape.f k t1137).bind fun t1140 => (if t1140 = true then (some (t1137, 0)) else (some (([] : List (S57)), 3))))) else (some (([] : List (S57)), 1)))) = some (r1, r2) := h
 clear h
 replace H := Option.bind_eq_some_iff.mp H
 obtain ⟨t1136, A20, H⟩ := H
 try dsimp only at H
 have A2 := Aside0.mk A20
 clear A20
 by_cases c3 : t1136 = true
 ·subst c3
  have H1 : ((impl_normal.f k l0).bind fun t1137 => ((impl_IsShape.f k t1137).bind fun t1140 => (if t1140 = true then (some (t1137, 0)) else (some (([] : List (S57)), 3))))) = some (r1, r2) := by rw [if_pos rfl] at H; exact H
  clear H
  have H := H1
  clear H1
  replace H := Option.bind_eq_some_iff.mp H
  obtain ⟨t1137, A40, H⟩ := H
  try dsimp only at H
  have A4 := Aside0.mk A40
  clear A40
  replace H := Option.bind_eq_some_iff.mp H
  obtain ⟨t1140, A50, H⟩ := H
  try dsimp only at H
  have A5 := Aside0.mk A50
  clear A50
  by_cases c6 : t1140 = true
  ·subst c6
   have H1 : (some (t1137, 0)) = some (r1, r2) := by rw [if_pos rfl] at H; exact H
   clear H
   have H := H1
   clear H1
   simp only [Option.some.injEq, Prod.mk.injEq] at H
   obtain ⟨rfl, rfl⟩ := H
   go_enter Try.func62, Try.ntmps62
   go_wp2_with (first | ((with_reducible refine gate_callee (f := 60) rfl ?_); refine gL_ (some 6) Try.func60 #[.slice A0 l0.length c0] ?_; (with_reducible refine (impl_IsShape.calls k _ _ l0 true _ ?side1 ?side2 A2.out).mono ?_); (case side1 => exact cS_ HR0.out); (case side2 => exact HC0.out); rintro e w7 ⟨rfl, hb⟩; refine ⟨_, rfl, ?_⟩; replace HB := Aside0.mk (below_step bB_ hb); (try clear hb)) | ((with_reducible refine gate_callee (f := 79) rfl ?_); refine gL_ (some 9) Try.func79 #[.slice A0 l0.length c0] ?_; (with_reducible refine (impl_normal.calls k _ _ l0 t1137 _ ?side1 ?side2 A4.out).mono ?_); (case side1 => exact cS_ (Kd.C_below HR0.out HB.out)); (case side2 => exact HC0.out); rintro e w8 ⟨v1138, rfl, ho0, hb⟩; refine ⟨_, rfl, ?_⟩; have HO1139 := Aside0.mk (Kd.R_lower ho0 (below_size bB_)); replace HB := Aside0.mk (below_step bB_ hb); (try clear hb ho0); obtain ⟨Ao9, co9, eo9⟩ := Kd.R_slice HO1139.out; subst eo9) | ((with_reducible refine gate_callee (f := 60) rfl ?_); refine gL_ (some 11) Try.func60 #[.slice Ao9 t1137.length co9] ?_; (with_reducible refine (impl_IsShape.calls k _ _ t1137 true _ ?side1 ?side2 A5.out).mono ?_); (case side1 => exact cS_ ((Kd.R_reads' HO1139.out).2.2)); (case side2 => exact (Kd.R_reads' HO1139.out).2.1); rintro e w10 ⟨rfl, hb⟩; refine ⟨_, rfl, ?_⟩; replace HO1139 := Aside0.mk (Kd.R_below (rS_ HO1139.out) hb); replace HB := Aside0.mk (below_step bB_ hb); (try clear hb)))
   go_ret2
   exact ⟨_, r2_, rS_ HO1139.out, bB_⟩
  ·replace c6 := Bool.eq_false_iff.mpr c6
   subst c6
   have H1 : (some (([] : List (S57)), 3)) = some (r1, r2) := by rw [if_neg (show ¬ (false = true) by decide)] at H; exact H
   clear H
   have H := H1
   clear H1
   simp only [Option.some.injEq, Prod.mk.injEq] at H
   obtain ⟨rfl, rfl⟩ := H
   go_enter Try.func62, Try.ntmps62
   go_wp2_with (first | ((with_reducible refine gate_callee (f := 60) rfl ?_); refine gL_ (some 6) Try.func60 #[.slice A0 l0.length c0] ?_; (with_reducible refine (impl_IsShape.calls k _ _ l0 true _ ?side1 ?side2 A2.out).mono ?_); (case side1 => exact cS_ HR0.out); (case side2 => exact HC0.out); rintro e w11 ⟨rfl, hb⟩; refine ⟨_, rfl, ?_⟩; replace HB := Aside0.mk (below_step bB_ hb); (try clear hb)) | ((with_reducible refine gate_callee (f := 79) rfl ?_); refine gL_ (some 9) Try.func79 #[.slice A0 l0.length c0] ?_; (with_reducible refine (impl_normal.calls k _ _ l0 t1137 _ ?side1 ?side2 A4.out).mono ?_); (case side1 => exact cS_ (Kd.C_below HR0.out HB.out)); (case side2 => exact HC0.out); rintro e w12 ⟨v1138, rfl, ho0, hb⟩; refine ⟨_, rfl, ?_⟩; have HO1139 := Aside0.mk (Kd.R_lower ho0 (below_size bB_)); replace HB := Aside0.mk (below_step bB_ hb); (try clear hb ho0); obtain ⟨Ao13, co13, eo13⟩ := Kd.R_slice HO1139.out; subst eo13) | ((with_reducible refine gate_callee (f := 60) rfl ?_); refine gL_ (some 11) Try.func60 #[.slice Ao13 t1137.length co13] ?_; (with_reducible refine (impl_IsShape.calls k _ _ t1137 false _ ?side1 ?side2 A5.out).mono ?_); (case side1 => exact cS_ ((Kd.R_reads' HO1139.out).2.2)); (case side2 => exact (Kd.R_reads' HO1139.out).2.1); rintro e w14 ⟨rfl, hb⟩; refine ⟨_, rfl, ?_⟩; replace HO1139 := Aside0.mk (Kd.R_below (rS_ HO1139.out) hb); replace HB := Aside0.mk (below_step bB_ hb); (try clear hb)))
   go_ret2
   exact ⟨_, r2_, by first | exact Kd.R_nil _ _ _ _ _ | exact Kd.N_nil _ _ _ _ _ | exact Kd.V_nil _ _ _ _ _ | exact Kd.Q_nil _ _ _ _ _ | exact Kd.S_nil _ _ _ _ _, bB_⟩
 ·replace c3 := Bool.eq_false_iff.mpr c3
  subst c3
  have H1 : (some (([] : List (S57)), 1)) = some (r1, r2) := by rw [if_neg (show ¬ (false = true) by decide)] at H; exact H
  clear H
  have H := H1
  clear H1
  simp only [Option.some.injEq, Prod.mk.injEq] at H
  obtain ⟨rfl, rfl⟩ := H
  go_enter Try.func62, Try.ntmps62
  go_wp2_with (first | ((with_reducible refine gate_callee (f := 60) rfl ?_); refine gL_ (some 6) Try.func60 #[.slice A0 l0.length c0] ?_; (with_reducible refine (impl_IsShape.calls k _ _ l0 false _ ?side1 ?side2 A2.out).mono ?_); (case side1 => exact cS_ HR0.out); (case side2 => exact HC0.out); rintro e w15 ⟨rfl, hb⟩; refine ⟨_, rfl, ?_⟩; replace HB := Aside0.mk (below_step bB_ hb); (try clear hb)))
  go_ret2
  exact ⟨_, r2_, by first | exact Kd.R_nil _ _ _ _ _ | exact Kd.N_nil _ _ _ _ _ | exact Kd.V_nil _ _ _ _ _ | exact Kd.Q_nil _ _ _ _ _ | exact Kd.S_nil _ _ _ _ _, bB_⟩

/-! ### spec_NormalForm: function 63 -/
def spec_NormalForm.f (k : Nat) (l0 : List (S57)) : Option ((List (S57)) × Int) := (spec_IsShape.f k l0).bind fun t1141 => (if t1141 = true then ((spec_l02Normal.f k l0).bind fun t1142 => ((spec_IsShape.f k t1142).bind fun t1145 => (if t1145 = true then (some (t1142, 0)) else (some (([] : List (S57)), 3))))) else (some (([] : List (S57)), 1)))
theorem spec_NormalForm.mono : ∀ a0 k, LeO (spec_NormalForm.f k a0) (spec_NormalForm.f (k + 1) a0) := by
 intro a0 k
 unfold spec_NormalForm.f
 repeat' first
   | (with_reducible exact spec_IsShape.mono _ _)
   | (with_reducible exact spec_l02Normal.mono _ _)
   | (with_reducible exact LeO.refl _)
   | (with_reducible exact LeO.none _)
   | (with_reducible refine LeO.ite ?_ ?_)
   | (with_reducible refine LeO.bind ?_ (fun _ => ?_))
   | exact spec_IsShape.mono _ _
   | exact spec_l02Normal.mono _ _
   | exact LeO.none _
   | refine LeO.ite ?_ ?_
   | refine LeO.bind ?_ (fun _ => ?_)
set_option maxHeartbeats 8000000 in
set_option maxRecDepth 100000 in
theorem spec_NormalForm.calls (k : Nat) (A0 : Option Addr) (c0 : Nat) (l0 : List (S57)) (r1 : List (S57)) (r2 : Int) (w : World) (hr0 : Kd.C k57 w A0 l0.length l0) (hc0 : l0.length ≤ c0) (h : spec_NormalForm.f k l0 = some (r1, r2)) :
  Calls Try.prog 63 #[.slice A0 l0.length c0] w fun e w' => ∃ v0_ : Value, e = .returned (.tuple #[v0_, .int .i64 r2]) ∧ Kd.R k57 57 w' w.heap.size (fun _ => True) v0_ r1 ∧ Below w.heap.size w w' := by
 have HR0 := Aside0.mk hr0
 have HC0 := Aside0.mk hc0
 clear hr0 hc0
 have HB := Aside0.mk (Below.refl w.heap.size w)
 have H : ((spec_IsShape.f k l0).bind fun t1141 => (if t1141 = true then ((spec_l02Normal.f k l0).bind fun t1142 => ((spec_IsShape.f k t1142).bind fun t1145 => (if t1145 = true then (some (t1142, 0)) else (some (([] : List (S57)), 3))))) else (some (([] : List (S57)), 1)))) = some (r1, r2) := h
 clear h
 replace H := Option.bind_eq_some_iff.mp H
 obtain ⟨t1141, A20, H⟩ := H
 try dsimp only at H
 have A2 := Aside0.mk A20
 clear A20
 by_cases c3 : t1141 = true
 ·subst c3
  have H1 : ((spec_l02Normal.f k l0).bind fun t1142 => ((spec_IsShape.f k t1142).bind fun t1145 => (if t1145 = true then (some (t1142, 0)) else (some (([] : List (S57)), 3))))) = some (r1, r2) := by rw [if_pos rfl] at H; exact H
  clear H
  have H := H1
  clear H1
  replace H := Option.bind_eq_some_iff.mp H
  obtain ⟨t1142, A40, H⟩ := H
  try dsimp only at H
  have A4 := Aside0.mk A40
  clear A40
  replace H := Option.bind_eq_some_iff.mp H
  obtain ⟨t1145, A50, H⟩ := H
  try dsimp only at H
  have A5 := Aside0.mk A50
  clear A50
  by_cases c6 : t1145 = true
  ·subst c6
   have H1 : (some (t1142, 0)) = some (r1, r2) := by rw [if_pos rfl] at H; exact H
   clear H
   have H := H1
   clear H1
   simp only [Option.some.injEq, Prod.mk.injEq] at H
   obtain ⟨rfl, rfl⟩ := H
   go_enter Try.func63, Try.ntmps63
   go_wp2_with (first | ((with_reducible refine gate_callee (f := 61) rfl ?_); refine gL_ (some 6) Try.func61 #[.slice A0 l0.length c0] ?_; (with_reducible refine (spec_IsShape.calls k _ _ l0 true _ ?side1 ?side2 A2.out).mono ?_); (case side1 => exact cS_ HR0.out); (case side2 => exact HC0.out); rintro e w7 ⟨rfl, hb⟩; refine ⟨_, rfl, ?_⟩; replace HB := Aside0.mk (below_step bB_ hb); (try clear hb)) | ((with_reducible refine gate_callee (f := 105) rfl ?_); refine gL_ (some 9) Try.func105 #[.slice A0 l0.length c0] ?_; (with_reducible refine (spec_l02Normal.calls k _ _ l0 t1142 _ ?side1 ?side2 A4.out).mono ?_); (case side1 => exact cS_ (Kd.C_below HR0.out HB.out)); (case side2 => exact HC0.out); rintro e w8 ⟨v1143, rfl, ho0, hb⟩; refine ⟨_, rfl, ?_⟩; have HO1144 := Aside0.mk (Kd.R_lower ho0 (below_size bB_)); replace HB := Aside0.mk (below_step bB_ hb); (try clear hb ho0); obtain ⟨Ao9, co9, eo9⟩ := Kd.R_slice HO1144.out; subst eo9) | ((with_reducible refine gate_callee (f := 61) rfl ?_); refine gL_ (some 11) Try.func61 #[.slice Ao9 t1142.length co9] ?_; (with_reducible refine (spec_IsShape.calls k _ _ t1142 true _ ?side1 ?side2 A5.out).mono ?_); (case side1 => exact cS_ ((Kd.R_reads' HO1144.out).2.2)); (case side2 => exact (Kd.R_reads' HO1144.out).2.1); rintro e w10 ⟨rfl, hb⟩; refine ⟨_, rfl, ?_⟩; replace HO1144 := Aside0.mk (Kd.R_below (rS_ HO1144.out) hb); replace HB := Aside0.mk (below_step bB_ hb); (try clear hb)))
   go_ret2
   exact ⟨_, r2_, rS_ HO1144.out, bB_⟩
  ·replace c6 := Bool.eq_false_iff.mpr c6
   subst c6
   have H1 : (some (([] : List (S57)), 3)) = some (r1, r2) := by rw [if_neg (show ¬ (false = true) by decide)] at H; exact H
   clear H
   have H := H1
   clear H1
   simp only [Option.some.injEq, Prod.mk.injEq] at H
   obtain ⟨rfl, rfl⟩ := H
   go_enter Try.func63, Try.ntmps63
   go_wp2_with (first | ((with_reducible refine gate_callee (f := 61) rfl ?_); refine gL_ (some 6) Try.func61 #[.slice A0 l0.length c0] ?_; (with_reducible refine (spec_IsShape.calls k _ _ l0 true _ ?side1 ?side2 A2.out).mono ?_); (case side1 => exact cS_ HR0.out); (case side2 => exact HC0.out); rintro e w11 ⟨rfl, hb⟩; refine ⟨_, rfl, ?_⟩; replace HB := Aside0.mk (below_step bB_ hb); (try clear hb)) | ((with_reducible refine gate_callee (f := 105) rfl ?_); refine gL_ (some 9) Try.func105 #[.slice A0 l0.length c0] ?_; (with_reducible refine (spec_l02Normal.calls k _ _ l0 t1142 _ ?side1 ?side2 A4.out).mono ?_); (case side1 => exact cS_ (Kd.C_below HR0.out HB.out)); (case side2 => exact HC0.out); rintro e w12 ⟨v1143, rfl, ho0, hb⟩; refine ⟨_, rfl, ?_⟩; have HO1144 := Aside0.mk (Kd.R_lower ho0 (below_size bB_)); replace HB := Aside0.mk (below_step bB_ hb); (try clear hb ho0); obtain ⟨Ao13, co13, eo13⟩ := Kd.R_slice HO1144.out; subst eo13) | ((with_reducible refine gate_callee (f := 61) rfl ?_); refine gL_ (some 11) Try.func61 #[.slice Ao13 t1142.length co13] ?_; (with_reducible refine (spec_IsShape.calls k _ _ t1142 false _ ?side1 ?side2 A5.out).mono ?_); (case side1 => exact cS_ ((Kd.R_reads' HO1144.out).2.2)); (case side2 => exact (Kd.R_reads' HO1144.out).2.1); rintro e w14 ⟨rfl, hb⟩; refine ⟨_, rfl, ?_⟩; replace HO1144 := Aside0.mk (Kd.R_below (rS_ HO1144.out) hb); replace HB := Aside0.mk (below_step bB_ hb); (try clear hb)))
   go_ret2
   exact ⟨_, r2_, by first | exact Kd.R_nil _ _ _ _ _ | exact Kd.N_nil _ _ _ _ _ | exact Kd.V_nil _ _ _ _ _ | exact Kd.Q_nil _ _ _ _ _ | exact Kd.S_nil _ _ _ _ _, bB_⟩
 ·replace c3 := Bool.eq_false_iff.mpr c3
  subst c3
  have H1 : (some (([] : List (S57)), 1)) = some (r1, r2) := by rw [if_neg (show ¬ (false = true) by decide)] at H; exact H
  clear H
  have H := H1
  clear H1
  simp only [Option.some.injEq, Prod.mk.injEq] at H
  obtain ⟨rfl, rfl⟩ := H
  go_enter Try.func63, Try.ntmps63
  go_wp2_with (first | ((with_reducible refine gate_callee (f := 61) rfl ?_); refine gL_ (some 6) Try.func61 #[.slice A0 l0.length c0] ?_; (with_reducible refine (spec_IsShape.calls k _ _ l0 false _ ?side1 ?side2 A2.out).mono ?_); (case side1 => exact cS_ HR0.out); (case side2 => exact HC0.out); rintro e w15 ⟨rfl, hb⟩; refine ⟨_, rfl, ?_⟩; replace HB := Aside0.mk (below_step bB_ hb); (try clear hb)))
  go_ret2
  exact ⟨_, r2_, by first | exact Kd.R_nil _ _ _ _ _ | exact Kd.N_nil _ _ _ _ _ | exact Kd.V_nil _ _ _ _ _ | exact Kd.Q_nil _ _ _ _ _ | exact Kd.S_nil _ _ _ _ _, bB_⟩

end Go.Proofs.Ytbfmocohknadkaa.X
