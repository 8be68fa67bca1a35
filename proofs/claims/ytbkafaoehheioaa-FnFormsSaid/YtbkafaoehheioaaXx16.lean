-- xprint.py
import Derived.Test.YtbkafaoehheioaaXx0
import Derived.Test.YtbkafaoehheioaaXx2
import Derived.Test.YtbkafaoehheioaaXx4
import Derived.Test.YtbkafaoehheioaaXx11
import Derived.Test.YtbkafaoehheioaaXx15
namespace Go.Proofs.Ytbkafaoehheioaa.X
open Go.RowKit Go.Proofs.YtbkafaoehheioaaW.PrintWords Go.Proofs.YtbkafaoehheioaaW.PrintLast Go.Proofs.YtbkafaoehheioaaW.PrintMore
attribute [local go_sem] max2_int min2_int max_two min_two max_three min_three max_four min_four   -- for this text's walks alone
set_option linter.unusedVariables false
set_option linter.unusedSimpArgs false

/-! ### spec_l03DrawEven: function 58, by hand -/
-- COMMONS none
/-! The kit's print of this function, turned: the inner row of the literal is told through both loops (HL_3). -/
theorem vS_ {α : Type} {d : Kd α} {e base : Nat} {w w1 : World} {ok : Nat → Prop} {v : Value} {xs : List α} (h : Kd.V d e w base ok v xs) (hb : Below w.heap.size w w1 := by repeat (with_reducible first | exact Below.refl _ _ | apply below_alloc | apply pw_below_drewN | apply below_drew1)) : Kd.V d e w1 base ok v xs := Kd.V_below h hb
mutual
def spec_l03DrawEven.l0 : Nat → List (S55) → List Int → List (S55) → Int → List Int → Int → Int → Option ((List (S55)) × Int × Int)
 | 0, _, _, _, _, _, _, _ => none
 | k + 1, x3, x4, x5, x6, x1000, x1001, x1002 => if x6 < (x4.length : Int) then (spec_l03DrawEven.l1 k x3 x4 x5 x6 0 x1000 x1001 x1002) else ((spec_l02Sort.f k x5).bind fun t818 => (some (t818, x1001, x1002)))
def spec_l03DrawEven.l1 : Nat → List (S55) → List Int → List (S55) → Int → Int → List Int → Int → Int → Option ((List (S55)) × Int × Int)
 | 0, _, _, _, _, _, _, _, _ => none
 | k + 1, x3, x4, x5, x6, x7, x1000, x1001, x1002 => if x7 < (x3.length : Int) then (if 0 ≤ x7 then (if 0 ≤ x6 then (if x6 < (x4.length : Int) then ((spec_l03Turn.f k ((rd_T55 x3 x7).f0) ((rd_T55 x3 x7).f1) (rd x4 x6)).bind fun bt823 => ((spec_l02Index.f k x5 bt823.1 bt823.2).bind fun t826 => (if t826 < 0 then (if x5.length < 8796093022208 then (spec_l03DrawEven.l1 k x3 x4 (x5 ++ [(⟨bt823.1, bt823.2⟩ : S55)]) x6 (wrap64 (x7 + 1)) x1000 x1001 x1002) else (none)) else (spec_l03DrawEven.l1 k x3 x4 x5 x6 (wrap64 (x7 + 1)) x1000 x1001 x1002)))) else (none)) else (none)) else (none)) else (spec_l03DrawEven.l0 k x3 x4 x5 (wrap64 (x6 + 1)) x1000 x1001 x1002)
end
def spec_l03DrawEven.f (k : Nat) (s0_0 : List Int) (s0_1 : Int) (s0_2 : Int) : Option ((List (S55)) × Int × Int) := (spec_l01Next.f s0_0 s0_1 s0_2 3).bind fun bt774 => (if bt774.1 = 0 then ((spec_l02Draw.f k s0_0 bt774.2.1 bt774.2.2).bind fun bt777 => (some (bt777.1, bt777.2.1, bt777.2.2))) else ((spec_l02DrawPoly.f k s0_0 bt774.2.1 bt774.2.2 4).bind fun bt782 => ((some (([(([2] : List Int)), (([4] : List Int)), (([6] : List Int)), (([1, 2, 3] : List Int)), (([2, 4, 6] : List Int)), (([5] : List Int))] : List (List Int)) : List (List Int))).bind fun y805 => ((spec_l01Next.f s0_0 bt782.2.1 bt782.2.2 6).bind fun bt808 => (if 0 ≤ bt808.1 then (if bt808.1 < (y805.length : Int) then ((some (([] : List (S55)) : List (S55))).bind fun y812 => (if y812.length + bt782.1.length < 8796093022208 then (spec_l03DrawEven.l0 k bt782.1 (rd_L4 y805 bt808.1) (y812 ++ bt782.1) 0 s0_0 bt808.2.1 bt808.2.2) else (none))) else (none)) else (none))))))
theorem spec_l03DrawEven.mono_l : ∀ k, (∀ y0 y1 y2 y3 y4 y5 y6, LeO (spec_l03DrawEven.l0 k y0 y1 y2 y3 y4 y5 y6) (spec_l03DrawEven.l0 (k + 1) y0 y1 y2 y3 y4 y5 y6)) ∧ (∀ y0 y1 y2 y3 y4 y5 y6 y7, LeO (spec_l03DrawEven.l1 k y0 y1 y2 y3 y4 y5 y6 y7) (spec_l03DrawEven.l1 (k + 1) y0 y1 y2 y3 y4 y5 y6 y7))
 | 0 => ⟨fun _ _ _ _ _ _ _ r h => by simp [spec_l03DrawEven.l0] at h, fun _ _ _ _ _ _ _ _ r h => by simp [spec_l03DrawEven.l1] at h⟩
 | k + 1 => by
  obtain ⟨ih0, ih1⟩ := spec_l03DrawEven.mono_l k
  refine ⟨?_, ?_⟩
  ·intro y0 y1 y2 y3 y4 y5 y6
   unfold spec_l03DrawEven.l0
   repeat' first
   | (with_reducible exact ih0 _ _ _ _ _ _ _)
   | (with_reducible exact ih1 _ _ _ _ _ _ _ _)
   | (with_reducible exact spec_l02Draw.mono _ _ _ _)
   | (with_reducible exact spec_l02DrawPoly.mono _ _ _ _ _)
   | (with_reducible exact spec_l02Index.mono _ _ _ _)
   | (with_reducible exact spec_l02Sort.mono _ _)
   | (with_reducible exact spec_l03Turn.mono _ _ _ _)
   | (with_reducible exact LeO.refl _)
   | (with_reducible exact LeO.none _)
   | (with_reducible refine LeO.ite ?_ ?_)
   | (with_reducible refine LeO.bind ?_ (fun _ => ?_))
   | exact ih0 _ _ _ _ _ _ _
   | exact ih1 _ _ _ _ _ _ _ _
   | exact spec_l02Draw.mono _ _ _ _
   | exact spec_l02DrawPoly.mono _ _ _ _ _
   | exact spec_l02Index.mono _ _ _ _
   | exact spec_l02Sort.mono _ _
   | exact spec_l03Turn.mono _ _ _ _
   | exact LeO.none _
   | refine LeO.ite ?_ ?_
   | refine LeO.bind ?_ (fun _ => ?_)
  ·intro y0 y1 y2 y3 y4 y5 y6 y7
   unfold spec_l03DrawEven.l1
   repeat' first
   | (with_reducible exact ih0 _ _ _ _ _ _ _)
   | (with_reducible exact ih1 _ _ _ _ _ _ _ _)
   | (with_reducible exact spec_l02Draw.mono _ _ _ _)
   | (with_reducible exact spec_l02DrawPoly.mono _ _ _ _ _)
   | (with_reducible exact spec_l02Index.mono _ _ _ _)
   | (with_reducible exact spec_l02Sort.mono _ _)
   | (with_reducible exact spec_l03Turn.mono _ _ _ _)
   | (with_reducible exact LeO.refl _)
   | (with_reducible exact LeO.none _)
   | (with_reducible refine LeO.ite ?_ ?_)
   | (with_reducible refine LeO.bind ?_ (fun _ => ?_))
   | exact ih0 _ _ _ _ _ _ _
   | exact ih1 _ _ _ _ _ _ _ _
   | exact spec_l02Draw.mono _ _ _ _
   | exact spec_l02DrawPoly.mono _ _ _ _ _
   | exact spec_l02Index.mono _ _ _ _
   | exact spec_l02Sort.mono _ _
   | exact spec_l03Turn.mono _ _ _ _
   | exact LeO.none _
   | refine LeO.ite ?_ ?_
   | refine LeO.bind ?_ (fun _ => ?_)
theorem spec_l03DrawEven.mono : ∀ a0 a1 a2 k, LeO (spec_l03DrawEven.f k a0 a1 a2) (spec_l03DrawEven.f (k + 1) a0 a1 a2) := by
 intro a0 a1 a2 k
 obtain ⟨ih0, ih1⟩ := spec_l03DrawEven.mono_l k
 unfold spec_l03DrawEven.f
 repeat' first
   | (with_reducible exact ih0 _ _ _ _ _ _ _)
   | (with_reducible exact ih1 _ _ _ _ _ _ _ _)
   | (with_reducible exact spec_l02Draw.mono _ _ _ _)
   | (with_reducible exact spec_l02DrawPoly.mono _ _ _ _ _)
   | (with_reducible exact spec_l02Index.mono _ _ _ _)
   | (with_reducible exact spec_l02Sort.mono _ _)
   | (with_reducible exact spec_l03Turn.mono _ _ _ _)
   | (with_reducible exact LeO.refl _)
   | (with_reducible exact LeO.none _)
   | (with_reducible refine LeO.ite ?_ ?_)
   | (with_reducible refine LeO.bind ?_ (fun _ => ?_))
   | exact ih0 _ _ _ _ _ _ _
   | exact ih1 _ _ _ _ _ _ _ _
   | exact spec_l02Draw.mono _ _ _ _
   | exact spec_l02DrawPoly.mono _ _ _ _ _
   | exact spec_l02Index.mono _ _ _ _
   | exact spec_l02Sort.mono _ _
   | exact spec_l03Turn.mono _ _ _ _
   | exact LeO.none _
   | refine LeO.ite ?_ ?_
   | refine LeO.bind ?_ (fun _ => ?_)
def spec_l03DrawEven.T12 : Bool × List (List Nat × List Nat) := (true, [([], []), ([], []), ([0, 1], [0, 1]), ([2], [2]), ([], []), ([], []), ([4, 5], [4, 5]), ([6], [6]), ([3, 7], [3, 7]), ([], []), ([9, 8, 8, 0, 1, 2, 3, 4, 5, 6, 7, 8, 9], [8, 9])])
def spec_l03DrawEven.B12 : List Nat := [0, 0, 3, 7, 0, 0, 48, 112, 255, 0, 1023]
theorem spec_l03DrawEven.tab12 : rtab .any (opsOf Try.f58 12) = spec_l03DrawEven.T12 := by kernel_rfl
theorem spec_l03DrawEven.bits12 : waitsOk spec_l03DrawEven.T12.2 spec_l03DrawEven.B12 = true := by kernel_rfl
set_option maxHeartbeats 8000000 in
set_option maxRecDepth 100000 in
theorem spec_l03DrawEven.calls (k : Nat) (g : Nat) (s0_0 : List Int) (s0_1 : Int) (s0_2 : Int) (r1 : List (S55)) (r2 : Int) (r3 : Int) (w0 w : World) (hI : IsS94 w0 w g s0_0 s0_1 s0_2) (hB : Below w0.heap.size w0 w) (h : spec_l03DrawEven.f k s0_0 s0_1 s0_2 = some (r1, r2, r3)) :
  Calls Try.prog 58 #[.pointer (some ⟨g, 0, none⟩)] w fun e w' => ∃ v0_ : Value, e = .returned (v0_) ∧ Kd.R k55 55 w' w.heap.size (fun _ => True) v0_ r1 ∧ IsS94 w0 w' g s0_0 r2 r3 ∧ Below w0.heap.size w0 w' ∧ KeepBut w w' g none := by
 have hu55 := Try.underlying55
 have HI0 := Aside0.mk hI
 have HK := Aside0.mk (KeepBut.refl w g none)
 have HL := Aside0.mk hB.size
 clear hI
 have HW0 := Aside0.mk hB.size
 have HB := Aside0.mk hB
 clear hB
 have H : ((spec_l01Next.f s0_0 s0_1 s0_2 3).bind fun bt774 => (if bt774.1 = 0 then ((spec_l02Draw.f k s0_0 bt774.2.1 bt774.2.2).bind fun bt777 => (some (bt777.1, bt777.2.1, bt777.2.2))) else ((spec_l02DrawPoly.f k s0_0 bt774.2.1 bt774.2.2 4).bind fun bt782 => ((some (([(([2] : List Int)), (([4] : List Int)), (([6] : List Int)), (([1, 2, 3] : List Int)), (([2, 4, 6] : List Int)), (([5] : List Int))] : List (List Int)) : List (List Int))).bind fun y805 => ((spec_l01Next.f s0_0 bt782.2.1 bt782.2.2 6).bind fun bt808 => (if 0 ≤ bt808.1 then (if bt808.1 < (y805.length : Int) then ((some (([] : List (S55)) : List (S55))).bind fun y812 => (if y812.length + bt782.1.length < 8796093022208 then (spec_l03DrawEven.l0 k bt782.1 (rd_L4 y805 bt808.1) (y812 ++ bt782.1) 0 s0_0 bt808.2.1 bt808.2.2) else (none))) else (none)) else (none))))))) = some (r1, r2, r3) := h
 clear h
 replace H := Option.bind_eq_some_iff.mp H
 obtain ⟨⟨t774, t775, t776⟩, A20, H⟩ := H
 try dsimp only at H
 have A2 := Aside0.mk A20
 clear A20
 by_cases c3 : t774 = 0
 ·rw [if_pos c3] at H
  have c3b0 : (t774 == 0) = true := beq_iff_eq.mpr c3
  have c3b1 : (t774 != 0) = false := bne_eq_false_iff_eq.mpr c3
  clear c3
  replace H := Option.bind_eq_some_iff.mp H
  obtain ⟨⟨t777, t780, t781⟩, A40, H⟩ := H
  try dsimp only at H
  have A4 := Aside0.mk A40
  clear A40
  simp only [Option.some.injEq, Prod.mk.injEq] at H
  obtain ⟨rfl, rfl, rfl⟩ := H
  go_enter Try.func58, Try.ntmps58
  go_wp2_with (first | ((with_reducible refine gate_callee (f := 93) rfl ?_); refine gL_ (some 10) Try.func93 #[.pointer (some ⟨g, 0, none⟩), .int .i64 3] ?_; (with_reducible refine (spec_l01Next.calls g s0_0 s0_1 s0_2 3 t774 t775 t776 w0 _ ?side1 ?side2 A2.out).mono ?_); (case side1 => exact iS94_); (case side2 => exact bS94_); rintro e w5 ⟨rfl, hi, hb, hk⟩; refine ⟨_, rfl, ?_⟩; replace HK := Aside0.mk (KeepBut.trans kK_ hk (.inl rfl)); replace HB := Aside0.mk (hb); replace HI0 := Aside0.mk (hi); (try clear hb hk hi)) | ((with_reducible refine gate_callee (f := 94) rfl ?_); refine gL_ (some 13) Try.func94 #[.pointer (some ⟨g, 0, none⟩)] ?_; (with_reducible refine (spec_l02Draw.calls k g s0_0 t775 t776 t777 t780 t781 w0 _ ?side1 ?side2 A4.out).mono ?_); (case side1 => exact iS94_); (case side2 => exact bS94_); rintro e w6 ⟨v778, rfl, ho0, hi, hb, hk⟩; refine ⟨_, rfl, ?_⟩; have HO779 := Aside0.mk (Kd.R_lower ho0 (keep_size (w := w) (g := g) (row := none) kK_)); replace HK := Aside0.mk (KeepBut.trans kK_ hk (.inl rfl)); replace HB := Aside0.mk (hb); replace HI0 := Aside0.mk (hi); (try clear hb hk hi ho0)))
  go_ret
  exact ⟨_, r2_, rS_ HO779.out, iS94_, bS94_, kK_⟩
 ·rw [if_neg c3] at H
  have c3b0 : (t774 == 0) = false := beq_eq_false_iff_ne.mpr c3
  have c3b1 : (t774 != 0) = true := bne_iff_ne.mpr c3
  replace H := Option.bind_eq_some_iff.mp H
  obtain ⟨⟨t782, t785, t786⟩, A70, H⟩ := H
  try dsimp only at H
  have A7 := Aside0.mk A70
  clear A70
  obtain ⟨y787, hY_⟩ : ∃ y_ : List Int, y_ = (([2] : List Int)) := ⟨_, rfl⟩
  replace H : ((some (([y787, (([4] : List Int)), (([6] : List Int)), (([1, 2, 3] : List Int)), (([2, 4, 6] : List Int)), (([5] : List Int))] : List (List Int)) : List (List Int))).bind fun y805 => ((spec_l01Next.f s0_0 t785 t786 6).bind fun bt808 => (if 0 ≤ bt808.1 then (if bt808.1 < (y805.length : Int) then ((some (([] : List (S55)) : List (S55))).bind fun y812 => (if y812.length + t782.length < 8796093022208 then (spec_l03DrawEven.l0 k t782 (rd_L4 y805 bt808.1) (y812 ++ t782) 0 s0_0 bt808.2.1 bt808.2.2) else (none))) else (none)) else (none)))) = some (r1, r2, r3) := yY_
  have Ny787 := Aside0.mk hY_
  clear hY_
  obtain ⟨y790, hY_⟩ : ∃ y_ : List Int, y_ = (([4] : List Int)) := ⟨_, rfl⟩
  replace H : ((some (([y787, y790, (([6] : List Int)), (([1, 2, 3] : List Int)), (([2, 4, 6] : List Int)), (([5] : List Int))] : List (List Int)) : List (List Int))).bind fun y805 => ((spec_l01Next.f s0_0 t785 t786 6).bind fun bt808 => (if 0 ≤ bt808.1 then (if bt808.1 < (y805.length : Int) then ((some (([] : List (S55)) : List (S55))).bind fun y812 => (if y812.length + t782.length < 8796093022208 then (spec_l03DrawEven.l0 k t782 (rd_L4 y805 bt808.1) (y812 ++ t782) 0 s0_0 bt808.2.1 bt808.2.2) else (none))) else (none)) else (none)))) = some (r1, r2, r3) := yY_
  have Ny790 := Aside0.mk hY_
  clear hY_
  obtain ⟨y793, hY_⟩ : ∃ y_ : List Int, y_ = (([6] : List Int)) := ⟨_, rfl⟩
  replace H : ((some (([y787, y790, y793, (([1, 2, 3] : List Int)), (([2, 4, 6] : List Int)), (([5] : List Int))] : List (List Int)) : List (List Int))).bind fun y805 => ((spec_l01Next.f s0_0 t785 t786 6).bind fun bt808 => (if 0 ≤ bt808.1 then (if bt808.1 < (y805.length : Int) then ((some (([] : List (S55)) : List (S55))).bind fun y812 => (if y812.length + t782.length < 8796093022208 then (spec_l03DrawEven.l0 k t782 (rd_L4 y805 bt808.1) (y812 ++ t782) 0 s0_0 bt808.2.1 bt808.2.2) else (none))) else (none)) else (none)))) = some (r1, r2, r3) := yY_
  have Ny793 := Aside0.mk hY_
  clear hY_
  obtain ⟨y796, hY_⟩ : ∃ y_ : List Int, y_ = (([1, 2, 3] : List Int)) := ⟨_, rfl⟩
  replace H : ((some (([y787, y790, y793, y796, (([2, 4, 6] : List Int)), (([5] : List Int))] : List (List Int)) : List (List Int))).bind fun y805 => ((spec_l01Next.f s0_0 t785 t786 6).bind fun bt808 => (if 0 ≤ bt808.1 then (if bt808.1 < (y805.length : Int) then ((some (([] : List (S55)) : List (S55))).bind fun y812 => (if y812.length + t782.length < 8796093022208 then (spec_l03DrawEven.l0 k t782 (rd_L4 y805 bt808.1) (y812 ++ t782) 0 s0_0 bt808.2.1 bt808.2.2) else (none))) else (none)) else (none)))) = some (r1, r2, r3) := yY_
  have Ny796 := Aside0.mk hY_
  clear hY_
  obtain ⟨y799, hY_⟩ : ∃ y_ : List Int, y_ = (([2, 4, 6] : List Int)) := ⟨_, rfl⟩
  replace H : ((some (([y787, y790, y793, y796, y799, (([5] : List Int))] : List (List Int)) : List (List Int))).bind fun y805 => ((spec_l01Next.f s0_0 t785 t786 6).bind fun bt808 => (if 0 ≤ bt808.1 then (if bt808.1 < (y805.length : Int) then ((some (([] : List (S55)) : List (S55))).bind fun y812 => (if y812.length + t782.length < 8796093022208 then (spec_l03DrawEven.l0 k t782 (rd_L4 y805 bt808.1) (y812 ++ t782) 0 s0_0 bt808.2.1 bt808.2.2) else (none))) else (none)) else (none)))) = some (r1, r2, r3) := yY_
  have Ny799 := Aside0.mk hY_
  clear hY_
  obtain ⟨y802, hY_⟩ : ∃ y_ : List Int, y_ = (([5] : List Int)) := ⟨_, rfl⟩
  replace H : ((some (([y787, y790, y793, y796, y799, y802] : List (List Int)) : List (List Int))).bind fun y805 => ((spec_l01Next.f s0_0 t785 t786 6).bind fun bt808 => (if 0 ≤ bt808.1 then (if bt808.1 < (y805.length : Int) then ((some (([] : List (S55)) : List (S55))).bind fun y812 => (if y812.length + t782.length < 8796093022208 then (spec_l03DrawEven.l0 k t782 (rd_L4 y805 bt808.1) (y812 ++ t782) 0 s0_0 bt808.2.1 bt808.2.2) else (none))) else (none)) else (none)))) = some (r1, r2, r3) := yY_
  have Ny802 := Aside0.mk hY_
  clear hY_
  obtain ⟨y805, hY_⟩ : ∃ y_ : List (List Int), y_ = (([y787, y790, y793, y796, y799, y802] : List (List Int))) := ⟨_, rfl⟩
  replace H : ((spec_l01Next.f s0_0 t785 t786 6).bind fun bt808 => (if 0 ≤ bt808.1 then (if bt808.1 < (y805.length : Int) then ((some (([] : List (S55)) : List (S55))).bind fun y812 => (if y812.length + t782.length < 8796093022208 then (spec_l03DrawEven.l0 k t782 (rd_L4 y805 bt808.1) (y812 ++ t782) 0 s0_0 bt808.2.1 bt808.2.2) else (none))) else (none)) else (none))) = some (r1, r2, r3) := yY_
  have Ny805 := Aside0.mk hY_
  clear hY_
  replace H := Option.bind_eq_some_iff.mp H
  obtain ⟨⟨t808, t809, t810⟩, A80, H⟩ := H
  try dsimp only at H
  have A8 := Aside0.mk A80
  clear A80
  by_cases c9 : 0 ≤ t808
  ·rw [if_pos c9] at H
   have c9b0 : decide (0 ≤ t808) = true := decide_eq_true c9
   clear c9
   by_cases c10 : t808 < (y805.length : Int)
   ·rw [if_pos c10] at H
    have c10b0 : decide (t808 < (y805.length : Int)) = true := decide_eq_true c10
    clear c10
    obtain ⟨y812, hY_⟩ : ∃ y_ : List (S55), y_ = (([] : List (S55))) := ⟨_, rfl⟩
    replace H : (if y812.length + t782.length < 8796093022208 then (spec_l03DrawEven.l0 k t782 (rd_L4 y805 t808) (y812 ++ t782) 0 s0_0 t809 t810) else (none)) = some (r1, r2, r3) := yY_
    have Ny812 := Aside0.mk hY_
    clear hY_
    by_cases c11 : y812.length + t782.length < 8796093022208
    ·rw [if_pos c11] at H
     have LMc11 := Aside0.mk c11
     clear c11
     obtain ⟨y815, hY_⟩ : ∃ y_ : List (S55), y_ = (y812 ++ t782) := ⟨_, rfl⟩
     replace H : (spec_l03DrawEven.l0 k t782 (rd_L4 y805 t808) y815 0 s0_0 t809 t810) = some (r1, r2, r3) := yY_
     have Ny815 := Aside0.mk hY_
     clear hY_
     have H' := Aside0.mk H
     clear H
     go_enter Try.func58, Try.ntmps58
     go_wp2_with (first | ((with_reducible refine gate_callee (f := 93) rfl ?_); refine gL_ (some 10) Try.func93 #[.pointer (some ⟨g, 0, none⟩), .int .i64 3] ?_; (with_reducible refine (spec_l01Next.calls g s0_0 s0_1 s0_2 3 t774 t775 t776 w0 _ ?side1 ?side2 A2.out).mono ?_); (case side1 => exact iS94_); (case side2 => exact bS94_); rintro e w12 ⟨rfl, hi, hb, hk⟩; refine ⟨_, rfl, ?_⟩; replace HK := Aside0.mk (KeepBut.trans kK_ hk (.inl rfl)); replace HB := Aside0.mk (hb); replace HI0 := Aside0.mk (hi); (try clear hb hk hi)) | ((with_reducible refine gate_callee (f := 95) rfl ?_); refine gL_ (some 15) Try.func95 #[.pointer (some ⟨g, 0, none⟩), .int .i64 4] ?_; (with_reducible refine (spec_l02DrawPoly.calls k g s0_0 t775 t776 4 t782 t785 t786 w0 _ ?side1 ?side2 A7.out).mono ?_); (case side1 => exact iS94_); (case side2 => exact bS94_); rintro e w13 ⟨v783, rfl, ho0, hi, hb, hk⟩; refine ⟨_, rfl, ?_⟩; have HO784 := Aside0.mk (Kd.R_lower ho0 (keep_size (w := w) (g := g) (row := none) kK_)); replace HK := Aside0.mk (KeepBut.trans kK_ hk (.inl rfl)); replace HB := Aside0.mk (hb); replace HI0 := Aside0.mk (hi); (try clear hb hk hi ho0)) | ((with_reducible refine gate_dst (N := 16) rfl ?_); refine Kd.R_lit (Kd.int .i64) _ 2 ?hg (N := 16) ?hd (xs := ([2] : List Int)) (inner := [.int .i64 2]) (ok := fun _ => True) (okp := fun _ => True) ?hr ?hp (fun _ hk => hk) trivial (Below.refl _ _) (Nat.le_refl _) (by simp) ?_; (case hd => rfl); (case hg => rfl); (case hr => first | (go_simp; done) | (go_simp; rfl)); (case hp => exact (Reps.one (show Kd.M (Kd.int .i64) _ _ _ 2 [.int .i64 2] from rfl) (Reps.none _ _))); intro v788 w14 ho15 hb hg_ hnew_; clear hg_ hnew_; (first | rw [← Ny787.out] at ho15 | (simp only [Int.reduceToNat] at ho15; rw [← Ny787.out] at ho15)); replace HO784 := Aside0.mk (Kd.R_below (rS_ HO784.out) hb); have HO789 := Aside0.mk (Kd.R_lower ho15 (keep_size (w := w) (g := g) (row := none) kK_)); replace HK := Aside0.mk (KeepBut.trans kK_ (KeepBut.of_below hb g none) (.inl rfl)); replace HB := Aside0.mk (below_step bS94_ hb); replace HI0 := Aside0.mk (IsS94.below iS94_ hb); clear hb ho15) | ((with_reducible refine gate_dst (N := 17) rfl ?_); refine Kd.R_lit (Kd.int .i64) _ 2 ?hg (N := 17) ?hd (xs := ([4] : List Int)) (inner := [.int .i64 4]) (ok := fun _ => True) (okp := fun _ => True) ?hr ?hp (fun _ hk => hk) trivial (Below.refl _ _) (Nat.le_refl _) (by simp) ?_; (case hd => rfl); (case hg => rfl); (case hr => first | (go_simp; done) | (go_simp; rfl)); (case hp => exact (Reps.one (show Kd.M (Kd.int .i64) _ _ _ 4 [.int .i64 4] from rfl) (Reps.none _ _))); intro v791 w16 ho17 hb hg_ hnew_; clear hg_ hnew_; (first | rw [← Ny790.out] at ho17 | (simp only [Int.reduceToNat] at ho17; rw [← Ny790.out] at ho17)); replace HO784 := Aside0.mk (Kd.R_below (rS_ HO784.out) hb); have HO792 := Aside0.mk (Kd.R_lower (Kd.R_new' ho17 (Kd.R_lt (rS_ HO789.out))) (keep_size (w := w) (g := g) (row := none) kK_)); replace HO789 := Aside0.mk (Kd.R_elder' (rS_ HO789.out) (Kd.R_base ho17) hb); replace HK := Aside0.mk (KeepBut.trans kK_ (KeepBut.of_below hb g none) (.inl rfl)); replace HB := Aside0.mk (below_step bS94_ hb); replace HI0 := Aside0.mk (IsS94.below iS94_ hb); clear hb ho17) | ((with_reducible refine gate_dst (N := 18) rfl ?_); refine Kd.R_lit (Kd.int .i64) _ 2 ?hg (N := 18) ?hd (xs := ([6] : List Int)) (inner := [.int .i64 6]) (ok := fun _ => True) (okp := fun _ => True) ?hr ?hp (fun _ hk => hk) trivial (Below.refl _ _) (Nat.le_refl _) (by simp) ?_; (case hd => rfl); (case hg => rfl); (case hr => first | (go_simp; done) | (go_simp; rfl)); (case hp => exact (Reps.one (show Kd.M (Kd.int .i64) _ _ _ 6 [.int .i64 6] from rfl) (Reps.none _ _))); intro v794 w18 ho19 hb hg_ hnew_; clear hg_ hnew_; (first | rw [← Ny793.out] at ho19 | (simp only [Int.reduceToNat] at ho19; rw [← Ny793.out] at ho19)); replace HO784 := Aside0.mk (Kd.R_below (rS_ HO784.out) hb); have HO795 := Aside0.mk (Kd.R_lower (Kd.R_new' (Kd.R_new' ho19 (Kd.R_lt (rS_ HO789.out))) (Kd.R_lt (rS_ HO792.out))) (keep_size (w := w) (g := g) (row := none) kK_)); replace HO789 := Aside0.mk (Kd.R_elder' (rS_ HO789.out) (Kd.R_base ho19) hb); replace HO792 := Aside0.mk (Kd.R_elder' (rS_ HO792.out) (Kd.R_base ho19) hb); replace HK := Aside0.mk (KeepBut.trans kK_ (KeepBut.of_below hb g none) (.inl rfl)); replace HB := Aside0.mk (below_step bS94_ hb); replace HI0 := Aside0.mk (IsS94.below iS94_ hb); clear hb ho19) | ((with_reducible refine gate_dst (N := 19) rfl ?_); refine Kd.R_lit (Kd.int .i64) _ 2 ?hg (N := 19) ?hd (xs := ([1, 2, 3] : List Int)) (inner := [.int .i64 1, .int .i64 2, .int .i64 3]) (ok := fun _ => True) (okp := fun _ => True) ?hr ?hp (fun _ hk => hk) trivial (Below.refl _ _) (Nat.le_refl _) (by simp) ?_; (case hd => rfl); (case hg => rfl); (case hr => first | (go_simp; done) | (go_simp; rfl)); (case hp => exact (Reps.one (show Kd.M (Kd.int .i64) _ _ _ 1 [.int .i64 1] from rfl) (Reps.one (show Kd.M (Kd.int .i64) _ _ _ 2 [.int .i64 2] from rfl) (Reps.one (show Kd.M (Kd.int .i64) _ _ _ 3 [.int .i64 3] from rfl) (Reps.none _ _))))); intro v797 w20 ho21 hb hg_ hnew_; clear hg_ hnew_; (first | rw [← Ny796.out] at ho21 | (simp only [Int.reduceToNat] at ho21; rw [← Ny796.out] at ho21)); replace HO784 := Aside0.mk (Kd.R_below (rS_ HO784.out) hb); have HO798 := Aside0.mk (Kd.R_lower (Kd.R_new' (Kd.R_new' (Kd.R_new' ho21 (Kd.R_lt (rS_ HO789.out))) (Kd.R_lt (rS_ HO792.out))) (Kd.R_lt (rS_ HO795.out))) (keep_size (w := w) (g := g) (row := none) kK_)); replace HO789 := Aside0.mk (Kd.R_elder' (rS_ HO789.out) (Kd.R_base ho21) hb); replace HO792 := Aside0.mk (Kd.R_elder' (rS_ HO792.out) (Kd.R_base ho21) hb); replace HO795 := Aside0.mk (Kd.R_elder' (rS_ HO795.out) (Kd.R_base ho21) hb); replace HK := Aside0.mk (KeepBut.trans kK_ (KeepBut.of_below hb g none) (.inl rfl)); replace HB := Aside0.mk (below_step bS94_ hb); replace HI0 := Aside0.mk (IsS94.below iS94_ hb); clear hb ho21) | ((with_reducible refine gate_dst (N := 20) rfl ?_); refine Kd.R_lit (Kd.int .i64) _ 2 ?hg (N := 20) ?hd (xs := ([2, 4, 6] : List Int)) (inner := [.int .i64 2, .int .i64 4, .int .i64 6]) (ok := fun _ => True) (okp := fun _ => True) ?hr ?hp (fun _ hk => hk) trivial (Below.refl _ _) (Nat.le_refl _) (by simp) ?_; (case hd => rfl); (case hg => rfl); (case hr => first | (go_simp; done) | (go_simp; rfl)); (case hp => exact (Reps.one (show Kd.M (Kd.int .i64) _ _ _ 2 [.int .i64 2] from rfl) (Reps.one (show Kd.M (Kd.int .i64) _ _ _ 4 [.int .i64 4] from rfl) (Reps.one (show Kd.M (Kd.int .i64) _ _ _ 6 [.int .i64 6] from rfl) (Reps.none _ _))))); intro v800 w22 ho23 hb hg_ hnew_; clear hg_ hnew_; (first | rw [← Ny799.out] at ho23 | (simp only [Int.reduceToNat] at ho23; rw [← Ny799.out] at ho23)); replace HO784 := Aside0.mk (Kd.R_below (rS_ HO784.out) hb); have HO801 := Aside0.mk (Kd.R_lower (Kd.R_new' (Kd.R_new' (Kd.R_new' (Kd.R_new' ho23 (Kd.R_lt (rS_ HO789.out))) (Kd.R_lt (rS_ HO792.out))) (Kd.R_lt (rS_ HO795.out))) (Kd.R_lt (rS_ HO798.out))) (keep_size (w := w) (g := g) (row := none) kK_)); replace HO789 := Aside0.mk (Kd.R_elder' (rS_ HO789.out) (Kd.R_base ho23) hb); replace HO792 := Aside0.mk (Kd.R_elder' (rS_ HO792.out) (Kd.R_base ho23) hb); replace HO795 := Aside0.mk (Kd.R_elder' (rS_ HO795.out) (Kd.R_base ho23) hb); replace HO798 := Aside0.mk (Kd.R_elder' (rS_ HO798.out) (Kd.R_base ho23) hb); replace HK := Aside0.mk (KeepBut.trans kK_ (KeepBut.of_below hb g none) (.inl rfl)); replace HB := Aside0.mk (below_step bS94_ hb); replace HI0 := Aside0.mk (IsS94.below iS94_ hb); clear hb ho23) | ((with_reducible refine gate_dst (N := 21) rfl ?_); refine Kd.R_lit (Kd.int .i64) _ 2 ?hg (N := 21) ?hd (xs := ([5] : List Int)) (inner := [.int .i64 5]) (ok := fun _ => True) (okp := fun _ => True) ?hr ?hp (fun _ hk => hk) trivial (Below.refl _ _) (Nat.le_refl _) (by simp) ?_; (case hd => rfl); (case hg => rfl); (case hr => first | (go_simp; done) | (go_simp; rfl)); (case hp => exact (Reps.one (show Kd.M (Kd.int .i64) _ _ _ 5 [.int .i64 5] from rfl) (Reps.none _ _))); intro v803 w24 ho25 hb hg_ hnew_; clear hg_ hnew_; (first | rw [← Ny802.out] at ho25 | (simp only [Int.reduceToNat] at ho25; rw [← Ny802.out] at ho25)); replace HO784 := Aside0.mk (Kd.R_below (rS_ HO784.out) hb); have HO804 := Aside0.mk (Kd.R_lower (Kd.R_new' (Kd.R_new' (Kd.R_new' (Kd.R_new' (Kd.R_new' ho25 (Kd.R_lt (rS_ HO789.out))) (Kd.R_lt (rS_ HO792.out))) (Kd.R_lt (rS_ HO795.out))) (Kd.R_lt (rS_ HO798.out))) (Kd.R_lt (rS_ HO801.out))) (keep_size (w := w) (g := g) (row := none) kK_)); replace HO789 := Aside0.mk (Kd.R_elder' (rS_ HO789.out) (Kd.R_base ho25) hb); replace HO792 := Aside0.mk (Kd.R_elder' (rS_ HO792.out) (Kd.R_base ho25) hb); replace HO795 := Aside0.mk (Kd.R_elder' (rS_ HO795.out) (Kd.R_base ho25) hb); replace HO798 := Aside0.mk (Kd.R_elder' (rS_ HO798.out) (Kd.R_base ho25) hb); replace HO801 := Aside0.mk (Kd.R_elder' (rS_ HO801.out) (Kd.R_base ho25) hb); replace HK := Aside0.mk (KeepBut.trans kK_ (KeepBut.of_below hb g none) (.inl rfl)); replace HB := Aside0.mk (below_step bS94_ hb); replace HI0 := Aside0.mk (IsS94.below iS94_ hb); clear hb ho25; obtain ⟨Ao26, co26, eo26⟩ := Kd.R_slice HO789.out; subst eo26; obtain ⟨Ao27, co27, eo27⟩ := Kd.R_slice HO792.out; subst eo27; obtain ⟨Ao28, co28, eo28⟩ := Kd.R_slice HO795.out; subst eo28; obtain ⟨Ao29, co29, eo29⟩ := Kd.R_slice HO798.out; subst eo29; obtain ⟨Ao30, co30, eo30⟩ := Kd.R_slice HO801.out; subst eo30; obtain ⟨Ao31, co31, eo31⟩ := Kd.R_slice HO804.out; subst eo31) | ((with_reducible refine gate_dst (N := 22) rfl ?_); refine Kd.N_lit (Kd.slice 2 (Kd.int .i64)) _ 39 ?hg (N' := 22) ?hd (xs := ([y787, y790, y793, y796, y799, y802] : List (List Int))) (inner := [.slice Ao26 y787.length co26, .slice Ao27 y790.length co27, .slice Ao28 y793.length co28, .slice Ao29 y796.length co29, .slice Ao30 y799.length co30, .slice Ao31 y802.length co31]) (ok := (fun k_ => some k_ ≠ (v783 : Value).ownBlock ∧ k_ ≠ g)) (okp := (fun k_ => some k_ ≠ (v783 : Value).ownBlock ∧ k_ ≠ g)) ?hr ?hp (fun _ hk => hk) ((show ∀ k_, w24.heap.size ≤ k_ → (fun k_ => some k_ ≠ (v783 : Value).ownBlock ∧ k_ ≠ g) k_ from fun k_ hk => ⟨Kd.fresh' (Kd.R_lt (rS_ HO784.out)) k_ hk, IsS94.fresh iS94_ k_ hk⟩) _ (Nat.le_refl _)) (Below.refl _ _) (Nat.le_refl _) (by simp) ?_; (case hd => rfl); (case hg => rfl); (case hr => first | (go_simp; done) | (go_simp; rfl)); (case hp => exact (Reps.one (show Kd.FK (Kd.slice 2 (Kd.int .i64)) _ _ y787 [.slice Ao26 y787.length co26] from (Kd.FK_slice_mk (Kd.R_reads' (Kd.R_mono (ok' := (fun k_ => some k_ ≠ (v783 : Value).ownBlock ∧ k_ ≠ g)) (IsS94.apart HI0.out (Kd.R_apart' (HO789.out) (Kd.R_typed HO784.out) (by decide)) (by decide)) (fun k_ hk => ⟨hk.1.2, hk.2⟩))).2.1 (Kd.R_F (Kd.R_mono (ok' := (fun k_ => some k_ ≠ (v783 : Value).ownBlock ∧ k_ ≠ g)) (IsS94.apart HI0.out (Kd.R_apart' (HO789.out) (Kd.R_typed HO784.out) (by decide)) (by decide)) (fun k_ hk => ⟨hk.1.2, hk.2⟩))))) (Reps.one (show Kd.FK (Kd.slice 2 (Kd.int .i64)) _ _ y790 [.slice Ao27 y790.length co27] from (Kd.FK_slice_mk (Kd.R_reads' (Kd.R_mono (ok' := (fun k_ => some k_ ≠ (v783 : Value).ownBlock ∧ k_ ≠ g)) (IsS94.apart HI0.out (Kd.R_apart' (HO792.out) (Kd.R_typed HO784.out) (by decide)) (by decide)) (fun k_ hk => ⟨hk.1.2, hk.2⟩))).2.1 (Kd.R_F (Kd.R_mono (ok' := (fun k_ => some k_ ≠ (v783 : Value).ownBlock ∧ k_ ≠ g)) (IsS94.apart HI0.out (Kd.R_apart' (HO792.out) (Kd.R_typed HO784.out) (by decide)) (by decide)) (fun k_ hk => ⟨hk.1.2, hk.2⟩))))) (Reps.one (show Kd.FK (Kd.slice 2 (Kd.int .i64)) _ _ y793 [.slice Ao28 y793.length co28] from (Kd.FK_slice_mk (Kd.R_reads' (Kd.R_mono (ok' := (fun k_ => some k_ ≠ (v783 : Value).ownBlock ∧ k_ ≠ g)) (IsS94.apart HI0.out (Kd.R_apart' (HO795.out) (Kd.R_typed HO784.out) (by decide)) (by decide)) (fun k_ hk => ⟨hk.1.2, hk.2⟩))).2.1 (Kd.R_F (Kd.R_mono (ok' := (fun k_ => some k_ ≠ (v783 : Value).ownBlock ∧ k_ ≠ g)) (IsS94.apart HI0.out (Kd.R_apart' (HO795.out) (Kd.R_typed HO784.out) (by decide)) (by decide)) (fun k_ hk => ⟨hk.1.2, hk.2⟩))))) (Reps.one (show Kd.FK (Kd.slice 2 (Kd.int .i64)) _ _ y796 [.slice Ao29 y796.length co29] from (Kd.FK_slice_mk (Kd.R_reads' (Kd.R_mono (ok' := (fun k_ => some k_ ≠ (v783 : Value).ownBlock ∧ k_ ≠ g)) (IsS94.apart HI0.out (Kd.R_apart' (HO798.out) (Kd.R_typed HO784.out) (by decide)) (by decide)) (fun k_ hk => ⟨hk.1.2, hk.2⟩))).2.1 (Kd.R_F (Kd.R_mono (ok' := (fun k_ => some k_ ≠ (v783 : Value).ownBlock ∧ k_ ≠ g)) (IsS94.apart HI0.out (Kd.R_apart' (HO798.out) (Kd.R_typed HO784.out) (by decide)) (by decide)) (fun k_ hk => ⟨hk.1.2, hk.2⟩))))) (Reps.one (show Kd.FK (Kd.slice 2 (Kd.int .i64)) _ _ y799 [.slice Ao30 y799.length co30] from (Kd.FK_slice_mk (Kd.R_reads' (Kd.R_mono (ok' := (fun k_ => some k_ ≠ (v783 : Value).ownBlock ∧ k_ ≠ g)) (IsS94.apart HI0.out (Kd.R_apart' (HO801.out) (Kd.R_typed HO784.out) (by decide)) (by decide)) (fun k_ hk => ⟨hk.1.2, hk.2⟩))).2.1 (Kd.R_F (Kd.R_mono (ok' := (fun k_ => some k_ ≠ (v783 : Value).ownBlock ∧ k_ ≠ g)) (IsS94.apart HI0.out (Kd.R_apart' (HO801.out) (Kd.R_typed HO784.out) (by decide)) (by decide)) (fun k_ hk => ⟨hk.1.2, hk.2⟩))))) (Reps.one (show Kd.FK (Kd.slice 2 (Kd.int .i64)) _ _ y802 [.slice Ao31 y802.length co31] from (Kd.FK_slice_mk (Kd.R_reads' (Kd.R_mono (ok' := (fun k_ => some k_ ≠ (v783 : Value).ownBlock ∧ k_ ≠ g)) (IsS94.apart HI0.out (Kd.R_apart' (HO804.out) (Kd.R_typed HO784.out) (by decide)) (by decide)) (fun k_ hk => ⟨hk.1.2, hk.2⟩))).2.1 (Kd.R_F (Kd.R_mono (ok' := (fun k_ => some k_ ≠ (v783 : Value).ownBlock ∧ k_ ≠ g)) (IsS94.apart HI0.out (Kd.R_apart' (HO804.out) (Kd.R_typed HO784.out) (by decide)) (by decide)) (fun k_ hk => ⟨hk.1.2, hk.2⟩))))) (Reps.none _ _)))))))); intro v806 w32 ho33 hb hg_ hnew_; clear hg_ hnew_; (first | rw [← Ny805.out] at ho33 | (simp only [Int.reduceToNat] at ho33; rw [← Ny805.out] at ho33)); replace HO784 := Aside0.mk (Kd.R_below (rS_ HO784.out) hb); have HO807 := Aside0.mk (Kd.N_lower ho33 (keep_size (w := w) (g := g) (row := none) kK_)); replace HK := Aside0.mk (KeepBut.trans kK_ (KeepBut.of_below hb g none) (.inl rfl)); replace HB := Aside0.mk (below_step bS94_ hb); replace HI0 := Aside0.mk (IsS94.below iS94_ hb); clear HO789 HO792 HO795 HO798 HO801 HO804; clear hb ho33) | ((with_reducible refine gate_callee (f := 93) rfl ?_); refine gL_ (some 24) Try.func93 #[.pointer (some ⟨g, 0, none⟩), .int .i64 6] ?_; (with_reducible refine (spec_l01Next.calls g s0_0 t785 t786 6 t808 t809 t810 w0 _ ?side1 ?side2 A8.out).mono ?_); (case side1 => exact iS94_); (case side2 => exact bS94_); rintro e w34 ⟨rfl, hi, hb, hk⟩; refine ⟨_, rfl, ?_⟩; replace HO784 := Aside0.mk (Kd.R_mono (Kd.R_keep (IsS94.apart (show IsS94 w0 _ g s0_0 t785 t786 from iS94_) (rS_ HO784.out) (by decide)) hk (fun _ h => h.2)) (fun _ h => h.1)); replace HO807 := Aside0.mk (Kd.N_mono (Kd.N_keep (Kd.N_mono (ok := fun k_ => (some k_ ≠ (v783 : Value).ownBlock ∧ k_ ≠ g)) (by (with_reducible repeat (first | apply Kd.N_alloc | apply Kd.N_drewN | apply Kd.N_drew)); exact HO807.out) (fun k_ hk_ => (⟨hk_, hk_.2⟩ : _ ∧ k_ ≠ g))) hk (fun _ h => h.2)) (fun _ h => h.1)); replace HK := Aside0.mk (KeepBut.trans kK_ hk (.inl rfl)); replace HB := Aside0.mk (hb); replace HI0 := Aside0.mk (hi); (try clear hb hk hi); obtain ⟨Ao35, co35, eo35⟩ := Kd.N_slice HO807.out; subst eo35; have p811 : 0 ≤ (t808 : Int) := of_decide_eq_true aS_; have q811 : t808 < (y805.length : Int) := of_decide_eq_true aS_; obtain ⟨ad811, A811_0, c811_0, e811, hx811_0, hl811_0, hi811_0⟩ := at_L4 (Kd.N_reads' HO807.out).2.2 t808 p811 q811; cases e811; obtain ⟨ce811, hce811, hMe811, hcc811⟩ := Kd.N_get HO807.out [] t808 p811 (by first | exact q811 | exact of_decide_eq_true aS_ | (have e_ := (Kd.N_reads' HO807.out).1; omega)); obtain ⟨ua811_0, uc811_0, rfl, ul811_0, ge811_0⟩ := Kd.FK_slice_open hMe811; have hv811_0 := hcc811 0 _ rfl; rw [Nat.add_zero, show ((Kd.slice 2 (Kd.int .i64))).sz = 1 from rfl, Nat.mul_one] at hv811_0; replace hv811_0 := Option.some.inj (hv811_0.symm.trans hx811_0); injection hv811_0 with hva_ hvn_ hvc_; rw [hva_] at ge811_0; rw [hvc_] at ul811_0; have HL811_0 := Aside0.mk (show Kd.V (Kd.int .i64) 2 _ w.heap.size _ _ (rd_L4 y805 t808) from Kd.V_mk ul811_0 ge811_0); clear hva_ hvn_ hvc_ ge811_0 ul811_0; clear hcc811 hce811; have HR811_0 := Aside0.mk hi811_0; have HC811_0 := Aside0.mk hl811_0; clear hi811_0 hl811_0; replace p811 := eq_true p811; replace q811 := eq_true q811) | ((with_reducible refine gate_dst (N := 27) rfl ?_); refine Kd.R_lit k55 _ 55 ?hg (N := 27) ?hd (xs := ([] : List (S55))) (inner := []) (ok := fun _ => True) (okp := fun _ => True) ?hr ?hp (fun _ hk => hk) trivial (Below.refl _ _) (Nat.le_refl _) (by simp) ?_; (case hd => rfl); (case hg => rfl); (case hr => first | (go_simp; done) | (go_simp; rfl)); (case hp => exact (Reps.none _ _)); intro v813 w36 ho37 hb hg_ hnew_; clear hg_ hnew_; (first | rw [← Ny812.out] at ho37 | (simp only [Int.reduceToNat] at ho37; rw [← Ny812.out] at ho37)); replace HO807 := Aside0.mk (Kd.N_elder' (by (with_reducible repeat (first | apply Kd.N_alloc | apply Kd.N_drewN | apply Kd.N_drew)); exact HO807.out) (Kd.R_base ho37) hb); replace HL811_0 := Aside0.mk (Kd.V_elder' (by (with_reducible repeat (first | apply Kd.V_alloc | apply Kd.V_drewN | apply Kd.V_drew)); exact HL811_0.out) (Kd.R_base ho37) hb); have HO814 := Aside0.mk (Kd.R_lower (Kd.R_new' ho37 (Kd.R_lt (rS_ HO784.out))) (keep_size (w := w) (g := g) (row := none) kK_)); replace HO784 := Aside0.mk (Kd.R_elder' (rS_ HO784.out) (Kd.R_base ho37) hb); replace HR811_0 := Aside0.mk (Kd.C_below (by repeat (first | (with_reducible exact HR811_0.out) | (with_reducible refine Kd.C_alloc ?_ _) | (with_reducible refine Kd.C_drewN ?_ _) | (with_reducible refine Kd.C_drew ?_) | exact HR811_0.out)) hb); replace HK := Aside0.mk (KeepBut.trans kK_ (KeepBut.of_below hb g none) (.inl rfl)); replace HB := Aside0.mk (below_step bS94_ hb); replace HI0 := Aside0.mk (IsS94.below iS94_ hb); clear hb ho37; obtain ⟨Ao39, co39, eo39⟩ := Kd.R_slice HO784.out; subst eo39) | ((with_reducible refine gate_builtin (b := .append) (xs := #[.tmp 27, .tmp 28]) rfl ?_); at_builtin; refine Kd.R_append_rows k55 w.heap.size rfl (.tmp 27) (.tmp 28) 27 55 (.agg #[(.int .i64 0), (.int .i64 0)]) 16 rfl Try.underlying27 info55 rfl (by decide) (by omega) v813 y812 t782 _ _ _ (fun k_ => some k_ ≠ (.slice Ao39 t782.length co39 : Value).ownBlock) (fun _ => False) rfl rfl ?aO ?aR (fun _ _ h => h) (fun _ h => h.elim) ?aF (Below.refl _ _) ?aS ?aL ?_; (case aR => exact cS_ ((Kd.R_reads' HO784.out).2.2)); (case aF => exact (fun k_ hk => Kd.fresh' (Kd.R_lt (rS_ HO784.out)) k_ hk)); (case aO => exact (rS_ (Kd.R_mono HO814.out (fun _ hk => hk.2)))); (case aS => exact (keep_size (w := w) (g := g) (row := none) kK_)); (case aL => have := LMc11.out; omega); intro v816 w38 ho hb hg hat; rw [← Ny815.out] at ho; replace HO784 := Aside0.mk (Kd.R_after (ok := (fun _ => True)) (rS_ HO784.out) hg hat); replace HO807 := Aside0.mk (Kd.N_afterv (ok := (fun k_ => some k_ ≠ (.slice Ao39 t782.length co39 : Value).ownBlock ∧ k_ ≠ g)) (by (with_reducible repeat (first | apply Kd.N_alloc | apply Kd.N_drewN | apply Kd.N_drew)); exact HO807.out) hg hat); replace HL811_0 := Aside0.mk (Kd.V_afterv (ok := (fun k_ => some k_ ≠ (.slice Ao39 t782.length co39 : Value).ownBlock ∧ some k_ ≠ (.slice (some ad811) y805.length co35 : Value).ownBlock ∧ k_ ≠ g)) (by (with_reducible repeat (first | apply Kd.V_alloc | apply Kd.V_drewN | apply Kd.V_drew)); exact Kd.V_mono HL811_0.out (fun _ hk => ⟨⟨hk.1.1.1, ⟨hk.1.2, hk.1.1.2⟩⟩, hk.2⟩)) hg hat); replace HB := Aside0.mk (below_weaken bS94_ HL.out hb); replace HI0 := Aside0.mk (IsS94.grown iS94_ hg (IsS94.own_ne HI0.out HO814.out (by decide))); replace HK := Aside0.mk (KeepBut.trans kK_ (KeepBut.of_grown hg g) (Kd.R_base2 HO814.out)); have HO817 := Aside0.mk (ho); clear HO814; clear ho hb hg hat))
     go_loopg [5, 6] k (fun kq v5 v6 w' => ∃ (x5_1 : List (S55)) (x6_1 : Int), v6 = .int .i64 x6_1 ∧ Aside0 (spec_l03DrawEven.l0 kq t782 (rd_L4 y805 t808) x5_1 x6_1 s0_0 t809 t810 = some (r1, r2, r3)) ∧ Aside0 (kq ≤ k) ∧ Aside0 (Kd.R k55 55 w' w.heap.size (fun k_ => some k_ ≠ (v5 : Value).ownBlock) (.slice Ao39 t782.length co39) t782) ∧ Aside0 (Kd.V (Kd.int .i64) 2 w' w.heap.size (fun k_ => some k_ ≠ (v5 : Value).ownBlock) (.slice A811_0 (rd_L4 y805 t808).length c811_0) (rd_L4 y805 t808)) ∧ Aside0 (Kd.R k55 55 w' w.heap.size (fun k_ => some k_ ≠ ((.slice Ao39 t782.length co39) : Value).ownBlock) v5 x5_1) ∧ Aside0 (IsS94 w0 w' g s0_0 t809 t810) ∧ Aside0 (KeepBut w w' g none) ∧ Aside0 (Below w0.heap.size w0 w'))
     case atStart => exact ⟨(y815), (0), r3_, H', ⟨Nat.le_refl _⟩, ⟨rS_ (Kd.R_mono HO784.out (fun _ hk => hk.2))⟩, ⟨vS_ (Kd.V_mono HL811_0.out (fun _ hk => hk.2))⟩, ⟨rS_ HO817.out⟩, ⟨iS94_⟩, ⟨kK_⟩, ⟨bS94_⟩⟩
     case round =>
      clear H'
      try clear c1
      try clear p2
      try clear c3
      try clear c3b0
      try clear c3b1
      try clear c5
      try clear c8
      try clear p8
      try clear q8
      try clear hx8
      try clear c9
      try clear c9b0
      try clear c10
      try clear c10b0
      try clear c11
      try clear hx811_0
      try clear p811
      try clear q811
      obtain ⟨x5_1, x6_1, rfl, HA, HK1, HO_3, HL_3, HO_5, HI0, HK, HB⟩ := hrel
      cases gk with
      | zero => exact absurd HA.out (by simp [spec_l03DrawEven.l0])
      | succ k1 =>
       have H := HA.out
       clear HA
       simp only [spec_l03DrawEven.l0] at H
       by_cases c40 : x6_1 < ((rd_L4 y805 t808).length : Int)
       ·rw [if_pos c40] at H
        have c40b0 : decide (x6_1 < ((rd_L4 y805 t808).length : Int)) = true := decide_eq_true c40
        clear c40
        have H' := Aside0.mk H
        clear H
        go_wp2
        go_loopg [5, 7] k1 (fun kq v5 v7 w' => ∃ (x5_2 : List (S55)) (x7_2 : Int), v7 = .int .i64 x7_2 ∧ Aside0 (spec_l03DrawEven.l1 kq t782 (rd_L4 y805 t808) x5_2 x6_1 x7_2 s0_0 t809 t810 = some (r1, r2, r3)) ∧ Aside0 (kq ≤ k1) ∧ Aside0 (Kd.R k55 55 w' w.heap.size (fun k_ => some k_ ≠ (v5 : Value).ownBlock) (.slice Ao39 t782.length co39) t782) ∧ Aside0 (Kd.V (Kd.int .i64) 2 w' w.heap.size (fun k_ => some k_ ≠ (v5 : Value).ownBlock) (.slice A811_0 (rd_L4 y805 t808).length c811_0) (rd_L4 y805 t808)) ∧ Aside0 (Kd.R k55 55 w' w.heap.size (fun k_ => some k_ ≠ ((.slice Ao39 t782.length co39) : Value).ownBlock) v5 x5_2) ∧ Aside0 (IsS94 w0 w' g s0_0 t809 t810) ∧ Aside0 (KeepBut w w' g none) ∧ Aside0 (Below w0.heap.size w0 w'))
        case atStart => exact ⟨(x5_1), (0), r3_, H', ⟨Nat.le_refl _⟩, ⟨rS_ HO_3.out⟩, ⟨vS_ HL_3.out⟩, ⟨rS_ HO_5.out⟩, ⟨iS94_⟩, ⟨kK_⟩, ⟨bS94_⟩⟩
        case round =>
         clear H'
         try clear c1
         try clear p2
         try clear c3
         try clear c3b0
         try clear c3b1
         try clear c4
         try clear c5
         try clear c8
         try clear p8
         try clear q8
         try clear hx8
         try clear c9
         try clear c9b0
         try clear c10
         try clear c10b0
         try clear c11
         try clear c40
         try clear c40b0
         try clear hx811_0
         try clear p2
         try clear p8
         try clear p811
         try clear q8
         try clear q811
         obtain ⟨x5_2, x7_2, rfl, HA, HK2, HO_3, HL_3, HO_5, HI0, HK, HB⟩ := hrel
         cases gk with
         | zero => exact absurd HA.out (by simp [spec_l03DrawEven.l1])
         | succ k2 =>
          have H := HA.out
          clear HA
          simp only [spec_l03DrawEven.l1] at H
          by_cases c41 : x7_2 < (t782.length : Int)
          ·rw [if_pos c41] at H
           have c41b0 : decide (x7_2 < (t782.length : Int)) = true := decide_eq_true c41
           clear c41
           by_cases c42 : 0 ≤ x7_2
           ·rw [if_pos c42] at H
            have c42b0 : decide (0 ≤ x7_2) = true := decide_eq_true c42
            clear c42
            by_cases c43 : 0 ≤ x6_1
            ·rw [if_pos c43] at H
             have c43b0 : decide (0 ≤ x6_1) = true := decide_eq_true c43
             clear c43
             by_cases c44 : x6_1 < ((rd_L4 y805 t808).length : Int)
             ·rw [if_pos c44] at H
              have c44b0 : decide (x6_1 < ((rd_L4 y805 t808).length : Int)) = true := decide_eq_true c44
              clear c44
              replace H := Option.bind_eq_some_iff.mp H
              obtain ⟨⟨t823, t824⟩, A450, H⟩ := H
              try dsimp only at H
              have A45 := Aside0.mk A450
              clear A450
              replace H := Option.bind_eq_some_iff.mp H
              obtain ⟨t826, A460, H⟩ := H
              try dsimp only at H
              have A46 := Aside0.mk A460
              clear A460
              by_cases c47 : t826 < 0
              ·rw [if_pos c47] at H
               have c47b0 : decide (t826 < 0) = true := decide_eq_true c47
               clear c47
               by_cases c48 : x5_2.length < 8796093022208
               ·rw [if_pos c48] at H
                have LMc48 := Aside0.mk c48
                clear c48
                obtain ⟨y827, hY_⟩ : ∃ y_ : List (S55), y_ = (x5_2 ++ [(⟨t823, t824⟩ : S55)]) := ⟨_, rfl⟩
                replace H : (spec_l03DrawEven.l1 k2 t782 (rd_L4 y805 t808) y827 x6_1 (wrap64 (x7_2 + 1)) s0_0 t809 t810) = some (r1, r2, r3) := yY_
                have Ny827 := Aside0.mk hY_
                clear hY_
                have H' := Aside0.mk H
                clear H
                try go_wp2
                replace HO_3 := Aside0.mk (Kd.R_drew HO_3.out)
                replace HL_3 := Aside0.mk (Kd.V_drew HL_3.out)
                replace HO_5 := Aside0.mk (Kd.R_drew HO_5.out)
                replace HI0 := Aside0.mk (IsS94.drew HI0.out)
                replace HK := Aside0.mk (keep_drew HK.out)
                replace HB := Aside0.mk (below_drew1 HB.out)
                have p821 : 0 ≤ (x7_2 : Int) := of_decide_eq_true aS_
                have q821 : x7_2 < (t782.length : Int) := of_decide_eq_true aS_
                obtain ⟨ad821, e821, hx821_0, hx821_1⟩ := at_T55 (Kd.R_reads' HO_3.out).2.2 x7_2 p821 q821
                cases e821
                replace p821 := eq_true p821
                replace q821 := eq_true q821
                have p822 : 0 ≤ (x6_1 : Int) := of_decide_eq_true aS_
                have q822 : x6_1 < ((rd_L4 y805 t808).length : Int) := of_decide_eq_true aS_
                obtain ⟨ad822, e822, hx822_0⟩ := Kd.at_int (Kd.V_reads' HL_3.out).2.2 x6_1 p822 q822
                have hw822_0 := hx822_0
                cases e822
                replace p822 := eq_true p822
                replace q822 := eq_true q822
                refine start_ (n := 11) (S := fun w' => w'.cell? (ad821.add ((x7_2).toNat * 2)) = some (.int .i64 ((rd_T55 t782 x7_2).f0)) ∧ w'.cell? ⟨(ad821.add ((x7_2).toNat * 2)).block, (ad821.add ((x7_2).toNat * 2)).off + 1, none⟩ = some (.int .i64 ((rd_T55 t782 x7_2).f1)) ∧ w'.cell? (ad822.add (x6_1).toNat) = some (.int .i64 (rd (rd_L4 y805 t808) x6_1))) (ds := []) #[F, F, F, F, F, F, F, F, F, F, F] (by kernel_rfl) rfl rfl ⟨hx821_0, hx821_1, hx822_0⟩ (fun hHeld => ?_); refine with_tabW spec_l03DrawEven.tab12 spec_l03DrawEven.bits12 (fun HT_ HW_ => ?_)
                generalize wr.drew = w49 at HO_3 HL_3 HO_5 HI0 HK HB hx821_0 hx821_1 hx822_0 hHeld ⊢
                refine pu_ HT_ 0 (some 42) #[T,F,F,F,F,F,F,F,F,F,F] ?_
                refine pu_ HT_ 1 (some 43) #[T,T,F,F,F,F,F,F,F,F,F] ?_
                refine pu_ HT_ 2 (some 44) #[T,T,T,F,F,F,F,F,F,F,F] ?_
                refine pu_ HT_ 4 (some 46) #[T,T,T,F,T,F,F,F,F,F,F] ?_
                refine pu_ HT_ 5 (some 47) #[T,T,T,F,T,T,F,F,F,F,F] ?_
                refine pu_ HT_ 6 (some 48) #[T,T,T,F,T,T,T,F,F,F,F] ?_
                refine take_ (i := 3) (N := some 45) (v := ?_) (a' := ?_) #[T, T, T, T, T, T, T, F, F, F, F] rfl rfl (take_ofW HT_.out HW_.out (by kernel_rfl)) (fun _ _ _ h => h) (Or.inl ⟨by rfl, ?_⟩) hHeld ?_ ?_
                rotate_left
                ·rintro w' ⟨s0, s1, s2⟩
                 go_simp
                 with_reducible rfl
                rotate_left
                ·simp only [Act.put, List.setIfInBounds_toArray, List.set_cons_zero, List.set_cons_succ, i64_w, i32_w]
                 rfl
                refine take_ (i := 7) (N := some 49) (v := ?_) (a' := ?_) #[T, T, T, T, T, T, T, T, F, F, F] rfl rfl (take_ofW HT_.out HW_.out (by kernel_rfl)) (fun _ _ _ h => h) (Or.inl ⟨by rfl, ?_⟩) hHeld ?_ ?_
                rotate_left
                ·rintro w' ⟨s0, s1, s2⟩
                 go_simp
                 with_reducible rfl
                rotate_left
                ·simp only [Act.put, List.setIfInBounds_toArray, List.set_cons_zero, List.set_cons_succ, i64_w, i32_w]
                 rfl
                refine join_ (σ := Nat) 1 #[T, T, T, T, T, T, T, T, T, T, F] (fun s_ => [(50, .agg #[.int .i64 t823, .int .i64 t824]), (8, .pointer (some ⟨s_, 0, none⟩))]) (fun s_ w' => (w'.cell? (ad821.add ((x7_2).toNat * 2)) = some (.int .i64 ((rd_T55 t782 x7_2).f0)) ∧ w'.cell? ⟨(ad821.add ((x7_2).toNat * 2)).block, (ad821.add ((x7_2).toNat * 2)).off + 1, none⟩ = some (.int .i64 ((rd_T55 t782 x7_2).f1)) ∧ w'.cell? (ad822.add (x6_1).toNat) = some (.int .i64 (rd (rd_L4 y805 t808) x6_1))) ∧ (Kd.R k55 55 w' w.heap.size (fun k_ => some k_ ≠ (u5 : Value).ownBlock ∧ k_ ≠ s_) (.slice (some ad821) t782.length co39) t782) ∧ (Kd.V (Kd.int .i64) 2 w' w.heap.size (fun k_ => some k_ ≠ (u5 : Value).ownBlock ∧ k_ ≠ s_) (.slice (some ad822) (rd_L4 y805 t808).length c811_0) (rd_L4 y805 t808)) ∧ (Kd.R k55 55 w' w.heap.size (fun k_ => some k_ ≠ (.slice (some ad821) t782.length co39 : Value).ownBlock ∧ k_ ≠ s_) u5 x5_2) ∧ (w'.heap[s_]? = some (.cells #[.int .i64 0, .int .i64 0] 55 (0, 0))) ∧ (w.heap.size ≤ s_) ∧ (w0.heap.size ≤ s_) ∧ (g ≠ s_) ∧ (s_ ≠ g) ∧ ((ad822.add (x6_1).toNat).block ≠ s_) ∧ (IsS94 w0 w' g s0_0 t809 t810) ∧ (KeepBut w w' g none) ∧ (Below w0.heap.size w0 w')) ?_ ?_
                rotate_left
                ·intro hCont
                 refine two_ (i := 8) (j := 9) (Ni := some 50) (Nj := some 8) #[T, T, T, T, T, T, T, T, T, F, F] #[T, T, T, T, T, T, T, T, F, T, F] rfl rfl rfl rfl (two_of HT_.out (by kernel_rfl)) (by decide) (by decide) (fun K hK => ?_) (fun K hK => ?_)
                 ·skip
                  refine goes_ Try.func96 (by kernel_rfl) rfl #[.agg #[.int .i64 ((rd_T55 t782 x7_2).f0), .int .i64 ((rd_T55 t782 x7_2).f1)], .int .i64 (rd (rd_L4 y805 t808) x6_1)] (by rfl) rfl rfl mA_ ?_
                  with_reducible refine (spec_l03Turn.calls k2 ((rd_T55 t782 x7_2).f0) ((rd_T55 t782 x7_2).f1) (rd (rd_L4 y805 t808) x6_1) t823 t824 _ A45.out).mono ?_
                  rintro e w50 ⟨rfl, hb⟩
                  have HS0_ := (hb.cell (World.block_lt_of_cell? _ _ (hHeld.1))).trans (hHeld.1)
                  have HS1_ := (hb.cell (World.block_lt_of_cell? _ _ (hHeld.2.1))).trans (hHeld.2.1)
                  have HS2_ := (hb.cell (World.block_lt_of_cell? _ _ (hHeld.2.2))).trans (hHeld.2.2)
                  refine ⟨_, rfl, ?_⟩
                  replace HO_3 := Aside0.mk (Kd.R_below (rS_ HO_3.out) hb)
                  replace HL_3 := Aside0.mk (Kd.V_below (vS_ HL_3.out) hb)
                  replace HO_5 := Aside0.mk (Kd.R_below (rS_ HO_5.out) hb)
                  replace HK := Aside0.mk (KeepBut.trans kK_ (KeepBut.of_below hb g none) (.inl rfl))
                  replace HB := Aside0.mk (below_step bS94_ hb)
                  replace HI0 := Aside0.mk (IsS94.below iS94_ hb)
                  (try clear hb)
                  refine hK.out _ _ ⟨HS0_, HS1_, HS2_⟩ (fun hHeld => ?_)
                  clear hK K
                  refine no_ (some 50) ?_
                  refine one_ (i := 9) (N := some 8) #[T, T, T, T, T, T, T, T, T, T, F] rfl rfl (one_of HT_.out (by kernel_rfl)) (by decide) (fun K hK => ?_)
                  refine box_step ?hg (N := 8) ?hd (cs := #[.int .i64 0, .int .i64 0]) (t := 55) ?hr ?_; (case hd => rfl); (case hg => rfl); (case hr => first | (go_simp; done) | (go_simp; rfl))
                  intro gb825 hg w51 hbox hb
                  have NX825 := Aside0.mk ((by rw [hg]; exact Nat.ne_of_lt (World.block_lt_of_cell? _ _ hHeld.2.2)) : (ad822.add (x6_1).toNat).block ≠ gb825)
                  have HS0_ := (hb.cell (World.block_lt_of_cell? _ _ (hHeld.1))).trans (hHeld.1)
                  have HS1_ := (hb.cell (World.block_lt_of_cell? _ _ (hHeld.2.1))).trans (hHeld.2.1)
                  have HS2_ := (hb.cell (World.block_lt_of_cell? _ _ (hHeld.2.2))).trans (hHeld.2.2)
                  replace HO_3 := Aside0.mk (Kd.R_below (Kd.R_elderB (rS_ HO_3.out) gb825 (Nat.le_of_eq hg.symm)) hb)
                  replace HL_3 := Aside0.mk (Kd.V_below (Kd.V_elderB (vS_ HL_3.out) gb825 (Nat.le_of_eq hg.symm)) hb)
                  replace HO_5 := Aside0.mk (Kd.R_below (Kd.R_elderB (rS_ HO_5.out) gb825 (Nat.le_of_eq hg.symm)) hb)
                  replace HB := Aside0.mk (below_step bS94_ hb)
                  have BK825 := Aside0.mk (hbox)
                  have GW825 := Aside0.mk ((by rw [hg]; exact (keep_size (w := w) (g := g) (row := none) kK_) : w.heap.size ≤ gb825))
                  have GE825 := Aside0.mk ((Nat.le_trans HW0.out (by rw [hg]; exact (keep_size (w := w) (g := g) (row := none) kK_) : w.heap.size ≤ gb825) : w0.heap.size ≤ gb825))
                  replace HK := Aside0.mk (KeepBut.trans kK_ (KeepBut.of_below hb g none) (.inl rfl))
                  have NB0_825 := Aside0.mk ((by rw [hg]; exact Nat.ne_of_lt (IsS94.lt (show IsS94 w0 _ g s0_0 t809 t810 from iS94_)) : g ≠ gb825))
                  have NB825_0 := Aside0.mk ((by rw [hg]; exact Nat.ne_of_gt (IsS94.lt (show IsS94 w0 _ g s0_0 t809 t810 from iS94_)) : gb825 ≠ g))
                  replace HI0 := Aside0.mk (IsS94.below iS94_ hb)
                  clear hb hbox hg
                  refine hK.out _ _ ⟨HS0_, HS1_, HS2_⟩ (fun hHeld => ?_)
                  clear hK K
                  refine no_ (some 8) ?_
                  exact norm_ (by simp only [putAll, Act.put, List.setIfInBounds_toArray, List.set_cons_zero, List.set_cons_succ]) (hCont (gb825) _ ⟨hHeld, (rS_ HO_3.out), (vS_ HL_3.out), (rS_ HO_5.out), (by (with_reducible repeat (first | refine blk_drewN ?_ _ | refine blk_drew ?_ | refine blk_alloc ?_ _)); exact BK825.out), GW825.out, GE825.out, NB0_825.out, NB825_0.out, NX825.out, (by repeat (first | (with_reducible first | exact HI0.out | apply IsS94.alloc | apply IsS94.drewN | apply IsS94.drew | apply IsS94.set_1 | apply IsS94.set_2 | refine IsS94.far ?_ NB0_825.out _) | exact HI0.out)), (by repeat (first | (with_reducible first | exact HK.out | apply KeepBut.set_ | apply keep_drewN | apply keep_drew | apply keep_alloc | refine keep_far ?_ GW825.out _) | exact HK.out)), (by repeat (first | (with_reducible first | exact HB.out | apply below_alloc | apply pw_below_drewN | apply below_drew1 | refine below_set ?_ (IsS94.ge HI0.out) | refine below_set ?_ GE825.out) | exact HB.out))⟩)
                 ·skip
                  refine box_step ?hg (N := 8) ?hd (cs := #[.int .i64 0, .int .i64 0]) (t := 55) ?hr ?_; (case hd => rfl); (case hg => rfl); (case hr => first | (go_simp; done) | (go_simp; rfl))
                  intro gb825 hg w50 hbox hb
                  have NX825 := Aside0.mk ((by rw [hg]; exact Nat.ne_of_lt (World.block_lt_of_cell? _ _ hHeld.2.2)) : (ad822.add (x6_1).toNat).block ≠ gb825)
                  have HS0_ := (hb.cell (World.block_lt_of_cell? _ _ (hHeld.1))).trans (hHeld.1)
                  have HS1_ := (hb.cell (World.block_lt_of_cell? _ _ (hHeld.2.1))).trans (hHeld.2.1)
                  have HS2_ := (hb.cell (World.block_lt_of_cell? _ _ (hHeld.2.2))).trans (hHeld.2.2)
                  replace HO_3 := Aside0.mk (Kd.R_below (Kd.R_elderB (rS_ HO_3.out) gb825 (Nat.le_of_eq hg.symm)) hb)
                  replace HL_3 := Aside0.mk (Kd.V_below (Kd.V_elderB (vS_ HL_3.out) gb825 (Nat.le_of_eq hg.symm)) hb)
                  replace HO_5 := Aside0.mk (Kd.R_below (Kd.R_elderB (rS_ HO_5.out) gb825 (Nat.le_of_eq hg.symm)) hb)
                  replace HB := Aside0.mk (below_step bS94_ hb)
                  have BK825 := Aside0.mk (hbox)
                  have GW825 := Aside0.mk ((by rw [hg]; exact (keep_size (w := w) (g := g) (row := none) kK_) : w.heap.size ≤ gb825))
                  have GE825 := Aside0.mk ((Nat.le_trans HW0.out (by rw [hg]; exact (keep_size (w := w) (g := g) (row := none) kK_) : w.heap.size ≤ gb825) : w0.heap.size ≤ gb825))
                  replace HK := Aside0.mk (KeepBut.trans kK_ (KeepBut.of_below hb g none) (.inl rfl))
                  have NB0_825 := Aside0.mk ((by rw [hg]; exact Nat.ne_of_lt (IsS94.lt (show IsS94 w0 _ g s0_0 t809 t810 from iS94_)) : g ≠ gb825))
                  have NB825_0 := Aside0.mk ((by rw [hg]; exact Nat.ne_of_gt (IsS94.lt (show IsS94 w0 _ g s0_0 t809 t810 from iS94_)) : gb825 ≠ g))
                  replace HI0 := Aside0.mk (IsS94.below iS94_ hb)
                  clear hb hbox hg
                  refine hK.out _ _ ⟨HS0_, HS1_, HS2_⟩ (fun hHeld => ?_)
                  clear hK K
                  refine no_ (some 8) ?_
                  refine one_ (i := 8) (N := some 50) #[T, T, T, T, T, T, T, T, T, T, F] rfl rfl (one_of HT_.out (by kernel_rfl)) (by decide) (fun K hK => ?_)
                  refine goes_ Try.func96 (by kernel_rfl) rfl #[.agg #[.int .i64 ((rd_T55 t782 x7_2).f0), .int .i64 ((rd_T55 t782 x7_2).f1)], .int .i64 (rd (rd_L4 y805 t808) x6_1)] (by rfl) rfl rfl mA_ ?_
                  with_reducible refine (spec_l03Turn.calls k2 ((rd_T55 t782 x7_2).f0) ((rd_T55 t782 x7_2).f1) (rd (rd_L4 y805 t808) x6_1) t823 t824 _ A45.out).mono ?_
                  rintro e w51 ⟨rfl, hb⟩
                  have HS0_ := (hb.cell (World.block_lt_of_cell? _ _ (hHeld.1))).trans (hHeld.1)
                  have HS1_ := (hb.cell (World.block_lt_of_cell? _ _ (hHeld.2.1))).trans (hHeld.2.1)
                  have HS2_ := (hb.cell (World.block_lt_of_cell? _ _ (hHeld.2.2))).trans (hHeld.2.2)
                  refine ⟨_, rfl, ?_⟩
                  replace HO_3 := Aside0.mk (Kd.R_below (rS_ HO_3.out) hb)
                  replace HL_3 := Aside0.mk (Kd.V_below (vS_ HL_3.out) hb)
                  replace HO_5 := Aside0.mk (Kd.R_below (rS_ HO_5.out) hb)
                  replace BK825 := Aside0.mk (blk_below (g := gb825) (o := .cells #[.int .i64 0, .int .i64 0] 55 (0, 0)) (by (with_reducible repeat (first | refine blk_drewN ?_ _ | refine blk_drew ?_ | refine blk_alloc ?_ _)); exact BK825.out) hb)
                  replace HK := Aside0.mk (KeepBut.trans (by repeat (first | (with_reducible first | exact HK.out | apply KeepBut.set_ | apply keep_drewN | apply keep_drew | apply keep_alloc | refine keep_far ?_ GW825.out _) | exact HK.out)) (KeepBut.of_below hb g none) (.inl rfl))
                  replace HB := Aside0.mk (below_step (by repeat (first | (with_reducible first | exact HB.out | apply below_alloc | apply pw_below_drewN | apply below_drew1 | refine below_set ?_ (IsS94.ge HI0.out) | refine below_set ?_ GE825.out) | exact HB.out)) hb)
                  replace HI0 := Aside0.mk (IsS94.below (by repeat (first | (with_reducible first | exact HI0.out | apply IsS94.alloc | apply IsS94.drewN | apply IsS94.drew | apply IsS94.set_1 | apply IsS94.set_2 | refine IsS94.far ?_ NB0_825.out _) | exact HI0.out)) hb)
                  (try clear hb)
                  refine hK.out _ _ ⟨HS0_, HS1_, HS2_⟩ (fun hHeld => ?_)
                  clear hK K
                  refine no_ (some 50) ?_
                  exact norm_ (by simp only [putAll, Act.put, List.setIfInBounds_toArray, List.set_cons_zero, List.set_cons_succ]) (hCont (gb825) _ ⟨hHeld, (rS_ HO_3.out), (vS_ HL_3.out), (rS_ HO_5.out), (by (with_reducible repeat (first | refine blk_drewN ?_ _ | refine blk_drew ?_ | refine blk_alloc ?_ _)); exact BK825.out), GW825.out, GE825.out, NB0_825.out, NB825_0.out, NX825.out, (by repeat (first | (with_reducible first | exact HI0.out | apply IsS94.alloc | apply IsS94.drewN | apply IsS94.drew | apply IsS94.set_1 | apply IsS94.set_2 | refine IsS94.far ?_ NB0_825.out _) | exact HI0.out)), (by repeat (first | (with_reducible first | exact HK.out | apply KeepBut.set_ | apply keep_drewN | apply keep_drew | apply keep_alloc | refine keep_far ?_ GW825.out _) | exact HK.out)), (by repeat (first | (with_reducible first | exact HB.out | apply below_alloc | apply pw_below_drewN | apply below_drew1 | refine below_set ?_ (IsS94.ge HI0.out) | refine below_set ?_ GE825.out) | exact HB.out))⟩)
                rintro gb825 w52 ⟨hS_, h0_, hv_, h1_, h2_, h3_, h4_, h5_, h6_, hx_, h7_, h8_, h9_⟩
                have nv_ : Aside0 (Kd.V (Kd.int .i64) 2 w52 w.heap.size (fun k_ => some k_ ≠ (u5 : Value).ownBlock ∧ k_ ≠ gb825) (.slice (some ad822) (rd_L4 y805 t808).length c811_0) (rd_L4 y805 t808)) := ⟨hv_⟩
                have NX825 : Aside0 ((ad822.add (x6_1).toNat).block ≠ gb825) := ⟨hx_⟩
                have n0_ : Aside0 (Kd.R k55 55 w52 w.heap.size (fun k_ => some k_ ≠ (u5 : Value).ownBlock ∧ k_ ≠ gb825) (.slice (some ad821) t782.length co39) t782) := ⟨h0_⟩
                have n1_ : Aside0 (Kd.R k55 55 w52 w.heap.size (fun k_ => some k_ ≠ (.slice (some ad821) t782.length co39 : Value).ownBlock ∧ k_ ≠ gb825) u5 x5_2) := ⟨h1_⟩
                have n2_ : Aside0 (w52.heap[gb825]? = some (.cells #[.int .i64 0, .int .i64 0] 55 (0, 0))) := ⟨h2_⟩
                have n3_ : Aside0 (w.heap.size ≤ gb825) := ⟨h3_⟩
                have n4_ : Aside0 (w0.heap.size ≤ gb825) := ⟨h4_⟩
                have n5_ : Aside0 (g ≠ gb825) := ⟨h5_⟩
                have n6_ : Aside0 (gb825 ≠ g) := ⟨h6_⟩
                have n7_ : Aside0 (IsS94 w0 w52 g s0_0 t809 t810) := ⟨h7_⟩
                have n8_ : Aside0 (KeepBut w w52 g none) := ⟨h8_⟩
                have n9_ : Aside0 (Below w0.heap.size w0 w52) := ⟨h9_⟩
                clear HO_3
                clear HO_5
                clear HI0
                clear HK
                clear HB
                clear HL_3 hv_ hx_
                clear h0_ h1_ h2_ h3_ h4_ h5_ h6_ h7_ h8_ h9_
                have HO_3 := n0_
                have HL_3 := nv_
                clear nv_
                have HO_5 := n1_
                have BK825 := n2_
                have GW825 := n3_
                have GE825 := n4_
                have NB0_825 := n5_
                have NB825_0 := n6_
                have HI0 := n7_
                have HK := n8_
                have HB := n9_
                clear n0_ n1_ n2_ n3_ n4_ n5_ n6_ n7_ n8_ n9_
                have hHeld : w52.cell? (ad821.add ((x7_2).toNat * 2)) = some (.int .i64 ((rd_T55 t782 x7_2).f0)) ∧ w52.cell? ⟨(ad821.add ((x7_2).toNat * 2)).block, (ad821.add ((x7_2).toNat * 2)).off + 1, none⟩ = some (.int .i64 ((rd_T55 t782 x7_2).f1)) ∧ w52.cell? (ad822.add (x6_1).toNat) = some (.int .i64 (rd (rd_L4 y805 t808) x6_1)) := hS_
                refine norm_ (a' := ?_) ?_ ?_
                rotate_left
                ·simp only [putAll, Act.put, List.setIfInBounds_toArray, List.set_cons_zero, List.set_cons_succ]
                 rfl
                refine one_ (i := 10) (N := none) #[T, T, T, T, T, T, T, T, T, T, T] rfl rfl (one_of HT_.out (by kernel_rfl)) (by decide) (fun K hK => ?_)
                have hs53 : w52.cell? ⟨gb825, 0, none⟩ = some (.int .i64 0) := (blk_cell BK825.out 0).trans rfl
                have hfs53 := blk_frozen BK825.out 0
                have hs54 : w52.cell? ⟨gb825, 1, none⟩ = some (.int .i64 0) := (blk_cell BK825.out 1).trans rfl
                have hfs54 := blk_frozen BK825.out 1
                refine skip_ (w1 := ?_) (by rfl) rfl ?_ ?_
                rotate_left
                ·go_simp
                 rfl
                refine hK.out _ _ ⟨((cell_far (p := ⟨gb825, _, none⟩) (by first | exact Kd.own_blk (Kd.R_away HO_3.out (fun _ hk => hk.2)) | (rw [add_block]; exact Kd.own_blk (Kd.R_away HO_3.out (fun _ hk => hk.2))) | (show (Addr.add _ _).block ≠ _; rw [add_block]; exact Kd.own_blk (Kd.R_away HO_3.out (fun _ hk => hk.2))) | (dsimp only; exact Kd.own_blk (Kd.R_away HO_3.out (fun _ hk => hk.2)))) _).trans (((cell_far (p := ⟨gb825, _, none⟩) (by first | exact Kd.own_blk (Kd.R_away HO_3.out (fun _ hk => hk.2)) | (rw [add_block]; exact Kd.own_blk (Kd.R_away HO_3.out (fun _ hk => hk.2))) | (show (Addr.add _ _).block ≠ _; rw [add_block]; exact Kd.own_blk (Kd.R_away HO_3.out (fun _ hk => hk.2))) | (dsimp only; exact Kd.own_blk (Kd.R_away HO_3.out (fun _ hk => hk.2)))) _).trans (hHeld.1)))), ((cell_far (p := ⟨gb825, _, none⟩) (by first | exact Kd.own_blk (Kd.R_away HO_3.out (fun _ hk => hk.2)) | (rw [add_block]; exact Kd.own_blk (Kd.R_away HO_3.out (fun _ hk => hk.2))) | (show (Addr.add _ _).block ≠ _; rw [add_block]; exact Kd.own_blk (Kd.R_away HO_3.out (fun _ hk => hk.2))) | (dsimp only; exact Kd.own_blk (Kd.R_away HO_3.out (fun _ hk => hk.2)))) _).trans (((cell_far (p := ⟨gb825, _, none⟩) (by first | exact Kd.own_blk (Kd.R_away HO_3.out (fun _ hk => hk.2)) | (rw [add_block]; exact Kd.own_blk (Kd.R_away HO_3.out (fun _ hk => hk.2))) | (show (Addr.add _ _).block ≠ _; rw [add_block]; exact Kd.own_blk (Kd.R_away HO_3.out (fun _ hk => hk.2))) | (dsimp only; exact Kd.own_blk (Kd.R_away HO_3.out (fun _ hk => hk.2)))) _).trans (hHeld.2.1)))), ((cell_far (p := ⟨gb825, _, none⟩) NX825.out _).trans ((cell_far (p := ⟨gb825, _, none⟩) NX825.out _).trans (hHeld.2.2)))⟩ (fun hHeld => ?_)
                clear hK K
                refine done_ (done_of HT_.out (by kernel_rfl)) ?_
                have hnb55 := NB825_0.out
                have hnc55 := NB0_825.out
                have hcz56_0 : w52.cell? ⟨gb825, 0, none⟩ = some (.int .i64 0) := (blk_cell BK825.out 0).trans rfl
                have hcz56_1 : w52.cell? ⟨gb825, 1, none⟩ = some (.int .i64 0) := (blk_cell BK825.out 1).trans rfl
                have hfz56_0 := blk_frozen BK825.out 0
                have hfz56_1 := blk_frozen BK825.out 1
                obtain ⟨Ao57, co57, eo57⟩ := Kd.R_slice HO_5.out
                subst eo57
                try go_wp2_with (first | ((with_reducible refine gate_callee (f := 88) rfl ?_); refine gL_ (some 53) Try.func88 #[.slice Ao57 x5_2.length co57, .agg #[.int .i64 t823, .int .i64 t824]] ?_; (with_reducible refine (spec_l02Index.calls k2 _ _ x5_2 t823 t824 t826 _ ?side1 ?side2 A46.out).mono ?_); (case side1 => refine (Kd.R_reads' (e := 55) (base := w.heap.size) (ok := fun k_ => (some k_ ≠ (.slice (some ad821) t782.length co39 : Value).ownBlock ∧ k_ ≠ gb825)) (n := x5_2.length) (c := co57) ?_).2.2; exact (rS_ (Kd.R_mono (Kd.R_far (p := ⟨gb825, 1, none⟩) (Kd.R_far (p := ⟨gb825, 0, none⟩) (Kd.R_mono HO_5.out (fun k_ hk => (⟨hk, hk.2⟩ : _ ∧ k_ ≠ gb825))) (fun _ hk => hk.2) (.int .i64 t823)) (fun _ hk => hk.2) (.int .i64 t824)) (fun _ h_ => h_.1)))); (case side2 => exact (Kd.R_reads' HO_5.out).2.1); rintro e w58 ⟨rfl, hb⟩; refine ⟨_, rfl, ?_⟩; replace HO_3 := Aside0.mk (Kd.R_below (rS_ (Kd.R_mono (Kd.R_far (p := ⟨gb825, 1, none⟩) (Kd.R_far (p := ⟨gb825, 0, none⟩) (Kd.R_mono HO_3.out (fun k_ hk => (⟨hk, hk.2⟩ : _ ∧ k_ ≠ gb825))) (fun _ hk => hk.2) (.int .i64 t823)) (fun _ hk => hk.2) (.int .i64 t824)) (fun _ h_ => h_.1))) hb); replace HL_3 := Aside0.mk (Kd.V_below (vS_ (Kd.V_mono (Kd.V_far (p := ⟨gb825, 1, none⟩) (Kd.V_far (p := ⟨gb825, 0, none⟩) (Kd.V_mono HL_3.out (fun k_ hk => (⟨hk, hk.2⟩ : _ ∧ k_ ≠ gb825))) (fun _ hk => hk.2) (.int .i64 t823)) (fun _ hk => hk.2) (.int .i64 t824)) (fun _ h_ => h_.1))) hb); replace HO_5 := Aside0.mk (Kd.R_below (rS_ (Kd.R_mono (Kd.R_far (p := ⟨gb825, 1, none⟩) (Kd.R_far (p := ⟨gb825, 0, none⟩) (Kd.R_mono HO_5.out (fun k_ hk => (⟨hk, hk.2⟩ : _ ∧ k_ ≠ gb825))) (fun _ hk => hk.2) (.int .i64 t823)) (fun _ hk => hk.2) (.int .i64 t824)) (fun _ h_ => h_.1))) hb); replace BK825 := Aside0.mk (blk_below (g := gb825) (o := .cells #[.int .i64 t823, .int .i64 t824] 55 (0, 0)) (by (with_reducible repeat (first | refine blk_drewN ?_ _ | refine blk_drew ?_ | refine blk_alloc ?_ _)); refine blk_put (cs := #[.int .i64 t823, .int .i64 0]) ?_ 1 _ rfl; (with_reducible repeat (first | refine blk_drewN ?_ _ | refine blk_drew ?_ | refine blk_alloc ?_ _)); refine blk_put (cs := #[.int .i64 0, .int .i64 0]) ?_ 0 _ rfl; (with_reducible repeat (first | refine blk_drewN ?_ _ | refine blk_drew ?_ | refine blk_alloc ?_ _)); exact BK825.out) hb); replace HK := Aside0.mk (KeepBut.trans (by repeat (first | (with_reducible first | exact HK.out | apply KeepBut.set_ | apply keep_drewN | apply keep_drew | apply keep_alloc | refine keep_far ?_ GW825.out _) | exact HK.out)) (KeepBut.of_below hb g none) (.inl rfl)); replace HB := Aside0.mk (below_step (by repeat (first | (with_reducible first | exact HB.out | apply below_alloc | apply pw_below_drewN | apply below_drew1 | refine below_set ?_ (IsS94.ge HI0.out) | refine below_set ?_ GE825.out) | exact HB.out)) hb); replace HI0 := Aside0.mk (IsS94.below (show IsS94 w0 ((w52.setCell ⟨gb825, 0, none⟩ (.int .i64 t823)).setCell ⟨gb825, 1, none⟩ (.int .i64 t824)) g s0_0 t809 t810 from by repeat (first | (with_reducible first | exact HI0.out | apply IsS94.alloc | apply IsS94.drewN | apply IsS94.drew | apply IsS94.set_1 | apply IsS94.set_2 | refine IsS94.far ?_ NB0_825.out _) | exact HI0.out)) hb); (try clear hb); have hcz59_0 : w58.cell? ⟨gb825, 0, none⟩ = some (.int .i64 t823) := (blk_cell BK825.out 0).trans rfl; have hcz59_1 : w58.cell? ⟨gb825, 1, none⟩ = some (.int .i64 t824) := (blk_cell BK825.out 1).trans rfl; have hfz59_0 := blk_frozen BK825.out 0; have hfz59_1 := blk_frozen BK825.out 1) | ((with_reducible refine gate_builtin (b := .append) (xs := #[.tmp 55, .tmp 57]) rfl ?_); at_builtin; refine Kd.R_append k55 w.heap.size rfl (.tmp 55) (.tmp 57) 27 55 (.agg #[(.int .i64 0), (.int .i64 0)]) 16 rfl Try.underlying27 info55 rfl (by decide) (by omega) (.slice Ao57 x5_2.length co57) x5_2 (⟨t823, t824⟩ : S55) [.int .i64 t823, .int .i64 t824] (fun k_ => some k_ ≠ (.slice (some ad821) t782.length co39 : Value).ownBlock ∧ k_ ≠ gb825) (fun _ => False) rfl rfl ?aP (fun _ hk => hk.elim) ?aF ?aO (Below.refl _ _) ?aS ?aL ?_; (case aP => exact k55_mkM _ _ _ (⟨t823, t824⟩ : S55)); (case aF => exact (fun k_ hk => ⟨Kd.fresh' (Kd.R_lt (rS_ HO_3.out)) k_ hk, Kd.freshB (g := gb825) (o := .cells #[.int .i64 t823, .int .i64 t824] 55 (0, 0)) (by (with_reducible repeat (first | refine blk_drewN ?_ _ | refine blk_drew ?_ | refine blk_alloc ?_ _)); exact BK825.out) k_ hk⟩)); (case aO => exact (rS_ HO_5.out)); (case aS => exact (keep_size (w := w) (g := g) (row := none) (by repeat (first | (with_reducible first | exact HK.out | apply KeepBut.set_ | apply keep_drewN | apply keep_drew | apply keep_alloc | refine keep_far ?_ GW825.out _) | exact HK.out)))); (case aL => have := LMc48.out; omega); intro v828 w60 ho hb hg hat; rw [← Ny827.out] at ho; replace HO_3 := Aside0.mk (Kd.R_after (ok := (fun k_ => k_ ≠ gb825)) (rS_ (Kd.R_mono HO_3.out (fun _ hk => ⟨hk.2, hk.1⟩))) hg hat); replace HL_3 := Aside0.mk (Kd.V_after (ok := (fun k_ => k_ ≠ gb825)) (vS_ (Kd.V_mono HL_3.out (fun _ hk => ⟨hk.2, hk.1⟩))) hg hat); replace BK825 := Aside0.mk (blk_grown (g := gb825) (o := .cells #[.int .i64 t823, .int .i64 t824] 55 (0, 0)) (by (with_reducible repeat (first | refine blk_drewN ?_ _ | refine blk_drew ?_ | refine blk_alloc ?_ _)); exact BK825.out) hg (Kd.R_away HO_5.out (fun _ hk => hk.2))); replace HB := Aside0.mk (below_weaken (by repeat (first | (with_reducible first | exact HB.out | apply below_alloc | apply pw_below_drewN | apply below_drew1 | refine below_set ?_ (IsS94.ge HI0.out) | refine below_set ?_ GE825.out) | exact HB.out)) HL.out hb); replace HI0 := Aside0.mk (IsS94.grown (by repeat (first | (with_reducible first | exact HI0.out | apply IsS94.alloc | apply IsS94.drewN | apply IsS94.drew | apply IsS94.set_1 | apply IsS94.set_2 | refine IsS94.far ?_ NB0_825.out _) | exact HI0.out)) hg (IsS94.own_ne HI0.out HO_5.out (by decide))); replace HK := Aside0.mk (KeepBut.trans (by repeat (first | (with_reducible first | exact HK.out | apply KeepBut.set_ | apply keep_drewN | apply keep_drew | apply keep_alloc | refine keep_far ?_ GW825.out _) | exact HK.out)) (KeepBut.of_grown hg g) (Kd.R_base2 HO_5.out)); have HO829 := Aside0.mk (ho); clear HO_5; clear ho hb hg hat))
                go_roundg k2
                case measure => have := HK1.out; have := HK2.out; omega
                case rel => exact ⟨(y827), (wrap64 (x7_2 + 1)), r3_, H', ⟨by have := HK1.out; have := HK2.out; omega⟩, ⟨rS_ (Kd.R_mono HO_3.out (fun _ hk => hk.2))⟩, ⟨vS_ (Kd.V_mono HL_3.out (fun _ hk => hk.2))⟩, ⟨rS_ (Kd.R_mono HO829.out (fun _ hk => hk.1))⟩, ⟨by repeat (first | (with_reducible first | exact HI0.out | apply IsS94.alloc | apply IsS94.drewN | apply IsS94.drew | apply IsS94.set_1 | apply IsS94.set_2 | refine IsS94.far ?_ NB0_825.out _) | exact HI0.out)⟩, ⟨by repeat (first | (with_reducible first | exact HK.out | apply KeepBut.set_ | apply keep_drewN | apply keep_drew | apply keep_alloc | refine keep_far ?_ GW825.out _) | exact HK.out)⟩, ⟨by repeat (first | (with_reducible first | exact HB.out | apply below_alloc | apply pw_below_drewN | apply below_drew1 | refine below_set ?_ (IsS94.ge HI0.out) | refine below_set ?_ GE825.out) | exact HB.out)⟩⟩
               ·rw [if_neg c48] at H
                exact absurd H (by simp)
              ·rw [if_neg c47] at H
               have c47b0 : decide (t826 < 0) = false := decide_eq_false c47
               clear c47
               have H' := Aside0.mk H
               clear H
               try go_wp2
               replace HO_3 := Aside0.mk (Kd.R_drew HO_3.out)
               replace HL_3 := Aside0.mk (Kd.V_drew HL_3.out)
               replace HO_5 := Aside0.mk (Kd.R_drew HO_5.out)
               replace HI0 := Aside0.mk (IsS94.drew HI0.out)
               replace HK := Aside0.mk (keep_drew HK.out)
               replace HB := Aside0.mk (below_drew1 HB.out)
               have p821 : 0 ≤ (x7_2 : Int) := of_decide_eq_true aS_
               have q821 : x7_2 < (t782.length : Int) := of_decide_eq_true aS_
               obtain ⟨ad821, e821, hx821_0, hx821_1⟩ := at_T55 (Kd.R_reads' HO_3.out).2.2 x7_2 p821 q821
               cases e821
               replace p821 := eq_true p821
               replace q821 := eq_true q821
               have p822 : 0 ≤ (x6_1 : Int) := of_decide_eq_true aS_
               have q822 : x6_1 < ((rd_L4 y805 t808).length : Int) := of_decide_eq_true aS_
               obtain ⟨ad822, e822, hx822_0⟩ := Kd.at_int (Kd.V_reads' HL_3.out).2.2 x6_1 p822 q822
               have hw822_0 := hx822_0
               cases e822
               replace p822 := eq_true p822
               replace q822 := eq_true q822
               refine start_ (n := 11) (S := fun w' => w'.cell? (ad821.add ((x7_2).toNat * 2)) = some (.int .i64 ((rd_T55 t782 x7_2).f0)) ∧ w'.cell? ⟨(ad821.add ((x7_2).toNat * 2)).block, (ad821.add ((x7_2).toNat * 2)).off + 1, none⟩ = some (.int .i64 ((rd_T55 t782 x7_2).f1)) ∧ w'.cell? (ad822.add (x6_1).toNat) = some (.int .i64 (rd (rd_L4 y805 t808) x6_1))) (ds := []) #[F, F, F, F, F, F, F, F, F, F, F] (by kernel_rfl) rfl rfl ⟨hx821_0, hx821_1, hx822_0⟩ (fun hHeld => ?_); refine with_tabW spec_l03DrawEven.tab12 spec_l03DrawEven.bits12 (fun HT_ HW_ => ?_)
               generalize wr.drew = w61 at HO_3 HL_3 HO_5 HI0 HK HB hx821_0 hx821_1 hx822_0 hHeld ⊢
               refine pu_ HT_ 0 (some 42) #[T,F,F,F,F,F,F,F,F,F,F] ?_
               refine pu_ HT_ 1 (some 43) #[T,T,F,F,F,F,F,F,F,F,F] ?_
               refine pu_ HT_ 2 (some 44) #[T,T,T,F,F,F,F,F,F,F,F] ?_
               refine pu_ HT_ 4 (some 46) #[T,T,T,F,T,F,F,F,F,F,F] ?_
               refine pu_ HT_ 5 (some 47) #[T,T,T,F,T,T,F,F,F,F,F] ?_
               refine pu_ HT_ 6 (some 48) #[T,T,T,F,T,T,T,F,F,F,F] ?_
               refine take_ (i := 3) (N := some 45) (v := ?_) (a' := ?_) #[T, T, T, T, T, T, T, F, F, F, F] rfl rfl (take_ofW HT_.out HW_.out (by kernel_rfl)) (fun _ _ _ h => h) (Or.inl ⟨by rfl, ?_⟩) hHeld ?_ ?_
               rotate_left
               ·rintro w' ⟨s0, s1, s2⟩
                go_simp
                with_reducible rfl
               rotate_left
               ·simp only [Act.put, List.setIfInBounds_toArray, List.set_cons_zero, List.set_cons_succ, i64_w, i32_w]
                rfl
               refine take_ (i := 7) (N := some 49) (v := ?_) (a' := ?_) #[T, T, T, T, T, T, T, T, F, F, F] rfl rfl (take_ofW HT_.out HW_.out (by kernel_rfl)) (fun _ _ _ h => h) (Or.inl ⟨by rfl, ?_⟩) hHeld ?_ ?_
               rotate_left
               ·rintro w' ⟨s0, s1, s2⟩
                go_simp
                with_reducible rfl
               rotate_left
               ·simp only [Act.put, List.setIfInBounds_toArray, List.set_cons_zero, List.set_cons_succ, i64_w, i32_w]
                rfl
               refine join_ (σ := Nat) 1 #[T, T, T, T, T, T, T, T, T, T, F] (fun s_ => [(50, .agg #[.int .i64 t823, .int .i64 t824]), (8, .pointer (some ⟨s_, 0, none⟩))]) (fun s_ w' => (w'.cell? (ad821.add ((x7_2).toNat * 2)) = some (.int .i64 ((rd_T55 t782 x7_2).f0)) ∧ w'.cell? ⟨(ad821.add ((x7_2).toNat * 2)).block, (ad821.add ((x7_2).toNat * 2)).off + 1, none⟩ = some (.int .i64 ((rd_T55 t782 x7_2).f1)) ∧ w'.cell? (ad822.add (x6_1).toNat) = some (.int .i64 (rd (rd_L4 y805 t808) x6_1))) ∧ (Kd.R k55 55 w' w.heap.size (fun k_ => some k_ ≠ (u5 : Value).ownBlock ∧ k_ ≠ s_) (.slice (some ad821) t782.length co39) t782) ∧ (Kd.V (Kd.int .i64) 2 w' w.heap.size (fun k_ => some k_ ≠ (u5 : Value).ownBlock ∧ k_ ≠ s_) (.slice (some ad822) (rd_L4 y805 t808).length c811_0) (rd_L4 y805 t808)) ∧ (Kd.R k55 55 w' w.heap.size (fun k_ => some k_ ≠ (.slice (some ad821) t782.length co39 : Value).ownBlock ∧ k_ ≠ s_) u5 x5_2) ∧ (w'.heap[s_]? = some (.cells #[.int .i64 0, .int .i64 0] 55 (0, 0))) ∧ (w.heap.size ≤ s_) ∧ (w0.heap.size ≤ s_) ∧ (g ≠ s_) ∧ (s_ ≠ g) ∧ ((ad822.add (x6_1).toNat).block ≠ s_) ∧ (IsS94 w0 w' g s0_0 t809 t810) ∧ (KeepBut w w' g none) ∧ (Below w0.heap.size w0 w')) ?_ ?_
               rotate_left
               ·intro hCont
                refine two_ (i := 8) (j := 9) (Ni := some 50) (Nj := some 8) #[T, T, T, T, T, T, T, T, T, F, F] #[T, T, T, T, T, T, T, T, F, T, F] rfl rfl rfl rfl (two_of HT_.out (by kernel_rfl)) (by decide) (by decide) (fun K hK => ?_) (fun K hK => ?_)
                ·skip
                 refine goes_ Try.func96 (by kernel_rfl) rfl #[.agg #[.int .i64 ((rd_T55 t782 x7_2).f0), .int .i64 ((rd_T55 t782 x7_2).f1)], .int .i64 (rd (rd_L4 y805 t808) x6_1)] (by rfl) rfl rfl mA_ ?_
                 with_reducible refine (spec_l03Turn.calls k2 ((rd_T55 t782 x7_2).f0) ((rd_T55 t782 x7_2).f1) (rd (rd_L4 y805 t808) x6_1) t823 t824 _ A45.out).mono ?_
                 rintro e w62 ⟨rfl, hb⟩
                 have HS0_ := (hb.cell (World.block_lt_of_cell? _ _ (hHeld.1))).trans (hHeld.1)
                 have HS1_ := (hb.cell (World.block_lt_of_cell? _ _ (hHeld.2.1))).trans (hHeld.2.1)
                 have HS2_ := (hb.cell (World.block_lt_of_cell? _ _ (hHeld.2.2))).trans (hHeld.2.2)
                 refine ⟨_, rfl, ?_⟩
                 replace HO_3 := Aside0.mk (Kd.R_below (rS_ HO_3.out) hb)
                 replace HL_3 := Aside0.mk (Kd.V_below (vS_ HL_3.out) hb)
                 replace HO_5 := Aside0.mk (Kd.R_below (rS_ HO_5.out) hb)
                 replace HK := Aside0.mk (KeepBut.trans kK_ (KeepBut.of_below hb g none) (.inl rfl))
                 replace HB := Aside0.mk (below_step bS94_ hb)
                 replace HI0 := Aside0.mk (IsS94.below iS94_ hb)
                 (try clear hb)
                 refine hK.out _ _ ⟨HS0_, HS1_, HS2_⟩ (fun hHeld => ?_)
                 clear hK K
                 refine no_ (some 50) ?_
                 refine one_ (i := 9) (N := some 8) #[T, T, T, T, T, T, T, T, T, T, F] rfl rfl (one_of HT_.out (by kernel_rfl)) (by decide) (fun K hK => ?_)
                 refine box_step ?hg (N := 8) ?hd (cs := #[.int .i64 0, .int .i64 0]) (t := 55) ?hr ?_; (case hd => rfl); (case hg => rfl); (case hr => first | (go_simp; done) | (go_simp; rfl))
                 intro gb825 hg w63 hbox hb
                 have NX825 := Aside0.mk ((by rw [hg]; exact Nat.ne_of_lt (World.block_lt_of_cell? _ _ hHeld.2.2)) : (ad822.add (x6_1).toNat).block ≠ gb825)
                 have HS0_ := (hb.cell (World.block_lt_of_cell? _ _ (hHeld.1))).trans (hHeld.1)
                 have HS1_ := (hb.cell (World.block_lt_of_cell? _ _ (hHeld.2.1))).trans (hHeld.2.1)
                 have HS2_ := (hb.cell (World.block_lt_of_cell? _ _ (hHeld.2.2))).trans (hHeld.2.2)
                 replace HO_3 := Aside0.mk (Kd.R_below (Kd.R_elderB (rS_ HO_3.out) gb825 (Nat.le_of_eq hg.symm)) hb)
                 replace HL_3 := Aside0.mk (Kd.V_below (Kd.V_elderB (vS_ HL_3.out) gb825 (Nat.le_of_eq hg.symm)) hb)
                 replace HO_5 := Aside0.mk (Kd.R_below (Kd.R_elderB (rS_ HO_5.out) gb825 (Nat.le_of_eq hg.symm)) hb)
                 replace HB := Aside0.mk (below_step bS94_ hb)
                 have BK825 := Aside0.mk (hbox)
                 have GW825 := Aside0.mk ((by rw [hg]; exact (keep_size (w := w) (g := g) (row := none) kK_) : w.heap.size ≤ gb825))
                 have GE825 := Aside0.mk ((Nat.le_trans HW0.out (by rw [hg]; exact (keep_size (w := w) (g := g) (row := none) kK_) : w.heap.size ≤ gb825) : w0.heap.size ≤ gb825))
                 replace HK := Aside0.mk (KeepBut.trans kK_ (KeepBut.of_below hb g none) (.inl rfl))
                 have NB0_825 := Aside0.mk ((by rw [hg]; exact Nat.ne_of_lt (IsS94.lt (show IsS94 w0 _ g s0_0 t809 t810 from iS94_)) : g ≠ gb825))
                 have NB825_0 := Aside0.mk ((by rw [hg]; exact Nat.ne_of_gt (IsS94.lt (show IsS94 w0 _ g s0_0 t809 t810 from iS94_)) : gb825 ≠ g))
                 replace HI0 := Aside0.mk (IsS94.below iS94_ hb)
                 clear hb hbox hg
                 refine hK.out _ _ ⟨HS0_, HS1_, HS2_⟩ (fun hHeld => ?_)
                 clear hK K
                 refine no_ (some 8) ?_
                 exact norm_ (by simp only [putAll, Act.put, List.setIfInBounds_toArray, List.set_cons_zero, List.set_cons_succ]) (hCont (gb825) _ ⟨hHeld, (rS_ HO_3.out), (vS_ HL_3.out), (rS_ HO_5.out), (by (with_reducible repeat (first | refine blk_drewN ?_ _ | refine blk_drew ?_ | refine blk_alloc ?_ _)); exact BK825.out), GW825.out, GE825.out, NB0_825.out, NB825_0.out, NX825.out, (by repeat (first | (with_reducible first | exact HI0.out | apply IsS94.alloc | apply IsS94.drewN | apply IsS94.drew | apply IsS94.set_1 | apply IsS94.set_2 | refine IsS94.far ?_ NB0_825.out _) | exact HI0.out)), (by repeat (first | (with_reducible first | exact HK.out | apply KeepBut.set_ | apply keep_drewN | apply keep_drew | apply keep_alloc | refine keep_far ?_ GW825.out _) | exact HK.out)), (by repeat (first | (with_reducible first | exact HB.out | apply below_alloc | apply pw_below_drewN | apply below_drew1 | refine below_set ?_ (IsS94.ge HI0.out) | refine below_set ?_ GE825.out) | exact HB.out))⟩)
                ·skip
                 refine box_step ?hg (N := 8) ?hd (cs := #[.int .i64 0, .int .i64 0]) (t := 55) ?hr ?_; (case hd => rfl); (case hg => rfl); (case hr => first | (go_simp; done) | (go_simp; rfl))
                 intro gb825 hg w62 hbox hb
                 have NX825 := Aside0.mk ((by rw [hg]; exact Nat.ne_of_lt (World.block_lt_of_cell? _ _ hHeld.2.2)) : (ad822.add (x6_1).toNat).block ≠ gb825)
                 have HS0_ := (hb.cell (World.block_lt_of_cell? _ _ (hHeld.1))).trans (hHeld.1)
                 have HS1_ := (hb.cell (World.block_lt_of_cell? _ _ (hHeld.2.1))).trans (hHeld.2.1)
                 have HS2_ := (hb.cell (World.block_lt_of_cell? _ _ (hHeld.2.2))).trans (hHeld.2.2)
                 replace HO_3 := Aside0.mk (Kd.R_below (Kd.R_elderB (rS_ HO_3.out) gb825 (Nat.le_of_eq hg.symm)) hb)
                 replace HL_3 := Aside0.mk (Kd.V_below (Kd.V_elderB (vS_ HL_3.out) gb825 (Nat.le_of_eq hg.symm)) hb)
                 replace HO_5 := Aside0.mk (Kd.R_below (Kd.R_elderB (rS_ HO_5.out) gb825 (Nat.le_of_eq hg.symm)) hb)
                 replace HB := Aside0.mk (below_step bS94_ hb)
                 have BK825 := Aside0.mk (hbox)
                 have GW825 := Aside0.mk ((by rw [hg]; exact (keep_size (w := w) (g := g) (row := none) kK_) : w.heap.size ≤ gb825))
                 have GE825 := Aside0.mk ((Nat.le_trans HW0.out (by rw [hg]; exact (keep_size (w := w) (g := g) (row := none) kK_) : w.heap.size ≤ gb825) : w0.heap.size ≤ gb825))
                 replace HK := Aside0.mk (KeepBut.trans kK_ (KeepBut.of_below hb g none) (.inl rfl))
                 have NB0_825 := Aside0.mk ((by rw [hg]; exact Nat.ne_of_lt (IsS94.lt (show IsS94 w0 _ g s0_0 t809 t810 from iS94_)) : g ≠ gb825))
                 have NB825_0 := Aside0.mk ((by rw [hg]; exact Nat.ne_of_gt (IsS94.lt (show IsS94 w0 _ g s0_0 t809 t810 from iS94_)) : gb825 ≠ g))
                 replace HI0 := Aside0.mk (IsS94.below iS94_ hb)
                 clear hb hbox hg
                 refine hK.out _ _ ⟨HS0_, HS1_, HS2_⟩ (fun hHeld => ?_)
                 clear hK K
                 refine no_ (some 8) ?_
                 refine one_ (i := 8) (N := some 50) #[T, T, T, T, T, T, T, T, T, T, F] rfl rfl (one_of HT_.out (by kernel_rfl)) (by decide) (fun K hK => ?_)
                 refine goes_ Try.func96 (by kernel_rfl) rfl #[.agg #[.int .i64 ((rd_T55 t782 x7_2).f0), .int .i64 ((rd_T55 t782 x7_2).f1)], .int .i64 (rd (rd_L4 y805 t808) x6_1)] (by rfl) rfl rfl mA_ ?_
                 with_reducible refine (spec_l03Turn.calls k2 ((rd_T55 t782 x7_2).f0) ((rd_T55 t782 x7_2).f1) (rd (rd_L4 y805 t808) x6_1) t823 t824 _ A45.out).mono ?_
                 rintro e w63 ⟨rfl, hb⟩
                 have HS0_ := (hb.cell (World.block_lt_of_cell? _ _ (hHeld.1))).trans (hHeld.1)
                 have HS1_ := (hb.cell (World.block_lt_of_cell? _ _ (hHeld.2.1))).trans (hHeld.2.1)
                 have HS2_ := (hb.cell (World.block_lt_of_cell? _ _ (hHeld.2.2))).trans (hHeld.2.2)
                 refine ⟨_, rfl, ?_⟩
                 replace HO_3 := Aside0.mk (Kd.R_below (rS_ HO_3.out) hb)
                 replace HL_3 := Aside0.mk (Kd.V_below (vS_ HL_3.out) hb)
                 replace HO_5 := Aside0.mk (Kd.R_below (rS_ HO_5.out) hb)
                 replace BK825 := Aside0.mk (blk_below (g := gb825) (o := .cells #[.int .i64 0, .int .i64 0] 55 (0, 0)) (by (with_reducible repeat (first | refine blk_drewN ?_ _ | refine blk_drew ?_ | refine blk_alloc ?_ _)); exact BK825.out) hb)
                 replace HK := Aside0.mk (KeepBut.trans (by repeat (first | (with_reducible first | exact HK.out | apply KeepBut.set_ | apply keep_drewN | apply keep_drew | apply keep_alloc | refine keep_far ?_ GW825.out _) | exact HK.out)) (KeepBut.of_below hb g none) (.inl rfl))
                 replace HB := Aside0.mk (below_step (by repeat (first | (with_reducible first | exact HB.out | apply below_alloc | apply pw_below_drewN | apply below_drew1 | refine below_set ?_ (IsS94.ge HI0.out) | refine below_set ?_ GE825.out) | exact HB.out)) hb)
                 replace HI0 := Aside0.mk (IsS94.below (by repeat (first | (with_reducible first | exact HI0.out | apply IsS94.alloc | apply IsS94.drewN | apply IsS94.drew | apply IsS94.set_1 | apply IsS94.set_2 | refine IsS94.far ?_ NB0_825.out _) | exact HI0.out)) hb)
                 (try clear hb)
                 refine hK.out _ _ ⟨HS0_, HS1_, HS2_⟩ (fun hHeld => ?_)
                 clear hK K
                 refine no_ (some 50) ?_
                 exact norm_ (by simp only [putAll, Act.put, List.setIfInBounds_toArray, List.set_cons_zero, List.set_cons_succ]) (hCont (gb825) _ ⟨hHeld, (rS_ HO_3.out), (vS_ HL_3.out), (rS_ HO_5.out), (by (with_reducible repeat (first | refine blk_drewN ?_ _ | refine blk_drew ?_ | refine blk_alloc ?_ _)); exact BK825.out), GW825.out, GE825.out, NB0_825.out, NB825_0.out, NX825.out, (by repeat (first | (with_reducible first | exact HI0.out | apply IsS94.alloc | apply IsS94.drewN | apply IsS94.drew | apply IsS94.set_1 | apply IsS94.set_2 | refine IsS94.far ?_ NB0_825.out _) | exact HI0.out)), (by repeat (first | (with_reducible first | exact HK.out | apply KeepBut.set_ | apply keep_drewN | apply keep_drew | apply keep_alloc | refine keep_far ?_ GW825.out _) | exact HK.out)), (by repeat (first | (with_reducible first | exact HB.out | apply below_alloc | apply pw_below_drewN | apply below_drew1 | refine below_set ?_ (IsS94.ge HI0.out) | refine below_set ?_ GE825.out) | exact HB.out))⟩)
               rintro gb825 w64 ⟨hS_, h0_, hv_, h1_, h2_, h3_, h4_, h5_, h6_, hx_, h7_, h8_, h9_⟩
               have nv_ : Aside0 (Kd.V (Kd.int .i64) 2 w64 w.heap.size (fun k_ => some k_ ≠ (u5 : Value).ownBlock ∧ k_ ≠ gb825) (.slice (some ad822) (rd_L4 y805 t808).length c811_0) (rd_L4 y805 t808)) := ⟨hv_⟩
               have NX825 : Aside0 ((ad822.add (x6_1).toNat).block ≠ gb825) := ⟨hx_⟩
               have n0_ : Aside0 (Kd.R k55 55 w64 w.heap.size (fun k_ => some k_ ≠ (u5 : Value).ownBlock ∧ k_ ≠ gb825) (.slice (some ad821) t782.length co39) t782) := ⟨h0_⟩
               have n1_ : Aside0 (Kd.R k55 55 w64 w.heap.size (fun k_ => some k_ ≠ (.slice (some ad821) t782.length co39 : Value).ownBlock ∧ k_ ≠ gb825) u5 x5_2) := ⟨h1_⟩
               have n2_ : Aside0 (w64.heap[gb825]? = some (.cells #[.int .i64 0, .int .i64 0] 55 (0, 0))) := ⟨h2_⟩
               have n3_ : Aside0 (w.heap.size ≤ gb825) := ⟨h3_⟩
               have n4_ : Aside0 (w0.heap.size ≤ gb825) := ⟨h4_⟩
               have n5_ : Aside0 (g ≠ gb825) := ⟨h5_⟩
               have n6_ : Aside0 (gb825 ≠ g) := ⟨h6_⟩
               have n7_ : Aside0 (IsS94 w0 w64 g s0_0 t809 t810) := ⟨h7_⟩
               have n8_ : Aside0 (KeepBut w w64 g none) := ⟨h8_⟩
               have n9_ : Aside0 (Below w0.heap.size w0 w64) := ⟨h9_⟩
               clear HO_3
               clear HO_5
               clear HI0
               clear HK
               clear HB
               clear HL_3 hv_ hx_
               clear h0_ h1_ h2_ h3_ h4_ h5_ h6_ h7_ h8_ h9_
               have HO_3 := n0_
               have HL_3 := nv_
               clear nv_
               have HO_5 := n1_
               have BK825 := n2_
               have GW825 := n3_
               have GE825 := n4_
               have NB0_825 := n5_
               have NB825_0 := n6_
               have HI0 := n7_
               have HK := n8_
               have HB := n9_
               clear n0_ n1_ n2_ n3_ n4_ n5_ n6_ n7_ n8_ n9_
               have hHeld : w64.cell? (ad821.add ((x7_2).toNat * 2)) = some (.int .i64 ((rd_T55 t782 x7_2).f0)) ∧ w64.cell? ⟨(ad821.add ((x7_2).toNat * 2)).block, (ad821.add ((x7_2).toNat * 2)).off + 1, none⟩ = some (.int .i64 ((rd_T55 t782 x7_2).f1)) ∧ w64.cell? (ad822.add (x6_1).toNat) = some (.int .i64 (rd (rd_L4 y805 t808) x6_1)) := hS_
               refine norm_ (a' := ?_) ?_ ?_
               rotate_left
               ·simp only [putAll, Act.put, List.setIfInBounds_toArray, List.set_cons_zero, List.set_cons_succ]
                rfl
               refine one_ (i := 10) (N := none) #[T, T, T, T, T, T, T, T, T, T, T] rfl rfl (one_of HT_.out (by kernel_rfl)) (by decide) (fun K hK => ?_)
               have hs65 : w64.cell? ⟨gb825, 0, none⟩ = some (.int .i64 0) := (blk_cell BK825.out 0).trans rfl
               have hfs65 := blk_frozen BK825.out 0
               have hs66 : w64.cell? ⟨gb825, 1, none⟩ = some (.int .i64 0) := (blk_cell BK825.out 1).trans rfl
               have hfs66 := blk_frozen BK825.out 1
               refine skip_ (w1 := ?_) (by rfl) rfl ?_ ?_
               rotate_left
               ·go_simp
                rfl
               refine hK.out _ _ ⟨((cell_far (p := ⟨gb825, _, none⟩) (by first | exact Kd.own_blk (Kd.R_away HO_3.out (fun _ hk => hk.2)) | (rw [add_block]; exact Kd.own_blk (Kd.R_away HO_3.out (fun _ hk => hk.2))) | (show (Addr.add _ _).block ≠ _; rw [add_block]; exact Kd.own_blk (Kd.R_away HO_3.out (fun _ hk => hk.2))) | (dsimp only; exact Kd.own_blk (Kd.R_away HO_3.out (fun _ hk => hk.2)))) _).trans (((cell_far (p := ⟨gb825, _, none⟩) (by first | exact Kd.own_blk (Kd.R_away HO_3.out (fun _ hk => hk.2)) | (rw [add_block]; exact Kd.own_blk (Kd.R_away HO_3.out (fun _ hk => hk.2))) | (show (Addr.add _ _).block ≠ _; rw [add_block]; exact Kd.own_blk (Kd.R_away HO_3.out (fun _ hk => hk.2))) | (dsimp only; exact Kd.own_blk (Kd.R_away HO_3.out (fun _ hk => hk.2)))) _).trans (hHeld.1)))), ((cell_far (p := ⟨gb825, _, none⟩) (by first | exact Kd.own_blk (Kd.R_away HO_3.out (fun _ hk => hk.2)) | (rw [add_block]; exact Kd.own_blk (Kd.R_away HO_3.out (fun _ hk => hk.2))) | (show (Addr.add _ _).block ≠ _; rw [add_block]; exact Kd.own_blk (Kd.R_away HO_3.out (fun _ hk => hk.2))) | (dsimp only; exact Kd.own_blk (Kd.R_away HO_3.out (fun _ hk => hk.2)))) _).trans (((cell_far (p := ⟨gb825, _, none⟩) (by first | exact Kd.own_blk (Kd.R_away HO_3.out (fun _ hk => hk.2)) | (rw [add_block]; exact Kd.own_blk (Kd.R_away HO_3.out (fun _ hk => hk.2))) | (show (Addr.add _ _).block ≠ _; rw [add_block]; exact Kd.own_blk (Kd.R_away HO_3.out (fun _ hk => hk.2))) | (dsimp only; exact Kd.own_blk (Kd.R_away HO_3.out (fun _ hk => hk.2)))) _).trans (hHeld.2.1)))), ((cell_far (p := ⟨gb825, _, none⟩) NX825.out _).trans ((cell_far (p := ⟨gb825, _, none⟩) NX825.out _).trans (hHeld.2.2)))⟩ (fun hHeld => ?_)
               clear hK K
               refine done_ (done_of HT_.out (by kernel_rfl)) ?_
               have hnb67 := NB825_0.out
               have hnc67 := NB0_825.out
               have hcz68_0 : w64.cell? ⟨gb825, 0, none⟩ = some (.int .i64 0) := (blk_cell BK825.out 0).trans rfl
               have hcz68_1 : w64.cell? ⟨gb825, 1, none⟩ = some (.int .i64 0) := (blk_cell BK825.out 1).trans rfl
               have hfz68_0 := blk_frozen BK825.out 0
               have hfz68_1 := blk_frozen BK825.out 1
               obtain ⟨Ao69, co69, eo69⟩ := Kd.R_slice HO_5.out
               subst eo69
               try go_wp2_with (first | ((with_reducible refine gate_callee (f := 88) rfl ?_); refine gL_ (some 53) Try.func88 #[.slice Ao69 x5_2.length co69, .agg #[.int .i64 t823, .int .i64 t824]] ?_; (with_reducible refine (spec_l02Index.calls k2 _ _ x5_2 t823 t824 t826 _ ?side1 ?side2 A46.out).mono ?_); (case side1 => refine (Kd.R_reads' (e := 55) (base := w.heap.size) (ok := fun k_ => (some k_ ≠ (.slice (some ad821) t782.length co39 : Value).ownBlock ∧ k_ ≠ gb825)) (n := x5_2.length) (c := co69) ?_).2.2; exact (rS_ (Kd.R_mono (Kd.R_far (p := ⟨gb825, 1, none⟩) (Kd.R_far (p := ⟨gb825, 0, none⟩) (Kd.R_mono HO_5.out (fun k_ hk => (⟨hk, hk.2⟩ : _ ∧ k_ ≠ gb825))) (fun _ hk => hk.2) (.int .i64 t823)) (fun _ hk => hk.2) (.int .i64 t824)) (fun _ h_ => h_.1)))); (case side2 => exact (Kd.R_reads' HO_5.out).2.1); rintro e w70 ⟨rfl, hb⟩; refine ⟨_, rfl, ?_⟩; replace HO_3 := Aside0.mk (Kd.R_below (rS_ (Kd.R_mono (Kd.R_far (p := ⟨gb825, 1, none⟩) (Kd.R_far (p := ⟨gb825, 0, none⟩) (Kd.R_mono HO_3.out (fun k_ hk => (⟨hk, hk.2⟩ : _ ∧ k_ ≠ gb825))) (fun _ hk => hk.2) (.int .i64 t823)) (fun _ hk => hk.2) (.int .i64 t824)) (fun _ h_ => h_.1))) hb); replace HL_3 := Aside0.mk (Kd.V_below (vS_ (Kd.V_mono (Kd.V_far (p := ⟨gb825, 1, none⟩) (Kd.V_far (p := ⟨gb825, 0, none⟩) (Kd.V_mono HL_3.out (fun k_ hk => (⟨hk, hk.2⟩ : _ ∧ k_ ≠ gb825))) (fun _ hk => hk.2) (.int .i64 t823)) (fun _ hk => hk.2) (.int .i64 t824)) (fun _ h_ => h_.1))) hb); replace HO_5 := Aside0.mk (Kd.R_below (rS_ (Kd.R_mono (Kd.R_far (p := ⟨gb825, 1, none⟩) (Kd.R_far (p := ⟨gb825, 0, none⟩) (Kd.R_mono HO_5.out (fun k_ hk => (⟨hk, hk.2⟩ : _ ∧ k_ ≠ gb825))) (fun _ hk => hk.2) (.int .i64 t823)) (fun _ hk => hk.2) (.int .i64 t824)) (fun _ h_ => h_.1))) hb); replace BK825 := Aside0.mk (blk_below (g := gb825) (o := .cells #[.int .i64 t823, .int .i64 t824] 55 (0, 0)) (by (with_reducible repeat (first | refine blk_drewN ?_ _ | refine blk_drew ?_ | refine blk_alloc ?_ _)); refine blk_put (cs := #[.int .i64 t823, .int .i64 0]) ?_ 1 _ rfl; (with_reducible repeat (first | refine blk_drewN ?_ _ | refine blk_drew ?_ | refine blk_alloc ?_ _)); refine blk_put (cs := #[.int .i64 0, .int .i64 0]) ?_ 0 _ rfl; (with_reducible repeat (first | refine blk_drewN ?_ _ | refine blk_drew ?_ | refine blk_alloc ?_ _)); exact BK825.out) hb); replace HK := Aside0.mk (KeepBut.trans (by repeat (first | (with_reducible first | exact HK.out | apply KeepBut.set_ | apply keep_drewN | apply keep_drew | apply keep_alloc | refine keep_far ?_ GW825.out _) | exact HK.out)) (KeepBut.of_below hb g none) (.inl rfl)); replace HB := Aside0.mk (below_step (by repeat (first | (with_reducible first | exact HB.out | apply below_alloc | apply pw_below_drewN | apply below_drew1 | refine below_set ?_ (IsS94.ge HI0.out) | refine below_set ?_ GE825.out) | exact HB.out)) hb); replace HI0 := Aside0.mk (IsS94.below (show IsS94 w0 ((w64.setCell ⟨gb825, 0, none⟩ (.int .i64 t823)).setCell ⟨gb825, 1, none⟩ (.int .i64 t824)) g s0_0 t809 t810 from by repeat (first | (with_reducible first | exact HI0.out | apply IsS94.alloc | apply IsS94.drewN | apply IsS94.drew | apply IsS94.set_1 | apply IsS94.set_2 | refine IsS94.far ?_ NB0_825.out _) | exact HI0.out)) hb); (try clear hb)))
               go_roundg k2
               case measure => have := HK1.out; have := HK2.out; omega
               case rel => exact ⟨(x5_2), (wrap64 (x7_2 + 1)), r3_, H', ⟨by have := HK1.out; have := HK2.out; omega⟩, ⟨rS_ (Kd.R_mono HO_3.out (fun _ hk => hk.1))⟩, ⟨vS_ (Kd.V_mono HL_3.out (fun _ hk => hk.1))⟩, ⟨rS_ (Kd.R_mono HO_5.out (fun _ hk => hk.1))⟩, ⟨by repeat (first | (with_reducible first | exact HI0.out | apply IsS94.alloc | apply IsS94.drewN | apply IsS94.drew | apply IsS94.set_1 | apply IsS94.set_2 | refine IsS94.far ?_ NB0_825.out _) | exact HI0.out)⟩, ⟨by repeat (first | (with_reducible first | exact HK.out | apply KeepBut.set_ | apply keep_drewN | apply keep_drew | apply keep_alloc | refine keep_far ?_ GW825.out _) | exact HK.out)⟩, ⟨by repeat (first | (with_reducible first | exact HB.out | apply below_alloc | apply pw_below_drewN | apply below_drew1 | refine below_set ?_ (IsS94.ge HI0.out) | refine below_set ?_ GE825.out) | exact HB.out)⟩⟩
             ·rw [if_neg c44] at H
              exact absurd H (by simp)
            ·rw [if_neg c43] at H
             exact absurd H (by simp)
           ·rw [if_neg c42] at H
            exact absurd H (by simp)
          ·rw [if_neg c41] at H
           have c41b0 : decide (x7_2 < (t782.length : Int)) = false := decide_eq_false c41
           clear c41
           have H' := Aside0.mk H
           clear H
           go_wp2
           go_roundg k2
           case measure => have := HK1.out; have := HK2.out; omega
           case rel => exact ⟨(x5_2), (wrap64 (x6_1 + 1)), r3_, H', ⟨by have := HK1.out; have := HK2.out; omega⟩, ⟨rS_ HO_3.out⟩, ⟨vS_ HL_3.out⟩, ⟨rS_ HO_5.out⟩, ⟨iS94_⟩, ⟨kK_⟩, ⟨bS94_⟩⟩
       ·rw [if_neg c40] at H
        have c40b0 : decide (x6_1 < ((rd_L4 y805 t808).length : Int)) = false := decide_eq_false c40
        clear c40
        replace H := Option.bind_eq_some_iff.mp H
        obtain ⟨t818, A710, H⟩ := H
        try dsimp only at H
        have A71 := Aside0.mk A710
        clear A710
        simp only [Option.some.injEq, Prod.mk.injEq] at H
        obtain ⟨rfl, rfl, rfl⟩ := H
        obtain ⟨Ao72, co72, eo72⟩ := Kd.R_slice HO_5.out
        subst eo72
        go_wp2_with (first | ((with_reducible refine gate_callee (f := 97) rfl ?_); refine gL_ (some 60) Try.func97 #[.slice Ao72 x5_1.length co72] ?_; (with_reducible refine (spec_l02Sort.calls k1 _ _ x5_1 t818 _ ?side1 ?side2 A71.out).mono ?_); (case side1 => exact cS_ ((Kd.R_reads' HO_5.out).2.2)); (case side2 => exact (Kd.R_reads' HO_5.out).2.1); rintro e w73 ⟨v819, rfl, ho0, hb⟩; refine ⟨_, rfl, ?_⟩; have HO820 := Aside0.mk (Kd.R_lower (Kd.R_new' (Kd.R_new' ho0 (Kd.R_lt (rS_ HO_3.out))) (Kd.R_lt (rS_ HO_5.out))) (keep_size (w := w) (g := g) (row := none) kK_)); replace HO_3 := Aside0.mk (Kd.R_elder' (rS_ HO_3.out) (Kd.R_base ho0) hb); replace HO_5 := Aside0.mk (Kd.R_elder' (rS_ HO_5.out) (Kd.R_base ho0) hb); replace HK := Aside0.mk (KeepBut.trans kK_ (KeepBut.of_below hb g none) (.inl rfl)); replace HB := Aside0.mk (below_step bS94_ hb); replace HI0 := Aside0.mk (IsS94.below iS94_ hb); (try clear hb ho0)))
        go_ret
        exact ⟨_, r2_, rS_ (Kd.R_mono HO820.out (fun _ hk => trivial)), iS94_, bS94_, kK_⟩
    ·rw [if_neg c11] at H
     exact absurd H (by simp)
   ·rw [if_neg c10] at H
    exact absurd H (by simp)
  ·rw [if_neg c9] at H
   exact absurd H (by simp)


/-! ### spec_DrawSymmetriesOf: function 20 -/
def spec_DrawSymmetriesOf.f (k : Nat) (l0 : List Int) : Option ((List (S55))) := (spec_l01From.f k l0).bind fun bt776 => ((spec_l03DrawEven.f k bt776.1 bt776.2.1 bt776.2.2).bind fun bt780 => (some bt780.1))
theorem spec_DrawSymmetriesOf.mono : ∀ a0 k, LeO (spec_DrawSymmetriesOf.f k a0) (spec_DrawSymmetriesOf.f (k + 1) a0) := by
 intro a0 k
 unfold spec_DrawSymmetriesOf.f
 repeat' first
   | (with_reducible exact spec_l01From.mono _ _)
   | (with_reducible exact spec_l03DrawEven.mono _ _ _ _)
   | (with_reducible exact LeO.refl _)
   | (with_reducible exact LeO.none _)
   | (with_reducible refine LeO.ite ?_ ?_)
   | (with_reducible refine LeO.bind ?_ (fun _ => ?_))
   | exact spec_l01From.mono _ _
   | exact spec_l03DrawEven.mono _ _ _ _
   | exact LeO.none _
   | refine LeO.ite ?_ ?_
   | refine LeO.bind ?_ (fun _ => ?_)
set_option maxHeartbeats 8000000 in
set_option maxRecDepth 100000 in
theorem spec_DrawSymmetriesOf.calls (k : Nat) (A0 : Option Addr) (c0 : Nat) (l0 : List Int) (r : List (S55)) (w : World) (hr0 : Kd.C (Kd.int .u8) w A0 l0.length l0) (hc0 : l0.length ≤ c0) (h : spec_DrawSymmetriesOf.f k l0 = some r) :
  Calls Try.prog 20 #[.slice A0 l0.length c0] w fun e w' => ∃ v0_ : Value, e = .returned (v0_) ∧ Kd.R k55 55 w' w.heap.size (fun _ => True) v0_ r ∧ Below w.heap.size w w' := by
 have HR0 := Aside0.mk hr0
 have HC0 := Aside0.mk hc0
 clear hr0 hc0
 have HB := Aside0.mk (Below.refl w.heap.size w)
 have H : ((spec_l01From.f k l0).bind fun bt776 => ((spec_l03DrawEven.f k bt776.1 bt776.2.1 bt776.2.2).bind fun bt780 => (some bt780.1))) = some r := h
 clear h
 replace H := Option.bind_eq_some_iff.mp H
 obtain ⟨⟨t776, t777, t778⟩, A20, H⟩ := H
 try dsimp only at H
 have A2 := Aside0.mk A20
 clear A20
 replace H := Option.bind_eq_some_iff.mp H
 obtain ⟨⟨t780, t783, t784⟩, A30, H⟩ := H
 try dsimp only at H
 have A3 := Aside0.mk A30
 clear A30
 obtain rfl := Option.some.inj H
 go_enter Try.func20, Try.ntmps20
 go_wp2_with (first | ((with_reducible refine gate_callee (f := 59) rfl ?_); refine gL_ (some 4) Try.func59 #[.slice A0 l0.length c0] ?_; (with_reducible refine (spec_l01From.calls k _ _ l0 t776 t777 t778 w _ ?side1 ?side2 ?side3 A2.out).mono ?_); (case side1 => repeat (first | (with_reducible first | exact HB.out | apply below_alloc | apply pw_below_drewN | apply below_drew1) | exact HB.out)); (case side2 => exact HR0.out); (case side3 => exact HC0.out); rintro e w4 ⟨g779, rfl, hi, hb, hb2⟩; refine ⟨_, rfl, ?_⟩; replace HB := Aside0.mk (hb); have HI779 := Aside0.mk (hi); (try clear hb hb2 hi)) | ((with_reducible refine gate_callee (f := 58) rfl ?_); refine gL_ (some 5) Try.func58 #[.pointer (some ⟨g779, 0, none⟩)] ?_; (with_reducible refine (spec_l03DrawEven.calls k g779 t776 t777 t778 t780 t783 t784 w _ ?side1 ?side2 A3.out).mono ?_); (case side1 => repeat (first | (with_reducible first | exact HI779.out | apply IsS94.alloc | apply IsS94.drewN | apply IsS94.drew | apply IsS94.set_1 | apply IsS94.set_2) | exact HI779.out)); (case side2 => repeat (first | (with_reducible first | exact HB.out | apply below_alloc | apply pw_below_drewN | apply below_drew1 | refine below_set ?_ (IsS94.ge HI779.out)) | exact HB.out)); rintro e w5 ⟨v781, rfl, ho0, hi, hb, hk⟩; refine ⟨_, rfl, ?_⟩; have HO782 := Aside0.mk (Kd.R_lower ho0 (below_size (by repeat (first | (with_reducible first | exact HB.out | apply below_alloc | apply pw_below_drewN | apply below_drew1 | refine below_set ?_ (IsS94.ge HI779.out)) | exact HB.out)))); replace HB := Aside0.mk (hb); replace HI779 := Aside0.mk (hi); (try clear hb hk hi ho0)))
 go_ret
 exact ⟨_, r2_, rS_ HO782.out, by repeat (first | (with_reducible first | exact HB.out | apply below_alloc | apply pw_below_drewN | apply below_drew1 | refine below_set ?_ (IsS94.ge HI779.out)) | exact HB.out)⟩

/-! ### impl_symmetries: function 60 -/
def impl_symmetries.l0 : Nat → List (S55) → List Int → List (S55) → Int → Option (List Int)
 | 0, _, _, _, _ => none
 | k + 1, x0, x3, x4, x9 => if x9 < 8 then ((impl_form.f k x0 x9).bind fun t791 => ((slices_Equal_Cell.f k t791 x4).bind fun t794 => (if t794 = true then (if x3.length < 17592186044416 then (impl_symmetries.l0 k x0 (x3 ++ [x9]) x4 (wrap64 (x9 + 1))) else (none)) else (impl_symmetries.l0 k x0 x3 x4 (wrap64 (x9 + 1)))))) else (some x3)
def impl_symmetries.f (k : Nat) (l0 : List (S55)) : Option (List Int) := (impl_normal.f k l0).bind fun t788 => (impl_symmetries.l0 k l0 (([] : List Int)) t788 0)
theorem impl_symmetries.mono_l : ∀ k, (∀ y0 y1 y2 y3, LeO (impl_symmetries.l0 k y0 y1 y2 y3) (impl_symmetries.l0 (k + 1) y0 y1 y2 y3))
 | 0 => fun _ _ _ _ r h => by simp [impl_symmetries.l0] at h
 | k + 1 => by
  have ih0 := impl_symmetries.mono_l k
  ·intro y0 y1 y2 y3
   unfold impl_symmetries.l0
   repeat' first
   | (with_reducible exact ih0 _ _ _ _)
   | (with_reducible exact impl_form.mono _ _ _)
   | (with_reducible exact impl_normal.mono _ _)
   | (with_reducible exact slices_Equal_Cell.mono _ _ _)
   | (with_reducible exact LeO.refl _)
   | (with_reducible exact LeO.none _)
   | (with_reducible refine LeO.ite ?_ ?_)
   | (with_reducible refine LeO.bind ?_ (fun _ => ?_))
   | exact ih0 _ _ _ _
   | exact impl_form.mono _ _ _
   | exact impl_normal.mono _ _
   | exact slices_Equal_Cell.mono _ _ _
   | exact LeO.none _
   | refine LeO.ite ?_ ?_
   | refine LeO.bind ?_ (fun _ => ?_)
theorem impl_symmetries.mono : ∀ a0 k, LeO (impl_symmetries.f k a0) (impl_symmetries.f (k + 1) a0) := by
 intro a0 k
 have ih0 := impl_symmetries.mono_l k
 unfold impl_symmetries.f
 repeat' first
   | (with_reducible exact ih0 _ _ _ _)
   | (with_reducible exact impl_form.mono _ _ _)
   | (with_reducible exact impl_normal.mono _ _)
   | (with_reducible exact slices_Equal_Cell.mono _ _ _)
   | (with_reducible exact LeO.refl _)
   | (with_reducible exact LeO.none _)
   | (with_reducible refine LeO.ite ?_ ?_)
   | (with_reducible refine LeO.bind ?_ (fun _ => ?_))
   | exact ih0 _ _ _ _
   | exact impl_form.mono _ _ _
   | exact impl_normal.mono _ _
   | exact slices_Equal_Cell.mono _ _ _
   | exact LeO.none _
   | refine LeO.ite ?_ ?_
   | refine LeO.bind ?_ (fun _ => ?_)
set_option maxHeartbeats 8000000 in
set_option maxRecDepth 100000 in
theorem impl_symmetries.calls (k : Nat) (A0 : Option Addr) (c0 : Nat) (l0 : List (S55)) (r : List Int) (w : World) (hr0 : Kd.C k55 w A0 l0.length l0) (hc0 : l0.length ≤ c0) (h : impl_symmetries.f k l0 = some r) :
  Calls Try.prog 60 #[.slice A0 l0.length c0] w fun e w' => ∃ v0_ : Value, e = .returned (v0_) ∧ Kd.R (Kd.int .i64) 2 w' w.heap.size (fun _ => True) v0_ r ∧ Below w.heap.size w w' := by
 have HR0 := Aside0.mk hr0
 have HC0 := Aside0.mk hc0
 clear hr0 hc0
 have HB := Aside0.mk (Below.refl w.heap.size w)
 have H : ((impl_normal.f k l0).bind fun t788 => (impl_symmetries.l0 k l0 (([] : List Int)) t788 0)) = some r := h
 clear h
 obtain ⟨y785, hY_⟩ : ∃ y_ : List Int, y_ = (([] : List Int)) := ⟨_, rfl⟩
 replace H : ((impl_normal.f k l0).bind fun t788 => (impl_symmetries.l0 k l0 y785 t788 0)) = some r := yY_
 have Ny785 := Aside0.mk hY_
 clear hY_
 replace H := Option.bind_eq_some_iff.mp H
 obtain ⟨t788, A20, H⟩ := H
 try dsimp only at H
 have A2 := Aside0.mk A20
 clear A20
 have H' := Aside0.mk H
 clear H
 go_enter Try.func60, Try.ntmps60
 go_wp2_with (first | ((with_reducible refine gate_dst (N := 6) rfl ?_); refine Kd.R_lit (Kd.int .i64) _ 2 ?hg (N := 6) ?hd (xs := ([] : List Int)) (inner := []) (ok := fun _ => True) (okp := fun _ => True) ?hr ?hp (fun _ hk => hk) trivial (Below.refl _ _) (Nat.le_refl _) (by simp) ?_; (case hd => rfl); (case hg => rfl); (case hr => first | (go_simp; done) | (go_simp; rfl)); (case hp => exact (Reps.none _ _)); intro v786 w3 ho4 hb hg_ hnew_; clear hg_ hnew_; (first | rw [← Ny785.out] at ho4 | (simp only [Int.reduceToNat] at ho4; rw [← Ny785.out] at ho4)); have HO787 := Aside0.mk (Kd.R_lower ho4 (below_size bB_)); replace HB := Aside0.mk (below_step bB_ hb); clear hb ho4) | ((with_reducible refine gate_callee (f := 49) rfl ?_); refine gL_ (some 8) Try.func49 #[.slice A0 l0.length c0] ?_; (with_reducible refine (impl_normal.calls k _ _ l0 t788 _ ?side1 ?side2 A2.out).mono ?_); (case side1 => exact cS_ (Kd.C_below HR0.out HB.out)); (case side2 => exact HC0.out); rintro e w5 ⟨v789, rfl, ho0, hb⟩; refine ⟨_, rfl, ?_⟩; replace HO787 := Aside0.mk (Kd.R_below (rS_ HO787.out) hb); have HO790 := Aside0.mk (Kd.R_lower ho0 (below_size bB_)); replace HB := Aside0.mk (below_step bB_ hb); (try clear hb ho0)))
 go_loopg [3, 9] k (fun kq v3 v9 w' => ∃ (x3_1 : List Int) (x9_1 : Int), v9 = .int .i64 x9_1 ∧ Aside0 (impl_symmetries.l0 kq l0 x3_1 t788 x9_1 = some r) ∧ Aside0 (kq ≤ k) ∧ Aside0 (Kd.R (Kd.int .i64) 2 w' w.heap.size (fun _ => True) v3 x3_1) ∧ Aside0 (Kd.R k55 55 w' w.heap.size (fun _ => True) v789 t788) ∧ Aside0 (Below w.heap.size w w'))
 case atStart => exact ⟨(y785), (0), r3_, H', ⟨Nat.le_refl _⟩, ⟨rS_ HO787.out⟩, ⟨rS_ HO790.out⟩, ⟨bB_⟩⟩
 case round =>
  clear H'
  try clear p2
  try clear c4
  obtain ⟨x3_1, x9_1, rfl, HA, HK1, HO_3, HO_4, HB⟩ := hrel
  cases gk with
  | zero => exact absurd HA.out (by simp [impl_symmetries.l0])
  | succ k1 =>
   have H := HA.out
   clear HA
   simp only [impl_symmetries.l0] at H
   by_cases c6 : x9_1 < 8
   ·rw [if_pos c6] at H
    have c6b0 : decide (x9_1 < 8) = true := decide_eq_true c6
    clear c6
    replace H := Option.bind_eq_some_iff.mp H
    obtain ⟨t791, A70, H⟩ := H
    try dsimp only at H
    have A7 := Aside0.mk A70
    clear A70
    replace H := Option.bind_eq_some_iff.mp H
    obtain ⟨t794, A80, H⟩ := H
    try dsimp only at H
    have A8 := Aside0.mk A80
    clear A80
    by_cases c9 : t794 = true
    ·subst c9
     have H1 : (if x3_1.length < 17592186044416 then (impl_symmetries.l0 k1 l0 (x3_1 ++ [x9_1]) t788 (wrap64 (x9_1 + 1))) else (none)) = some r := by rw [if_pos rfl] at H; exact H
     clear H
     have H := H1
     clear H1
     by_cases c10 : x3_1.length < 17592186044416
     ·rw [if_pos c10] at H
      have LMc10 := Aside0.mk c10
      clear c10
      obtain ⟨y795, hY_⟩ : ∃ y_ : List Int, y_ = (x3_1 ++ [x9_1]) := ⟨_, rfl⟩
      replace H : (impl_symmetries.l0 k1 l0 y795 t788 (wrap64 (x9_1 + 1))) = some r := yY_
      have Ny795 := Aside0.mk hY_
      clear hY_
      have H' := Aside0.mk H
      clear H
      go_wp2_with (first | ((with_reducible refine gate_callee (f := 99) rfl ?_); refine gL_ (some 14) Try.func99 #[.slice A0 l0.length c0, .int .i64 x9_1] ?_; (with_reducible refine (impl_form.calls k1 _ _ l0 x9_1 t791 _ ?side1 ?side2 A7.out).mono ?_); (case side1 => exact cS_ (Kd.C_below HR0.out HB.out)); (case side2 => exact HC0.out); rintro e w11 ⟨v792, rfl, ho0, hb⟩; refine ⟨_, rfl, ?_⟩; replace HO_3 := Aside0.mk (Kd.R_below (rS_ HO_3.out) hb); have HO793 := Aside0.mk (Kd.R_lower (Kd.R_new' ho0 (Kd.R_lt (rS_ HO_4.out))) (below_size bB_)); replace HO_4 := Aside0.mk (Kd.R_elder' (rS_ HO_4.out) (Kd.R_base ho0) hb); replace HB := Aside0.mk (below_step bB_ hb); (try clear hb ho0); obtain ⟨Ao12, co12, eo12⟩ := Kd.R_slice HO793.out; subst eo12; obtain ⟨Ao13, co13, eo13⟩ := Kd.R_slice HO_4.out; subst eo13) | ((with_reducible refine gate_callee (f := 98) rfl ?_); refine gL_ (some 16) Try.func98 #[.slice Ao12 t791.length co12, .slice Ao13 t788.length co13] ?_; (with_reducible refine (slices_Equal_Cell.calls k1 _ _ t791 _ _ t788 true _ ?side1 ?side2 ?side3 ?side4 A8.out).mono ?_); (case side1 => exact cS_ ((Kd.R_reads' HO793.out).2.2)); (case side2 => exact (Kd.R_reads' HO793.out).2.1); (case side3 => exact cS_ ((Kd.R_reads' HO_4.out).2.2)); (case side4 => exact (Kd.R_reads' HO_4.out).2.1); rintro e w' ⟨rfl, ⟨nd, rfl⟩⟩; refine ⟨_, rfl, ?_⟩) | ((with_reducible refine gate_builtin (b := .append) (xs := #[.tmp 17, .tmp 19]) rfl ?_); at_builtin; refine Kd.R_append (Kd.int .i64) (w0 := w) w.heap.size rfl (.tmp 17) (.tmp 19) 39 2 (.int .i64 0) 8 rfl Try.underlying39 info2 rfl (by decide) (by omega) u3 x3_1 x9_1 [.int .i64 x9_1] (fun _ => True) (fun _ => False) rfl rfl ?aP (fun _ hk => hk.elim) ?aF ?aO ?aB ?aS ?aL ?_; (case aP => exact rfl); (case aB => exact bB_); (case aF => exact (fun _ _ => trivial)); (case aO => exact (rS_ HO_3.out)); (case aS => exact (below_size bB_)); (case aL => have := LMc10.out; omega); intro v796 w14 ho hb hg hat; rw [← Ny795.out] at ho; replace HO_4 := Aside0.mk (Kd.R_over' (rS_ HO_4.out) (Kd.R_typed (rS_ HO_3.out)) (by decide) hg); replace HO793 := Aside0.mk (Kd.R_over' (rS_ HO793.out) (Kd.R_typed (rS_ HO_3.out)) (by decide) hg); replace HB := Aside0.mk (hb); have HO797 := Aside0.mk (ho); clear HO_3; clear ho hb hg hat))
      go_roundg k1
      case measure => have := HK1.out; omega
      case rel => exact ⟨(y795), (wrap64 (x9_1 + 1)), r3_, H', ⟨by have := HK1.out; omega⟩, ⟨rS_ HO797.out⟩, ⟨rS_ (Kd.R_mono HO_4.out (fun _ hk => trivial))⟩, ⟨bB_⟩⟩
     ·rw [if_neg c10] at H
      exact absurd H (by simp)
    ·replace c9 := Bool.eq_false_iff.mpr c9
     subst c9
     have H1 : (impl_symmetries.l0 k1 l0 x3_1 t788 (wrap64 (x9_1 + 1))) = some r := by rw [if_neg (show ¬ (false = true) by decide)] at H; exact H
     clear H
     have H := H1
     clear H1
     have H' := Aside0.mk H
     clear H
     go_wp2_with (first | ((with_reducible refine gate_callee (f := 99) rfl ?_); refine gL_ (some 14) Try.func99 #[.slice A0 l0.length c0, .int .i64 x9_1] ?_; (with_reducible refine (impl_form.calls k1 _ _ l0 x9_1 t791 _ ?side1 ?side2 A7.out).mono ?_); (case side1 => exact cS_ (Kd.C_below HR0.out HB.out)); (case side2 => exact HC0.out); rintro e w15 ⟨v792, rfl, ho0, hb⟩; refine ⟨_, rfl, ?_⟩; replace HO_3 := Aside0.mk (Kd.R_below (rS_ HO_3.out) hb); have HO793 := Aside0.mk (Kd.R_lower (Kd.R_new' ho0 (Kd.R_lt (rS_ HO_4.out))) (below_size bB_)); replace HO_4 := Aside0.mk (Kd.R_elder' (rS_ HO_4.out) (Kd.R_base ho0) hb); replace HB := Aside0.mk (below_step bB_ hb); (try clear hb ho0); obtain ⟨Ao16, co16, eo16⟩ := Kd.R_slice HO793.out; subst eo16; obtain ⟨Ao17, co17, eo17⟩ := Kd.R_slice HO_4.out; subst eo17) | ((with_reducible refine gate_callee (f := 98) rfl ?_); refine gL_ (some 16) Try.func98 #[.slice Ao16 t791.length co16, .slice Ao17 t788.length co17] ?_; (with_reducible refine (slices_Equal_Cell.calls k1 _ _ t791 _ _ t788 false _ ?side1 ?side2 ?side3 ?side4 A8.out).mono ?_); (case side1 => exact cS_ ((Kd.R_reads' HO793.out).2.2)); (case side2 => exact (Kd.R_reads' HO793.out).2.1); (case side3 => exact cS_ ((Kd.R_reads' HO_4.out).2.2)); (case side4 => exact (Kd.R_reads' HO_4.out).2.1); rintro e w' ⟨rfl, ⟨nd, rfl⟩⟩; refine ⟨_, rfl, ?_⟩))
     go_roundg k1
     case measure => have := HK1.out; omega
     case rel => exact ⟨(x3_1), (wrap64 (x9_1 + 1)), r3_, H', ⟨by have := HK1.out; omega⟩, ⟨rS_ HO_3.out⟩, ⟨rS_ (Kd.R_mono HO_4.out (fun _ hk => trivial))⟩, ⟨bB_⟩⟩
   ·rw [if_neg c6] at H
    have c6b0 : decide (x9_1 < 8) = false := decide_eq_false c6
    clear c6
    obtain rfl := Option.some.inj H
    go_wp2
    go_ret
    exact ⟨_, r2_, rS_ HO_3.out, bB_⟩

/-! ### impl_SymmetriesOf: function 21 -/
def impl_SymmetriesOf.f (k : Nat) (l0 : List (S55)) : Option (List Int × Int) := (impl_shapeCode.f k l0).bind fun t798 => (if t798 = 0 then ((impl_symmetries.f k l0).bind fun t799 => (some (t799, 0))) else (some (([] : List Int), t798)))
theorem impl_SymmetriesOf.mono : ∀ a0 k, LeO (impl_SymmetriesOf.f k a0) (impl_SymmetriesOf.f (k + 1) a0) := by
 intro a0 k
 unfold impl_SymmetriesOf.f
 repeat' first
   | (with_reducible exact impl_shapeCode.mono _ _)
   | (with_reducible exact impl_symmetries.mono _ _)
   | (with_reducible exact LeO.refl _)
   | (with_reducible exact LeO.none _)
   | (with_reducible refine LeO.ite ?_ ?_)
   | (with_reducible refine LeO.bind ?_ (fun _ => ?_))
   | exact impl_shapeCode.mono _ _
   | exact impl_symmetries.mono _ _
   | exact LeO.none _
   | refine LeO.ite ?_ ?_
   | refine LeO.bind ?_ (fun _ => ?_)
set_option maxHeartbeats 8000000 in
set_option maxRecDepth 100000 in
theorem impl_SymmetriesOf.calls (k : Nat) (A0 : Option Addr) (c0 : Nat) (l0 : List (S55)) (r1 : List Int) (r2 : Int) (w : World) (hr0 : Kd.C k55 w A0 l0.length l0) (hc0 : l0.length ≤ c0) (h : impl_SymmetriesOf.f k l0 = some (r1, r2)) :
  Calls Try.prog 21 #[.slice A0 l0.length c0] w fun e w' => ∃ v0_ : Value, e = .returned (.tuple #[v0_, .int .i64 r2]) ∧ Kd.R (Kd.int .i64) 2 w' w.heap.size (fun _ => True) v0_ r1 ∧ Below w.heap.size w w' := by
 have HR0 := Aside0.mk hr0
 have HC0 := Aside0.mk hc0
 clear hr0 hc0
 have HB := Aside0.mk (Below.refl w.heap.size w)
 have H : ((impl_shapeCode.f k l0).bind fun t798 => (if t798 = 0 then ((impl_symmetries.f k l0).bind fun t799 => (some (t799, 0))) else (some (([] : List Int), t798)))) = some (r1, r2) := h
 clear h
 replace H := Option.bind_eq_some_iff.mp H
 obtain ⟨t798, A20, H⟩ := H
 try dsimp only at H
 have A2 := Aside0.mk A20
 clear A20
 by_cases c3 : t798 = 0
 ·rw [if_pos c3] at H
  have c3b0 : (t798 == 0) = true := beq_iff_eq.mpr c3
  have c3b1 : (t798 != 0) = false := bne_eq_false_iff_eq.mpr c3
  clear c3
  replace H := Option.bind_eq_some_iff.mp H
  obtain ⟨t799, A40, H⟩ := H
  try dsimp only at H
  have A4 := Aside0.mk A40
  clear A40
  simp only [Option.some.injEq, Prod.mk.injEq] at H
  obtain ⟨rfl, rfl⟩ := H
  go_enter Try.func21, Try.ntmps21
  go_wp2_with (first | ((with_reducible refine gate_callee (f := 55) rfl ?_); refine gL_ (some 6) Try.func55 #[.slice A0 l0.length c0] ?_; (with_reducible refine (impl_shapeCode.calls k _ _ l0 t798 _ ?side1 ?side2 A2.out).mono ?_); (case side1 => exact cS_ HR0.out); (case side2 => exact HC0.out); rintro e w5 ⟨rfl, hb⟩; refine ⟨_, rfl, ?_⟩; replace HB := Aside0.mk (below_step bB_ hb); (try clear hb)) | ((with_reducible refine gate_callee (f := 60) rfl ?_); refine gL_ (some 11) Try.func60 #[.slice A0 l0.length c0] ?_; (with_reducible refine (impl_symmetries.calls k _ _ l0 t799 _ ?side1 ?side2 A4.out).mono ?_); (case side1 => exact cS_ (Kd.C_below HR0.out HB.out)); (case side2 => exact HC0.out); rintro e w6 ⟨v800, rfl, ho0, hb⟩; refine ⟨_, rfl, ?_⟩; have HO801 := Aside0.mk (Kd.R_lower ho0 (below_size bB_)); replace HB := Aside0.mk (below_step bB_ hb); (try clear hb ho0)))
  go_ret2
  exact ⟨_, r2_, rS_ HO801.out, bB_⟩
 ·rw [if_neg c3] at H
  have c3b0 : (t798 == 0) = false := beq_eq_false_iff_ne.mpr c3
  have c3b1 : (t798 != 0) = true := bne_iff_ne.mpr c3
  simp only [Option.some.injEq, Prod.mk.injEq] at H
  obtain ⟨rfl, rfl⟩ := H
  go_enter Try.func21, Try.ntmps21
  go_wp2_with (first | ((with_reducible refine gate_callee (f := 55) rfl ?_); refine gL_ (some 6) Try.func55 #[.slice A0 l0.length c0] ?_; (with_reducible refine (impl_shapeCode.calls k _ _ l0 t798 _ ?side1 ?side2 A2.out).mono ?_); (case side1 => exact cS_ HR0.out); (case side2 => exact HC0.out); rintro e w7 ⟨rfl, hb⟩; refine ⟨_, rfl, ?_⟩; replace HB := Aside0.mk (below_step bB_ hb); (try clear hb)))
  go_ret2
  exact ⟨_, r2_, by first | exact Kd.R_nil _ _ _ _ _ | exact Kd.N_nil _ _ _ _ _ | exact Kd.V_nil _ _ _ _ _ | exact Kd.Q_nil _ _ _ _ _ | exact Kd.S_nil _ _ _ _ _, bB_⟩

end Go.Proofs.Ytbkafaoehheioaa.X
