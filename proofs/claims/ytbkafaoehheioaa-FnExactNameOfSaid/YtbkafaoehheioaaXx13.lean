-- xprint.py
import Derived.Test.YtbkafaoehheioaaXx0
import Derived.Test.YtbkafaoehheioaaXx3
namespace Go.Proofs.Ytbkafaoehheioaa.X
open Go.RowKit Go.Proofs.YtbkafaoehheioaaW.PrintWords Go.Proofs.YtbkafaoehheioaaW.PrintLast Go.Proofs.YtbkafaoehheioaaW.PrintMore
attribute [local go_sem] max2_int min2_int max_two min_two max_three min_three max_four min_four   -- for this text's walks alone
set_option linter.unusedVariables false
set_option linter.unusedSimpArgs false

/-! ### spec_l04Size: function 42 -/
def spec_l04Size.l0 : Nat → List (S55) → Int → Int → Int → Int → Int → Option (Int × Int)
 | 0, _, _, _, _, _, _ => none
 | k + 1, x0, x4, x5, x6, x7, x8 => if x8 < (x0.length : Int) then (if 0 ≤ x8 then (spec_l04Size.l0 k x0 x4 x5 (mx x6 (wrap64 ((wrap64 (((rd_T55 x0 x8).f0) - x4)) + 1))) (mx x7 (wrap64 ((wrap64 (((rd_T55 x0 x8).f1) - x5)) + 1))) (wrap64 (x8 + 1))) else (none)) else (some (x6, x7))
def spec_l04Size.f (k : Nat) (l0 : List (S55)) : Option (Int × Int) := (spec_l02Least.f k l0).bind fun bt174 => (spec_l04Size.l0 k l0 bt174.1 bt174.2 0 0 0)
theorem spec_l04Size.mono_l : ∀ k, (∀ y0 y1 y2 y3 y4 y5, LeO (spec_l04Size.l0 k y0 y1 y2 y3 y4 y5) (spec_l04Size.l0 (k + 1) y0 y1 y2 y3 y4 y5))
 | 0 => fun _ _ _ _ _ _ r h => by simp [spec_l04Size.l0] at h
 | k + 1 => by
  have ih0 := spec_l04Size.mono_l k
  ·intro y0 y1 y2 y3 y4 y5
   unfold spec_l04Size.l0
   repeat' first
   | (with_reducible exact ih0 _ _ _ _ _ _)
   | (with_reducible exact spec_l02Least.mono _ _)
   | (with_reducible exact LeO.refl _)
   | (with_reducible exact LeO.none _)
   | (with_reducible refine LeO.ite ?_ ?_)
   | (with_reducible refine LeO.bind ?_ (fun _ => ?_))
   | exact ih0 _ _ _ _ _ _
   | exact spec_l02Least.mono _ _
   | exact LeO.none _
   | refine LeO.ite ?_ ?_
   | refine LeO.bind ?_ (fun _ => ?_)
theorem spec_l04Size.mono : ∀ a0 k, LeO (spec_l04Size.f k a0) (spec_l04Size.f (k + 1) a0) := by
 intro a0 k
 have ih0 := spec_l04Size.mono_l k
 unfold spec_l04Size.f
 repeat' first
   | (with_reducible exact ih0 _ _ _ _ _ _)
   | (with_reducible exact spec_l02Least.mono _ _)
   | (with_reducible exact LeO.refl _)
   | (with_reducible exact LeO.none _)
   | (with_reducible refine LeO.ite ?_ ?_)
   | (with_reducible refine LeO.bind ?_ (fun _ => ?_))
   | exact ih0 _ _ _ _ _ _
   | exact spec_l02Least.mono _ _
   | exact LeO.none _
   | refine LeO.ite ?_ ?_
   | refine LeO.bind ?_ (fun _ => ?_)
set_option maxHeartbeats 8000000 in
set_option maxRecDepth 100000 in
theorem spec_l04Size.calls (k : Nat) (A0 : Option Addr) (c0 : Nat) (l0 : List (S55)) (r1 : Int) (r2 : Int) (w : World) (hr0 : Kd.C k55 w A0 l0.length l0) (hc0 : l0.length ≤ c0) (h : spec_l04Size.f k l0 = some (r1, r2)) :
  Calls Try.prog 42 #[.slice A0 l0.length c0] w fun e w' => e = .returned (.tuple #[.int .i64 r1, .int .i64 r2]) ∧ Below w.heap.size w w' := by
 have HR0 := Aside0.mk hr0
 have HC0 := Aside0.mk hc0
 clear hr0 hc0
 have HB := Aside0.mk (Below.refl w.heap.size w)
 have H : ((spec_l02Least.f k l0).bind fun bt174 => (spec_l04Size.l0 k l0 bt174.1 bt174.2 0 0 0)) = some (r1, r2) := h
 clear h
 replace H := Option.bind_eq_some_iff.mp H
 obtain ⟨⟨t174, t175⟩, A20, H⟩ := H
 try dsimp only at H
 have A2 := Aside0.mk A20
 clear A20
 have H' := Aside0.mk H
 clear H
 go_enter Try.func42, Try.ntmps42
 go_wp2_with (first | ((with_reducible refine gate_callee (f := 76) rfl ?_); refine gL_ (some 11) Try.func76 #[.slice A0 l0.length c0] ?_; (with_reducible refine (spec_l02Least.calls k _ _ l0 t174 t175 _ ?side1 ?side2 A2.out).mono ?_); (case side1 => exact cS_ HR0.out); (case side2 => exact HC0.out); rintro e w3 ⟨rfl, hb⟩; refine ⟨_, rfl, ?_⟩; replace HB := Aside0.mk (below_step bB_ hb); (try clear hb)))
 go_loopg [6, 7, 8] k (fun kq v6 v7 v8 w' => ∃ (x6_1 : Int) (x7_1 : Int) (x8_1 : Int), v6 = .int .i64 x6_1 ∧ v7 = .int .i64 x7_1 ∧ v8 = .int .i64 x8_1 ∧ Aside0 (spec_l04Size.l0 kq l0 t174 t175 x6_1 x7_1 x8_1 = some (r1, r2)) ∧ Aside0 (kq ≤ k) ∧ Aside0 (Below w.heap.size w w'))
 case atStart => exact ⟨(0), (0), (0), r3_, r3_, r3_, H', ⟨Nat.le_refl _⟩, ⟨bB_⟩⟩
 case round =>
  clear H'
  try clear p2
  obtain ⟨x6_1, x7_1, x8_1, rfl, rfl, rfl, HA, HK1, HB⟩ := hrel
  cases gk with
  | zero => exact absurd HA.out (by simp [spec_l04Size.l0])
  | succ k1 =>
   have H := HA.out
   clear HA
   simp only [spec_l04Size.l0] at H
   by_cases c4 : x8_1 < (l0.length : Int)
   ·rw [if_pos c4] at H
    have c4b0 : decide (x8_1 < (l0.length : Int)) = true := decide_eq_true c4
    clear c4
    by_cases c5 : 0 ≤ x8_1
    ·rw [if_pos c5] at H
     have c5b0 : decide (0 ≤ x8_1) = true := decide_eq_true c5
     clear c5
     obtain ⟨ji6, hji6⟩ : ∃ j_ : Int, (mx x6_1 (wrap64 ((wrap64 (((rd_T55 l0 x8_1).f0) - t174)) + 1))) = j_ := ⟨_, rfl⟩
     replace H : (spec_l04Size.l0 k1 l0 t174 t175 ji6 (mx x7_1 (wrap64 ((wrap64 (((rd_T55 l0 x8_1).f1) - t175)) + 1))) (wrap64 (x8_1 + 1))) = some (r1, r2) := by first | (rw [hji6] at H; exact H) | (simp only [hji6] at H ⊢; exact H)
     have hji6_ : (if x6_1 < (wrap64 ((wrap64 (((rd_T55 l0 x8_1).f0) - t174)) + 1)) then (wrap64 ((wrap64 (((rd_T55 l0 x8_1).f0) - t174)) + 1)) else x6_1) = ji6 := hji6
     obtain ⟨ji7, hji7⟩ : ∃ j_ : Int, (mx x7_1 (wrap64 ((wrap64 (((rd_T55 l0 x8_1).f1) - t175)) + 1))) = j_ := ⟨_, rfl⟩
     replace H : (spec_l04Size.l0 k1 l0 t174 t175 ji6 ji7 (wrap64 (x8_1 + 1))) = some (r1, r2) := by first | (rw [hji7] at H; exact H) | (simp only [hji7] at H ⊢; exact H)
     have hji7_ : (if x7_1 < (wrap64 ((wrap64 (((rd_T55 l0 x8_1).f1) - t175)) + 1)) then (wrap64 ((wrap64 (((rd_T55 l0 x8_1).f1) - t175)) + 1)) else x7_1) = ji7 := hji7
     have H' := Aside0.mk H
     clear H
     have p176 : 0 ≤ (x8_1 : Int) := of_decide_eq_true aS_
     have q176 : x8_1 < (l0.length : Int) := of_decide_eq_true aS_
     obtain ⟨ad176, e176, hx176_0, hx176_1⟩ := at_T55 HR0.out x8_1 p176 q176
     cases e176
     replace hx176_0 := (HB.out.cell (World.block_lt_of_cell? w _ hx176_0)).trans hx176_0
     replace hx176_1 := (HB.out.cell (World.block_lt_of_cell? w _ hx176_1)).trans hx176_1
     replace p176 := eq_true p176
     replace q176 := eq_true q176
     have p177 : 0 ≤ (x8_1 : Int) := of_decide_eq_true aS_
     have q177 : x8_1 < (l0.length : Int) := of_decide_eq_true aS_
     obtain ⟨ad177, e177, hx177_0, hx177_1⟩ := at_T55 HR0.out x8_1 p177 q177
     obtain rfl : ad176 = ad177 := (by injection e177)
     replace hx177_0 := (HB.out.cell (World.block_lt_of_cell? w _ hx177_0)).trans hx177_0
     replace hx177_1 := (HB.out.cell (World.block_lt_of_cell? w _ hx177_1)).trans hx177_1
     replace p177 := eq_true p177
     replace q177 := eq_true q177
     go_wp2
     go_roundg k1
     case measure => have := HK1.out; omega
     case rel => exact ⟨(ji6), (ji7), (wrap64 (x8_1 + 1)), (by first | rfl | (simp; done) | (simp only [← hji6] <;> (first | rfl | simp)) | (simp [*]; done)), (by first | rfl | (simp; done) | (simp only [← hji7] <;> (first | rfl | simp)) | (simp [*]; done)), r3_, H', ⟨by have := HK1.out; omega⟩, ⟨bB_⟩⟩
    ·rw [if_neg c5] at H
     exact absurd H (by simp)
   ·rw [if_neg c4] at H
    have c4b0 : decide (x8_1 < (l0.length : Int)) = false := decide_eq_false c4
    clear c4
    simp only [Option.some.injEq, Prod.mk.injEq] at H
    obtain ⟨rfl, rfl⟩ := H
    go_wp2
    go_ret2
    exact ⟨r2_, bB_⟩

end Go.Proofs.Ytbkafaoehheioaa.X
