-- Written by xprint.py, a program of this session, on the kit's print.py: functions of the seat in one namespace.
import Derived.Test.YtlhlilgienicfaaXx0
import Derived.Test.YtlhlilgienicfaaXx2
import Derived.Test.YtlhlilgienicfaaXx4
import Derived.Test.YtlhlilgienicfaaXx5
import Derived.Test.YtlhlilgienicfaaXx22
namespace Go.Proofs.Ytlhlilgienicfaa.X
open Go.RowKit Go.Proofs.YtlhlilgienicfaaW.PrintWords Go.Proofs.YtlhlilgienicfaaW.PrintLast Go.Proofs.YtlhlilgienicfaaW.PrintMore
attribute [local go_sem] max2_int min2_int max_two min_two max_three min_three max_four min_four   -- for this text's walks alone
set_option linter.unusedVariables false
set_option linter.unusedSimpArgs false

/-! ### impl_ConvexityOf: function 35 -/
mutual
def impl_ConvexityOf.l0 : Nat → List (S34) → Bool → Bool → List (S34) → Int → Int → Option (Bool × Bool × Int)
  | 0, _, _, _, _, _, _ => none
  | k + 1, x0, x5, x6, x16, x17, x18 => if x18 < x17 then (if 0 ≤ x18 then (if x18 < (x16.length : Int) then (impl_ConvexityOf.l1 k x0 x5 x6 x16 x17 x18 x0 (x0.length : Int) 0 ((rd_T34 x16 x18).f0) ((rd_T34 x16 x18).f1)) else (none)) else (none)) else (some (x5, x6, 0))
def impl_ConvexityOf.l1 : Nat → List (S34) → Bool → Bool → List (S34) → Int → Int → List (S34) → Int → Int → Int → Int → Option (Bool × Bool × Int)
  | 0, _, _, _, _, _, _, _, _, _, _, _ => none
  | k + 1, x0, x5, x6, x16, x17, x18, x22, x23, x24, x343000, x343001 => if x24 < x23 then (if 0 ≤ x24 then (if x24 < (x22.length : Int) then (impl_ConvexityOf.l2 k x0 x5 x6 (wrap64 (x343000 + 1)) x16 x17 x18 x22 x23 x24 x343000 x343001 ((rd_T34 x22 x24).f0) ((rd_T34 x22 x24).f1)) else (none)) else (none)) else (impl_ConvexityOf.l0 k x0 x5 x6 x16 x17 (wrap64 (x18 + 1)))
def impl_ConvexityOf.j3 : Nat → List (S34) → Bool → Bool → List (S34) → Int → Int → List (S34) → Int → Int → Int → Int → Int → Int → Option (Bool × Bool × Int)
  | 0, _, _, _, _, _, _, _, _, _, _, _, _, _ => none
  | k + 1, x0, x5, x6, x16, x17, x18, x22, x23, x24, x343000, x343001, x345000, x345001 => impl_ConvexityOf.l3 k x0 x5 x6 (wrap64 (x343001 + 1)) x16 x17 x18 x22 x23 x24 x343000 x343001 x345000 x345001
def impl_ConvexityOf.l3 : Nat → List (S34) → Bool → Bool → Int → List (S34) → Int → Int → List (S34) → Int → Int → Int → Int → Int → Int → Option (Bool × Bool × Int)
  | 0, _, _, _, _, _, _, _, _, _, _, _, _, _, _ => none
  | k + 1, x0, x5, x6, x12, x16, x17, x18, x22, x23, x24, x343000, x343001, x345000, x345001 => if x343000 = x345000 then (if x12 < x345001 then (if x6 = true then ((slices_Contains_Cell.f k x0 x343000 x12).bind fun t346 => (impl_ConvexityOf.l3 k x0 x5 t346 (wrap64 (x12 + 1)) x16 x17 x18 x22 x23 x24 x343000 x343001 x345000 x345001)) else (impl_ConvexityOf.l3 k x0 x5 false (wrap64 (x12 + 1)) x16 x17 x18 x22 x23 x24 x343000 x343001 x345000 x345001)) else (impl_ConvexityOf.l1 k x0 x5 x6 x16 x17 x18 x22 x23 (wrap64 (x24 + 1)) x343000 x343001)) else (impl_ConvexityOf.l1 k x0 x5 x6 x16 x17 x18 x22 x23 (wrap64 (x24 + 1)) x343000 x343001)
def impl_ConvexityOf.l2 : Nat → List (S34) → Bool → Bool → Int → List (S34) → Int → Int → List (S34) → Int → Int → Int → Int → Int → Int → Option (Bool × Bool × Int)
  | 0, _, _, _, _, _, _, _, _, _, _, _, _, _, _ => none
  | k + 1, x0, x5, x6, x11, x16, x17, x18, x22, x23, x24, x343000, x343001, x345000, x345001 => if x343001 = x345001 then (if x11 < x345000 then (if x5 = true then ((slices_Contains_Cell.f k x0 x11 x343001).bind fun t345 => (impl_ConvexityOf.l2 k x0 t345 x6 (wrap64 (x11 + 1)) x16 x17 x18 x22 x23 x24 x343000 x343001 x345000 x345001)) else (impl_ConvexityOf.l2 k x0 false x6 (wrap64 (x11 + 1)) x16 x17 x18 x22 x23 x24 x343000 x343001 x345000 x345001)) else (impl_ConvexityOf.j3 k x0 x5 x6 x16 x17 x18 x22 x23 x24 x343000 x343001 x345000 x345001)) else (impl_ConvexityOf.j3 k x0 x5 x6 x16 x17 x18 x22 x23 x24 x343000 x343001 x345000 x345001)
end
def impl_ConvexityOf.f (k : Nat) (l0 : List (S34)) : Option (Bool × Bool × Int) := (impl_IsShape.f k l0).bind fun t340 => (if t340 = true then (impl_ConvexityOf.l0 k l0 true true l0 (l0.length : Int) 0) else (some (false, false, 1)))
theorem impl_ConvexityOf.mono_l : ∀ k, (∀ y0 y1 y2 y3 y4 y5, LeO (impl_ConvexityOf.l0 k y0 y1 y2 y3 y4 y5) (impl_ConvexityOf.l0 (k + 1) y0 y1 y2 y3 y4 y5)) ∧ (∀ y0 y1 y2 y3 y4 y5 y6 y7 y8 y9 y10, LeO (impl_ConvexityOf.l1 k y0 y1 y2 y3 y4 y5 y6 y7 y8 y9 y10) (impl_ConvexityOf.l1 (k + 1) y0 y1 y2 y3 y4 y5 y6 y7 y8 y9 y10)) ∧ (∀ y0 y1 y2 y3 y4 y5 y6 y7 y8 y9 y10 y11 y12, LeO (impl_ConvexityOf.j3 k y0 y1 y2 y3 y4 y5 y6 y7 y8 y9 y10 y11 y12) (impl_ConvexityOf.j3 (k + 1) y0 y1 y2 y3 y4 y5 y6 y7 y8 y9 y10 y11 y12)) ∧ (∀ y0 y1 y2 y3 y4 y5 y6 y7 y8 y9 y10 y11 y12 y13, LeO (impl_ConvexityOf.l3 k y0 y1 y2 y3 y4 y5 y6 y7 y8 y9 y10 y11 y12 y13) (impl_ConvexityOf.l3 (k + 1) y0 y1 y2 y3 y4 y5 y6 y7 y8 y9 y10 y11 y12 y13)) ∧ (∀ y0 y1 y2 y3 y4 y5 y6 y7 y8 y9 y10 y11 y12 y13, LeO (impl_ConvexityOf.l2 k y0 y1 y2 y3 y4 y5 y6 y7 y8 y9 y10 y11 y12 y13) (impl_ConvexityOf.l2 (k + 1) y0 y1 y2 y3 y4 y5 y6 y7 y8 y9 y10 y11 y12 y13))
  | 0 => ⟨fun _ _ _ _ _ _ r h => by simp [impl_ConvexityOf.l0] at h, fun _ _ _ _ _ _ _ _ _ _ _ r h => by simp [impl_ConvexityOf.l1] at h, fun _ _ _ _ _ _ _ _ _ _ _ _ _ r h => by simp [impl_ConvexityOf.j3] at h, fun _ _ _ _ _ _ _ _ _ _ _ _ _ _ r h => by simp [impl_ConvexityOf.l3] at h, fun _ _ _ _ _ _ _ _ _ _ _ _ _ _ r h => by simp [impl_ConvexityOf.l2] at h⟩
  | k + 1 => by
    obtain ⟨ih0, ih1, ih2, ih3, ih4⟩ := impl_ConvexityOf.mono_l k
    refine ⟨?_, ?_, ?_, ?_, ?_⟩
    · intro y0 y1 y2 y3 y4 y5
      unfold impl_ConvexityOf.l0
      repeat' first
      | (with_reducible exact ih0 _ _ _ _ _ _)
      | (with_reducible exact ih1 _ _ _ _ _ _ _ _ _ _ _)
      | (with_reducible exact ih2 _ _ _ _ _ _ _ _ _ _ _ _ _)
      | (with_reducible exact ih3 _ _ _ _ _ _ _ _ _ _ _ _ _ _)
      | (with_reducible exact ih4 _ _ _ _ _ _ _ _ _ _ _ _ _ _)
      | (with_reducible exact impl_IsShape.mono _ _)
      | (with_reducible exact slices_Contains_Cell.mono _ _ _ _)
      | (with_reducible exact LeO.refl _)
      | (with_reducible exact LeO.none _)
      | (with_reducible refine LeO.ite ?_ ?_)
      | (with_reducible refine LeO.bind ?_ (fun _ => ?_))
      | exact ih0 _ _ _ _ _ _
      | exact ih1 _ _ _ _ _ _ _ _ _ _ _
      | exact ih2 _ _ _ _ _ _ _ _ _ _ _ _ _
      | exact ih3 _ _ _ _ _ _ _ _ _ _ _ _ _ _
      | exact ih4 _ _ _ _ _ _ _ _ _ _ _ _ _ _
      | exact impl_IsShape.mono _ _
      | exact slices_Contains_Cell.mono _ _ _ _
      | exact LeO.none _
      | refine LeO.ite ?_ ?_
      | refine LeO.bind ?_ (fun _ => ?_)
    · intro y0 y1 y2 y3 y4 y5 y6 y7 y8 y9 y10
      unfold impl_ConvexityOf.l1
      repeat' first
      | (with_reducible exact ih0 _ _ _ _ _ _)
      | (with_reducible exact ih1 _ _ _ _ _ _ _ _ _ _ _)
      | (with_reducible exact ih2 _ _ _ _ _ _ _ _ _ _ _ _ _)
      | (with_reducible exact ih3 _ _ _ _ _ _ _ _ _ _ _ _ _ _)
      | (with_reducible exact ih4 _ _ _ _ _ _ _ _ _ _ _ _ _ _)
      | (with_reducible exact impl_IsShape.mono _ _)
      | (with_reducible exact slices_Contains_Cell.mono _ _ _ _)
      | (with_reducible exact LeO.refl _)
      | (with_reducible exact LeO.none _)
      | (with_reducible refine LeO.ite ?_ ?_)
      | (with_reducible refine LeO.bind ?_ (fun _ => ?_))
      | exact ih0 _ _ _ _ _ _
      | exact ih1 _ _ _ _ _ _ _ _ _ _ _
      | exact ih2 _ _ _ _ _ _ _ _ _ _ _ _ _
      | exact ih3 _ _ _ _ _ _ _ _ _ _ _ _ _ _
      | exact ih4 _ _ _ _ _ _ _ _ _ _ _ _ _ _
      | exact impl_IsShape.mono _ _
      | exact slices_Contains_Cell.mono _ _ _ _
      | exact LeO.none _
      | refine LeO.ite ?_ ?_
      | refine LeO.bind ?_ (fun _ => ?_)
    · intro y0 y1 y2 y3 y4 y5 y6 y7 y8 y9 y10 y11 y12
      unfold impl_ConvexityOf.j3
      repeat' first
      | (with_reducible exact ih0 _ _ _ _ _ _)
      | (with_reducible exact ih1 _ _ _ _ _ _ _ _ _ _ _)
      | (with_reducible exact ih2 _ _ _ _ _ _ _ _ _ _ _ _ _)
      | (with_reducible exact ih3 _ _ _ _ _ _ _ _ _ _ _ _ _ _)
      | (with_reducible exact ih4 _ _ _ _ _ _ _ _ _ _ _ _ _ _)
      | (with_reducible exact impl_IsShape.mono _ _)
      | (with_reducible exact slices_Contains_Cell.mono _ _ _ _)
      | (with_reducible exact LeO.refl _)
      | (with_reducible exact LeO.none _)
      | (with_reducible refine LeO.ite ?_ ?_)
      | (with_reducible refine LeO.bind ?_ (fun _ => ?_))
      | exact ih0 _ _ _ _ _ _
      | exact ih1 _ _ _ _ _ _ _ _ _ _ _
      | exact ih2 _ _ _ _ _ _ _ _ _ _ _ _ _
      | exact ih3 _ _ _ _ _ _ _ _ _ _ _ _ _ _
      | exact ih4 _ _ _ _ _ _ _ _ _ _ _ _ _ _
      | exact impl_IsShape.mono _ _
      | exact slices_Contains_Cell.mono _ _ _ _
      | exact LeO.none _
      | refine LeO.ite ?_ ?_
      | refine LeO.bind ?_ (fun _ => ?_)
    · intro y0 y1 y2 y3 y4 y5 y6 y7 y8 y9 y10 y11 y12 y13
      unfold impl_ConvexityOf.l3
      repeat' first
      | (with_reducible exact ih0 _ _ _ _ _ _)
      | (with_reducible exact ih1 _ _ _ _ _ _ _ _ _ _ _)
      | (with_reducible exact ih2 _ _ _ _ _ _ _ _ _ _ _ _ _)
      | (with_reducible exact ih3 _ _ _ _ _ _ _ _ _ _ _ _ _ _)
      | (with_reducible exact ih4 _ _ _ _ _ _ _ _ _ _ _ _ _ _)
      | (with_reducible exact impl_IsShape.mono _ _)
      | (with_reducible exact slices_Contains_Cell.mono _ _ _ _)
      | (with_reducible exact LeO.refl _)
      | (with_reducible exact LeO.none _)
      | (with_reducible refine LeO.ite ?_ ?_)
      | (with_reducible refine LeO.bind ?_ (fun _ => ?_))
      | exact ih0 _ _ _ _ _ _
      | exact ih1 _ _ _ _ _ _ _ _ _ _ _
      | exact ih2 _ _ _ _ _ _ _ _ _ _ _ _ _
      | exact ih3 _ _ _ _ _ _ _ _ _ _ _ _ _ _
      | exact ih4 _ _ _ _ _ _ _ _ _ _ _ _ _ _
      | exact impl_IsShape.mono _ _
      | exact slices_Contains_Cell.mono _ _ _ _
      | exact LeO.none _
      | refine LeO.ite ?_ ?_
      | refine LeO.bind ?_ (fun _ => ?_)
    · intro y0 y1 y2 y3 y4 y5 y6 y7 y8 y9 y10 y11 y12 y13
      unfold impl_ConvexityOf.l2
      repeat' first
      | (with_reducible exact ih0 _ _ _ _ _ _)
      | (with_reducible exact ih1 _ _ _ _ _ _ _ _ _ _ _)
      | (with_reducible exact ih2 _ _ _ _ _ _ _ _ _ _ _ _ _)
      | (with_reducible exact ih3 _ _ _ _ _ _ _ _ _ _ _ _ _ _)
      | (with_reducible exact ih4 _ _ _ _ _ _ _ _ _ _ _ _ _ _)
      | (with_reducible exact impl_IsShape.mono _ _)
      | (with_reducible exact slices_Contains_Cell.mono _ _ _ _)
      | (with_reducible exact LeO.refl _)
      | (with_reducible exact LeO.none _)
      | (with_reducible refine LeO.ite ?_ ?_)
      | (with_reducible refine LeO.bind ?_ (fun _ => ?_))
      | exact ih0 _ _ _ _ _ _
      | exact ih1 _ _ _ _ _ _ _ _ _ _ _
      | exact ih2 _ _ _ _ _ _ _ _ _ _ _ _ _
      | exact ih3 _ _ _ _ _ _ _ _ _ _ _ _ _ _
      | exact ih4 _ _ _ _ _ _ _ _ _ _ _ _ _ _
      | exact impl_IsShape.mono _ _
      | exact slices_Contains_Cell.mono _ _ _ _
      | exact LeO.none _
      | refine LeO.ite ?_ ?_
      | refine LeO.bind ?_ (fun _ => ?_)
theorem impl_ConvexityOf.mono : ∀ a0 k, LeO (impl_ConvexityOf.f k a0) (impl_ConvexityOf.f (k + 1) a0) := by
  intro a0 k
  obtain ⟨ih0, ih1, ih2, ih3, ih4⟩ := impl_ConvexityOf.mono_l k
  unfold impl_ConvexityOf.f
  repeat' first
      | (with_reducible exact ih0 _ _ _ _ _ _)
      | (with_reducible exact ih1 _ _ _ _ _ _ _ _ _ _ _)
      | (with_reducible exact ih2 _ _ _ _ _ _ _ _ _ _ _ _ _)
      | (with_reducible exact ih3 _ _ _ _ _ _ _ _ _ _ _ _ _ _)
      | (with_reducible exact ih4 _ _ _ _ _ _ _ _ _ _ _ _ _ _)
      | (with_reducible exact impl_IsShape.mono _ _)
      | (with_reducible exact slices_Contains_Cell.mono _ _ _ _)
      | (with_reducible exact LeO.refl _)
      | (with_reducible exact LeO.none _)
      | (with_reducible refine LeO.ite ?_ ?_)
      | (with_reducible refine LeO.bind ?_ (fun _ => ?_))
      | exact ih0 _ _ _ _ _ _
      | exact ih1 _ _ _ _ _ _ _ _ _ _ _
      | exact ih2 _ _ _ _ _ _ _ _ _ _ _ _ _
      | exact ih3 _ _ _ _ _ _ _ _ _ _ _ _ _ _
      | exact ih4 _ _ _ _ _ _ _ _ _ _ _ _ _ _
      | exact impl_IsShape.mono _ _
      | exact slices_Contains_Cell.mono _ _ _ _
      | exact LeO.none _
      | refine LeO.ite ?_ ?_
      | refine LeO.bind ?_ (fun _ => ?_)
set_option maxHeartbeats 8000000 in
set_option maxRecDepth 100000 in
theorem impl_ConvexityOf.calls (k : Nat) (A0 : Option Addr) (c0 : Nat) (l0 : List (S34)) (r1 : Bool) (r2 : Bool) (r3 : Int) (w : World) (hr0 : Kd.C k34 w A0 l0.length l0) (hc0 : l0.length ≤ c0) (h : impl_ConvexityOf.f k l0 = some (r1, r2, r3)) :
    Calls Try.prog 35 #[.slice A0 l0.length c0] w fun e w' => e = .returned (.tuple #[.bool r1, .bool r2, .int .i64 r3]) ∧ Below w.heap.size w w' := by
  have hu34 := Try.underlying34
  have HR0 := Aside0.mk hr0
  have HC0 := Aside0.mk hc0
  clear hr0 hc0
  have HB := Aside0.mk (Below.refl w.heap.size w)
  have H : ((impl_IsShape.f k l0).bind fun t340 => (if t340 = true then (impl_ConvexityOf.l0 k l0 true true l0 (l0.length : Int) 0) else (some (false, false, 1)))) = some (r1, r2, r3) := h
  clear h
  replace H := Option.bind_eq_some_iff.mp H
  obtain ⟨t340, A20, H⟩ := H
  replace H : (if t340 = true then (impl_ConvexityOf.l0 k l0 true true l0 (l0.length : Int) 0) else (some (false, false, 1))) = some (r1, r2, r3) := H
  have A2 := Aside0.mk A20
  clear A20
  by_cases c3 : t340 = true
  · subst c3
    have H1 : (impl_ConvexityOf.l0 k l0 true true l0 (l0.length : Int) 0) = some (r1, r2, r3) := by rw [if_pos rfl] at H; exact H
    clear H
    have H := H1
    clear H1
    have H' := Aside0.mk H
    clear H
    go_enter Try.func35, Try.ntmps35
    go_wp2_with (first | ((with_reducible refine gate_callee (f := 19) rfl ?_); refine goesL_ (some 14) rfl rfl Try.func19 (by kernel_rfl) rfl #[.slice A0 l0.length c0] rfl (by (try simp only [List.map_toArray, List.map_cons, List.map_nil]); first | done | rfl | (simp only [List.length_drop, List.length_take]; rfl)) ?_; (with_reducible refine (impl_IsShape.calls k _ _ l0 true _ ?side1 ?side2 A2.out).mono ?_); (case side1 => repeat (first | exact HR0.out | (with_reducible refine Kd.C_alloc ?_ _) | (with_reducible refine Kd.C_drewN ?_ _) | (with_reducible refine Kd.C_drew ?_))); (case side2 => exact HC0.out); rintro e w4 ⟨rfl, hb⟩; refine ⟨_, rfl, ?_⟩; have n0_ := Aside0.mk (below_step (by repeat (first | (with_reducible first | exact HB.out | apply below_alloc | apply pw_below_drewN | apply below_drew1) | exact HB.out)) hb); clear HB; have HB := n0_; clear n0_; (try clear hb); (try clear hb2); (try clear hk); (try clear hi)))
    go_loopg [5, 6, 18] k (fun kq v5 v6 v18 w' => ∃ (x5_1 : Bool) (x6_1 : Bool) (x18_1 : Int), v5 = .bool x5_1 ∧ v6 = .bool x6_1 ∧ v18 = .int .i64 x18_1 ∧ Aside0 (impl_ConvexityOf.l0 kq l0 x5_1 x6_1 l0 (l0.length : Int) x18_1 = some (r1, r2, r3)) ∧ Aside0 (kq ≤ k) ∧ Aside0 (Below w.heap.size w w'))
    case atStart => exact ⟨(true), (true), (0), (by first | rfl | (simp; done) | (simp [*]; done)), (by first | rfl | (simp; done) | (simp [*]; done)), (by first | rfl | (simp; done) | (simp [*]; done)), H', ⟨Nat.le_refl _⟩, ⟨by repeat (first | (with_reducible first | exact HB.out | apply below_alloc | apply pw_below_drewN | apply below_drew1) | exact HB.out)⟩⟩
    case round =>
      clear H'
      try clear c1
      try clear p2
      try clear c3
      obtain ⟨x5_1, x6_1, x18_1, rfl, rfl, rfl, HA, HK1, HB⟩ := hrel
      cases gk with
      | zero => exact absurd HA.out (by simp [impl_ConvexityOf.l0])
      | succ k1 =>
        have H := HA.out
        clear HA
        simp only [impl_ConvexityOf.l0] at H
        by_cases c5 : x18_1 < (l0.length : Int)
        · rw [if_pos c5] at H
          have c5b0 : decide (x18_1 < (l0.length : Int)) = true := decide_eq_true c5
          clear c5
          by_cases c6 : 0 ≤ x18_1
          · rw [if_pos c6] at H
            have c6b0 : decide (0 ≤ x18_1) = true := decide_eq_true c6
            clear c6
            by_cases c7 : x18_1 < (l0.length : Int)
            · rw [if_pos c7] at H
              have c7b0 : decide (x18_1 < (l0.length : Int)) = true := decide_eq_true c7
              clear c7
              have H' := Aside0.mk H
              clear H
              have p341 : 0 ≤ (x18_1 : Int) := of_decide_eq_true (by first | (with_reducible assumption) | assumption)
              have q341 : x18_1 < (l0.length : Int) := of_decide_eq_true (by first | (with_reducible assumption) | assumption)
              obtain ⟨ad341, e341, hx341_0, hx341_1⟩ := at_T34 HR0.out x18_1 p341 q341
              cases e341
              replace hx341_0 := (HB.out.cell (World.block_lt_of_cell? w _ hx341_0)).trans hx341_0
              replace hx341_1 := (HB.out.cell (World.block_lt_of_cell? w _ hx341_1)).trans hx341_1
              replace p341 := eq_true p341
              replace q341 := eq_true q341
              go_wp2_with (first | ((with_reducible refine gate_dst (N := 8) rfl ?_); refine box_event ?hg (N := 8) ?hd (cs := #[.int .i64 0, .int .i64 0]) (t := 34) ?hr ?_; (case hd => rfl); (case hg => rfl); (case hr => first | (go_simp; done) | (go_simp; rfl)); intro gb342 hg w8 hbox hb; have n0_ := Aside0.mk (below_step (by repeat (first | (with_reducible first | exact HB.out | apply below_alloc | apply pw_below_drewN | apply below_drew1) | exact HB.out)) hb); have n1_ := Aside0.mk (hbox); have n2_ := Aside0.mk ((by rw [hg]; exact (below_size (by repeat (first | (with_reducible first | exact HB.out | apply below_alloc | apply pw_below_drewN | apply below_drew1) | exact HB.out))) : w.heap.size ≤ gb342)); have n3_ := Aside0.mk ((by rw [hg]; exact (below_size (by repeat (first | (with_reducible first | exact HB.out | apply below_alloc | apply pw_below_drewN | apply below_drew1) | exact HB.out))) : w.heap.size ≤ gb342)); clear HB; have HB := n0_; have BK342 := n1_; have GW342 := n2_; have GE342 := n3_; clear n0_ n1_ n2_ n3_; clear hb hbox hg; have hcz9_0 : w8.cell? ⟨gb342, 0, none⟩ = some (.int .i64 0) := (blk_cell BK342.out 0).trans rfl; have hcz9_1 : w8.cell? ⟨gb342, 1, none⟩ = some (.int .i64 0) := (blk_cell BK342.out 1).trans rfl; have hfz9_0 := blk_frozen BK342.out 0; have hfz9_1 := blk_frozen BK342.out 1))
              go_loopg [5, 6, 24] k1 (fun kq v5 v6 v24 w' => ∃ (x5_2 : Bool) (x6_2 : Bool) (x24_2 : Int), v5 = .bool x5_2 ∧ v6 = .bool x6_2 ∧ v24 = .int .i64 x24_2 ∧ Aside0 (impl_ConvexityOf.l1 kq l0 x5_2 x6_2 l0 (l0.length : Int) x18_1 l0 (l0.length : Int) x24_2 ((rd_T34 l0 x18_1).f0) ((rd_T34 l0 x18_1).f1) = some (r1, r2, r3)) ∧ Aside0 (kq ≤ k1) ∧ Aside0 (w'.heap[gb342]? = some (.cells #[.int .i64 ((rd_T34 l0 x18_1).f0), .int .i64 ((rd_T34 l0 x18_1).f1)] 34 (0, 0))) ∧ Aside0 (Below w.heap.size w w'))
              case atStart => exact ⟨(x5_1), (x6_1), (0), (by first | rfl | (simp; done) | (simp [*]; done)), (by first | rfl | (simp; done) | (simp [*]; done)), (by first | rfl | (simp; done) | (simp [*]; done)), H', ⟨Nat.le_refl _⟩, ⟨by (with_reducible repeat (first | refine blk_drewN ?_ _ | refine blk_drew ?_ | refine blk_alloc ?_ _)); refine blk_put (cs := #[.int .i64 ((rd_T34 l0 x18_1).f0), .int .i64 0]) ?_ 1 _ rfl; (with_reducible repeat (first | refine blk_drewN ?_ _ | refine blk_drew ?_ | refine blk_alloc ?_ _)); refine blk_put (cs := #[.int .i64 0, .int .i64 0]) ?_ 0 _ rfl; (with_reducible repeat (first | refine blk_drewN ?_ _ | refine blk_drew ?_ | refine blk_alloc ?_ _)); exact BK342.out⟩, ⟨by repeat (first | (with_reducible first | exact HB.out | apply below_alloc | apply pw_below_drewN | apply below_drew1 | refine below_set ?_ GE342.out) | exact HB.out)⟩⟩
              case round =>
                clear H'
                try clear c1
                try clear p2
                try clear c3
                try clear p3
                try clear q3
                try clear hx3
                try clear c5
                try clear c5b0
                try clear c6
                try clear c6b0
                try clear c7
                try clear c7b0
                try clear hcz9_0
                try clear hcz9_1
                try clear hfz9_0
                try clear hfz9_1
                try clear hx341_0
                try clear hx341_1
                try clear p2
                try clear p341
                try clear q341
                obtain ⟨x5_2, x6_2, x24_2, rfl, rfl, rfl, HA, HK2, BK342, HB⟩ := hrel
                cases gk with
                | zero => exact absurd HA.out (by simp [impl_ConvexityOf.l1])
                | succ k2 =>
                  have H := HA.out
                  clear HA
                  simp only [impl_ConvexityOf.l1] at H
                  by_cases c10 : x24_2 < (l0.length : Int)
                  · rw [if_pos c10] at H
                    have c10b0 : decide (x24_2 < (l0.length : Int)) = true := decide_eq_true c10
                    clear c10
                    by_cases c11 : 0 ≤ x24_2
                    · rw [if_pos c11] at H
                      have c11b0 : decide (0 ≤ x24_2) = true := decide_eq_true c11
                      clear c11
                      by_cases c12 : x24_2 < (l0.length : Int)
                      · rw [if_pos c12] at H
                        have c12b0 : decide (x24_2 < (l0.length : Int)) = true := decide_eq_true c12
                        clear c12
                        have HC13 := Aside0.mk H
                        clear H
                        have p343 : 0 ≤ (x24_2 : Int) := of_decide_eq_true (by first | (with_reducible assumption) | assumption)
                        have q343 : x24_2 < (l0.length : Int) := of_decide_eq_true (by first | (with_reducible assumption) | assumption)
                        obtain ⟨ad343, e343, hx343_0, hx343_1⟩ := at_T34 HR0.out x24_2 p343 q343
                        obtain rfl : ad341 = ad343 := (by injection e343)
                        replace hx343_0 := (HB.out.cell (World.block_lt_of_cell? w _ hx343_0)).trans hx343_0
                        replace hx343_1 := (HB.out.cell (World.block_lt_of_cell? w _ hx343_1)).trans hx343_1
                        replace p343 := eq_true p343
                        replace q343 := eq_true q343
                        go_upto_block 4 with (first | ((with_reducible refine gate_dst (N := 10) rfl ?_); refine box_event ?hg (N := 10) ?hd (cs := #[.int .i64 0, .int .i64 0]) (t := 34) ?hr ?_; (case hd => rfl); (case hg => rfl); (case hr => first | (go_simp; done) | (go_simp; rfl)); intro gb344 hg w14 hbox hb; have n0_ := Aside0.mk (blk_below (g := gb342) (o := .cells #[.int .i64 ((rd_T34 l0 x18_1).f0), .int .i64 ((rd_T34 l0 x18_1).f1)] 34 (0, 0)) (by (with_reducible repeat (first | refine blk_drewN ?_ _ | refine blk_drew ?_ | refine blk_alloc ?_ _)); exact BK342.out) hb); have n1_ := Aside0.mk (below_step (by repeat (first | (with_reducible first | exact HB.out | apply below_alloc | apply pw_below_drewN | apply below_drew1 | refine below_set ?_ GE342.out) | exact HB.out)) hb); have n2_ := Aside0.mk (hbox); have n3_ := Aside0.mk ((by rw [hg]; exact (below_size (by repeat (first | (with_reducible first | exact HB.out | apply below_alloc | apply pw_below_drewN | apply below_drew1 | refine below_set ?_ GE342.out) | exact HB.out))) : w.heap.size ≤ gb344)); have n4_ := Aside0.mk ((by rw [hg]; exact (below_size (by repeat (first | (with_reducible first | exact HB.out | apply below_alloc | apply pw_below_drewN | apply below_drew1 | refine below_set ?_ GE342.out) | exact HB.out))) : w.heap.size ≤ gb344)); have n5_ := Aside0.mk ((by rw [hg]; exact Nat.ne_of_lt (blk_lt (g := gb342) (o := .cells #[.int .i64 ((rd_T34 l0 x18_1).f0), .int .i64 ((rd_T34 l0 x18_1).f1)] 34 (0, 0)) (by (with_reducible repeat (first | refine blk_drewN ?_ _ | refine blk_drew ?_ | refine blk_alloc ?_ _)); exact BK342.out)) : gb342 ≠ gb344)); have n6_ := Aside0.mk ((by rw [hg]; exact Nat.ne_of_gt (blk_lt (g := gb342) (o := .cells #[.int .i64 ((rd_T34 l0 x18_1).f0), .int .i64 ((rd_T34 l0 x18_1).f1)] 34 (0, 0)) (by (with_reducible repeat (first | refine blk_drewN ?_ _ | refine blk_drew ?_ | refine blk_alloc ?_ _)); exact BK342.out)) : gb344 ≠ gb342)); clear BK342; clear HB; have BK342 := n0_; have HB := n1_; have BK344 := n2_; have GW344 := n3_; have GE344 := n4_; have NB342_344 := n5_; have NB344_342 := n6_; clear n0_ n1_ n2_ n3_ n4_ n5_ n6_; clear hb hbox hg; have hnb15 := NB344_342.out; have hnc15 := NB342_344.out; have hcz16_0 : w14.cell? ⟨gb344, 0, none⟩ = some (.int .i64 0) := (blk_cell BK344.out 0).trans rfl; have hcz16_1 : w14.cell? ⟨gb344, 1, none⟩ = some (.int .i64 0) := (blk_cell BK344.out 1).trans rfl; have hfz16_0 := blk_frozen BK344.out 0; have hfz16_1 := blk_frozen BK344.out 1; have hcz17_0 : w14.cell? ⟨gb342, 0, none⟩ = some (.int .i64 ((rd_T34 l0 x18_1).f0)) := (blk_cell BK342.out 0).trans rfl; have hcz17_1 : w14.cell? ⟨gb342, 1, none⟩ = some (.int .i64 ((rd_T34 l0 x18_1).f1)) := (blk_cell BK342.out 1).trans rfl; have hfz17_0 := blk_frozen BK342.out 0; have hfz17_1 := blk_frozen BK342.out 1))
                        (try simp only [Act.put, List.setIfInBounds_toArray, List.set_cons_zero, List.set_cons_succ])
                        go_cut [5] (fun v5 wc => ∃ (kq : Nat) (x5_12 : Bool), v5 = .bool x5_12 ∧ Aside0 (impl_ConvexityOf.j3 kq l0 x5_12 x6_2 l0 (l0.length : Int) x18_1 l0 (l0.length : Int) x24_2 ((rd_T34 l0 x18_1).f0) ((rd_T34 l0 x18_1).f1) ((rd_T34 l0 x24_2).f0) ((rd_T34 l0 x24_2).f1) = some (r1, r2, r3)) ∧ Aside0 (kq ≤ k2) ∧ Aside0 (wc.heap[gb342]? = some (.cells #[.int .i64 ((rd_T34 l0 x18_1).f0), .int .i64 ((rd_T34 l0 x18_1).f1)] 34 (0, 0))) ∧ Aside0 (wc.heap[gb344]? = some (.cells #[.int .i64 ((rd_T34 l0 x24_2).f0), .int .i64 ((rd_T34 l0 x24_2).f1)] 34 (0, 0))) ∧ Aside0 (Below w.heap.size w wc))
                        case first =>
                          have H := HC13.out
                          clear HC13
                          have H' := Aside0.mk H
                          clear H
                          go_wp2
                          go_loopg [5, 11] k2 (fun kq v5 v11 w' => ∃ (x5_3 : Bool) (x11_3 : Int), v5 = .bool x5_3 ∧ v11 = .int .i64 x11_3 ∧ Aside0 (impl_ConvexityOf.l2 kq l0 x5_3 x6_2 x11_3 l0 (l0.length : Int) x18_1 l0 (l0.length : Int) x24_2 ((rd_T34 l0 x18_1).f0) ((rd_T34 l0 x18_1).f1) ((rd_T34 l0 x24_2).f0) ((rd_T34 l0 x24_2).f1) = some (r1, r2, r3)) ∧ Aside0 (kq ≤ k2) ∧ Aside0 (w'.heap[gb342]? = some (.cells #[.int .i64 ((rd_T34 l0 x18_1).f0), .int .i64 ((rd_T34 l0 x18_1).f1)] 34 (0, 0))) ∧ Aside0 (w'.heap[gb344]? = some (.cells #[.int .i64 ((rd_T34 l0 x24_2).f0), .int .i64 ((rd_T34 l0 x24_2).f1)] 34 (0, 0))) ∧ Aside0 (Below w.heap.size w w'))
                          case atStart => exact ⟨(x5_2), (wrap64 (((rd_T34 l0 x18_1).f0) + 1)), (by first | rfl | (simp; done) | (simp [*]; done)), (by first | rfl | (simp; done) | (simp [*]; done)), H', ⟨Nat.le_refl _⟩, ⟨by (with_reducible repeat (first | refine blk_drewN ?_ _ | refine blk_drew ?_ | refine blk_alloc ?_ _)); refine blk_far ?_ NB342_344.out _; (with_reducible repeat (first | refine blk_drewN ?_ _ | refine blk_drew ?_ | refine blk_alloc ?_ _)); refine blk_far ?_ NB342_344.out _; (with_reducible repeat (first | refine blk_drewN ?_ _ | refine blk_drew ?_ | refine blk_alloc ?_ _)); exact BK342.out⟩, ⟨by (with_reducible repeat (first | refine blk_drewN ?_ _ | refine blk_drew ?_ | refine blk_alloc ?_ _)); refine blk_put (cs := #[.int .i64 ((rd_T34 l0 x24_2).f0), .int .i64 0]) ?_ 1 _ rfl; (with_reducible repeat (first | refine blk_drewN ?_ _ | refine blk_drew ?_ | refine blk_alloc ?_ _)); refine blk_put (cs := #[.int .i64 0, .int .i64 0]) ?_ 0 _ rfl; (with_reducible repeat (first | refine blk_drewN ?_ _ | refine blk_drew ?_ | refine blk_alloc ?_ _)); exact BK344.out⟩, ⟨by repeat (first | (with_reducible first | exact HB.out | apply below_alloc | apply pw_below_drewN | apply below_drew1 | refine below_set ?_ GE342.out | refine below_set ?_ GE344.out) | exact HB.out)⟩⟩
                          case round =>
                            clear H'
                            try clear c1
                            try clear p2
                            try clear c3
                            try clear p3
                            try clear q3
                            try clear hx3
                            try clear c5
                            try clear c5b0
                            try clear c6
                            try clear c6b0
                            try clear p6
                            try clear c7
                            try clear c7b0
                            try clear c10
                            try clear c10b0
                            try clear c11
                            try clear c11b0
                            try clear c12
                            try clear c12b0
                            try clear c15
                            try clear hcz16_0
                            try clear hcz16_1
                            try clear hcz17_0
                            try clear hcz17_1
                            try clear hcz9_0
                            try clear hcz9_1
                            try clear hfz16_0
                            try clear hfz16_1
                            try clear hfz17_0
                            try clear hfz17_1
                            try clear hfz9_0
                            try clear hfz9_1
                            try clear hx341_0
                            try clear hx341_1
                            try clear hx343_0
                            try clear hx343_1
                            try clear p2
                            try clear p3
                            try clear p341
                            try clear p343
                            try clear q3
                            try clear q341
                            try clear q343
                            obtain ⟨x5_3, x11_3, rfl, rfl, HA, HK3, BK342, BK344, HB⟩ := hrel
                            cases gk with
                            | zero => exact absurd HA.out (by simp [impl_ConvexityOf.l2])
                            | succ k3 =>
                              have H := HA.out
                              clear HA
                              simp only [impl_ConvexityOf.l2] at H
                              by_cases c18 : ((rd_T34 l0 x18_1).f1) = ((rd_T34 l0 x24_2).f1)
                              · rw [if_pos c18] at H
                                have c18b0 : (((rd_T34 l0 x18_1).f1) == ((rd_T34 l0 x24_2).f1)) = true := beq_iff_eq.mpr c18
                                have c18b1 : (((rd_T34 l0 x18_1).f1) != ((rd_T34 l0 x24_2).f1)) = false := bne_eq_false_iff_eq.mpr c18
                                clear c18
                                (first | rw [c18b0] | (simp only [i64_w, i32_w]; rw [c18b0]) | skip)
                                by_cases c19 : x11_3 < ((rd_T34 l0 x24_2).f0)
                                · rw [if_pos c19] at H
                                  have c19b0 : decide (x11_3 < ((rd_T34 l0 x24_2).f0)) = true := decide_eq_true c19
                                  clear c19
                                  by_cases c20 : x5_3 = true
                                  · subst c20
                                    have H1 : ((slices_Contains_Cell.f k3 l0 x11_3 ((rd_T34 l0 x18_1).f1)).bind fun t345 => (impl_ConvexityOf.l2 k3 l0 t345 x6_2 (wrap64 (x11_3 + 1)) l0 (l0.length : Int) x18_1 l0 (l0.length : Int) x24_2 ((rd_T34 l0 x18_1).f0) ((rd_T34 l0 x18_1).f1) ((rd_T34 l0 x24_2).f0) ((rd_T34 l0 x24_2).f1))) = some (r1, r2, r3) := by rw [if_pos rfl] at H; exact H
                                    clear H
                                    have H := H1
                                    clear H1
                                    replace H := Option.bind_eq_some_iff.mp H
                                    obtain ⟨t345, A210, H⟩ := H
                                    replace H : (impl_ConvexityOf.l2 k3 l0 t345 x6_2 (wrap64 (x11_3 + 1)) l0 (l0.length : Int) x18_1 l0 (l0.length : Int) x24_2 ((rd_T34 l0 x18_1).f0) ((rd_T34 l0 x18_1).f1) ((rd_T34 l0 x24_2).f0) ((rd_T34 l0 x24_2).f1)) = some (r1, r2, r3) := H
                                    have A21 := Aside0.mk A210
                                    clear A210
                                    have H' := Aside0.mk H
                                    clear H
                                    have hnb22 := NB342_344.out
                                    have hnc22 := NB344_342.out
                                    have hcz23_0 : wr.cell? ⟨gb342, 0, none⟩ = some (.int .i64 ((rd_T34 l0 x18_1).f0)) := (blk_cell BK342.out 0).trans rfl
                                    have hcz23_1 : wr.cell? ⟨gb342, 1, none⟩ = some (.int .i64 ((rd_T34 l0 x18_1).f1)) := (blk_cell BK342.out 1).trans rfl
                                    have hfz23_0 := blk_frozen BK342.out 0
                                    have hfz23_1 := blk_frozen BK342.out 1
                                    have hcz24_0 : wr.cell? ⟨gb344, 0, none⟩ = some (.int .i64 ((rd_T34 l0 x24_2).f0)) := (blk_cell BK344.out 0).trans rfl
                                    have hcz24_1 : wr.cell? ⟨gb344, 1, none⟩ = some (.int .i64 ((rd_T34 l0 x24_2).f1)) := (blk_cell BK344.out 1).trans rfl
                                    have hfz24_0 := blk_frozen BK344.out 0
                                    have hfz24_1 := blk_frozen BK344.out 1
                                    go_wp2_with (first | (go_at_call 59; (with_reducible refine (slices_Contains_Cell.calls k3 _ _ l0 x11_3 ((rd_T34 l0 x18_1).f1) t345 _ ?side1 ?side2 A21.out).mono ?_); (case side1 => repeat (first | exact (Kd.C_below HR0.out HB.out) | (with_reducible refine Kd.C_alloc ?_ _) | (with_reducible refine Kd.C_drewN ?_ _) | (with_reducible refine Kd.C_drew ?_))); (case side2 => exact HC0.out); rintro e w25 ⟨rfl, hb⟩; have n0_ := Aside0.mk (blk_below (g := gb342) (o := .cells #[.int .i64 ((rd_T34 l0 x18_1).f0), .int .i64 ((rd_T34 l0 x18_1).f1)] 34 (0, 0)) (by (with_reducible repeat (first | refine blk_drewN ?_ _ | refine blk_drew ?_ | refine blk_alloc ?_ _)); exact BK342.out) hb); have n1_ := Aside0.mk (blk_below (g := gb344) (o := .cells #[.int .i64 ((rd_T34 l0 x24_2).f0), .int .i64 ((rd_T34 l0 x24_2).f1)] 34 (0, 0)) (by (with_reducible repeat (first | refine blk_drewN ?_ _ | refine blk_drew ?_ | refine blk_alloc ?_ _)); exact BK344.out) hb); have n2_ := Aside0.mk (below_step (by repeat (first | (with_reducible first | exact HB.out | apply below_alloc | apply pw_below_drewN | apply below_drew1 | refine below_set ?_ GE342.out | refine below_set ?_ GE344.out) | exact HB.out)) hb); clear BK342; clear BK344; clear HB; have BK342 := n0_; have BK344 := n1_; have HB := n2_; clear n0_ n1_ n2_; (try clear hb); (try clear hb2); (try clear hk); (try clear hi)))
                                    go_roundg k3
                                    case measure => have := HK1.out; have := HK2.out; have := HK3.out; omega
                                    case rel => exact ⟨(t345), (wrap64 (x11_3 + 1)), (by first | rfl | (simp; done) | (simp [*]; done)), (by first | rfl | (simp; done) | (simp [*]; done)), H', ⟨by have := HK1.out; have := HK2.out; have := HK3.out; omega⟩, ⟨by (with_reducible repeat (first | refine blk_drewN ?_ _ | refine blk_drew ?_ | refine blk_alloc ?_ _)); exact BK342.out⟩, ⟨by (with_reducible repeat (first | refine blk_drewN ?_ _ | refine blk_drew ?_ | refine blk_alloc ?_ _)); exact BK344.out⟩, ⟨by repeat (first | (with_reducible first | exact HB.out | apply below_alloc | apply pw_below_drewN | apply below_drew1 | refine below_set ?_ GE342.out | refine below_set ?_ GE344.out) | exact HB.out)⟩⟩
                                  · replace c20 := Bool.eq_false_iff.mpr c20
                                    subst c20
                                    have H1 : (impl_ConvexityOf.l2 k3 l0 false x6_2 (wrap64 (x11_3 + 1)) l0 (l0.length : Int) x18_1 l0 (l0.length : Int) x24_2 ((rd_T34 l0 x18_1).f0) ((rd_T34 l0 x18_1).f1) ((rd_T34 l0 x24_2).f0) ((rd_T34 l0 x24_2).f1)) = some (r1, r2, r3) := by rw [if_neg (show ¬ (false = true) by decide)] at H; exact H
                                    clear H
                                    have H := H1
                                    clear H1
                                    have H' := Aside0.mk H
                                    clear H
                                    have hnb26 := NB342_344.out
                                    have hnc26 := NB344_342.out
                                    have hcz27_0 : wr.cell? ⟨gb342, 0, none⟩ = some (.int .i64 ((rd_T34 l0 x18_1).f0)) := (blk_cell BK342.out 0).trans rfl
                                    have hcz27_1 : wr.cell? ⟨gb342, 1, none⟩ = some (.int .i64 ((rd_T34 l0 x18_1).f1)) := (blk_cell BK342.out 1).trans rfl
                                    have hfz27_0 := blk_frozen BK342.out 0
                                    have hfz27_1 := blk_frozen BK342.out 1
                                    have hcz28_0 : wr.cell? ⟨gb344, 0, none⟩ = some (.int .i64 ((rd_T34 l0 x24_2).f0)) := (blk_cell BK344.out 0).trans rfl
                                    have hcz28_1 : wr.cell? ⟨gb344, 1, none⟩ = some (.int .i64 ((rd_T34 l0 x24_2).f1)) := (blk_cell BK344.out 1).trans rfl
                                    have hfz28_0 := blk_frozen BK344.out 0
                                    have hfz28_1 := blk_frozen BK344.out 1
                                    go_wp2
                                    go_roundg k3
                                    case measure => have := HK1.out; have := HK2.out; have := HK3.out; omega
                                    case rel => exact ⟨(false), (wrap64 (x11_3 + 1)), (by first | rfl | (simp; done) | (simp [*]; done)), (by first | rfl | (simp; done) | (simp [*]; done)), H', ⟨by have := HK1.out; have := HK2.out; have := HK3.out; omega⟩, ⟨by (with_reducible repeat (first | refine blk_drewN ?_ _ | refine blk_drew ?_ | refine blk_alloc ?_ _)); exact BK342.out⟩, ⟨by (with_reducible repeat (first | refine blk_drewN ?_ _ | refine blk_drew ?_ | refine blk_alloc ?_ _)); exact BK344.out⟩, ⟨by repeat (first | (with_reducible first | exact HB.out | apply below_alloc | apply pw_below_drewN | apply below_drew1 | refine below_set ?_ GE342.out | refine below_set ?_ GE344.out) | exact HB.out)⟩⟩
                                · rw [if_neg c19] at H
                                  have c19b0 : decide (x11_3 < ((rd_T34 l0 x24_2).f0)) = false := decide_eq_false c19
                                  clear c19
                                  have H' := Aside0.mk H
                                  clear H
                                  have hnb29 := NB342_344.out
                                  have hnc29 := NB344_342.out
                                  have hcz30_0 : wr.cell? ⟨gb342, 0, none⟩ = some (.int .i64 ((rd_T34 l0 x18_1).f0)) := (blk_cell BK342.out 0).trans rfl
                                  have hcz30_1 : wr.cell? ⟨gb342, 1, none⟩ = some (.int .i64 ((rd_T34 l0 x18_1).f1)) := (blk_cell BK342.out 1).trans rfl
                                  have hfz30_0 := blk_frozen BK342.out 0
                                  have hfz30_1 := blk_frozen BK342.out 1
                                  have hcz31_0 : wr.cell? ⟨gb344, 0, none⟩ = some (.int .i64 ((rd_T34 l0 x24_2).f0)) := (blk_cell BK344.out 0).trans rfl
                                  have hcz31_1 : wr.cell? ⟨gb344, 1, none⟩ = some (.int .i64 ((rd_T34 l0 x24_2).f1)) := (blk_cell BK344.out 1).trans rfl
                                  have hfz31_0 := blk_frozen BK344.out 0
                                  have hfz31_1 := blk_frozen BK344.out 1
                                  go_wp2
                                  go_meet
                                  case rel => exact ⟨_, (x5_3), (by first | rfl | (simp; done) | (simp [*]; done)), H', ⟨by have := HK1.out; have := HK2.out; have := HK3.out; first | omega | exact Nat.le_refl _⟩, ⟨by (with_reducible repeat (first | refine blk_drewN ?_ _ | refine blk_drew ?_ | refine blk_alloc ?_ _)); exact BK342.out⟩, ⟨by (with_reducible repeat (first | refine blk_drewN ?_ _ | refine blk_drew ?_ | refine blk_alloc ?_ _)); exact BK344.out⟩, ⟨by repeat (first | (with_reducible first | exact HB.out | apply below_alloc | apply pw_below_drewN | apply below_drew1 | refine below_set ?_ GE342.out | refine below_set ?_ GE344.out) | exact HB.out)⟩⟩
                              · rw [if_neg c18] at H
                                have c18b0 : (((rd_T34 l0 x18_1).f1) == ((rd_T34 l0 x24_2).f1)) = false := beq_eq_false_iff_ne.mpr c18
                                have c18b1 : (((rd_T34 l0 x18_1).f1) != ((rd_T34 l0 x24_2).f1)) = true := bne_iff_ne.mpr c18
                                (first | rw [c18b0] | (simp only [i64_w, i32_w]; rw [c18b0]) | skip)
                                have H' := Aside0.mk H
                                clear H
                                have hnb32 := NB342_344.out
                                have hnc32 := NB344_342.out
                                have hcz33_0 : wr.cell? ⟨gb342, 0, none⟩ = some (.int .i64 ((rd_T34 l0 x18_1).f0)) := (blk_cell BK342.out 0).trans rfl
                                have hcz33_1 : wr.cell? ⟨gb342, 1, none⟩ = some (.int .i64 ((rd_T34 l0 x18_1).f1)) := (blk_cell BK342.out 1).trans rfl
                                have hfz33_0 := blk_frozen BK342.out 0
                                have hfz33_1 := blk_frozen BK342.out 1
                                have hcz34_0 : wr.cell? ⟨gb344, 0, none⟩ = some (.int .i64 ((rd_T34 l0 x24_2).f0)) := (blk_cell BK344.out 0).trans rfl
                                have hcz34_1 : wr.cell? ⟨gb344, 1, none⟩ = some (.int .i64 ((rd_T34 l0 x24_2).f1)) := (blk_cell BK344.out 1).trans rfl
                                have hfz34_0 := blk_frozen BK344.out 0
                                have hfz34_1 := blk_frozen BK344.out 1
                                go_wp2
                                go_meet
                                case rel => exact ⟨_, (x5_3), (by first | rfl | (simp; done) | (simp [*]; done)), H', ⟨by have := HK1.out; have := HK2.out; have := HK3.out; first | omega | exact Nat.le_refl _⟩, ⟨by (with_reducible repeat (first | refine blk_drewN ?_ _ | refine blk_drew ?_ | refine blk_alloc ?_ _)); exact BK342.out⟩, ⟨by (with_reducible repeat (first | refine blk_drewN ?_ _ | refine blk_drew ?_ | refine blk_alloc ?_ _)); exact BK344.out⟩, ⟨by repeat (first | (with_reducible first | exact HB.out | apply below_alloc | apply pw_below_drewN | apply below_drew1 | refine below_set ?_ GE342.out | refine below_set ?_ GE344.out) | exact HB.out)⟩⟩
                        case rest =>
                          clear HC13
                          try clear c1
                          try clear c2
                          try clear p2
                          try clear c3
                          try clear p3
                          try clear q3
                          try clear hx3
                          try clear c5
                          try clear c5b0
                          try clear c6
                          try clear c6b0
                          try clear p6
                          try clear c7
                          try clear c7b0
                          try clear c10
                          try clear c10b0
                          try clear c11
                          try clear c11b0
                          try clear c12
                          try clear c12b0
                          try clear c15
                          try clear c18
                          try clear c18b0
                          try clear c18b1
                          try clear c19
                          try clear c19b0
                          try clear c20
                          try clear c22
                          try clear c26
                          try clear c29
                          try clear c32
                          try clear p34
                          try clear q34
                          try clear hx34
                          try clear hcz16_0
                          try clear hcz16_1
                          try clear hcz17_0
                          try clear hcz17_1
                          try clear hcz23_0
                          try clear hcz23_1
                          try clear hcz24_0
                          try clear hcz24_1
                          try clear hcz27_0
                          try clear hcz27_1
                          try clear hcz28_0
                          try clear hcz28_1
                          try clear hcz30_0
                          try clear hcz30_1
                          try clear hcz31_0
                          try clear hcz31_1
                          try clear hcz33_0
                          try clear hcz33_1
                          try clear hcz34_0
                          try clear hcz34_1
                          try clear hcz9_0
                          try clear hcz9_1
                          try clear hfz16_0
                          try clear hfz16_1
                          try clear hfz17_0
                          try clear hfz17_1
                          try clear hfz23_0
                          try clear hfz23_1
                          try clear hfz24_0
                          try clear hfz24_1
                          try clear hfz27_0
                          try clear hfz27_1
                          try clear hfz28_0
                          try clear hfz28_1
                          try clear hfz30_0
                          try clear hfz30_1
                          try clear hfz31_0
                          try clear hfz31_1
                          try clear hfz33_0
                          try clear hfz33_1
                          try clear hfz34_0
                          try clear hfz34_1
                          try clear hfz9_0
                          try clear hfz9_1
                          try clear hx341_0
                          try clear hx341_1
                          try clear hx343_0
                          try clear hx343_1
                          try clear p2
                          try clear p3
                          try clear p341
                          try clear p343
                          try clear p6
                          try clear q3
                          try clear q341
                          try clear q343
                          obtain ⟨kq, x5_12, rfl, HA, HJ12, BK342, BK344, HB⟩ := hcut
                          cases kq with
                          | zero => exact absurd HA.out (by simp [impl_ConvexityOf.j3])
                          | succ kj12 =>
                            have H := HA.out
                            clear HA
                            simp only [impl_ConvexityOf.j3] at H
                            have H' := Aside0.mk H
                            clear H
                            have hnb35 := NB342_344.out
                            have hnc35 := NB344_342.out
                            have hcz36_0 : wc.cell? ⟨gb342, 0, none⟩ = some (.int .i64 ((rd_T34 l0 x18_1).f0)) := (blk_cell BK342.out 0).trans rfl
                            have hcz36_1 : wc.cell? ⟨gb342, 1, none⟩ = some (.int .i64 ((rd_T34 l0 x18_1).f1)) := (blk_cell BK342.out 1).trans rfl
                            have hfz36_0 := blk_frozen BK342.out 0
                            have hfz36_1 := blk_frozen BK342.out 1
                            go_wp2
                            go_loopg [6, 12] kj12 (fun kq v6 v12 w' => ∃ (x6_4 : Bool) (x12_4 : Int), v6 = .bool x6_4 ∧ v12 = .int .i64 x12_4 ∧ Aside0 (impl_ConvexityOf.l3 kq l0 x5_12 x6_4 x12_4 l0 (l0.length : Int) x18_1 l0 (l0.length : Int) x24_2 ((rd_T34 l0 x18_1).f0) ((rd_T34 l0 x18_1).f1) ((rd_T34 l0 x24_2).f0) ((rd_T34 l0 x24_2).f1) = some (r1, r2, r3)) ∧ Aside0 (kq ≤ kj12) ∧ Aside0 (w'.heap[gb342]? = some (.cells #[.int .i64 ((rd_T34 l0 x18_1).f0), .int .i64 ((rd_T34 l0 x18_1).f1)] 34 (0, 0))) ∧ Aside0 (w'.heap[gb344]? = some (.cells #[.int .i64 ((rd_T34 l0 x24_2).f0), .int .i64 ((rd_T34 l0 x24_2).f1)] 34 (0, 0))) ∧ Aside0 (Below w.heap.size w w'))
                            case atStart => exact ⟨(x6_2), (wrap64 (((rd_T34 l0 x18_1).f1) + 1)), (by first | rfl | (simp; done) | (simp [*]; done)), (by first | rfl | (simp; done) | (simp [*]; done)), H', ⟨Nat.le_refl _⟩, ⟨by (with_reducible repeat (first | refine blk_drewN ?_ _ | refine blk_drew ?_ | refine blk_alloc ?_ _)); exact BK342.out⟩, ⟨by (with_reducible repeat (first | refine blk_drewN ?_ _ | refine blk_drew ?_ | refine blk_alloc ?_ _)); exact BK344.out⟩, ⟨by repeat (first | (with_reducible first | exact HB.out | apply below_alloc | apply pw_below_drewN | apply below_drew1 | refine below_set ?_ GE342.out | refine below_set ?_ GE344.out) | exact HB.out)⟩⟩
                            case round =>
                              clear H'
                              try clear c1
                              try clear c2
                              try clear p2
                              try clear c3
                              try clear p3
                              try clear q3
                              try clear hx3
                              try clear c5
                              try clear c5b0
                              try clear c6
                              try clear c6b0
                              try clear p6
                              try clear c7
                              try clear c7b0
                              try clear c10
                              try clear c10b0
                              try clear c11
                              try clear c11b0
                              try clear c12
                              try clear c12b0
                              try clear c15
                              try clear c18
                              try clear c18b0
                              try clear c18b1
                              try clear c19
                              try clear c19b0
                              try clear c20
                              try clear c22
                              try clear c26
                              try clear c29
                              try clear c32
                              try clear p34
                              try clear q34
                              try clear hx34
                              try clear c35
                              try clear hcz16_0
                              try clear hcz16_1
                              try clear hcz17_0
                              try clear hcz17_1
                              try clear hcz23_0
                              try clear hcz23_1
                              try clear hcz24_0
                              try clear hcz24_1
                              try clear hcz27_0
                              try clear hcz27_1
                              try clear hcz28_0
                              try clear hcz28_1
                              try clear hcz30_0
                              try clear hcz30_1
                              try clear hcz31_0
                              try clear hcz31_1
                              try clear hcz33_0
                              try clear hcz33_1
                              try clear hcz34_0
                              try clear hcz34_1
                              try clear hcz36_0
                              try clear hcz36_1
                              try clear hcz9_0
                              try clear hcz9_1
                              try clear hfz16_0
                              try clear hfz16_1
                              try clear hfz17_0
                              try clear hfz17_1
                              try clear hfz23_0
                              try clear hfz23_1
                              try clear hfz24_0
                              try clear hfz24_1
                              try clear hfz27_0
                              try clear hfz27_1
                              try clear hfz28_0
                              try clear hfz28_1
                              try clear hfz30_0
                              try clear hfz30_1
                              try clear hfz31_0
                              try clear hfz31_1
                              try clear hfz33_0
                              try clear hfz33_1
                              try clear hfz34_0
                              try clear hfz34_1
                              try clear hfz36_0
                              try clear hfz36_1
                              try clear hfz9_0
                              try clear hfz9_1
                              try clear hx341_0
                              try clear hx341_1
                              try clear hx343_0
                              try clear hx343_1
                              try clear p2
                              try clear p3
                              try clear p34
                              try clear p341
                              try clear p343
                              try clear p6
                              try clear q3
                              try clear q34
                              try clear q341
                              try clear q343
                              obtain ⟨x6_4, x12_4, rfl, rfl, HA, HK4, BK342, BK344, HB⟩ := hrel
                              cases gk with
                              | zero => exact absurd HA.out (by simp [impl_ConvexityOf.l3])
                              | succ k4 =>
                                have H := HA.out
                                clear HA
                                simp only [impl_ConvexityOf.l3] at H
                                by_cases c37 : ((rd_T34 l0 x18_1).f0) = ((rd_T34 l0 x24_2).f0)
                                · rw [if_pos c37] at H
                                  have c37b0 : (((rd_T34 l0 x18_1).f0) == ((rd_T34 l0 x24_2).f0)) = true := beq_iff_eq.mpr c37
                                  have c37b1 : (((rd_T34 l0 x18_1).f0) != ((rd_T34 l0 x24_2).f0)) = false := bne_eq_false_iff_eq.mpr c37
                                  clear c37
                                  by_cases c38 : x12_4 < ((rd_T34 l0 x24_2).f1)
                                  · rw [if_pos c38] at H
                                    have c38b0 : decide (x12_4 < ((rd_T34 l0 x24_2).f1)) = true := decide_eq_true c38
                                    clear c38
                                    by_cases c39 : x6_4 = true
                                    · subst c39
                                      have H1 : ((slices_Contains_Cell.f k4 l0 ((rd_T34 l0 x18_1).f0) x12_4).bind fun t346 => (impl_ConvexityOf.l3 k4 l0 x5_12 t346 (wrap64 (x12_4 + 1)) l0 (l0.length : Int) x18_1 l0 (l0.length : Int) x24_2 ((rd_T34 l0 x18_1).f0) ((rd_T34 l0 x18_1).f1) ((rd_T34 l0 x24_2).f0) ((rd_T34 l0 x24_2).f1))) = some (r1, r2, r3) := by rw [if_pos rfl] at H; exact H
                                      clear H
                                      have H := H1
                                      clear H1
                                      replace H := Option.bind_eq_some_iff.mp H
                                      obtain ⟨t346, A400, H⟩ := H
                                      replace H : (impl_ConvexityOf.l3 k4 l0 x5_12 t346 (wrap64 (x12_4 + 1)) l0 (l0.length : Int) x18_1 l0 (l0.length : Int) x24_2 ((rd_T34 l0 x18_1).f0) ((rd_T34 l0 x18_1).f1) ((rd_T34 l0 x24_2).f0) ((rd_T34 l0 x24_2).f1)) = some (r1, r2, r3) := H
                                      have A40 := Aside0.mk A400
                                      clear A400
                                      have H' := Aside0.mk H
                                      clear H
                                      have hnb41 := NB342_344.out
                                      have hnc41 := NB344_342.out
                                      have hcz42_0 : wr.cell? ⟨gb342, 0, none⟩ = some (.int .i64 ((rd_T34 l0 x18_1).f0)) := (blk_cell BK342.out 0).trans rfl
                                      have hcz42_1 : wr.cell? ⟨gb342, 1, none⟩ = some (.int .i64 ((rd_T34 l0 x18_1).f1)) := (blk_cell BK342.out 1).trans rfl
                                      have hfz42_0 := blk_frozen BK342.out 0
                                      have hfz42_1 := blk_frozen BK342.out 1
                                      have hcz43_0 : wr.cell? ⟨gb344, 0, none⟩ = some (.int .i64 ((rd_T34 l0 x24_2).f0)) := (blk_cell BK344.out 0).trans rfl
                                      have hcz43_1 : wr.cell? ⟨gb344, 1, none⟩ = some (.int .i64 ((rd_T34 l0 x24_2).f1)) := (blk_cell BK344.out 1).trans rfl
                                      have hfz43_0 := blk_frozen BK344.out 0
                                      have hfz43_1 := blk_frozen BK344.out 1
                                      go_wp2_with (first | (go_at_call 59; (with_reducible refine (slices_Contains_Cell.calls k4 _ _ l0 ((rd_T34 l0 x18_1).f0) x12_4 t346 _ ?side1 ?side2 A40.out).mono ?_); (case side1 => repeat (first | exact (Kd.C_below HR0.out HB.out) | (with_reducible refine Kd.C_alloc ?_ _) | (with_reducible refine Kd.C_drewN ?_ _) | (with_reducible refine Kd.C_drew ?_))); (case side2 => exact HC0.out); rintro e w44 ⟨rfl, hb⟩; have n0_ := Aside0.mk (blk_below (g := gb342) (o := .cells #[.int .i64 ((rd_T34 l0 x18_1).f0), .int .i64 ((rd_T34 l0 x18_1).f1)] 34 (0, 0)) (by (with_reducible repeat (first | refine blk_drewN ?_ _ | refine blk_drew ?_ | refine blk_alloc ?_ _)); exact BK342.out) hb); have n1_ := Aside0.mk (blk_below (g := gb344) (o := .cells #[.int .i64 ((rd_T34 l0 x24_2).f0), .int .i64 ((rd_T34 l0 x24_2).f1)] 34 (0, 0)) (by (with_reducible repeat (first | refine blk_drewN ?_ _ | refine blk_drew ?_ | refine blk_alloc ?_ _)); exact BK344.out) hb); have n2_ := Aside0.mk (below_step (by repeat (first | (with_reducible first | exact HB.out | apply below_alloc | apply pw_below_drewN | apply below_drew1 | refine below_set ?_ GE342.out | refine below_set ?_ GE344.out) | exact HB.out)) hb); clear BK342; clear BK344; clear HB; have BK342 := n0_; have BK344 := n1_; have HB := n2_; clear n0_ n1_ n2_; (try clear hb); (try clear hb2); (try clear hk); (try clear hi)))
                                      go_roundg k4
                                      case measure => have := HK1.out; have := HK2.out; have := HJ12.out; have := HK4.out; omega
                                      case rel => exact ⟨(t346), (wrap64 (x12_4 + 1)), (by first | rfl | (simp; done) | (simp [*]; done)), (by first | rfl | (simp; done) | (simp [*]; done)), H', ⟨by have := HK1.out; have := HK2.out; have := HJ12.out; have := HK4.out; omega⟩, ⟨by (with_reducible repeat (first | refine blk_drewN ?_ _ | refine blk_drew ?_ | refine blk_alloc ?_ _)); exact BK342.out⟩, ⟨by (with_reducible repeat (first | refine blk_drewN ?_ _ | refine blk_drew ?_ | refine blk_alloc ?_ _)); exact BK344.out⟩, ⟨by repeat (first | (with_reducible first | exact HB.out | apply below_alloc | apply pw_below_drewN | apply below_drew1 | refine below_set ?_ GE342.out | refine below_set ?_ GE344.out) | exact HB.out)⟩⟩
                                    · replace c39 := Bool.eq_false_iff.mpr c39
                                      subst c39
                                      have H1 : (impl_ConvexityOf.l3 k4 l0 x5_12 false (wrap64 (x12_4 + 1)) l0 (l0.length : Int) x18_1 l0 (l0.length : Int) x24_2 ((rd_T34 l0 x18_1).f0) ((rd_T34 l0 x18_1).f1) ((rd_T34 l0 x24_2).f0) ((rd_T34 l0 x24_2).f1)) = some (r1, r2, r3) := by rw [if_neg (show ¬ (false = true) by decide)] at H; exact H
                                      clear H
                                      have H := H1
                                      clear H1
                                      have H' := Aside0.mk H
                                      clear H
                                      have hnb45 := NB342_344.out
                                      have hnc45 := NB344_342.out
                                      have hcz46_0 : wr.cell? ⟨gb342, 0, none⟩ = some (.int .i64 ((rd_T34 l0 x18_1).f0)) := (blk_cell BK342.out 0).trans rfl
                                      have hcz46_1 : wr.cell? ⟨gb342, 1, none⟩ = some (.int .i64 ((rd_T34 l0 x18_1).f1)) := (blk_cell BK342.out 1).trans rfl
                                      have hfz46_0 := blk_frozen BK342.out 0
                                      have hfz46_1 := blk_frozen BK342.out 1
                                      have hcz47_0 : wr.cell? ⟨gb344, 0, none⟩ = some (.int .i64 ((rd_T34 l0 x24_2).f0)) := (blk_cell BK344.out 0).trans rfl
                                      have hcz47_1 : wr.cell? ⟨gb344, 1, none⟩ = some (.int .i64 ((rd_T34 l0 x24_2).f1)) := (blk_cell BK344.out 1).trans rfl
                                      have hfz47_0 := blk_frozen BK344.out 0
                                      have hfz47_1 := blk_frozen BK344.out 1
                                      go_wp2
                                      go_roundg k4
                                      case measure => have := HK1.out; have := HK2.out; have := HJ12.out; have := HK4.out; omega
                                      case rel => exact ⟨(false), (wrap64 (x12_4 + 1)), (by first | rfl | (simp; done) | (simp [*]; done)), (by first | rfl | (simp; done) | (simp [*]; done)), H', ⟨by have := HK1.out; have := HK2.out; have := HJ12.out; have := HK4.out; omega⟩, ⟨by (with_reducible repeat (first | refine blk_drewN ?_ _ | refine blk_drew ?_ | refine blk_alloc ?_ _)); exact BK342.out⟩, ⟨by (with_reducible repeat (first | refine blk_drewN ?_ _ | refine blk_drew ?_ | refine blk_alloc ?_ _)); exact BK344.out⟩, ⟨by repeat (first | (with_reducible first | exact HB.out | apply below_alloc | apply pw_below_drewN | apply below_drew1 | refine below_set ?_ GE342.out | refine below_set ?_ GE344.out) | exact HB.out)⟩⟩
                                  · rw [if_neg c38] at H
                                    have c38b0 : decide (x12_4 < ((rd_T34 l0 x24_2).f1)) = false := decide_eq_false c38
                                    clear c38
                                    have H' := Aside0.mk H
                                    clear H
                                    have hnb48 := NB342_344.out
                                    have hnc48 := NB344_342.out
                                    have hcz49_0 : wr.cell? ⟨gb342, 0, none⟩ = some (.int .i64 ((rd_T34 l0 x18_1).f0)) := (blk_cell BK342.out 0).trans rfl
                                    have hcz49_1 : wr.cell? ⟨gb342, 1, none⟩ = some (.int .i64 ((rd_T34 l0 x18_1).f1)) := (blk_cell BK342.out 1).trans rfl
                                    have hfz49_0 := blk_frozen BK342.out 0
                                    have hfz49_1 := blk_frozen BK342.out 1
                                    have hcz50_0 : wr.cell? ⟨gb344, 0, none⟩ = some (.int .i64 ((rd_T34 l0 x24_2).f0)) := (blk_cell BK344.out 0).trans rfl
                                    have hcz50_1 : wr.cell? ⟨gb344, 1, none⟩ = some (.int .i64 ((rd_T34 l0 x24_2).f1)) := (blk_cell BK344.out 1).trans rfl
                                    have hfz50_0 := blk_frozen BK344.out 0
                                    have hfz50_1 := blk_frozen BK344.out 1
                                    go_wp2
                                    go_roundg k4
                                    case measure => have := HK1.out; have := HK2.out; have := HJ12.out; have := HK4.out; omega
                                    case rel => exact ⟨(x5_12), (x6_4), (wrap64 (x24_2 + 1)), (by first | rfl | (simp; done) | (simp [*]; done)), (by first | rfl | (simp; done) | (simp [*]; done)), (by first | rfl | (simp; done) | (simp [*]; done)), H', ⟨by have := HK1.out; have := HK2.out; have := HJ12.out; have := HK4.out; omega⟩, ⟨by (with_reducible repeat (first | refine blk_drewN ?_ _ | refine blk_drew ?_ | refine blk_alloc ?_ _)); exact BK342.out⟩, ⟨by repeat (first | (with_reducible first | exact HB.out | apply below_alloc | apply pw_below_drewN | apply below_drew1 | refine below_set ?_ GE342.out | refine below_set ?_ GE344.out) | exact HB.out)⟩⟩
                                · rw [if_neg c37] at H
                                  have c37b0 : (((rd_T34 l0 x18_1).f0) == ((rd_T34 l0 x24_2).f0)) = false := beq_eq_false_iff_ne.mpr c37
                                  have c37b1 : (((rd_T34 l0 x18_1).f0) != ((rd_T34 l0 x24_2).f0)) = true := bne_iff_ne.mpr c37
                                  have H' := Aside0.mk H
                                  clear H
                                  have hnb51 := NB342_344.out
                                  have hnc51 := NB344_342.out
                                  have hcz52_0 : wr.cell? ⟨gb342, 0, none⟩ = some (.int .i64 ((rd_T34 l0 x18_1).f0)) := (blk_cell BK342.out 0).trans rfl
                                  have hcz52_1 : wr.cell? ⟨gb342, 1, none⟩ = some (.int .i64 ((rd_T34 l0 x18_1).f1)) := (blk_cell BK342.out 1).trans rfl
                                  have hfz52_0 := blk_frozen BK342.out 0
                                  have hfz52_1 := blk_frozen BK342.out 1
                                  have hcz53_0 : wr.cell? ⟨gb344, 0, none⟩ = some (.int .i64 ((rd_T34 l0 x24_2).f0)) := (blk_cell BK344.out 0).trans rfl
                                  have hcz53_1 : wr.cell? ⟨gb344, 1, none⟩ = some (.int .i64 ((rd_T34 l0 x24_2).f1)) := (blk_cell BK344.out 1).trans rfl
                                  have hfz53_0 := blk_frozen BK344.out 0
                                  have hfz53_1 := blk_frozen BK344.out 1
                                  go_wp2
                                  go_roundg k4
                                  case measure => have := HK1.out; have := HK2.out; have := HJ12.out; have := HK4.out; omega
                                  case rel => exact ⟨(x5_12), (x6_4), (wrap64 (x24_2 + 1)), (by first | rfl | (simp; done) | (simp [*]; done)), (by first | rfl | (simp; done) | (simp [*]; done)), (by first | rfl | (simp; done) | (simp [*]; done)), H', ⟨by have := HK1.out; have := HK2.out; have := HJ12.out; have := HK4.out; omega⟩, ⟨by (with_reducible repeat (first | refine blk_drewN ?_ _ | refine blk_drew ?_ | refine blk_alloc ?_ _)); exact BK342.out⟩, ⟨by repeat (first | (with_reducible first | exact HB.out | apply below_alloc | apply pw_below_drewN | apply below_drew1 | refine below_set ?_ GE342.out | refine below_set ?_ GE344.out) | exact HB.out)⟩⟩
                      · rw [if_neg c12] at H
                        exact absurd H (by simp)
                    · rw [if_neg c11] at H
                      exact absurd H (by simp)
                  · rw [if_neg c10] at H
                    have c10b0 : decide (x24_2 < (l0.length : Int)) = false := decide_eq_false c10
                    clear c10
                    have H' := Aside0.mk H
                    clear H
                    go_wp2
                    go_roundg k2
                    case measure => have := HK1.out; have := HK2.out; omega
                    case rel => exact ⟨(x5_2), (x6_2), (wrap64 (x18_1 + 1)), (by first | rfl | (simp; done) | (simp [*]; done)), (by first | rfl | (simp; done) | (simp [*]; done)), (by first | rfl | (simp; done) | (simp [*]; done)), H', ⟨by have := HK1.out; have := HK2.out; omega⟩, ⟨by repeat (first | (with_reducible first | exact HB.out | apply below_alloc | apply pw_below_drewN | apply below_drew1 | refine below_set ?_ GE342.out) | exact HB.out)⟩⟩
            · rw [if_neg c7] at H
              exact absurd H (by simp)
          · rw [if_neg c6] at H
            exact absurd H (by simp)
        · rw [if_neg c5] at H
          have c5b0 : decide (x18_1 < (l0.length : Int)) = false := decide_eq_false c5
          clear c5
          simp only [Option.some.injEq, Prod.mk.injEq] at H
          obtain ⟨rfl, rfl, rfl⟩ := H
          go_wp2
          go_ret3
          exact ⟨by first | rfl | (simp [errW_none, errW_some] <;> rfl) | (simp [*, errW_none, errW_some] <;> rfl), by repeat (first | (with_reducible first | exact HB.out | apply below_alloc | apply pw_below_drewN | apply below_drew1) | exact HB.out)⟩
  · replace c3 := Bool.eq_false_iff.mpr c3
    subst c3
    have H1 : (some (false, false, 1)) = some (r1, r2, r3) := by rw [if_neg (show ¬ (false = true) by decide)] at H; exact H
    clear H
    have H := H1
    clear H1
    simp only [Option.some.injEq, Prod.mk.injEq] at H
    obtain ⟨rfl, rfl, rfl⟩ := H
    go_enter Try.func35, Try.ntmps35
    go_wp2_with (first | ((with_reducible refine gate_callee (f := 19) rfl ?_); refine goesL_ (some 14) rfl rfl Try.func19 (by kernel_rfl) rfl #[.slice A0 l0.length c0] rfl (by (try simp only [List.map_toArray, List.map_cons, List.map_nil]); first | done | rfl | (simp only [List.length_drop, List.length_take]; rfl)) ?_; (with_reducible refine (impl_IsShape.calls k _ _ l0 false _ ?side1 ?side2 A2.out).mono ?_); (case side1 => repeat (first | exact HR0.out | (with_reducible refine Kd.C_alloc ?_ _) | (with_reducible refine Kd.C_drewN ?_ _) | (with_reducible refine Kd.C_drew ?_))); (case side2 => exact HC0.out); rintro e w54 ⟨rfl, hb⟩; refine ⟨_, rfl, ?_⟩; have n0_ := Aside0.mk (below_step (by repeat (first | (with_reducible first | exact HB.out | apply below_alloc | apply pw_below_drewN | apply below_drew1) | exact HB.out)) hb); clear HB; have HB := n0_; clear n0_; (try clear hb); (try clear hb2); (try clear hk); (try clear hi)))
    go_ret3
    exact ⟨by first | rfl | (simp [errW_none, errW_some] <;> rfl) | (simp [*, errW_none, errW_some] <;> rfl), by repeat (first | (with_reducible first | exact HB.out | apply below_alloc | apply pw_below_drewN | apply below_drew1) | exact HB.out)⟩

/-! ### laws_FnExactConvexityOf: function 10 -/
def laws_FnExactConvexityOf.j0 : Nat → List (S32) → List (S34) → Bool → Option (Bool)
  | 0, _, _, _ => none
  | k + 1, x0, x7, x43 => if x43 = true then (some false) else ((laws_toCellS.f k x0).bind fun t360 => ((laws_eqCellS.f k x7 t360).bind fun t363 => (if t363 = true then (some true) else (some false))))
def laws_FnExactConvexityOf.f (k : Nat) (l0 : List (S32)) : Option (Bool) := (laws_szCellS.f l0 1048576).bind fun t347 => (if t347 < 0 then (some true) else ((laws_toCellS.f k l0).bind fun t348 => ((spec_ConvexityOf.f k t348).bind fun bt351 => ((laws_toCellS.f k l0).bind fun t354 => ((impl_ConvexityOf.f k t354).bind fun bt357 => (if (bt357.1 != bt351.1) = true then (laws_FnExactConvexityOf.j0 k l0 t354 true) else (if (bt357.2.1 != bt351.2.1) = true then (laws_FnExactConvexityOf.j0 k l0 t354 true) else (laws_FnExactConvexityOf.j0 k l0 t354 (bt357.2.2 != bt351.2.2)))))))))
theorem laws_FnExactConvexityOf.mono_l : ∀ k, (∀ y0 y1 y2, LeO (laws_FnExactConvexityOf.j0 k y0 y1 y2) (laws_FnExactConvexityOf.j0 (k + 1) y0 y1 y2))
  | 0 => fun _ _ _ r h => by simp [laws_FnExactConvexityOf.j0] at h
  | k + 1 => by
    have ih0 := laws_FnExactConvexityOf.mono_l k
    · intro y0 y1 y2
      unfold laws_FnExactConvexityOf.j0
      repeat' first
      | (with_reducible exact ih0 _ _ _)
      | (with_reducible exact impl_ConvexityOf.mono _ _)
      | (with_reducible exact laws_eqCellS.mono _ _ _)
      | (with_reducible exact laws_toCellS.mono _ _)
      | (with_reducible exact spec_ConvexityOf.mono _ _)
      | (with_reducible exact LeO.refl _)
      | (with_reducible exact LeO.none _)
      | (with_reducible refine LeO.ite ?_ ?_)
      | (with_reducible refine LeO.bind ?_ (fun _ => ?_))
      | exact ih0 _ _ _
      | exact impl_ConvexityOf.mono _ _
      | exact laws_eqCellS.mono _ _ _
      | exact laws_toCellS.mono _ _
      | exact spec_ConvexityOf.mono _ _
      | exact LeO.none _
      | refine LeO.ite ?_ ?_
      | refine LeO.bind ?_ (fun _ => ?_)
theorem laws_FnExactConvexityOf.mono : ∀ a0 k, LeO (laws_FnExactConvexityOf.f k a0) (laws_FnExactConvexityOf.f (k + 1) a0) := by
  intro a0 k
  have ih0 := laws_FnExactConvexityOf.mono_l k
  unfold laws_FnExactConvexityOf.f
  repeat' first
      | (with_reducible exact ih0 _ _ _)
      | (with_reducible exact impl_ConvexityOf.mono _ _)
      | (with_reducible exact laws_eqCellS.mono _ _ _)
      | (with_reducible exact laws_toCellS.mono _ _)
      | (with_reducible exact spec_ConvexityOf.mono _ _)
      | (with_reducible exact LeO.refl _)
      | (with_reducible exact LeO.none _)
      | (with_reducible refine LeO.ite ?_ ?_)
      | (with_reducible refine LeO.bind ?_ (fun _ => ?_))
      | exact ih0 _ _ _
      | exact impl_ConvexityOf.mono _ _
      | exact laws_eqCellS.mono _ _ _
      | exact laws_toCellS.mono _ _
      | exact spec_ConvexityOf.mono _ _
      | exact LeO.none _
      | refine LeO.ite ?_ ?_
      | refine LeO.bind ?_ (fun _ => ?_)
set_option maxHeartbeats 8000000 in
set_option maxRecDepth 100000 in
theorem laws_FnExactConvexityOf.calls (k : Nat) (A0 : Option Addr) (c0 : Nat) (l0 : List (S32)) (r : Bool) (w : World) (hr0 : Kd.C k32 w A0 l0.length l0) (hc0 : l0.length ≤ c0) (h : laws_FnExactConvexityOf.f k l0 = some r) :
    Calls Try.prog 10 #[.slice A0 l0.length c0] w fun e w' => e = .returned (.bool r) ∧ Below w.heap.size w w' := by
  have HR0 := Aside0.mk hr0
  have HC0 := Aside0.mk hc0
  clear hr0 hc0
  have HB := Aside0.mk (Below.refl w.heap.size w)
  have H : ((laws_szCellS.f l0 1048576).bind fun t347 => (if t347 < 0 then (some true) else ((laws_toCellS.f k l0).bind fun t348 => ((spec_ConvexityOf.f k t348).bind fun bt351 => ((laws_toCellS.f k l0).bind fun t354 => ((impl_ConvexityOf.f k t354).bind fun bt357 => (if (bt357.1 != bt351.1) = true then (laws_FnExactConvexityOf.j0 k l0 t354 true) else (if (bt357.2.1 != bt351.2.1) = true then (laws_FnExactConvexityOf.j0 k l0 t354 true) else (laws_FnExactConvexityOf.j0 k l0 t354 (bt357.2.2 != bt351.2.2)))))))))) = some r := h
  clear h
  replace H := Option.bind_eq_some_iff.mp H
  obtain ⟨t347, A20, H⟩ := H
  replace H : (if t347 < 0 then (some true) else ((laws_toCellS.f k l0).bind fun t348 => ((spec_ConvexityOf.f k t348).bind fun bt351 => ((laws_toCellS.f k l0).bind fun t354 => ((impl_ConvexityOf.f k t354).bind fun bt357 => (if (bt357.1 != bt351.1) = true then (laws_FnExactConvexityOf.j0 k l0 t354 true) else (if (bt357.2.1 != bt351.2.1) = true then (laws_FnExactConvexityOf.j0 k l0 t354 true) else (laws_FnExactConvexityOf.j0 k l0 t354 (bt357.2.2 != bt351.2.2))))))))) = some r := H
  have A2 := Aside0.mk A20
  clear A20
  by_cases c3 : t347 < 0
  · rw [if_pos c3] at H
    have c3b0 : decide (t347 < 0) = true := decide_eq_true c3
    clear c3
    obtain rfl := Option.some.inj H
    go_enter Try.func10, Try.ntmps10
    go_wp2_with (first | ((with_reducible refine gate_callee (f := 16) rfl ?_); refine goesL_ (some 13) rfl rfl Try.func16 (by kernel_rfl) rfl #[.slice A0 l0.length c0, .int .i64 1048576] rfl (by (try simp only [List.map_toArray, List.map_cons, List.map_nil]); first | done | rfl | (simp only [List.length_drop, List.length_take]; rfl)) ?_; (with_reducible refine (laws_szCellS.calls _ _ l0 1048576 t347 _ ?side1 ?side2 A2.out).mono ?_); (case side1 => repeat (first | exact HR0.out | (with_reducible refine Kd.C_alloc ?_ _) | (with_reducible refine Kd.C_drewN ?_ _) | (with_reducible refine Kd.C_drew ?_))); (case side2 => exact HC0.out); rintro e w' ⟨rfl, ⟨nd, rfl⟩⟩; refine ⟨_, rfl, ?_⟩))
    go_ret
    exact ⟨by first | rfl | (simp [errW_none, errW_some] <;> rfl) | (simp [*, errW_none, errW_some] <;> rfl), by repeat (first | (with_reducible first | exact HB.out | apply below_alloc | apply pw_below_drewN | apply below_drew1) | exact HB.out)⟩
  · rw [if_neg c3] at H
    have c3b0 : decide (t347 < 0) = false := decide_eq_false c3
    clear c3
    replace H := Option.bind_eq_some_iff.mp H
    obtain ⟨t348, A40, H⟩ := H
    replace H : ((spec_ConvexityOf.f k t348).bind fun bt351 => ((laws_toCellS.f k l0).bind fun t354 => ((impl_ConvexityOf.f k t354).bind fun bt357 => (if (bt357.1 != bt351.1) = true then (laws_FnExactConvexityOf.j0 k l0 t354 true) else (if (bt357.2.1 != bt351.2.1) = true then (laws_FnExactConvexityOf.j0 k l0 t354 true) else (laws_FnExactConvexityOf.j0 k l0 t354 (bt357.2.2 != bt351.2.2))))))) = some r := H
    have A4 := Aside0.mk A40
    clear A40
    replace H := Option.bind_eq_some_iff.mp H
    obtain ⟨⟨t351, t352, t353⟩, A50, H⟩ := H
    replace H : ((laws_toCellS.f k l0).bind fun t354 => ((impl_ConvexityOf.f k t354).bind fun bt357 => (if (bt357.1 != t351) = true then (laws_FnExactConvexityOf.j0 k l0 t354 true) else (if (bt357.2.1 != t352) = true then (laws_FnExactConvexityOf.j0 k l0 t354 true) else (laws_FnExactConvexityOf.j0 k l0 t354 (bt357.2.2 != t353)))))) = some r := H
    have A5 := Aside0.mk A50
    clear A50
    replace H := Option.bind_eq_some_iff.mp H
    obtain ⟨t354, A60, H⟩ := H
    replace H : ((impl_ConvexityOf.f k t354).bind fun bt357 => (if (bt357.1 != t351) = true then (laws_FnExactConvexityOf.j0 k l0 t354 true) else (if (bt357.2.1 != t352) = true then (laws_FnExactConvexityOf.j0 k l0 t354 true) else (laws_FnExactConvexityOf.j0 k l0 t354 (bt357.2.2 != t353))))) = some r := H
    have A6 := Aside0.mk A60
    clear A60
    replace H := Option.bind_eq_some_iff.mp H
    obtain ⟨⟨t357, t358, t359⟩, A70, H⟩ := H
    replace H : (if (t357 != t351) = true then (laws_FnExactConvexityOf.j0 k l0 t354 true) else (if (t358 != t352) = true then (laws_FnExactConvexityOf.j0 k l0 t354 true) else (laws_FnExactConvexityOf.j0 k l0 t354 (t359 != t353)))) = some r := H
    have A7 := Aside0.mk A70
    clear A70
    have HC8 := Aside0.mk H
    clear H
    go_enter Try.func10, Try.ntmps10
    go_upto_region 8 with (first | ((with_reducible refine gate_callee (f := 16) rfl ?_); refine goesL_ (some 13) rfl rfl Try.func16 (by kernel_rfl) rfl #[.slice A0 l0.length c0, .int .i64 1048576] rfl (by (try simp only [List.map_toArray, List.map_cons, List.map_nil]); first | done | rfl | (simp only [List.length_drop, List.length_take]; rfl)) ?_; (with_reducible refine (laws_szCellS.calls _ _ l0 1048576 t347 _ ?side1 ?side2 A2.out).mono ?_); (case side1 => repeat (first | exact HR0.out | (with_reducible refine Kd.C_alloc ?_ _) | (with_reducible refine Kd.C_drewN ?_ _) | (with_reducible refine Kd.C_drew ?_))); (case side2 => exact HC0.out); rintro e w' ⟨rfl, ⟨nd, rfl⟩⟩; refine ⟨_, rfl, ?_⟩) | ((with_reducible refine gate_callee (f := 18) rfl ?_); refine goesL_ (some 18) rfl rfl Try.func18 (by kernel_rfl) rfl #[.slice A0 l0.length c0] rfl (by (try simp only [List.map_toArray, List.map_cons, List.map_nil]); first | done | rfl | (simp only [List.length_drop, List.length_take]; rfl)) ?_; (with_reducible refine (laws_toCellS.calls k _ _ l0 t348 _ ?side1 ?side2 A4.out).mono ?_); (case side1 => repeat (first | exact HR0.out | (with_reducible refine Kd.C_alloc ?_ _) | (with_reducible refine Kd.C_drewN ?_ _) | (with_reducible refine Kd.C_drew ?_))); (case side2 => exact HC0.out); rintro e w9 ⟨v349, rfl, ho0, hb⟩; refine ⟨_, rfl, ?_⟩; have n0_ := Aside0.mk (Kd.R_lower ho0 (below_size (by repeat (first | (with_reducible first | exact HB.out | apply below_alloc | apply pw_below_drewN | apply below_drew1) | exact HB.out)))); have n1_ := Aside0.mk (below_step (by repeat (first | (with_reducible first | exact HB.out | apply below_alloc | apply pw_below_drewN | apply below_drew1) | exact HB.out)) hb); clear HB; have HO350 := n0_; have HB := n1_; clear n0_ n1_; (try clear hb); (try clear hb2); (try clear hk); (try clear hi); (try clear ho0); obtain ⟨Ao10, co10, eo10⟩ := Kd.R_slice HO350.out; subst eo10) | ((with_reducible refine gate_callee (f := 34) rfl ?_); refine goesL_ (some 19) rfl rfl Try.func34 (by kernel_rfl) rfl #[.slice Ao10 t348.length co10] rfl (by (try simp only [List.map_toArray, List.map_cons, List.map_nil]); first | done | rfl | (simp only [List.length_drop, List.length_take]; rfl)) ?_; (with_reducible refine (spec_ConvexityOf.calls k _ _ t348 t351 t352 t353 _ ?side1 ?side2 A5.out).mono ?_); (case side1 => repeat (first | exact (Kd.R_reads' HO350.out).2.2 | (with_reducible refine Kd.C_alloc ?_ _) | (with_reducible refine Kd.C_drewN ?_ _) | (with_reducible refine Kd.C_drew ?_))); (case side2 => exact (Kd.R_reads' HO350.out).2.1); rintro e w11 ⟨rfl, hb⟩; refine ⟨_, rfl, ?_⟩; have n0_ := Aside0.mk (Kd.R_below (by (with_reducible repeat (first | apply Kd.R_alloc | apply Kd.R_drewN | apply Kd.R_drew)); exact HO350.out) hb); have n1_ := Aside0.mk (below_step (by repeat (first | (with_reducible first | exact HB.out | apply below_alloc | apply pw_below_drewN | apply below_drew1) | exact HB.out)) hb); clear HO350; clear HB; have HO350 := n0_; have HB := n1_; clear n0_ n1_; (try clear hb); (try clear hb2); (try clear hk); (try clear hi)) | ((with_reducible refine gate_callee (f := 18) rfl ?_); refine goesL_ (some 24) rfl rfl Try.func18 (by kernel_rfl) rfl #[.slice A0 l0.length c0] rfl (by (try simp only [List.map_toArray, List.map_cons, List.map_nil]); first | done | rfl | (simp only [List.length_drop, List.length_take]; rfl)) ?_; (with_reducible refine (laws_toCellS.calls k _ _ l0 t354 _ ?side1 ?side2 A6.out).mono ?_); (case side1 => repeat (first | exact (Kd.C_below HR0.out HB.out) | (with_reducible refine Kd.C_alloc ?_ _) | (with_reducible refine Kd.C_drewN ?_ _) | (with_reducible refine Kd.C_drew ?_))); (case side2 => exact HC0.out); rintro e w12 ⟨v355, rfl, ho0, hb⟩; refine ⟨_, rfl, ?_⟩; have n0_ := Aside0.mk (Kd.R_elder' (by (with_reducible repeat (first | apply Kd.R_alloc | apply Kd.R_drewN | apply Kd.R_drew)); exact HO350.out) (Kd.R_base ho0) hb); have n1_ := Aside0.mk (Kd.R_lower (Kd.R_new' ho0 (Kd.R_lt (by (with_reducible repeat (first | apply Kd.R_alloc | apply Kd.R_drewN | apply Kd.R_drew)); exact HO350.out))) (below_size (by repeat (first | (with_reducible first | exact HB.out | apply below_alloc | apply pw_below_drewN | apply below_drew1) | exact HB.out)))); have n2_ := Aside0.mk (below_step (by repeat (first | (with_reducible first | exact HB.out | apply below_alloc | apply pw_below_drewN | apply below_drew1) | exact HB.out)) hb); clear HO350; clear HB; have HO350 := n0_; have HO356 := n1_; have HB := n2_; clear n0_ n1_ n2_; (try clear hb); (try clear hb2); (try clear hk); (try clear hi); (try clear ho0); obtain ⟨Ao13, co13, eo13⟩ := Kd.R_slice HO356.out; subst eo13) | ((with_reducible refine gate_callee (f := 35) rfl ?_); refine goesL_ (some 27) rfl rfl Try.func35 (by kernel_rfl) rfl #[.slice Ao13 t354.length co13] rfl (by (try simp only [List.map_toArray, List.map_cons, List.map_nil]); first | done | rfl | (simp only [List.length_drop, List.length_take]; rfl)) ?_; (with_reducible refine (impl_ConvexityOf.calls k _ _ t354 t357 t358 t359 _ ?side1 ?side2 A7.out).mono ?_); (case side1 => repeat (first | exact (Kd.R_reads' HO356.out).2.2 | (with_reducible refine Kd.C_alloc ?_ _) | (with_reducible refine Kd.C_drewN ?_ _) | (with_reducible refine Kd.C_drew ?_))); (case side2 => exact (Kd.R_reads' HO356.out).2.1); rintro e w14 ⟨rfl, hb⟩; refine ⟨_, rfl, ?_⟩; have n0_ := Aside0.mk (Kd.R_below (by (with_reducible repeat (first | apply Kd.R_alloc | apply Kd.R_drewN | apply Kd.R_drew)); exact HO350.out) hb); have n1_ := Aside0.mk (Kd.R_below (by (with_reducible repeat (first | apply Kd.R_alloc | apply Kd.R_drewN | apply Kd.R_drew)); exact HO356.out) hb); have n2_ := Aside0.mk (below_step (by repeat (first | (with_reducible first | exact HB.out | apply below_alloc | apply pw_below_drewN | apply below_drew1) | exact HB.out)) hb); clear HO350; clear HO356; clear HB; have HO350 := n0_; have HO356 := n1_; have HB := n2_; clear n0_ n1_ n2_; (try clear hb); (try clear hb2); (try clear hk); (try clear hi)))
    (try simp only [Act.put, List.setIfInBounds_toArray, List.set_cons_zero, List.set_cons_succ])
    go_cut [43] (fun v43 wc => ∃ (kq : Nat) (x43_7 : Bool), v43 = .bool x43_7 ∧ Aside0 (laws_FnExactConvexityOf.j0 kq l0 t354 x43_7 = some r) ∧ Aside0 (kq ≤ k) ∧ Aside0 (Kd.R k34 34 wc w.heap.size (fun _ => True) (.slice Ao13 t354.length co13) t354) ∧ Aside0 (Below w.heap.size w wc))
    case first =>
      have H := HC8.out
      clear HC8
      by_cases c15 : (t357 != t351) = true
      · rw [if_pos c15] at H
        have c15b0 : (t357 != t351) = true := c15
        (try (have c15b1 : decide (t357 = t351) = false := by simpa using c15))
        (try (have c15b2 : (t357 == t351) = false := by simpa using c15))
        (try (have c15b3 : ¬ (t357 = t351) := by simpa using c15))
        clear c15
        (first | rw [c15b0] | (simp only [i64_w, i32_w]; rw [c15b0]) | skip)
        have H' := Aside0.mk H
        clear H
        go_wp2
        go_meet
        case rel => exact ⟨_, (true), (by first | rfl | (simp; done) | (simp [*]; done)), H', ⟨by first | omega | exact Nat.le_refl _⟩, ⟨by (with_reducible repeat (first | apply Kd.R_alloc | apply Kd.R_drewN | apply Kd.R_drew)); exact Kd.R_mono HO356.out (fun _ hk => trivial)⟩, ⟨by repeat (first | (with_reducible first | exact HB.out | apply below_alloc | apply pw_below_drewN | apply below_drew1) | exact HB.out)⟩⟩
      · rw [if_neg c15] at H
        have c15b0 : (t357 != t351) = false := by simpa using c15
        (try (have c15b1 : decide (t357 = t351) = true := by simpa using c15))
        (try (have c15b2 : (t357 == t351) = true := by simpa using c15))
        clear c15
        (first | rw [c15b0] | (simp only [i64_w, i32_w]; rw [c15b0]) | skip)
        by_cases c16 : (t358 != t352) = true
        · rw [if_pos c16] at H
          have c16b0 : (t358 != t352) = true := c16
          (try (have c16b1 : decide (t358 = t352) = false := by simpa using c16))
          (try (have c16b2 : (t358 == t352) = false := by simpa using c16))
          (try (have c16b3 : ¬ (t358 = t352) := by simpa using c16))
          clear c16
          have H' := Aside0.mk H
          clear H
          go_wp2
          go_meet
          case rel => exact ⟨_, (true), (by first | rfl | (simp; done) | (simp [*]; done)), H', ⟨by first | omega | exact Nat.le_refl _⟩, ⟨by (with_reducible repeat (first | apply Kd.R_alloc | apply Kd.R_drewN | apply Kd.R_drew)); exact Kd.R_mono HO356.out (fun _ hk => trivial)⟩, ⟨by repeat (first | (with_reducible first | exact HB.out | apply below_alloc | apply pw_below_drewN | apply below_drew1) | exact HB.out)⟩⟩
        · rw [if_neg c16] at H
          have c16b0 : (t358 != t352) = false := by simpa using c16
          (try (have c16b1 : decide (t358 = t352) = true := by simpa using c16))
          (try (have c16b2 : (t358 == t352) = true := by simpa using c16))
          clear c16
          have H' := Aside0.mk H
          clear H
          go_wp2
          go_meet
          case rel => exact ⟨_, ((t359 != t353)), (by first | rfl | (simp; done) | (simp [*]; done)), H', ⟨by first | omega | exact Nat.le_refl _⟩, ⟨by (with_reducible repeat (first | apply Kd.R_alloc | apply Kd.R_drewN | apply Kd.R_drew)); exact Kd.R_mono HO356.out (fun _ hk => trivial)⟩, ⟨by repeat (first | (with_reducible first | exact HB.out | apply below_alloc | apply pw_below_drewN | apply below_drew1) | exact HB.out)⟩⟩
    case rest =>
      clear HC8
      try clear c1
      try clear p2
      try clear c3
      try clear c3b0
      try clear c10
      try clear c15
      try clear c15b0
      try clear c15b1
      try clear c15b2
      try clear c16
      try clear c16b0
      try clear c16b1
      try clear c16b2
      obtain ⟨kq, x43_7, rfl, HA, HJ7, HO_7, HB⟩ := hcut
      cases kq with
      | zero => exact absurd HA.out (by simp [laws_FnExactConvexityOf.j0])
      | succ kj7 =>
        have H := HA.out
        clear HA
        simp only [laws_FnExactConvexityOf.j0] at H
        by_cases c17 : x43_7 = true
        · subst c17
          have H1 : (some false) = some r := by rw [if_pos rfl] at H; exact H
          clear H
          have H := H1
          clear H1
          obtain rfl := Option.some.inj H
          go_wp2
          go_ret
          exact ⟨by first | rfl | (simp [errW_none, errW_some] <;> rfl) | (simp [*, errW_none, errW_some] <;> rfl), by repeat (first | (with_reducible first | exact HB.out | apply below_alloc | apply pw_below_drewN | apply below_drew1) | exact HB.out)⟩
        · replace c17 := Bool.eq_false_iff.mpr c17
          subst c17
          have H1 : ((laws_toCellS.f kj7 l0).bind fun t360 => ((laws_eqCellS.f kj7 t354 t360).bind fun t363 => (if t363 = true then (some true) else (some false)))) = some r := by rw [if_neg (show ¬ (false = true) by decide)] at H; exact H
          clear H
          have H := H1
          clear H1
          replace H := Option.bind_eq_some_iff.mp H
          obtain ⟨t360, A180, H⟩ := H
          replace H : ((laws_eqCellS.f kj7 t354 t360).bind fun t363 => (if t363 = true then (some true) else (some false))) = some r := H
          have A18 := Aside0.mk A180
          clear A180
          replace H := Option.bind_eq_some_iff.mp H
          obtain ⟨t363, A190, H⟩ := H
          replace H : (if t363 = true then (some true) else (some false)) = some r := H
          have A19 := Aside0.mk A190
          clear A190
          by_cases c20 : t363 = true
          · subst c20
            have H1 : (some true) = some r := by rw [if_pos rfl] at H; exact H
            clear H
            have H := H1
            clear H1
            obtain rfl := Option.some.inj H
            go_wp2_with (first | ((with_reducible refine gate_callee (f := 18) rfl ?_); refine goesL_ (some 46) rfl rfl Try.func18 (by kernel_rfl) rfl #[.slice A0 l0.length c0] rfl (by (try simp only [List.map_toArray, List.map_cons, List.map_nil]); first | done | rfl | (simp only [List.length_drop, List.length_take]; rfl)) ?_; (with_reducible refine (laws_toCellS.calls kj7 _ _ l0 t360 _ ?side1 ?side2 A18.out).mono ?_); (case side1 => repeat (first | exact (Kd.C_below HR0.out HB.out) | (with_reducible refine Kd.C_alloc ?_ _) | (with_reducible refine Kd.C_drewN ?_ _) | (with_reducible refine Kd.C_drew ?_))); (case side2 => exact HC0.out); rintro e w21 ⟨v361, rfl, ho0, hb⟩; refine ⟨_, rfl, ?_⟩; have n0_ := Aside0.mk (Kd.R_elder' (by (with_reducible repeat (first | apply Kd.R_alloc | apply Kd.R_drewN | apply Kd.R_drew)); exact HO_7.out) (Kd.R_base ho0) hb); have n1_ := Aside0.mk (Kd.R_lower (Kd.R_new' ho0 (Kd.R_lt (by (with_reducible repeat (first | apply Kd.R_alloc | apply Kd.R_drewN | apply Kd.R_drew)); exact HO_7.out))) (below_size (by repeat (first | (with_reducible first | exact HB.out | apply below_alloc | apply pw_below_drewN | apply below_drew1) | exact HB.out)))); have n2_ := Aside0.mk (below_step (by repeat (first | (with_reducible first | exact HB.out | apply below_alloc | apply pw_below_drewN | apply below_drew1) | exact HB.out)) hb); clear HO_7; clear HB; have HO_7 := n0_; have HO362 := n1_; have HB := n2_; clear n0_ n1_ n2_; (try clear hb); (try clear hb2); (try clear hk); (try clear hi); (try clear ho0); obtain ⟨Ao22, co22, eo22⟩ := Kd.R_slice HO362.out; subst eo22) | ((with_reducible refine gate_callee (f := 20) rfl ?_); refine goesL_ (some 47) rfl rfl Try.func20 (by kernel_rfl) rfl #[.slice Ao13 t354.length co13, .slice Ao22 t360.length co22] rfl (by (try simp only [List.map_toArray, List.map_cons, List.map_nil]); first | done | rfl | (simp only [List.length_drop, List.length_take]; rfl)) ?_; (with_reducible refine (laws_eqCellS.calls kj7 _ _ t354 _ _ t360 true _ ?side1 ?side2 ?side3 ?side4 A19.out).mono ?_); (case side1 => repeat (first | exact (Kd.R_reads' HO_7.out).2.2 | (with_reducible refine Kd.C_alloc ?_ _) | (with_reducible refine Kd.C_drewN ?_ _) | (with_reducible refine Kd.C_drew ?_))); (case side2 => exact (Kd.R_reads' HO_7.out).2.1); (case side3 => repeat (first | exact (Kd.R_reads' HO362.out).2.2 | (with_reducible refine Kd.C_alloc ?_ _) | (with_reducible refine Kd.C_drewN ?_ _) | (with_reducible refine Kd.C_drew ?_))); (case side4 => exact (Kd.R_reads' HO362.out).2.1); rintro e w23 ⟨rfl, hb⟩; refine ⟨_, rfl, ?_⟩; have n0_ := Aside0.mk (Kd.R_below (by (with_reducible repeat (first | apply Kd.R_alloc | apply Kd.R_drewN | apply Kd.R_drew)); exact HO_7.out) hb); have n1_ := Aside0.mk (Kd.R_below (by (with_reducible repeat (first | apply Kd.R_alloc | apply Kd.R_drewN | apply Kd.R_drew)); exact HO362.out) hb); have n2_ := Aside0.mk (below_step (by repeat (first | (with_reducible first | exact HB.out | apply below_alloc | apply pw_below_drewN | apply below_drew1) | exact HB.out)) hb); clear HO_7; clear HO362; clear HB; have HO_7 := n0_; have HO362 := n1_; have HB := n2_; clear n0_ n1_ n2_; (try clear hb); (try clear hb2); (try clear hk); (try clear hi)))
            go_ret
            exact ⟨by first | rfl | (simp [errW_none, errW_some] <;> rfl) | (simp [*, errW_none, errW_some] <;> rfl), by repeat (first | (with_reducible first | exact HB.out | apply below_alloc | apply pw_below_drewN | apply below_drew1) | exact HB.out)⟩
          · replace c20 := Bool.eq_false_iff.mpr c20
            subst c20
            have H1 : (some false) = some r := by rw [if_neg (show ¬ (false = true) by decide)] at H; exact H
            clear H
            have H := H1
            clear H1
            obtain rfl := Option.some.inj H
            go_wp2_with (first | ((with_reducible refine gate_callee (f := 18) rfl ?_); refine goesL_ (some 46) rfl rfl Try.func18 (by kernel_rfl) rfl #[.slice A0 l0.length c0] rfl (by (try simp only [List.map_toArray, List.map_cons, List.map_nil]); first | done | rfl | (simp only [List.length_drop, List.length_take]; rfl)) ?_; (with_reducible refine (laws_toCellS.calls kj7 _ _ l0 t360 _ ?side1 ?side2 A18.out).mono ?_); (case side1 => repeat (first | exact (Kd.C_below HR0.out HB.out) | (with_reducible refine Kd.C_alloc ?_ _) | (with_reducible refine Kd.C_drewN ?_ _) | (with_reducible refine Kd.C_drew ?_))); (case side2 => exact HC0.out); rintro e w24 ⟨v361, rfl, ho0, hb⟩; refine ⟨_, rfl, ?_⟩; have n0_ := Aside0.mk (Kd.R_elder' (by (with_reducible repeat (first | apply Kd.R_alloc | apply Kd.R_drewN | apply Kd.R_drew)); exact HO_7.out) (Kd.R_base ho0) hb); have n1_ := Aside0.mk (Kd.R_lower (Kd.R_new' ho0 (Kd.R_lt (by (with_reducible repeat (first | apply Kd.R_alloc | apply Kd.R_drewN | apply Kd.R_drew)); exact HO_7.out))) (below_size (by repeat (first | (with_reducible first | exact HB.out | apply below_alloc | apply pw_below_drewN | apply below_drew1) | exact HB.out)))); have n2_ := Aside0.mk (below_step (by repeat (first | (with_reducible first | exact HB.out | apply below_alloc | apply pw_below_drewN | apply below_drew1) | exact HB.out)) hb); clear HO_7; clear HB; have HO_7 := n0_; have HO362 := n1_; have HB := n2_; clear n0_ n1_ n2_; (try clear hb); (try clear hb2); (try clear hk); (try clear hi); (try clear ho0); obtain ⟨Ao25, co25, eo25⟩ := Kd.R_slice HO362.out; subst eo25) | ((with_reducible refine gate_callee (f := 20) rfl ?_); refine goesL_ (some 47) rfl rfl Try.func20 (by kernel_rfl) rfl #[.slice Ao13 t354.length co13, .slice Ao25 t360.length co25] rfl (by (try simp only [List.map_toArray, List.map_cons, List.map_nil]); first | done | rfl | (simp only [List.length_drop, List.length_take]; rfl)) ?_; (with_reducible refine (laws_eqCellS.calls kj7 _ _ t354 _ _ t360 false _ ?side1 ?side2 ?side3 ?side4 A19.out).mono ?_); (case side1 => repeat (first | exact (Kd.R_reads' HO_7.out).2.2 | (with_reducible refine Kd.C_alloc ?_ _) | (with_reducible refine Kd.C_drewN ?_ _) | (with_reducible refine Kd.C_drew ?_))); (case side2 => exact (Kd.R_reads' HO_7.out).2.1); (case side3 => repeat (first | exact (Kd.R_reads' HO362.out).2.2 | (with_reducible refine Kd.C_alloc ?_ _) | (with_reducible refine Kd.C_drewN ?_ _) | (with_reducible refine Kd.C_drew ?_))); (case side4 => exact (Kd.R_reads' HO362.out).2.1); rintro e w26 ⟨rfl, hb⟩; refine ⟨_, rfl, ?_⟩; have n0_ := Aside0.mk (Kd.R_below (by (with_reducible repeat (first | apply Kd.R_alloc | apply Kd.R_drewN | apply Kd.R_drew)); exact HO_7.out) hb); have n1_ := Aside0.mk (Kd.R_below (by (with_reducible repeat (first | apply Kd.R_alloc | apply Kd.R_drewN | apply Kd.R_drew)); exact HO362.out) hb); have n2_ := Aside0.mk (below_step (by repeat (first | (with_reducible first | exact HB.out | apply below_alloc | apply pw_below_drewN | apply below_drew1) | exact HB.out)) hb); clear HO_7; clear HO362; clear HB; have HO_7 := n0_; have HO362 := n1_; have HB := n2_; clear n0_ n1_ n2_; (try clear hb); (try clear hb2); (try clear hk); (try clear hi)))
            go_ret
            exact ⟨by first | rfl | (simp [errW_none, errW_some] <;> rfl) | (simp [*, errW_none, errW_some] <;> rfl), by repeat (first | (with_reducible first | exact HB.out | apply below_alloc | apply pw_below_drewN | apply below_drew1) | exact HB.out)⟩

end Go.Proofs.Ytlhlilgienicfaa.X
