-- Written by xprint.py, a program of this session, on the kit's print.py: functions of the seat in one namespace.
import Derived.Lib.SliceRun
import Derived.Lib.Walk
import Derived.Test.YtbfmocohknadkaaXx0
import Derived.Test.YtbfmocohknadkaaXx3
import Derived.Test.YtbfmocohknadkaaXx4
import Derived.Test.YtbfmocohknadkaaXx5
import Derived.Test.YtbfmocohknadkaaXx10
import Derived.Test.YtbfmocohknadkaaXx11
import Derived.Test.YtbfmocohknadkaaXx13
import Derived.Test.YtbfmocohknadkaaXx18
namespace Go.Proofs.Ytbfmocohknadkaa.X
open Go.RowKit Go.Proofs.YtbfmocohknadkaaW.PrintWords Go.Proofs.YtbfmocohknadkaaW.PrintLast Go.Proofs.YtbfmocohknadkaaW.PrintMore
attribute [local go_sem] max2_int min2_int max_two min_two max_three min_three max_four min_four   -- for this text's walks alone
set_option linter.unusedVariables false
set_option linter.unusedSimpArgs false

/-! ### spec_l02Meet: function 90 -/
def spec_l02Meet.l0 : Nat → List (S57) → List (S57) → Int → Option (Bool)
  | 0, _, _, _ => none
  | k + 1, x0, x1, x5 => if x5 < (x0.length : Int) then (if 0 ≤ x5 then ((spec_l02Index.f k x1 ((rd_T57 x0 x5).f0) ((rd_T57 x0 x5).f1)).bind fun t871 => (if t871 ≥ 0 then (some true) else (spec_l02Meet.l0 k x0 x1 (wrap64 (x5 + 1))))) else (none)) else (some false)
def spec_l02Meet.f (k : Nat) (l0 : List (S57)) (l1 : List (S57)) : Option (Bool) := spec_l02Meet.l0 k l0 l1 0
theorem spec_l02Meet.mono_l : ∀ k, (∀ y0 y1 y2, LeO (spec_l02Meet.l0 k y0 y1 y2) (spec_l02Meet.l0 (k + 1) y0 y1 y2))
  | 0 => fun _ _ _ r h => by simp [spec_l02Meet.l0] at h
  | k + 1 => by
    have ih0 := spec_l02Meet.mono_l k
    · intro y0 y1 y2
      unfold spec_l02Meet.l0
      repeat' first
      | (with_reducible exact ih0 _ _ _)
      | (with_reducible exact spec_l02Index.mono _ _ _ _)
      | (with_reducible exact LeO.refl _)
      | (with_reducible exact LeO.none _)
      | (with_reducible refine LeO.ite ?_ ?_)
      | (with_reducible refine LeO.bind ?_ (fun _ => ?_))
      | exact ih0 _ _ _
      | exact spec_l02Index.mono _ _ _ _
      | exact LeO.none _
      | refine LeO.ite ?_ ?_
      | refine LeO.bind ?_ (fun _ => ?_)
theorem spec_l02Meet.mono : ∀ a0 a1 k, LeO (spec_l02Meet.f k a0 a1) (spec_l02Meet.f (k + 1) a0 a1) := by
  intro a0 a1 k
  have ih0 := spec_l02Meet.mono_l k
  unfold spec_l02Meet.f
  repeat' first
      | (with_reducible exact ih0 _ _ _)
      | (with_reducible exact spec_l02Index.mono _ _ _ _)
      | (with_reducible exact LeO.refl _)
      | (with_reducible exact LeO.none _)
      | (with_reducible refine LeO.ite ?_ ?_)
      | (with_reducible refine LeO.bind ?_ (fun _ => ?_))
      | exact ih0 _ _ _
      | exact spec_l02Index.mono _ _ _ _
      | exact LeO.none _
      | refine LeO.ite ?_ ?_
      | refine LeO.bind ?_ (fun _ => ?_)
set_option maxHeartbeats 8000000 in
set_option maxRecDepth 100000 in
theorem spec_l02Meet.calls (k : Nat) (A0 : Option Addr) (c0 : Nat) (l0 : List (S57)) (A1 : Option Addr) (c1 : Nat) (l1 : List (S57)) (r : Bool) (w : World) (hr0 : Kd.C k57 w A0 l0.length l0) (hc0 : l0.length ≤ c0) (hr1 : Kd.C k57 w A1 l1.length l1) (hc1 : l1.length ≤ c1) (h : spec_l02Meet.f k l0 l1 = some r) :
    Calls Try.prog 90 #[.slice A0 l0.length c0, .slice A1 l1.length c1] w fun e w' => e = .returned (.bool r) ∧ Below w.heap.size w w' := by
  have hu57 := Try.underlying57
  have HR0 := Aside0.mk hr0
  have HC0 := Aside0.mk hc0
  clear hr0 hc0
  have HR1 := Aside0.mk hr1
  have HC1 := Aside0.mk hc1
  clear hr1 hc1
  have HB := Aside0.mk (Below.refl w.heap.size w)
  have H : (spec_l02Meet.l0 k l0 l1 0) = some r := h
  clear h
  have H' := Aside0.mk H
  clear H
  go_enter Try.func90, Try.ntmps90
  go_wp2
  go_loopg [5] k (fun kq v5 w' => ∃ (x5_1 : Int), v5 = .int .i64 x5_1 ∧ Aside0 (spec_l02Meet.l0 kq l0 l1 x5_1 = some r) ∧ Aside0 (kq ≤ k) ∧ Aside0 (Below w.heap.size w w'))
  case atStart => exact ⟨(0), (by first | rfl | (simp; done) | (simp [*]; done)), H', ⟨Nat.le_refl _⟩, ⟨by repeat (first | (with_reducible first | exact HB.out | apply below_alloc | apply pw_below_drewN | apply below_drew1) | exact HB.out)⟩⟩
  case round =>
    clear H'
    try clear c1
    try clear p2
    obtain ⟨x5_1, rfl, HA, HK1, HB⟩ := hrel
    cases gk with
    | zero => exact absurd HA.out (by simp [spec_l02Meet.l0])
    | succ k1 =>
      have H := HA.out
      clear HA
      simp only [spec_l02Meet.l0] at H
      by_cases c3 : x5_1 < (l0.length : Int)
      · rw [if_pos c3] at H
        have c3b0 : decide (x5_1 < (l0.length : Int)) = true := decide_eq_true c3
        clear c3
        by_cases c4 : 0 ≤ x5_1
        · rw [if_pos c4] at H
          have c4b0 : decide (0 ≤ x5_1) = true := decide_eq_true c4
          clear c4
          replace H := Option.bind_eq_some_iff.mp H
          obtain ⟨t871, A50, H⟩ := H
          replace H : (if t871 ≥ 0 then (some true) else (spec_l02Meet.l0 k1 l0 l1 (wrap64 (x5_1 + 1)))) = some r := H
          have A5 := Aside0.mk A50
          clear A50
          by_cases c6 : t871 ≥ 0
          · rw [if_pos c6] at H
            have c6b0 : decide (0 ≤ t871) = true := decide_eq_true c6
            clear c6
            obtain rfl := Option.some.inj H
            have p870 : 0 ≤ (x5_1 : Int) := of_decide_eq_true (by first | (with_reducible assumption) | assumption)
            have q870 : x5_1 < (l0.length : Int) := of_decide_eq_true (by first | (with_reducible assumption) | assumption)
            obtain ⟨ad870, e870, hx870_0, hx870_1⟩ := at_T57 HR0.out x5_1 p870 q870
            cases e870
            replace hx870_0 := (HB.out.cell (World.block_lt_of_cell? w _ hx870_0)).trans hx870_0
            replace hx870_1 := (HB.out.cell (World.block_lt_of_cell? w _ hx870_1)).trans hx870_1
            replace p870 := eq_true p870
            replace q870 := eq_true q870
            go_wp2_with (first | ((with_reducible refine gate_callee (f := 97) rfl ?_); refine goesL_ (some 17) rfl rfl Try.func97 (by kernel_rfl) rfl #[.slice A1 l1.length c1, .agg #[.int .i64 ((rd_T57 l0 x5_1).f0), .int .i64 ((rd_T57 l0 x5_1).f1)]] rfl (by (try simp only [List.map_toArray, List.map_cons, List.map_nil]); first | done | rfl | (simp only [List.length_drop, List.length_take]; rfl)) ?_; (with_reducible refine (spec_l02Index.calls k1 _ _ l1 ((rd_T57 l0 x5_1).f0) ((rd_T57 l0 x5_1).f1) t871 _ ?side1 ?side2 A5.out).mono ?_); (case side1 => repeat (first | exact (Kd.C_below HR1.out HB.out) | (with_reducible refine Kd.C_alloc ?_ _) | (with_reducible refine Kd.C_drewN ?_ _) | (with_reducible refine Kd.C_drew ?_))); (case side2 => exact HC1.out); rintro e w7 ⟨rfl, hb⟩; refine ⟨_, rfl, ?_⟩; have n0_ := Aside0.mk (below_step (by repeat (first | (with_reducible first | exact HB.out | apply below_alloc | apply pw_below_drewN | apply below_drew1) | exact HB.out)) hb); clear HB; have HB := n0_; clear n0_; (try clear hb); (try clear hb2); (try clear hk); (try clear hi)))
            go_ret
            exact ⟨by first | rfl | (simp [errW_none, errW_some] <;> rfl) | (simp [*, errW_none, errW_some] <;> rfl), by repeat (first | (with_reducible first | exact HB.out | apply below_alloc | apply pw_below_drewN | apply below_drew1) | exact HB.out)⟩
          · rw [if_neg c6] at H
            have c6b0 : decide (0 ≤ t871) = false := decide_eq_false c6
            clear c6
            have H' := Aside0.mk H
            clear H
            have p870 : 0 ≤ (x5_1 : Int) := of_decide_eq_true (by first | (with_reducible assumption) | assumption)
            have q870 : x5_1 < (l0.length : Int) := of_decide_eq_true (by first | (with_reducible assumption) | assumption)
            obtain ⟨ad870, e870, hx870_0, hx870_1⟩ := at_T57 HR0.out x5_1 p870 q870
            cases e870
            replace hx870_0 := (HB.out.cell (World.block_lt_of_cell? w _ hx870_0)).trans hx870_0
            replace hx870_1 := (HB.out.cell (World.block_lt_of_cell? w _ hx870_1)).trans hx870_1
            replace p870 := eq_true p870
            replace q870 := eq_true q870
            go_wp2_with (first | ((with_reducible refine gate_callee (f := 97) rfl ?_); refine goesL_ (some 17) rfl rfl Try.func97 (by kernel_rfl) rfl #[.slice A1 l1.length c1, .agg #[.int .i64 ((rd_T57 l0 x5_1).f0), .int .i64 ((rd_T57 l0 x5_1).f1)]] rfl (by (try simp only [List.map_toArray, List.map_cons, List.map_nil]); first | done | rfl | (simp only [List.length_drop, List.length_take]; rfl)) ?_; (with_reducible refine (spec_l02Index.calls k1 _ _ l1 ((rd_T57 l0 x5_1).f0) ((rd_T57 l0 x5_1).f1) t871 _ ?side1 ?side2 A5.out).mono ?_); (case side1 => repeat (first | exact (Kd.C_below HR1.out HB.out) | (with_reducible refine Kd.C_alloc ?_ _) | (with_reducible refine Kd.C_drewN ?_ _) | (with_reducible refine Kd.C_drew ?_))); (case side2 => exact HC1.out); rintro e w8 ⟨rfl, hb⟩; refine ⟨_, rfl, ?_⟩; have n0_ := Aside0.mk (below_step (by repeat (first | (with_reducible first | exact HB.out | apply below_alloc | apply pw_below_drewN | apply below_drew1) | exact HB.out)) hb); clear HB; have HB := n0_; clear n0_; (try clear hb); (try clear hb2); (try clear hk); (try clear hi)))
            go_roundg k1
            case measure => have := HK1.out; omega
            case rel => exact ⟨(wrap64 (x5_1 + 1)), (by first | rfl | (simp; done) | (simp [*]; done)), H', ⟨by have := HK1.out; omega⟩, ⟨by repeat (first | (with_reducible first | exact HB.out | apply below_alloc | apply pw_below_drewN | apply below_drew1) | exact HB.out)⟩⟩
        · rw [if_neg c4] at H
          exact absurd H (by simp)
      · rw [if_neg c3] at H
        have c3b0 : decide (x5_1 < (l0.length : Int)) = false := decide_eq_false c3
        clear c3
        obtain rfl := Option.some.inj H
        go_wp2
        go_ret
        exact ⟨by first | rfl | (simp [errW_none, errW_some] <;> rfl) | (simp [*, errW_none, errW_some] <;> rfl), by repeat (first | (with_reducible first | exact HB.out | apply below_alloc | apply pw_below_drewN | apply below_drew1) | exact HB.out)⟩

/-! ### spec_JoinShapes: function 47 -/
def spec_JoinShapes.j0 : Nat → List (S57) → List (S57) → Bool → Option ((List (S57)) × Int)
  | 0, _, _, _ => none
  | k + 1, x0, x1, x6 => if x6 = true then (some (([] : List (S57)), 1)) else ((spec_l02Meet.f k x0 x1).bind fun t874 => (if t874 = true then (some (([] : List (S57)), 5)) else (if (wrap64 ((x0.length : Int) + (x1.length : Int))) > 40 then (some (([] : List (S57)), 3)) else ((some (([] : List (S57)) : List (S57))).bind fun y875 => (if y875.length + x0.length < 8796093022208 then ((some (y875 ++ x0 : List (S57))).bind fun y878 => (if y878.length + x1.length < 8796093022208 then ((spec_l02Sort.f k (y878 ++ x1)).bind fun t884 => (some (t884, 0))) else (none))) else (none))))))
def spec_JoinShapes.f (k : Nat) (l0 : List (S57)) (l1 : List (S57)) : Option ((List (S57)) × Int) := (spec_IsShape.f k l0).bind fun t872 => (if t872 = true then ((spec_IsShape.f k l1).bind fun t873 => (spec_JoinShapes.j0 k l0 l1 (!t873))) else (spec_JoinShapes.j0 k l0 l1 true))
theorem spec_JoinShapes.mono_l : ∀ k, (∀ y0 y1 y2, LeO (spec_JoinShapes.j0 k y0 y1 y2) (spec_JoinShapes.j0 (k + 1) y0 y1 y2))
  | 0 => fun _ _ _ r h => by simp [spec_JoinShapes.j0] at h
  | k + 1 => by
    have ih0 := spec_JoinShapes.mono_l k
    · intro y0 y1 y2
      unfold spec_JoinShapes.j0
      repeat' first
      | (with_reducible exact ih0 _ _ _)
      | (with_reducible exact spec_IsShape.mono _ _)
      | (with_reducible exact spec_l02Meet.mono _ _ _)
      | (with_reducible exact spec_l02Sort.mono _ _)
      | (with_reducible exact LeO.refl _)
      | (with_reducible exact LeO.none _)
      | (with_reducible refine LeO.ite ?_ ?_)
      | (with_reducible refine LeO.bind ?_ (fun _ => ?_))
      | exact ih0 _ _ _
      | exact spec_IsShape.mono _ _
      | exact spec_l02Meet.mono _ _ _
      | exact spec_l02Sort.mono _ _
      | exact LeO.none _
      | refine LeO.ite ?_ ?_
      | refine LeO.bind ?_ (fun _ => ?_)
theorem spec_JoinShapes.mono : ∀ a0 a1 k, LeO (spec_JoinShapes.f k a0 a1) (spec_JoinShapes.f (k + 1) a0 a1) := by
  intro a0 a1 k
  have ih0 := spec_JoinShapes.mono_l k
  unfold spec_JoinShapes.f
  repeat' first
      | (with_reducible exact ih0 _ _ _)
      | (with_reducible exact spec_IsShape.mono _ _)
      | (with_reducible exact spec_l02Meet.mono _ _ _)
      | (with_reducible exact spec_l02Sort.mono _ _)
      | (with_reducible exact LeO.refl _)
      | (with_reducible exact LeO.none _)
      | (with_reducible refine LeO.ite ?_ ?_)
      | (with_reducible refine LeO.bind ?_ (fun _ => ?_))
      | exact ih0 _ _ _
      | exact spec_IsShape.mono _ _
      | exact spec_l02Meet.mono _ _ _
      | exact spec_l02Sort.mono _ _
      | exact LeO.none _
      | refine LeO.ite ?_ ?_
      | refine LeO.bind ?_ (fun _ => ?_)
set_option maxHeartbeats 8000000 in
set_option maxRecDepth 100000 in
theorem spec_JoinShapes.calls (k : Nat) (A0 : Option Addr) (c0 : Nat) (l0 : List (S57)) (A1 : Option Addr) (c1 : Nat) (l1 : List (S57)) (r1 : List (S57)) (r2 : Int) (w : World) (hr0 : Kd.C k57 w A0 l0.length l0) (hc0 : l0.length ≤ c0) (hr1 : Kd.C k57 w A1 l1.length l1) (hc1 : l1.length ≤ c1) (h : spec_JoinShapes.f k l0 l1 = some (r1, r2)) :
    Calls Try.prog 47 #[.slice A0 l0.length c0, .slice A1 l1.length c1] w fun e w' => ∃ v0_ : Value, e = .returned (.tuple #[v0_, .int .i64 r2]) ∧ Kd.R k57 57 w' w.heap.size (fun _ => True) v0_ r1 ∧ Below w.heap.size w w' := by
  have HR0 := Aside0.mk hr0
  have HC0 := Aside0.mk hc0
  clear hr0 hc0
  have HR1 := Aside0.mk hr1
  have HC1 := Aside0.mk hc1
  clear hr1 hc1
  have HB := Aside0.mk (Below.refl w.heap.size w)
  have H : ((spec_IsShape.f k l0).bind fun t872 => (if t872 = true then ((spec_IsShape.f k l1).bind fun t873 => (spec_JoinShapes.j0 k l0 l1 (!t873))) else (spec_JoinShapes.j0 k l0 l1 true))) = some (r1, r2) := h
  clear h
  have HC3 := Aside0.mk H
  clear H
  go_enter Try.func47, Try.ntmps47
  go_upto_region 1 with (fail)
  go_cut [6] (fun v6 wc => ∃ (kq : Nat) (x6_2 : Bool), v6 = .bool x6_2 ∧ Aside0 (spec_JoinShapes.j0 kq l0 l1 x6_2 = some (r1, r2)) ∧ Aside0 (kq ≤ k) ∧ Aside0 (Below w.heap.size w wc))
  case first =>
    have H := HC3.out
    clear HC3
    replace H := Option.bind_eq_some_iff.mp H
    obtain ⟨t872, A40, H⟩ := H
    replace H : (if t872 = true then ((spec_IsShape.f k l1).bind fun t873 => (spec_JoinShapes.j0 k l0 l1 (!t873))) else (spec_JoinShapes.j0 k l0 l1 true)) = some (r1, r2) := H
    have A4 := Aside0.mk A40
    clear A40
    by_cases c5 : t872 = true
    · subst c5
      have H1 : ((spec_IsShape.f k l1).bind fun t873 => (spec_JoinShapes.j0 k l0 l1 (!t873))) = some (r1, r2) := by rw [if_pos rfl] at H; exact H
      clear H
      have H := H1
      clear H1
      replace H := Option.bind_eq_some_iff.mp H
      obtain ⟨t873, A60, H⟩ := H
      replace H : (spec_JoinShapes.j0 k l0 l1 (!t873)) = some (r1, r2) := H
      have A6 := Aside0.mk A60
      clear A60
      have H' := Aside0.mk H
      clear H
      go_wp2_with (first | ((with_reducible refine gate_callee (f := 61) rfl ?_); refine goesL_ (some 8) rfl rfl Try.func61 (by kernel_rfl) rfl #[.slice A0 l0.length c0] rfl (by (try simp only [List.map_toArray, List.map_cons, List.map_nil]); first | done | rfl | (simp only [List.length_drop, List.length_take]; rfl)) ?_; (with_reducible refine (spec_IsShape.calls k _ _ l0 true _ ?side1 ?side2 A4.out).mono ?_); (case side1 => repeat (first | exact (Kd.C_below HR0.out HB.out) | (with_reducible refine Kd.C_alloc ?_ _) | (with_reducible refine Kd.C_drewN ?_ _) | (with_reducible refine Kd.C_drew ?_))); (case side2 => exact HC0.out); rintro e w7 ⟨rfl, hb⟩; refine ⟨_, rfl, ?_⟩; have n0_ := Aside0.mk (below_step (by repeat (first | (with_reducible first | exact HB.out | apply below_alloc | apply pw_below_drewN | apply below_drew1) | exact HB.out)) hb); clear HB; have HB := n0_; clear n0_; (try clear hb); (try clear hb2); (try clear hk); (try clear hi)) | (go_at_call 61; (with_reducible refine (spec_IsShape.calls k _ _ l1 t873 _ ?side1 ?side2 A6.out).mono ?_); (case side1 => repeat (first | exact (Kd.C_below HR1.out HB.out) | (with_reducible refine Kd.C_alloc ?_ _) | (with_reducible refine Kd.C_drewN ?_ _) | (with_reducible refine Kd.C_drew ?_))); (case side2 => exact HC1.out); rintro e w8 ⟨rfl, hb⟩; have n0_ := Aside0.mk (below_step (by repeat (first | (with_reducible first | exact HB.out | apply below_alloc | apply pw_below_drewN | apply below_drew1) | exact HB.out)) hb); clear HB; have HB := n0_; clear n0_; (try clear hb); (try clear hb2); (try clear hk); (try clear hi)))
      go_meet
      case rel => exact ⟨_, (!t873), (by first | rfl | (simp; done) | (simp [*]; done)), H', ⟨by first | omega | exact Nat.le_refl _⟩, ⟨by repeat (first | (with_reducible first | exact HB.out | apply below_alloc | apply pw_below_drewN | apply below_drew1) | exact HB.out)⟩⟩
    · replace c5 := Bool.eq_false_iff.mpr c5
      subst c5
      have H1 : (spec_JoinShapes.j0 k l0 l1 true) = some (r1, r2) := by rw [if_neg (show ¬ (false = true) by decide)] at H; exact H
      clear H
      have H := H1
      clear H1
      have H' := Aside0.mk H
      clear H
      go_wp2_with (first | ((with_reducible refine gate_callee (f := 61) rfl ?_); refine goesL_ (some 8) rfl rfl Try.func61 (by kernel_rfl) rfl #[.slice A0 l0.length c0] rfl (by (try simp only [List.map_toArray, List.map_cons, List.map_nil]); first | done | rfl | (simp only [List.length_drop, List.length_take]; rfl)) ?_; (with_reducible refine (spec_IsShape.calls k _ _ l0 false _ ?side1 ?side2 A4.out).mono ?_); (case side1 => repeat (first | exact (Kd.C_below HR0.out HB.out) | (with_reducible refine Kd.C_alloc ?_ _) | (with_reducible refine Kd.C_drewN ?_ _) | (with_reducible refine Kd.C_drew ?_))); (case side2 => exact HC0.out); rintro e w9 ⟨rfl, hb⟩; refine ⟨_, rfl, ?_⟩; have n0_ := Aside0.mk (below_step (by repeat (first | (with_reducible first | exact HB.out | apply below_alloc | apply pw_below_drewN | apply below_drew1) | exact HB.out)) hb); clear HB; have HB := n0_; clear n0_; (try clear hb); (try clear hb2); (try clear hk); (try clear hi)))
      go_meet
      case rel => exact ⟨_, (true), (by first | rfl | (simp; done) | (simp [*]; done)), H', ⟨by first | omega | exact Nat.le_refl _⟩, ⟨by repeat (first | (with_reducible first | exact HB.out | apply below_alloc | apply pw_below_drewN | apply below_drew1) | exact HB.out)⟩⟩
  case rest =>
    clear HC3
    try clear c1
    try clear p2
    try clear c4
    try clear c5
    try clear c6
    obtain ⟨kq, x6_2, rfl, HA, HJ2, HB⟩ := hcut
    cases kq with
    | zero => exact absurd HA.out (by simp [spec_JoinShapes.j0])
    | succ kj2 =>
      have H := HA.out
      clear HA
      simp only [spec_JoinShapes.j0] at H
      by_cases c10 : x6_2 = true
      · subst c10
        have H1 : (some (([] : List (S57)), 1)) = some (r1, r2) := by rw [if_pos rfl] at H; exact H
        clear H
        have H := H1
        clear H1
        simp only [Option.some.injEq, Prod.mk.injEq] at H
        obtain ⟨rfl, rfl⟩ := H
        go_wp2
        go_ret2
        exact ⟨_, by first | rfl | (simp [errW_none, errW_some] <;> rfl) | (simp [*, errW_none, errW_some] <;> rfl), by first | exact Kd.R_nil _ _ _ _ _ | exact Kd.N_nil _ _ _ _ _ | exact Kd.V_nil _ _ _ _ _ | exact Kd.Q_nil _ _ _ _ _ | exact Kd.S_nil _ _ _ _ _, by repeat (first | (with_reducible first | exact HB.out | apply below_alloc | apply pw_below_drewN | apply below_drew1) | exact HB.out)⟩
      · replace c10 := Bool.eq_false_iff.mpr c10
        subst c10
        have H1 : ((spec_l02Meet.f kj2 l0 l1).bind fun t874 => (if t874 = true then (some (([] : List (S57)), 5)) else (if (wrap64 ((l0.length : Int) + (l1.length : Int))) > 40 then (some (([] : List (S57)), 3)) else ((some (([] : List (S57)) : List (S57))).bind fun y875 => (if y875.length + l0.length < 8796093022208 then ((some (y875 ++ l0 : List (S57))).bind fun y878 => (if y878.length + l1.length < 8796093022208 then ((spec_l02Sort.f kj2 (y878 ++ l1)).bind fun t884 => (some (t884, 0))) else (none))) else (none)))))) = some (r1, r2) := by rw [if_neg (show ¬ (false = true) by decide)] at H; exact H
        clear H
        have H := H1
        clear H1
        replace H := Option.bind_eq_some_iff.mp H
        obtain ⟨t874, A110, H⟩ := H
        replace H : (if t874 = true then (some (([] : List (S57)), 5)) else (if (wrap64 ((l0.length : Int) + (l1.length : Int))) > 40 then (some (([] : List (S57)), 3)) else ((some (([] : List (S57)) : List (S57))).bind fun y875 => (if y875.length + l0.length < 8796093022208 then ((some (y875 ++ l0 : List (S57))).bind fun y878 => (if y878.length + l1.length < 8796093022208 then ((spec_l02Sort.f kj2 (y878 ++ l1)).bind fun t884 => (some (t884, 0))) else (none))) else (none))))) = some (r1, r2) := H
        have A11 := Aside0.mk A110
        clear A110
        by_cases c12 : t874 = true
        · subst c12
          have H1 : (some (([] : List (S57)), 5)) = some (r1, r2) := by rw [if_pos rfl] at H; exact H
          clear H
          have H := H1
          clear H1
          simp only [Option.some.injEq, Prod.mk.injEq] at H
          obtain ⟨rfl, rfl⟩ := H
          go_wp2_with (first | ((with_reducible refine gate_callee (f := 90) rfl ?_); refine goesL_ (some 18) rfl rfl Try.func90 (by kernel_rfl) rfl #[.slice A0 l0.length c0, .slice A1 l1.length c1] rfl (by (try simp only [List.map_toArray, List.map_cons, List.map_nil]); first | done | rfl | (simp only [List.length_drop, List.length_take]; rfl)) ?_; (with_reducible refine (spec_l02Meet.calls kj2 _ _ l0 _ _ l1 true _ ?side1 ?side2 ?side3 ?side4 A11.out).mono ?_); (case side1 => repeat (first | exact (Kd.C_below HR0.out HB.out) | (with_reducible refine Kd.C_alloc ?_ _) | (with_reducible refine Kd.C_drewN ?_ _) | (with_reducible refine Kd.C_drew ?_))); (case side2 => exact HC0.out); (case side3 => repeat (first | exact (Kd.C_below HR1.out HB.out) | (with_reducible refine Kd.C_alloc ?_ _) | (with_reducible refine Kd.C_drewN ?_ _) | (with_reducible refine Kd.C_drew ?_))); (case side4 => exact HC1.out); rintro e w13 ⟨rfl, hb⟩; refine ⟨_, rfl, ?_⟩; have n0_ := Aside0.mk (below_step (by repeat (first | (with_reducible first | exact HB.out | apply below_alloc | apply pw_below_drewN | apply below_drew1) | exact HB.out)) hb); clear HB; have HB := n0_; clear n0_; (try clear hb); (try clear hb2); (try clear hk); (try clear hi)))
          go_ret2
          exact ⟨_, by first | rfl | (simp [errW_none, errW_some] <;> rfl) | (simp [*, errW_none, errW_some] <;> rfl), by first | exact Kd.R_nil _ _ _ _ _ | exact Kd.N_nil _ _ _ _ _ | exact Kd.V_nil _ _ _ _ _ | exact Kd.Q_nil _ _ _ _ _ | exact Kd.S_nil _ _ _ _ _, by repeat (first | (with_reducible first | exact HB.out | apply below_alloc | apply pw_below_drewN | apply below_drew1) | exact HB.out)⟩
        · replace c12 := Bool.eq_false_iff.mpr c12
          subst c12
          have H1 : (if (wrap64 ((l0.length : Int) + (l1.length : Int))) > 40 then (some (([] : List (S57)), 3)) else ((some (([] : List (S57)) : List (S57))).bind fun y875 => (if y875.length + l0.length < 8796093022208 then ((some (y875 ++ l0 : List (S57))).bind fun y878 => (if y878.length + l1.length < 8796093022208 then ((spec_l02Sort.f kj2 (y878 ++ l1)).bind fun t884 => (some (t884, 0))) else (none))) else (none)))) = some (r1, r2) := by rw [if_neg (show ¬ (false = true) by decide)] at H; exact H
          clear H
          have H := H1
          clear H1
          by_cases c14 : (wrap64 ((l0.length : Int) + (l1.length : Int))) > 40
          · rw [if_pos c14] at H
            have c14b0 : decide (40 < (wrap64 ((l0.length : Int) + (l1.length : Int)))) = true := decide_eq_true c14
            clear c14
            simp only [Option.some.injEq, Prod.mk.injEq] at H
            obtain ⟨rfl, rfl⟩ := H
            go_wp2_with (first | ((with_reducible refine gate_callee (f := 90) rfl ?_); refine goesL_ (some 18) rfl rfl Try.func90 (by kernel_rfl) rfl #[.slice A0 l0.length c0, .slice A1 l1.length c1] rfl (by (try simp only [List.map_toArray, List.map_cons, List.map_nil]); first | done | rfl | (simp only [List.length_drop, List.length_take]; rfl)) ?_; (with_reducible refine (spec_l02Meet.calls kj2 _ _ l0 _ _ l1 false _ ?side1 ?side2 ?side3 ?side4 A11.out).mono ?_); (case side1 => repeat (first | exact (Kd.C_below HR0.out HB.out) | (with_reducible refine Kd.C_alloc ?_ _) | (with_reducible refine Kd.C_drewN ?_ _) | (with_reducible refine Kd.C_drew ?_))); (case side2 => exact HC0.out); (case side3 => repeat (first | exact (Kd.C_below HR1.out HB.out) | (with_reducible refine Kd.C_alloc ?_ _) | (with_reducible refine Kd.C_drewN ?_ _) | (with_reducible refine Kd.C_drew ?_))); (case side4 => exact HC1.out); rintro e w15 ⟨rfl, hb⟩; refine ⟨_, rfl, ?_⟩; have n0_ := Aside0.mk (below_step (by repeat (first | (with_reducible first | exact HB.out | apply below_alloc | apply pw_below_drewN | apply below_drew1) | exact HB.out)) hb); clear HB; have HB := n0_; clear n0_; (try clear hb); (try clear hb2); (try clear hk); (try clear hi)))
            go_ret2
            exact ⟨_, by first | rfl | (simp [errW_none, errW_some] <;> rfl) | (simp [*, errW_none, errW_some] <;> rfl), by first | exact Kd.R_nil _ _ _ _ _ | exact Kd.N_nil _ _ _ _ _ | exact Kd.V_nil _ _ _ _ _ | exact Kd.Q_nil _ _ _ _ _ | exact Kd.S_nil _ _ _ _ _, by repeat (first | (with_reducible first | exact HB.out | apply below_alloc | apply pw_below_drewN | apply below_drew1) | exact HB.out)⟩
          · rw [if_neg c14] at H
            have c14b0 : decide (40 < (wrap64 ((l0.length : Int) + (l1.length : Int)))) = false := decide_eq_false c14
            clear c14
            obtain ⟨y875, hy875⟩ : ∃ y_ : List (S57), y_ = (([] : List (S57))) := ⟨_, rfl⟩
            replace H : (if y875.length + l0.length < 8796093022208 then ((some (y875 ++ l0 : List (S57))).bind fun y878 => (if y878.length + l1.length < 8796093022208 then ((spec_l02Sort.f kj2 (y878 ++ l1)).bind fun t884 => (some (t884, 0))) else (none))) else (none)) = some (r1, r2) := by first | (rw [hy875]; with_reducible exact H) | (have H2_ := (Option.bind_some _ _).symm.trans H; rw [hy875]; with_reducible exact H2_) | (have H2_ := (Option.bind_some _ _).symm.trans H; with_reducible exact H2_) | with_reducible exact H | (rw [hy875]; exact H) | exact H
            have Ny875 := Aside0.mk hy875
            clear hy875
            by_cases c16 : y875.length + l0.length < 8796093022208
            · rw [if_pos c16] at H
              have LMc16 := Aside0.mk c16
              clear c16
              obtain ⟨y878, hy878⟩ : ∃ y_ : List (S57), y_ = (y875 ++ l0) := ⟨_, rfl⟩
              replace H : (if y878.length + l1.length < 8796093022208 then ((spec_l02Sort.f kj2 (y878 ++ l1)).bind fun t884 => (some (t884, 0))) else (none)) = some (r1, r2) := by first | (rw [hy878]; with_reducible exact H) | (have H2_ := (Option.bind_some _ _).symm.trans H; rw [hy878]; with_reducible exact H2_) | (have H2_ := (Option.bind_some _ _).symm.trans H; with_reducible exact H2_) | with_reducible exact H | (rw [hy878]; exact H) | exact H
              have Ny878 := Aside0.mk hy878
              clear hy878
              by_cases c17 : y878.length + l1.length < 8796093022208
              · rw [if_pos c17] at H
                have LMc17 := Aside0.mk c17
                clear c17
                obtain ⟨y881, hy881⟩ : ∃ y_ : List (S57), y_ = (y878 ++ l1) := ⟨_, rfl⟩
                replace H : ((spec_l02Sort.f kj2 y881).bind fun t884 => (some (t884, 0))) = some (r1, r2) := by first | (rw [hy881]; with_reducible exact H) | (have H2_ := (Option.bind_some _ _).symm.trans H; rw [hy881]; with_reducible exact H2_) | (have H2_ := (Option.bind_some _ _).symm.trans H; with_reducible exact H2_) | with_reducible exact H | (rw [hy881]; exact H) | exact H
                have Ny881 := Aside0.mk hy881
                clear hy881
                replace H := Option.bind_eq_some_iff.mp H
                obtain ⟨t884, A180, H⟩ := H
                replace H : (some (t884, 0)) = some (r1, r2) := H
                have A18 := Aside0.mk A180
                clear A180
                simp only [Option.some.injEq, Prod.mk.injEq] at H
                obtain ⟨rfl, rfl⟩ := H
                go_wp2_with (first | ((with_reducible refine gate_callee (f := 90) rfl ?_); refine goesL_ (some 18) rfl rfl Try.func90 (by kernel_rfl) rfl #[.slice A0 l0.length c0, .slice A1 l1.length c1] rfl (by (try simp only [List.map_toArray, List.map_cons, List.map_nil]); first | done | rfl | (simp only [List.length_drop, List.length_take]; rfl)) ?_; (with_reducible refine (spec_l02Meet.calls kj2 _ _ l0 _ _ l1 false _ ?side1 ?side2 ?side3 ?side4 A11.out).mono ?_); (case side1 => repeat (first | exact (Kd.C_below HR0.out HB.out) | (with_reducible refine Kd.C_alloc ?_ _) | (with_reducible refine Kd.C_drewN ?_ _) | (with_reducible refine Kd.C_drew ?_))); (case side2 => exact HC0.out); (case side3 => repeat (first | exact (Kd.C_below HR1.out HB.out) | (with_reducible refine Kd.C_alloc ?_ _) | (with_reducible refine Kd.C_drewN ?_ _) | (with_reducible refine Kd.C_drew ?_))); (case side4 => exact HC1.out); rintro e w19 ⟨rfl, hb⟩; refine ⟨_, rfl, ?_⟩; have n0_ := Aside0.mk (below_step (by repeat (first | (with_reducible first | exact HB.out | apply below_alloc | apply pw_below_drewN | apply below_drew1) | exact HB.out)) hb); clear HB; have HB := n0_; clear n0_; (try clear hb); (try clear hb2); (try clear hk); (try clear hi)) | ((with_reducible refine gate_dst (N := 26) rfl ?_); refine Kd.R_lit k57 _ 57 ?hg (N := 26) ?hd (xs := ([] : List (S57))) (inner := []) (ok := fun _ => True) (okp := fun _ => True) ?hr ?hp (fun _ hk => hk) trivial (Below.refl _ _) (Nat.le_refl _) (by simp) ?_; (case hd => rfl); (case hg => rfl); (case hr => first | (go_simp; done) | (go_simp; rfl)); (case hp => exact (Reps.none _ _)); intro v876 w20 ho21 hb hg_ hnew_; clear hg_ hnew_; (first | rw [← Ny875.out] at ho21 | (simp only [Int.reduceToNat] at ho21; rw [← Ny875.out] at ho21)); have n0_ := Aside0.mk (Kd.R_lower ho21 (below_size (by repeat (first | (with_reducible first | exact HB.out | apply below_alloc | apply pw_below_drewN | apply below_drew1) | exact HB.out)))); have n1_ := Aside0.mk (below_step (by repeat (first | (with_reducible first | exact HB.out | apply below_alloc | apply pw_below_drewN | apply below_drew1) | exact HB.out)) hb); clear HB; have HO877 := n0_; have HB := n1_; clear n0_ n1_; clear hb ho21) | ((with_reducible refine gate_builtin (b := .append) (xs := #[.tmp 26, .tmp 27]) rfl ?_); at_builtin; refine Kd.R_append_rows k57 (w0 := w) w.heap.size rfl (.tmp 26) (.tmp 27) 30 57 (.agg #[(.int .i64 0), (.int .i64 0)]) 16 rfl Try.underlying30 info57 rfl (by decide) (by omega) v876 y875 l0 _ _ _ (fun _ => True) (fun _ => False) rfl rfl ?aO ?aR (fun _ _ h => h) (fun _ h => h.elim) ?aF ?aB ?aS ?aL ?_; (case aR => repeat (first | exact (Kd.C_below HR0.out HB.out) | (with_reducible refine Kd.C_alloc ?_ _) | (with_reducible refine Kd.C_drewN ?_ _) | (with_reducible refine Kd.C_drew ?_))); (case aB => exact (by repeat (first | (with_reducible first | exact HB.out | apply below_alloc | apply pw_below_drewN | apply below_drew1) | exact HB.out))); (case aF => exact (fun _ _ => trivial)); (case aO => exact (by (with_reducible repeat (first | apply Kd.R_alloc | apply Kd.R_drewN | apply Kd.R_drew)); exact HO877.out)); (case aS => exact (below_size (by repeat (first | (with_reducible first | exact HB.out | apply below_alloc | apply pw_below_drewN | apply below_drew1) | exact HB.out)))); (case aL => have := LMc16.out; omega); intro v879 w22 ho hb hg hat; rw [← Ny878.out] at ho; have n0_ := Aside0.mk (hb); have n1_ := Aside0.mk (ho); clear HB; clear HO877; have HB := n0_; have HO880 := n1_; clear n0_ n1_; clear ho hb hg hat) | ((with_reducible refine gate_builtin (b := .append) (xs := #[.tmp 28, .tmp 29]) rfl ?_); at_builtin; refine Kd.R_append_rows k57 (w0 := w) w.heap.size rfl (.tmp 28) (.tmp 29) 30 57 (.agg #[(.int .i64 0), (.int .i64 0)]) 16 rfl Try.underlying30 info57 rfl (by decide) (by omega) v879 y878 l1 _ _ _ (fun _ => True) (fun _ => False) rfl rfl ?aO ?aR (fun _ _ h => h) (fun _ h => h.elim) ?aF ?aB ?aS ?aL ?_; (case aR => repeat (first | exact (Kd.C_below HR1.out HB.out) | (with_reducible refine Kd.C_alloc ?_ _) | (with_reducible refine Kd.C_drewN ?_ _) | (with_reducible refine Kd.C_drew ?_))); (case aB => exact (by repeat (first | (with_reducible first | exact HB.out | apply below_alloc | apply pw_below_drewN | apply below_drew1) | exact HB.out))); (case aF => exact (fun _ _ => trivial)); (case aO => exact (by (with_reducible repeat (first | apply Kd.R_alloc | apply Kd.R_drewN | apply Kd.R_drew)); exact HO880.out)); (case aS => exact (below_size (by repeat (first | (with_reducible first | exact HB.out | apply below_alloc | apply pw_below_drewN | apply below_drew1) | exact HB.out)))); (case aL => have := LMc17.out; omega); intro v882 w23 ho hb hg hat; rw [← Ny881.out] at ho; have n0_ := Aside0.mk (hb); have n1_ := Aside0.mk (ho); clear HB; clear HO880; have HB := n0_; have HO883 := n1_; clear n0_ n1_; clear ho hb hg hat; obtain ⟨Ao24, co24, eo24⟩ := Kd.R_slice HO883.out; subst eo24) | ((with_reducible refine gate_callee (f := 86) rfl ?_); refine goesL_ (some 31) rfl rfl Try.func86 (by kernel_rfl) rfl #[.slice Ao24 y881.length co24] rfl (by (try simp only [List.map_toArray, List.map_cons, List.map_nil]); first | done | rfl | (simp only [List.length_drop, List.length_take]; rfl)) ?_; (with_reducible refine (spec_l02Sort.calls kj2 _ _ y881 t884 _ ?side1 ?side2 A18.out).mono ?_); (case side1 => repeat (first | exact (Kd.R_reads' HO883.out).2.2 | (with_reducible refine Kd.C_alloc ?_ _) | (with_reducible refine Kd.C_drewN ?_ _) | (with_reducible refine Kd.C_drew ?_))); (case side2 => exact (Kd.R_reads' HO883.out).2.1); rintro e w25 ⟨v885, rfl, ho0, hb⟩; refine ⟨_, rfl, ?_⟩; have n0_ := Aside0.mk (Kd.R_elder' (by (with_reducible repeat (first | apply Kd.R_alloc | apply Kd.R_drewN | apply Kd.R_drew)); exact HO883.out) (Kd.R_base ho0) hb); have n1_ := Aside0.mk (Kd.R_lower (Kd.R_new' ho0 (Kd.R_lt (by (with_reducible repeat (first | apply Kd.R_alloc | apply Kd.R_drewN | apply Kd.R_drew)); exact HO883.out))) (below_size (by repeat (first | (with_reducible first | exact HB.out | apply below_alloc | apply pw_below_drewN | apply below_drew1) | exact HB.out)))); have n2_ := Aside0.mk (below_step (by repeat (first | (with_reducible first | exact HB.out | apply below_alloc | apply pw_below_drewN | apply below_drew1) | exact HB.out)) hb); clear HO883; clear HB; have HO883 := n0_; have HO886 := n1_; have HB := n2_; clear n0_ n1_ n2_; (try clear hb); (try clear hb2); (try clear hk); (try clear hi); (try clear ho0)))
                go_ret2
                exact ⟨_, by first | rfl | (simp [errW_none, errW_some] <;> rfl) | (simp [*, errW_none, errW_some] <;> rfl), by (with_reducible repeat (first | apply Kd.R_alloc | apply Kd.R_drewN | apply Kd.R_drew)); exact Kd.R_mono HO886.out (fun _ hk => trivial), by repeat (first | (with_reducible first | exact HB.out | apply below_alloc | apply pw_below_drewN | apply below_drew1) | exact HB.out)⟩
              · rw [if_neg c17] at H
                exact absurd H (by simp)
            · rw [if_neg c16] at H
              exact absurd H (by simp)

/-! ### slices_Concat_Cell: function 92, by hand -/
-- IMPORT Derived.Lib.SliceRun
-- IMPORT Derived.Lib.Walk
def totC_ (l : List (List S57)) : Nat := (l.map List.length).sum
def slices_Concat_Cell.f (l0 : List (List S57)) : Option (List S57) := if totC_ l0 ≤ 8796093022208 then some l0.flatten else none
theorem flatC_append (a b : List S57) : flatC_ (a ++ b) = flatC_ a ++ flatC_ b := by unfold flatC_; rw [List.map_append, List.flatten_append]
/-- the cells of a row that is read -/
theorem readC_cells {w : World} {ad : Addr} {l : List S57} (h : Kd.C k57 w (some ad) l.length l) : ∀ j u, (flatC_ l)[j]? = some u → w.cell? (ad.add j) = some u := by
  intro j u hj
  have hlt : j < l.length * 2 := by rw [← flatC_length]; exact (List.getElem?_eq_some_iff.1 hj).1
  obtain ⟨ad', e1, hc⟩ := h.2.2 (by omega)
  cases e1
  have hx : l[j / 2]? = some (l[j / 2]'(by omega)) := List.getElem?_eq_getElem (by omega)
  obtain ⟨c, hcl, hR, hcc⟩ := hc (j / 2) _ hx
  have e := kC_M_inv (w := w) (base := 0) (ok := fun _ => True) (x := l[j / 2]'(by omega)) (cs := c) hR
  obtain ⟨g0, g1⟩ := flatC_get l (j / 2) _ hx
  have h2 : j % 2 = 0 ∨ j % 2 = 1 := by omega
  have ej : j = j / 2 * 2 + j % 2 := by omega
  have hs : k57.sz = 2 := rfl
  rw [hs] at hcc
  rcases h2 with h2 | h2
  · have : j = 2 * (j / 2) := by omega
    rw [this, g0] at hj
    rw [ej, h2]
    exact (hcc 0 _ (by rw [e]; rfl)).trans hj
  · have : j = 2 * (j / 2) + 1 := by omega
    rw [this, g1] at hj
    rw [ej, h2]
    exact (hcc 1 _ (by rw [e]; rfl)).trans hj
set_option maxHeartbeats 2000000 in
set_option maxRecDepth 100000 in
/-- slices.Grow at nil -/
theorem growC_nil (m : Nat) (hm : m ≤ 8796093022208) (w : World) : Calls Try.prog 120 #[.slice none 0 0, .int .i64 m] w fun e w' => ∃ v : Value, e = .returned v ∧ w'.ownsRow w.heap.size 57 2 v 0 [] ∧ Below w.heap.size w w' := by
  have hu1 := Try.underlying30
  have z0 : decide ((m : Int) < 0) = false := decide_eq_false (by omega)
  by_cases h0 : m = 0
  · subst h0
    go_enter Try.func120, Try.ntmps120
    go_wp2
    go_ret
    exact ⟨_, rfl, own_nil _ _ _ _, Below.refl _ _⟩
  · have z1 : decide (0 < (m : Int)) = true := decide_eq_true (by omega)
    have hH0 : Kd.R k57 57 w w.heap.size (fun _ => True) (.slice none 0 0) [] := Kd.R_nil _ _ _ _ _
    have HH0 := Aside0.mk hH0
    have HM := Aside0.mk hm
    have H0 := Aside0.mk h0
    clear hH0
    go_enter Try.func120, Try.ntmps120
    go_wp2_with (at_builtin; refine Kd.R_append_zeros k57 (w0 := w) w.heap.size rfl (.tmp 20) (.tmp 21) 30 3 57 (.agg #[(.int .i64 0), (.int .i64 0)]) 16 rfl hu1 (k := .i64) Try.underlying3 info57 rfl (by decide) (by decide) (.slice none 0 0) [] ⟨0, 0⟩ (kx := .i64) (m : Int) (fun _ => True) rfl rfl (kC_M _ _ _ ⟨0, 0⟩) (fun _ _ => trivial) HH0.out (by omega) (Below.refl _ _) (Nat.le_refl _) ?hl ?_)
    case hl => have := HM.out; simp only [List.length_nil, Int.toNat_natCast]; omega
    intro v1 w1 hR hb hg _
    obtain ⟨_, inner, ⟨hl, hv⟩, _⟩ := hR
    simp only [List.nil_append, List.length_replicate, Int.toNat_natCast] at hv
    rcases hv with ⟨_, hn⟩ | ⟨g, cap, cur, rfl, hge, hbk, hcap, hmax, hcs, ht⟩
    · exact absurd hn H0.out
    · have HBK := Aside0.mk (⟨hge, hbk, hmax, hcs⟩ : w.heap.size ≤ g ∧ w1.heap[g]? = some (.cells cur 57 (0, 0)) ∧ cap ≤ maxLen ∧ cur.size = cap * 2)
      have HB := Aside0.mk hb
      clear hl ht hge hbk hmax hcs hb hg
      go_wp2_with fail
      all_goals go_ret
      all_goals
        obtain ⟨b1, b2, b3, b4⟩ := HBK.out
        exact ⟨_, rfl, ⟨rfl, Or.inr ⟨g, cap, cur, rfl, b1, b2, Nat.zero_le _, b3, b4, by simp⟩⟩, HB.out⟩
theorem atLC_ {w : World} {A : Option Addr} {n : Nat} {ll : List (List S57)} (h : Kd.C (Kd.slice 57 k57) w A n ll) (j : Nat) (x : List S57) (hx : ll[j]? = some x) :
    ∃ ad A1 c1, A = some ad ∧ w.cell? (ad.add j) = some (.slice A1 x.length c1) ∧ x.length ≤ c1 ∧ Kd.C k57 w A1 x.length x := by
  have hlt : j < ll.length := (List.getElem?_eq_some_iff.1 hx).1
  have hn : ll.length = n := h.1
  obtain ⟨ad, e1, hc⟩ := h.2.2 (by omega)
  obtain ⟨c, hcl, ⟨A1, c1, rfl, hle, hC⟩, hcc⟩ := hc j x hx
  refine ⟨ad, A1, c1, e1, ?_, hle, hC⟩
  have := hcc 0 _ rfl
  have hs : (Kd.slice 57 k57).sz = 1 := rfl
  rw [hs, Nat.mul_one, Nat.add_zero] at this
  exact this
set_option maxHeartbeats 4000000 in
set_option maxRecDepth 100000 in
theorem slices_Concat_Cell.calls (A0 : Option Addr) (c0 : Nat) (l0 : List (List S57)) (r : List S57) (w : World) (hr0 : Kd.C (Kd.slice 57 k57) w A0 l0.length l0) (hc0 : l0.length ≤ c0) (h : slices_Concat_Cell.f l0 = some r) :
    Calls Try.prog 92 #[.slice A0 l0.length c0] w fun e w' => ∃ v0_ : Value, e = .returned (v0_) ∧ Kd.R k57 57 w' w.heap.size (fun _ => True) v0_ r ∧ Below w.heap.size w w' := by
  have hu1 := Try.underlying30
  have hu2 := Try.underlying105
  unfold slices_Concat_Cell.f at h
  by_cases hb : totC_ l0 ≤ 8796093022208
  rotate_left
  · rw [if_neg hb] at h; exact absurd h (by simp)
  rw [if_pos hb] at h
  obtain rfl := Option.some.inj h
  have hlen : l0.length ≤ 9223372036854775807 := hr0.2.1
  have HR0 := Aside0.mk hr0
  have HT := Aside0.mk hb
  clear hr0 hb h
  have tdrop : ∀ j, j < l0.length → totC_ (l0.drop j) = (l0.getD j []).length + totC_ (l0.drop (j + 1)) := by
    intro j hj
    rw [List.drop_eq_getElem_cons hj, List.getD_eq_getElem?_getD, List.getElem?_eq_getElem hj]; rfl
  have TD := Aside0.mk tdrop
  clear tdrop
  go_enter Try.func92, Try.ntmps92
  go_wp2_with fail
  go_loopg [3, 11] l0.length (fun gk v3 v11 w' => ∃ (j : Nat) (s : Nat), v3 = .int .i64 s ∧ v11 = .int .i64 j ∧ w' = w ∧ Aside0 (gk + j = l0.length) ∧ Aside0 (s + totC_ (l0.drop j) = totC_ l0))
  case atStart => exact ⟨0, 0, rfl, rfl, rfl, ⟨rfl⟩, ⟨by rw [List.drop_zero, Nat.zero_add]⟩⟩
  case round =>
    obtain ⟨j, s, rfl, rfl, hw, HK, HS⟩ := hrel
    have hw2 := hw.symm
    subst hw2
    cases gk with
    | zero =>
      have hj : j = l0.length := by have := HK.out; omega
      have c1 : decide ((j : Int) < (l0.length : Int)) = false := decide_eq_false (by omega)
      have c2 : decide (j < l0.length) = false := decide_eq_false (by omega)
      have hs : s = totC_ l0 := by have := HS.out; rw [hj, List.drop_length] at this; exact this
      have hs2 : s ≤ 8796093022208 := by rw [hs]; exact HT.out
      have HS2 := Aside0.mk hs2
      have HC := Aside0.mk hc0
      clear hj hs hs2 HS HK
      go_wp2_with fail
      refine (growC_nil s HS2.out _).mono ?_
      rintro e w1 ⟨v, rfl, hown, hb1⟩
      have HO : Aside0 (Kd.R k57 57 w1 w.heap.size (fun _ => True) v []) := ⟨ownC_R hown (fun _ _ => trivial)⟩
      have HB1 := Aside0.mk hb1
      clear hown hb1 c1 c2
      go_wp2_with fail
      go_loopg [6, 27] l0.length (fun gk v6 v27 w' => ∃ (j : Nat), v27 = .int .i64 j ∧ Aside0 (gk + j = l0.length) ∧ Aside0 (Kd.R k57 57 w' w.heap.size (fun _ => True) v6 (l0.take j).flatten) ∧ Aside0 (Below w.heap.size w w'))
      case atStart => exact ⟨0, rfl, ⟨rfl⟩, HO, HB1⟩
      case round =>
        clear HO HB1
        obtain ⟨j2, rfl, HK2, HO, HB2⟩ := hrel
        cases gk with
        | zero =>
          have hj : j2 = l0.length := by have := HK2.out; omega
          have c1 : decide ((j2 : Int) < (l0.length : Int)) = false := decide_eq_false (by omega)
          have c2 : decide (j2 < l0.length) = false := decide_eq_false (by omega)
          have HJ := Aside0.mk hj
          clear hj
          go_wp2_with fail
          go_ret
          have ho := HO.out
          rw [HJ.out, List.take_length] at ho
          exact ⟨_, rfl, ho, HB2.out⟩
        | succ gk3 =>
          have hj : j2 < l0.length := by have := HK2.out; omega
          have p1 : 0 ≤ (j2 : Int) := by omega
          have q1 : (j2 : Int) < (l0.length : Int) := by omega
          have hx : l0[j2]? = some (l0.getD j2 []) := by rw [List.getD_eq_getElem?_getD, List.getElem?_eq_getElem hj]; rfl
          obtain ⟨ad, A1, c1', e1, hcell, _, hC⟩ := atLC_ HR0.out j2 (l0.getD j2 []) hx
          subst e1
          have hcell2 := (HB2.out.cell (World.block_lt_of_cell? w _ hcell)).trans hcell
          have HC1 := Aside0.mk (Kd.C_below hC HB2.out)
          have c1 : decide ((j2 : Int) < (l0.length : Int)) = true := decide_eq_true q1
          have c2 : decide (j2 < l0.length) = true := decide_eq_true hj
          have htk : (l0.take (j2 + 1)).flatten = (l0.take j2).flatten ++ l0.getD j2 [] := by
            rw [List.take_add_one, hx, List.flatten_append]; simp
          have HTK := Aside0.mk htk
          have hbd : ((l0.take j2).flatten.length + (l0.getD j2 []).length) * 16 ≤ 140737488355328 := by
            have h1 : (l0.take (j2 + 1)).flatten.length ≤ l0.flatten.length := by
              conv => rhs; rw [← List.take_append_drop (j2 + 1) l0, List.flatten_append, List.length_append]
              omega
            have h2 : l0.flatten.length = totC_ l0 := by unfold totC_; rw [List.length_flatten]
            rw [htk, List.length_append, h2] at h1
            have := HT.out
            omega
          have HBD := Aside0.mk hbd
          clear htk hbd hcell hC hj hx
          generalize l0.getD j2 [] = x at *
          go_wp2_with (at_builtin; refine Kd.R_append_rows k57 (Rr := k57.K _) (w0 := w) w.heap.size rfl (.tmp 31) (.tmp 32) 30 57 (.agg #[(.int .i64 0), (.int .i64 0)]) 16 rfl hu1 info57 rfl (by decide) (by decide) _ _ x A1 x.length c1' (fun _ => True) (fun _ => False) rfl rfl HO.out HC1.out (fun y cs hy => hy) (fun _ hk => hk.elim) (fun _ _ => trivial) HB2.out HB2.out.size HBD.out ?_)
          intro v1 w2 hR hb hg _
          have HR1 := Aside0.mk hR
          have HB3 := Aside0.mk hb
          clear hR hb hg
          go_wp2_with fail
          go_roundg gk3
          case measure => omega
          case rel => exact ⟨j2 + 1, by go_num, ⟨by have := HK2.out; omega⟩, ⟨by rw [HTK.out]; exact HR1.out⟩, HB3⟩
    | succ gk2 =>
      have hj : j < l0.length := by have := HK.out; omega
      have p1 : 0 ≤ (j : Int) := by omega
      have q1 : (j : Int) < (l0.length : Int) := by omega
      obtain ⟨ad, A1, c1', e1, hcell, _, _⟩ := atLC_ HR0.out j (l0.getD j []) (by rw [List.getD_eq_getElem?_getD, List.getElem?_eq_getElem hj]; rfl)
      subst e1
      have c1 : decide ((j : Int) < (l0.length : Int)) = true := decide_eq_true q1
      have c2 : decide (j < l0.length) = true := decide_eq_true hj
      have htd := TD.out j hj
      have hs2 : s + (l0.getD j []).length ≤ 8796093022208 := by have := HS.out; have := HT.out; omega
      have HS2 : Aside0 (s + (l0.getD j []).length + totC_ (l0.drop (j + 1)) = totC_ l0) := ⟨by have := HS.out; omega⟩
      clear htd HS
      generalize l0.getD j [] = x at *
      have z1 : decide ((s : Int) + (x.length : Int) < 0) = false := decide_eq_false (by omega)
      go_wp2_with fail
      go_roundg gk2
      case measure => omega
      case rel => exact ⟨j + 1, s + x.length, by go_num, by go_num, rfl, ⟨by have := HK.out; omega⟩, HS2⟩

/-! ### impl_JoinShapes: function 48, by hand -/
def impl_JoinShapes.meet (k : Nat) (l1 : List S57) : List S57 → Option Bool
  | [] => some false
  | c :: r => (slices_Contains_Cell.f k l1 c.f0 c.f1).bind fun t => if t = true then some true else impl_JoinShapes.meet k l1 r
def impl_JoinShapes.f (k : Nat) (l0 l1 : List S57) : Option (List S57 × Int) :=
  (impl_IsShape.f k l0).bind fun t => if t = true then ((impl_IsShape.f k l1).bind fun t2 => if t2 = true then ((impl_JoinShapes.meet k l1 l0).bind fun m => if m = true then some (([] : List S57), 5) else if wrap64 ((l0.length : Int) + (l1.length : Int)) > 40 then some (([] : List S57), 3) else (slices_Concat_Cell.f [l0, l1]).bind fun c => (impl_sorted.f c).bind fun t => some (t, 0)) else some (([] : List S57), 1)) else some (([] : List S57), 1)
theorem impl_JoinShapes.mono : ∀ a0 a1 k, LeO (impl_JoinShapes.f k a0 a1) (impl_JoinShapes.f (k + 1) a0 a1) := by
  intro a0 a1 k
  have h : ∀ r, LeO (impl_JoinShapes.meet k a1 r) (impl_JoinShapes.meet (k + 1) a1 r) := by
    intro r
    induction r with
    | nil => exact LeO.refl _
    | cons c r ih => exact LeO.bind (slices_Contains_Cell.mono _ _ _ k) (fun t => LeO.ite (LeO.refl _) ih)
  exact LeO.bind (impl_IsShape.mono _ k) (fun t => LeO.ite (LeO.bind (impl_IsShape.mono _ k) (fun t2 => LeO.ite (LeO.bind (h _) (fun m => LeO.refl _)) (LeO.refl _))) (LeO.refl _))
set_option maxHeartbeats 8000000 in
set_option maxRecDepth 100000 in
theorem impl_JoinShapes.calls (k : Nat) (A0 : Option Addr) (c0 : Nat) (l0 : List S57) (A1 : Option Addr) (c1 : Nat) (l1 : List S57) (r1 : List S57) (r2 : Int) (w : World) (hr0 : Kd.C k57 w A0 l0.length l0) (hc0 : l0.length ≤ c0) (hr1 : Kd.C k57 w A1 l1.length l1) (hc1 : l1.length ≤ c1) (h : impl_JoinShapes.f k l0 l1 = some (r1, r2)) :
    Calls Try.prog 48 #[.slice A0 l0.length c0, .slice A1 l1.length c1] w fun e w' => ∃ v0_ : Value, e = .returned (.tuple #[v0_, .int .i64 r2]) ∧ Kd.R k57 57 w' w.heap.size (fun _ => True) v0_ r1 ∧ Below w.heap.size w w' := by
  have HR0 := Aside0.mk hr0
  have HR1 := Aside0.mk hr1
  have HC0 := Aside0.mk hc0
  have HC1 := Aside0.mk hc1
  have hlen0 : l0.length ≤ 9223372036854775807 := hr0.2.1
  have hlen1 : l1.length ≤ 9223372036854775807 := hr1.2.1
  clear hr0 hr1 hc0 hc1
  obtain ⟨t, ht, h⟩ := Option.bind_eq_some_iff.mp h
  have HT := Aside0.mk ht
  clear ht
  cases t with
  | false =>
    simp only [Bool.false_eq_true, if_false, Option.some.injEq, Prod.mk.injEq] at h
    obtain ⟨rfl, rfl⟩ := h
    go_enter Try.func48, Try.ntmps48
    go_wp2_with fail
    refine (impl_IsShape.calls k A0 c0 l0 false _ HR0.out HC0.out HT.out).mono ?_
    rintro e w1 ⟨rfl, hb⟩
    have HB1 := Aside0.mk hb
    clear hb
    go_wp2_with fail
    go_ret2
    exact ⟨_, rfl, Kd.R_nil _ _ _ _ _, HB1.out⟩
  | true =>
    simp only [if_true] at h
    obtain ⟨t2, ht2, h⟩ := Option.bind_eq_some_iff.mp h
    have HT2 := Aside0.mk ht2
    clear ht2
    cases t2 with
    | false =>
      simp only [Bool.false_eq_true, if_false, Option.some.injEq, Prod.mk.injEq] at h
      obtain ⟨rfl, rfl⟩ := h
      go_enter Try.func48, Try.ntmps48
      go_wp2_with fail
      refine (impl_IsShape.calls k A0 c0 l0 true _ HR0.out HC0.out HT.out).mono ?_
      rintro e w1 ⟨rfl, hb⟩
      have HB1 := Aside0.mk hb
      clear hb
      go_wp2_with fail
      refine (impl_IsShape.calls k A1 c1 l1 false _ (Kd.C_below HR1.out HB1.out) HC1.out HT2.out).mono ?_
      rintro e w2 ⟨rfl, hb⟩
      have HB2 := Aside0.mk (below_step HB1.out hb)
      clear hb
      go_wp2_with fail
      go_ret2
      exact ⟨_, rfl, Kd.R_nil _ _ _ _ _, HB2.out⟩
    | true =>
      simp only [if_true] at h
      obtain ⟨m, hm, h⟩ := Option.bind_eq_some_iff.mp h
      have HM : Aside0 (impl_JoinShapes.meet k l1 (l0.drop 0) = some m) := ⟨hm⟩
      have H := Aside0.mk h
      clear hm h
      go_enter Try.func48, Try.ntmps48
      go_wp2_with fail
      refine (impl_IsShape.calls k A0 c0 l0 true _ HR0.out HC0.out HT.out).mono ?_
      rintro e w1 ⟨rfl, hb⟩
      have HB1 := Aside0.mk hb
      clear hb
      go_wp2_with fail
      refine (impl_IsShape.calls k A1 c1 l1 true _ (Kd.C_below HR1.out HB1.out) HC1.out HT2.out).mono ?_
      rintro e w2 ⟨rfl, hb⟩
      have HB2 := Aside0.mk (below_step HB1.out hb)
      clear hb HB1 HT HT2
      go_wp2_with fail
      go_loopg [18] l0.length (fun gk v18 w' => ∃ (j : Nat), v18 = .int .i64 j ∧ Aside0 (gk + j = l0.length) ∧ Aside0 (impl_JoinShapes.meet k l1 (l0.drop j) = some m) ∧ Aside0 (Below w.heap.size w w'))
      case atStart => exact ⟨0, rfl, ⟨rfl⟩, HM, HB2⟩
      case round =>
        clear HM HB2
        obtain ⟨j, rfl, HK, HM, HB⟩ := hrel
        cases gk with
        | zero =>
          have hj : j = l0.length := by have := HK.out; omega
          have d1 : decide ((j : Int) < (l0.length : Int)) = false := decide_eq_false (by omega)
          have d2 : decide (j < l0.length) = false := decide_eq_false (by omega)
          have hmm := HM.out
          rw [hj, List.drop_length] at hmm
          have hm2 : some false = some m := hmm
          obtain rfl := Option.some.inj hm2
          have h := H.out
          clear hj hmm hm2 HM H
          simp only [Bool.false_eq_true, if_false] at h
          by_cases hgt : wrap64 ((l0.length : Int) + (l1.length : Int)) > 40
          · rw [if_pos hgt] at h
            simp only [Option.some.injEq, Prod.mk.injEq] at h
            obtain ⟨rfl, rfl⟩ := h
            have hz : decide (40 < wrap64 ((l0.length : Int) + (l1.length : Int))) = true := decide_eq_true hgt
            go_wp2_with fail
            go_ret2
            exact ⟨_, rfl, Kd.R_nil _ _ _ _ _, HB.out⟩
          · rw [if_neg hgt] at h
            have hz : decide (40 < wrap64 ((l0.length : Int) + (l1.length : Int))) = false := decide_eq_false hgt
            obtain ⟨c, hc, h⟩ := Option.bind_eq_some_iff.mp h
            obtain ⟨s, hs, h⟩ := Option.bind_eq_some_iff.mp h
            simp only [Option.some.injEq, Prod.mk.injEq] at h
            obtain ⟨rfl, rfl⟩ := h
            have HC := Aside0.mk hc
            have HS := Aside0.mk hs
            clear hc hs
            go_wp2_with fail
            have hb2 := below_alloc HB.out (.cells #[.slice A0 l0.length c0, .slice A1 l1.length c1] 30)
            have hblk := heap_alloc_new wr (.cells #[.slice A0 l0.length c0, .slice A1 l1.length c1] 30)
            have hCC : Kd.C (Kd.slice 57 k57) (wr.alloc (.cells #[.slice A0 l0.length c0, .slice A1 l1.length c1] 30)) (some ⟨wr.heap.size, 0, none⟩) ([l0, l1] : List (List S57)).length [l0, l1] := by
              refine ⟨rfl, by simp, fun _ => ⟨_, rfl, fun j2 p hp => ?_⟩⟩
              match j2, hp with
              | 0, hp =>
                obtain rfl := Option.some.inj hp
                refine ⟨[.slice A0 l0.length c0], rfl, ⟨A0, c0, rfl, HC0.out, Kd.C_below HR0.out hb2⟩, fun i u hu => ?_⟩
                match i, hu with
                | 0, hu => obtain rfl := Option.some.inj hu; exact (blk_cell hblk 0).trans rfl
              | 1, hp =>
                obtain rfl := Option.some.inj hp
                refine ⟨[.slice A1 l1.length c1], rfl, ⟨A1, c1, rfl, HC1.out, Kd.C_below HR1.out hb2⟩, fun i u hu => ?_⟩
                match i, hu with
                | 0, hu => obtain rfl := Option.some.inj hu; exact (blk_cell hblk 1).trans rfl
            have HCC := Aside0.mk hCC
            have HB2 := Aside0.mk hb2
            clear hCC hb2 hblk
            refine (slices_Concat_Cell.calls _ 2 [l0, l1] c _ HCC.out (by simp) HC.out).mono ?_
            rintro e w3 ⟨v, rfl, hR, hb3⟩
            obtain ⟨A3, c3, rfl, hl3, hC3⟩ := Kd.R_reads hR
            have HC3 := Aside0.mk hC3
            have HL3 := Aside0.mk hl3
            have HB3 := Aside0.mk (below_step HB2.out hb3)
            clear hR hb3 hC3 hl3
            go_wp2_with fail
            refine (impl_sorted.calls A3 c3 c s _ HC3.out HL3.out HS.out).mono ?_
            rintro e w4 ⟨v4, rfl, hR4, hb4⟩
            have HR4 := Aside0.mk (Kd.R_lower hR4 (Nat.le_trans (Below.refl w.heap.size w).size HB3.out.size))
            have HB4 := Aside0.mk (below_step HB3.out hb4)
            clear hR4 hb4
            go_wp2_with fail
            go_ret2
            exact ⟨_, rfl, HR4.out, HB4.out⟩
        | succ gk2 =>
          have hj : j < l0.length := by have := HK.out; omega
          have p1 : 0 ≤ (j : Int) := by omega
          have q1 : (j : Int) < (l0.length : Int) := by omega
          obtain ⟨ad, e1, hx0, hx1⟩ := at_T57 HR0.out j p1 q1
          subst e1
          rw [Int.toNat_natCast] at hx0 hx1
          have d1 : decide ((j : Int) < (l0.length : Int)) = true := decide_eq_true q1
          have d2 : decide (j < l0.length) = true := decide_eq_true hj
          have hd : l0.drop j = rd_T57 l0 j :: l0.drop (j + 1) := by
            rw [List.drop_eq_getElem_cons hj]; congr 1
            unfold rd_T57; rw [List.getD_eq_getElem?_getD, Int.toNat_natCast, List.getElem?_eq_getElem hj]; rfl
          have HM2 := HM.out
          rw [hd] at HM2
          clear hd HM
          generalize rd_T57 l0 (j : Int) = cc at *
          obtain ⟨t, ht, HM3⟩ := Option.bind_eq_some_iff.mp HM2
          have HT := Aside0.mk ht
          have HM4 := Aside0.mk HM3
          replace hx0 := (HB.out.cell (World.block_lt_of_cell? w _ hx0)).trans hx0
          replace hx1 := (HB.out.cell (World.block_lt_of_cell? w _ hx1)).trans hx1
          clear HM2 HM3 ht hj
          go_wp2_with fail
          refine (slices_Contains_Cell.calls k A1 c1 l1 cc.f0 cc.f1 t _ (Kd.C_below HR1.out (below_alloc HB.out _)) HC1.out HT.out).mono ?_
          rintro e w3 ⟨rfl, hb3⟩
          have HB3 := Aside0.mk (below_step (below_alloc HB.out _) hb3)
          clear hb3 hx0 hx1
          cases t with
          | true =>
            have hm3 : some true = some m := HM4.out
            obtain rfl := Option.some.inj hm3
            have h := H.out
            simp only [if_true, Option.some.injEq, Prod.mk.injEq] at h
            obtain ⟨rfl, rfl⟩ := h
            clear H HM4 hm3
            go_wp2_with fail
            go_ret2
            exact ⟨_, rfl, Kd.R_nil _ _ _ _ _, HB3.out⟩
          | false =>
            have HM5 : Aside0 (impl_JoinShapes.meet k l1 (l0.drop (j + 1)) = some m) := ⟨HM4.out⟩
            clear HM4
            go_wp2_with fail
            go_roundg gk2
            case measure => omega
            case rel => exact ⟨j + 1, by go_num, ⟨by have := HK.out; omega⟩, HM5, HB3⟩

end Go.Proofs.Ytbfmocohknadkaa.X
