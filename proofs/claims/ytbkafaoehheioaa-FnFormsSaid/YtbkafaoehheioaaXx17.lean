-- xprint.py
import Derived.Test.YtbkafaoehheioaaXx0
import Derived.Test.YtbkafaoehheioaaXx3
import Derived.Test.YtbkafaoehheioaaXx4
import Derived.Test.YtbkafaoehheioaaXx6
import Derived.Test.YtbkafaoehheioaaXx11
import Derived.Test.YtbkafaoehheioaaXx12
import Derived.Test.YtbkafaoehheioaaXx15
import Derived.Test.YtbkafaoehheioaaXx16
namespace Go.Proofs.Ytbkafaoehheioaa.X
open Go.RowKit Go.Proofs.YtbkafaoehheioaaW.PrintWords Go.Proofs.YtbkafaoehheioaaW.PrintLast Go.Proofs.YtbkafaoehheioaaW.PrintMore
attribute [local go_sem] max2_int min2_int max_two min_two max_three min_three max_four min_four   -- for this text's walks alone
set_option linter.unusedVariables false
set_option linter.unusedSimpArgs false

/-! ### spec_SymmetriesOf: function 22 -/
def spec_SymmetriesOf.l0 : Nat → List (S55) → List Int → Int → Option (List Int × Int)
 | 0, _, _, _ => none
 | k + 1, x0, x5, x6 => if x6 < 8 then ((spec_l03Form.f k x0 x6).bind fun t806 => ((spec_l03Form.f k x0 0).bind fun t809 => ((spec_CompareShapes.f k t806 t809).bind fun t812 => (if t812 = 0 then (if x5.length < 17592186044416 then (spec_SymmetriesOf.l0 k x0 (x5 ++ [x6]) (wrap64 (x6 + 1))) else (none)) else (spec_SymmetriesOf.l0 k x0 x5 (wrap64 (x6 + 1))))))) else (some (x5, 0))
def spec_SymmetriesOf.f (k : Nat) (l0 : List (S55)) : Option (List Int × Int) := (spec_l03Code.f k l0).bind fun t802 => (if t802 = 0 then (spec_SymmetriesOf.l0 k l0 (([] : List Int)) 0) else (some (([] : List Int), t802)))
theorem spec_SymmetriesOf.mono_l : ∀ k, (∀ y0 y1 y2, LeO (spec_SymmetriesOf.l0 k y0 y1 y2) (spec_SymmetriesOf.l0 (k + 1) y0 y1 y2))
 | 0 => fun _ _ _ r h => by simp [spec_SymmetriesOf.l0] at h
 | k + 1 => by
  have ih0 := spec_SymmetriesOf.mono_l k
  ·intro y0 y1 y2
   unfold spec_SymmetriesOf.l0
   repeat' first
   | (with_reducible exact ih0 _ _ _)
   | (with_reducible exact spec_CompareShapes.mono _ _ _)
   | (with_reducible exact spec_l03Code.mono _ _)
   | (with_reducible exact spec_l03Form.mono _ _ _)
   | (with_reducible exact LeO.refl _)
   | (with_reducible exact LeO.none _)
   | (with_reducible refine LeO.ite ?_ ?_)
   | (with_reducible refine LeO.bind ?_ (fun _ => ?_))
   | exact ih0 _ _ _
   | exact spec_CompareShapes.mono _ _ _
   | exact spec_l03Code.mono _ _
   | exact spec_l03Form.mono _ _ _
   | exact LeO.none _
   | refine LeO.ite ?_ ?_
   | refine LeO.bind ?_ (fun _ => ?_)
theorem spec_SymmetriesOf.mono : ∀ a0 k, LeO (spec_SymmetriesOf.f k a0) (spec_SymmetriesOf.f (k + 1) a0) := by
 intro a0 k
 have ih0 := spec_SymmetriesOf.mono_l k
 unfold spec_SymmetriesOf.f
 repeat' first
   | (with_reducible exact ih0 _ _ _)
   | (with_reducible exact spec_CompareShapes.mono _ _ _)
   | (with_reducible exact spec_l03Code.mono _ _)
   | (with_reducible exact spec_l03Form.mono _ _ _)
   | (with_reducible exact LeO.refl _)
   | (with_reducible exact LeO.none _)
   | (with_reducible refine LeO.ite ?_ ?_)
   | (with_reducible refine LeO.bind ?_ (fun _ => ?_))
   | exact ih0 _ _ _
   | exact spec_CompareShapes.mono _ _ _
   | exact spec_l03Code.mono _ _
   | exact spec_l03Form.mono _ _ _
   | exact LeO.none _
   | refine LeO.ite ?_ ?_
   | refine LeO.bind ?_ (fun _ => ?_)
set_option maxHeartbeats 8000000 in
set_option maxRecDepth 100000 in
theorem spec_SymmetriesOf.calls (k : Nat) (A0 : Option Addr) (c0 : Nat) (l0 : List (S55)) (r1 : List Int) (r2 : Int) (w : World) (hr0 : Kd.C k55 w A0 l0.length l0) (hc0 : l0.length ≤ c0) (h : spec_SymmetriesOf.f k l0 = some (r1, r2)) :
  Calls Try.prog 22 #[.slice A0 l0.length c0] w fun e w' => ∃ v0_ : Value, e = .returned (.tuple #[v0_, .int .i64 r2]) ∧ Kd.R (Kd.int .i64) 2 w' w.heap.size (fun _ => True) v0_ r1 ∧ Below w.heap.size w w' := by
 have HR0 := Aside0.mk hr0
 have HC0 := Aside0.mk hc0
 clear hr0 hc0
 have HB := Aside0.mk (Below.refl w.heap.size w)
 have H : ((spec_l03Code.f k l0).bind fun t802 => (if t802 = 0 then (spec_SymmetriesOf.l0 k l0 (([] : List Int)) 0) else (some (([] : List Int), t802)))) = some (r1, r2) := h
 clear h
 replace H := Option.bind_eq_some_iff.mp H
 obtain ⟨t802, A20, H⟩ := H
 try dsimp only at H
 have A2 := Aside0.mk A20
 clear A20
 by_cases c3 : t802 = 0
 ·rw [if_pos c3] at H
  have c3b0 : (t802 == 0) = true := beq_iff_eq.mpr c3
  have c3b1 : (t802 != 0) = false := bne_eq_false_iff_eq.mpr c3
  clear c3
  obtain ⟨y803, hY_⟩ : ∃ y_ : List Int, y_ = (([] : List Int)) := ⟨_, rfl⟩
  replace H : (spec_SymmetriesOf.l0 k l0 y803 0) = some (r1, r2) := yY_
  have Ny803 := Aside0.mk hY_
  clear hY_
  have H' := Aside0.mk H
  clear H
  go_enter Try.func22, Try.ntmps22
  go_wp2_with (first | ((with_reducible refine gate_callee (f := 52) rfl ?_); refine gL_ (some 8) Try.func52 #[.slice A0 l0.length c0] ?_; (with_reducible refine (spec_l03Code.calls k _ _ l0 t802 _ ?side1 ?side2 A2.out).mono ?_); (case side1 => exact cS_ HR0.out); (case side2 => exact HC0.out); rintro e w4 ⟨rfl, hb⟩; refine ⟨_, rfl, ?_⟩; replace HB := Aside0.mk (below_step bB_ hb); (try clear hb)) | ((with_reducible refine gate_dst (N := 12) rfl ?_); refine Kd.R_lit (Kd.int .i64) _ 2 ?hg (N := 12) ?hd (xs := ([] : List Int)) (inner := []) (ok := fun _ => True) (okp := fun _ => True) ?hr ?hp (fun _ hk => hk) trivial (Below.refl _ _) (Nat.le_refl _) (by simp) ?_; (case hd => rfl); (case hg => rfl); (case hr => first | (go_simp; done) | (go_simp; rfl)); (case hp => exact (Reps.none _ _)); intro v804 w5 ho6 hb hg_ hnew_; clear hg_ hnew_; (first | rw [← Ny803.out] at ho6 | (simp only [Int.reduceToNat] at ho6; rw [← Ny803.out] at ho6)); have HO805 := Aside0.mk (Kd.R_lower ho6 (below_size bB_)); replace HB := Aside0.mk (below_step bB_ hb); clear hb ho6))
  go_loopg [5, 6] k (fun kq v5 v6 w' => ∃ (x5_1 : List Int) (x6_1 : Int), v6 = .int .i64 x6_1 ∧ Aside0 (spec_SymmetriesOf.l0 kq l0 x5_1 x6_1 = some (r1, r2)) ∧ Aside0 (kq ≤ k) ∧ Aside0 (Kd.R (Kd.int .i64) 2 w' w.heap.size (fun _ => True) v5 x5_1) ∧ Aside0 (Below w.heap.size w w'))
  case atStart => exact ⟨(y803), (0), r3_, H', ⟨Nat.le_refl _⟩, ⟨rS_ HO805.out⟩, ⟨bB_⟩⟩
  case round =>
   clear H'
   try clear c2
   try clear p2
   try clear c3
   try clear c3b0
   try clear c3b1
   try clear c5
   obtain ⟨x5_1, x6_1, rfl, HA, HK1, HO_5, HB⟩ := hrel
   cases gk with
   | zero => exact absurd HA.out (by simp [spec_SymmetriesOf.l0])
   | succ k1 =>
    have H := HA.out
    clear HA
    simp only [spec_SymmetriesOf.l0] at H
    by_cases c7 : x6_1 < 8
    ·rw [if_pos c7] at H
     have c7b0 : decide (x6_1 < 8) = true := decide_eq_true c7
     clear c7
     replace H := Option.bind_eq_some_iff.mp H
     obtain ⟨t806, A80, H⟩ := H
     try dsimp only at H
     have A8 := Aside0.mk A80
     clear A80
     replace H := Option.bind_eq_some_iff.mp H
     obtain ⟨t809, A90, H⟩ := H
     try dsimp only at H
     have A9 := Aside0.mk A90
     clear A90
     replace H := Option.bind_eq_some_iff.mp H
     obtain ⟨t812, A100, H⟩ := H
     try dsimp only at H
     have A10 := Aside0.mk A100
     clear A100
     by_cases c11 : t812 = 0
     ·rw [if_pos c11] at H
      have c11b0 : (t812 == 0) = true := beq_iff_eq.mpr c11
      have c11b1 : (t812 != 0) = false := bne_eq_false_iff_eq.mpr c11
      clear c11
      by_cases c12 : x5_1.length < 17592186044416
      ·rw [if_pos c12] at H
       have LMc12 := Aside0.mk c12
       clear c12
       obtain ⟨y813, hY_⟩ : ∃ y_ : List Int, y_ = (x5_1 ++ [x6_1]) := ⟨_, rfl⟩
       replace H : (spec_SymmetriesOf.l0 k1 l0 y813 (wrap64 (x6_1 + 1))) = some (r1, r2) := yY_
       have Ny813 := Aside0.mk hY_
       clear hY_
       have H' := Aside0.mk H
       clear H
       go_wp2_with (first | ((with_reducible refine gate_callee (f := 62) rfl ?_); refine gL_ (some 19) Try.func62 #[.slice A0 l0.length c0, .int .i64 x6_1] ?_; (with_reducible refine (spec_l03Form.calls k1 _ _ l0 x6_1 t806 _ ?side1 ?side2 A8.out).mono ?_); (case side1 => exact cS_ (Kd.C_below HR0.out HB.out)); (case side2 => exact HC0.out); rintro e w13 ⟨v807, rfl, ho0, hb⟩; refine ⟨_, rfl, ?_⟩; replace HO_5 := Aside0.mk (Kd.R_below (rS_ HO_5.out) hb); have HO808 := Aside0.mk (Kd.R_lower ho0 (below_size bB_)); replace HB := Aside0.mk (below_step bB_ hb); (try clear hb ho0)) | ((with_reducible refine gate_callee (f := 62) rfl ?_); refine gL_ (some 21) Try.func62 #[.slice A0 l0.length c0, .int .i64 0] ?_; (with_reducible refine (spec_l03Form.calls k1 _ _ l0 0 t809 _ ?side1 ?side2 A9.out).mono ?_); (case side1 => exact cS_ (Kd.C_below HR0.out HB.out)); (case side2 => exact HC0.out); rintro e w14 ⟨v810, rfl, ho0, hb⟩; refine ⟨_, rfl, ?_⟩; replace HO_5 := Aside0.mk (Kd.R_below (rS_ HO_5.out) hb); have HO811 := Aside0.mk (Kd.R_lower (Kd.R_new' ho0 (Kd.R_lt (rS_ HO808.out))) (below_size bB_)); replace HO808 := Aside0.mk (Kd.R_elder' (rS_ HO808.out) (Kd.R_base ho0) hb); replace HB := Aside0.mk (below_step bB_ hb); (try clear hb ho0); obtain ⟨Ao15, co15, eo15⟩ := Kd.R_slice HO808.out; subst eo15; obtain ⟨Ao16, co16, eo16⟩ := Kd.R_slice HO811.out; subst eo16) | ((with_reducible refine gate_callee (f := 61) rfl ?_); refine gL_ (some 22) Try.func61 #[.slice Ao15 t806.length co15, .slice Ao16 t809.length co16] ?_; (with_reducible refine (spec_CompareShapes.calls k1 _ _ t806 _ _ t809 t812 _ ?side1 ?side2 ?side3 ?side4 A10.out).mono ?_); (case side1 => exact cS_ ((Kd.R_reads' HO808.out).2.2)); (case side2 => exact (Kd.R_reads' HO808.out).2.1); (case side3 => exact cS_ ((Kd.R_reads' HO811.out).2.2)); (case side4 => exact (Kd.R_reads' HO811.out).2.1); rintro e w17 ⟨rfl, hb⟩; refine ⟨_, rfl, ?_⟩; replace HO_5 := Aside0.mk (Kd.R_below (rS_ HO_5.out) hb); replace HO808 := Aside0.mk (Kd.R_below (rS_ HO808.out) hb); replace HO811 := Aside0.mk (Kd.R_below (rS_ HO811.out) hb); replace HB := Aside0.mk (below_step bB_ hb); (try clear hb)) | ((with_reducible refine gate_builtin (b := .append) (xs := #[.tmp 24, .tmp 26]) rfl ?_); at_builtin; refine Kd.R_append (Kd.int .i64) (w0 := w) w.heap.size rfl (.tmp 24) (.tmp 26) 39 2 (.int .i64 0) 8 rfl Try.underlying39 info2 rfl (by decide) (by omega) u5 x5_1 x6_1 [.int .i64 x6_1] (fun _ => True) (fun _ => False) rfl rfl ?aP (fun _ hk => hk.elim) ?aF ?aO ?aB ?aS ?aL ?_; (case aP => exact rfl); (case aB => exact bB_); (case aF => exact (fun _ _ => trivial)); (case aO => exact (rS_ HO_5.out)); (case aS => exact (below_size bB_)); (case aL => have := LMc12.out; omega); intro v814 w18 ho hb hg hat; rw [← Ny813.out] at ho; replace HO808 := Aside0.mk (Kd.R_over' (rS_ HO808.out) (Kd.R_typed (rS_ HO_5.out)) (by decide) hg); replace HO811 := Aside0.mk (Kd.R_over' (rS_ HO811.out) (Kd.R_typed (rS_ HO_5.out)) (by decide) hg); replace HB := Aside0.mk (hb); have HO815 := Aside0.mk (ho); clear HO_5; clear ho hb hg hat))
       go_roundg k1
       case measure => have := HK1.out; omega
       case rel => exact ⟨(y813), (wrap64 (x6_1 + 1)), r3_, H', ⟨by have := HK1.out; omega⟩, ⟨rS_ HO815.out⟩, ⟨bB_⟩⟩
      ·rw [if_neg c12] at H
       exact absurd H (by simp)
     ·rw [if_neg c11] at H
      have c11b0 : (t812 == 0) = false := beq_eq_false_iff_ne.mpr c11
      have c11b1 : (t812 != 0) = true := bne_iff_ne.mpr c11
      have H' := Aside0.mk H
      clear H
      go_wp2_with (first | ((with_reducible refine gate_callee (f := 62) rfl ?_); refine gL_ (some 19) Try.func62 #[.slice A0 l0.length c0, .int .i64 x6_1] ?_; (with_reducible refine (spec_l03Form.calls k1 _ _ l0 x6_1 t806 _ ?side1 ?side2 A8.out).mono ?_); (case side1 => exact cS_ (Kd.C_below HR0.out HB.out)); (case side2 => exact HC0.out); rintro e w19 ⟨v807, rfl, ho0, hb⟩; refine ⟨_, rfl, ?_⟩; replace HO_5 := Aside0.mk (Kd.R_below (rS_ HO_5.out) hb); have HO808 := Aside0.mk (Kd.R_lower ho0 (below_size bB_)); replace HB := Aside0.mk (below_step bB_ hb); (try clear hb ho0)) | ((with_reducible refine gate_callee (f := 62) rfl ?_); refine gL_ (some 21) Try.func62 #[.slice A0 l0.length c0, .int .i64 0] ?_; (with_reducible refine (spec_l03Form.calls k1 _ _ l0 0 t809 _ ?side1 ?side2 A9.out).mono ?_); (case side1 => exact cS_ (Kd.C_below HR0.out HB.out)); (case side2 => exact HC0.out); rintro e w20 ⟨v810, rfl, ho0, hb⟩; refine ⟨_, rfl, ?_⟩; replace HO_5 := Aside0.mk (Kd.R_below (rS_ HO_5.out) hb); have HO811 := Aside0.mk (Kd.R_lower (Kd.R_new' ho0 (Kd.R_lt (rS_ HO808.out))) (below_size bB_)); replace HO808 := Aside0.mk (Kd.R_elder' (rS_ HO808.out) (Kd.R_base ho0) hb); replace HB := Aside0.mk (below_step bB_ hb); (try clear hb ho0); obtain ⟨Ao21, co21, eo21⟩ := Kd.R_slice HO808.out; subst eo21; obtain ⟨Ao22, co22, eo22⟩ := Kd.R_slice HO811.out; subst eo22) | ((with_reducible refine gate_callee (f := 61) rfl ?_); refine gL_ (some 22) Try.func61 #[.slice Ao21 t806.length co21, .slice Ao22 t809.length co22] ?_; (with_reducible refine (spec_CompareShapes.calls k1 _ _ t806 _ _ t809 t812 _ ?side1 ?side2 ?side3 ?side4 A10.out).mono ?_); (case side1 => exact cS_ ((Kd.R_reads' HO808.out).2.2)); (case side2 => exact (Kd.R_reads' HO808.out).2.1); (case side3 => exact cS_ ((Kd.R_reads' HO811.out).2.2)); (case side4 => exact (Kd.R_reads' HO811.out).2.1); rintro e w23 ⟨rfl, hb⟩; refine ⟨_, rfl, ?_⟩; replace HO_5 := Aside0.mk (Kd.R_below (rS_ HO_5.out) hb); replace HO808 := Aside0.mk (Kd.R_below (rS_ HO808.out) hb); replace HO811 := Aside0.mk (Kd.R_below (rS_ HO811.out) hb); replace HB := Aside0.mk (below_step bB_ hb); (try clear hb)))
      go_roundg k1
      case measure => have := HK1.out; omega
      case rel => exact ⟨(x5_1), (wrap64 (x6_1 + 1)), r3_, H', ⟨by have := HK1.out; omega⟩, ⟨rS_ HO_5.out⟩, ⟨bB_⟩⟩
    ·rw [if_neg c7] at H
     have c7b0 : decide (x6_1 < 8) = false := decide_eq_false c7
     clear c7
     simp only [Option.some.injEq, Prod.mk.injEq] at H
     obtain ⟨rfl, rfl⟩ := H
     go_wp2
     go_ret2
     exact ⟨_, r2_, rS_ HO_5.out, bB_⟩
 ·rw [if_neg c3] at H
  have c3b0 : (t802 == 0) = false := beq_eq_false_iff_ne.mpr c3
  have c3b1 : (t802 != 0) = true := bne_iff_ne.mpr c3
  simp only [Option.some.injEq, Prod.mk.injEq] at H
  obtain ⟨rfl, rfl⟩ := H
  go_enter Try.func22, Try.ntmps22
  go_wp2_with (first | ((with_reducible refine gate_callee (f := 52) rfl ?_); refine gL_ (some 8) Try.func52 #[.slice A0 l0.length c0] ?_; (with_reducible refine (spec_l03Code.calls k _ _ l0 t802 _ ?side1 ?side2 A2.out).mono ?_); (case side1 => exact cS_ HR0.out); (case side2 => exact HC0.out); rintro e w24 ⟨rfl, hb⟩; refine ⟨_, rfl, ?_⟩; replace HB := Aside0.mk (below_step bB_ hb); (try clear hb)))
  go_ret2
  exact ⟨_, r2_, by first | exact Kd.R_nil _ _ _ _ _ | exact Kd.N_nil _ _ _ _ _ | exact Kd.V_nil _ _ _ _ _ | exact Kd.Q_nil _ _ _ _ _ | exact Kd.S_nil _ _ _ _ _, bB_⟩

/-! ### spec_FormsOf: function 24 -/
def spec_FormsOf.f (k : Nat) (l0 : List (S55)) : Option ((List (List (S55))) × Int) := (spec_l03Code.f k l0).bind fun t816 => (if t816 = 0 then ((spec_l03Forms.f k l0 8).bind fun t817 => (some (t817, 0))) else (some (([] : List (List (S55))), t816)))
theorem spec_FormsOf.mono : ∀ a0 k, LeO (spec_FormsOf.f k a0) (spec_FormsOf.f (k + 1) a0) := by
 intro a0 k
 unfold spec_FormsOf.f
 repeat' first
   | (with_reducible exact spec_l03Code.mono _ _)
   | (with_reducible exact spec_l03Forms.mono _ _ _)
   | (with_reducible exact LeO.refl _)
   | (with_reducible exact LeO.none _)
   | (with_reducible refine LeO.ite ?_ ?_)
   | (with_reducible refine LeO.bind ?_ (fun _ => ?_))
   | exact spec_l03Code.mono _ _
   | exact spec_l03Forms.mono _ _ _
   | exact LeO.none _
   | refine LeO.ite ?_ ?_
   | refine LeO.bind ?_ (fun _ => ?_)
set_option maxHeartbeats 8000000 in
set_option maxRecDepth 100000 in
theorem spec_FormsOf.calls (k : Nat) (A0 : Option Addr) (c0 : Nat) (l0 : List (S55)) (r1 : List (List (S55))) (r2 : Int) (w : World) (hr0 : Kd.C k55 w A0 l0.length l0) (hc0 : l0.length ≤ c0) (h : spec_FormsOf.f k l0 = some (r1, r2)) :
  Calls Try.prog 24 #[.slice A0 l0.length c0] w fun e w' => ∃ v0_ : Value, e = .returned (.tuple #[v0_, .int .i64 r2]) ∧ Kd.V (Kd.slice 55 k55) 27 w' w.heap.size (fun k_ => (w.heap.size ≤ k_)) v0_ r1 ∧ Below w.heap.size w w' := by
 have HR0 := Aside0.mk hr0
 have HC0 := Aside0.mk hc0
 clear hr0 hc0
 have HB := Aside0.mk (Below.refl w.heap.size w)
 have H : ((spec_l03Code.f k l0).bind fun t816 => (if t816 = 0 then ((spec_l03Forms.f k l0 8).bind fun t817 => (some (t817, 0))) else (some (([] : List (List (S55))), t816)))) = some (r1, r2) := h
 clear h
 replace H := Option.bind_eq_some_iff.mp H
 obtain ⟨t816, A20, H⟩ := H
 try dsimp only at H
 have A2 := Aside0.mk A20
 clear A20
 by_cases c3 : t816 = 0
 ·rw [if_pos c3] at H
  have c3b0 : (t816 == 0) = true := beq_iff_eq.mpr c3
  have c3b1 : (t816 != 0) = false := bne_eq_false_iff_eq.mpr c3
  clear c3
  replace H := Option.bind_eq_some_iff.mp H
  obtain ⟨t817, A40, H⟩ := H
  try dsimp only at H
  have A4 := Aside0.mk A40
  clear A40
  simp only [Option.some.injEq, Prod.mk.injEq] at H
  obtain ⟨rfl, rfl⟩ := H
  go_enter Try.func24, Try.ntmps24
  go_wp2_with (first | ((with_reducible refine gate_callee (f := 52) rfl ?_); refine gL_ (some 6) Try.func52 #[.slice A0 l0.length c0] ?_; (with_reducible refine (spec_l03Code.calls k _ _ l0 t816 _ ?side1 ?side2 A2.out).mono ?_); (case side1 => exact cS_ HR0.out); (case side2 => exact HC0.out); rintro e w5 ⟨rfl, hb⟩; refine ⟨_, rfl, ?_⟩; replace HB := Aside0.mk (below_step bB_ hb); (try clear hb)) | ((with_reducible refine gate_callee (f := 54) rfl ?_); refine gL_ (some 11) Try.func54 #[.slice A0 l0.length c0, .int .i64 8] ?_; (with_reducible refine (spec_l03Forms.calls k _ _ l0 8 t817 _ ?side1 ?side2 A4.out).mono ?_); (case side1 => exact cS_ (Kd.C_below HR0.out HB.out)); (case side2 => exact HC0.out); rintro e w6 ⟨v818, rfl, ho0, hb⟩; refine ⟨_, rfl, ?_⟩; have HO819 := Aside0.mk (Kd.V_lower (Kd.V_mono (ok' := fun k_ => (w.heap.size ≤ k_)) ho0 (fun k_ hk_ => (Nat.le_trans (below_size bB_) hk_))) (below_size bB_)); replace HB := Aside0.mk (below_step bB_ hb); (try clear hb ho0)))
  go_ret2
  exact ⟨_, r2_, by (with_reducible repeat (first | apply Kd.V_alloc | apply Kd.V_drewN | apply Kd.V_drew)); exact HO819.out, bB_⟩
 ·rw [if_neg c3] at H
  have c3b0 : (t816 == 0) = false := beq_eq_false_iff_ne.mpr c3
  have c3b1 : (t816 != 0) = true := bne_iff_ne.mpr c3
  simp only [Option.some.injEq, Prod.mk.injEq] at H
  obtain ⟨rfl, rfl⟩ := H
  go_enter Try.func24, Try.ntmps24
  go_wp2_with (first | ((with_reducible refine gate_callee (f := 52) rfl ?_); refine gL_ (some 6) Try.func52 #[.slice A0 l0.length c0] ?_; (with_reducible refine (spec_l03Code.calls k _ _ l0 t816 _ ?side1 ?side2 A2.out).mono ?_); (case side1 => exact cS_ HR0.out); (case side2 => exact HC0.out); rintro e w7 ⟨rfl, hb⟩; refine ⟨_, rfl, ?_⟩; replace HB := Aside0.mk (below_step bB_ hb); (try clear hb)))
  go_ret2
  exact ⟨_, r2_, Kd.S_V (base := w.heap.size) (Kd.S_nil _ _ _ _ _), bB_⟩

/-! ### laws_likeInts: function 25 -/
def laws_likeInts.l0 : Nat → List Int → List Int → Int → Option (Bool)
 | 0, _, _, _ => none
 | k + 1, x0, x1, x5 => if x5 < (x0.length : Int) then (if 0 ≤ x5 then (if x5 < (x1.length : Int) then (if (rd x0 x5) = (rd x1 x5) then (laws_likeInts.l0 k x0 x1 (wrap64 (x5 + 1))) else (some false)) else (none)) else (none)) else (some true)
def laws_likeInts.f (k : Nat) (l0 : List Int) (l1 : List Int) : Option (Bool) := if (l0.length : Int) = (l1.length : Int) then (laws_likeInts.l0 k l0 l1 0) else (some false)
theorem laws_likeInts.mono_l : ∀ k, (∀ y0 y1 y2, LeO (laws_likeInts.l0 k y0 y1 y2) (laws_likeInts.l0 (k + 1) y0 y1 y2))
 | 0 => fun _ _ _ r h => by simp [laws_likeInts.l0] at h
 | k + 1 => by
  have ih0 := laws_likeInts.mono_l k
  ·intro y0 y1 y2
   unfold laws_likeInts.l0
   repeat' first
   | (with_reducible exact ih0 _ _ _)
   | (with_reducible exact LeO.refl _)
   | (with_reducible exact LeO.none _)
   | (with_reducible refine LeO.ite ?_ ?_)
   | (with_reducible refine LeO.bind ?_ (fun _ => ?_))
   | exact ih0 _ _ _
   | exact LeO.none _
   | refine LeO.ite ?_ ?_
   | refine LeO.bind ?_ (fun _ => ?_)
theorem laws_likeInts.mono : ∀ a0 a1 k, LeO (laws_likeInts.f k a0 a1) (laws_likeInts.f (k + 1) a0 a1) := by
 intro a0 a1 k
 have ih0 := laws_likeInts.mono_l k
 unfold laws_likeInts.f
 repeat' first
   | (with_reducible exact ih0 _ _ _)
   | (with_reducible exact LeO.refl _)
   | (with_reducible exact LeO.none _)
   | (with_reducible refine LeO.ite ?_ ?_)
   | (with_reducible refine LeO.bind ?_ (fun _ => ?_))
   | exact ih0 _ _ _
   | exact LeO.none _
   | refine LeO.ite ?_ ?_
   | refine LeO.bind ?_ (fun _ => ?_)
set_option maxHeartbeats 8000000 in
set_option maxRecDepth 100000 in
theorem laws_likeInts.calls (k : Nat) (A0 : Option Addr) (c0 : Nat) (l0 : List Int) (A1 : Option Addr) (c1 : Nat) (l1 : List Int) (r : Bool) (w : World) (hr0 : Kd.C (Kd.int .i64) w A0 l0.length l0) (hc0 : l0.length ≤ c0) (hr1 : Kd.C (Kd.int .i64) w A1 l1.length l1) (hc1 : l1.length ≤ c1) (h : laws_likeInts.f k l0 l1 = some r) :
  Calls Try.prog 25 #[.slice A0 l0.length c0, .slice A1 l1.length c1] w fun e w' => e = .returned (.bool r) ∧ Drawn0 w w' := by
 have HR0 := Aside0.mk hr0
 have HC0 := Aside0.mk hc0
 clear hr0 hc0
 have HR1 := Aside0.mk hr1
 have HC1 := Aside0.mk hc1
 clear hr1 hc1
 have H : (if (l0.length : Int) = (l1.length : Int) then (laws_likeInts.l0 k l0 l1 0) else (some false)) = some r := h
 clear h
 by_cases c3 : (l0.length : Int) = (l1.length : Int)
 ·rw [if_pos c3] at H
  have c3b0 : ((l0.length : Int) == (l1.length : Int)) = true := beq_iff_eq.mpr c3
  have c3b1 : ((l0.length : Int) != (l1.length : Int)) = false := bne_eq_false_iff_eq.mpr c3
  have c3b2 : (l0.length == l1.length) = true := by first | simpa using c3 | (simp at c3 ⊢; omega)
  clear c3
  have H' := Aside0.mk H
  clear H
  go_enter Try.func25, Try.ntmps25
  go_wp2
  repeat (go_quiet (fail); try go_wp2)
  go_loopg [5] k (fun kq v5 w' => ∃ (x5_1 : Int), v5 = .int .i64 x5_1 ∧ Aside0 (laws_likeInts.l0 kq l0 l1 x5_1 = some r) ∧ Aside0 (kq ≤ k) ∧ Drawn0 w w')
  case atStart => exact ⟨(0), r3_, H', ⟨Nat.le_refl _⟩, by repeat (first | exact Drawn0.refl _ | apply Drawn0.step)⟩
  case round =>
   clear H'
   try clear c1
   try clear c2
   try clear p2
   try clear c3
   try clear c3b0
   try clear c3b1
   try clear c3b2
   obtain ⟨x5_1, rfl, HA, HK1, ⟨m1, rfl⟩⟩ := hrel
   cases gk with
   | zero => exact absurd HA.out (by simp [laws_likeInts.l0])
   | succ k1 =>
    have H := HA.out
    clear HA
    simp only [laws_likeInts.l0] at H
    by_cases c4 : x5_1 < (l0.length : Int)
    ·rw [if_pos c4] at H
     have c4b0 : decide (x5_1 < (l0.length : Int)) = true := decide_eq_true c4
     clear c4
     by_cases c5 : 0 ≤ x5_1
     ·rw [if_pos c5] at H
      have c5b0 : decide (0 ≤ x5_1) = true := decide_eq_true c5
      clear c5
      by_cases c6 : x5_1 < (l1.length : Int)
      ·rw [if_pos c6] at H
       have c6b0 : decide (x5_1 < (l1.length : Int)) = true := decide_eq_true c6
       clear c6
       by_cases c7 : (rd l0 x5_1) = (rd l1 x5_1)
       ·rw [if_pos c7] at H
        have c7b0 : ((rd l0 x5_1) == (rd l1 x5_1)) = true := beq_iff_eq.mpr c7
        have c7b1 : ((rd l0 x5_1) != (rd l1 x5_1)) = false := bne_eq_false_iff_eq.mpr c7
        clear c7
        have H' := Aside0.mk H
        clear H
        have p820 : 0 ≤ (x5_1 : Int) := of_decide_eq_true aS_
        have q820 : x5_1 < (l0.length : Int) := of_decide_eq_true aS_
        obtain ⟨ad820, e820, hx820_0⟩ := Kd.at_int HR0.out x5_1 p820 q820
        cases e820
        replace p820 := eq_true p820
        replace q820 := eq_true q820
        have p821 : 0 ≤ (x5_1 : Int) := of_decide_eq_true aS_
        have q821 : x5_1 < (l1.length : Int) := of_decide_eq_true aS_
        obtain ⟨ad821, e821, hx821_0⟩ := Kd.at_int HR1.out x5_1 p821 q821
        cases e821
        replace p821 := eq_true p821
        replace q821 := eq_true q821
        go_wp2
        repeat (go_quiet (fail); try go_wp2)
        go_roundg k1
        case measure => have := HK1.out; omega
        case rel => exact ⟨(wrap64 (x5_1 + 1)), r3_, H', ⟨by have := HK1.out; omega⟩, by repeat (first | exact Drawn0.refl _ | apply Drawn0.step)⟩
       ·rw [if_neg c7] at H
        have c7b0 : ((rd l0 x5_1) == (rd l1 x5_1)) = false := beq_eq_false_iff_ne.mpr c7
        have c7b1 : ((rd l0 x5_1) != (rd l1 x5_1)) = true := bne_iff_ne.mpr c7
        obtain rfl := Option.some.inj H
        have p820 : 0 ≤ (x5_1 : Int) := of_decide_eq_true aS_
        have q820 : x5_1 < (l0.length : Int) := of_decide_eq_true aS_
        obtain ⟨ad820, e820, hx820_0⟩ := Kd.at_int HR0.out x5_1 p820 q820
        cases e820
        replace p820 := eq_true p820
        replace q820 := eq_true q820
        have p821 : 0 ≤ (x5_1 : Int) := of_decide_eq_true aS_
        have q821 : x5_1 < (l1.length : Int) := of_decide_eq_true aS_
        obtain ⟨ad821, e821, hx821_0⟩ := Kd.at_int HR1.out x5_1 p821 q821
        cases e821
        replace p821 := eq_true p821
        replace q821 := eq_true q821
        go_wp2
        repeat (go_quiet (fail); try go_wp2)
        go_ret
        exact ⟨r3_, by repeat (first | exact Drawn0.refl _ | apply Drawn0.step)⟩
      ·rw [if_neg c6] at H
       exact absurd H (by simp)
     ·rw [if_neg c5] at H
      exact absurd H (by simp)
    ·rw [if_neg c4] at H
     have c4b0 : decide (x5_1 < (l0.length : Int)) = false := decide_eq_false c4
     clear c4
     obtain rfl := Option.some.inj H
     go_wp2
     repeat (go_quiet (fail); try go_wp2)
     go_ret
     exact ⟨r3_, by repeat (first | exact Drawn0.refl _ | apply Drawn0.step)⟩
 ·rw [if_neg c3] at H
  have c3b0 : ((l0.length : Int) == (l1.length : Int)) = false := beq_eq_false_iff_ne.mpr c3
  have c3b1 : ((l0.length : Int) != (l1.length : Int)) = true := bne_iff_ne.mpr c3
  have c3b2 : (l0.length == l1.length) = false := by first | simpa using c3 | (simp at c3 ⊢; omega)
  obtain rfl := Option.some.inj H
  go_enter Try.func25, Try.ntmps25
  go_wp2
  repeat (go_quiet (fail); try go_wp2)
  go_ret
  exact ⟨r3_, by repeat (first | exact Drawn0.refl _ | apply Drawn0.step)⟩

/-! ### impl_FreeForm: function 27, by hand -/
-- COMMONS none
def impl_FreeForm.f (k : Nat) (l0 : List S55) : Option (List S55 × Int) :=
 (impl_shapeCode.f k l0).bind fun t => if t = 0 then ((impl_forms.f k l0 8).bind fun o => if o.length = 0 then none else some (minS_ o, 0)) else some (([] : List S55), t)
theorem impl_FreeForm.mono : ∀ a0 k, LeO (impl_FreeForm.f k a0) (impl_FreeForm.f (k + 1) a0) := by
 intro a0 k
 unfold impl_FreeForm.f
 refine LeO.bind (impl_shapeCode.mono _ _) fun t => LeO.ite (LeO.bind (impl_forms.mono _ _ _) fun _ => LeO.refl _) (LeO.refl _)
set_option maxHeartbeats 4000000 in
set_option maxRecDepth 100000 in
theorem freeForm_walk (k : Nat) (A0 : Option Addr) (c0 : Nat) (l0 : List S55) (o : List (List S55)) (w0 w : World) (hr0 : Kd.C k55 w A0 l0.length l0) (hc0 : l0.length ≤ c0) (hB : Below w0.heap.size w0 w) (ho : impl_forms.f k l0 8 = some o) (hn : 0 < o.length) :
  Calls Try.prog 57 #[.slice A0 l0.length c0] w fun e w' => ∃ v, e = .returned v ∧ Kd.R k55 55 w' w0.heap.size (fun _ => True) v (minS_ o) ∧ Below w0.heap.size w0 w' := by
 have HR0 := Aside0.mk hr0
 have HC0 := Aside0.mk hc0
 have HB := Aside0.mk hB
 have HO := Aside0.mk ho
 have HN := Aside0.mk hn
 clear hr0 hc0 hB ho hn
 go_enter Try.func57, Try.ntmps57
 go_wp2_with fail
 refine (impl_forms.calls k A0 c0 l0 8 o _ HR0.out HC0.out HO.out).mono ?_
 rintro e w2 ⟨v, rfl, hS, hb⟩
 have HS2 := Aside0.mk (Kd.S_lower hS (below_size HB.out))
 have HB2 := Aside0.mk (below_step HB.out hb)
 clear hb hS
 obtain ⟨A, cc, ev⟩ := Kd.S_slice HS2.out
 subst ev
 go_wp2_with fail
 refine (leastOf_walk _ o w0 w2 HB2.out HS2.out HN.out).mono ?_
 rintro e w3 ⟨v3, rfl, hR, hb⟩
 obtain ⟨A3, cc3, ev3⟩ := Kd.R_slice hR
 subst ev3
 have HR3 := Aside0.mk hR
 have HB3 := Aside0.mk hb
 clear hb hR
 go_wp2_with fail
 go_ret
 exact ⟨_, rfl, HR3.out, HB3.out⟩
set_option maxHeartbeats 4000000 in
set_option maxRecDepth 100000 in
theorem impl_FreeForm.calls (k : Nat) (A0 : Option Addr) (c0 : Nat) (l0 : List S55) (r1 : List S55) (r2 : Int) (w : World) (hr0 : Kd.C k55 w A0 l0.length l0) (hc0 : l0.length ≤ c0) (h : impl_FreeForm.f k l0 = some (r1, r2)) :
  Calls Try.prog 27 #[.slice A0 l0.length c0] w fun e w' => ∃ v0_ : Value, e = .returned (.tuple #[v0_, .int .i64 r2]) ∧ Kd.R k55 55 w' w.heap.size (fun _ => True) v0_ r1 ∧ Below w.heap.size w w' := by
 unfold impl_FreeForm.f at h
 have HR0 := Aside0.mk hr0
 have HC0 := Aside0.mk hc0
 clear hr0 hc0
 obtain ⟨t, ht, h⟩ := Option.bind_eq_some_iff.mp h
 have HT := Aside0.mk ht
 clear ht
 by_cases c : t = 0
 ·rw [if_pos c] at h
  subst c
  obtain ⟨o, ho, h⟩ := Option.bind_eq_some_iff.mp h
  by_cases hn : o.length = 0
  ·rw [if_pos hn] at h; exact absurd h (by simp)
  rw [if_neg hn] at h
  simp only [Option.some.injEq, Prod.mk.injEq] at h
  obtain ⟨rfl, rfl⟩ := h
  have HO := Aside0.mk ho
  have HN := Aside0.mk (show 0 < o.length by omega)
  clear ho hn
  go_enter Try.func27, Try.ntmps27
  go_wp2_with fail
  refine (impl_shapeCode.calls k A0 c0 l0 0 _ HR0.out HC0.out HT.out).mono ?_
  rintro e w1 ⟨rfl, hb⟩
  have HB1 := Aside0.mk hb
  clear hb
  go_wp2_with fail
  refine (freeForm_walk k A0 c0 l0 o w w1 (Kd.C_below HR0.out HB1.out) HC0.out HB1.out HO.out HN.out).mono ?_
  rintro e w3 ⟨v3, rfl, hR, hb⟩
  obtain ⟨A3, cc3, ev3⟩ := Kd.R_slice hR
  subst ev3
  have HR3 := Aside0.mk hR
  have HB3 := Aside0.mk hb
  clear hb hR
  go_wp2_with fail
  go_ret2
  exact ⟨_, rfl, HR3.out, HB3.out⟩
 ·rw [if_neg c] at h
  simp only [Option.some.injEq, Prod.mk.injEq] at h
  obtain ⟨rfl, rfl⟩ := h
  have c3b0 : (t == 0) = false := beq_eq_false_iff_ne.mpr c
  have c3b1 : (t != 0) = true := bne_iff_ne.mpr c
  go_enter Try.func27, Try.ntmps27
  go_wp2_with fail
  refine (impl_shapeCode.calls k A0 c0 l0 t _ HR0.out HC0.out HT.out).mono ?_
  rintro e w1 ⟨rfl, hb⟩
  have HB1 := Aside0.mk hb
  clear hb
  go_wp2_with fail
  go_ret2
  exact ⟨_, rfl, Kd.R_nil _ _ _ _ _, HB1.out⟩

/-! ### impl_CompareShapes: function 29 -/
def impl_CompareShapes.f (k : Nat) (l0 : List (S55)) (l1 : List (S55)) : Option (Int) := (impl_compareShapes.f k l0 l1).bind fun t827 => (some t827)
theorem impl_CompareShapes.mono : ∀ a0 a1 k, LeO (impl_CompareShapes.f k a0 a1) (impl_CompareShapes.f (k + 1) a0 a1) := by
 intro a0 a1 k
 unfold impl_CompareShapes.f
 repeat' first
   | (with_reducible exact impl_compareShapes.mono _ _ _)
   | (with_reducible exact LeO.refl _)
   | (with_reducible exact LeO.none _)
   | (with_reducible refine LeO.ite ?_ ?_)
   | (with_reducible refine LeO.bind ?_ (fun _ => ?_))
   | exact impl_compareShapes.mono _ _ _
   | exact LeO.none _
   | refine LeO.ite ?_ ?_
   | refine LeO.bind ?_ (fun _ => ?_)
set_option maxHeartbeats 8000000 in
set_option maxRecDepth 100000 in
theorem impl_CompareShapes.calls (k : Nat) (A0 : Option Addr) (c0 : Nat) (l0 : List (S55)) (A1 : Option Addr) (c1 : Nat) (l1 : List (S55)) (r : Int) (w : World) (hr0 : Kd.C k55 w A0 l0.length l0) (hc0 : l0.length ≤ c0) (hr1 : Kd.C k55 w A1 l1.length l1) (hc1 : l1.length ≤ c1) (h : impl_CompareShapes.f k l0 l1 = some r) :
  Calls Try.prog 29 #[.slice A0 l0.length c0, .slice A1 l1.length c1] w fun e w' => e = .returned (.int .i64 r) ∧ Below w.heap.size w w' := by
 have HR0 := Aside0.mk hr0
 have HC0 := Aside0.mk hc0
 clear hr0 hc0
 have HR1 := Aside0.mk hr1
 have HC1 := Aside0.mk hc1
 clear hr1 hc1
 have HB := Aside0.mk (Below.refl w.heap.size w)
 have H : ((impl_compareShapes.f k l0 l1).bind fun t827 => (some t827)) = some r := h
 clear h
 replace H := Option.bind_eq_some_iff.mp H
 obtain ⟨t827, A30, H⟩ := H
 try dsimp only at H
 have A3 := Aside0.mk A30
 clear A30
 obtain rfl := Option.some.inj H
 go_enter Try.func29, Try.ntmps29
 go_wp2_with (first | ((with_reducible refine gate_callee (f := 65) rfl ?_); refine gL_ (some 7) Try.func65 #[.slice A0 l0.length c0, .slice A1 l1.length c1] ?_; (with_reducible refine (impl_compareShapes.calls k _ _ l0 _ _ l1 t827 _ ?side1 ?side2 ?side3 ?side4 A3.out).mono ?_); (case side1 => exact cS_ HR0.out); (case side2 => exact HC0.out); (case side3 => exact cS_ HR1.out); (case side4 => exact HC1.out); rintro e w4 ⟨rfl, hb⟩; refine ⟨_, rfl, ?_⟩; replace HB := Aside0.mk (below_step bB_ hb); (try clear hb)))
 go_ret
 exact ⟨r2_, bB_⟩

/-! ### laws_FnForms: function 5 -/
mutual
def laws_FnForms.j0 : Nat → List (S55) → List Int → Int → List (List (S55)) → List (List (S55)) → Bool → Option (Bool)
 | 0, _, _, _, _, _, _ => none
 | k + 1, x3, x4, x5, x8, x10, x60 => if x60 = true then (some false) else (if x5 = 0 then ((impl_FreeForm.f k x3).bind fun bt850 => (if bt850.2 = 0 then (if (wrap64 ((x4.length : Int) * (x8.length : Int))) = 8 then (if 0 < (x10.length : Int) then ((laws_likeCells.f k bt850.1 (rd_L3 x10 0)).bind fun t855 => (laws_FnForms.j1 k x8 bt850.1 (!t855))) else (none)) else (laws_FnForms.j1 k x8 bt850.1 true)) else (laws_FnForms.j1 k x8 bt850.1 true))) else (some true))
def laws_FnForms.j1 : Nat → List (List (S55)) → List (S55) → Bool → Option (Bool)
 | 0, _, _, _ => none
 | k + 1, x8, x12, x85 => if x85 = true then (some false) else (laws_FnForms.l0 k x8 x12 0)
def laws_FnForms.l0 : Nat → List (List (S55)) → List (S55) → Int → Option (Bool)
 | 0, _, _, _ => none
 | k + 1, x8, x12, x14 => if x14 < (x8.length : Int) then (if 0 ≤ x14 then ((impl_FreeForm.f k (rd_L3 x8 x14)).bind fun bt857 => (if bt857.2 = 0 then ((laws_likeCells.f k bt857.1 x12).bind fun t861 => (if t861 = true then (if x14 > 0 then (if 0 ≤ (wrap64 (x14 - 1)) then (if (wrap64 (x14 - 1)) < (x8.length : Int) then ((impl_CompareShapes.f k (rd_L3 x8 (wrap64 (x14 - 1))) (rd_L3 x8 x14)).bind fun t864 => (if t864 = (-1) then (laws_FnForms.l0 k x8 x12 (wrap64 (x14 + 1))) else (some false))) else (none)) else (none)) else (laws_FnForms.l0 k x8 x12 (wrap64 (x14 + 1)))) else (some false))) else (some false))) else (none)) else (some true)
end
def laws_FnForms.f (k : Nat) (l0 : List Int) : Option (Bool) := (laws_big.f l0).bind fun t828 => (if t828 = true then (some true) else ((spec_DrawSymmetriesOf.f k l0).bind fun t829 => ((impl_SymmetriesOf.f k t829).bind fun bt832 => ((spec_SymmetriesOf.f k t829).bind fun bt836 => ((impl_FormsOf.f k t829).bind fun bt840 => ((spec_FormsOf.f k t829).bind fun bt844 => (if bt832.2 = bt836.2 then ((laws_likeInts.f k bt832.1 bt836.1).bind fun t848 => (if t848 = true then (if bt840.2 = bt844.2 then ((laws_likeShapes.f k bt840.1 bt844.1).bind fun t849 => (laws_FnForms.j0 k t829 bt832.1 bt832.2 bt840.1 bt844.1 (!t849))) else (laws_FnForms.j0 k t829 bt832.1 bt832.2 bt840.1 bt844.1 true)) else (laws_FnForms.j0 k t829 bt832.1 bt832.2 bt840.1 bt844.1 true))) else (laws_FnForms.j0 k t829 bt832.1 bt832.2 bt840.1 bt844.1 true))))))))
theorem laws_FnForms.mono_l : ∀ k, (∀ y0 y1 y2 y3 y4 y5, LeO (laws_FnForms.j0 k y0 y1 y2 y3 y4 y5) (laws_FnForms.j0 (k + 1) y0 y1 y2 y3 y4 y5)) ∧ (∀ y0 y1 y2, LeO (laws_FnForms.j1 k y0 y1 y2) (laws_FnForms.j1 (k + 1) y0 y1 y2)) ∧ (∀ y0 y1 y2, LeO (laws_FnForms.l0 k y0 y1 y2) (laws_FnForms.l0 (k + 1) y0 y1 y2))
 | 0 => ⟨fun _ _ _ _ _ _ r h => by simp [laws_FnForms.j0] at h, fun _ _ _ r h => by simp [laws_FnForms.j1] at h, fun _ _ _ r h => by simp [laws_FnForms.l0] at h⟩
 | k + 1 => by
  obtain ⟨ih0, ih1, ih2⟩ := laws_FnForms.mono_l k
  refine ⟨?_, ?_, ?_⟩
  ·intro y0 y1 y2 y3 y4 y5
   unfold laws_FnForms.j0
   repeat' first
   | (with_reducible exact ih0 _ _ _ _ _ _)
   | (with_reducible exact ih1 _ _ _)
   | (with_reducible exact ih2 _ _ _)
   | (with_reducible exact impl_CompareShapes.mono _ _ _)
   | (with_reducible exact impl_FormsOf.mono _ _)
   | (with_reducible exact impl_FreeForm.mono _ _)
   | (with_reducible exact impl_SymmetriesOf.mono _ _)
   | (with_reducible exact laws_likeCells.mono _ _ _)
   | (with_reducible exact laws_likeInts.mono _ _ _)
   | (with_reducible exact laws_likeShapes.mono _ _ _)
   | (with_reducible exact spec_DrawSymmetriesOf.mono _ _)
   | (with_reducible exact spec_FormsOf.mono _ _)
   | (with_reducible exact spec_SymmetriesOf.mono _ _)
   | (with_reducible exact LeO.refl _)
   | (with_reducible exact LeO.none _)
   | (with_reducible refine LeO.ite ?_ ?_)
   | (with_reducible refine LeO.bind ?_ (fun _ => ?_))
   | exact ih0 _ _ _ _ _ _
   | exact ih1 _ _ _
   | exact ih2 _ _ _
   | exact impl_CompareShapes.mono _ _ _
   | exact impl_FormsOf.mono _ _
   | exact impl_FreeForm.mono _ _
   | exact impl_SymmetriesOf.mono _ _
   | exact laws_likeCells.mono _ _ _
   | exact laws_likeInts.mono _ _ _
   | exact laws_likeShapes.mono _ _ _
   | exact spec_DrawSymmetriesOf.mono _ _
   | exact spec_FormsOf.mono _ _
   | exact spec_SymmetriesOf.mono _ _
   | exact LeO.none _
   | refine LeO.ite ?_ ?_
   | refine LeO.bind ?_ (fun _ => ?_)
  ·intro y0 y1 y2
   unfold laws_FnForms.j1
   repeat' first
   | (with_reducible exact ih0 _ _ _ _ _ _)
   | (with_reducible exact ih1 _ _ _)
   | (with_reducible exact ih2 _ _ _)
   | (with_reducible exact impl_CompareShapes.mono _ _ _)
   | (with_reducible exact impl_FormsOf.mono _ _)
   | (with_reducible exact impl_FreeForm.mono _ _)
   | (with_reducible exact impl_SymmetriesOf.mono _ _)
   | (with_reducible exact laws_likeCells.mono _ _ _)
   | (with_reducible exact laws_likeInts.mono _ _ _)
   | (with_reducible exact laws_likeShapes.mono _ _ _)
   | (with_reducible exact spec_DrawSymmetriesOf.mono _ _)
   | (with_reducible exact spec_FormsOf.mono _ _)
   | (with_reducible exact spec_SymmetriesOf.mono _ _)
   | (with_reducible exact LeO.refl _)
   | (with_reducible exact LeO.none _)
   | (with_reducible refine LeO.ite ?_ ?_)
   | (with_reducible refine LeO.bind ?_ (fun _ => ?_))
   | exact ih0 _ _ _ _ _ _
   | exact ih1 _ _ _
   | exact ih2 _ _ _
   | exact impl_CompareShapes.mono _ _ _
   | exact impl_FormsOf.mono _ _
   | exact impl_FreeForm.mono _ _
   | exact impl_SymmetriesOf.mono _ _
   | exact laws_likeCells.mono _ _ _
   | exact laws_likeInts.mono _ _ _
   | exact laws_likeShapes.mono _ _ _
   | exact spec_DrawSymmetriesOf.mono _ _
   | exact spec_FormsOf.mono _ _
   | exact spec_SymmetriesOf.mono _ _
   | exact LeO.none _
   | refine LeO.ite ?_ ?_
   | refine LeO.bind ?_ (fun _ => ?_)
  ·intro y0 y1 y2
   unfold laws_FnForms.l0
   repeat' first
   | (with_reducible exact ih0 _ _ _ _ _ _)
   | (with_reducible exact ih1 _ _ _)
   | (with_reducible exact ih2 _ _ _)
   | (with_reducible exact impl_CompareShapes.mono _ _ _)
   | (with_reducible exact impl_FormsOf.mono _ _)
   | (with_reducible exact impl_FreeForm.mono _ _)
   | (with_reducible exact impl_SymmetriesOf.mono _ _)
   | (with_reducible exact laws_likeCells.mono _ _ _)
   | (with_reducible exact laws_likeInts.mono _ _ _)
   | (with_reducible exact laws_likeShapes.mono _ _ _)
   | (with_reducible exact spec_DrawSymmetriesOf.mono _ _)
   | (with_reducible exact spec_FormsOf.mono _ _)
   | (with_reducible exact spec_SymmetriesOf.mono _ _)
   | (with_reducible exact LeO.refl _)
   | (with_reducible exact LeO.none _)
   | (with_reducible refine LeO.ite ?_ ?_)
   | (with_reducible refine LeO.bind ?_ (fun _ => ?_))
   | exact ih0 _ _ _ _ _ _
   | exact ih1 _ _ _
   | exact ih2 _ _ _
   | exact impl_CompareShapes.mono _ _ _
   | exact impl_FormsOf.mono _ _
   | exact impl_FreeForm.mono _ _
   | exact impl_SymmetriesOf.mono _ _
   | exact laws_likeCells.mono _ _ _
   | exact laws_likeInts.mono _ _ _
   | exact laws_likeShapes.mono _ _ _
   | exact spec_DrawSymmetriesOf.mono _ _
   | exact spec_FormsOf.mono _ _
   | exact spec_SymmetriesOf.mono _ _
   | exact LeO.none _
   | refine LeO.ite ?_ ?_
   | refine LeO.bind ?_ (fun _ => ?_)
theorem laws_FnForms.mono : ∀ a0 k, LeO (laws_FnForms.f k a0) (laws_FnForms.f (k + 1) a0) := by
 intro a0 k
 obtain ⟨ih0, ih1, ih2⟩ := laws_FnForms.mono_l k
 unfold laws_FnForms.f
 repeat' first
   | (with_reducible exact ih0 _ _ _ _ _ _)
   | (with_reducible exact ih1 _ _ _)
   | (with_reducible exact ih2 _ _ _)
   | (with_reducible exact impl_CompareShapes.mono _ _ _)
   | (with_reducible exact impl_FormsOf.mono _ _)
   | (with_reducible exact impl_FreeForm.mono _ _)
   | (with_reducible exact impl_SymmetriesOf.mono _ _)
   | (with_reducible exact laws_likeCells.mono _ _ _)
   | (with_reducible exact laws_likeInts.mono _ _ _)
   | (with_reducible exact laws_likeShapes.mono _ _ _)
   | (with_reducible exact spec_DrawSymmetriesOf.mono _ _)
   | (with_reducible exact spec_FormsOf.mono _ _)
   | (with_reducible exact spec_SymmetriesOf.mono _ _)
   | (with_reducible exact LeO.refl _)
   | (with_reducible exact LeO.none _)
   | (with_reducible refine LeO.ite ?_ ?_)
   | (with_reducible refine LeO.bind ?_ (fun _ => ?_))
   | exact ih0 _ _ _ _ _ _
   | exact ih1 _ _ _
   | exact ih2 _ _ _
   | exact impl_CompareShapes.mono _ _ _
   | exact impl_FormsOf.mono _ _
   | exact impl_FreeForm.mono _ _
   | exact impl_SymmetriesOf.mono _ _
   | exact laws_likeCells.mono _ _ _
   | exact laws_likeInts.mono _ _ _
   | exact laws_likeShapes.mono _ _ _
   | exact spec_DrawSymmetriesOf.mono _ _
   | exact spec_FormsOf.mono _ _
   | exact spec_SymmetriesOf.mono _ _
   | exact LeO.none _
   | refine LeO.ite ?_ ?_
   | refine LeO.bind ?_ (fun _ => ?_)
def laws_FnForms.T19 : Bool × List (List Nat × List Nat) := (true, [([], []), ([0], [0]), ([1], [1]), ([2], [2]), ([2], [2]), ([3, 4, 2, 2], [2, 3, 4]), ([5, 2], [2, 5]), ([2, 6], [2, 6]), ([7, 5], [7]), ([8], [8]), ([9, 8], [8, 9]), ([10, 8, 8], [8, 10]), ([11], [11]), ([11], [11]), ([13, 11], [11, 13]), ([12, 14, 11], [11, 12, 14]), ([15, 11], [11, 15]), ([11], [11]), ([11], [11]), ([17, 18, 11], [11, 17, 18]), ([19, 11], [11, 19]), ([16, 20, 11, 11], [11, 16, 20]), ([21, 11], [11, 21]), ([11, 22, 8], [8, 11, 22]), ([8, 23], [8, 23])])
def laws_FnForms.B19 : List Nat := [0, 1, 3, 7, 7, 31, 63, 127, 255, 511, 1023, 2047, 4095, 4095, 12287, 32767, 65535, 4095, 4095, 397311, 921599, 2097151, 4194303, 8388607, 16777215]
theorem laws_FnForms.tab19 : rtab .any (opsOf Try.f5 19) = laws_FnForms.T19 := by kernel_rfl
theorem laws_FnForms.bits19 : waitsOk laws_FnForms.T19.2 laws_FnForms.B19 = true := by kernel_rfl
set_option maxHeartbeats 8000000 in
set_option maxRecDepth 100000 in
theorem laws_FnForms.calls (k : Nat) (A0 : Option Addr) (c0 : Nat) (l0 : List Int) (r : Bool) (w : World) (hr0 : Kd.C (Kd.int .u8) w A0 l0.length l0) (hc0 : l0.length ≤ c0) (h : laws_FnForms.f k l0 = some r) :
  Calls Try.prog 5 #[.slice A0 l0.length c0] w fun e w' => e = .returned (.bool r) ∧ Below w.heap.size w w' := by
 have HR0 := Aside0.mk hr0
 have HC0 := Aside0.mk hc0
 clear hr0 hc0
 have HB := Aside0.mk (Below.refl w.heap.size w)
 have H : ((laws_big.f l0).bind fun t828 => (if t828 = true then (some true) else ((spec_DrawSymmetriesOf.f k l0).bind fun t829 => ((impl_SymmetriesOf.f k t829).bind fun bt832 => ((spec_SymmetriesOf.f k t829).bind fun bt836 => ((impl_FormsOf.f k t829).bind fun bt840 => ((spec_FormsOf.f k t829).bind fun bt844 => (if bt832.2 = bt836.2 then ((laws_likeInts.f k bt832.1 bt836.1).bind fun t848 => (if t848 = true then (if bt840.2 = bt844.2 then ((laws_likeShapes.f k bt840.1 bt844.1).bind fun t849 => (laws_FnForms.j0 k t829 bt832.1 bt832.2 bt840.1 bt844.1 (!t849))) else (laws_FnForms.j0 k t829 bt832.1 bt832.2 bt840.1 bt844.1 true)) else (laws_FnForms.j0 k t829 bt832.1 bt832.2 bt840.1 bt844.1 true))) else (laws_FnForms.j0 k t829 bt832.1 bt832.2 bt840.1 bt844.1 true))))))))) = some r := h
 clear h
 replace H := Option.bind_eq_some_iff.mp H
 obtain ⟨t828, A20, H⟩ := H
 try dsimp only at H
 have A2 := Aside0.mk A20
 clear A20
 by_cases c3 : t828 = true
 ·subst c3
  have H1 : (some true) = some r := by rw [if_pos rfl] at H; exact H
  clear H
  have H := H1
  clear H1
  obtain rfl := Option.some.inj H
  go_enter Try.func5, Try.ntmps5
  go_wp2_with (first | ((with_reducible refine gate_callee (f := 19) rfl ?_); refine gL_ (some 18) Try.func19 #[.slice A0 l0.length c0] ?_; (with_reducible refine (laws_big.calls _ _ l0 true _ ?side1 ?side2 A2.out).mono ?_); (case side1 => exact cS_ HR0.out); (case side2 => exact HC0.out); rintro e w' ⟨rfl, ⟨nd, rfl⟩⟩; refine ⟨_, rfl, ?_⟩))
  go_ret
  exact ⟨r2_, bB_⟩
 ·replace c3 := Bool.eq_false_iff.mpr c3
  subst c3
  have H1 : ((spec_DrawSymmetriesOf.f k l0).bind fun t829 => ((impl_SymmetriesOf.f k t829).bind fun bt832 => ((spec_SymmetriesOf.f k t829).bind fun bt836 => ((impl_FormsOf.f k t829).bind fun bt840 => ((spec_FormsOf.f k t829).bind fun bt844 => (if bt832.2 = bt836.2 then ((laws_likeInts.f k bt832.1 bt836.1).bind fun t848 => (if t848 = true then (if bt840.2 = bt844.2 then ((laws_likeShapes.f k bt840.1 bt844.1).bind fun t849 => (laws_FnForms.j0 k t829 bt832.1 bt832.2 bt840.1 bt844.1 (!t849))) else (laws_FnForms.j0 k t829 bt832.1 bt832.2 bt840.1 bt844.1 true)) else (laws_FnForms.j0 k t829 bt832.1 bt832.2 bt840.1 bt844.1 true))) else (laws_FnForms.j0 k t829 bt832.1 bt832.2 bt840.1 bt844.1 true))))))) = some r := by rw [if_neg (show ¬ (false = true) by decide)] at H; exact H
  clear H
  have H := H1
  clear H1
  replace H := Option.bind_eq_some_iff.mp H
  obtain ⟨t829, A40, H⟩ := H
  try dsimp only at H
  have A4 := Aside0.mk A40
  clear A40
  replace H := Option.bind_eq_some_iff.mp H
  obtain ⟨⟨t832, t833⟩, A50, H⟩ := H
  try dsimp only at H
  have A5 := Aside0.mk A50
  clear A50
  replace H := Option.bind_eq_some_iff.mp H
  obtain ⟨⟨t836, t837⟩, A60, H⟩ := H
  try dsimp only at H
  have A6 := Aside0.mk A60
  clear A60
  replace H := Option.bind_eq_some_iff.mp H
  obtain ⟨⟨t840, t841⟩, A70, H⟩ := H
  try dsimp only at H
  have A7 := Aside0.mk A70
  clear A70
  replace H := Option.bind_eq_some_iff.mp H
  obtain ⟨⟨t844, t847⟩, A80, H⟩ := H
  try dsimp only at H
  have A8 := Aside0.mk A80
  clear A80
  have HC9 := Aside0.mk H
  clear H
  go_enter Try.func5, Try.ntmps5
  go_upto_region 8 with (first | ((with_reducible refine gate_callee (f := 19) rfl ?_); refine gL_ (some 18) Try.func19 #[.slice A0 l0.length c0] ?_; (with_reducible refine (laws_big.calls _ _ l0 false _ ?side1 ?side2 A2.out).mono ?_); (case side1 => exact cS_ HR0.out); (case side2 => exact HC0.out); rintro e w' ⟨rfl, ⟨nd, rfl⟩⟩; refine ⟨_, rfl, ?_⟩) | ((with_reducible refine gate_callee (f := 20) rfl ?_); refine gL_ (some 20) Try.func20 #[.slice A0 l0.length c0] ?_; (with_reducible refine (spec_DrawSymmetriesOf.calls k _ _ l0 t829 _ ?side1 ?side2 A4.out).mono ?_); (case side1 => exact cS_ HR0.out); (case side2 => exact HC0.out); rintro e w10 ⟨v830, rfl, ho0, hb⟩; refine ⟨_, rfl, ?_⟩; have HO831 := Aside0.mk (Kd.R_lower ho0 (below_size bB_)); replace HB := Aside0.mk (below_step bB_ hb); (try clear hb ho0); obtain ⟨Ao11, co11, eo11⟩ := Kd.R_slice HO831.out; subst eo11) | ((with_reducible refine gate_callee (f := 21) rfl ?_); refine gL_ (some 23) Try.func21 #[.slice Ao11 t829.length co11] ?_; (with_reducible refine (impl_SymmetriesOf.calls k _ _ t829 t832 t833 _ ?side1 ?side2 A5.out).mono ?_); (case side1 => exact cS_ ((Kd.R_reads' HO831.out).2.2)); (case side2 => exact (Kd.R_reads' HO831.out).2.1); rintro e w12 ⟨v834, rfl, ho0, hb⟩; refine ⟨_, rfl, ?_⟩; replace HO831 := Aside0.mk (Kd.R_below (rS_ HO831.out) hb); have HO835 := Aside0.mk (Kd.R_lower ho0 (below_size bB_)); replace HB := Aside0.mk (below_step bB_ hb); (try clear hb ho0)) | ((with_reducible refine gate_callee (f := 22) rfl ?_); refine gL_ (some 28) Try.func22 #[.slice Ao11 t829.length co11] ?_; (with_reducible refine (spec_SymmetriesOf.calls k _ _ t829 t836 t837 _ ?side1 ?side2 A6.out).mono ?_); (case side1 => exact cS_ ((Kd.R_reads' HO831.out).2.2)); (case side2 => exact (Kd.R_reads' HO831.out).2.1); rintro e w13 ⟨v838, rfl, ho0, hb⟩; refine ⟨_, rfl, ?_⟩; replace HO831 := Aside0.mk (Kd.R_below (rS_ HO831.out) hb); have HO839 := Aside0.mk (Kd.R_lower (Kd.R_new' ho0 (Kd.R_lt (rS_ HO835.out))) (below_size bB_)); replace HO835 := Aside0.mk (Kd.R_elder' (rS_ HO835.out) (Kd.R_base ho0) hb); replace HB := Aside0.mk (below_step bB_ hb); (try clear hb ho0)) | ((with_reducible refine gate_callee (f := 23) rfl ?_); refine gL_ (some 33) Try.func23 #[.slice Ao11 t829.length co11] ?_; (with_reducible refine (impl_FormsOf.calls k _ _ t829 t840 t841 _ ?side1 ?side2 A7.out).mono ?_); (case side1 => exact cS_ ((Kd.R_reads' HO831.out).2.2)); (case side2 => exact (Kd.R_reads' HO831.out).2.1); rintro e w14 ⟨v842, rfl, ho0, hb⟩; refine ⟨_, rfl, ?_⟩; replace HO835 := Aside0.mk (Kd.R_below (rS_ HO835.out) hb); replace HO839 := Aside0.mk (Kd.R_below (rS_ HO839.out) hb); have HO843 := Aside0.mk (Kd.S_lower (Kd.S_new' ho0 (Kd.R_lt (rS_ HO831.out))) (below_size bB_)); replace HO831 := Aside0.mk (Kd.R_below (rS_ HO831.out) hb); replace HB := Aside0.mk (below_step bB_ hb); (try clear hb ho0)) | ((with_reducible refine gate_callee (f := 24) rfl ?_); refine gL_ (some 38) Try.func24 #[.slice Ao11 t829.length co11] ?_; (with_reducible refine (spec_FormsOf.calls k _ _ t829 t844 t847 _ ?side1 ?side2 A8.out).mono ?_); (case side1 => exact cS_ ((Kd.R_reads' HO831.out).2.2)); (case side2 => exact (Kd.R_reads' HO831.out).2.1); rintro e w15 ⟨v845, rfl, ho0, hb⟩; refine ⟨_, rfl, ?_⟩; have HO846 := Aside0.mk (Kd.V_lower (Kd.V_mono (ok' := fun k_ => some k_ ≠ (.slice Ao11 t829.length co11 : Value).ownBlock ∧ some k_ ≠ (v834 : Value).ownBlock ∧ some k_ ≠ (v838 : Value).ownBlock ∧ some k_ ≠ (v842 : Value).ownBlock) ho0 (fun k_ hk_ => ⟨(Kd.fresh' (Kd.R_lt (rS_ HO831.out)) k_ hk_), (Kd.fresh' (Kd.R_lt (rS_ HO835.out)) k_ hk_), (Kd.fresh' (Kd.R_lt (rS_ HO839.out)) k_ hk_), (Kd.fresh' (Kd.S_lt (sS_ HO843.out)) k_ hk_)⟩)) (below_size bB_)); replace HO831 := Aside0.mk (Kd.R_below (rS_ HO831.out) hb); replace HO835 := Aside0.mk (Kd.R_below (rS_ HO835.out) hb); replace HO839 := Aside0.mk (Kd.R_below (rS_ HO839.out) hb); replace HO843 := Aside0.mk (Kd.S_below (sS_ HO843.out) hb); replace HB := Aside0.mk (below_step bB_ hb); (try clear hb ho0)))
  (try simp only [Act.put, List.setIfInBounds_toArray, List.set_cons_zero, List.set_cons_succ])
  go_cut [60] (fun v60 wc => ∃ (kq : Nat) (x60_8 : Bool), v60 = .bool x60_8 ∧ Aside0 (laws_FnForms.j0 kq t829 t832 t833 t840 t844 x60_8 = some r) ∧ Aside0 (kq ≤ k) ∧ Aside0 (Kd.R k55 55 wc w.heap.size (fun _ => True) (.slice Ao11 t829.length co11) t829) ∧ Aside0 (Kd.R (Kd.int .i64) 2 wc w.heap.size (fun _ => True) v834 t832) ∧ Aside0 (Kd.S (Kd.slice 55 k55) 27 wc w.heap.size (fun k_ => some k_ ≠ ((.slice Ao11 t829.length co11) : Value).ownBlock) v842 t840) ∧ Aside0 (Kd.V (Kd.slice 55 k55) 27 wc w.heap.size (fun k_ => some k_ ≠ ((.slice Ao11 t829.length co11) : Value).ownBlock ∧ some k_ ≠ (v834 : Value).ownBlock ∧ some k_ ≠ (v842 : Value).ownBlock) v845 t844) ∧ Aside0 (Below w.heap.size w wc))
  case first =>
   have H := HC9.out
   clear HC9
   by_cases c16 : t833 = t837
   ·rw [if_pos c16] at H
    have c16b0 : (t833 == t837) = true := beq_iff_eq.mpr c16
    have c16b1 : (t833 != t837) = false := bne_eq_false_iff_eq.mpr c16
    clear c16
    (first | rw [c16b0] | (simp only [i64_w, i32_w]; rw [c16b0]) | skip)
    replace H := Option.bind_eq_some_iff.mp H
    obtain ⟨t848, A170, H⟩ := H
    try dsimp only at H
    have A17 := Aside0.mk A170
    clear A170
    by_cases c18 : t848 = true
    ·subst c18
     have H1 : (if t841 = t847 then ((laws_likeShapes.f k t840 t844).bind fun t849 => (laws_FnForms.j0 k t829 t832 t833 t840 t844 (!t849))) else (laws_FnForms.j0 k t829 t832 t833 t840 t844 true)) = some r := by rw [if_pos rfl] at H; exact H
     clear H
     have H := H1
     clear H1
     by_cases c19 : t841 = t847
     ·rw [if_pos c19] at H
      have c19b0 : (t841 == t847) = true := beq_iff_eq.mpr c19
      have c19b1 : (t841 != t847) = false := bne_eq_false_iff_eq.mpr c19
      clear c19
      replace H := Option.bind_eq_some_iff.mp H
      obtain ⟨t849, A200, H⟩ := H
      try dsimp only at H
      have A20 := Aside0.mk A200
      clear A200
      have H' := Aside0.mk H
      clear H
      obtain ⟨Ao21, co21, eo21⟩ := Kd.R_slice HO835.out
      subst eo21
      obtain ⟨Ao22, co22, eo22⟩ := Kd.R_slice HO839.out
      subst eo22
      go_wp2_with (first | (go_at_call 25; (with_reducible refine (laws_likeInts.calls k _ _ t832 _ _ t836 true _ ?side1 ?side2 ?side3 ?side4 A17.out).mono ?_); (case side1 => exact cS_ ((Kd.R_reads' HO835.out).2.2)); (case side2 => exact (Kd.R_reads' HO835.out).2.1); (case side3 => exact cS_ ((Kd.R_reads' HO839.out).2.2)); (case side4 => exact (Kd.R_reads' HO839.out).2.1); rintro e w' ⟨rfl, ⟨nd, rfl⟩⟩; obtain ⟨Ao23, co23, eo23⟩ := Kd.S_slice HO843.out; subst eo23; obtain ⟨Ao24, co24, eo24⟩ := Kd.V_slice HO846.out; subst eo24) | (go_at_call 26; (with_reducible refine (laws_likeShapes.calls k _ _ t840 _ _ t844 t849 _ ?side1 ?side2 ?side3 ?side4 A20.out).mono ?_); (case side1 => exact cS_ ((Kd.S_reads' HO843.out).2.2)); (case side2 => exact (Kd.S_reads' HO843.out).2.1); (case side3 => exact cS_ ((Kd.V_reads' HO846.out).2.2)); (case side4 => exact (Kd.V_reads' HO846.out).2.1); rintro e w' ⟨rfl, ⟨nd, rfl⟩⟩))
      go_meet
      case rel => exact ⟨_, (!t849), r3_, H', ⟨by first | omega | exact Nat.le_refl _⟩, ⟨rS_ HO831.out⟩, ⟨rS_ (Kd.R_mono HO835.out (fun _ hk => trivial))⟩, ⟨sS_ (Kd.S_mono HO843.out (fun _ hk => hk.2))⟩, ⟨by (with_reducible repeat (first | apply Kd.V_alloc | apply Kd.V_drewN | apply Kd.V_drew)); exact Kd.V_mono HO846.out (fun _ hk => ⟨hk.1, ⟨hk.2.1, hk.2.2.2⟩⟩)⟩, ⟨bB_⟩⟩
     ·rw [if_neg c19] at H
      have c19b0 : (t841 == t847) = false := beq_eq_false_iff_ne.mpr c19
      have c19b1 : (t841 != t847) = true := bne_iff_ne.mpr c19
      have H' := Aside0.mk H
      clear H
      obtain ⟨Ao25, co25, eo25⟩ := Kd.R_slice HO835.out
      subst eo25
      obtain ⟨Ao26, co26, eo26⟩ := Kd.R_slice HO839.out
      subst eo26
      go_wp2_with (first | (go_at_call 25; (with_reducible refine (laws_likeInts.calls k _ _ t832 _ _ t836 true _ ?side1 ?side2 ?side3 ?side4 A17.out).mono ?_); (case side1 => exact cS_ ((Kd.R_reads' HO835.out).2.2)); (case side2 => exact (Kd.R_reads' HO835.out).2.1); (case side3 => exact cS_ ((Kd.R_reads' HO839.out).2.2)); (case side4 => exact (Kd.R_reads' HO839.out).2.1); rintro e w' ⟨rfl, ⟨nd, rfl⟩⟩))
      go_meet
      case rel => exact ⟨_, (true), r3_, H', ⟨by first | omega | exact Nat.le_refl _⟩, ⟨rS_ HO831.out⟩, ⟨rS_ (Kd.R_mono HO835.out (fun _ hk => trivial))⟩, ⟨sS_ (Kd.S_mono HO843.out (fun _ hk => hk.2))⟩, ⟨by (with_reducible repeat (first | apply Kd.V_alloc | apply Kd.V_drewN | apply Kd.V_drew)); exact Kd.V_mono HO846.out (fun _ hk => ⟨hk.1, ⟨hk.2.1, hk.2.2.2⟩⟩)⟩, ⟨bB_⟩⟩
    ·replace c18 := Bool.eq_false_iff.mpr c18
     subst c18
     have H1 : (laws_FnForms.j0 k t829 t832 t833 t840 t844 true) = some r := by rw [if_neg (show ¬ (false = true) by decide)] at H; exact H
     clear H
     have H := H1
     clear H1
     have H' := Aside0.mk H
     clear H
     obtain ⟨Ao27, co27, eo27⟩ := Kd.R_slice HO835.out
     subst eo27
     obtain ⟨Ao28, co28, eo28⟩ := Kd.R_slice HO839.out
     subst eo28
     go_wp2_with (first | (go_at_call 25; (with_reducible refine (laws_likeInts.calls k _ _ t832 _ _ t836 false _ ?side1 ?side2 ?side3 ?side4 A17.out).mono ?_); (case side1 => exact cS_ ((Kd.R_reads' HO835.out).2.2)); (case side2 => exact (Kd.R_reads' HO835.out).2.1); (case side3 => exact cS_ ((Kd.R_reads' HO839.out).2.2)); (case side4 => exact (Kd.R_reads' HO839.out).2.1); rintro e w' ⟨rfl, ⟨nd, rfl⟩⟩))
     go_meet
     case rel => exact ⟨_, (true), r3_, H', ⟨by first | omega | exact Nat.le_refl _⟩, ⟨rS_ HO831.out⟩, ⟨rS_ (Kd.R_mono HO835.out (fun _ hk => trivial))⟩, ⟨sS_ (Kd.S_mono HO843.out (fun _ hk => hk.2))⟩, ⟨by (with_reducible repeat (first | apply Kd.V_alloc | apply Kd.V_drewN | apply Kd.V_drew)); exact Kd.V_mono HO846.out (fun _ hk => ⟨hk.1, ⟨hk.2.1, hk.2.2.2⟩⟩)⟩, ⟨bB_⟩⟩
   ·rw [if_neg c16] at H
    have c16b0 : (t833 == t837) = false := beq_eq_false_iff_ne.mpr c16
    have c16b1 : (t833 != t837) = true := bne_iff_ne.mpr c16
    (first | rw [c16b0] | (simp only [i64_w, i32_w]; rw [c16b0]) | skip)
    have H' := Aside0.mk H
    clear H
    go_wp2
    go_meet
    case rel => exact ⟨_, (true), r3_, H', ⟨by first | omega | exact Nat.le_refl _⟩, ⟨rS_ HO831.out⟩, ⟨rS_ (Kd.R_mono HO835.out (fun _ hk => trivial))⟩, ⟨sS_ (Kd.S_mono HO843.out (fun _ hk => hk.2))⟩, ⟨by (with_reducible repeat (first | apply Kd.V_alloc | apply Kd.V_drewN | apply Kd.V_drew)); exact Kd.V_mono HO846.out (fun _ hk => ⟨hk.1, ⟨hk.2.1, hk.2.2.2⟩⟩)⟩, ⟨bB_⟩⟩
  case rest =>
   clear HC9
   try clear c1
   try clear c2
   try clear p2
   try clear c3
   try clear c5
   try clear c16
   try clear c16b0
   try clear c16b1
   try clear c18
   try clear c19
   try clear c19b0
   try clear c19b1
   try clear c20
   try clear c21
   try clear c22
   try clear c23
   try clear c24
   obtain ⟨kq, x60_8, rfl, HA, HJ8, HO_3, HO_4, HO_8, HO_10, HB⟩ := hcut
   cases kq with
   | zero => exact absurd HA.out (by simp [laws_FnForms.j0])
   | succ kj8 =>
    have H := HA.out
    clear HA
    simp only [laws_FnForms.j0] at H
    by_cases c29 : x60_8 = true
    ·subst c29
     have H1 : (some false) = some r := by rw [if_pos rfl] at H; exact H
     clear H
     have H := H1
     clear H1
     obtain rfl := Option.some.inj H
     go_wp2
     go_ret
     exact ⟨r2_, bB_⟩
    ·replace c29 := Bool.eq_false_iff.mpr c29
     subst c29
     have H1 : (if t833 = 0 then ((impl_FreeForm.f kj8 t829).bind fun bt850 => (if bt850.2 = 0 then (if (wrap64 ((t832.length : Int) * (t840.length : Int))) = 8 then (if 0 < (t844.length : Int) then ((laws_likeCells.f kj8 bt850.1 (rd_L3 t844 0)).bind fun t855 => (laws_FnForms.j1 kj8 t840 bt850.1 (!t855))) else (none)) else (laws_FnForms.j1 kj8 t840 bt850.1 true)) else (laws_FnForms.j1 kj8 t840 bt850.1 true))) else (some true)) = some r := by rw [if_neg (show ¬ (false = true) by decide)] at H; exact H
     clear H
     have H := H1
     clear H1
     by_cases c30 : t833 = 0
     ·rw [if_pos c30] at H
      have c30b0 : (t833 == 0) = true := beq_iff_eq.mpr c30
      have c30b1 : (t833 != 0) = false := bne_eq_false_iff_eq.mpr c30
      clear c30
      replace H := Option.bind_eq_some_iff.mp H
      obtain ⟨⟨t850, t851⟩, A310, H⟩ := H
      try dsimp only at H
      have A31 := Aside0.mk A310
      clear A310
      have HC32 := Aside0.mk H
      clear H
      go_upto_region 13 with (first | ((with_reducible refine gate_callee (f := 27) rfl ?_); refine gL_ (some 65) Try.func27 #[.slice Ao11 t829.length co11] ?_; (with_reducible refine (impl_FreeForm.calls kj8 _ _ t829 t850 t851 _ ?side1 ?side2 A31.out).mono ?_); (case side1 => exact cS_ ((Kd.R_reads' HO_3.out).2.2)); (case side2 => exact (Kd.R_reads' HO_3.out).2.1); rintro e w33 ⟨v852, rfl, ho0, hb⟩; refine ⟨_, rfl, ?_⟩; replace HO_4 := Aside0.mk (Kd.R_below (rS_ HO_4.out) hb); replace HO_8 := Aside0.mk (Kd.S_elder' (sS_ HO_8.out) (Kd.R_base ho0) hb); replace HO_10 := Aside0.mk (Kd.V_elder' (by (with_reducible repeat (first | apply Kd.V_alloc | apply Kd.V_drewN | apply Kd.V_drew)); exact HO_10.out) (Kd.R_base ho0) hb); have HO853 := Aside0.mk (Kd.R_lower (Kd.R_new' ho0 (Kd.R_lt (rS_ HO_3.out))) (below_size bB_)); replace HO_3 := Aside0.mk (Kd.R_elder' (rS_ HO_3.out) (Kd.R_base ho0) hb); replace HB := Aside0.mk (below_step bB_ hb); (try clear hb ho0)))
      (try simp only [Act.put, List.setIfInBounds_toArray, List.set_cons_zero, List.set_cons_succ])
      go_cut [85] (fun v85 wc => ∃ (kq : Nat) (x85_31 : Bool), v85 = .bool x85_31 ∧ Aside0 (laws_FnForms.j1 kq t840 t850 x85_31 = some r) ∧ Aside0 (kq ≤ kj8) ∧ Aside0 (Kd.S (Kd.slice 55 k55) 27 wc w.heap.size (fun k_ => some k_ ≠ (v852 : Value).ownBlock) v842 t840) ∧ Aside0 (Kd.R k55 55 wc w.heap.size (fun _ => True) v852 t850) ∧ Aside0 (Below w.heap.size w wc))
      case first =>
       have H := HC32.out
       clear HC32
       by_cases c34 : t851 = 0
       ·rw [if_pos c34] at H
        have c34b0 : (t851 == 0) = true := beq_iff_eq.mpr c34
        have c34b1 : (t851 != 0) = false := bne_eq_false_iff_eq.mpr c34
        clear c34
        (first | rw [c34b0] | (simp only [i64_w, i32_w]; rw [c34b0]) | skip)
        by_cases c35 : (wrap64 ((t832.length : Int) * (t840.length : Int))) = 8
        ·rw [if_pos c35] at H
         have c35b0 : ((wrap64 ((t832.length : Int) * (t840.length : Int))) == 8) = true := beq_iff_eq.mpr c35
         have c35b1 : ((wrap64 ((t832.length : Int) * (t840.length : Int))) != 8) = false := bne_eq_false_iff_eq.mpr c35
         clear c35
         by_cases c36 : 0 < (t844.length : Int)
         ·rw [if_pos c36] at H
          have c36b0 : decide (0 < (t844.length : Int)) = true := decide_eq_true c36
          have c36b1 : decide (0 < t844.length) = true := decide_eq_true (by omega)
          clear c36
          replace H := Option.bind_eq_some_iff.mp H
          obtain ⟨t855, A370, H⟩ := H
          try dsimp only at H
          have A37 := Aside0.mk A370
          clear A370
          have H' := Aside0.mk H
          clear H
          obtain ⟨Ao38, co38, eo38⟩ := Kd.R_slice HO_4.out
          subst eo38
          obtain ⟨Ao39, co39, eo39⟩ := Kd.S_slice HO_8.out
          subst eo39
          obtain ⟨Ao40, co40, eo40⟩ := Kd.V_slice HO_10.out
          subst eo40
          have p854 : 0 ≤ (0 : Int) := (by omega)
          have q854 : 0 < (t844.length : Int) := of_decide_eq_true aS_
          obtain ⟨ad854, A854_0, c854_0, e854, hx854_0, hl854_0, hi854_0⟩ := at_L3 (Kd.V_reads' HO_10.out).2.2 0 p854 q854
          cases e854
          obtain ⟨ce854, hce854, hMe854, hcc854⟩ := Kd.V_get HO_10.out [] 0 p854 (by first | exact q854 | exact of_decide_eq_true aS_ | (have e_ := (Kd.V_reads' HO_10.out).1; omega))
          obtain ⟨ua854_0, uc854_0, rfl, ul854_0, ge854_0⟩ := Kd.FK_slice_open hMe854
          have hv854_0 := hcc854 0 _ rfl
          rw [Nat.add_zero, show ((Kd.slice 55 k55)).sz = 1 from rfl, Nat.mul_one] at hv854_0
          replace hv854_0 := Option.some.inj (hv854_0.symm.trans hx854_0)
          injection hv854_0 with hva_ hvn_ hvc_
          rw [hva_] at ge854_0
          rw [hvc_] at ul854_0
          have HL854_0 := Aside0.mk (show Kd.V k55 55 _ w.heap.size _ _ (rd_L3 t844 0) from Kd.V_mk ul854_0 ge854_0)
          clear hva_ hvn_ hvc_ ge854_0 ul854_0
          clear hcc854 hce854
          have qi854 : (0 < t844.length) = True := eq_true (by omega)
          (try rw [show ((0 : Int)).toNat = 0 from rfl] at hx854_0)
          (try rw [Addr.add_zero'] at hx854_0)
          have HR854_0 := Aside0.mk hi854_0
          have HC854_0 := Aside0.mk hl854_0
          clear hi854_0 hl854_0
          replace p854 := eq_true p854
          replace q854 := eq_true q854
          obtain ⟨Ao41, co41, eo41⟩ := Kd.R_slice HO853.out
          subst eo41
          go_wp2_with (first | (go_at_call 28; (with_reducible refine (laws_likeCells.calls kj8 _ _ t850 _ _ (rd_L3 t844 0) t855 _ ?side1 ?side2 ?side3 ?side4 A37.out).mono ?_); (case side1 => exact cS_ ((Kd.R_reads' HO853.out).2.2)); (case side2 => exact (Kd.R_reads' HO853.out).2.1); (case side3 => exact cS_ (by repeat (first | (with_reducible exact HR854_0.out) | (with_reducible refine Kd.C_alloc ?_ _) | (with_reducible refine Kd.C_drewN ?_ _) | (with_reducible refine Kd.C_drew ?_) | exact HR854_0.out))); (case side4 => exact HC854_0.out); rintro e w' ⟨rfl, ⟨nd, rfl⟩⟩))
          go_meet
          case rel => exact ⟨_, (!t855), r3_, H', ⟨by have := HJ8.out; first | omega | exact Nat.le_refl _⟩, ⟨sS_ (Kd.S_mono HO_8.out (fun _ hk => hk.2))⟩, ⟨rS_ (Kd.R_mono HO853.out (fun _ hk => trivial))⟩, ⟨bB_⟩⟩
         ·rw [if_neg c36] at H
          exact absurd H (by simp)
        ·rw [if_neg c35] at H
         have c35b0 : ((wrap64 ((t832.length : Int) * (t840.length : Int))) == 8) = false := beq_eq_false_iff_ne.mpr c35
         have c35b1 : ((wrap64 ((t832.length : Int) * (t840.length : Int))) != 8) = true := bne_iff_ne.mpr c35
         have H' := Aside0.mk H
         clear H
         obtain ⟨Ao42, co42, eo42⟩ := Kd.R_slice HO_4.out
         subst eo42
         obtain ⟨Ao43, co43, eo43⟩ := Kd.S_slice HO_8.out
         subst eo43
         go_wp2
         go_meet
         case rel => exact ⟨_, (true), r3_, H', ⟨by have := HJ8.out; first | omega | exact Nat.le_refl _⟩, ⟨sS_ (Kd.S_mono HO_8.out (fun _ hk => hk.2))⟩, ⟨rS_ (Kd.R_mono HO853.out (fun _ hk => trivial))⟩, ⟨bB_⟩⟩
       ·rw [if_neg c34] at H
        have c34b0 : (t851 == 0) = false := beq_eq_false_iff_ne.mpr c34
        have c34b1 : (t851 != 0) = true := bne_iff_ne.mpr c34
        (first | rw [c34b0] | (simp only [i64_w, i32_w]; rw [c34b0]) | skip)
        have H' := Aside0.mk H
        clear H
        go_wp2
        go_meet
        case rel => exact ⟨_, (true), r3_, H', ⟨by have := HJ8.out; first | omega | exact Nat.le_refl _⟩, ⟨sS_ (Kd.S_mono HO_8.out (fun _ hk => hk.2))⟩, ⟨rS_ (Kd.R_mono HO853.out (fun _ hk => trivial))⟩, ⟨bB_⟩⟩
      case rest =>
       clear HC32
       try clear c1
       try clear c2
       try clear p2
       try clear c3
       try clear c5
       try clear p6
       try clear c8
       try clear p8
       try clear q8
       try clear hx8
       try clear qi8
       try clear c16
       try clear c16b0
       try clear c16b1
       try clear c18
       try clear c19
       try clear c19b0
       try clear c19b1
       try clear c20
       try clear c21
       try clear c22
       try clear c23
       try clear c24
       try clear c27
       try clear c29
       try clear c30
       try clear c30b0
       try clear c30b1
       try clear c34
       try clear c34b0
       try clear c34b1
       try clear c35
       try clear c35b0
       try clear c35b1
       try clear c36
       try clear c36b0
       try clear c36b1
       try clear hx854_0
       try clear p2
       try clear p854
       try clear q854
       obtain ⟨kq, x85_31, rfl, HA, HJ31, HO_8, HO_12, HB⟩ := hcut
       cases kq with
       | zero => exact absurd HA.out (by simp [laws_FnForms.j1])
       | succ kj31 =>
        have H := HA.out
        clear HA
        simp only [laws_FnForms.j1] at H
        by_cases c44 : x85_31 = true
        ·subst c44
         have H1 : (some false) = some r := by rw [if_pos rfl] at H; exact H
         clear H
         have H := H1
         clear H1
         obtain rfl := Option.some.inj H
         go_wp2
         go_ret
         exact ⟨r2_, bB_⟩
        ·replace c44 := Bool.eq_false_iff.mpr c44
         subst c44
         have H1 : (laws_FnForms.l0 kj31 t840 t850 0) = some r := by rw [if_neg (show ¬ (false = true) by decide)] at H; exact H
         clear H
         have H := H1
         clear H1
         have H' := Aside0.mk H
         clear H
         go_wp2
         go_loopg [14] kj31 (fun kq v14 w' => ∃ (x14_3 : Int), v14 = .int .i64 x14_3 ∧ Aside0 (laws_FnForms.l0 kq t840 t850 x14_3 = some r) ∧ Aside0 (kq ≤ kj31) ∧ Aside0 (Kd.S (Kd.slice 55 k55) 27 w' w.heap.size (fun k_ => some k_ ≠ (v852 : Value).ownBlock) v842 t840) ∧ Aside0 (Kd.R k55 55 w' w.heap.size (fun _ => True) v852 t850) ∧ Aside0 (Below w.heap.size w w'))
         case atStart => exact ⟨(0), r3_, H', ⟨Nat.le_refl _⟩, ⟨sS_ HO_8.out⟩, ⟨rS_ HO_12.out⟩, ⟨bB_⟩⟩
         case round =>
          clear H'
          try clear c1
          try clear c2
          try clear p2
          try clear c3
          try clear c4
          try clear c5
          try clear p6
          try clear c8
          try clear p8
          try clear q8
          try clear hx8
          try clear qi8
          try clear c16
          try clear c16b0
          try clear c16b1
          try clear c18
          try clear c19
          try clear c19b0
          try clear c19b1
          try clear c20
          try clear c21
          try clear c22
          try clear c23
          try clear c24
          try clear c27
          try clear c29
          try clear c30
          try clear c30b0
          try clear c30b1
          try clear c34
          try clear c34b0
          try clear c34b1
          try clear c35
          try clear c35b0
          try clear c35b1
          try clear c36
          try clear c36b0
          try clear c36b1
          try clear c44
          try clear hx854_0
          try clear p2
          try clear p6
          try clear p8
          try clear p854
          try clear q8
          try clear q854
          obtain ⟨x14_3, rfl, HA, HK3, HO_8, HO_12, HB⟩ := hrel
          cases gk with
          | zero => exact absurd HA.out (by simp [laws_FnForms.l0])
          | succ k3 =>
           have H := HA.out
           clear HA
           simp only [laws_FnForms.l0] at H
           by_cases c45 : x14_3 < (t840.length : Int)
           ·rw [if_pos c45] at H
            have c45b0 : decide (x14_3 < (t840.length : Int)) = true := decide_eq_true c45
            clear c45
            by_cases c46 : 0 ≤ x14_3
            ·rw [if_pos c46] at H
             have c46b0 : decide (0 ≤ x14_3) = true := decide_eq_true c46
             clear c46
             replace H := Option.bind_eq_some_iff.mp H
             obtain ⟨⟨t857, t858⟩, A470, H⟩ := H
             try dsimp only at H
             have A47 := Aside0.mk A470
             clear A470
             by_cases c48 : t858 = 0
             ·rw [if_pos c48] at H
              have c48b0 : (t858 == 0) = true := beq_iff_eq.mpr c48
              have c48b1 : (t858 != 0) = false := bne_eq_false_iff_eq.mpr c48
              clear c48
              replace H := Option.bind_eq_some_iff.mp H
              obtain ⟨t861, A490, H⟩ := H
              try dsimp only at H
              have A49 := Aside0.mk A490
              clear A490
              by_cases c50 : t861 = true
              ·subst c50
               have H1 : (if x14_3 > 0 then (if 0 ≤ (wrap64 (x14_3 - 1)) then (if (wrap64 (x14_3 - 1)) < (t840.length : Int) then ((impl_CompareShapes.f k3 (rd_L3 t840 (wrap64 (x14_3 - 1))) (rd_L3 t840 x14_3)).bind fun t864 => (if t864 = (-1) then (laws_FnForms.l0 k3 t840 t850 (wrap64 (x14_3 + 1))) else (some false))) else (none)) else (none)) else (laws_FnForms.l0 k3 t840 t850 (wrap64 (x14_3 + 1)))) = some r := by rw [if_pos rfl] at H; exact H
               clear H
               have H := H1
               clear H1
               by_cases c51 : x14_3 > 0
               ·rw [if_pos c51] at H
                have c51b0 : decide (0 < x14_3) = true := decide_eq_true c51
                clear c51
                obtain ⟨ji52, hji52⟩ : ∃ j_ : Int, (wrap64 (x14_3 - 1)) = j_ := ⟨_, rfl⟩
                replace H : (if 0 ≤ (ji52) then (if (ji52) < (t840.length : Int) then ((impl_CompareShapes.f k3 (rd_L3 t840 (ji52)) (rd_L3 t840 x14_3)).bind fun t864 => (if t864 = (-1) then (laws_FnForms.l0 k3 t840 t850 (wrap64 (x14_3 + 1))) else (some false))) else (none)) else (none)) = some r := by first | (rw [hji52] at H; exact H) | (simp only [hji52] at H ⊢; exact H)
                (try rw [hji52] at A47)
                (try rw [hji52] at A49)
                have hji52w : (IntKind.i64.wrap (x14_3 - 1)) = ji52 := (i64_w _).trans hji52
                by_cases c53 : 0 ≤ (ji52)
                ·rw [if_pos c53] at H
                 have c53b0 : decide (0 ≤ (ji52)) = true := decide_eq_true c53
                 clear c53
                 by_cases c54 : (ji52) < (t840.length : Int)
                 ·rw [if_pos c54] at H
                  have c54b0 : decide ((ji52) < (t840.length : Int)) = true := decide_eq_true c54
                  clear c54
                  replace H := Option.bind_eq_some_iff.mp H
                  obtain ⟨t864, A550, H⟩ := H
                  try dsimp only at H
                  have A55 := Aside0.mk A550
                  clear A550
                  by_cases c56 : t864 = (-1)
                  ·rw [if_pos c56] at H
                   have c56b0 : (t864 == (-1)) = true := beq_iff_eq.mpr c56
                   have c56b1 : (t864 != (-1)) = false := bne_eq_false_iff_eq.mpr c56
                   clear c56
                   have H' := Aside0.mk H
                   clear H
                   obtain ⟨Ao57, co57, eo57⟩ := Kd.S_slice HO_8.out
                   subst eo57
                   have p856 : 0 ≤ (x14_3 : Int) := of_decide_eq_true aS_
                   have q856 : x14_3 < (t840.length : Int) := of_decide_eq_true aS_
                   obtain ⟨ad856, A856_0, c856_0, e856, hx856_0, hl856_0, hi856_0⟩ := at_L3 (Kd.S_reads' HO_8.out).2.2 x14_3 p856 q856
                   cases e856
                   obtain ⟨ce856, hce856, hMe856, hcc856⟩ := Kd.S_get HO_8.out [] x14_3 p856 (by first | exact q856 | exact of_decide_eq_true aS_ | (have e_ := (Kd.S_reads' HO_8.out).1; omega))
                   obtain ⟨ve856_0, rfl, ge856_0⟩ := hMe856
                   have hv856_0 := hcc856 0 _ rfl
                   rw [Nat.add_zero, show ((Kd.slice 55 k55)).sz = 1 from rfl, Nat.mul_one] at hv856_0
                   replace hv856_0 := Option.some.inj (hv856_0.symm.trans hx856_0)
                   rw [hv856_0] at ge856_0
                   have HL856_0 := Aside0.mk (show Kd.R k55 55 _ _ _ _ (rd_L3 t840 x14_3) from ge856_0)
                   clear hv856_0 ge856_0
                   clear hcc856 hce856
                   have HR856_0 := Aside0.mk hi856_0
                   have HC856_0 := Aside0.mk hl856_0
                   clear hi856_0 hl856_0
                   replace p856 := eq_true p856
                   replace q856 := eq_true q856
                   try go_wp2_with (first | ((with_reducible refine gate_callee (f := 27) rfl ?_); refine gL_ (some 97) Try.func27 #[.slice A856_0 (rd_L3 t840 x14_3).length c856_0] ?_; (with_reducible refine (impl_FreeForm.calls k3 _ _ (rd_L3 t840 x14_3) t857 t858 _ ?side1 ?side2 A47.out).mono ?_); (case side1 => exact cS_ (by repeat (first | (with_reducible exact HR856_0.out) | (with_reducible refine Kd.C_alloc ?_ _) | (with_reducible refine Kd.C_drewN ?_ _) | (with_reducible refine Kd.C_drew ?_) | exact HR856_0.out))); (case side2 => exact HC856_0.out); rintro e w58 ⟨v859, rfl, ho0, hb⟩; refine ⟨_, rfl, ?_⟩; replace HO_8 := Aside0.mk (Kd.S_elder' (sS_ HO_8.out) (Kd.R_base ho0) hb); have HO860 := Aside0.mk (Kd.R_lower (Kd.R_new' (Kd.R_new' ho0 (Kd.R_lt (rS_ HO_12.out))) (Kd.R_lt (rS_ HL856_0.out))) (below_size bB_)); replace HO_12 := Aside0.mk (Kd.R_elder' (rS_ HO_12.out) (Kd.R_base ho0) hb); replace HL856_0 := Aside0.mk (Kd.R_elder' (rS_ HL856_0.out) (Kd.R_base ho0) hb); replace HR856_0 := Aside0.mk (Kd.C_below (by repeat (first | (with_reducible exact HR856_0.out) | (with_reducible refine Kd.C_alloc ?_ _) | (with_reducible refine Kd.C_drewN ?_ _) | (with_reducible refine Kd.C_drew ?_) | exact HR856_0.out)) hb); replace HB := Aside0.mk (below_step bB_ hb); (try clear hb ho0)))
                   replace HO_8 := Aside0.mk (Kd.S_drew HO_8.out)
                   replace HO_12 := Aside0.mk (Kd.R_drew HO_12.out)
                   replace HL856_0 := Aside0.mk (Kd.R_drew HL856_0.out)
                   replace HO860 := Aside0.mk (Kd.R_drew HO860.out)
                   replace HR856_0 := Aside0.mk (Kd.C_drew HR856_0.out)
                   replace HB := Aside0.mk (below_drew1 HB.out)
                   obtain ⟨Ao60, co60, eo60⟩ := Kd.R_slice HO860.out
                   (first | subst eo60 | (injection eo60 with f1_ f2_ f3_; have f4_ := f1_.symm; have f5_ := f3_.symm; clear f1_ f2_ f3_; subst f4_; subst f5_))
                   obtain ⟨Ao61, co61, eo61⟩ := Kd.R_slice HO_12.out
                   (first | subst eo61 | (injection eo61 with f1_ f2_ f3_; have f4_ := f1_.symm; have f5_ := f3_.symm; clear f1_ f2_ f3_; subst f4_; subst f5_))
                   have p862 : 0 ≤ ((ji52) : Int) := of_decide_eq_true aS_
                   have q862 : (ji52) < (t840.length : Int) := of_decide_eq_true aS_
                   obtain ⟨ad862, A862_0, c862_0, e862, hx862_0, hl862_0, hi862_0⟩ := at_L3 (Kd.S_reads' HO_8.out).2.2 (ji52) p862 q862
                   obtain rfl : ad856 = ad862 := (by injection e862)
                   obtain ⟨ce862, hce862, hMe862, hcc862⟩ := Kd.S_get HO_8.out [] (ji52) p862 (by first | exact q862 | exact of_decide_eq_true aS_ | (have e_ := (Kd.S_reads' HO_8.out).1; omega))
                   obtain ⟨ve862_0, rfl, ge862_0⟩ := hMe862
                   have hv862_0 := hcc862 0 _ rfl
                   rw [Nat.add_zero, show ((Kd.slice 55 k55)).sz = 1 from rfl, Nat.mul_one] at hv862_0
                   replace hv862_0 := Option.some.inj (hv862_0.symm.trans hx862_0)
                   rw [hv862_0] at ge862_0
                   have HL862_0 := Aside0.mk (show Kd.R k55 55 _ _ _ _ (rd_L3 t840 (ji52)) from ge862_0)
                   clear hv862_0 ge862_0
                   clear hcc862 hce862
                   have HR862_0 := Aside0.mk hi862_0
                   have HC862_0 := Aside0.mk hl862_0
                   clear hi862_0 hl862_0
                   replace p862 := eq_true p862
                   replace q862 := eq_true q862
                   have p863 : 0 ≤ (x14_3 : Int) := of_decide_eq_true aS_
                   have q863 : x14_3 < (t840.length : Int) := of_decide_eq_true aS_
                   obtain ⟨ad863, A863_0, c863_0, e863, hx863_0, hl863_0, hi863_0⟩ := at_L3 (Kd.S_reads' HO_8.out).2.2 x14_3 p863 q863
                   obtain rfl : ad856 = ad863 := (by injection e863)
                   obtain ⟨ce863, hce863, hMe863, hcc863⟩ := Kd.S_get HO_8.out [] x14_3 p863 (by first | exact q863 | exact of_decide_eq_true aS_ | (have e_ := (Kd.S_reads' HO_8.out).1; omega))
                   obtain ⟨ve863_0, rfl, ge863_0⟩ := hMe863
                   have hv863_0 := hcc863 0 _ rfl
                   rw [Nat.add_zero, show ((Kd.slice 55 k55)).sz = 1 from rfl, Nat.mul_one] at hv863_0
                   replace hv863_0 := Option.some.inj (hv863_0.symm.trans hx863_0)
                   rw [hv863_0] at ge863_0
                   have HL863_0 := Aside0.mk (show Kd.R k55 55 _ _ _ _ (rd_L3 t840 x14_3) from ge863_0)
                   clear hv863_0 ge863_0
                   clear hcc863 hce863
                   have HR863_0 := Aside0.mk hi863_0
                   have HC863_0 := Aside0.mk hl863_0
                   clear hi863_0 hl863_0
                   replace p863 := eq_true p863
                   replace q863 := eq_true q863
                   refine start_ (n := 25) (S := fun w' => w'.cell? (ad856.add ((ji52)).toNat) = some (.slice A862_0 (rd_L3 t840 (ji52)).length c862_0) ∧ w'.cell? (ad856.add (x14_3).toNat) = some (.slice A863_0 (rd_L3 t840 x14_3).length c863_0)) (ds := []) #[F, F, F, F, F, F, F, F, F, F, F, F, F, F, F, F, F, F, F, F, F, F, F, F, F] (by kernel_rfl) rfl rfl ⟨hx862_0, hx863_0⟩ (fun hHeld => ?_); refine with_tabW laws_FnForms.tab19 laws_FnForms.bits19 (fun HT_ HW_ => ?_)
                   generalize w58.drew = w59 at HO_8 HO_12 HL856_0 HO860 HR856_0 HB HL862_0 HL863_0 HR862_0 HR863_0 hx862_0 hx863_0 hHeld ⊢
                   refine pu_ HT_ 0 (some 100) #[T,F,F,F,F,F,F,F,F,F,F,F,F,F,F,F,F,F,F,F,F,F,F,F,F] ?_
                   refine pu_ HT_ 1 (some 101) #[T,T,F,F,F,F,F,F,F,F,F,F,F,F,F,F,F,F,F,F,F,F,F,F,F] ?_
                   refine pu_ HT_ 2 (some 102) #[T,T,T,F,F,F,F,F,F,F,F,F,F,F,F,F,F,F,F,F,F,F,F,F,F] ?_
                   refine pu_ HT_ 3 (some 103) #[T,T,T,T,F,F,F,F,F,F,F,F,F,F,F,F,F,F,F,F,F,F,F,F,F] ?_
                   refine pu_ HT_ 4 (some 104) #[T,T,T,T,T,F,F,F,F,F,F,F,F,F,F,F,F,F,F,F,F,F,F,F,F] ?_
                   refine one_ (i := 5) (N := some 105) #[T, T, T, T, T, T, F, F, F, F, F, F, F, F, F, F, F, F, F, F, F, F, F, F, F] rfl rfl (one_of HT_.out (by kernel_rfl)) (by decide) (fun K hK => ?_)
                   refine goes_ Try.func28 (by kernel_rfl) rfl #[.slice Ao60 t857.length co60, .slice Ao61 t850.length co61] (by rfl) rfl rfl mA_ ?_
                   with_reducible refine (laws_likeCells.calls k3 _ _ t857 _ _ t850 true _ ?side1 ?side2 ?side3 ?side4 A49.out).mono ?_
                   (case side1 => exact cS_ ((Kd.R_reads' HO860.out).2.2))
                   (case side2 => exact (Kd.R_reads' HO860.out).2.1)
                   (case side3 => exact cS_ ((Kd.R_reads' HO_12.out).2.2))
                   (case side4 => exact (Kd.R_reads' HO_12.out).2.1)
                   rintro e w' ⟨rfl, ⟨nd, rfl⟩⟩
                   refine ⟨_, rfl, ?_⟩
                   refine hK.out _ _ ⟨hHeld.1, hHeld.2⟩ (fun hHeld => ?_)
                   clear hK K
                   refine no_ (some 105) ?_
                   refine pu_ HT_ 6 (some 106) #[T,T,T,T,T,T,T,F,F,F,F,F,F,F,F,F,F,F,F,F,F,F,F,F,F] ?_
                   refine pu_ HT_ 7 (some 107) #[T,T,T,T,T,T,T,T,F,F,F,F,F,F,F,F,F,F,F,F,F,F,F,F,F] ?_
                   refine pu_ HT_ 8 (some 108) #[T,T,T,T,T,T,T,T,T,F,F,F,F,F,F,F,F,F,F,F,F,F,F,F,F] ?_
                   refine pu_ HT_ 9 (some 109) #[T,T,T,T,T,T,T,T,T,T,F,F,F,F,F,F,F,F,F,F,F,F,F,F,F] ?_
                   refine pu_ HT_ 10 (some 110) #[T,T,T,T,T,T,T,T,T,T,T,F,F,F,F,F,F,F,F,F,F,F,F,F,F] ?_
                   refine pu_ HT_ 11 (some 111) #[T,T,T,T,T,T,T,T,T,T,T,T,F,F,F,F,F,F,F,F,F,F,F,F,F] ?_
                   refine pu_ HT_ 12 (some 112) #[T,T,T,T,T,T,T,T,T,T,T,T,T,F,F,F,F,F,F,F,F,F,F,F,F] ?_
                   refine pu_ HT_ 13 (some 113) #[T,T,T,T,T,T,T,T,T,T,T,T,T,T,F,F,F,F,F,F,F,F,F,F,F] ?_
                   refine pu_ HT_ 14 (some 114) #[T,T,T,T,T,T,T,T,T,T,T,T,T,T,T,F,F,F,F,F,F,F,F,F,F] ?_
                   refine pu_ HT_ 15 (some 115) #[T,T,T,T,T,T,T,T,T,T,T,T,T,T,T,T,F,F,F,F,F,F,F,F,F] ?_
                   refine pu_ HT_ 17 (some 117) #[T,T,T,T,T,T,T,T,T,T,T,T,T,T,T,T,F,T,F,F,F,F,F,F,F] ?_
                   refine pu_ HT_ 18 (some 118) #[T,T,T,T,T,T,T,T,T,T,T,T,T,T,T,T,F,T,T,F,F,F,F,F,F] ?_
                   refine pu_ HT_ 19 (some 119) #[T,T,T,T,T,T,T,T,T,T,T,T,T,T,T,T,F,T,T,T,F,F,F,F,F] ?_
                   refine take_ (i := 16) (N := some 116) (v := ?_) (a' := ?_) #[T, T, T, T, T, T, T, T, T, T, T, T, T, T, T, T, T, T, T, T, F, F, F, F, F] rfl rfl (take_ofW HT_.out HW_.out (by kernel_rfl)) (fun _ _ _ h => h) (Or.inl ⟨by rfl, ?_⟩) hHeld ?_ ?_
                   rotate_left
                   ·rintro w' ⟨s0, s1⟩
                    go_simp
                    with_reducible rfl
                   rotate_left
                   ·simp only [Act.put, List.setIfInBounds_toArray, List.set_cons_zero, List.set_cons_succ, i64_w, i32_w]
                    rfl
                   refine take_ (i := 20) (N := some 120) (v := ?_) (a' := ?_) #[T, T, T, T, T, T, T, T, T, T, T, T, T, T, T, T, T, T, T, T, T, F, F, F, F] rfl rfl (take_ofW HT_.out HW_.out (by kernel_rfl)) (fun _ _ _ h => h) (Or.inl ⟨by rfl, ?_⟩) hHeld ?_ ?_
                   rotate_left
                   ·rintro w' ⟨s0, s1⟩
                    go_simp
                    with_reducible rfl
                   rotate_left
                   ·simp only [Act.put, List.setIfInBounds_toArray, List.set_cons_zero, List.set_cons_succ, i64_w, i32_w]
                    rfl
                   refine one_ (i := 21) (N := some 121) #[T, T, T, T, T, T, T, T, T, T, T, T, T, T, T, T, T, T, T, T, T, T, F, F, F] rfl rfl (one_of HT_.out (by kernel_rfl)) (by decide) (fun K hK => ?_)
                   refine goes_ Try.func29 (by kernel_rfl) rfl #[.slice A862_0 (rd_L3 t840 (ji52)).length c862_0, .slice A863_0 (rd_L3 t840 x14_3).length c863_0] (by rfl) rfl rfl (by (try simp only [List.map_toArray, List.map_cons, List.map_nil]); first | done | (simp only [hji52]; rfl) | rfl | (simp only [List.length_drop, List.length_take]; rfl)) ?_
                   with_reducible refine (impl_CompareShapes.calls k3 _ _ (rd_L3 t840 (ji52)) _ _ (rd_L3 t840 x14_3) t864 _ ?side1 ?side2 ?side3 ?side4 A55.out).mono ?_
                   (case side1 => exact cS_ (by repeat (first | (with_reducible exact HR862_0.out) | (with_reducible refine Kd.C_alloc ?_ _) | (with_reducible refine Kd.C_drewN ?_ _) | (with_reducible refine Kd.C_drew ?_) | exact HR862_0.out)))
                   (case side2 => exact HC862_0.out)
                   (case side3 => exact cS_ (by repeat (first | (with_reducible exact HR863_0.out) | (with_reducible refine Kd.C_alloc ?_ _) | (with_reducible refine Kd.C_drewN ?_ _) | (with_reducible refine Kd.C_drew ?_) | exact HR863_0.out)))
                   (case side4 => exact HC863_0.out)
                   rintro e w62 ⟨rfl, hb⟩
                   have HS0_ := (hb.cell (World.block_lt_of_cell? _ _ (hHeld.1))).trans (hHeld.1)
                   have HS1_ := (hb.cell (World.block_lt_of_cell? _ _ (hHeld.2))).trans (hHeld.2)
                   refine ⟨_, rfl, ?_⟩
                   replace HO_8 := Aside0.mk (Kd.S_below (sS_ HO_8.out) hb)
                   replace HO_12 := Aside0.mk (Kd.R_below (rS_ HO_12.out) hb)
                   replace HL856_0 := Aside0.mk (Kd.R_below (rS_ HL856_0.out) hb)
                   replace HO860 := Aside0.mk (Kd.R_below (rS_ HO860.out) hb)
                   replace HL862_0 := Aside0.mk (Kd.R_below (rS_ HL862_0.out) hb)
                   replace HL863_0 := Aside0.mk (Kd.R_below (rS_ HL863_0.out) hb)
                   replace HR856_0 := Aside0.mk (Kd.C_below (by repeat (first | (with_reducible exact HR856_0.out) | (with_reducible refine Kd.C_alloc ?_ _) | (with_reducible refine Kd.C_drewN ?_ _) | (with_reducible refine Kd.C_drew ?_) | exact HR856_0.out)) hb)
                   replace HR862_0 := Aside0.mk (Kd.C_below (by repeat (first | (with_reducible exact HR862_0.out) | (with_reducible refine Kd.C_alloc ?_ _) | (with_reducible refine Kd.C_drewN ?_ _) | (with_reducible refine Kd.C_drew ?_) | exact HR862_0.out)) hb)
                   replace HR863_0 := Aside0.mk (Kd.C_below (by repeat (first | (with_reducible exact HR863_0.out) | (with_reducible refine Kd.C_alloc ?_ _) | (with_reducible refine Kd.C_drewN ?_ _) | (with_reducible refine Kd.C_drew ?_) | exact HR863_0.out)) hb)
                   replace HB := Aside0.mk (below_step bB_ hb)
                   (try clear hb)
                   refine hK.out _ _ ⟨HS0_, HS1_⟩ (fun hHeld => ?_)
                   clear hK K
                   refine no_ (some 121) ?_
                   refine pu_ HT_ 22 (some 122) #[T,T,T,T,T,T,T,T,T,T,T,T,T,T,T,T,T,T,T,T,T,T,T,F,F] ?_
                   refine pu_ HT_ 23 (some 123) #[T,T,T,T,T,T,T,T,T,T,T,T,T,T,T,T,T,T,T,T,T,T,T,T,F] ?_
                   refine pu_ HT_ 24 (some 124) #[T,T,T,T,T,T,T,T,T,T,T,T,T,T,T,T,T,T,T,T,T,T,T,T,T] ?_
                   refine done_ (done_of HT_.out (by kernel_rfl)) ?_
                   try go_wp2
                   go_roundg k3
                   case measure => have := HJ8.out; have := HJ31.out; have := HK3.out; omega
                   case rel => exact ⟨(wrap64 (x14_3 + 1)), r3_, H', ⟨by have := HJ8.out; have := HJ31.out; have := HK3.out; omega⟩, ⟨sS_ (Kd.S_mono HO_8.out (fun _ hk => hk.1))⟩, ⟨rS_ (Kd.R_mono HO_12.out (fun _ hk => trivial))⟩, ⟨bB_⟩⟩
                  ·rw [if_neg c56] at H
                   have c56b0 : (t864 == (-1)) = false := beq_eq_false_iff_ne.mpr c56
                   have c56b1 : (t864 != (-1)) = true := bne_iff_ne.mpr c56
                   obtain rfl := Option.some.inj H
                   obtain ⟨Ao63, co63, eo63⟩ := Kd.S_slice HO_8.out
                   subst eo63
                   have p856 : 0 ≤ (x14_3 : Int) := of_decide_eq_true aS_
                   have q856 : x14_3 < (t840.length : Int) := of_decide_eq_true aS_
                   obtain ⟨ad856, A856_0, c856_0, e856, hx856_0, hl856_0, hi856_0⟩ := at_L3 (Kd.S_reads' HO_8.out).2.2 x14_3 p856 q856
                   cases e856
                   obtain ⟨ce856, hce856, hMe856, hcc856⟩ := Kd.S_get HO_8.out [] x14_3 p856 (by first | exact q856 | exact of_decide_eq_true aS_ | (have e_ := (Kd.S_reads' HO_8.out).1; omega))
                   obtain ⟨ve856_0, rfl, ge856_0⟩ := hMe856
                   have hv856_0 := hcc856 0 _ rfl
                   rw [Nat.add_zero, show ((Kd.slice 55 k55)).sz = 1 from rfl, Nat.mul_one] at hv856_0
                   replace hv856_0 := Option.some.inj (hv856_0.symm.trans hx856_0)
                   rw [hv856_0] at ge856_0
                   have HL856_0 := Aside0.mk (show Kd.R k55 55 _ _ _ _ (rd_L3 t840 x14_3) from ge856_0)
                   clear hv856_0 ge856_0
                   clear hcc856 hce856
                   have HR856_0 := Aside0.mk hi856_0
                   have HC856_0 := Aside0.mk hl856_0
                   clear hi856_0 hl856_0
                   replace p856 := eq_true p856
                   replace q856 := eq_true q856
                   try go_wp2_with (first | ((with_reducible refine gate_callee (f := 27) rfl ?_); refine gL_ (some 97) Try.func27 #[.slice A856_0 (rd_L3 t840 x14_3).length c856_0] ?_; (with_reducible refine (impl_FreeForm.calls k3 _ _ (rd_L3 t840 x14_3) t857 t858 _ ?side1 ?side2 A47.out).mono ?_); (case side1 => exact cS_ (by repeat (first | (with_reducible exact HR856_0.out) | (with_reducible refine Kd.C_alloc ?_ _) | (with_reducible refine Kd.C_drewN ?_ _) | (with_reducible refine Kd.C_drew ?_) | exact HR856_0.out))); (case side2 => exact HC856_0.out); rintro e w64 ⟨v859, rfl, ho0, hb⟩; refine ⟨_, rfl, ?_⟩; replace HO_8 := Aside0.mk (Kd.S_elder' (sS_ HO_8.out) (Kd.R_base ho0) hb); have HO860 := Aside0.mk (Kd.R_lower (Kd.R_new' (Kd.R_new' ho0 (Kd.R_lt (rS_ HO_12.out))) (Kd.R_lt (rS_ HL856_0.out))) (below_size bB_)); replace HO_12 := Aside0.mk (Kd.R_elder' (rS_ HO_12.out) (Kd.R_base ho0) hb); replace HL856_0 := Aside0.mk (Kd.R_elder' (rS_ HL856_0.out) (Kd.R_base ho0) hb); replace HR856_0 := Aside0.mk (Kd.C_below (by repeat (first | (with_reducible exact HR856_0.out) | (with_reducible refine Kd.C_alloc ?_ _) | (with_reducible refine Kd.C_drewN ?_ _) | (with_reducible refine Kd.C_drew ?_) | exact HR856_0.out)) hb); replace HB := Aside0.mk (below_step bB_ hb); (try clear hb ho0)))
                   replace HO_8 := Aside0.mk (Kd.S_drew HO_8.out)
                   replace HO_12 := Aside0.mk (Kd.R_drew HO_12.out)
                   replace HL856_0 := Aside0.mk (Kd.R_drew HL856_0.out)
                   replace HO860 := Aside0.mk (Kd.R_drew HO860.out)
                   replace HR856_0 := Aside0.mk (Kd.C_drew HR856_0.out)
                   replace HB := Aside0.mk (below_drew1 HB.out)
                   obtain ⟨Ao66, co66, eo66⟩ := Kd.R_slice HO860.out
                   (first | subst eo66 | (injection eo66 with f1_ f2_ f3_; have f4_ := f1_.symm; have f5_ := f3_.symm; clear f1_ f2_ f3_; subst f4_; subst f5_))
                   obtain ⟨Ao67, co67, eo67⟩ := Kd.R_slice HO_12.out
                   (first | subst eo67 | (injection eo67 with f1_ f2_ f3_; have f4_ := f1_.symm; have f5_ := f3_.symm; clear f1_ f2_ f3_; subst f4_; subst f5_))
                   have p862 : 0 ≤ ((ji52) : Int) := of_decide_eq_true aS_
                   have q862 : (ji52) < (t840.length : Int) := of_decide_eq_true aS_
                   obtain ⟨ad862, A862_0, c862_0, e862, hx862_0, hl862_0, hi862_0⟩ := at_L3 (Kd.S_reads' HO_8.out).2.2 (ji52) p862 q862
                   obtain rfl : ad856 = ad862 := (by injection e862)
                   obtain ⟨ce862, hce862, hMe862, hcc862⟩ := Kd.S_get HO_8.out [] (ji52) p862 (by first | exact q862 | exact of_decide_eq_true aS_ | (have e_ := (Kd.S_reads' HO_8.out).1; omega))
                   obtain ⟨ve862_0, rfl, ge862_0⟩ := hMe862
                   have hv862_0 := hcc862 0 _ rfl
                   rw [Nat.add_zero, show ((Kd.slice 55 k55)).sz = 1 from rfl, Nat.mul_one] at hv862_0
                   replace hv862_0 := Option.some.inj (hv862_0.symm.trans hx862_0)
                   rw [hv862_0] at ge862_0
                   have HL862_0 := Aside0.mk (show Kd.R k55 55 _ _ _ _ (rd_L3 t840 (ji52)) from ge862_0)
                   clear hv862_0 ge862_0
                   clear hcc862 hce862
                   have HR862_0 := Aside0.mk hi862_0
                   have HC862_0 := Aside0.mk hl862_0
                   clear hi862_0 hl862_0
                   replace p862 := eq_true p862
                   replace q862 := eq_true q862
                   have p863 : 0 ≤ (x14_3 : Int) := of_decide_eq_true aS_
                   have q863 : x14_3 < (t840.length : Int) := of_decide_eq_true aS_
                   obtain ⟨ad863, A863_0, c863_0, e863, hx863_0, hl863_0, hi863_0⟩ := at_L3 (Kd.S_reads' HO_8.out).2.2 x14_3 p863 q863
                   obtain rfl : ad856 = ad863 := (by injection e863)
                   obtain ⟨ce863, hce863, hMe863, hcc863⟩ := Kd.S_get HO_8.out [] x14_3 p863 (by first | exact q863 | exact of_decide_eq_true aS_ | (have e_ := (Kd.S_reads' HO_8.out).1; omega))
                   obtain ⟨ve863_0, rfl, ge863_0⟩ := hMe863
                   have hv863_0 := hcc863 0 _ rfl
                   rw [Nat.add_zero, show ((Kd.slice 55 k55)).sz = 1 from rfl, Nat.mul_one] at hv863_0
                   replace hv863_0 := Option.some.inj (hv863_0.symm.trans hx863_0)
                   rw [hv863_0] at ge863_0
                   have HL863_0 := Aside0.mk (show Kd.R k55 55 _ _ _ _ (rd_L3 t840 x14_3) from ge863_0)
                   clear hv863_0 ge863_0
                   clear hcc863 hce863
                   have HR863_0 := Aside0.mk hi863_0
                   have HC863_0 := Aside0.mk hl863_0
                   clear hi863_0 hl863_0
                   replace p863 := eq_true p863
                   replace q863 := eq_true q863
                   refine start_ (n := 25) (S := fun w' => w'.cell? (ad856.add ((ji52)).toNat) = some (.slice A862_0 (rd_L3 t840 (ji52)).length c862_0) ∧ w'.cell? (ad856.add (x14_3).toNat) = some (.slice A863_0 (rd_L3 t840 x14_3).length c863_0)) (ds := []) #[F, F, F, F, F, F, F, F, F, F, F, F, F, F, F, F, F, F, F, F, F, F, F, F, F] (by kernel_rfl) rfl rfl ⟨hx862_0, hx863_0⟩ (fun hHeld => ?_); refine with_tabW laws_FnForms.tab19 laws_FnForms.bits19 (fun HT_ HW_ => ?_)
                   generalize w64.drew = w65 at HO_8 HO_12 HL856_0 HO860 HR856_0 HB HL862_0 HL863_0 HR862_0 HR863_0 hx862_0 hx863_0 hHeld ⊢
                   refine pu_ HT_ 0 (some 100) #[T,F,F,F,F,F,F,F,F,F,F,F,F,F,F,F,F,F,F,F,F,F,F,F,F] ?_
                   refine pu_ HT_ 1 (some 101) #[T,T,F,F,F,F,F,F,F,F,F,F,F,F,F,F,F,F,F,F,F,F,F,F,F] ?_
                   refine pu_ HT_ 2 (some 102) #[T,T,T,F,F,F,F,F,F,F,F,F,F,F,F,F,F,F,F,F,F,F,F,F,F] ?_
                   refine pu_ HT_ 3 (some 103) #[T,T,T,T,F,F,F,F,F,F,F,F,F,F,F,F,F,F,F,F,F,F,F,F,F] ?_
                   refine pu_ HT_ 4 (some 104) #[T,T,T,T,T,F,F,F,F,F,F,F,F,F,F,F,F,F,F,F,F,F,F,F,F] ?_
                   refine one_ (i := 5) (N := some 105) #[T, T, T, T, T, T, F, F, F, F, F, F, F, F, F, F, F, F, F, F, F, F, F, F, F] rfl rfl (one_of HT_.out (by kernel_rfl)) (by decide) (fun K hK => ?_)
                   refine goes_ Try.func28 (by kernel_rfl) rfl #[.slice Ao66 t857.length co66, .slice Ao67 t850.length co67] (by rfl) rfl rfl mA_ ?_
                   with_reducible refine (laws_likeCells.calls k3 _ _ t857 _ _ t850 true _ ?side1 ?side2 ?side3 ?side4 A49.out).mono ?_
                   (case side1 => exact cS_ ((Kd.R_reads' HO860.out).2.2))
                   (case side2 => exact (Kd.R_reads' HO860.out).2.1)
                   (case side3 => exact cS_ ((Kd.R_reads' HO_12.out).2.2))
                   (case side4 => exact (Kd.R_reads' HO_12.out).2.1)
                   rintro e w' ⟨rfl, ⟨nd, rfl⟩⟩
                   refine ⟨_, rfl, ?_⟩
                   refine hK.out _ _ ⟨hHeld.1, hHeld.2⟩ (fun hHeld => ?_)
                   clear hK K
                   refine no_ (some 105) ?_
                   refine pu_ HT_ 6 (some 106) #[T,T,T,T,T,T,T,F,F,F,F,F,F,F,F,F,F,F,F,F,F,F,F,F,F] ?_
                   refine pu_ HT_ 7 (some 107) #[T,T,T,T,T,T,T,T,F,F,F,F,F,F,F,F,F,F,F,F,F,F,F,F,F] ?_
                   refine pu_ HT_ 8 (some 108) #[T,T,T,T,T,T,T,T,T,F,F,F,F,F,F,F,F,F,F,F,F,F,F,F,F] ?_
                   refine pu_ HT_ 9 (some 109) #[T,T,T,T,T,T,T,T,T,T,F,F,F,F,F,F,F,F,F,F,F,F,F,F,F] ?_
                   refine pu_ HT_ 10 (some 110) #[T,T,T,T,T,T,T,T,T,T,T,F,F,F,F,F,F,F,F,F,F,F,F,F,F] ?_
                   refine pu_ HT_ 11 (some 111) #[T,T,T,T,T,T,T,T,T,T,T,T,F,F,F,F,F,F,F,F,F,F,F,F,F] ?_
                   refine pu_ HT_ 12 (some 112) #[T,T,T,T,T,T,T,T,T,T,T,T,T,F,F,F,F,F,F,F,F,F,F,F,F] ?_
                   refine pu_ HT_ 13 (some 113) #[T,T,T,T,T,T,T,T,T,T,T,T,T,T,F,F,F,F,F,F,F,F,F,F,F] ?_
                   refine pu_ HT_ 14 (some 114) #[T,T,T,T,T,T,T,T,T,T,T,T,T,T,T,F,F,F,F,F,F,F,F,F,F] ?_
                   refine pu_ HT_ 15 (some 115) #[T,T,T,T,T,T,T,T,T,T,T,T,T,T,T,T,F,F,F,F,F,F,F,F,F] ?_
                   refine pu_ HT_ 17 (some 117) #[T,T,T,T,T,T,T,T,T,T,T,T,T,T,T,T,F,T,F,F,F,F,F,F,F] ?_
                   refine pu_ HT_ 18 (some 118) #[T,T,T,T,T,T,T,T,T,T,T,T,T,T,T,T,F,T,T,F,F,F,F,F,F] ?_
                   refine pu_ HT_ 19 (some 119) #[T,T,T,T,T,T,T,T,T,T,T,T,T,T,T,T,F,T,T,T,F,F,F,F,F] ?_
                   refine take_ (i := 16) (N := some 116) (v := ?_) (a' := ?_) #[T, T, T, T, T, T, T, T, T, T, T, T, T, T, T, T, T, T, T, T, F, F, F, F, F] rfl rfl (take_ofW HT_.out HW_.out (by kernel_rfl)) (fun _ _ _ h => h) (Or.inl ⟨by rfl, ?_⟩) hHeld ?_ ?_
                   rotate_left
                   ·rintro w' ⟨s0, s1⟩
                    go_simp
                    with_reducible rfl
                   rotate_left
                   ·simp only [Act.put, List.setIfInBounds_toArray, List.set_cons_zero, List.set_cons_succ, i64_w, i32_w]
                    rfl
                   refine take_ (i := 20) (N := some 120) (v := ?_) (a' := ?_) #[T, T, T, T, T, T, T, T, T, T, T, T, T, T, T, T, T, T, T, T, T, F, F, F, F] rfl rfl (take_ofW HT_.out HW_.out (by kernel_rfl)) (fun _ _ _ h => h) (Or.inl ⟨by rfl, ?_⟩) hHeld ?_ ?_
                   rotate_left
                   ·rintro w' ⟨s0, s1⟩
                    go_simp
                    with_reducible rfl
                   rotate_left
                   ·simp only [Act.put, List.setIfInBounds_toArray, List.set_cons_zero, List.set_cons_succ, i64_w, i32_w]
                    rfl
                   refine one_ (i := 21) (N := some 121) #[T, T, T, T, T, T, T, T, T, T, T, T, T, T, T, T, T, T, T, T, T, T, F, F, F] rfl rfl (one_of HT_.out (by kernel_rfl)) (by decide) (fun K hK => ?_)
                   refine goes_ Try.func29 (by kernel_rfl) rfl #[.slice A862_0 (rd_L3 t840 (ji52)).length c862_0, .slice A863_0 (rd_L3 t840 x14_3).length c863_0] (by rfl) rfl rfl (by (try simp only [List.map_toArray, List.map_cons, List.map_nil]); first | done | (simp only [hji52]; rfl) | rfl | (simp only [List.length_drop, List.length_take]; rfl)) ?_
                   with_reducible refine (impl_CompareShapes.calls k3 _ _ (rd_L3 t840 (ji52)) _ _ (rd_L3 t840 x14_3) t864 _ ?side1 ?side2 ?side3 ?side4 A55.out).mono ?_
                   (case side1 => exact cS_ (by repeat (first | (with_reducible exact HR862_0.out) | (with_reducible refine Kd.C_alloc ?_ _) | (with_reducible refine Kd.C_drewN ?_ _) | (with_reducible refine Kd.C_drew ?_) | exact HR862_0.out)))
                   (case side2 => exact HC862_0.out)
                   (case side3 => exact cS_ (by repeat (first | (with_reducible exact HR863_0.out) | (with_reducible refine Kd.C_alloc ?_ _) | (with_reducible refine Kd.C_drewN ?_ _) | (with_reducible refine Kd.C_drew ?_) | exact HR863_0.out)))
                   (case side4 => exact HC863_0.out)
                   rintro e w68 ⟨rfl, hb⟩
                   have HS0_ := (hb.cell (World.block_lt_of_cell? _ _ (hHeld.1))).trans (hHeld.1)
                   have HS1_ := (hb.cell (World.block_lt_of_cell? _ _ (hHeld.2))).trans (hHeld.2)
                   refine ⟨_, rfl, ?_⟩
                   replace HO_8 := Aside0.mk (Kd.S_below (sS_ HO_8.out) hb)
                   replace HO_12 := Aside0.mk (Kd.R_below (rS_ HO_12.out) hb)
                   replace HL856_0 := Aside0.mk (Kd.R_below (rS_ HL856_0.out) hb)
                   replace HO860 := Aside0.mk (Kd.R_below (rS_ HO860.out) hb)
                   replace HL862_0 := Aside0.mk (Kd.R_below (rS_ HL862_0.out) hb)
                   replace HL863_0 := Aside0.mk (Kd.R_below (rS_ HL863_0.out) hb)
                   replace HR856_0 := Aside0.mk (Kd.C_below (by repeat (first | (with_reducible exact HR856_0.out) | (with_reducible refine Kd.C_alloc ?_ _) | (with_reducible refine Kd.C_drewN ?_ _) | (with_reducible refine Kd.C_drew ?_) | exact HR856_0.out)) hb)
                   replace HR862_0 := Aside0.mk (Kd.C_below (by repeat (first | (with_reducible exact HR862_0.out) | (with_reducible refine Kd.C_alloc ?_ _) | (with_reducible refine Kd.C_drewN ?_ _) | (with_reducible refine Kd.C_drew ?_) | exact HR862_0.out)) hb)
                   replace HR863_0 := Aside0.mk (Kd.C_below (by repeat (first | (with_reducible exact HR863_0.out) | (with_reducible refine Kd.C_alloc ?_ _) | (with_reducible refine Kd.C_drewN ?_ _) | (with_reducible refine Kd.C_drew ?_) | exact HR863_0.out)) hb)
                   replace HB := Aside0.mk (below_step bB_ hb)
                   (try clear hb)
                   refine hK.out _ _ ⟨HS0_, HS1_⟩ (fun hHeld => ?_)
                   clear hK K
                   refine no_ (some 121) ?_
                   refine pu_ HT_ 22 (some 122) #[T,T,T,T,T,T,T,T,T,T,T,T,T,T,T,T,T,T,T,T,T,T,T,F,F] ?_
                   refine pu_ HT_ 23 (some 123) #[T,T,T,T,T,T,T,T,T,T,T,T,T,T,T,T,T,T,T,T,T,T,T,T,F] ?_
                   refine pu_ HT_ 24 (some 124) #[T,T,T,T,T,T,T,T,T,T,T,T,T,T,T,T,T,T,T,T,T,T,T,T,T] ?_
                   refine done_ (done_of HT_.out (by kernel_rfl)) ?_
                   try go_wp2
                   go_ret
                   exact ⟨by first | rfl | (simp [errW_none, errW_some] <;> rfl) | (simp only [← hji52]; first | rfl | (simp [errW_none, errW_some] <;> rfl)) | (simp [*, errW_none, errW_some] <;> rfl), bB_⟩
                 ·rw [if_neg c54] at H
                  exact absurd H (by simp)
                ·rw [if_neg c53] at H
                 exact absurd H (by simp)
               ·rw [if_neg c51] at H
                have c51b0 : decide (0 < x14_3) = false := decide_eq_false c51
                clear c51
                have H' := Aside0.mk H
                clear H
                obtain ⟨Ao69, co69, eo69⟩ := Kd.S_slice HO_8.out
                subst eo69
                have p856 : 0 ≤ (x14_3 : Int) := of_decide_eq_true aS_
                have q856 : x14_3 < (t840.length : Int) := of_decide_eq_true aS_
                obtain ⟨ad856, A856_0, c856_0, e856, hx856_0, hl856_0, hi856_0⟩ := at_L3 (Kd.S_reads' HO_8.out).2.2 x14_3 p856 q856
                cases e856
                obtain ⟨ce856, hce856, hMe856, hcc856⟩ := Kd.S_get HO_8.out [] x14_3 p856 (by first | exact q856 | exact of_decide_eq_true aS_ | (have e_ := (Kd.S_reads' HO_8.out).1; omega))
                obtain ⟨ve856_0, rfl, ge856_0⟩ := hMe856
                have hv856_0 := hcc856 0 _ rfl
                rw [Nat.add_zero, show ((Kd.slice 55 k55)).sz = 1 from rfl, Nat.mul_one] at hv856_0
                replace hv856_0 := Option.some.inj (hv856_0.symm.trans hx856_0)
                rw [hv856_0] at ge856_0
                have HL856_0 := Aside0.mk (show Kd.R k55 55 _ _ _ _ (rd_L3 t840 x14_3) from ge856_0)
                clear hv856_0 ge856_0
                clear hcc856 hce856
                have HR856_0 := Aside0.mk hi856_0
                have HC856_0 := Aside0.mk hl856_0
                clear hi856_0 hl856_0
                replace p856 := eq_true p856
                replace q856 := eq_true q856
                try go_wp2_with (first | ((with_reducible refine gate_callee (f := 27) rfl ?_); refine gL_ (some 97) Try.func27 #[.slice A856_0 (rd_L3 t840 x14_3).length c856_0] ?_; (with_reducible refine (impl_FreeForm.calls k3 _ _ (rd_L3 t840 x14_3) t857 t858 _ ?side1 ?side2 A47.out).mono ?_); (case side1 => exact cS_ (by repeat (first | (with_reducible exact HR856_0.out) | (with_reducible refine Kd.C_alloc ?_ _) | (with_reducible refine Kd.C_drewN ?_ _) | (with_reducible refine Kd.C_drew ?_) | exact HR856_0.out))); (case side2 => exact HC856_0.out); rintro e w70 ⟨v859, rfl, ho0, hb⟩; refine ⟨_, rfl, ?_⟩; replace HO_8 := Aside0.mk (Kd.S_elder' (sS_ HO_8.out) (Kd.R_base ho0) hb); have HO860 := Aside0.mk (Kd.R_lower (Kd.R_new' (Kd.R_new' ho0 (Kd.R_lt (rS_ HO_12.out))) (Kd.R_lt (rS_ HL856_0.out))) (below_size bB_)); replace HO_12 := Aside0.mk (Kd.R_elder' (rS_ HO_12.out) (Kd.R_base ho0) hb); replace HL856_0 := Aside0.mk (Kd.R_elder' (rS_ HL856_0.out) (Kd.R_base ho0) hb); replace HR856_0 := Aside0.mk (Kd.C_below (by repeat (first | (with_reducible exact HR856_0.out) | (with_reducible refine Kd.C_alloc ?_ _) | (with_reducible refine Kd.C_drewN ?_ _) | (with_reducible refine Kd.C_drew ?_) | exact HR856_0.out)) hb); replace HB := Aside0.mk (below_step bB_ hb); (try clear hb ho0)))
                replace HO_8 := Aside0.mk (Kd.S_drew HO_8.out)
                replace HO_12 := Aside0.mk (Kd.R_drew HO_12.out)
                replace HL856_0 := Aside0.mk (Kd.R_drew HL856_0.out)
                replace HO860 := Aside0.mk (Kd.R_drew HO860.out)
                replace HR856_0 := Aside0.mk (Kd.C_drew HR856_0.out)
                replace HB := Aside0.mk (below_drew1 HB.out)
                obtain ⟨Ao72, co72, eo72⟩ := Kd.R_slice HO860.out
                (first | subst eo72 | (injection eo72 with f1_ f2_ f3_; have f4_ := f1_.symm; have f5_ := f3_.symm; clear f1_ f2_ f3_; subst f4_; subst f5_))
                obtain ⟨Ao73, co73, eo73⟩ := Kd.R_slice HO_12.out
                (first | subst eo73 | (injection eo73 with f1_ f2_ f3_; have f4_ := f1_.symm; have f5_ := f3_.symm; clear f1_ f2_ f3_; subst f4_; subst f5_))
                refine start_ (n := 25) (S := fun w' => True) (ds := []) #[F, F, F, F, F, F, F, F, F, F, F, F, F, F, F, F, F, F, F, F, F, F, F, F, F] (by kernel_rfl) rfl rfl trivial (fun hHeld => ?_); refine with_tabW laws_FnForms.tab19 laws_FnForms.bits19 (fun HT_ HW_ => ?_)
                generalize w70.drew = w71 at HO_8 HO_12 HL856_0 HO860 HR856_0 HB hHeld ⊢
                refine pu_ HT_ 0 (some 100) #[T,F,F,F,F,F,F,F,F,F,F,F,F,F,F,F,F,F,F,F,F,F,F,F,F] ?_
                refine pu_ HT_ 1 (some 101) #[T,T,F,F,F,F,F,F,F,F,F,F,F,F,F,F,F,F,F,F,F,F,F,F,F] ?_
                refine pu_ HT_ 2 (some 102) #[T,T,T,F,F,F,F,F,F,F,F,F,F,F,F,F,F,F,F,F,F,F,F,F,F] ?_
                refine pu_ HT_ 3 (some 103) #[T,T,T,T,F,F,F,F,F,F,F,F,F,F,F,F,F,F,F,F,F,F,F,F,F] ?_
                refine pu_ HT_ 4 (some 104) #[T,T,T,T,T,F,F,F,F,F,F,F,F,F,F,F,F,F,F,F,F,F,F,F,F] ?_
                refine one_ (i := 5) (N := some 105) #[T, T, T, T, T, T, F, F, F, F, F, F, F, F, F, F, F, F, F, F, F, F, F, F, F] rfl rfl (one_of HT_.out (by kernel_rfl)) (by decide) (fun K hK => ?_)
                refine goes_ Try.func28 (by kernel_rfl) rfl #[.slice Ao72 t857.length co72, .slice Ao73 t850.length co73] (by rfl) rfl rfl mA_ ?_
                with_reducible refine (laws_likeCells.calls k3 _ _ t857 _ _ t850 true _ ?side1 ?side2 ?side3 ?side4 A49.out).mono ?_
                (case side1 => exact cS_ ((Kd.R_reads' HO860.out).2.2))
                (case side2 => exact (Kd.R_reads' HO860.out).2.1)
                (case side3 => exact cS_ ((Kd.R_reads' HO_12.out).2.2))
                (case side4 => exact (Kd.R_reads' HO_12.out).2.1)
                rintro e w' ⟨rfl, ⟨nd, rfl⟩⟩
                refine ⟨_, rfl, ?_⟩
                refine hK.out _ _ trivial (fun hHeld => ?_)
                clear hK K
                refine no_ (some 105) ?_
                refine pu_ HT_ 6 (some 106) #[T,T,T,T,T,T,T,F,F,F,F,F,F,F,F,F,F,F,F,F,F,F,F,F,F] ?_
                refine pu_ HT_ 7 (some 107) #[T,T,T,T,T,T,T,T,F,F,F,F,F,F,F,F,F,F,F,F,F,F,F,F,F] ?_
                refine pu_ HT_ 8 (some 108) #[T,T,T,T,T,T,T,T,T,F,F,F,F,F,F,F,F,F,F,F,F,F,F,F,F] ?_
                refine pu_ HT_ 9 (some 109) #[T,T,T,T,T,T,T,T,T,T,F,F,F,F,F,F,F,F,F,F,F,F,F,F,F] ?_
                refine pu_ HT_ 10 (some 110) #[T,T,T,T,T,T,T,T,T,T,T,F,F,F,F,F,F,F,F,F,F,F,F,F,F] ?_
                refine pu_ HT_ 11 (some 111) #[T,T,T,T,T,T,T,T,T,T,T,T,F,F,F,F,F,F,F,F,F,F,F,F,F] ?_
                refine pn_ HT_ 12 (some 112) #[T,T,T,T,T,T,T,T,T,T,T,T,T,F,F,F,F,F,F,F,F,F,F,F,F] ?_
                refine pn_ HT_ 13 (some 113) #[T,T,T,T,T,T,T,T,T,T,T,T,T,T,F,F,F,F,F,F,F,F,F,F,F] ?_
                refine pn_ HT_ 14 (some 114) #[T,T,T,T,T,T,T,T,T,T,T,T,T,T,T,F,F,F,F,F,F,F,F,F,F] ?_
                refine pn_ HT_ 15 (some 115) #[T,T,T,T,T,T,T,T,T,T,T,T,T,T,T,T,F,F,F,F,F,F,F,F,F] ?_
                refine pn_ HT_ 16 (some 116) #[T,T,T,T,T,T,T,T,T,T,T,T,T,T,T,T,T,F,F,F,F,F,F,F,F] ?_
                refine pn_ HT_ 17 (some 117) #[T,T,T,T,T,T,T,T,T,T,T,T,T,T,T,T,T,T,F,F,F,F,F,F,F] ?_
                refine pn_ HT_ 18 (some 118) #[T,T,T,T,T,T,T,T,T,T,T,T,T,T,T,T,T,T,T,F,F,F,F,F,F] ?_
                refine pn_ HT_ 19 (some 119) #[T,T,T,T,T,T,T,T,T,T,T,T,T,T,T,T,T,T,T,T,F,F,F,F,F] ?_
                refine pn_ HT_ 20 (some 120) #[T,T,T,T,T,T,T,T,T,T,T,T,T,T,T,T,T,T,T,T,T,F,F,F,F] ?_
                refine pn_ HT_ 21 (some 121) #[T,T,T,T,T,T,T,T,T,T,T,T,T,T,T,T,T,T,T,T,T,T,F,F,F] ?_
                refine pn_ HT_ 22 (some 122) #[T,T,T,T,T,T,T,T,T,T,T,T,T,T,T,T,T,T,T,T,T,T,T,F,F] ?_
                refine pu_ HT_ 23 (some 123) #[T,T,T,T,T,T,T,T,T,T,T,T,T,T,T,T,T,T,T,T,T,T,T,T,F] ?_
                refine pu_ HT_ 24 (some 124) #[T,T,T,T,T,T,T,T,T,T,T,T,T,T,T,T,T,T,T,T,T,T,T,T,T] ?_
                refine done_ (done_of HT_.out (by kernel_rfl)) ?_
                try go_wp2
                go_roundg k3
                case measure => have := HJ8.out; have := HJ31.out; have := HK3.out; omega
                case rel => exact ⟨(wrap64 (x14_3 + 1)), r3_, H', ⟨by have := HJ8.out; have := HJ31.out; have := HK3.out; omega⟩, ⟨sS_ (Kd.S_mono HO_8.out (fun _ hk => hk.1))⟩, ⟨rS_ (Kd.R_mono HO_12.out (fun _ hk => trivial))⟩, ⟨bB_⟩⟩
              ·replace c50 := Bool.eq_false_iff.mpr c50
               subst c50
               have H1 : (some false) = some r := by rw [if_neg (show ¬ (false = true) by decide)] at H; exact H
               clear H
               have H := H1
               clear H1
               obtain rfl := Option.some.inj H
               obtain ⟨Ao74, co74, eo74⟩ := Kd.S_slice HO_8.out
               subst eo74
               have p856 : 0 ≤ (x14_3 : Int) := of_decide_eq_true aS_
               have q856 : x14_3 < (t840.length : Int) := of_decide_eq_true aS_
               obtain ⟨ad856, A856_0, c856_0, e856, hx856_0, hl856_0, hi856_0⟩ := at_L3 (Kd.S_reads' HO_8.out).2.2 x14_3 p856 q856
               cases e856
               obtain ⟨ce856, hce856, hMe856, hcc856⟩ := Kd.S_get HO_8.out [] x14_3 p856 (by first | exact q856 | exact of_decide_eq_true aS_ | (have e_ := (Kd.S_reads' HO_8.out).1; omega))
               obtain ⟨ve856_0, rfl, ge856_0⟩ := hMe856
               have hv856_0 := hcc856 0 _ rfl
               rw [Nat.add_zero, show ((Kd.slice 55 k55)).sz = 1 from rfl, Nat.mul_one] at hv856_0
               replace hv856_0 := Option.some.inj (hv856_0.symm.trans hx856_0)
               rw [hv856_0] at ge856_0
               have HL856_0 := Aside0.mk (show Kd.R k55 55 _ _ _ _ (rd_L3 t840 x14_3) from ge856_0)
               clear hv856_0 ge856_0
               clear hcc856 hce856
               have HR856_0 := Aside0.mk hi856_0
               have HC856_0 := Aside0.mk hl856_0
               clear hi856_0 hl856_0
               replace p856 := eq_true p856
               replace q856 := eq_true q856
               try go_wp2_with (first | ((with_reducible refine gate_callee (f := 27) rfl ?_); refine gL_ (some 97) Try.func27 #[.slice A856_0 (rd_L3 t840 x14_3).length c856_0] ?_; (with_reducible refine (impl_FreeForm.calls k3 _ _ (rd_L3 t840 x14_3) t857 t858 _ ?side1 ?side2 A47.out).mono ?_); (case side1 => exact cS_ (by repeat (first | (with_reducible exact HR856_0.out) | (with_reducible refine Kd.C_alloc ?_ _) | (with_reducible refine Kd.C_drewN ?_ _) | (with_reducible refine Kd.C_drew ?_) | exact HR856_0.out))); (case side2 => exact HC856_0.out); rintro e w75 ⟨v859, rfl, ho0, hb⟩; refine ⟨_, rfl, ?_⟩; replace HO_8 := Aside0.mk (Kd.S_elder' (sS_ HO_8.out) (Kd.R_base ho0) hb); have HO860 := Aside0.mk (Kd.R_lower (Kd.R_new' (Kd.R_new' ho0 (Kd.R_lt (rS_ HO_12.out))) (Kd.R_lt (rS_ HL856_0.out))) (below_size bB_)); replace HO_12 := Aside0.mk (Kd.R_elder' (rS_ HO_12.out) (Kd.R_base ho0) hb); replace HL856_0 := Aside0.mk (Kd.R_elder' (rS_ HL856_0.out) (Kd.R_base ho0) hb); replace HR856_0 := Aside0.mk (Kd.C_below (by repeat (first | (with_reducible exact HR856_0.out) | (with_reducible refine Kd.C_alloc ?_ _) | (with_reducible refine Kd.C_drewN ?_ _) | (with_reducible refine Kd.C_drew ?_) | exact HR856_0.out)) hb); replace HB := Aside0.mk (below_step bB_ hb); (try clear hb ho0)))
               replace HO_8 := Aside0.mk (Kd.S_drew HO_8.out)
               replace HO_12 := Aside0.mk (Kd.R_drew HO_12.out)
               replace HL856_0 := Aside0.mk (Kd.R_drew HL856_0.out)
               replace HO860 := Aside0.mk (Kd.R_drew HO860.out)
               replace HR856_0 := Aside0.mk (Kd.C_drew HR856_0.out)
               replace HB := Aside0.mk (below_drew1 HB.out)
               obtain ⟨Ao77, co77, eo77⟩ := Kd.R_slice HO860.out
               (first | subst eo77 | (injection eo77 with f1_ f2_ f3_; have f4_ := f1_.symm; have f5_ := f3_.symm; clear f1_ f2_ f3_; subst f4_; subst f5_))
               obtain ⟨Ao78, co78, eo78⟩ := Kd.R_slice HO_12.out
               (first | subst eo78 | (injection eo78 with f1_ f2_ f3_; have f4_ := f1_.symm; have f5_ := f3_.symm; clear f1_ f2_ f3_; subst f4_; subst f5_))
               refine start_ (n := 25) (S := fun w' => True) (ds := []) #[F, F, F, F, F, F, F, F, F, F, F, F, F, F, F, F, F, F, F, F, F, F, F, F, F] (by kernel_rfl) rfl rfl trivial (fun hHeld => ?_); refine with_tabW laws_FnForms.tab19 laws_FnForms.bits19 (fun HT_ HW_ => ?_)
               generalize w75.drew = w76 at HO_8 HO_12 HL856_0 HO860 HR856_0 HB hHeld ⊢
               refine pu_ HT_ 0 (some 100) #[T,F,F,F,F,F,F,F,F,F,F,F,F,F,F,F,F,F,F,F,F,F,F,F,F] ?_
               refine pu_ HT_ 1 (some 101) #[T,T,F,F,F,F,F,F,F,F,F,F,F,F,F,F,F,F,F,F,F,F,F,F,F] ?_
               refine pu_ HT_ 2 (some 102) #[T,T,T,F,F,F,F,F,F,F,F,F,F,F,F,F,F,F,F,F,F,F,F,F,F] ?_
               refine pu_ HT_ 3 (some 103) #[T,T,T,T,F,F,F,F,F,F,F,F,F,F,F,F,F,F,F,F,F,F,F,F,F] ?_
               refine pu_ HT_ 4 (some 104) #[T,T,T,T,T,F,F,F,F,F,F,F,F,F,F,F,F,F,F,F,F,F,F,F,F] ?_
               refine one_ (i := 5) (N := some 105) #[T, T, T, T, T, T, F, F, F, F, F, F, F, F, F, F, F, F, F, F, F, F, F, F, F] rfl rfl (one_of HT_.out (by kernel_rfl)) (by decide) (fun K hK => ?_)
               refine goes_ Try.func28 (by kernel_rfl) rfl #[.slice Ao77 t857.length co77, .slice Ao78 t850.length co78] (by rfl) rfl rfl mA_ ?_
               with_reducible refine (laws_likeCells.calls k3 _ _ t857 _ _ t850 false _ ?side1 ?side2 ?side3 ?side4 A49.out).mono ?_
               (case side1 => exact cS_ ((Kd.R_reads' HO860.out).2.2))
               (case side2 => exact (Kd.R_reads' HO860.out).2.1)
               (case side3 => exact cS_ ((Kd.R_reads' HO_12.out).2.2))
               (case side4 => exact (Kd.R_reads' HO_12.out).2.1)
               rintro e w' ⟨rfl, ⟨nd, rfl⟩⟩
               refine ⟨_, rfl, ?_⟩
               refine hK.out _ _ trivial (fun hHeld => ?_)
               clear hK K
               refine no_ (some 105) ?_
               refine pu_ HT_ 6 (some 106) #[T,T,T,T,T,T,T,F,F,F,F,F,F,F,F,F,F,F,F,F,F,F,F,F,F] ?_
               refine pu_ HT_ 7 (some 107) #[T,T,T,T,T,T,T,T,F,F,F,F,F,F,F,F,F,F,F,F,F,F,F,F,F] ?_
               refine pu_ HT_ 8 (some 108) #[T,T,T,T,T,T,T,T,T,F,F,F,F,F,F,F,F,F,F,F,F,F,F,F,F] ?_
               refine pn_ HT_ 9 (some 109) #[T,T,T,T,T,T,T,T,T,T,F,F,F,F,F,F,F,F,F,F,F,F,F,F,F] ?_
               refine pn_ HT_ 10 (some 110) #[T,T,T,T,T,T,T,T,T,T,T,F,F,F,F,F,F,F,F,F,F,F,F,F,F] ?_
               refine pn_ HT_ 11 (some 111) #[T,T,T,T,T,T,T,T,T,T,T,T,F,F,F,F,F,F,F,F,F,F,F,F,F] ?_
               refine pn_ HT_ 12 (some 112) #[T,T,T,T,T,T,T,T,T,T,T,T,T,F,F,F,F,F,F,F,F,F,F,F,F] ?_
               refine pn_ HT_ 13 (some 113) #[T,T,T,T,T,T,T,T,T,T,T,T,T,T,F,F,F,F,F,F,F,F,F,F,F] ?_
               refine pn_ HT_ 14 (some 114) #[T,T,T,T,T,T,T,T,T,T,T,T,T,T,T,F,F,F,F,F,F,F,F,F,F] ?_
               refine pn_ HT_ 15 (some 115) #[T,T,T,T,T,T,T,T,T,T,T,T,T,T,T,T,F,F,F,F,F,F,F,F,F] ?_
               refine pn_ HT_ 16 (some 116) #[T,T,T,T,T,T,T,T,T,T,T,T,T,T,T,T,T,F,F,F,F,F,F,F,F] ?_
               refine pn_ HT_ 17 (some 117) #[T,T,T,T,T,T,T,T,T,T,T,T,T,T,T,T,T,T,F,F,F,F,F,F,F] ?_
               refine pn_ HT_ 18 (some 118) #[T,T,T,T,T,T,T,T,T,T,T,T,T,T,T,T,T,T,T,F,F,F,F,F,F] ?_
               refine pn_ HT_ 19 (some 119) #[T,T,T,T,T,T,T,T,T,T,T,T,T,T,T,T,T,T,T,T,F,F,F,F,F] ?_
               refine pn_ HT_ 20 (some 120) #[T,T,T,T,T,T,T,T,T,T,T,T,T,T,T,T,T,T,T,T,T,F,F,F,F] ?_
               refine pn_ HT_ 21 (some 121) #[T,T,T,T,T,T,T,T,T,T,T,T,T,T,T,T,T,T,T,T,T,T,F,F,F] ?_
               refine pn_ HT_ 22 (some 122) #[T,T,T,T,T,T,T,T,T,T,T,T,T,T,T,T,T,T,T,T,T,T,T,F,F] ?_
               refine pn_ HT_ 23 (some 123) #[T,T,T,T,T,T,T,T,T,T,T,T,T,T,T,T,T,T,T,T,T,T,T,T,F] ?_
               refine pu_ HT_ 24 (some 124) #[T,T,T,T,T,T,T,T,T,T,T,T,T,T,T,T,T,T,T,T,T,T,T,T,T] ?_
               refine done_ (done_of HT_.out (by kernel_rfl)) ?_
               try go_wp2
               go_ret
               exact ⟨r2_, bB_⟩
             ·rw [if_neg c48] at H
              have c48b0 : (t858 == 0) = false := beq_eq_false_iff_ne.mpr c48
              have c48b1 : (t858 != 0) = true := bne_iff_ne.mpr c48
              obtain rfl := Option.some.inj H
              obtain ⟨Ao79, co79, eo79⟩ := Kd.S_slice HO_8.out
              subst eo79
              have p856 : 0 ≤ (x14_3 : Int) := of_decide_eq_true aS_
              have q856 : x14_3 < (t840.length : Int) := of_decide_eq_true aS_
              obtain ⟨ad856, A856_0, c856_0, e856, hx856_0, hl856_0, hi856_0⟩ := at_L3 (Kd.S_reads' HO_8.out).2.2 x14_3 p856 q856
              cases e856
              obtain ⟨ce856, hce856, hMe856, hcc856⟩ := Kd.S_get HO_8.out [] x14_3 p856 (by first | exact q856 | exact of_decide_eq_true aS_ | (have e_ := (Kd.S_reads' HO_8.out).1; omega))
              obtain ⟨ve856_0, rfl, ge856_0⟩ := hMe856
              have hv856_0 := hcc856 0 _ rfl
              rw [Nat.add_zero, show ((Kd.slice 55 k55)).sz = 1 from rfl, Nat.mul_one] at hv856_0
              replace hv856_0 := Option.some.inj (hv856_0.symm.trans hx856_0)
              rw [hv856_0] at ge856_0
              have HL856_0 := Aside0.mk (show Kd.R k55 55 _ _ _ _ (rd_L3 t840 x14_3) from ge856_0)
              clear hv856_0 ge856_0
              clear hcc856 hce856
              have HR856_0 := Aside0.mk hi856_0
              have HC856_0 := Aside0.mk hl856_0
              clear hi856_0 hl856_0
              replace p856 := eq_true p856
              replace q856 := eq_true q856
              try go_wp2_with (first | ((with_reducible refine gate_callee (f := 27) rfl ?_); refine gL_ (some 97) Try.func27 #[.slice A856_0 (rd_L3 t840 x14_3).length c856_0] ?_; (with_reducible refine (impl_FreeForm.calls k3 _ _ (rd_L3 t840 x14_3) t857 t858 _ ?side1 ?side2 A47.out).mono ?_); (case side1 => exact cS_ (by repeat (first | (with_reducible exact HR856_0.out) | (with_reducible refine Kd.C_alloc ?_ _) | (with_reducible refine Kd.C_drewN ?_ _) | (with_reducible refine Kd.C_drew ?_) | exact HR856_0.out))); (case side2 => exact HC856_0.out); rintro e w80 ⟨v859, rfl, ho0, hb⟩; refine ⟨_, rfl, ?_⟩; replace HO_8 := Aside0.mk (Kd.S_elder' (sS_ HO_8.out) (Kd.R_base ho0) hb); have HO860 := Aside0.mk (Kd.R_lower (Kd.R_new' (Kd.R_new' ho0 (Kd.R_lt (rS_ HO_12.out))) (Kd.R_lt (rS_ HL856_0.out))) (below_size bB_)); replace HO_12 := Aside0.mk (Kd.R_elder' (rS_ HO_12.out) (Kd.R_base ho0) hb); replace HL856_0 := Aside0.mk (Kd.R_elder' (rS_ HL856_0.out) (Kd.R_base ho0) hb); replace HR856_0 := Aside0.mk (Kd.C_below (by repeat (first | (with_reducible exact HR856_0.out) | (with_reducible refine Kd.C_alloc ?_ _) | (with_reducible refine Kd.C_drewN ?_ _) | (with_reducible refine Kd.C_drew ?_) | exact HR856_0.out)) hb); replace HB := Aside0.mk (below_step bB_ hb); (try clear hb ho0)))
              replace HO_8 := Aside0.mk (Kd.S_drew HO_8.out)
              replace HO_12 := Aside0.mk (Kd.R_drew HO_12.out)
              replace HL856_0 := Aside0.mk (Kd.R_drew HL856_0.out)
              replace HO860 := Aside0.mk (Kd.R_drew HO860.out)
              replace HR856_0 := Aside0.mk (Kd.C_drew HR856_0.out)
              replace HB := Aside0.mk (below_drew1 HB.out)
              refine start_ (n := 25) (S := fun w' => True) (ds := []) #[F, F, F, F, F, F, F, F, F, F, F, F, F, F, F, F, F, F, F, F, F, F, F, F, F] (by kernel_rfl) rfl rfl trivial (fun hHeld => ?_); refine with_tabW laws_FnForms.tab19 laws_FnForms.bits19 (fun HT_ HW_ => ?_)
              generalize w80.drew = w81 at HO_8 HO_12 HL856_0 HO860 HR856_0 HB hHeld ⊢
              refine pu_ HT_ 0 (some 100) #[T,F,F,F,F,F,F,F,F,F,F,F,F,F,F,F,F,F,F,F,F,F,F,F,F] ?_
              refine pu_ HT_ 1 (some 101) #[T,T,F,F,F,F,F,F,F,F,F,F,F,F,F,F,F,F,F,F,F,F,F,F,F] ?_
              refine pu_ HT_ 2 (some 102) #[T,T,T,F,F,F,F,F,F,F,F,F,F,F,F,F,F,F,F,F,F,F,F,F,F] ?_
              refine pn_ HT_ 3 (some 103) #[T,T,T,T,F,F,F,F,F,F,F,F,F,F,F,F,F,F,F,F,F,F,F,F,F] ?_
              refine pn_ HT_ 4 (some 104) #[T,T,T,T,T,F,F,F,F,F,F,F,F,F,F,F,F,F,F,F,F,F,F,F,F] ?_
              refine pn_ HT_ 5 (some 105) #[T,T,T,T,T,T,F,F,F,F,F,F,F,F,F,F,F,F,F,F,F,F,F,F,F] ?_
              refine pn_ HT_ 6 (some 106) #[T,T,T,T,T,T,T,F,F,F,F,F,F,F,F,F,F,F,F,F,F,F,F,F,F] ?_
              refine pu_ HT_ 7 (some 107) #[T,T,T,T,T,T,T,T,F,F,F,F,F,F,F,F,F,F,F,F,F,F,F,F,F] ?_
              refine pu_ HT_ 8 (some 108) #[T,T,T,T,T,T,T,T,T,F,F,F,F,F,F,F,F,F,F,F,F,F,F,F,F] ?_
              refine pn_ HT_ 9 (some 109) #[T,T,T,T,T,T,T,T,T,T,F,F,F,F,F,F,F,F,F,F,F,F,F,F,F] ?_
              refine pn_ HT_ 10 (some 110) #[T,T,T,T,T,T,T,T,T,T,T,F,F,F,F,F,F,F,F,F,F,F,F,F,F] ?_
              refine pn_ HT_ 11 (some 111) #[T,T,T,T,T,T,T,T,T,T,T,T,F,F,F,F,F,F,F,F,F,F,F,F,F] ?_
              refine pn_ HT_ 12 (some 112) #[T,T,T,T,T,T,T,T,T,T,T,T,T,F,F,F,F,F,F,F,F,F,F,F,F] ?_
              refine pn_ HT_ 13 (some 113) #[T,T,T,T,T,T,T,T,T,T,T,T,T,T,F,F,F,F,F,F,F,F,F,F,F] ?_
              refine pn_ HT_ 14 (some 114) #[T,T,T,T,T,T,T,T,T,T,T,T,T,T,T,F,F,F,F,F,F,F,F,F,F] ?_
              refine pn_ HT_ 15 (some 115) #[T,T,T,T,T,T,T,T,T,T,T,T,T,T,T,T,F,F,F,F,F,F,F,F,F] ?_
              refine pn_ HT_ 16 (some 116) #[T,T,T,T,T,T,T,T,T,T,T,T,T,T,T,T,T,F,F,F,F,F,F,F,F] ?_
              refine pn_ HT_ 17 (some 117) #[T,T,T,T,T,T,T,T,T,T,T,T,T,T,T,T,T,T,F,F,F,F,F,F,F] ?_
              refine pn_ HT_ 18 (some 118) #[T,T,T,T,T,T,T,T,T,T,T,T,T,T,T,T,T,T,T,F,F,F,F,F,F] ?_
              refine pn_ HT_ 19 (some 119) #[T,T,T,T,T,T,T,T,T,T,T,T,T,T,T,T,T,T,T,T,F,F,F,F,F] ?_
              refine pn_ HT_ 20 (some 120) #[T,T,T,T,T,T,T,T,T,T,T,T,T,T,T,T,T,T,T,T,T,F,F,F,F] ?_
              refine pn_ HT_ 21 (some 121) #[T,T,T,T,T,T,T,T,T,T,T,T,T,T,T,T,T,T,T,T,T,T,F,F,F] ?_
              refine pn_ HT_ 22 (some 122) #[T,T,T,T,T,T,T,T,T,T,T,T,T,T,T,T,T,T,T,T,T,T,T,F,F] ?_
              refine pn_ HT_ 23 (some 123) #[T,T,T,T,T,T,T,T,T,T,T,T,T,T,T,T,T,T,T,T,T,T,T,T,F] ?_
              refine pu_ HT_ 24 (some 124) #[T,T,T,T,T,T,T,T,T,T,T,T,T,T,T,T,T,T,T,T,T,T,T,T,T] ?_
              refine done_ (done_of HT_.out (by kernel_rfl)) ?_
              try go_wp2
              go_ret
              exact ⟨r2_, bB_⟩
            ·rw [if_neg c46] at H
             exact absurd H (by simp)
           ·rw [if_neg c45] at H
            have c45b0 : decide (x14_3 < (t840.length : Int)) = false := decide_eq_false c45
            clear c45
            obtain rfl := Option.some.inj H
            obtain ⟨Ao82, co82, eo82⟩ := Kd.S_slice HO_8.out
            subst eo82
            go_wp2
            go_ret
            exact ⟨r2_, bB_⟩
     ·rw [if_neg c30] at H
      have c30b0 : (t833 == 0) = false := beq_eq_false_iff_ne.mpr c30
      have c30b1 : (t833 != 0) = true := bne_iff_ne.mpr c30
      obtain rfl := Option.some.inj H
      go_wp2
      go_ret
      exact ⟨r2_, bB_⟩

/-- THE ONE PURE STATEMENT of laws_FnForms: yours. -/
def laws_FnForms.Pure : Prop := ∀ (l0 : List Int), l0.length ≤ maxLen → l0.length * 1 ≤ 140737488351232 → (∀ x ∈ l0, (Lit.int .u8 x).wf = true) → ∃ k, laws_FnForms.f k l0 = some true
theorem laws_FnForms.walk (P : laws_FnForms.Pure) (a0 : Option Addr) (len0 cap0 : Nat) (z0 : List Int) (w : World) (w0 : (a0 = none ∧ len0 = 0 ∧ cap0 = 0 ∧ z0 = []) ∨ ∃ x, a0 = some x ∧ len0 ≤ cap0 ∧ cap0 ≤ maxLen ∧ z0.length = cap0 ∧ (∀ i, i < z0.length → w.cell? (x.add i) = some (.int .u8 (z0.getD i 0))) ∧ ∀ n ∈ z0, (Lit.int .u8 n).wf = true) (y0 : len0 * 1 ≤ 140737488351232) :
  Calls Try.prog 5 #[.slice a0 len0 cap0] w fun e w' => e = .returned (.bool true) ∧ Below w.heap.size w w' := by
 obtain ⟨l0, rfl, hr0, hm0, hw0, hc0⟩ := ReadsInt.ofRowC w0
 obtain ⟨k, h⟩ := P l0 hm0 y0 hw0
 refine (laws_FnForms.calls k _ _ l0 true w (Kd.C_of_reads (d := (0 : Int)) (h1 := fun _ => rfl) hr0) hc0 h).mono ?_
 rintro e w' ⟨rfl, hd⟩
 exact ⟨rfl, hd⟩

end Go.Proofs.Ytbkafaoehheioaa.X
