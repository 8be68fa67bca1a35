-- xprint.py
import Derived.Test.YtbkafaoehheioaaXx0
import Derived.Test.YtbkafaoehheioaaXx2
import Derived.Test.YtbkafaoehheioaaXx3
import Derived.Test.YtbkafaoehheioaaXx11
namespace Go.Proofs.Ytbkafaoehheioaa.X
open Go.RowKit Go.Proofs.YtbkafaoehheioaaW.PrintWords Go.Proofs.YtbkafaoehheioaaW.PrintLast Go.Proofs.YtbkafaoehheioaaW.PrintMore
attribute [local go_sem] max2_int min2_int max_two min_two max_three min_three max_four min_four   -- for this text's walks alone
set_option linter.unusedVariables false
set_option linter.unusedSimpArgs false

/-! ### spec_l03Forms: function 54 -/
def spec_l03Forms.l0 : Nat → List (S55) → Int → List (List (S55)) → Int → Option ((List (List (S55))))
 | 0, _, _, _, _ => none
 | k + 1, x0, x1, x5, x6 => if x6 < x1 then ((spec_l03Form.f k x0 x6).bind fun t615 => ((spec_l03Add.f k x5 t615).bind fun t618 => (spec_l03Forms.l0 k x0 x1 t618 (wrap64 (x6 + 1))))) else (some x5)
def spec_l03Forms.f (k : Nat) (l0 : List (S55)) (a1 : Int) : Option ((List (List (S55)))) := spec_l03Forms.l0 k l0 a1 (([] : List (List (S55)))) 0
theorem spec_l03Forms.mono_l : ∀ k, (∀ y0 y1 y2 y3, LeO (spec_l03Forms.l0 k y0 y1 y2 y3) (spec_l03Forms.l0 (k + 1) y0 y1 y2 y3))
 | 0 => fun _ _ _ _ r h => by simp [spec_l03Forms.l0] at h
 | k + 1 => by
  have ih0 := spec_l03Forms.mono_l k
  ·intro y0 y1 y2 y3
   unfold spec_l03Forms.l0
   repeat' first
   | (with_reducible exact ih0 _ _ _ _)
   | (with_reducible exact spec_l03Add.mono _ _ _)
   | (with_reducible exact spec_l03Form.mono _ _ _)
   | (with_reducible exact LeO.refl _)
   | (with_reducible exact LeO.none _)
   | (with_reducible refine LeO.ite ?_ ?_)
   | (with_reducible refine LeO.bind ?_ (fun _ => ?_))
   | exact ih0 _ _ _ _
   | exact spec_l03Add.mono _ _ _
   | exact spec_l03Form.mono _ _ _
   | exact LeO.none _
   | refine LeO.ite ?_ ?_
   | refine LeO.bind ?_ (fun _ => ?_)
theorem spec_l03Forms.mono : ∀ a0 a1 k, LeO (spec_l03Forms.f k a0 a1) (spec_l03Forms.f (k + 1) a0 a1) := by
 intro a0 a1 k
 have ih0 := spec_l03Forms.mono_l k
 unfold spec_l03Forms.f
 repeat' first
   | (with_reducible exact ih0 _ _ _ _)
   | (with_reducible exact spec_l03Add.mono _ _ _)
   | (with_reducible exact spec_l03Form.mono _ _ _)
   | (with_reducible exact LeO.refl _)
   | (with_reducible exact LeO.none _)
   | (with_reducible refine LeO.ite ?_ ?_)
   | (with_reducible refine LeO.bind ?_ (fun _ => ?_))
   | exact ih0 _ _ _ _
   | exact spec_l03Add.mono _ _ _
   | exact spec_l03Form.mono _ _ _
   | exact LeO.none _
   | refine LeO.ite ?_ ?_
   | refine LeO.bind ?_ (fun _ => ?_)
set_option maxHeartbeats 8000000 in
set_option maxRecDepth 100000 in
theorem spec_l03Forms.calls (k : Nat) (A0 : Option Addr) (c0 : Nat) (l0 : List (S55)) (a1 : Int) (r : List (List (S55))) (w : World) (hr0 : Kd.C k55 w A0 l0.length l0) (hc0 : l0.length ≤ c0) (h : spec_l03Forms.f k l0 a1 = some r) :
  Calls Try.prog 54 #[.slice A0 l0.length c0, .int .i64 a1] w fun e w' => ∃ v0_ : Value, e = .returned (v0_) ∧ Kd.V (Kd.slice 55 k55) 27 w' w.heap.size (fun k_ => (w.heap.size ≤ k_)) v0_ r ∧ Below w.heap.size w w' := by
 have HR0 := Aside0.mk hr0
 have HC0 := Aside0.mk hc0
 clear hr0 hc0
 have HB := Aside0.mk (Below.refl w.heap.size w)
 have H : (spec_l03Forms.l0 k l0 a1 (([] : List (List (S55)))) 0) = some r := h
 clear h
 obtain ⟨y612, hY_⟩ : ∃ y_ : List (List (S55)), y_ = (([] : List (List (S55)))) := ⟨_, rfl⟩
 replace H : (spec_l03Forms.l0 k l0 a1 y612 0) = some r := yY_
 have Ny612 := Aside0.mk hY_
 clear hY_
 have H' := Aside0.mk H
 clear H
 go_enter Try.func54, Try.ntmps54
 go_wp2_with (first | ((with_reducible refine gate_dst (N := 7) rfl ?_); refine Kd.S_lit (Kd.slice 55 k55) _ 27 ?hg (N := 7) ?hd (xs := ([] : List (List (S55)))) (inner := []) (ok := fun _ => True) (okp := fun _ => True) ?hr ?hp (fun _ hk => hk) trivial (Below.refl _ _) (Nat.le_refl _) (by simp) ?_; (case hd => rfl); (case hg => rfl); (case hr => first | (go_simp; done) | (go_simp; rfl)); (case hp => exact (Reps.none _ _)); intro v613 w3 ho4 hb hg_ hnew_; clear hg_ hnew_; (first | rw [← Ny612.out] at ho4 | (simp only [Int.reduceToNat] at ho4; rw [← Ny612.out] at ho4)); have HO614 := Aside0.mk (Kd.S_lower (Kd.S_newM (M := fun k_ => (w.heap.size ≤ k_)) ho4 (below_size bB_) (fun k_ h_ => h_)) (below_size bB_)); replace HB := Aside0.mk (below_step bB_ hb); clear hb ho4))
 go_loopg [5, 6] k (fun kq v5 v6 w' => ∃ (x5_1 : List (List (S55))) (x6_1 : Int), v6 = .int .i64 x6_1 ∧ Aside0 (spec_l03Forms.l0 kq l0 a1 x5_1 x6_1 = some r) ∧ Aside0 (kq ≤ k) ∧ Aside0 (Kd.V (Kd.slice 55 k55) 27 w' w.heap.size (fun k_ => (w.heap.size ≤ k_)) v5 x5_1) ∧ Aside0 (Below w.heap.size w w'))
 case atStart => exact ⟨(y612), (0), r3_, H', ⟨Nat.le_refl _⟩, ⟨Kd.S_V (sS_ (Kd.S_mono HO614.out (fun _ hk => hk.1)))⟩, ⟨bB_⟩⟩
 case round =>
  clear H'
  try clear p2
  obtain ⟨x5_1, x6_1, rfl, HA, HK1, HO_5, HB⟩ := hrel
  cases gk with
  | zero => exact absurd HA.out (by simp [spec_l03Forms.l0])
  | succ k1 =>
   have H := HA.out
   clear HA
   simp only [spec_l03Forms.l0] at H
   by_cases c5 : x6_1 < a1
   ·rw [if_pos c5] at H
    have c5b0 : decide (x6_1 < a1) = true := decide_eq_true c5
    clear c5
    replace H := Option.bind_eq_some_iff.mp H
    obtain ⟨t615, A60, H⟩ := H
    try dsimp only at H
    have A6 := Aside0.mk A60
    clear A60
    replace H := Option.bind_eq_some_iff.mp H
    obtain ⟨t618, A70, H⟩ := H
    try dsimp only at H
    have A7 := Aside0.mk A70
    clear A70
    have H' := Aside0.mk H
    clear H
    go_wp2_with (first | ((with_reducible refine gate_callee (f := 62) rfl ?_); refine gL_ (some 16) Try.func62 #[.slice A0 l0.length c0, .int .i64 x6_1] ?_; (with_reducible refine (spec_l03Form.calls k1 _ _ l0 x6_1 t615 _ ?side1 ?side2 A6.out).mono ?_); (case side1 => exact cS_ (Kd.C_below HR0.out HB.out)); (case side2 => exact HC0.out); rintro e w8 ⟨v616, rfl, ho0, hb⟩; refine ⟨_, rfl, ?_⟩; replace HO_5 := Aside0.mk (Kd.V_elder' (by (with_reducible repeat (first | apply Kd.V_alloc | apply Kd.V_drewN | apply Kd.V_drew)); exact HO_5.out) (Kd.R_base ho0) hb); have HO617 := Aside0.mk (Kd.R_lower (Kd.R_newM (M := fun k_ => (w.heap.size ≤ k_)) ho0 (below_size bB_) (fun k_ h_ => h_)) (below_size bB_)); replace HB := Aside0.mk (below_step bB_ hb); (try clear hb ho0); obtain ⟨Ao9, co9, eo9⟩ := Kd.V_slice HO_5.out; subst eo9; obtain ⟨Ao10, co10, eo10⟩ := Kd.R_slice HO617.out; subst eo10) | ((with_reducible refine gate_callee (f := 78) rfl ?_); refine gL_ (some 17) Try.func78 #[.slice Ao9 x5_1.length co9, .slice Ao10 t615.length co10] ?_; (with_reducible refine (spec_l03Add.calls k1 (fun k_ => ((w.heap.size ≤ k_) ∧ some k_ ≠ (.slice Ao10 t615.length co10 : Value).ownBlock)) _ _ x5_1 (fun k_ => some k_ = (.slice Ao10 t615.length co10 : Value).ownBlock) _ _ t615 t618 _ ?side1 ?side2 A7.out).mono ?_); (case side1 => exact HO_5.out); (case side2 => exact Kd.R_V (Kd.R_tight rfl (HO617.out))); rintro e w11 ⟨v619, rfl, ho0, hb⟩; refine ⟨_, rfl, ?_⟩; replace HO_5 := Aside0.mk (Kd.V_below (by (with_reducible repeat (first | apply Kd.V_alloc | apply Kd.V_drewN | apply Kd.V_drew)); exact HO_5.out) hb); have HO620 := Aside0.mk (Kd.V_lower (Kd.V_mono (ok' := fun k_ => (w.heap.size ≤ k_)) ho0 (fun k_ hk_ => Or.elim hk_ (fun hs_ => Or.elim hs_ (fun hs_ => hs_.1) (fun hs_ => ((HO617.out).1 k_ hs_.symm).1)) (fun hn_ => (Nat.le_trans (below_size bB_) hn_)))) (below_size bB_)); replace HO617 := Aside0.mk (Kd.R_below (rS_ HO617.out) hb); replace HB := Aside0.mk (below_step bB_ hb); (try clear hb ho0)))
    go_roundg k1
    case measure => have := HK1.out; omega
    case rel => exact ⟨(t618), (wrap64 (x6_1 + 1)), r3_, H', ⟨by have := HK1.out; omega⟩, ⟨by (with_reducible repeat (first | apply Kd.V_alloc | apply Kd.V_drewN | apply Kd.V_drew)); exact HO620.out⟩, ⟨bB_⟩⟩
   ·rw [if_neg c5] at H
    have c5b0 : decide (x6_1 < a1) = false := decide_eq_false c5
    clear c5
    obtain rfl := Option.some.inj H
    go_wp2
    go_ret
    exact ⟨_, r2_, by (with_reducible repeat (first | apply Kd.V_alloc | apply Kd.V_drewN | apply Kd.V_drew)); exact HO_5.out, bB_⟩

/-! ### spec_l02DrawPoly: function 95 -/
def spec_l02DrawPoly.l0 : Nat → List (S55) → Int → List Int → Int → Int → Option ((List (S55)) × Int × Int)
 | 0, _, _, _, _, _ => none
 | k + 1, x5, x6, x1000, x1001, x1002 => if x6 > 0 then ((spec_l02Neighbours.f k x5).bind fun t707 => ((spec_l01Next.f x1000 x1001 x1002 (t707.length : Int)).bind fun bt710 => (if 0 ≤ bt710.1 then (if bt710.1 < (t707.length : Int) then ((spec_l02Insert.f k x5 ((rd_T55 t707 bt710.1).f0) ((rd_T55 t707 bt710.1).f1)).bind fun t714 => (spec_l02DrawPoly.l0 k t714 (wrap64 (x6 - 1)) x1000 bt710.2.1 bt710.2.2)) else (none)) else (none)))) else ((spec_l02Normal.f k x5).bind fun t717 => (some (t717, x1001, x1002)))
def spec_l02DrawPoly.f (k : Nat) (s0_0 : List Int) (s0_1 : Int) (s0_2 : Int) (a1 : Int) : Option ((List (S55)) × Int × Int) := (spec_l01Next.f s0_0 s0_1 s0_2 a1).bind fun bt704 => (spec_l02DrawPoly.l0 k (([(⟨0, 0⟩ : S55)] : List (S55))) bt704.1 s0_0 bt704.2.1 bt704.2.2)
theorem spec_l02DrawPoly.mono_l : ∀ k, (∀ y0 y1 y2 y3 y4, LeO (spec_l02DrawPoly.l0 k y0 y1 y2 y3 y4) (spec_l02DrawPoly.l0 (k + 1) y0 y1 y2 y3 y4))
 | 0 => fun _ _ _ _ _ r h => by simp [spec_l02DrawPoly.l0] at h
 | k + 1 => by
  have ih0 := spec_l02DrawPoly.mono_l k
  ·intro y0 y1 y2 y3 y4
   unfold spec_l02DrawPoly.l0
   repeat' first
   | (with_reducible exact ih0 _ _ _ _ _)
   | (with_reducible exact spec_l02Insert.mono _ _ _ _)
   | (with_reducible exact spec_l02Neighbours.mono _ _)
   | (with_reducible exact spec_l02Normal.mono _ _)
   | (with_reducible exact LeO.refl _)
   | (with_reducible exact LeO.none _)
   | (with_reducible refine LeO.ite ?_ ?_)
   | (with_reducible refine LeO.bind ?_ (fun _ => ?_))
   | exact ih0 _ _ _ _ _
   | exact spec_l02Insert.mono _ _ _ _
   | exact spec_l02Neighbours.mono _ _
   | exact spec_l02Normal.mono _ _
   | exact LeO.none _
   | refine LeO.ite ?_ ?_
   | refine LeO.bind ?_ (fun _ => ?_)
theorem spec_l02DrawPoly.mono : ∀ a0 a1 a2 a3 k, LeO (spec_l02DrawPoly.f k a0 a1 a2 a3) (spec_l02DrawPoly.f (k + 1) a0 a1 a2 a3) := by
 intro a0 a1 a2 a3 k
 have ih0 := spec_l02DrawPoly.mono_l k
 unfold spec_l02DrawPoly.f
 repeat' first
   | (with_reducible exact ih0 _ _ _ _ _)
   | (with_reducible exact spec_l02Insert.mono _ _ _ _)
   | (with_reducible exact spec_l02Neighbours.mono _ _)
   | (with_reducible exact spec_l02Normal.mono _ _)
   | (with_reducible exact LeO.refl _)
   | (with_reducible exact LeO.none _)
   | (with_reducible refine LeO.ite ?_ ?_)
   | (with_reducible refine LeO.bind ?_ (fun _ => ?_))
   | exact ih0 _ _ _ _ _
   | exact spec_l02Insert.mono _ _ _ _
   | exact spec_l02Neighbours.mono _ _
   | exact spec_l02Normal.mono _ _
   | exact LeO.none _
   | refine LeO.ite ?_ ?_
   | refine LeO.bind ?_ (fun _ => ?_)
set_option maxHeartbeats 8000000 in
set_option maxRecDepth 100000 in
theorem spec_l02DrawPoly.calls (k : Nat) (g : Nat) (s0_0 : List Int) (s0_1 : Int) (s0_2 : Int) (a1 : Int) (r1 : List (S55)) (r2 : Int) (r3 : Int) (w0 w : World) (hI : IsS94 w0 w g s0_0 s0_1 s0_2) (hB : Below w0.heap.size w0 w) (h : spec_l02DrawPoly.f k s0_0 s0_1 s0_2 a1 = some (r1, r2, r3)) :
  Calls Try.prog 95 #[.pointer (some ⟨g, 0, none⟩), .int .i64 a1] w fun e w' => ∃ v0_ : Value, e = .returned (v0_) ∧ Kd.R k55 55 w' w.heap.size (fun _ => True) v0_ r1 ∧ IsS94 w0 w' g s0_0 r2 r3 ∧ Below w0.heap.size w0 w' ∧ KeepBut w w' g none := by
 have hu55 := Try.underlying55
 have HI0 := Aside0.mk hI
 have HK := Aside0.mk (KeepBut.refl w g none)
 have HL := Aside0.mk hB.size
 clear hI
 have HW0 := Aside0.mk hB.size
 have HB := Aside0.mk hB
 clear hB
 have H : ((spec_l01Next.f s0_0 s0_1 s0_2 a1).bind fun bt704 => (spec_l02DrawPoly.l0 k (([(⟨0, 0⟩ : S55)] : List (S55))) bt704.1 s0_0 bt704.2.1 bt704.2.2)) = some (r1, r2, r3) := h
 clear h
 obtain ⟨y701, hY_⟩ : ∃ y_ : List (S55), y_ = (([(⟨0, 0⟩ : S55)] : List (S55))) := ⟨_, rfl⟩
 replace H : ((spec_l01Next.f s0_0 s0_1 s0_2 a1).bind fun bt704 => (spec_l02DrawPoly.l0 k y701 bt704.1 s0_0 bt704.2.1 bt704.2.2)) = some (r1, r2, r3) := yY_
 have Ny701 := Aside0.mk hY_
 clear hY_
 replace H := Option.bind_eq_some_iff.mp H
 obtain ⟨⟨t704, t705, t706⟩, A30, H⟩ := H
 try dsimp only at H
 have A3 := Aside0.mk A30
 clear A30
 have H' := Aside0.mk H
 clear H
 go_enter Try.func95, Try.ntmps95
 go_wp2_with (first | ((with_reducible refine gate_dst (N := 9) rfl ?_); refine Kd.R_lit k55 _ 55 ?hg (N := 9) ?hd (xs := ([(⟨0, 0⟩ : S55)] : List (S55))) (inner := [.int .i64 0, .int .i64 0]) (ok := fun _ => True) (okp := fun _ => True) ?hr ?hp (fun _ hk => hk) trivial (Below.refl _ _) (Nat.le_refl _) (by simp) ?_; (case hd => rfl); (case hg => rfl); (case hr => first | (go_simp; done) | (go_simp; rfl)); (case hp => exact (Reps.c2 (show Kd.M k55 _ _ _ (⟨0, 0⟩ : S55) [.int .i64 0, .int .i64 0] from (k55_mkM _ _ _ (⟨0, 0⟩ : S55) )) (Reps.none _ _))); intro v702 w4 ho5 hb hg_ hnew_; clear hg_ hnew_; (first | rw [← Ny701.out] at ho5 | (simp only [Int.reduceToNat] at ho5; rw [← Ny701.out] at ho5)); have HO703 := Aside0.mk (Kd.R_lower ho5 (keep_size (w := w) (g := g) (row := none) kK_)); replace HK := Aside0.mk (KeepBut.trans kK_ (KeepBut.of_below hb g none) (.inl rfl)); replace HB := Aside0.mk (below_step bS94_ hb); replace HI0 := Aside0.mk (IsS94.below iS94_ hb); clear hb ho5) | ((with_reducible refine gate_callee (f := 93) rfl ?_); refine gL_ (some 12) Try.func93 #[.pointer (some ⟨g, 0, none⟩), .int .i64 a1] ?_; (with_reducible refine (spec_l01Next.calls g s0_0 s0_1 s0_2 a1 t704 t705 t706 w0 _ ?side1 ?side2 A3.out).mono ?_); (case side1 => exact iS94_); (case side2 => exact bS94_); rintro e w6 ⟨rfl, hi, hb, hk⟩; refine ⟨_, rfl, ?_⟩; replace HO703 := Aside0.mk (Kd.R_mono (Kd.R_keep (IsS94.apart (show IsS94 w0 _ g s0_0 s0_1 s0_2 from iS94_) (rS_ HO703.out) (by decide)) hk (fun _ h => h.2)) (fun _ h => h.1)); replace HK := Aside0.mk (KeepBut.trans kK_ hk (.inl rfl)); replace HB := Aside0.mk (hb); replace HI0 := Aside0.mk (hi); (try clear hb hk hi)))
 go_loopg [5, 6] k (fun kq v5 v6 w' => ∃ (x5_1 : List (S55)) (x6_1 : Int) (x1001_1 : Int) (x1002_1 : Int), v6 = .int .i64 x6_1 ∧ Aside0 (spec_l02DrawPoly.l0 kq x5_1 x6_1 s0_0 x1001_1 x1002_1 = some (r1, r2, r3)) ∧ Aside0 (kq ≤ k) ∧ Aside0 (Kd.R k55 55 w' w.heap.size (fun _ => True) v5 x5_1) ∧ Aside0 (IsS94 w0 w' g s0_0 x1001_1 x1002_1) ∧ Aside0 (KeepBut w w' g none) ∧ Aside0 (Below w0.heap.size w0 w'))
 case atStart => exact ⟨(y701), (t704), (t705), (t706), r3_, H', ⟨Nat.le_refl _⟩, ⟨rS_ HO703.out⟩, ⟨iS94_⟩, ⟨kK_⟩, ⟨bS94_⟩⟩
 case round =>
  clear H'
  try clear c2
  try clear p2
  obtain ⟨x5_1, x6_1, x1001_1, x1002_1, rfl, HA, HK1, HO_5, HI0, HK, HB⟩ := hrel
  cases gk with
  | zero => exact absurd HA.out (by simp [spec_l02DrawPoly.l0])
  | succ k1 =>
   have H := HA.out
   clear HA
   simp only [spec_l02DrawPoly.l0] at H
   by_cases c7 : x6_1 > 0
   ·rw [if_pos c7] at H
    have c7b0 : decide (0 < x6_1) = true := decide_eq_true c7
    clear c7
    replace H := Option.bind_eq_some_iff.mp H
    obtain ⟨t707, A80, H⟩ := H
    try dsimp only at H
    have A8 := Aside0.mk A80
    clear A80
    replace H := Option.bind_eq_some_iff.mp H
    obtain ⟨⟨t710, t711, t712⟩, A90, H⟩ := H
    try dsimp only at H
    have A9 := Aside0.mk A90
    clear A90
    by_cases c10 : 0 ≤ t710
    ·rw [if_pos c10] at H
     have c10b0 : decide (0 ≤ t710) = true := decide_eq_true c10
     clear c10
     by_cases c11 : t710 < (t707.length : Int)
     ·rw [if_pos c11] at H
      have c11b0 : decide (t710 < (t707.length : Int)) = true := decide_eq_true c11
      clear c11
      replace H := Option.bind_eq_some_iff.mp H
      obtain ⟨t714, A120, H⟩ := H
      try dsimp only at H
      have A12 := Aside0.mk A120
      clear A120
      have H' := Aside0.mk H
      clear H
      obtain ⟨Ao13, co13, eo13⟩ := Kd.R_slice HO_5.out
      subst eo13
      go_wp2_with (first | ((with_reducible refine gate_callee (f := 77) rfl ?_); refine gL_ (some 18) Try.func77 #[.slice Ao13 x5_1.length co13] ?_; (with_reducible refine (spec_l02Neighbours.calls k1 _ _ x5_1 t707 _ ?side1 ?side2 A8.out).mono ?_); (case side1 => exact cS_ ((Kd.R_reads' HO_5.out).2.2)); (case side2 => exact (Kd.R_reads' HO_5.out).2.1); rintro e w14 ⟨v708, rfl, ho0, hb⟩; refine ⟨_, rfl, ?_⟩; have HO709 := Aside0.mk (Kd.R_lower (Kd.R_new' ho0 (Kd.R_lt (rS_ HO_5.out))) (keep_size (w := w) (g := g) (row := none) kK_)); replace HO_5 := Aside0.mk (Kd.R_elder' (rS_ HO_5.out) (Kd.R_base ho0) hb); replace HK := Aside0.mk (KeepBut.trans kK_ (KeepBut.of_below hb g none) (.inl rfl)); replace HB := Aside0.mk (below_step bS94_ hb); replace HI0 := Aside0.mk (IsS94.below iS94_ hb); (try clear hb ho0); obtain ⟨Ao15, co15, eo15⟩ := Kd.R_slice HO709.out; subst eo15) | ((with_reducible refine gate_callee (f := 93) rfl ?_); refine gL_ (some 24) Try.func93 #[.pointer (some ⟨g, 0, none⟩), .int .i64 (t707.length : Int)] ?_; (with_reducible refine (spec_l01Next.calls g s0_0 x1001_1 x1002_1 (t707.length : Int) t710 t711 t712 w0 _ ?side1 ?side2 A9.out).mono ?_); (case side1 => exact iS94_); (case side2 => exact bS94_); rintro e w16 ⟨rfl, hi, hb, hk⟩; refine ⟨_, rfl, ?_⟩; replace HO_5 := Aside0.mk (Kd.R_mono (Kd.R_keep (IsS94.apart (show IsS94 w0 _ g s0_0 x1001_1 x1002_1 from iS94_) (rS_ HO_5.out) (by decide)) hk (fun _ h => h.2)) (fun _ h => h.1)); replace HO709 := Aside0.mk (Kd.R_mono (Kd.R_keep (IsS94.apart (show IsS94 w0 _ g s0_0 x1001_1 x1002_1 from iS94_) (rS_ HO709.out) (by decide)) hk (fun _ h => h.2)) (fun _ h => h.1)); replace HK := Aside0.mk (KeepBut.trans kK_ hk (.inl rfl)); replace HB := Aside0.mk (hb); replace HI0 := Aside0.mk (hi); (try clear hb hk hi); have p713 : 0 ≤ (t710 : Int) := of_decide_eq_true aS_; have q713 : t710 < (t707.length : Int) := of_decide_eq_true aS_; obtain ⟨ad713, e713, hx713_0, hx713_1⟩ := at_T55 (Kd.R_reads' HO709.out).2.2 t710 p713 q713; cases e713; replace p713 := eq_true p713; replace q713 := eq_true q713) | ((with_reducible refine gate_callee (f := 79) rfl ?_); refine gL_ (some 27) Try.func79 #[.slice Ao13 x5_1.length co13, .agg #[.int .i64 ((rd_T55 t707 t710).f0), .int .i64 ((rd_T55 t707 t710).f1)]] ?_; (with_reducible refine (spec_l02Insert.calls k1 _ _ x5_1 ((rd_T55 t707 t710).f0) ((rd_T55 t707 t710).f1) t714 _ ?side1 ?side2 A12.out).mono ?_); (case side1 => exact cS_ ((Kd.R_reads' HO_5.out).2.2)); (case side2 => exact (Kd.R_reads' HO_5.out).2.1); rintro e w17 ⟨v715, rfl, ho0, hb⟩; refine ⟨_, rfl, ?_⟩; have HO716 := Aside0.mk (Kd.R_lower (Kd.R_new' (Kd.R_new' ho0 (Kd.R_lt (rS_ HO_5.out))) (Kd.R_lt (rS_ HO709.out))) (keep_size (w := w) (g := g) (row := none) kK_)); replace HO_5 := Aside0.mk (Kd.R_elder' (rS_ HO_5.out) (Kd.R_base ho0) hb); replace HO709 := Aside0.mk (Kd.R_elder' (rS_ HO709.out) (Kd.R_base ho0) hb); replace HK := Aside0.mk (KeepBut.trans kK_ (KeepBut.of_below hb g none) (.inl rfl)); replace HB := Aside0.mk (below_step bS94_ hb); replace HI0 := Aside0.mk (IsS94.below iS94_ hb); (try clear hb ho0)))
      go_roundg k1
      case measure => have := HK1.out; omega
      case rel => exact ⟨(t714), (wrap64 (x6_1 - 1)), (t711), (t712), r3_, H', ⟨by have := HK1.out; omega⟩, ⟨rS_ (Kd.R_mono HO716.out (fun _ hk => trivial))⟩, ⟨iS94_⟩, ⟨kK_⟩, ⟨bS94_⟩⟩
     ·rw [if_neg c11] at H
      exact absurd H (by simp)
    ·rw [if_neg c10] at H
     exact absurd H (by simp)
   ·rw [if_neg c7] at H
    have c7b0 : decide (0 < x6_1) = false := decide_eq_false c7
    clear c7
    replace H := Option.bind_eq_some_iff.mp H
    obtain ⟨t717, A180, H⟩ := H
    try dsimp only at H
    have A18 := Aside0.mk A180
    clear A180
    simp only [Option.some.injEq, Prod.mk.injEq] at H
    obtain ⟨rfl, rfl, rfl⟩ := H
    obtain ⟨Ao19, co19, eo19⟩ := Kd.R_slice HO_5.out
    subst eo19
    go_wp2_with (first | ((with_reducible refine gate_callee (f := 73) rfl ?_); refine gL_ (some 29) Try.func73 #[.slice Ao19 x5_1.length co19] ?_; (with_reducible refine (spec_l02Normal.calls k1 _ _ x5_1 t717 _ ?side1 ?side2 A18.out).mono ?_); (case side1 => exact cS_ ((Kd.R_reads' HO_5.out).2.2)); (case side2 => exact (Kd.R_reads' HO_5.out).2.1); rintro e w20 ⟨v718, rfl, ho0, hb⟩; refine ⟨_, rfl, ?_⟩; have HO719 := Aside0.mk (Kd.R_lower (Kd.R_new' ho0 (Kd.R_lt (rS_ HO_5.out))) (keep_size (w := w) (g := g) (row := none) kK_)); replace HO_5 := Aside0.mk (Kd.R_elder' (rS_ HO_5.out) (Kd.R_base ho0) hb); replace HK := Aside0.mk (KeepBut.trans kK_ (KeepBut.of_below hb g none) (.inl rfl)); replace HB := Aside0.mk (below_step bS94_ hb); replace HI0 := Aside0.mk (IsS94.below iS94_ hb); (try clear hb ho0)))
    go_ret
    exact ⟨_, r2_, rS_ (Kd.R_mono HO719.out (fun _ hk => trivial)), iS94_, bS94_, kK_⟩

/-! ### spec_l02Draw: function 94 -/
def spec_l02Draw.l0 : Nat → List (S55) → Int → List Int → Int → Int → Option ((List (S55)) × Int × Int)
 | 0, _, _, _, _, _ => none
 | k + 1, x5, x6, x1000, x1001, x1002 => (spec_l01Next.f x1000 x1001 x1002 2).bind fun bt758 => (if x6 < (wrap64 (40 + bt758.1)) then (if x5.length < 8796093022208 then (spec_l02Draw.l0 k (x5 ++ [(⟨x6, 0⟩ : S55)]) (wrap64 (x6 + 1)) x1000 bt758.2.1 bt758.2.2) else (none)) else (some (x5, bt758.2.1, bt758.2.2)))
def spec_l02Draw.f (k : Nat) (s0_0 : List Int) (s0_1 : Int) (s0_2 : Int) : Option ((List (S55)) × Int × Int) := (spec_l02DrawPoly.f k s0_0 s0_1 s0_2 8).bind fun bt720 => ((spec_l01Next.f s0_0 bt720.2.1 bt720.2.2 9).bind fun bt725 => ((spec_l01Next.f s0_0 bt725.2.1 bt725.2.2 9).bind fun bt728 => ((spec_l02Move.f k bt720.1 (wrap64 (bt725.1 - 4)) (wrap64 (bt728.1 - 4))).bind fun t731 => ((spec_l01Next.f s0_0 bt728.2.1 bt728.2.2 (t731.length : Int)).bind fun bt734 => ((spec_l01Next.f s0_0 bt734.2.1 bt734.2.2 24).bind fun bt737 => (if bt737.1 = 0 then ((some (([(-100), 100, 101] : List Int) : List Int)).bind fun y740 => ((spec_l01Next.f s0_0 bt737.2.1 bt737.2.2 3).bind fun bt743 => (if 0 ≤ bt743.1 then (if bt743.1 < (y740.length : Int) then (if 0 ≤ bt734.1 then (if bt734.1 < (t731.length : Int) then ((spec_l02Sort.f k (t731.set (bt734.1 : Int).toNat (⟨rd y740 bt743.1, (rd_T55 t731 bt734.1).f1⟩ : S55))).bind fun t748 => (some (t748, bt743.2.1, bt743.2.2))) else (none)) else (none)) else (none)) else (none)))) else (if bt737.1 = 1 then (if 0 ≤ bt734.1 then (if bt734.1 < (t731.length : Int) then (if t731.length < 8796093022208 then (some ((t731 ++ [(⟨(rd_T55 t731 bt734.1).f0, (rd_T55 t731 bt734.1).f1⟩ : S55)]), bt737.2.1, bt737.2.2)) else (none)) else (none)) else (none)) else (if bt737.1 = 2 then (some (([] : List (S55)), bt737.2.1, bt737.2.2)) else (if bt737.1 = 3 then (spec_l02Draw.l0 k (([] : List (S55))) 0 s0_0 bt737.2.1 bt737.2.2) else (if bt737.1 = 4 then (if 0 < (t731.length : Int) then (if 0 ≤ (wrap64 ((t731.length : Int) - 1)) then (if (wrap64 ((t731.length : Int) - 1)) < (t731.length : Int) then (if t731.length < 8796093022208 then (some ((t731 ++ [(⟨wrap64 (((rd_T55 t731 0).f0) + 3), wrap64 (((rd_T55 t731 (wrap64 ((t731.length : Int) - 1))).f1) + 2)⟩ : S55)]), bt737.2.1, bt737.2.2)) else (none)) else (none)) else (none)) else (none)) else (if bt737.1 = 5 then (if 0 < (t731.length : Int) then (if 0 ≤ (wrap64 ((t731.length : Int) - 1)) then (if (wrap64 ((t731.length : Int) - 1)) < (t731.length : Int) then (if t731.length < 8796093022208 then (some ((t731 ++ [(⟨wrap64 (((rd_T55 t731 0).f0) + 3), wrap64 (((rd_T55 t731 (wrap64 ((t731.length : Int) - 1))).f1) + 2)⟩ : S55)]), bt737.2.1, bt737.2.2)) else (none)) else (none)) else (none)) else (none)) else (some (t731, bt737.2.1, bt737.2.2)))))))))))))
theorem spec_l02Draw.mono_l : ∀ k, (∀ y0 y1 y2 y3 y4, LeO (spec_l02Draw.l0 k y0 y1 y2 y3 y4) (spec_l02Draw.l0 (k + 1) y0 y1 y2 y3 y4))
 | 0 => fun _ _ _ _ _ r h => by simp [spec_l02Draw.l0] at h
 | k + 1 => by
  have ih0 := spec_l02Draw.mono_l k
  ·intro y0 y1 y2 y3 y4
   unfold spec_l02Draw.l0
   repeat' first
   | (with_reducible exact ih0 _ _ _ _ _)
   | (with_reducible exact spec_l02DrawPoly.mono _ _ _ _ _)
   | (with_reducible exact spec_l02Move.mono _ _ _ _)
   | (with_reducible exact spec_l02Sort.mono _ _)
   | (with_reducible exact LeO.refl _)
   | (with_reducible exact LeO.none _)
   | (with_reducible refine LeO.ite ?_ ?_)
   | (with_reducible refine LeO.bind ?_ (fun _ => ?_))
   | exact ih0 _ _ _ _ _
   | exact spec_l02DrawPoly.mono _ _ _ _ _
   | exact spec_l02Move.mono _ _ _ _
   | exact spec_l02Sort.mono _ _
   | exact LeO.none _
   | refine LeO.ite ?_ ?_
   | refine LeO.bind ?_ (fun _ => ?_)
theorem spec_l02Draw.mono : ∀ a0 a1 a2 k, LeO (spec_l02Draw.f k a0 a1 a2) (spec_l02Draw.f (k + 1) a0 a1 a2) := by
 intro a0 a1 a2 k
 have ih0 := spec_l02Draw.mono_l k
 unfold spec_l02Draw.f
 repeat' first
   | (with_reducible exact ih0 _ _ _ _ _)
   | (with_reducible exact spec_l02DrawPoly.mono _ _ _ _ _)
   | (with_reducible exact spec_l02Move.mono _ _ _ _)
   | (with_reducible exact spec_l02Sort.mono _ _)
   | (with_reducible exact LeO.refl _)
   | (with_reducible exact LeO.none _)
   | (with_reducible refine LeO.ite ?_ ?_)
   | (with_reducible refine LeO.bind ?_ (fun _ => ?_))
   | exact ih0 _ _ _ _ _
   | exact spec_l02DrawPoly.mono _ _ _ _ _
   | exact spec_l02Move.mono _ _ _ _
   | exact spec_l02Sort.mono _ _
   | exact LeO.none _
   | refine LeO.ite ?_ ?_
   | refine LeO.bind ?_ (fun _ => ?_)
def spec_l02Draw.T20 : Bool × List (List Nat × List Nat) := (true, [([], []), ([], []), ([1], [1]), ([2], [2]), ([3], [3]), ([4], [4]), ([], []), ([], []), ([7], [7]), ([8], [8]), ([6, 9], [6, 9]), ([10], [10]), ([11], [11]), ([12], [12]), ([5, 13], [5, 13]), ([14], [14]), ([0, 15], [0, 15]), ([16, 16, 0, 1, 2, 3, 4, 5, 6, 7, 8, 9, 10, 11, 12, 13, 14, 15, 16], [16])])
def spec_l02Draw.B20 : List Nat := [0, 0, 2, 6, 14, 30, 0, 0, 128, 384, 960, 1984, 4032, 8128, 16382, 32766, 65535, 131071]
theorem spec_l02Draw.tab20 : rtab .any (opsOf Try.f94 20) = spec_l02Draw.T20 := by kernel_rfl
theorem spec_l02Draw.bits20 : waitsOk spec_l02Draw.T20.2 spec_l02Draw.B20 = true := by kernel_rfl
set_option maxHeartbeats 8000000 in
set_option maxRecDepth 100000 in
theorem spec_l02Draw.calls (k : Nat) (g : Nat) (s0_0 : List Int) (s0_1 : Int) (s0_2 : Int) (r1 : List (S55)) (r2 : Int) (r3 : Int) (w0 w : World) (hI : IsS94 w0 w g s0_0 s0_1 s0_2) (hB : Below w0.heap.size w0 w) (h : spec_l02Draw.f k s0_0 s0_1 s0_2 = some (r1, r2, r3)) :
  Calls Try.prog 94 #[.pointer (some ⟨g, 0, none⟩)] w fun e w' => ∃ v0_ : Value, e = .returned (v0_) ∧ Kd.R k55 55 w' w.heap.size (fun _ => True) v0_ r1 ∧ IsS94 w0 w' g s0_0 r2 r3 ∧ Below w0.heap.size w0 w' ∧ KeepBut w w' g none := by
 have hu55 := Try.underlying55
 have HI0 := Aside0.mk hI
 have HK := Aside0.mk (KeepBut.refl w g none)
 have HL := Aside0.mk hB.size
 clear hI
 have HW0 := Aside0.mk hB.size
 have HB := Aside0.mk hB
 clear hB
 have H : ((spec_l02DrawPoly.f k s0_0 s0_1 s0_2 8).bind fun bt720 => ((spec_l01Next.f s0_0 bt720.2.1 bt720.2.2 9).bind fun bt725 => ((spec_l01Next.f s0_0 bt725.2.1 bt725.2.2 9).bind fun bt728 => ((spec_l02Move.f k bt720.1 (wrap64 (bt725.1 - 4)) (wrap64 (bt728.1 - 4))).bind fun t731 => ((spec_l01Next.f s0_0 bt728.2.1 bt728.2.2 (t731.length : Int)).bind fun bt734 => ((spec_l01Next.f s0_0 bt734.2.1 bt734.2.2 24).bind fun bt737 => (if bt737.1 = 0 then ((some (([(-100), 100, 101] : List Int) : List Int)).bind fun y740 => ((spec_l01Next.f s0_0 bt737.2.1 bt737.2.2 3).bind fun bt743 => (if 0 ≤ bt743.1 then (if bt743.1 < (y740.length : Int) then (if 0 ≤ bt734.1 then (if bt734.1 < (t731.length : Int) then ((spec_l02Sort.f k (t731.set (bt734.1 : Int).toNat (⟨rd y740 bt743.1, (rd_T55 t731 bt734.1).f1⟩ : S55))).bind fun t748 => (some (t748, bt743.2.1, bt743.2.2))) else (none)) else (none)) else (none)) else (none)))) else (if bt737.1 = 1 then (if 0 ≤ bt734.1 then (if bt734.1 < (t731.length : Int) then (if t731.length < 8796093022208 then (some ((t731 ++ [(⟨(rd_T55 t731 bt734.1).f0, (rd_T55 t731 bt734.1).f1⟩ : S55)]), bt737.2.1, bt737.2.2)) else (none)) else (none)) else (none)) else (if bt737.1 = 2 then (some (([] : List (S55)), bt737.2.1, bt737.2.2)) else (if bt737.1 = 3 then (spec_l02Draw.l0 k (([] : List (S55))) 0 s0_0 bt737.2.1 bt737.2.2) else (if bt737.1 = 4 then (if 0 < (t731.length : Int) then (if 0 ≤ (wrap64 ((t731.length : Int) - 1)) then (if (wrap64 ((t731.length : Int) - 1)) < (t731.length : Int) then (if t731.length < 8796093022208 then (some ((t731 ++ [(⟨wrap64 (((rd_T55 t731 0).f0) + 3), wrap64 (((rd_T55 t731 (wrap64 ((t731.length : Int) - 1))).f1) + 2)⟩ : S55)]), bt737.2.1, bt737.2.2)) else (none)) else (none)) else (none)) else (none)) else (if bt737.1 = 5 then (if 0 < (t731.length : Int) then (if 0 ≤ (wrap64 ((t731.length : Int) - 1)) then (if (wrap64 ((t731.length : Int) - 1)) < (t731.length : Int) then (if t731.length < 8796093022208 then (some ((t731 ++ [(⟨wrap64 (((rd_T55 t731 0).f0) + 3), wrap64 (((rd_T55 t731 (wrap64 ((t731.length : Int) - 1))).f1) + 2)⟩ : S55)]), bt737.2.1, bt737.2.2)) else (none)) else (none)) else (none)) else (none)) else (some (t731, bt737.2.1, bt737.2.2)))))))))))))) = some (r1, r2, r3) := h
 clear h
 replace H := Option.bind_eq_some_iff.mp H
 obtain ⟨⟨t720, t723, t724⟩, A20, H⟩ := H
 try dsimp only at H
 have A2 := Aside0.mk A20
 clear A20
 replace H := Option.bind_eq_some_iff.mp H
 obtain ⟨⟨t725, t726, t727⟩, A30, H⟩ := H
 try dsimp only at H
 have A3 := Aside0.mk A30
 clear A30
 replace H := Option.bind_eq_some_iff.mp H
 obtain ⟨⟨t728, t729, t730⟩, A40, H⟩ := H
 try dsimp only at H
 have A4 := Aside0.mk A40
 clear A40
 replace H := Option.bind_eq_some_iff.mp H
 obtain ⟨t731, A50, H⟩ := H
 try dsimp only at H
 have A5 := Aside0.mk A50
 clear A50
 replace H := Option.bind_eq_some_iff.mp H
 obtain ⟨⟨t734, t735, t736⟩, A60, H⟩ := H
 try dsimp only at H
 have A6 := Aside0.mk A60
 clear A60
 replace H := Option.bind_eq_some_iff.mp H
 obtain ⟨⟨t737, t738, t739⟩, A70, H⟩ := H
 try dsimp only at H
 have A7 := Aside0.mk A70
 clear A70
 by_cases c8 : t737 = 0
 ·rw [if_pos c8] at H
  have c8b0 : (t737 == 0) = true := beq_iff_eq.mpr c8
  have c8b1 : (t737 != 0) = false := bne_eq_false_iff_eq.mpr c8
  clear c8
  obtain ⟨y740, hY_⟩ : ∃ y_ : List Int, y_ = (([(-100), 100, 101] : List Int)) := ⟨_, rfl⟩
  replace H : ((spec_l01Next.f s0_0 t738 t739 3).bind fun bt743 => (if 0 ≤ bt743.1 then (if bt743.1 < (y740.length : Int) then (if 0 ≤ t734 then (if t734 < (t731.length : Int) then ((spec_l02Sort.f k (t731.set (t734 : Int).toNat (⟨rd y740 bt743.1, (rd_T55 t731 t734).f1⟩ : S55))).bind fun t748 => (some (t748, bt743.2.1, bt743.2.2))) else (none)) else (none)) else (none)) else (none))) = some (r1, r2, r3) := yY_
  have Ny740 := Aside0.mk hY_
  clear hY_
  replace H := Option.bind_eq_some_iff.mp H
  obtain ⟨⟨t743, t744, t745⟩, A90, H⟩ := H
  try dsimp only at H
  have A9 := Aside0.mk A90
  clear A90
  by_cases c10 : 0 ≤ t743
  ·rw [if_pos c10] at H
   have c10b0 : decide (0 ≤ t743) = true := decide_eq_true c10
   clear c10
   by_cases c11 : t743 < (y740.length : Int)
   ·rw [if_pos c11] at H
    have c11b0 : decide (t743 < (y740.length : Int)) = true := decide_eq_true c11
    clear c11
    by_cases c12 : 0 ≤ t734
    ·rw [if_pos c12] at H
     have c12b0 : decide (0 ≤ t734) = true := decide_eq_true c12
     clear c12
     by_cases c13 : t734 < (t731.length : Int)
     ·rw [if_pos c13] at H
      have c13b0 : decide (t734 < (t731.length : Int)) = true := decide_eq_true c13
      clear c13
      obtain ⟨y747, hY_⟩ : ∃ y_ : List (S55), y_ = (t731.set (t734 : Int).toNat (⟨rd y740 t743, (rd_T55 t731 t734).f1⟩ : S55)) := ⟨_, rfl⟩
      replace H : ((spec_l02Sort.f k y747).bind fun t748 => (some (t748, t744, t745))) = some (r1, r2, r3) := yY_
      have Ny747 := Aside0.mk hY_
      clear hY_
      replace H := Option.bind_eq_some_iff.mp H
      obtain ⟨t748, A150, H⟩ := H
      try dsimp only at H
      have A15 := Aside0.mk A150
      clear A150
      simp only [Option.some.injEq, Prod.mk.injEq] at H
      obtain ⟨rfl, rfl, rfl⟩ := H
      go_enter Try.func94, Try.ntmps94
      go_wp2_with (first | ((with_reducible refine gate_callee (f := 95) rfl ?_); refine gL_ (some 8) Try.func95 #[.pointer (some ⟨g, 0, none⟩), .int .i64 8] ?_; (with_reducible refine (spec_l02DrawPoly.calls k g s0_0 s0_1 s0_2 8 t720 t723 t724 w0 _ ?side1 ?side2 A2.out).mono ?_); (case side1 => exact iS94_); (case side2 => exact bS94_); rintro e w16 ⟨v721, rfl, ho0, hi, hb, hk⟩; refine ⟨_, rfl, ?_⟩; have HO722 := Aside0.mk (Kd.R_lower ho0 (keep_size (w := w) (g := g) (row := none) kK_)); replace HK := Aside0.mk (KeepBut.trans kK_ hk (.inl rfl)); replace HB := Aside0.mk (hb); replace HI0 := Aside0.mk (hi); (try clear hb hk hi ho0)) | ((with_reducible refine gate_callee (f := 93) rfl ?_); refine gL_ (some 10) Try.func93 #[.pointer (some ⟨g, 0, none⟩), .int .i64 9] ?_; (with_reducible refine (spec_l01Next.calls g s0_0 t723 t724 9 t725 t726 t727 w0 _ ?side1 ?side2 A3.out).mono ?_); (case side1 => exact iS94_); (case side2 => exact bS94_); rintro e w17 ⟨rfl, hi, hb, hk⟩; refine ⟨_, rfl, ?_⟩; replace HO722 := Aside0.mk (Kd.R_mono (Kd.R_keep (IsS94.apart (show IsS94 w0 _ g s0_0 t723 t724 from iS94_) (rS_ HO722.out) (by decide)) hk (fun _ h => h.2)) (fun _ h => h.1)); replace HK := Aside0.mk (KeepBut.trans kK_ hk (.inl rfl)); replace HB := Aside0.mk (hb); replace HI0 := Aside0.mk (hi); (try clear hb hk hi)) | ((with_reducible refine gate_callee (f := 93) rfl ?_); refine gL_ (some 13) Try.func93 #[.pointer (some ⟨g, 0, none⟩), .int .i64 9] ?_; (with_reducible refine (spec_l01Next.calls g s0_0 t726 t727 9 t728 t729 t730 w0 _ ?side1 ?side2 A4.out).mono ?_); (case side1 => exact iS94_); (case side2 => exact bS94_); rintro e w18 ⟨rfl, hi, hb, hk⟩; refine ⟨_, rfl, ?_⟩; replace HO722 := Aside0.mk (Kd.R_mono (Kd.R_keep (IsS94.apart (show IsS94 w0 _ g s0_0 t726 t727 from iS94_) (rS_ HO722.out) (by decide)) hk (fun _ h => h.2)) (fun _ h => h.1)); replace HK := Aside0.mk (KeepBut.trans kK_ hk (.inl rfl)); replace HB := Aside0.mk (hb); replace HI0 := Aside0.mk (hi); (try clear hb hk hi); obtain ⟨Ao19, co19, eo19⟩ := Kd.R_slice HO722.out; subst eo19) | ((with_reducible refine gate_callee (f := 109) rfl ?_); refine gL_ (some 15) Try.func109 #[.slice Ao19 t720.length co19, .int .i64 (wrap64 (t725 - 4)), .int .i64 (wrap64 (t728 - 4))] ?_; (with_reducible refine (spec_l02Move.calls k _ _ t720 (wrap64 (t725 - 4)) (wrap64 (t728 - 4)) t731 _ ?side1 ?side2 A5.out).mono ?_); (case side1 => exact cS_ ((Kd.R_reads' HO722.out).2.2)); (case side2 => exact (Kd.R_reads' HO722.out).2.1); rintro e w20 ⟨v732, rfl, ho0, hb⟩; refine ⟨_, rfl, ?_⟩; have HO733 := Aside0.mk (Kd.R_lower (Kd.R_new' ho0 (Kd.R_lt (rS_ HO722.out))) (keep_size (w := w) (g := g) (row := none) kK_)); replace HO722 := Aside0.mk (Kd.R_elder' (rS_ HO722.out) (Kd.R_base ho0) hb); replace HK := Aside0.mk (KeepBut.trans kK_ (KeepBut.of_below hb g none) (.inl rfl)); replace HB := Aside0.mk (below_step bS94_ hb); replace HI0 := Aside0.mk (IsS94.below iS94_ hb); (try clear hb ho0); obtain ⟨Ao21, co21, eo21⟩ := Kd.R_slice HO733.out; subst eo21) | ((with_reducible refine gate_callee (f := 93) rfl ?_); refine gL_ (some 19) Try.func93 #[.pointer (some ⟨g, 0, none⟩), .int .i64 (t731.length : Int)] ?_; (with_reducible refine (spec_l01Next.calls g s0_0 t729 t730 (t731.length : Int) t734 t735 t736 w0 _ ?side1 ?side2 A6.out).mono ?_); (case side1 => exact iS94_); (case side2 => exact bS94_); rintro e w22 ⟨rfl, hi, hb, hk⟩; refine ⟨_, rfl, ?_⟩; replace HO722 := Aside0.mk (Kd.R_mono (Kd.R_keep (IsS94.apart (show IsS94 w0 _ g s0_0 t729 t730 from iS94_) (rS_ HO722.out) (by decide)) hk (fun _ h => h.2)) (fun _ h => h.1)); replace HO733 := Aside0.mk (Kd.R_mono (Kd.R_keep (IsS94.apart (show IsS94 w0 _ g s0_0 t729 t730 from iS94_) (rS_ HO733.out) (by decide)) hk (fun _ h => h.2)) (fun _ h => h.1)); replace HK := Aside0.mk (KeepBut.trans kK_ hk (.inl rfl)); replace HB := Aside0.mk (hb); replace HI0 := Aside0.mk (hi); (try clear hb hk hi)) | ((with_reducible refine gate_callee (f := 93) rfl ?_); refine gL_ (some 21) Try.func93 #[.pointer (some ⟨g, 0, none⟩), .int .i64 24] ?_; (with_reducible refine (spec_l01Next.calls g s0_0 t735 t736 24 t737 t738 t739 w0 _ ?side1 ?side2 A7.out).mono ?_); (case side1 => exact iS94_); (case side2 => exact bS94_); rintro e w23 ⟨rfl, hi, hb, hk⟩; refine ⟨_, rfl, ?_⟩; replace HO722 := Aside0.mk (Kd.R_mono (Kd.R_keep (IsS94.apart (show IsS94 w0 _ g s0_0 t735 t736 from iS94_) (rS_ HO722.out) (by decide)) hk (fun _ h => h.2)) (fun _ h => h.1)); replace HO733 := Aside0.mk (Kd.R_mono (Kd.R_keep (IsS94.apart (show IsS94 w0 _ g s0_0 t735 t736 from iS94_) (rS_ HO733.out) (by decide)) hk (fun _ h => h.2)) (fun _ h => h.1)); replace HK := Aside0.mk (KeepBut.trans kK_ hk (.inl rfl)); replace HB := Aside0.mk (hb); replace HI0 := Aside0.mk (hi); (try clear hb hk hi)) | ((with_reducible refine gate_dst (N := 26) rfl ?_); refine Kd.R_lit (Kd.int .i64) _ 2 ?hg (N := 26) ?hd (xs := ([(-100), 100, 101] : List Int)) (inner := [.int .i64 (-100), .int .i64 100, .int .i64 101]) (ok := fun _ => True) (okp := fun _ => True) ?hr ?hp (fun _ hk => hk) trivial (Below.refl _ _) (Nat.le_refl _) (by simp) ?_; (case hd => rfl); (case hg => rfl); (case hr => first | (go_simp; done) | (go_simp; rfl)); (case hp => exact (Reps.one (show Kd.M (Kd.int .i64) _ _ _ (-100) [.int .i64 (-100)] from rfl) (Reps.one (show Kd.M (Kd.int .i64) _ _ _ 100 [.int .i64 100] from rfl) (Reps.one (show Kd.M (Kd.int .i64) _ _ _ 101 [.int .i64 101] from rfl) (Reps.none _ _))))); intro v741 w24 ho25 hb hg_ hnew_; clear hg_ hnew_; (first | rw [← Ny740.out] at ho25 | (simp only [Int.reduceToNat] at ho25; rw [← Ny740.out] at ho25)); replace HO722 := Aside0.mk (Kd.R_below (rS_ HO722.out) hb); replace HO733 := Aside0.mk (Kd.R_below (rS_ HO733.out) hb); have HO742 := Aside0.mk (Kd.R_lower ho25 (keep_size (w := w) (g := g) (row := none) kK_)); replace HK := Aside0.mk (KeepBut.trans kK_ (KeepBut.of_below hb g none) (.inl rfl)); replace HB := Aside0.mk (below_step bS94_ hb); replace HI0 := Aside0.mk (IsS94.below iS94_ hb); clear hb ho25) | ((with_reducible refine gate_callee (f := 93) rfl ?_); refine gL_ (some 28) Try.func93 #[.pointer (some ⟨g, 0, none⟩), .int .i64 3] ?_; (with_reducible refine (spec_l01Next.calls g s0_0 t738 t739 3 t743 t744 t745 w0 _ ?side1 ?side2 A9.out).mono ?_); (case side1 => exact iS94_); (case side2 => exact bS94_); rintro e w26 ⟨rfl, hi, hb, hk⟩; refine ⟨_, rfl, ?_⟩; replace HO722 := Aside0.mk (Kd.R_mono (Kd.R_keep (IsS94.apart (show IsS94 w0 _ g s0_0 t738 t739 from iS94_) (rS_ HO722.out) (by decide)) hk (fun _ h => h.2)) (fun _ h => h.1)); replace HO733 := Aside0.mk (Kd.R_mono (Kd.R_keep (IsS94.apart (show IsS94 w0 _ g s0_0 t738 t739 from iS94_) (rS_ HO733.out) (by decide)) hk (fun _ h => h.2)) (fun _ h => h.1)); replace HO742 := Aside0.mk (Kd.R_mono (Kd.R_keep (IsS94.apart (show IsS94 w0 _ g s0_0 t738 t739 from iS94_) (rS_ HO742.out) (by decide)) hk (fun _ h => h.2)) (fun _ h => h.1)); replace HK := Aside0.mk (KeepBut.trans kK_ hk (.inl rfl)); replace HB := Aside0.mk (hb); replace HI0 := Aside0.mk (hi); (try clear hb hk hi); obtain ⟨Ao27, co27, eo27⟩ := Kd.R_slice HO742.out; subst eo27; have p746 : 0 ≤ (t743 : Int) := of_decide_eq_true aS_; have q746 : t743 < (y740.length : Int) := of_decide_eq_true aS_; obtain ⟨ad746, e746, hx746_0⟩ := Kd.at_int (Kd.R_reads' HO742.out).2.2 t743 p746 q746; cases e746; replace p746 := eq_true p746; replace q746 := eq_true q746; have p14 : 0 ≤ (t734 : Int) := of_decide_eq_true aS_; have q14 : (t734 : Int) < ((t731.length : Int) : Int) := of_decide_eq_true aS_; obtain ⟨go14, co14, eo14, gb14, gl14, cl14, HG14⟩ := Kd.R_form HO733.out (by omega); (first | cases eo14 | (injection eo14 with ea_ en_ ec_; (first | subst ea_ | (injection ea_ with ea_; subst ea_)); subst ec_; clear en_)); have GB14 := Aside0.mk gb14; have GG14 := Aside0.mk HG14; clear gb14 gl14 HG14; obtain ⟨ce14, hcl14, hM14, hcc14, hfr14⟩ := Kd.R_elem HO733.out z55 (t734 : Int) p14 q14; obtain rfl := k55_openM hM14; have hx14_0 : w26.cell? ⟨go14, (t734 : Int).toNat * 2, none⟩ = some (.int .i64 ((rd_T55 t731 t734).f0)) := hcc14 0 _ rfl; have hx14_1 : w26.cell? ⟨go14, (t734 : Int).toNat * 2 + 1, none⟩ = some (.int .i64 ((rd_T55 t731 t734).f1)) := hcc14 1 _ rfl; have hf14_0 : w26.frozen? ⟨go14, (t734 : Int).toNat * 2, none⟩ = false := hfr14 0; have hf14_1 : w26.frozen? ⟨go14, (t734 : Int).toNat * 2 + 1, none⟩ = false := hfr14 1; clear hcl14 hcc14 hfr14 hM14; replace p14 := eq_true p14; replace q14 := eq_true q14; have n_ := Aside0.mk (Kd.R_mono (ok' := (fun k_ => some k_ ≠ (.slice Ao19 t720.length co19 : Value).ownBlock)) HO733.out (fun k_ hk => hk.2)); clear HO733; have HO733 := n_; clear n_; have HX28 := Aside0.mk (show Kd.R k55 55 w26 w.heap.size (fun k_ => some k_ ≠ (.slice Ao19 t720.length co19 : Value).ownBlock) (.slice (some ⟨go14, 0, none⟩) t731.length co21) t731 from (rS_ HO733.out)); obtain ⟨ce28, hcl28, hM28, hcc28, hfr28⟩ := Kd.R_elem HX28.out z55 (t734 : Int) (of_decide_eq_true aS_) (by have h_ : (t734 : Int) < ((t731.length : Int) : Int) := of_decide_eq_true aS_; first | exact h_ | (have e_ := (Kd.R_reads' HO733.out).1; omega) | simpa using h_); obtain rfl := k55_openM hM28; have HP28 := Kd.R_seg HX28.out (t734 : Int) (of_decide_eq_true aS_) (by have h_ : (t734 : Int) < ((t731.length : Int) : Int) := of_decide_eq_true aS_; first | exact h_ | (have e_ := (Kd.R_reads' HO733.out).1; omega) | simpa using h_) (seg := [.int .i64 (rd y740 t743)]) (j := 0) hcl28 hcc28 (show 1 ≤ 2 from by decide) (x' := (⟨rd y740 t743, (rd_T55 t731 t734).f1⟩ : S55)) (k55_mkM _ _ _ (⟨rd y740 t743, (rd_T55 t731 t734).f1⟩ : S55) ) (fun _ hk => hk); have hx28_0 := hcc28 0 _ rfl; (try simp only [show (k55).sz = 2 from rfl, Nat.mul_one, Nat.add_zero] at hx28_0); have hf28_0 := hfr28 0; (try simp only [show (k55).sz = 2 from rfl, Nat.mul_one, Nat.add_zero] at hf28_0); clear hcl28 hcc28 hfr28 hM28) | ((with_reducible refine gate_store (t := 2) (p := 32) rfl ?_); refine store_event (t := 2) (p := 32) (v := ?vo_w29) (w1 := (w26.setCell ⟨go14, (t734 : Int).toNat * 2, none⟩ (.int .i64 (rd y740 t743)))) ?hg ?ho ?hn ?hr ?_; (case ho => rfl); (case hg => rfl); (case hn => rfl); (case hr => first | (go_simp; done) | (go_simp; rfl)); intro w29 hw; have hg : w26.grownBy w29 (some go14) := (by rw [hw]; exact HP28.2); have hp_ : Kd.R k55 55 w29 w.heap.size (fun k_ => some k_ ≠ (.slice Ao19 t720.length co19 : Value).ownBlock) (.slice (some ⟨go14, 0, none⟩) t731.length co21) y747 := (by rw [hw, Ny747.out]; exact HP28.1); clear HP28; replace HI0 := Aside0.mk (IsS94.grown iS94_ hg (IsS94.own_ne HI0.out HO733.out (by decide))); replace HO722 := Aside0.mk (Kd.R_after (v := (.slice (some ⟨go14, 0, none⟩) t731.length co21)) (v1 := (.slice (some ⟨go14, 0, none⟩) t731.length co21)) (ok := (fun _ => True)) (rS_ HO722.out) hg (.inl rfl)); replace HO742 := Aside0.mk (Kd.R_over' (v := (.slice (some ⟨go14, 0, none⟩) t731.length co21)) (rS_ HO742.out) (Kd.R_typed HO733.out) (by decide) hg); replace HB := Aside0.mk ((by rw [hw]; exact below_set (HB.out) (Nat.le_trans HL.out GB14.out) : Below w0.heap.size w0 w29)); replace HK := Aside0.mk (KeepBut.trans kK_ (KeepBut.of_grown hg g) (Kd.R_base2 HO733.out)); replace HO733 := Aside0.mk (hp_); clear hg hw hp_) | ((with_reducible refine gate_callee (f := 97) rfl ?_); refine goesL_ (some 34) rfl rfl Try.func97 (by kernel_rfl) rfl #[.slice (some ⟨go14, 0, none⟩) y747.length co21] rfl (by (try simp only [List.map_toArray, List.map_cons, List.map_nil]); first | done | (rw [show y747.length = t731.length from (Kd.R_reads' HO733.out).1.symm] <;> rfl) | rfl | (simp only [List.length_drop, List.length_take]; rfl)) ?_; (with_reducible refine (spec_l02Sort.calls k _ _ y747 t748 _ ?side1 ?side2 A15.out).mono ?_); (case side1 => exact cS_ ((Kd.R_reads' HO733.out).2.2)); (case side2 => rw [show y747.length = t731.length from (Kd.R_reads' HO733.out).1.symm]; exact (Kd.R_reads' HO733.out).2.1); rintro e w30 ⟨v749, rfl, ho0, hb⟩; refine ⟨_, rfl, ?_⟩; replace HO742 := Aside0.mk (Kd.R_below (rS_ HO742.out) hb); have HO750 := Aside0.mk (Kd.R_lower (Kd.R_new' (Kd.R_new' ho0 (Kd.R_lt (rS_ HO722.out))) (Kd.R_lt (rS_ HO733.out))) (keep_size (w := w) (g := g) (row := none) kK_)); replace HO722 := Aside0.mk (Kd.R_elder' (rS_ HO722.out) (Kd.R_base ho0) hb); replace HO733 := Aside0.mk (Kd.R_elder' (rS_ HO733.out) (Kd.R_base ho0) hb); replace HK := Aside0.mk (KeepBut.trans kK_ (KeepBut.of_below hb g none) (.inl rfl)); replace HB := Aside0.mk (below_step bS94_ hb); replace HI0 := Aside0.mk (IsS94.below iS94_ hb); (try clear hb ho0)))
      go_ret
      exact ⟨_, r2_, rS_ (Kd.R_mono HO750.out (fun _ hk => trivial)), iS94_, bS94_, kK_⟩
     ·rw [if_neg c13] at H
      exact absurd H (by simp)
    ·rw [if_neg c12] at H
     exact absurd H (by simp)
   ·rw [if_neg c11] at H
    exact absurd H (by simp)
  ·rw [if_neg c10] at H
   exact absurd H (by simp)
 ·rw [if_neg c8] at H
  have c8b0 : (t737 == 0) = false := beq_eq_false_iff_ne.mpr c8
  have c8b1 : (t737 != 0) = true := bne_iff_ne.mpr c8
  by_cases c31 : t737 = 1
  ·rw [if_pos c31] at H
   have c31b0 : (t737 == 1) = true := beq_iff_eq.mpr c31
   have c31b1 : (t737 != 1) = false := bne_eq_false_iff_eq.mpr c31
   clear c31
   by_cases c32 : 0 ≤ t734
   ·rw [if_pos c32] at H
    have c32b0 : decide (0 ≤ t734) = true := decide_eq_true c32
    clear c32
    by_cases c33 : t734 < (t731.length : Int)
    ·rw [if_pos c33] at H
     have c33b0 : decide (t734 < (t731.length : Int)) = true := decide_eq_true c33
     clear c33
     by_cases c34 : t731.length < 8796093022208
     ·rw [if_pos c34] at H
      have LMc34 := Aside0.mk c34
      clear c34
      obtain ⟨y752, hY_⟩ : ∃ y_ : List (S55), y_ = (t731 ++ [(⟨(rd_T55 t731 t734).f0, (rd_T55 t731 t734).f1⟩ : S55)]) := ⟨_, rfl⟩
      replace H : (some (y752, t738, t739)) = some (r1, r2, r3) := yY_
      have Ny752 := Aside0.mk hY_
      clear hY_
      simp only [Option.some.injEq, Prod.mk.injEq] at H
      obtain ⟨rfl, rfl, rfl⟩ := H
      go_enter Try.func94, Try.ntmps94
      go_wp2_with (first | ((with_reducible refine gate_callee (f := 95) rfl ?_); refine gL_ (some 8) Try.func95 #[.pointer (some ⟨g, 0, none⟩), .int .i64 8] ?_; (with_reducible refine (spec_l02DrawPoly.calls k g s0_0 s0_1 s0_2 8 t720 t723 t724 w0 _ ?side1 ?side2 A2.out).mono ?_); (case side1 => exact iS94_); (case side2 => exact bS94_); rintro e w35 ⟨v721, rfl, ho0, hi, hb, hk⟩; refine ⟨_, rfl, ?_⟩; have HO722 := Aside0.mk (Kd.R_lower ho0 (keep_size (w := w) (g := g) (row := none) kK_)); replace HK := Aside0.mk (KeepBut.trans kK_ hk (.inl rfl)); replace HB := Aside0.mk (hb); replace HI0 := Aside0.mk (hi); (try clear hb hk hi ho0)) | ((with_reducible refine gate_callee (f := 93) rfl ?_); refine gL_ (some 10) Try.func93 #[.pointer (some ⟨g, 0, none⟩), .int .i64 9] ?_; (with_reducible refine (spec_l01Next.calls g s0_0 t723 t724 9 t725 t726 t727 w0 _ ?side1 ?side2 A3.out).mono ?_); (case side1 => exact iS94_); (case side2 => exact bS94_); rintro e w36 ⟨rfl, hi, hb, hk⟩; refine ⟨_, rfl, ?_⟩; replace HO722 := Aside0.mk (Kd.R_mono (Kd.R_keep (IsS94.apart (show IsS94 w0 _ g s0_0 t723 t724 from iS94_) (rS_ HO722.out) (by decide)) hk (fun _ h => h.2)) (fun _ h => h.1)); replace HK := Aside0.mk (KeepBut.trans kK_ hk (.inl rfl)); replace HB := Aside0.mk (hb); replace HI0 := Aside0.mk (hi); (try clear hb hk hi)) | ((with_reducible refine gate_callee (f := 93) rfl ?_); refine gL_ (some 13) Try.func93 #[.pointer (some ⟨g, 0, none⟩), .int .i64 9] ?_; (with_reducible refine (spec_l01Next.calls g s0_0 t726 t727 9 t728 t729 t730 w0 _ ?side1 ?side2 A4.out).mono ?_); (case side1 => exact iS94_); (case side2 => exact bS94_); rintro e w37 ⟨rfl, hi, hb, hk⟩; refine ⟨_, rfl, ?_⟩; replace HO722 := Aside0.mk (Kd.R_mono (Kd.R_keep (IsS94.apart (show IsS94 w0 _ g s0_0 t726 t727 from iS94_) (rS_ HO722.out) (by decide)) hk (fun _ h => h.2)) (fun _ h => h.1)); replace HK := Aside0.mk (KeepBut.trans kK_ hk (.inl rfl)); replace HB := Aside0.mk (hb); replace HI0 := Aside0.mk (hi); (try clear hb hk hi); obtain ⟨Ao38, co38, eo38⟩ := Kd.R_slice HO722.out; subst eo38) | ((with_reducible refine gate_callee (f := 109) rfl ?_); refine gL_ (some 15) Try.func109 #[.slice Ao38 t720.length co38, .int .i64 (wrap64 (t725 - 4)), .int .i64 (wrap64 (t728 - 4))] ?_; (with_reducible refine (spec_l02Move.calls k _ _ t720 (wrap64 (t725 - 4)) (wrap64 (t728 - 4)) t731 _ ?side1 ?side2 A5.out).mono ?_); (case side1 => exact cS_ ((Kd.R_reads' HO722.out).2.2)); (case side2 => exact (Kd.R_reads' HO722.out).2.1); rintro e w39 ⟨v732, rfl, ho0, hb⟩; refine ⟨_, rfl, ?_⟩; have HO733 := Aside0.mk (Kd.R_lower (Kd.R_new' ho0 (Kd.R_lt (rS_ HO722.out))) (keep_size (w := w) (g := g) (row := none) kK_)); replace HO722 := Aside0.mk (Kd.R_elder' (rS_ HO722.out) (Kd.R_base ho0) hb); replace HK := Aside0.mk (KeepBut.trans kK_ (KeepBut.of_below hb g none) (.inl rfl)); replace HB := Aside0.mk (below_step bS94_ hb); replace HI0 := Aside0.mk (IsS94.below iS94_ hb); (try clear hb ho0); obtain ⟨Ao40, co40, eo40⟩ := Kd.R_slice HO733.out; subst eo40) | ((with_reducible refine gate_callee (f := 93) rfl ?_); refine gL_ (some 19) Try.func93 #[.pointer (some ⟨g, 0, none⟩), .int .i64 (t731.length : Int)] ?_; (with_reducible refine (spec_l01Next.calls g s0_0 t729 t730 (t731.length : Int) t734 t735 t736 w0 _ ?side1 ?side2 A6.out).mono ?_); (case side1 => exact iS94_); (case side2 => exact bS94_); rintro e w41 ⟨rfl, hi, hb, hk⟩; refine ⟨_, rfl, ?_⟩; replace HO722 := Aside0.mk (Kd.R_mono (Kd.R_keep (IsS94.apart (show IsS94 w0 _ g s0_0 t729 t730 from iS94_) (rS_ HO722.out) (by decide)) hk (fun _ h => h.2)) (fun _ h => h.1)); replace HO733 := Aside0.mk (Kd.R_mono (Kd.R_keep (IsS94.apart (show IsS94 w0 _ g s0_0 t729 t730 from iS94_) (rS_ HO733.out) (by decide)) hk (fun _ h => h.2)) (fun _ h => h.1)); replace HK := Aside0.mk (KeepBut.trans kK_ hk (.inl rfl)); replace HB := Aside0.mk (hb); replace HI0 := Aside0.mk (hi); (try clear hb hk hi)) | ((with_reducible refine gate_callee (f := 93) rfl ?_); refine gL_ (some 21) Try.func93 #[.pointer (some ⟨g, 0, none⟩), .int .i64 24] ?_; (with_reducible refine (spec_l01Next.calls g s0_0 t735 t736 24 t737 t738 t739 w0 _ ?side1 ?side2 A7.out).mono ?_); (case side1 => exact iS94_); (case side2 => exact bS94_); rintro e w42 ⟨rfl, hi, hb, hk⟩; refine ⟨_, rfl, ?_⟩; replace HO722 := Aside0.mk (Kd.R_mono (Kd.R_keep (IsS94.apart (show IsS94 w0 _ g s0_0 t735 t736 from iS94_) (rS_ HO722.out) (by decide)) hk (fun _ h => h.2)) (fun _ h => h.1)); replace HO733 := Aside0.mk (Kd.R_mono (Kd.R_keep (IsS94.apart (show IsS94 w0 _ g s0_0 t735 t736 from iS94_) (rS_ HO733.out) (by decide)) hk (fun _ h => h.2)) (fun _ h => h.1)); replace HK := Aside0.mk (KeepBut.trans kK_ hk (.inl rfl)); replace HB := Aside0.mk (hb); replace HI0 := Aside0.mk (hi); (try clear hb hk hi); have p751 : 0 ≤ (t734 : Int) := of_decide_eq_true aS_; have q751 : t734 < (t731.length : Int) := of_decide_eq_true aS_; obtain ⟨ad751, e751, hx751_0, hx751_1⟩ := at_T55 (Kd.R_reads' HO733.out).2.2 t734 p751 q751; cases e751; replace p751 := eq_true p751; replace q751 := eq_true q751) | ((with_reducible refine gate_builtin (b := .append) (xs := #[.tmp 37, .tmp 42]) rfl ?_); at_builtin; refine Kd.R_append k55 w.heap.size rfl (.tmp 37) (.tmp 42) 27 55 (.agg #[(.int .i64 0), (.int .i64 0)]) 16 rfl Try.underlying27 info55 rfl (by decide) (by omega) (.slice (some ad751) t731.length co40) t731 (⟨(rd_T55 t731 t734).f0, (rd_T55 t731 t734).f1⟩ : S55) [.int .i64 ((rd_T55 t731 t734).f0), .int .i64 ((rd_T55 t731 t734).f1)] (fun k_ => some k_ ≠ (.slice Ao38 t720.length co38 : Value).ownBlock) (fun _ => False) rfl rfl ?aP (fun _ hk => hk.elim) ?aF ?aO (Below.refl _ _) ?aS ?aL ?_; (case aP => exact k55_mkM _ _ _ (⟨(rd_T55 t731 t734).f0, (rd_T55 t731 t734).f1⟩ : S55)); (case aF => exact (fun k_ hk => Kd.fresh' (Kd.R_lt (rS_ HO722.out)) k_ hk)); (case aO => exact (rS_ (Kd.R_mono HO733.out (fun _ hk => hk.2)))); (case aS => exact (keep_size (w := w) (g := g) (row := none) kK_)); (case aL => have := LMc34.out; omega); intro v753 w43 ho hb hg hat; rw [← Ny752.out] at ho; replace HO722 := Aside0.mk (Kd.R_after (ok := (fun _ => True)) (rS_ HO722.out) hg hat); replace HB := Aside0.mk (below_weaken bS94_ HL.out hb); replace HI0 := Aside0.mk (IsS94.grown iS94_ hg (IsS94.own_ne HI0.out HO733.out (by decide))); replace HK := Aside0.mk (KeepBut.trans kK_ (KeepBut.of_grown hg g) (Kd.R_base2 HO733.out)); have HO754 := Aside0.mk (ho); clear HO733; clear ho hb hg hat))
      go_ret
      exact ⟨_, r2_, rS_ (Kd.R_mono HO754.out (fun _ hk => trivial)), iS94_, bS94_, kK_⟩
     ·rw [if_neg c34] at H
      exact absurd H (by simp)
    ·rw [if_neg c33] at H
     exact absurd H (by simp)
   ·rw [if_neg c32] at H
    exact absurd H (by simp)
  ·rw [if_neg c31] at H
   have c31b0 : (t737 == 1) = false := beq_eq_false_iff_ne.mpr c31
   have c31b1 : (t737 != 1) = true := bne_iff_ne.mpr c31
   by_cases c44 : t737 = 2
   ·rw [if_pos c44] at H
    have c44b0 : (t737 == 2) = true := beq_iff_eq.mpr c44
    have c44b1 : (t737 != 2) = false := bne_eq_false_iff_eq.mpr c44
    clear c44
    simp only [Option.some.injEq, Prod.mk.injEq] at H
    obtain ⟨rfl, rfl, rfl⟩ := H
    go_enter Try.func94, Try.ntmps94
    go_wp2_with (first | ((with_reducible refine gate_callee (f := 95) rfl ?_); refine gL_ (some 8) Try.func95 #[.pointer (some ⟨g, 0, none⟩), .int .i64 8] ?_; (with_reducible refine (spec_l02DrawPoly.calls k g s0_0 s0_1 s0_2 8 t720 t723 t724 w0 _ ?side1 ?side2 A2.out).mono ?_); (case side1 => exact iS94_); (case side2 => exact bS94_); rintro e w45 ⟨v721, rfl, ho0, hi, hb, hk⟩; refine ⟨_, rfl, ?_⟩; have HO722 := Aside0.mk (Kd.R_lower ho0 (keep_size (w := w) (g := g) (row := none) kK_)); replace HK := Aside0.mk (KeepBut.trans kK_ hk (.inl rfl)); replace HB := Aside0.mk (hb); replace HI0 := Aside0.mk (hi); (try clear hb hk hi ho0)) | ((with_reducible refine gate_callee (f := 93) rfl ?_); refine gL_ (some 10) Try.func93 #[.pointer (some ⟨g, 0, none⟩), .int .i64 9] ?_; (with_reducible refine (spec_l01Next.calls g s0_0 t723 t724 9 t725 t726 t727 w0 _ ?side1 ?side2 A3.out).mono ?_); (case side1 => exact iS94_); (case side2 => exact bS94_); rintro e w46 ⟨rfl, hi, hb, hk⟩; refine ⟨_, rfl, ?_⟩; replace HO722 := Aside0.mk (Kd.R_mono (Kd.R_keep (IsS94.apart (show IsS94 w0 _ g s0_0 t723 t724 from iS94_) (rS_ HO722.out) (by decide)) hk (fun _ h => h.2)) (fun _ h => h.1)); replace HK := Aside0.mk (KeepBut.trans kK_ hk (.inl rfl)); replace HB := Aside0.mk (hb); replace HI0 := Aside0.mk (hi); (try clear hb hk hi)) | ((with_reducible refine gate_callee (f := 93) rfl ?_); refine gL_ (some 13) Try.func93 #[.pointer (some ⟨g, 0, none⟩), .int .i64 9] ?_; (with_reducible refine (spec_l01Next.calls g s0_0 t726 t727 9 t728 t729 t730 w0 _ ?side1 ?side2 A4.out).mono ?_); (case side1 => exact iS94_); (case side2 => exact bS94_); rintro e w47 ⟨rfl, hi, hb, hk⟩; refine ⟨_, rfl, ?_⟩; replace HO722 := Aside0.mk (Kd.R_mono (Kd.R_keep (IsS94.apart (show IsS94 w0 _ g s0_0 t726 t727 from iS94_) (rS_ HO722.out) (by decide)) hk (fun _ h => h.2)) (fun _ h => h.1)); replace HK := Aside0.mk (KeepBut.trans kK_ hk (.inl rfl)); replace HB := Aside0.mk (hb); replace HI0 := Aside0.mk (hi); (try clear hb hk hi); obtain ⟨Ao48, co48, eo48⟩ := Kd.R_slice HO722.out; subst eo48) | ((with_reducible refine gate_callee (f := 109) rfl ?_); refine gL_ (some 15) Try.func109 #[.slice Ao48 t720.length co48, .int .i64 (wrap64 (t725 - 4)), .int .i64 (wrap64 (t728 - 4))] ?_; (with_reducible refine (spec_l02Move.calls k _ _ t720 (wrap64 (t725 - 4)) (wrap64 (t728 - 4)) t731 _ ?side1 ?side2 A5.out).mono ?_); (case side1 => exact cS_ ((Kd.R_reads' HO722.out).2.2)); (case side2 => exact (Kd.R_reads' HO722.out).2.1); rintro e w49 ⟨v732, rfl, ho0, hb⟩; refine ⟨_, rfl, ?_⟩; have HO733 := Aside0.mk (Kd.R_lower (Kd.R_new' ho0 (Kd.R_lt (rS_ HO722.out))) (keep_size (w := w) (g := g) (row := none) kK_)); replace HO722 := Aside0.mk (Kd.R_elder' (rS_ HO722.out) (Kd.R_base ho0) hb); replace HK := Aside0.mk (KeepBut.trans kK_ (KeepBut.of_below hb g none) (.inl rfl)); replace HB := Aside0.mk (below_step bS94_ hb); replace HI0 := Aside0.mk (IsS94.below iS94_ hb); (try clear hb ho0); obtain ⟨Ao50, co50, eo50⟩ := Kd.R_slice HO733.out; subst eo50) | ((with_reducible refine gate_callee (f := 93) rfl ?_); refine gL_ (some 19) Try.func93 #[.pointer (some ⟨g, 0, none⟩), .int .i64 (t731.length : Int)] ?_; (with_reducible refine (spec_l01Next.calls g s0_0 t729 t730 (t731.length : Int) t734 t735 t736 w0 _ ?side1 ?side2 A6.out).mono ?_); (case side1 => exact iS94_); (case side2 => exact bS94_); rintro e w51 ⟨rfl, hi, hb, hk⟩; refine ⟨_, rfl, ?_⟩; replace HO722 := Aside0.mk (Kd.R_mono (Kd.R_keep (IsS94.apart (show IsS94 w0 _ g s0_0 t729 t730 from iS94_) (rS_ HO722.out) (by decide)) hk (fun _ h => h.2)) (fun _ h => h.1)); replace HO733 := Aside0.mk (Kd.R_mono (Kd.R_keep (IsS94.apart (show IsS94 w0 _ g s0_0 t729 t730 from iS94_) (rS_ HO733.out) (by decide)) hk (fun _ h => h.2)) (fun _ h => h.1)); replace HK := Aside0.mk (KeepBut.trans kK_ hk (.inl rfl)); replace HB := Aside0.mk (hb); replace HI0 := Aside0.mk (hi); (try clear hb hk hi)) | ((with_reducible refine gate_callee (f := 93) rfl ?_); refine gL_ (some 21) Try.func93 #[.pointer (some ⟨g, 0, none⟩), .int .i64 24] ?_; (with_reducible refine (spec_l01Next.calls g s0_0 t735 t736 24 t737 t738 t739 w0 _ ?side1 ?side2 A7.out).mono ?_); (case side1 => exact iS94_); (case side2 => exact bS94_); rintro e w52 ⟨rfl, hi, hb, hk⟩; refine ⟨_, rfl, ?_⟩; replace HO722 := Aside0.mk (Kd.R_mono (Kd.R_keep (IsS94.apart (show IsS94 w0 _ g s0_0 t735 t736 from iS94_) (rS_ HO722.out) (by decide)) hk (fun _ h => h.2)) (fun _ h => h.1)); replace HO733 := Aside0.mk (Kd.R_mono (Kd.R_keep (IsS94.apart (show IsS94 w0 _ g s0_0 t735 t736 from iS94_) (rS_ HO733.out) (by decide)) hk (fun _ h => h.2)) (fun _ h => h.1)); replace HK := Aside0.mk (KeepBut.trans kK_ hk (.inl rfl)); replace HB := Aside0.mk (hb); replace HI0 := Aside0.mk (hi); (try clear hb hk hi)))
    go_ret
    exact ⟨_, r2_, by first | exact Kd.R_nil _ _ _ _ _ | exact Kd.N_nil _ _ _ _ _ | exact Kd.V_nil _ _ _ _ _ | exact Kd.Q_nil _ _ _ _ _ | exact Kd.S_nil _ _ _ _ _, iS94_, bS94_, kK_⟩
   ·rw [if_neg c44] at H
    have c44b0 : (t737 == 2) = false := beq_eq_false_iff_ne.mpr c44
    have c44b1 : (t737 != 2) = true := bne_iff_ne.mpr c44
    by_cases c53 : t737 = 3
    ·rw [if_pos c53] at H
     have c53b0 : (t737 == 3) = true := beq_iff_eq.mpr c53
     have c53b1 : (t737 != 3) = false := bne_eq_false_iff_eq.mpr c53
     clear c53
     obtain ⟨y755, hY_⟩ : ∃ y_ : List (S55), y_ = (([] : List (S55))) := ⟨_, rfl⟩
     replace H : (spec_l02Draw.l0 k y755 0 s0_0 t738 t739) = some (r1, r2, r3) := yY_
     have Ny755 := Aside0.mk hY_
     clear hY_
     have H' := Aside0.mk H
     clear H
     go_enter Try.func94, Try.ntmps94
     go_wp2_with (first | ((with_reducible refine gate_callee (f := 95) rfl ?_); refine gL_ (some 8) Try.func95 #[.pointer (some ⟨g, 0, none⟩), .int .i64 8] ?_; (with_reducible refine (spec_l02DrawPoly.calls k g s0_0 s0_1 s0_2 8 t720 t723 t724 w0 _ ?side1 ?side2 A2.out).mono ?_); (case side1 => exact iS94_); (case side2 => exact bS94_); rintro e w54 ⟨v721, rfl, ho0, hi, hb, hk⟩; refine ⟨_, rfl, ?_⟩; have HO722 := Aside0.mk (Kd.R_lower ho0 (keep_size (w := w) (g := g) (row := none) kK_)); replace HK := Aside0.mk (KeepBut.trans kK_ hk (.inl rfl)); replace HB := Aside0.mk (hb); replace HI0 := Aside0.mk (hi); (try clear hb hk hi ho0)) | ((with_reducible refine gate_callee (f := 93) rfl ?_); refine gL_ (some 10) Try.func93 #[.pointer (some ⟨g, 0, none⟩), .int .i64 9] ?_; (with_reducible refine (spec_l01Next.calls g s0_0 t723 t724 9 t725 t726 t727 w0 _ ?side1 ?side2 A3.out).mono ?_); (case side1 => exact iS94_); (case side2 => exact bS94_); rintro e w55 ⟨rfl, hi, hb, hk⟩; refine ⟨_, rfl, ?_⟩; replace HO722 := Aside0.mk (Kd.R_mono (Kd.R_keep (IsS94.apart (show IsS94 w0 _ g s0_0 t723 t724 from iS94_) (rS_ HO722.out) (by decide)) hk (fun _ h => h.2)) (fun _ h => h.1)); replace HK := Aside0.mk (KeepBut.trans kK_ hk (.inl rfl)); replace HB := Aside0.mk (hb); replace HI0 := Aside0.mk (hi); (try clear hb hk hi)) | ((with_reducible refine gate_callee (f := 93) rfl ?_); refine gL_ (some 13) Try.func93 #[.pointer (some ⟨g, 0, none⟩), .int .i64 9] ?_; (with_reducible refine (spec_l01Next.calls g s0_0 t726 t727 9 t728 t729 t730 w0 _ ?side1 ?side2 A4.out).mono ?_); (case side1 => exact iS94_); (case side2 => exact bS94_); rintro e w56 ⟨rfl, hi, hb, hk⟩; refine ⟨_, rfl, ?_⟩; replace HO722 := Aside0.mk (Kd.R_mono (Kd.R_keep (IsS94.apart (show IsS94 w0 _ g s0_0 t726 t727 from iS94_) (rS_ HO722.out) (by decide)) hk (fun _ h => h.2)) (fun _ h => h.1)); replace HK := Aside0.mk (KeepBut.trans kK_ hk (.inl rfl)); replace HB := Aside0.mk (hb); replace HI0 := Aside0.mk (hi); (try clear hb hk hi); obtain ⟨Ao57, co57, eo57⟩ := Kd.R_slice HO722.out; subst eo57) | ((with_reducible refine gate_callee (f := 109) rfl ?_); refine gL_ (some 15) Try.func109 #[.slice Ao57 t720.length co57, .int .i64 (wrap64 (t725 - 4)), .int .i64 (wrap64 (t728 - 4))] ?_; (with_reducible refine (spec_l02Move.calls k _ _ t720 (wrap64 (t725 - 4)) (wrap64 (t728 - 4)) t731 _ ?side1 ?side2 A5.out).mono ?_); (case side1 => exact cS_ ((Kd.R_reads' HO722.out).2.2)); (case side2 => exact (Kd.R_reads' HO722.out).2.1); rintro e w58 ⟨v732, rfl, ho0, hb⟩; refine ⟨_, rfl, ?_⟩; have HO733 := Aside0.mk (Kd.R_lower (Kd.R_new' ho0 (Kd.R_lt (rS_ HO722.out))) (keep_size (w := w) (g := g) (row := none) kK_)); replace HO722 := Aside0.mk (Kd.R_elder' (rS_ HO722.out) (Kd.R_base ho0) hb); replace HK := Aside0.mk (KeepBut.trans kK_ (KeepBut.of_below hb g none) (.inl rfl)); replace HB := Aside0.mk (below_step bS94_ hb); replace HI0 := Aside0.mk (IsS94.below iS94_ hb); (try clear hb ho0); obtain ⟨Ao59, co59, eo59⟩ := Kd.R_slice HO733.out; subst eo59) | ((with_reducible refine gate_callee (f := 93) rfl ?_); refine gL_ (some 19) Try.func93 #[.pointer (some ⟨g, 0, none⟩), .int .i64 (t731.length : Int)] ?_; (with_reducible refine (spec_l01Next.calls g s0_0 t729 t730 (t731.length : Int) t734 t735 t736 w0 _ ?side1 ?side2 A6.out).mono ?_); (case side1 => exact iS94_); (case side2 => exact bS94_); rintro e w60 ⟨rfl, hi, hb, hk⟩; refine ⟨_, rfl, ?_⟩; replace HO722 := Aside0.mk (Kd.R_mono (Kd.R_keep (IsS94.apart (show IsS94 w0 _ g s0_0 t729 t730 from iS94_) (rS_ HO722.out) (by decide)) hk (fun _ h => h.2)) (fun _ h => h.1)); replace HO733 := Aside0.mk (Kd.R_mono (Kd.R_keep (IsS94.apart (show IsS94 w0 _ g s0_0 t729 t730 from iS94_) (rS_ HO733.out) (by decide)) hk (fun _ h => h.2)) (fun _ h => h.1)); replace HK := Aside0.mk (KeepBut.trans kK_ hk (.inl rfl)); replace HB := Aside0.mk (hb); replace HI0 := Aside0.mk (hi); (try clear hb hk hi)) | ((with_reducible refine gate_callee (f := 93) rfl ?_); refine gL_ (some 21) Try.func93 #[.pointer (some ⟨g, 0, none⟩), .int .i64 24] ?_; (with_reducible refine (spec_l01Next.calls g s0_0 t735 t736 24 t737 t738 t739 w0 _ ?side1 ?side2 A7.out).mono ?_); (case side1 => exact iS94_); (case side2 => exact bS94_); rintro e w61 ⟨rfl, hi, hb, hk⟩; refine ⟨_, rfl, ?_⟩; replace HO722 := Aside0.mk (Kd.R_mono (Kd.R_keep (IsS94.apart (show IsS94 w0 _ g s0_0 t735 t736 from iS94_) (rS_ HO722.out) (by decide)) hk (fun _ h => h.2)) (fun _ h => h.1)); replace HO733 := Aside0.mk (Kd.R_mono (Kd.R_keep (IsS94.apart (show IsS94 w0 _ g s0_0 t735 t736 from iS94_) (rS_ HO733.out) (by decide)) hk (fun _ h => h.2)) (fun _ h => h.1)); replace HK := Aside0.mk (KeepBut.trans kK_ hk (.inl rfl)); replace HB := Aside0.mk (hb); replace HI0 := Aside0.mk (hi); (try clear hb hk hi)) | ((with_reducible refine gate_dst (N := 48) rfl ?_); refine Kd.R_lit k55 _ 55 ?hg (N := 48) ?hd (xs := ([] : List (S55))) (inner := []) (ok := fun _ => True) (okp := fun _ => True) ?hr ?hp (fun _ hk => hk) trivial (Below.refl _ _) (Nat.le_refl _) (by simp) ?_; (case hd => rfl); (case hg => rfl); (case hr => first | (go_simp; done) | (go_simp; rfl)); (case hp => exact (Reps.none _ _)); intro v756 w62 ho63 hb hg_ hnew_; clear hg_ hnew_; (first | rw [← Ny755.out] at ho63 | (simp only [Int.reduceToNat] at ho63; rw [← Ny755.out] at ho63)); have HO757 := Aside0.mk (Kd.R_lower (Kd.R_new' (Kd.R_new' ho63 (Kd.R_lt (rS_ HO722.out))) (Kd.R_lt (rS_ HO733.out))) (keep_size (w := w) (g := g) (row := none) kK_)); replace HO722 := Aside0.mk (Kd.R_elder' (rS_ HO722.out) (Kd.R_base ho63) hb); replace HO733 := Aside0.mk (Kd.R_elder' (rS_ HO733.out) (Kd.R_base ho63) hb); replace HK := Aside0.mk (KeepBut.trans kK_ (KeepBut.of_below hb g none) (.inl rfl)); replace HB := Aside0.mk (below_step bS94_ hb); replace HI0 := Aside0.mk (IsS94.below iS94_ hb); clear hb ho63))
     go_loopg [5, 6] k (fun kq v5 v6 w' => ∃ (x5_1 : List (S55)) (x6_1 : Int) (x1001_1 : Int) (x1002_1 : Int), v6 = .int .i64 x6_1 ∧ Aside0 (spec_l02Draw.l0 kq x5_1 x6_1 s0_0 x1001_1 x1002_1 = some (r1, r2, r3)) ∧ Aside0 (kq ≤ k) ∧ Aside0 (Kd.R k55 55 w' w.heap.size (fun _ => True) v5 x5_1) ∧ Aside0 (IsS94 w0 w' g s0_0 x1001_1 x1002_1) ∧ Aside0 (KeepBut w w' g none) ∧ Aside0 (Below w0.heap.size w0 w'))
     case atStart => exact ⟨(y755), (0), (t738), (t739), r3_, H', ⟨Nat.le_refl _⟩, ⟨rS_ (Kd.R_mono HO757.out (fun _ hk => trivial))⟩, ⟨iS94_⟩, ⟨kK_⟩, ⟨bS94_⟩⟩
     case round =>
      clear H'
      try clear c1
      try clear p1
      try clear q1
      try clear hx1
      try clear hf1
      try clear c2
      try clear p2
      try clear hx2
      try clear hf2
      try clear c3
      try clear c4
      try clear c5
      try clear p6
      try clear p7
      try clear q7
      try clear hx7
      try clear c8
      try clear c8b0
      try clear c8b1
      try clear c9
      try clear c10
      try clear c10b0
      try clear c11
      try clear c11b0
      try clear c12
      try clear c12b0
      try clear c13
      try clear c13b0
      try clear c14
      try clear p14
      try clear q14
      try clear hx14
      try clear hf14
      try clear c28
      try clear hx28
      try clear hf28
      try clear c31
      try clear c31b0
      try clear c31b1
      try clear c32
      try clear c32b0
      try clear c33
      try clear c33b0
      try clear c34
      try clear c44
      try clear c44b0
      try clear c44b1
      try clear c53
      try clear c53b0
      try clear c53b1
      try clear hx14_0
      try clear hx14_1
      try clear hx28_0
      try clear hx746_0
      try clear hx751_0
      try clear hx751_1
      try clear p14
      try clear p746
      try clear p751
      try clear q14
      try clear q746
      try clear q751
      obtain ⟨x5_1, x6_1, x1001_1, x1002_1, rfl, HA, HK1, HO_5, HI0, HK, HB⟩ := hrel
      cases gk with
      | zero => exact absurd HA.out (by simp [spec_l02Draw.l0])
      | succ k1 =>
       have H := HA.out
       clear HA
       simp only [spec_l02Draw.l0] at H
       replace H := Option.bind_eq_some_iff.mp H
       obtain ⟨⟨t758, t759, t760⟩, A640, H⟩ := H
       try dsimp only at H
       have A64 := Aside0.mk A640
       clear A640
       by_cases c65 : x6_1 < (wrap64 (40 + t758))
       ·rw [if_pos c65] at H
        have c65b0 : decide (x6_1 < (wrap64 (40 + t758))) = true := decide_eq_true c65
        clear c65
        by_cases c66 : x5_1.length < 8796093022208
        ·rw [if_pos c66] at H
         have LMc66 := Aside0.mk c66
         clear c66
         obtain ⟨y761, hY_⟩ : ∃ y_ : List (S55), y_ = (x5_1 ++ [(⟨x6_1, 0⟩ : S55)]) := ⟨_, rfl⟩
         replace H : (spec_l02Draw.l0 k1 y761 (wrap64 (x6_1 + 1)) s0_0 t759 t760) = some (r1, r2, r3) := yY_
         have Ny761 := Aside0.mk hY_
         clear hY_
         have H' := Aside0.mk H
         clear H
         go_wp2_with (first | ((with_reducible refine gate_callee (f := 93) rfl ?_); refine gL_ (some 51) Try.func93 #[.pointer (some ⟨g, 0, none⟩), .int .i64 2] ?_; (with_reducible refine (spec_l01Next.calls g s0_0 x1001_1 x1002_1 2 t758 t759 t760 w0 _ ?side1 ?side2 A64.out).mono ?_); (case side1 => exact iS94_); (case side2 => exact bS94_); rintro e w67 ⟨rfl, hi, hb, hk⟩; refine ⟨_, rfl, ?_⟩; replace HO_5 := Aside0.mk (Kd.R_mono (Kd.R_keep (IsS94.apart (show IsS94 w0 _ g s0_0 x1001_1 x1002_1 from iS94_) (rS_ HO_5.out) (by decide)) hk (fun _ h => h.2)) (fun _ h => h.1)); replace HK := Aside0.mk (KeepBut.trans kK_ hk (.inl rfl)); replace HB := Aside0.mk (hb); replace HI0 := Aside0.mk (hi); (try clear hb hk hi)) | ((with_reducible refine gate_builtin (b := .append) (xs := #[.tmp 56, .tmp 59]) rfl ?_); at_builtin; refine Kd.R_append k55 w.heap.size rfl (.tmp 56) (.tmp 59) 27 55 (.agg #[(.int .i64 0), (.int .i64 0)]) 16 rfl Try.underlying27 info55 rfl (by decide) (by omega) u5 x5_1 (⟨x6_1, 0⟩ : S55) [.int .i64 x6_1, .int .i64 0] (fun _ => True) (fun _ => False) rfl rfl ?aP (fun _ hk => hk.elim) ?aF ?aO (Below.refl _ _) ?aS ?aL ?_; (case aP => exact k55_mkM _ _ _ (⟨x6_1, 0⟩ : S55)); (case aF => exact (fun _ _ => trivial)); (case aO => exact (rS_ HO_5.out)); (case aS => exact (keep_size (w := w) (g := g) (row := none) kK_)); (case aL => have := LMc66.out; omega); intro v762 w68 ho hb hg hat; rw [← Ny761.out] at ho; replace HB := Aside0.mk (below_weaken bS94_ HL.out hb); replace HI0 := Aside0.mk (IsS94.grown iS94_ hg (IsS94.own_ne HI0.out HO_5.out (by decide))); replace HK := Aside0.mk (KeepBut.trans kK_ (KeepBut.of_grown hg g) (Kd.R_base2 HO_5.out)); have HO763 := Aside0.mk (ho); clear HO_5; clear ho hb hg hat))
         go_roundg k1
         case measure => have := HK1.out; omega
         case rel => exact ⟨(y761), (wrap64 (x6_1 + 1)), (t759), (t760), r3_, H', ⟨by have := HK1.out; omega⟩, ⟨rS_ HO763.out⟩, ⟨iS94_⟩, ⟨kK_⟩, ⟨bS94_⟩⟩
        ·rw [if_neg c66] at H
         exact absurd H (by simp)
       ·rw [if_neg c65] at H
        have c65b0 : decide (x6_1 < (wrap64 (40 + t758))) = false := decide_eq_false c65
        clear c65
        simp only [Option.some.injEq, Prod.mk.injEq] at H
        obtain ⟨rfl, rfl, rfl⟩ := H
        go_wp2_with (first | ((with_reducible refine gate_callee (f := 93) rfl ?_); refine gL_ (some 51) Try.func93 #[.pointer (some ⟨g, 0, none⟩), .int .i64 2] ?_; (with_reducible refine (spec_l01Next.calls g s0_0 x1001_1 x1002_1 2 t758 t759 t760 w0 _ ?side1 ?side2 A64.out).mono ?_); (case side1 => exact iS94_); (case side2 => exact bS94_); rintro e w69 ⟨rfl, hi, hb, hk⟩; refine ⟨_, rfl, ?_⟩; replace HO_5 := Aside0.mk (Kd.R_mono (Kd.R_keep (IsS94.apart (show IsS94 w0 _ g s0_0 x1001_1 x1002_1 from iS94_) (rS_ HO_5.out) (by decide)) hk (fun _ h => h.2)) (fun _ h => h.1)); replace HK := Aside0.mk (KeepBut.trans kK_ hk (.inl rfl)); replace HB := Aside0.mk (hb); replace HI0 := Aside0.mk (hi); (try clear hb hk hi)))
        go_ret
        exact ⟨_, r2_, rS_ HO_5.out, iS94_, bS94_, kK_⟩
    ·rw [if_neg c53] at H
     have c53b0 : (t737 == 3) = false := beq_eq_false_iff_ne.mpr c53
     have c53b1 : (t737 != 3) = true := bne_iff_ne.mpr c53
     by_cases c70 : t737 = 4
     ·rw [if_pos c70] at H
      have c70b0 : (t737 == 4) = true := beq_iff_eq.mpr c70
      have c70b1 : (t737 != 4) = false := bne_eq_false_iff_eq.mpr c70
      clear c70
      by_cases c71 : 0 < (t731.length : Int)
      ·rw [if_pos c71] at H
       have c71b0 : decide (0 < (t731.length : Int)) = true := decide_eq_true c71
       have c71b1 : decide (0 < t731.length) = true := decide_eq_true (by omega)
       clear c71
       obtain ⟨ji72, hji72⟩ : ∃ j_ : Int, (wrap64 ((t731.length : Int) - 1)) = j_ := ⟨_, rfl⟩
       replace H : (if 0 ≤ (ji72) then (if (ji72) < (t731.length : Int) then (if t731.length < 8796093022208 then (some ((t731 ++ [(⟨wrap64 (((rd_T55 t731 0).f0) + 3), wrap64 (((rd_T55 t731 (ji72)).f1) + 2)⟩ : S55)]), t738, t739)) else (none)) else (none)) else (none)) = some (r1, r2, r3) := by first | (rw [hji72] at H; exact H) | (simp only [hji72] at H ⊢; exact H)
       (try rw [hji72] at A2)
       (try rw [hji72] at A3)
       (try rw [hji72] at A4)
       (try rw [hji72] at A5)
       (try rw [hji72] at A6)
       (try rw [hji72] at A7)
       have hji72w : (IntKind.i64.wrap ((t731.length : Int) - 1)) = ji72 := (i64_w _).trans hji72
       by_cases c73 : 0 ≤ (ji72)
       ·rw [if_pos c73] at H
        have c73b0 : decide (0 ≤ (ji72)) = true := decide_eq_true c73
        clear c73
        by_cases c74 : (ji72) < (t731.length : Int)
        ·rw [if_pos c74] at H
         have c74b0 : decide ((ji72) < (t731.length : Int)) = true := decide_eq_true c74
         clear c74
         by_cases c75 : t731.length < 8796093022208
         ·rw [if_pos c75] at H
          have LMc75 := Aside0.mk c75
          clear c75
          obtain ⟨y766, hY_⟩ : ∃ y_ : List (S55), y_ = (t731 ++ [(⟨wrap64 (((rd_T55 t731 0).f0) + 3), wrap64 (((rd_T55 t731 (ji72)).f1) + 2)⟩ : S55)]) := ⟨_, rfl⟩
          replace H : (some (y766, t738, t739)) = some (r1, r2, r3) := yY_
          have Ny766 := Aside0.mk hY_
          clear hY_
          simp only [Option.some.injEq, Prod.mk.injEq] at H
          obtain ⟨rfl, rfl, rfl⟩ := H
          go_enter Try.func94, Try.ntmps94
          try go_wp2_with (first | ((with_reducible refine gate_callee (f := 95) rfl ?_); refine gL_ (some 8) Try.func95 #[.pointer (some ⟨g, 0, none⟩), .int .i64 8] ?_; (with_reducible refine (spec_l02DrawPoly.calls k g s0_0 s0_1 s0_2 8 t720 t723 t724 w0 _ ?side1 ?side2 A2.out).mono ?_); (case side1 => exact iS94_); (case side2 => exact bS94_); rintro e w76 ⟨v721, rfl, ho0, hi, hb, hk⟩; refine ⟨_, rfl, ?_⟩; have HO722 := Aside0.mk (Kd.R_lower ho0 (keep_size (w := w) (g := g) (row := none) kK_)); replace HK := Aside0.mk (KeepBut.trans kK_ hk (.inl rfl)); replace HB := Aside0.mk (hb); replace HI0 := Aside0.mk (hi); (try clear hb hk hi ho0)) | ((with_reducible refine gate_callee (f := 93) rfl ?_); refine gL_ (some 10) Try.func93 #[.pointer (some ⟨g, 0, none⟩), .int .i64 9] ?_; (with_reducible refine (spec_l01Next.calls g s0_0 t723 t724 9 t725 t726 t727 w0 _ ?side1 ?side2 A3.out).mono ?_); (case side1 => exact iS94_); (case side2 => exact bS94_); rintro e w77 ⟨rfl, hi, hb, hk⟩; refine ⟨_, rfl, ?_⟩; replace HO722 := Aside0.mk (Kd.R_mono (Kd.R_keep (IsS94.apart (show IsS94 w0 _ g s0_0 t723 t724 from iS94_) (rS_ HO722.out) (by decide)) hk (fun _ h => h.2)) (fun _ h => h.1)); replace HK := Aside0.mk (KeepBut.trans kK_ hk (.inl rfl)); replace HB := Aside0.mk (hb); replace HI0 := Aside0.mk (hi); (try clear hb hk hi)) | ((with_reducible refine gate_callee (f := 93) rfl ?_); refine gL_ (some 13) Try.func93 #[.pointer (some ⟨g, 0, none⟩), .int .i64 9] ?_; (with_reducible refine (spec_l01Next.calls g s0_0 t726 t727 9 t728 t729 t730 w0 _ ?side1 ?side2 A4.out).mono ?_); (case side1 => exact iS94_); (case side2 => exact bS94_); rintro e w78 ⟨rfl, hi, hb, hk⟩; refine ⟨_, rfl, ?_⟩; replace HO722 := Aside0.mk (Kd.R_mono (Kd.R_keep (IsS94.apart (show IsS94 w0 _ g s0_0 t726 t727 from iS94_) (rS_ HO722.out) (by decide)) hk (fun _ h => h.2)) (fun _ h => h.1)); replace HK := Aside0.mk (KeepBut.trans kK_ hk (.inl rfl)); replace HB := Aside0.mk (hb); replace HI0 := Aside0.mk (hi); (try clear hb hk hi); obtain ⟨Ao79, co79, eo79⟩ := Kd.R_slice HO722.out; subst eo79) | ((with_reducible refine gate_callee (f := 109) rfl ?_); refine gL_ (some 15) Try.func109 #[.slice Ao79 t720.length co79, .int .i64 (wrap64 (t725 - 4)), .int .i64 (wrap64 (t728 - 4))] ?_; (with_reducible refine (spec_l02Move.calls k _ _ t720 (wrap64 (t725 - 4)) (wrap64 (t728 - 4)) t731 _ ?side1 ?side2 A5.out).mono ?_); (case side1 => exact cS_ ((Kd.R_reads' HO722.out).2.2)); (case side2 => exact (Kd.R_reads' HO722.out).2.1); rintro e w80 ⟨v732, rfl, ho0, hb⟩; refine ⟨_, rfl, ?_⟩; have HO733 := Aside0.mk (Kd.R_lower (Kd.R_new' ho0 (Kd.R_lt (rS_ HO722.out))) (keep_size (w := w) (g := g) (row := none) kK_)); replace HO722 := Aside0.mk (Kd.R_elder' (rS_ HO722.out) (Kd.R_base ho0) hb); replace HK := Aside0.mk (KeepBut.trans kK_ (KeepBut.of_below hb g none) (.inl rfl)); replace HB := Aside0.mk (below_step bS94_ hb); replace HI0 := Aside0.mk (IsS94.below iS94_ hb); (try clear hb ho0); obtain ⟨Ao81, co81, eo81⟩ := Kd.R_slice HO733.out; subst eo81) | ((with_reducible refine gate_callee (f := 93) rfl ?_); refine gL_ (some 19) Try.func93 #[.pointer (some ⟨g, 0, none⟩), .int .i64 (t731.length : Int)] ?_; (with_reducible refine (spec_l01Next.calls g s0_0 t729 t730 (t731.length : Int) t734 t735 t736 w0 _ ?side1 ?side2 A6.out).mono ?_); (case side1 => exact iS94_); (case side2 => exact bS94_); rintro e w82 ⟨rfl, hi, hb, hk⟩; refine ⟨_, rfl, ?_⟩; replace HO722 := Aside0.mk (Kd.R_mono (Kd.R_keep (IsS94.apart (show IsS94 w0 _ g s0_0 t729 t730 from iS94_) (rS_ HO722.out) (by decide)) hk (fun _ h => h.2)) (fun _ h => h.1)); replace HO733 := Aside0.mk (Kd.R_mono (Kd.R_keep (IsS94.apart (show IsS94 w0 _ g s0_0 t729 t730 from iS94_) (rS_ HO733.out) (by decide)) hk (fun _ h => h.2)) (fun _ h => h.1)); replace HK := Aside0.mk (KeepBut.trans kK_ hk (.inl rfl)); replace HB := Aside0.mk (hb); replace HI0 := Aside0.mk (hi); (try clear hb hk hi)) | ((with_reducible refine gate_callee (f := 93) rfl ?_); refine gL_ (some 21) Try.func93 #[.pointer (some ⟨g, 0, none⟩), .int .i64 24] ?_; (with_reducible refine (spec_l01Next.calls g s0_0 t735 t736 24 t737 t738 t739 w0 _ ?side1 ?side2 A7.out).mono ?_); (case side1 => exact iS94_); (case side2 => exact bS94_); rintro e w83 ⟨rfl, hi, hb, hk⟩; refine ⟨_, rfl, ?_⟩; replace HO722 := Aside0.mk (Kd.R_mono (Kd.R_keep (IsS94.apart (show IsS94 w0 _ g s0_0 t735 t736 from iS94_) (rS_ HO722.out) (by decide)) hk (fun _ h => h.2)) (fun _ h => h.1)); replace HO733 := Aside0.mk (Kd.R_mono (Kd.R_keep (IsS94.apart (show IsS94 w0 _ g s0_0 t735 t736 from iS94_) (rS_ HO733.out) (by decide)) hk (fun _ h => h.2)) (fun _ h => h.1)); replace HK := Aside0.mk (KeepBut.trans kK_ hk (.inl rfl)); replace HB := Aside0.mk (hb); replace HI0 := Aside0.mk (hi); (try clear hb hk hi)))
          replace HO722 := Aside0.mk (Kd.R_drew HO722.out)
          replace HO733 := Aside0.mk (Kd.R_drew HO733.out)
          replace HI0 := Aside0.mk (IsS94.drew HI0.out)
          replace HK := Aside0.mk (keep_drew HK.out)
          replace HB := Aside0.mk (below_drew1 HB.out)
          have p764 : 0 ≤ (0 : Int) := (by omega)
          have q764 : 0 < (t731.length : Int) := of_decide_eq_true aS_
          obtain ⟨ad764, e764, hx764_0, hx764_1⟩ := at_T55 (Kd.R_reads' HO733.out).2.2 0 p764 q764
          cases e764
          have qi764 : (0 < t731.length) = True := eq_true (by omega)
          (try rw [show ((0 : Int)).toNat = 0 from rfl] at hx764_0)
          (try rw [show 0 * 2 = 0 from rfl] at hx764_0)
          (try rw [Addr.add_zero'] at hx764_0)
          (try rw [show ((0 : Int)).toNat = 0 from rfl] at hx764_1)
          (try rw [show 0 * 2 = 0 from rfl] at hx764_1)
          (try rw [Addr.add_zero'] at hx764_1)
          replace p764 := eq_true p764
          replace q764 := eq_true q764
          have p765 : 0 ≤ ((ji72) : Int) := of_decide_eq_true aS_
          have q765 : (ji72) < (t731.length : Int) := of_decide_eq_true aS_
          obtain ⟨ad765, e765, hx765_0, hx765_1⟩ := at_T55 (Kd.R_reads' HO733.out).2.2 (ji72) p765 q765
          obtain rfl : ad764 = ad765 := (by injection e765)
          replace p765 := eq_true p765
          replace q765 := eq_true q765
          refine start_ (n := 18) (S := fun w' => w'.cell? ad764 = some (.int .i64 ((rd_T55 t731 0).f0)) ∧ w'.cell? ⟨ad764.block, ad764.off + 1, none⟩ = some (.int .i64 ((rd_T55 t731 0).f1)) ∧ w'.cell? (ad764.add (((ji72)).toNat * 2)) = some (.int .i64 ((rd_T55 t731 (ji72)).f0)) ∧ w'.cell? ⟨(ad764.add (((ji72)).toNat * 2)).block, (ad764.add (((ji72)).toNat * 2)).off + 1, none⟩ = some (.int .i64 ((rd_T55 t731 (ji72)).f1))) (ds := [15, 16]) #[F, F, F, F, F, F, F, F, F, F, F, F, F, F, F, F, F, F] (by kernel_rfl) rfl rfl ⟨hx764_0, hx764_1, hx765_0, hx765_1⟩ (fun hHeld => ?_); refine with_tabW spec_l02Draw.tab20 spec_l02Draw.bits20 (fun HT_ HW_ => ?_)
          generalize w83.drew = w84 at HO722 HO733 HI0 HK HB hx764_0 hx764_1 hx765_0 hx765_1 hHeld ⊢
          refine pu_ HT_ 0 (some 65) #[T,F,F,F,F,F,F,F,F,F,F,F,F,F,F,F,F,F] ?_
          refine pu_ HT_ 1 (some 66) #[T,T,F,F,F,F,F,F,F,F,F,F,F,F,F,F,F,F] ?_
          refine pu_ HT_ 2 (some 67) #[T,T,T,F,F,F,F,F,F,F,F,F,F,F,F,F,F,F] ?_
          refine pu_ HT_ 3 (some 68) #[T,T,T,T,F,F,F,F,F,F,F,F,F,F,F,F,F,F] ?_
          refine pu_ HT_ 6 (some 71) #[T,T,T,T,F,F,T,F,F,F,F,F,F,F,F,F,F,F] ?_
          refine pu_ HT_ 7 (some 72) #[T,T,T,T,F,F,T,T,F,F,F,F,F,F,F,F,F,F] ?_
          refine pu_ HT_ 8 (some 73) #[T,T,T,T,F,F,T,T,T,F,F,F,F,F,F,F,F,F] ?_
          refine pu_ HT_ 9 (some 74) #[T,T,T,T,F,F,T,T,T,T,F,F,F,F,F,F,F,F] ?_
          refine pu_ HT_ 10 (some 75) #[T,T,T,T,F,F,T,T,T,T,T,F,F,F,F,F,F,F] ?_
          refine pu_ HT_ 11 (some 76) #[T,T,T,T,F,F,T,T,T,T,T,T,F,F,F,F,F,F] ?_
          refine take_ (i := 4) (N := some 69) (v := ?_) (a' := ?_) #[T, T, T, T, T, F, T, T, T, T, T, T, F, F, F, F, F, F] rfl rfl (take_ofW HT_.out HW_.out (by kernel_rfl)) (fun _ _ _ h => h) (Or.inl ⟨by rfl, ?_⟩) hHeld ?_ ?_
          rotate_left
          ·rintro w' ⟨s0, s1, s2, s3⟩
           go_simp
           with_reducible rfl
          rotate_left
          ·simp only [Act.put, List.setIfInBounds_toArray, List.set_cons_zero, List.set_cons_succ, i64_w, i32_w]
           rfl
          refine pu_ HT_ 5 (some 70) #[T,T,T,T,T,T,T,T,T,T,T,T,F,F,F,F,F,F] ?_
          refine take_ (i := 12) (N := some 77) (v := ?_) (a' := ?_) #[T, T, T, T, T, T, T, T, T, T, T, T, T, F, F, F, F, F] rfl rfl (take_ofW HT_.out HW_.out (by kernel_rfl)) (fun _ _ _ h => h) (Or.inl ⟨by rfl, ?_⟩) hHeld ?_ ?_
          rotate_left
          ·rintro w' ⟨s0, s1, s2, s3⟩
           go_simp
           with_reducible rfl
          rotate_left
          ·simp only [Act.put, List.setIfInBounds_toArray, List.set_cons_zero, List.set_cons_succ, i64_w, i32_w]
           rfl
          refine pu_ HT_ 13 (some 78) #[T,T,T,T,T,T,T,T,T,T,T,T,T,T,F,F,F,F] ?_
          refine pu_ HT_ 14 (some 79) #[T,T,T,T,T,T,T,T,T,T,T,T,T,T,T,F,F,F] ?_
          refine last_ (i := 15) (N := some 80) #[T, T, T, T, T, T, T, T, T, T, T, T, T, T, T, T, F, F] rfl rfl (one_of HT_.out (by kernel_rfl)) (by decide) (fun K hK => ?_)
          refine value_ (w1 := ?_) (v := ?_) (by rfl) rfl ?_ ?_
          rotate_left 2
          ·go_simp
           constructor
           ·rfl
           ·rfl
          refine hK.out _ _ ?_
          clear hK K
          refine no_ (some 80) ?_
          refine last_ (i := 16) (N := some 81) #[T, T, T, T, T, T, T, T, T, T, T, T, T, T, T, T, T, F] rfl rfl (one_of HT_.out (by kernel_rfl)) (by decide) (fun K hK => ?_)
          refine Kd.R_append_step k55 w.heap.size (by rfl) (.tmp 65) (.tmp 80) 27 55 (.agg #[(.int .i64 0), (.int .i64 0)]) 16 rfl Try.underlying27 info55 rfl (by decide) (by omega) (.slice (some ad764) t731.length co81) t731 (⟨wrap64 (((rd_T55 t731 0).f0) + 3), wrap64 (((rd_T55 t731 (ji72)).f1) + 2)⟩ : S55) [.int .i64 (wrap64 (((rd_T55 t731 0).f0) + 3)), .int .i64 (wrap64 (((rd_T55 t731 (ji72)).f1) + 2))] (fun k_ => some k_ ≠ (.slice Ao79 t720.length co79 : Value).ownBlock) (fun _ => False) rfl rfl ?aP (fun _ hk => hk.elim) ?aF ?aO (Below.refl _ _) ?aS ?aL ?_
          (case aP => exact k55_mkM _ _ _ (⟨wrap64 (((rd_T55 t731 0).f0) + 3), wrap64 (((rd_T55 t731 (ji72)).f1) + 2)⟩ : S55))
          (case aF => exact (fun k_ hk => Kd.fresh' (Kd.R_lt (rS_ HO722.out)) k_ hk))
          (case aO => exact (rS_ (Kd.R_mono HO733.out (fun _ hk => hk.2))))
          (case aS => exact (keep_size (w := w) (g := g) (row := none) kK_))
          (case aL => have := LMc75.out; omega)
          intro v767 w85 ho hb hg hat
          rw [← Ny766.out] at ho
          replace HO722 := Aside0.mk (Kd.R_after (ok := (fun _ => True)) (rS_ HO722.out) hg hat)
          replace HB := Aside0.mk (below_weaken bS94_ HL.out hb)
          replace HI0 := Aside0.mk (IsS94.grown iS94_ hg (IsS94.own_ne HI0.out HO733.out (by decide)))
          replace HK := Aside0.mk (KeepBut.trans kK_ (KeepBut.of_grown hg g) (Kd.R_base2 HO733.out))
          have HO768 := Aside0.mk (ho)
          clear HO733
          clear ho hb hg hat
          refine hK.out _ _ ?_
          clear hK K
          refine no_ (some 81) ?_
          refine pu_ HT_ 17 (some 2) #[T,T,T,T,T,T,T,T,T,T,T,T,T,T,T,T,T,T] ?_
          refine done_ (done_of HT_.out (by kernel_rfl)) ?_
          try go_wp2
          go_ret
          exact ⟨_, by first | rfl | (simp [errW_none, errW_some] <;> rfl) | (simp only [← hji72]; first | rfl | (simp [errW_none, errW_some] <;> rfl)) | (simp [*, errW_none, errW_some] <;> rfl), rS_ (Kd.R_mono HO768.out (fun _ hk => trivial)), iS94_, bS94_, kK_⟩
         ·rw [if_neg c75] at H
          exact absurd H (by simp)
        ·rw [if_neg c74] at H
         exact absurd H (by simp)
       ·rw [if_neg c73] at H
        exact absurd H (by simp)
      ·rw [if_neg c71] at H
       exact absurd H (by simp)
     ·rw [if_neg c70] at H
      have c70b0 : (t737 == 4) = false := beq_eq_false_iff_ne.mpr c70
      have c70b1 : (t737 != 4) = true := bne_iff_ne.mpr c70
      by_cases c86 : t737 = 5
      ·rw [if_pos c86] at H
       have c86b0 : (t737 == 5) = true := beq_iff_eq.mpr c86
       have c86b1 : (t737 != 5) = false := bne_eq_false_iff_eq.mpr c86
       clear c86
       by_cases c87 : 0 < (t731.length : Int)
       ·rw [if_pos c87] at H
        have c87b0 : decide (0 < (t731.length : Int)) = true := decide_eq_true c87
        have c87b1 : decide (0 < t731.length) = true := decide_eq_true (by omega)
        clear c87
        obtain ⟨ji88, hji88⟩ : ∃ j_ : Int, (wrap64 ((t731.length : Int) - 1)) = j_ := ⟨_, rfl⟩
        replace H : (if 0 ≤ (ji88) then (if (ji88) < (t731.length : Int) then (if t731.length < 8796093022208 then (some ((t731 ++ [(⟨wrap64 (((rd_T55 t731 0).f0) + 3), wrap64 (((rd_T55 t731 (ji88)).f1) + 2)⟩ : S55)]), t738, t739)) else (none)) else (none)) else (none)) = some (r1, r2, r3) := by first | (rw [hji88] at H; exact H) | (simp only [hji88] at H ⊢; exact H)
        (try rw [hji88] at A2)
        (try rw [hji88] at A3)
        (try rw [hji88] at A4)
        (try rw [hji88] at A5)
        (try rw [hji88] at A6)
        (try rw [hji88] at A7)
        have hji88w : (IntKind.i64.wrap ((t731.length : Int) - 1)) = ji88 := (i64_w _).trans hji88
        by_cases c89 : 0 ≤ (ji88)
        ·rw [if_pos c89] at H
         have c89b0 : decide (0 ≤ (ji88)) = true := decide_eq_true c89
         clear c89
         by_cases c90 : (ji88) < (t731.length : Int)
         ·rw [if_pos c90] at H
          have c90b0 : decide ((ji88) < (t731.length : Int)) = true := decide_eq_true c90
          clear c90
          by_cases c91 : t731.length < 8796093022208
          ·rw [if_pos c91] at H
           have LMc91 := Aside0.mk c91
           clear c91
           obtain ⟨y771, hY_⟩ : ∃ y_ : List (S55), y_ = (t731 ++ [(⟨wrap64 (((rd_T55 t731 0).f0) + 3), wrap64 (((rd_T55 t731 (ji88)).f1) + 2)⟩ : S55)]) := ⟨_, rfl⟩
           replace H : (some (y771, t738, t739)) = some (r1, r2, r3) := yY_
           have Ny771 := Aside0.mk hY_
           clear hY_
           simp only [Option.some.injEq, Prod.mk.injEq] at H
           obtain ⟨rfl, rfl, rfl⟩ := H
           go_enter Try.func94, Try.ntmps94
           try go_wp2_with (first | ((with_reducible refine gate_callee (f := 95) rfl ?_); refine gL_ (some 8) Try.func95 #[.pointer (some ⟨g, 0, none⟩), .int .i64 8] ?_; (with_reducible refine (spec_l02DrawPoly.calls k g s0_0 s0_1 s0_2 8 t720 t723 t724 w0 _ ?side1 ?side2 A2.out).mono ?_); (case side1 => exact iS94_); (case side2 => exact bS94_); rintro e w92 ⟨v721, rfl, ho0, hi, hb, hk⟩; refine ⟨_, rfl, ?_⟩; have HO722 := Aside0.mk (Kd.R_lower ho0 (keep_size (w := w) (g := g) (row := none) kK_)); replace HK := Aside0.mk (KeepBut.trans kK_ hk (.inl rfl)); replace HB := Aside0.mk (hb); replace HI0 := Aside0.mk (hi); (try clear hb hk hi ho0)) | ((with_reducible refine gate_callee (f := 93) rfl ?_); refine gL_ (some 10) Try.func93 #[.pointer (some ⟨g, 0, none⟩), .int .i64 9] ?_; (with_reducible refine (spec_l01Next.calls g s0_0 t723 t724 9 t725 t726 t727 w0 _ ?side1 ?side2 A3.out).mono ?_); (case side1 => exact iS94_); (case side2 => exact bS94_); rintro e w93 ⟨rfl, hi, hb, hk⟩; refine ⟨_, rfl, ?_⟩; replace HO722 := Aside0.mk (Kd.R_mono (Kd.R_keep (IsS94.apart (show IsS94 w0 _ g s0_0 t723 t724 from iS94_) (rS_ HO722.out) (by decide)) hk (fun _ h => h.2)) (fun _ h => h.1)); replace HK := Aside0.mk (KeepBut.trans kK_ hk (.inl rfl)); replace HB := Aside0.mk (hb); replace HI0 := Aside0.mk (hi); (try clear hb hk hi)) | ((with_reducible refine gate_callee (f := 93) rfl ?_); refine gL_ (some 13) Try.func93 #[.pointer (some ⟨g, 0, none⟩), .int .i64 9] ?_; (with_reducible refine (spec_l01Next.calls g s0_0 t726 t727 9 t728 t729 t730 w0 _ ?side1 ?side2 A4.out).mono ?_); (case side1 => exact iS94_); (case side2 => exact bS94_); rintro e w94 ⟨rfl, hi, hb, hk⟩; refine ⟨_, rfl, ?_⟩; replace HO722 := Aside0.mk (Kd.R_mono (Kd.R_keep (IsS94.apart (show IsS94 w0 _ g s0_0 t726 t727 from iS94_) (rS_ HO722.out) (by decide)) hk (fun _ h => h.2)) (fun _ h => h.1)); replace HK := Aside0.mk (KeepBut.trans kK_ hk (.inl rfl)); replace HB := Aside0.mk (hb); replace HI0 := Aside0.mk (hi); (try clear hb hk hi); obtain ⟨Ao95, co95, eo95⟩ := Kd.R_slice HO722.out; subst eo95) | ((with_reducible refine gate_callee (f := 109) rfl ?_); refine gL_ (some 15) Try.func109 #[.slice Ao95 t720.length co95, .int .i64 (wrap64 (t725 - 4)), .int .i64 (wrap64 (t728 - 4))] ?_; (with_reducible refine (spec_l02Move.calls k _ _ t720 (wrap64 (t725 - 4)) (wrap64 (t728 - 4)) t731 _ ?side1 ?side2 A5.out).mono ?_); (case side1 => exact cS_ ((Kd.R_reads' HO722.out).2.2)); (case side2 => exact (Kd.R_reads' HO722.out).2.1); rintro e w96 ⟨v732, rfl, ho0, hb⟩; refine ⟨_, rfl, ?_⟩; have HO733 := Aside0.mk (Kd.R_lower (Kd.R_new' ho0 (Kd.R_lt (rS_ HO722.out))) (keep_size (w := w) (g := g) (row := none) kK_)); replace HO722 := Aside0.mk (Kd.R_elder' (rS_ HO722.out) (Kd.R_base ho0) hb); replace HK := Aside0.mk (KeepBut.trans kK_ (KeepBut.of_below hb g none) (.inl rfl)); replace HB := Aside0.mk (below_step bS94_ hb); replace HI0 := Aside0.mk (IsS94.below iS94_ hb); (try clear hb ho0); obtain ⟨Ao97, co97, eo97⟩ := Kd.R_slice HO733.out; subst eo97) | ((with_reducible refine gate_callee (f := 93) rfl ?_); refine gL_ (some 19) Try.func93 #[.pointer (some ⟨g, 0, none⟩), .int .i64 (t731.length : Int)] ?_; (with_reducible refine (spec_l01Next.calls g s0_0 t729 t730 (t731.length : Int) t734 t735 t736 w0 _ ?side1 ?side2 A6.out).mono ?_); (case side1 => exact iS94_); (case side2 => exact bS94_); rintro e w98 ⟨rfl, hi, hb, hk⟩; refine ⟨_, rfl, ?_⟩; replace HO722 := Aside0.mk (Kd.R_mono (Kd.R_keep (IsS94.apart (show IsS94 w0 _ g s0_0 t729 t730 from iS94_) (rS_ HO722.out) (by decide)) hk (fun _ h => h.2)) (fun _ h => h.1)); replace HO733 := Aside0.mk (Kd.R_mono (Kd.R_keep (IsS94.apart (show IsS94 w0 _ g s0_0 t729 t730 from iS94_) (rS_ HO733.out) (by decide)) hk (fun _ h => h.2)) (fun _ h => h.1)); replace HK := Aside0.mk (KeepBut.trans kK_ hk (.inl rfl)); replace HB := Aside0.mk (hb); replace HI0 := Aside0.mk (hi); (try clear hb hk hi)) | ((with_reducible refine gate_callee (f := 93) rfl ?_); refine gL_ (some 21) Try.func93 #[.pointer (some ⟨g, 0, none⟩), .int .i64 24] ?_; (with_reducible refine (spec_l01Next.calls g s0_0 t735 t736 24 t737 t738 t739 w0 _ ?side1 ?side2 A7.out).mono ?_); (case side1 => exact iS94_); (case side2 => exact bS94_); rintro e w99 ⟨rfl, hi, hb, hk⟩; refine ⟨_, rfl, ?_⟩; replace HO722 := Aside0.mk (Kd.R_mono (Kd.R_keep (IsS94.apart (show IsS94 w0 _ g s0_0 t735 t736 from iS94_) (rS_ HO722.out) (by decide)) hk (fun _ h => h.2)) (fun _ h => h.1)); replace HO733 := Aside0.mk (Kd.R_mono (Kd.R_keep (IsS94.apart (show IsS94 w0 _ g s0_0 t735 t736 from iS94_) (rS_ HO733.out) (by decide)) hk (fun _ h => h.2)) (fun _ h => h.1)); replace HK := Aside0.mk (KeepBut.trans kK_ hk (.inl rfl)); replace HB := Aside0.mk (hb); replace HI0 := Aside0.mk (hi); (try clear hb hk hi)))
           replace HO722 := Aside0.mk (Kd.R_drew HO722.out)
           replace HO733 := Aside0.mk (Kd.R_drew HO733.out)
           replace HI0 := Aside0.mk (IsS94.drew HI0.out)
           replace HK := Aside0.mk (keep_drew HK.out)
           replace HB := Aside0.mk (below_drew1 HB.out)
           have p769 : 0 ≤ (0 : Int) := (by omega)
           have q769 : 0 < (t731.length : Int) := of_decide_eq_true aS_
           obtain ⟨ad769, e769, hx769_0, hx769_1⟩ := at_T55 (Kd.R_reads' HO733.out).2.2 0 p769 q769
           cases e769
           have qi769 : (0 < t731.length) = True := eq_true (by omega)
           (try rw [show ((0 : Int)).toNat = 0 from rfl] at hx769_0)
           (try rw [show 0 * 2 = 0 from rfl] at hx769_0)
           (try rw [Addr.add_zero'] at hx769_0)
           (try rw [show ((0 : Int)).toNat = 0 from rfl] at hx769_1)
           (try rw [show 0 * 2 = 0 from rfl] at hx769_1)
           (try rw [Addr.add_zero'] at hx769_1)
           replace p769 := eq_true p769
           replace q769 := eq_true q769
           have p770 : 0 ≤ ((ji88) : Int) := of_decide_eq_true aS_
           have q770 : (ji88) < (t731.length : Int) := of_decide_eq_true aS_
           obtain ⟨ad770, e770, hx770_0, hx770_1⟩ := at_T55 (Kd.R_reads' HO733.out).2.2 (ji88) p770 q770
           obtain rfl : ad769 = ad770 := (by injection e770)
           replace p770 := eq_true p770
           replace q770 := eq_true q770
           refine start_ (n := 18) (S := fun w' => w'.cell? ad769 = some (.int .i64 ((rd_T55 t731 0).f0)) ∧ w'.cell? ⟨ad769.block, ad769.off + 1, none⟩ = some (.int .i64 ((rd_T55 t731 0).f1)) ∧ w'.cell? (ad769.add (((ji88)).toNat * 2)) = some (.int .i64 ((rd_T55 t731 (ji88)).f0)) ∧ w'.cell? ⟨(ad769.add (((ji88)).toNat * 2)).block, (ad769.add (((ji88)).toNat * 2)).off + 1, none⟩ = some (.int .i64 ((rd_T55 t731 (ji88)).f1))) (ds := [15, 16]) #[F, F, F, F, F, F, F, F, F, F, F, F, F, F, F, F, F, F] (by kernel_rfl) rfl rfl ⟨hx769_0, hx769_1, hx770_0, hx770_1⟩ (fun hHeld => ?_); refine with_tabW spec_l02Draw.tab20 spec_l02Draw.bits20 (fun HT_ HW_ => ?_)
           generalize w99.drew = w100 at HO722 HO733 HI0 HK HB hx769_0 hx769_1 hx770_0 hx770_1 hHeld ⊢
           refine pu_ HT_ 0 (some 65) #[T,F,F,F,F,F,F,F,F,F,F,F,F,F,F,F,F,F] ?_
           refine pu_ HT_ 1 (some 66) #[T,T,F,F,F,F,F,F,F,F,F,F,F,F,F,F,F,F] ?_
           refine pu_ HT_ 2 (some 67) #[T,T,T,F,F,F,F,F,F,F,F,F,F,F,F,F,F,F] ?_
           refine pu_ HT_ 3 (some 68) #[T,T,T,T,F,F,F,F,F,F,F,F,F,F,F,F,F,F] ?_
           refine pu_ HT_ 6 (some 71) #[T,T,T,T,F,F,T,F,F,F,F,F,F,F,F,F,F,F] ?_
           refine pu_ HT_ 7 (some 72) #[T,T,T,T,F,F,T,T,F,F,F,F,F,F,F,F,F,F] ?_
           refine pu_ HT_ 8 (some 73) #[T,T,T,T,F,F,T,T,T,F,F,F,F,F,F,F,F,F] ?_
           refine pu_ HT_ 9 (some 74) #[T,T,T,T,F,F,T,T,T,T,F,F,F,F,F,F,F,F] ?_
           refine pu_ HT_ 10 (some 75) #[T,T,T,T,F,F,T,T,T,T,T,F,F,F,F,F,F,F] ?_
           refine pu_ HT_ 11 (some 76) #[T,T,T,T,F,F,T,T,T,T,T,T,F,F,F,F,F,F] ?_
           refine take_ (i := 4) (N := some 69) (v := ?_) (a' := ?_) #[T, T, T, T, T, F, T, T, T, T, T, T, F, F, F, F, F, F] rfl rfl (take_ofW HT_.out HW_.out (by kernel_rfl)) (fun _ _ _ h => h) (Or.inl ⟨by rfl, ?_⟩) hHeld ?_ ?_
           rotate_left
           ·rintro w' ⟨s0, s1, s2, s3⟩
            go_simp
            with_reducible rfl
           rotate_left
           ·simp only [Act.put, List.setIfInBounds_toArray, List.set_cons_zero, List.set_cons_succ, i64_w, i32_w]
            rfl
           refine pu_ HT_ 5 (some 70) #[T,T,T,T,T,T,T,T,T,T,T,T,F,F,F,F,F,F] ?_
           refine take_ (i := 12) (N := some 77) (v := ?_) (a' := ?_) #[T, T, T, T, T, T, T, T, T, T, T, T, T, F, F, F, F, F] rfl rfl (take_ofW HT_.out HW_.out (by kernel_rfl)) (fun _ _ _ h => h) (Or.inl ⟨by rfl, ?_⟩) hHeld ?_ ?_
           rotate_left
           ·rintro w' ⟨s0, s1, s2, s3⟩
            go_simp
            with_reducible rfl
           rotate_left
           ·simp only [Act.put, List.setIfInBounds_toArray, List.set_cons_zero, List.set_cons_succ, i64_w, i32_w]
            rfl
           refine pu_ HT_ 13 (some 78) #[T,T,T,T,T,T,T,T,T,T,T,T,T,T,F,F,F,F] ?_
           refine pu_ HT_ 14 (some 79) #[T,T,T,T,T,T,T,T,T,T,T,T,T,T,T,F,F,F] ?_
           refine last_ (i := 15) (N := some 80) #[T, T, T, T, T, T, T, T, T, T, T, T, T, T, T, T, F, F] rfl rfl (one_of HT_.out (by kernel_rfl)) (by decide) (fun K hK => ?_)
           refine value_ (w1 := ?_) (v := ?_) (by rfl) rfl ?_ ?_
           rotate_left 2
           ·go_simp
            constructor
            ·rfl
            ·rfl
           refine hK.out _ _ ?_
           clear hK K
           refine no_ (some 80) ?_
           refine last_ (i := 16) (N := some 81) #[T, T, T, T, T, T, T, T, T, T, T, T, T, T, T, T, T, F] rfl rfl (one_of HT_.out (by kernel_rfl)) (by decide) (fun K hK => ?_)
           refine Kd.R_append_step k55 w.heap.size (by rfl) (.tmp 65) (.tmp 80) 27 55 (.agg #[(.int .i64 0), (.int .i64 0)]) 16 rfl Try.underlying27 info55 rfl (by decide) (by omega) (.slice (some ad769) t731.length co97) t731 (⟨wrap64 (((rd_T55 t731 0).f0) + 3), wrap64 (((rd_T55 t731 (ji88)).f1) + 2)⟩ : S55) [.int .i64 (wrap64 (((rd_T55 t731 0).f0) + 3)), .int .i64 (wrap64 (((rd_T55 t731 (ji88)).f1) + 2))] (fun k_ => some k_ ≠ (.slice Ao95 t720.length co95 : Value).ownBlock) (fun _ => False) rfl rfl ?aP (fun _ hk => hk.elim) ?aF ?aO (Below.refl _ _) ?aS ?aL ?_
           (case aP => exact k55_mkM _ _ _ (⟨wrap64 (((rd_T55 t731 0).f0) + 3), wrap64 (((rd_T55 t731 (ji88)).f1) + 2)⟩ : S55))
           (case aF => exact (fun k_ hk => Kd.fresh' (Kd.R_lt (rS_ HO722.out)) k_ hk))
           (case aO => exact (rS_ (Kd.R_mono HO733.out (fun _ hk => hk.2))))
           (case aS => exact (keep_size (w := w) (g := g) (row := none) kK_))
           (case aL => have := LMc91.out; omega)
           intro v772 w101 ho hb hg hat
           rw [← Ny771.out] at ho
           replace HO722 := Aside0.mk (Kd.R_after (ok := (fun _ => True)) (rS_ HO722.out) hg hat)
           replace HB := Aside0.mk (below_weaken bS94_ HL.out hb)
           replace HI0 := Aside0.mk (IsS94.grown iS94_ hg (IsS94.own_ne HI0.out HO733.out (by decide)))
           replace HK := Aside0.mk (KeepBut.trans kK_ (KeepBut.of_grown hg g) (Kd.R_base2 HO733.out))
           have HO773 := Aside0.mk (ho)
           clear HO733
           clear ho hb hg hat
           refine hK.out _ _ ?_
           clear hK K
           refine no_ (some 81) ?_
           refine pu_ HT_ 17 (some 2) #[T,T,T,T,T,T,T,T,T,T,T,T,T,T,T,T,T,T] ?_
           refine done_ (done_of HT_.out (by kernel_rfl)) ?_
           try go_wp2
           go_ret
           exact ⟨_, by first | rfl | (simp [errW_none, errW_some] <;> rfl) | (simp only [← hji88]; first | rfl | (simp [errW_none, errW_some] <;> rfl)) | (simp [*, errW_none, errW_some] <;> rfl), rS_ (Kd.R_mono HO773.out (fun _ hk => trivial)), iS94_, bS94_, kK_⟩
          ·rw [if_neg c91] at H
           exact absurd H (by simp)
         ·rw [if_neg c90] at H
          exact absurd H (by simp)
        ·rw [if_neg c89] at H
         exact absurd H (by simp)
       ·rw [if_neg c87] at H
        exact absurd H (by simp)
      ·rw [if_neg c86] at H
       have c86b0 : (t737 == 5) = false := beq_eq_false_iff_ne.mpr c86
       have c86b1 : (t737 != 5) = true := bne_iff_ne.mpr c86
       simp only [Option.some.injEq, Prod.mk.injEq] at H
       obtain ⟨rfl, rfl, rfl⟩ := H
       go_enter Try.func94, Try.ntmps94
       go_wp2_with (first | ((with_reducible refine gate_callee (f := 95) rfl ?_); refine gL_ (some 8) Try.func95 #[.pointer (some ⟨g, 0, none⟩), .int .i64 8] ?_; (with_reducible refine (spec_l02DrawPoly.calls k g s0_0 s0_1 s0_2 8 t720 t723 t724 w0 _ ?side1 ?side2 A2.out).mono ?_); (case side1 => exact iS94_); (case side2 => exact bS94_); rintro e w102 ⟨v721, rfl, ho0, hi, hb, hk⟩; refine ⟨_, rfl, ?_⟩; have HO722 := Aside0.mk (Kd.R_lower ho0 (keep_size (w := w) (g := g) (row := none) kK_)); replace HK := Aside0.mk (KeepBut.trans kK_ hk (.inl rfl)); replace HB := Aside0.mk (hb); replace HI0 := Aside0.mk (hi); (try clear hb hk hi ho0)) | ((with_reducible refine gate_callee (f := 93) rfl ?_); refine gL_ (some 10) Try.func93 #[.pointer (some ⟨g, 0, none⟩), .int .i64 9] ?_; (with_reducible refine (spec_l01Next.calls g s0_0 t723 t724 9 t725 t726 t727 w0 _ ?side1 ?side2 A3.out).mono ?_); (case side1 => exact iS94_); (case side2 => exact bS94_); rintro e w103 ⟨rfl, hi, hb, hk⟩; refine ⟨_, rfl, ?_⟩; replace HO722 := Aside0.mk (Kd.R_mono (Kd.R_keep (IsS94.apart (show IsS94 w0 _ g s0_0 t723 t724 from iS94_) (rS_ HO722.out) (by decide)) hk (fun _ h => h.2)) (fun _ h => h.1)); replace HK := Aside0.mk (KeepBut.trans kK_ hk (.inl rfl)); replace HB := Aside0.mk (hb); replace HI0 := Aside0.mk (hi); (try clear hb hk hi)) | ((with_reducible refine gate_callee (f := 93) rfl ?_); refine gL_ (some 13) Try.func93 #[.pointer (some ⟨g, 0, none⟩), .int .i64 9] ?_; (with_reducible refine (spec_l01Next.calls g s0_0 t726 t727 9 t728 t729 t730 w0 _ ?side1 ?side2 A4.out).mono ?_); (case side1 => exact iS94_); (case side2 => exact bS94_); rintro e w104 ⟨rfl, hi, hb, hk⟩; refine ⟨_, rfl, ?_⟩; replace HO722 := Aside0.mk (Kd.R_mono (Kd.R_keep (IsS94.apart (show IsS94 w0 _ g s0_0 t726 t727 from iS94_) (rS_ HO722.out) (by decide)) hk (fun _ h => h.2)) (fun _ h => h.1)); replace HK := Aside0.mk (KeepBut.trans kK_ hk (.inl rfl)); replace HB := Aside0.mk (hb); replace HI0 := Aside0.mk (hi); (try clear hb hk hi); obtain ⟨Ao105, co105, eo105⟩ := Kd.R_slice HO722.out; subst eo105) | ((with_reducible refine gate_callee (f := 109) rfl ?_); refine gL_ (some 15) Try.func109 #[.slice Ao105 t720.length co105, .int .i64 (wrap64 (t725 - 4)), .int .i64 (wrap64 (t728 - 4))] ?_; (with_reducible refine (spec_l02Move.calls k _ _ t720 (wrap64 (t725 - 4)) (wrap64 (t728 - 4)) t731 _ ?side1 ?side2 A5.out).mono ?_); (case side1 => exact cS_ ((Kd.R_reads' HO722.out).2.2)); (case side2 => exact (Kd.R_reads' HO722.out).2.1); rintro e w106 ⟨v732, rfl, ho0, hb⟩; refine ⟨_, rfl, ?_⟩; have HO733 := Aside0.mk (Kd.R_lower (Kd.R_new' ho0 (Kd.R_lt (rS_ HO722.out))) (keep_size (w := w) (g := g) (row := none) kK_)); replace HO722 := Aside0.mk (Kd.R_elder' (rS_ HO722.out) (Kd.R_base ho0) hb); replace HK := Aside0.mk (KeepBut.trans kK_ (KeepBut.of_below hb g none) (.inl rfl)); replace HB := Aside0.mk (below_step bS94_ hb); replace HI0 := Aside0.mk (IsS94.below iS94_ hb); (try clear hb ho0); obtain ⟨Ao107, co107, eo107⟩ := Kd.R_slice HO733.out; subst eo107) | ((with_reducible refine gate_callee (f := 93) rfl ?_); refine gL_ (some 19) Try.func93 #[.pointer (some ⟨g, 0, none⟩), .int .i64 (t731.length : Int)] ?_; (with_reducible refine (spec_l01Next.calls g s0_0 t729 t730 (t731.length : Int) t734 t735 t736 w0 _ ?side1 ?side2 A6.out).mono ?_); (case side1 => exact iS94_); (case side2 => exact bS94_); rintro e w108 ⟨rfl, hi, hb, hk⟩; refine ⟨_, rfl, ?_⟩; replace HO722 := Aside0.mk (Kd.R_mono (Kd.R_keep (IsS94.apart (show IsS94 w0 _ g s0_0 t729 t730 from iS94_) (rS_ HO722.out) (by decide)) hk (fun _ h => h.2)) (fun _ h => h.1)); replace HO733 := Aside0.mk (Kd.R_mono (Kd.R_keep (IsS94.apart (show IsS94 w0 _ g s0_0 t729 t730 from iS94_) (rS_ HO733.out) (by decide)) hk (fun _ h => h.2)) (fun _ h => h.1)); replace HK := Aside0.mk (KeepBut.trans kK_ hk (.inl rfl)); replace HB := Aside0.mk (hb); replace HI0 := Aside0.mk (hi); (try clear hb hk hi)) | ((with_reducible refine gate_callee (f := 93) rfl ?_); refine gL_ (some 21) Try.func93 #[.pointer (some ⟨g, 0, none⟩), .int .i64 24] ?_; (with_reducible refine (spec_l01Next.calls g s0_0 t735 t736 24 t737 t738 t739 w0 _ ?side1 ?side2 A7.out).mono ?_); (case side1 => exact iS94_); (case side2 => exact bS94_); rintro e w109 ⟨rfl, hi, hb, hk⟩; refine ⟨_, rfl, ?_⟩; replace HO722 := Aside0.mk (Kd.R_mono (Kd.R_keep (IsS94.apart (show IsS94 w0 _ g s0_0 t735 t736 from iS94_) (rS_ HO722.out) (by decide)) hk (fun _ h => h.2)) (fun _ h => h.1)); replace HO733 := Aside0.mk (Kd.R_mono (Kd.R_keep (IsS94.apart (show IsS94 w0 _ g s0_0 t735 t736 from iS94_) (rS_ HO733.out) (by decide)) hk (fun _ h => h.2)) (fun _ h => h.1)); replace HK := Aside0.mk (KeepBut.trans kK_ hk (.inl rfl)); replace HB := Aside0.mk (hb); replace HI0 := Aside0.mk (hi); (try clear hb hk hi)))
       go_ret
       exact ⟨_, r2_, rS_ (Kd.R_mono HO733.out (fun _ hk => trivial)), iS94_, bS94_, kK_⟩

end Go.Proofs.Ytbkafaoehheioaa.X
