-- Written by xprint.py, a program of this session, on the kit's print.py: functions of the seat in one namespace.
import Derived.Test.YtbkafaoehheioaaXx0
import Derived.Test.YtbkafaoehheioaaXx2
import Derived.Test.YtbkafaoehheioaaXx3
import Derived.Test.YtbkafaoehheioaaXx4
import Derived.Test.YtbkafaoehheioaaXx5
import Derived.Test.YtbkafaoehheioaaXx7
import Derived.Test.YtbkafaoehheioaaXx11
namespace Go.Proofs.Ytbkafaoehheioaa.X
open Go.RowKit Go.Proofs.YtbkafaoehheioaaW.PrintWords Go.Proofs.YtbkafaoehheioaaW.PrintLast Go.Proofs.YtbkafaoehheioaaW.PrintMore
attribute [local go_sem] max2_int min2_int max_two min_two max_three min_three max_four min_four   -- for this text's walks alone
set_option linter.unusedVariables false
set_option linter.unusedSimpArgs false

/-! ### spec_l05DrawOrder: function 66 -/
def spec_l05DrawOrder.f (s0_0 : List Int) (s0_1 : Int) (s0_2 : Int) : Option (Int × Int × Int) := (some (([1, 2, 3, 4, 4, 5, 5, 3, 6, 7, 0, 2] : List Int) : List Int)).bind fun y952 => ((spec_l01Next.f s0_0 s0_1 s0_2 12).bind fun bt955 => (if 0 ≤ bt955.1 then (if bt955.1 < (y952.length : Int) then (some (rd y952 bt955.1, bt955.2.1, bt955.2.2)) else (none)) else (none)))
set_option maxHeartbeats 8000000 in
set_option maxRecDepth 100000 in
theorem spec_l05DrawOrder.calls (g : Nat) (s0_0 : List Int) (s0_1 : Int) (s0_2 : Int) (r1 : Int) (r2 : Int) (r3 : Int) (w0 w : World) (hI : IsS94 w0 w g s0_0 s0_1 s0_2) (hB : Below w0.heap.size w0 w) (h : spec_l05DrawOrder.f s0_0 s0_1 s0_2 = some (r1, r2, r3)) :
  Calls Try.prog 66 #[.pointer (some ⟨g, 0, none⟩)] w fun e w' => e = .returned (.int .i64 r1) ∧ IsS94 w0 w' g s0_0 r2 r3 ∧ Below w0.heap.size w0 w' ∧ KeepBut w w' g none := by
 have HI0 := Aside0.mk hI
 have HK := Aside0.mk (KeepBut.refl w g none)
 have HL := Aside0.mk hB.size
 clear hI
 have HW0 := Aside0.mk hB.size
 have HB := Aside0.mk hB
 clear hB
 have H : ((some (([1, 2, 3, 4, 4, 5, 5, 3, 6, 7, 0, 2] : List Int) : List Int)).bind fun y952 => ((spec_l01Next.f s0_0 s0_1 s0_2 12).bind fun bt955 => (if 0 ≤ bt955.1 then (if bt955.1 < (y952.length : Int) then (some (rd y952 bt955.1, bt955.2.1, bt955.2.2)) else (none)) else (none)))) = some (r1, r2, r3) := h
 clear h
 obtain ⟨y952, hy952⟩ : ∃ y_ : List Int, y_ = (([1, 2, 3, 4, 4, 5, 5, 3, 6, 7, 0, 2] : List Int)) := ⟨_, rfl⟩
 replace H : ((spec_l01Next.f s0_0 s0_1 s0_2 12).bind fun bt955 => (if 0 ≤ bt955.1 then (if bt955.1 < (y952.length : Int) then (some (rd y952 bt955.1, bt955.2.1, bt955.2.2)) else (none)) else (none))) = some (r1, r2, r3) := by first | (rw [hy952]; with_reducible exact H) | (have H2_ := (Option.bind_some _ _).symm.trans H; rw [hy952]; with_reducible exact H2_) | (have H2_ := (Option.bind_some _ _).symm.trans H; with_reducible exact H2_) | with_reducible exact H | (rw [hy952]; exact H) | exact H
 have Ny952 := Aside0.mk hy952
 clear hy952
 replace H := Option.bind_eq_some_iff.mp H
 obtain ⟨⟨t955, t956, t957⟩, A20, H⟩ := H
 replace H : (if 0 ≤ t955 then (if t955 < (y952.length : Int) then (some (rd y952 t955, t956, t957)) else (none)) else (none)) = some (r1, r2, r3) := H
 have A2 := Aside0.mk A20
 clear A20
 by_cases c3 : 0 ≤ t955
 ·rw [if_pos c3] at H
  have c3b0 : decide (0 ≤ t955) = true := decide_eq_true c3
  clear c3
  by_cases c4 : t955 < (y952.length : Int)
  ·rw [if_pos c4] at H
   have c4b0 : decide (t955 < (y952.length : Int)) = true := decide_eq_true c4
   clear c4
   simp only [Option.some.injEq, Prod.mk.injEq] at H
   obtain ⟨rfl, rfl, rfl⟩ := H
   go_enter Try.func66, Try.ntmps66
   go_wp2_with (first | ((with_reducible refine gate_dst (N := 3) rfl ?_); refine Kd.R_lit (Kd.int .i64) _ 2 ?hg (N := 3) ?hd (xs := ([1, 2, 3, 4, 4, 5, 5, 3, 6, 7, 0, 2] : List Int)) (inner := [.int .i64 1, .int .i64 2, .int .i64 3, .int .i64 4, .int .i64 4, .int .i64 5, .int .i64 5, .int .i64 3, .int .i64 6, .int .i64 7, .int .i64 0, .int .i64 2]) (ok := fun _ => True) (okp := fun _ => True) ?hr ?hp (fun _ hk => hk) trivial (Below.refl _ _) (Nat.le_refl _) (by simp) ?_; (case hd => rfl); (case hg => rfl); (case hr => first | (go_simp; done) | (go_simp; rfl)); (case hp => exact (Reps.one (show Kd.M (Kd.int .i64) _ _ _ 1 [.int .i64 1] from rfl) (Reps.one (show Kd.M (Kd.int .i64) _ _ _ 2 [.int .i64 2] from rfl) (Reps.one (show Kd.M (Kd.int .i64) _ _ _ 3 [.int .i64 3] from rfl) (Reps.one (show Kd.M (Kd.int .i64) _ _ _ 4 [.int .i64 4] from rfl) (Reps.one (show Kd.M (Kd.int .i64) _ _ _ 4 [.int .i64 4] from rfl) (Reps.one (show Kd.M (Kd.int .i64) _ _ _ 5 [.int .i64 5] from rfl) (Reps.one (show Kd.M (Kd.int .i64) _ _ _ 5 [.int .i64 5] from rfl) (Reps.one (show Kd.M (Kd.int .i64) _ _ _ 3 [.int .i64 3] from rfl) (Reps.one (show Kd.M (Kd.int .i64) _ _ _ 6 [.int .i64 6] from rfl) (Reps.one (show Kd.M (Kd.int .i64) _ _ _ 7 [.int .i64 7] from rfl) (Reps.one (show Kd.M (Kd.int .i64) _ _ _ 0 [.int .i64 0] from rfl) (Reps.one (show Kd.M (Kd.int .i64) _ _ _ 2 [.int .i64 2] from rfl) (Reps.none _ _)))))))))))))); intro v953 w5 ho6 hb hg_ hnew_; clear hg_ hnew_; (first | rw [← Ny952.out] at ho6 | (simp only [Int.reduceToNat] at ho6; rw [← Ny952.out] at ho6)); have n0_ := Aside0.mk (Kd.R_lower ho6 (keep_size (w := w) (g := g) (row := none) (by repeat (first | (with_reducible first | exact HK.out | apply KeepBut.set_ | apply keep_drewN | apply keep_drew | apply keep_alloc) | exact HK.out)))); have n1_ := Aside0.mk (IsS94.below (by repeat (first | (with_reducible first | exact HI0.out | apply IsS94.alloc | apply IsS94.drewN | apply IsS94.drew | apply IsS94.set_1 | apply IsS94.set_2) | exact HI0.out)) hb); have n2_ := Aside0.mk (KeepBut.trans (by repeat (first | (with_reducible first | exact HK.out | apply KeepBut.set_ | apply keep_drewN | apply keep_drew | apply keep_alloc) | exact HK.out)) (KeepBut.of_below hb g none) (.inl rfl)); have n3_ := Aside0.mk (below_step (by repeat (first | (with_reducible first | exact HB.out | apply below_alloc | apply pw_below_drewN | apply below_drew1 | refine below_set ?_ (IsS94.ge HI0.out)) | exact HB.out)) hb); clear HI0; clear HK; clear HB; have HO954 := n0_; have HI0 := n1_; have HK := n2_; have HB := n3_; clear n0_ n1_ n2_ n3_; clear hb ho6) | ((with_reducible refine gate_callee (f := 93) rfl ?_); refine goesL_ (some 5) rfl rfl Try.func93 (by kernel_rfl) rfl #[.pointer (some ⟨g, 0, none⟩), .int .i64 12] rfl (by (try simp only [List.map_toArray, List.map_cons, List.map_nil]); first | done | rfl) ?_; (with_reducible refine (spec_l01Next.calls g s0_0 s0_1 s0_2 12 t955 t956 t957 w0 _ ?side1 ?side2 A2.out).mono ?_); (case side1 => repeat (first | (with_reducible first | exact HI0.out | apply IsS94.alloc | apply IsS94.drewN | apply IsS94.drew | apply IsS94.set_1 | apply IsS94.set_2) | exact HI0.out)); (case side2 => repeat (first | (with_reducible first | exact HB.out | apply below_alloc | apply pw_below_drewN | apply below_drew1 | refine below_set ?_ (IsS94.ge HI0.out)) | exact HB.out)); rintro e w7 ⟨rfl, hi, hb, hk⟩; refine ⟨_, rfl, ?_⟩; have n0_ := Aside0.mk (Kd.R_mono (Kd.R_keep (IsS94.apart (show IsS94 w0 _ g s0_0 s0_1 s0_2 from by repeat (first | (with_reducible first | exact HI0.out | apply IsS94.alloc | apply IsS94.drewN | apply IsS94.drew | apply IsS94.set_1 | apply IsS94.set_2) | exact HI0.out)) (by (with_reducible repeat (first | apply Kd.R_alloc | apply Kd.R_drewN | apply Kd.R_drew)); exact HO954.out) (by decide)) hk (fun _ h => h.2)) (fun _ h => h.1)); have n1_ := Aside0.mk (KeepBut.trans (by repeat (first | (with_reducible first | exact HK.out | apply KeepBut.set_ | apply keep_drewN | apply keep_drew | apply keep_alloc) | exact HK.out)) hk (.inl rfl)); have n2_ := Aside0.mk (hb); have n3_ := Aside0.mk (hi); clear HO954; clear HK; clear HB; clear HI0; have HO954 := n0_; have HK := n1_; have HB := n2_; have HI0 := n3_; clear n0_ n1_ n2_ n3_; (try clear hb); (try clear hk); (try clear hi); obtain ⟨Ao8, co8, eo8⟩ := Kd.R_slice HO954.out; subst eo8; have p958 : 0 ≤ (t955 : Int) := of_decide_eq_true (by first | (with_reducible assumption) | assumption); have q958 : t955 < (y952.length : Int) := of_decide_eq_true (by first | (with_reducible assumption) | assumption); obtain ⟨ad958, e958, hx958_0⟩ := Kd.at_int (Kd.R_reads' HO954.out).2.2 t955 p958 q958; cases e958; replace p958 := eq_true p958; replace q958 := eq_true q958))
   go_ret
   exact ⟨by first | rfl | (simp [*] <;> rfl), by repeat (first | (with_reducible first | exact HI0.out | apply IsS94.alloc | apply IsS94.drewN | apply IsS94.drew | apply IsS94.set_1 | apply IsS94.set_2) | exact HI0.out), by repeat (first | (with_reducible first | exact HB.out | apply below_alloc | apply pw_below_drewN | apply below_drew1 | refine below_set ?_ (IsS94.ge HI0.out)) | exact HB.out), by repeat (first | (with_reducible first | exact HK.out | apply KeepBut.set_ | apply keep_drewN | apply keep_drew | apply keep_alloc) | exact HK.out)⟩
  ·rw [if_neg c4] at H
   exact absurd H (by simp)
 ·rw [if_neg c3] at H
  exact absurd H (by simp)

/-! ### spec_DrawCountShapes: function 30 -/
def spec_DrawCountShapes.f (k : Nat) (l0 : List Int) : Option (Int) := (spec_l01From.f k l0).bind fun bt959 => ((spec_l05DrawOrder.f bt959.1 bt959.2.1 bt959.2.2).bind fun bt963 => (some bt963.1))
theorem spec_DrawCountShapes.mono : ∀ a0 k, LeO (spec_DrawCountShapes.f k a0) (spec_DrawCountShapes.f (k + 1) a0) := by
 intro a0 k
 unfold spec_DrawCountShapes.f
 repeat' first
   | (with_reducible exact spec_l01From.mono _ _)
   | (with_reducible exact LeO.refl _)
   | (with_reducible exact LeO.none _)
   | (with_reducible refine LeO.ite ?_ ?_)
   | (with_reducible refine LeO.bind ?_ (fun _ => ?_))
   | exact spec_l01From.mono _ _
   | exact LeO.none _
   | refine LeO.ite ?_ ?_
   | refine LeO.bind ?_ (fun _ => ?_)
set_option maxHeartbeats 8000000 in
set_option maxRecDepth 100000 in
theorem spec_DrawCountShapes.calls (k : Nat) (A0 : Option Addr) (c0 : Nat) (l0 : List Int) (r : Int) (w : World) (hr0 : Kd.C (Kd.int .u8) w A0 l0.length l0) (hc0 : l0.length ≤ c0) (h : spec_DrawCountShapes.f k l0 = some r) :
  Calls Try.prog 30 #[.slice A0 l0.length c0] w fun e w' => e = .returned (.int .i64 r) ∧ Below w.heap.size w w' := by
 have HR0 := Aside0.mk hr0
 have HC0 := Aside0.mk hc0
 clear hr0 hc0
 have HB := Aside0.mk (Below.refl w.heap.size w)
 have H : ((spec_l01From.f k l0).bind fun bt959 => ((spec_l05DrawOrder.f bt959.1 bt959.2.1 bt959.2.2).bind fun bt963 => (some bt963.1))) = some r := h
 clear h
 replace H := Option.bind_eq_some_iff.mp H
 obtain ⟨⟨t959, t960, t961⟩, A20, H⟩ := H
 replace H : ((spec_l05DrawOrder.f t959 t960 t961).bind fun bt963 => (some bt963.1)) = some r := H
 have A2 := Aside0.mk A20
 clear A20
 replace H := Option.bind_eq_some_iff.mp H
 obtain ⟨⟨t963, t964, t965⟩, A30, H⟩ := H
 replace H : (some t963) = some r := H
 have A3 := Aside0.mk A30
 clear A30
 obtain rfl := Option.some.inj H
 go_enter Try.func30, Try.ntmps30
 go_wp2_with (first | ((with_reducible refine gate_callee (f := 59) rfl ?_); refine goesL_ (some 4) rfl rfl Try.func59 (by kernel_rfl) rfl #[.slice A0 l0.length c0] rfl (by (try simp only [List.map_toArray, List.map_cons, List.map_nil]); first | done | rfl) ?_; (with_reducible refine (spec_l01From.calls k _ _ l0 t959 t960 t961 w _ ?side1 ?side2 ?side3 A2.out).mono ?_); (case side1 => repeat (first | (with_reducible first | exact HB.out | apply below_alloc | apply pw_below_drewN | apply below_drew1) | exact HB.out)); (case side2 => exact HR0.out); (case side3 => exact HC0.out); rintro e w4 ⟨g962, rfl, hi, hb, hb2⟩; refine ⟨_, rfl, ?_⟩; have n0_ := Aside0.mk (hb); have n1_ := Aside0.mk (hi); clear HB; have HB := n0_; have HI962 := n1_; clear n0_ n1_; (try clear hb); (try clear hb2); (try clear hi)) | ((with_reducible refine gate_callee (f := 66) rfl ?_); refine goesL_ (some 5) rfl rfl Try.func66 (by kernel_rfl) rfl #[.pointer (some ⟨g962, 0, none⟩)] rfl (by (try simp only [List.map_toArray, List.map_cons, List.map_nil]); first | done | rfl) ?_; (with_reducible refine (spec_l05DrawOrder.calls g962 t959 t960 t961 t963 t964 t965 w _ ?side1 ?side2 A3.out).mono ?_); (case side1 => repeat (first | (with_reducible first | exact HI962.out | apply IsS94.alloc | apply IsS94.drewN | apply IsS94.drew | apply IsS94.set_1 | apply IsS94.set_2) | exact HI962.out)); (case side2 => repeat (first | (with_reducible first | exact HB.out | apply below_alloc | apply pw_below_drewN | apply below_drew1 | refine below_set ?_ (IsS94.ge HI962.out)) | exact HB.out)); rintro e w5 ⟨rfl, hi, hb, hk⟩; refine ⟨_, rfl, ?_⟩; have n0_ := Aside0.mk (hb); have n1_ := Aside0.mk (hi); clear HB; clear HI962; have HB := n0_; have HI962 := n1_; clear n0_ n1_; (try clear hb); (try clear hk); (try clear hi)))
 go_ret
 exact ⟨by first | rfl | (simp [*] <;> rfl), by repeat (first | (with_reducible first | exact HB.out | apply below_alloc | apply pw_below_drewN | apply below_drew1 | refine below_set ?_ (IsS94.ge HI962.out)) | exact HB.out)⟩

/-! ### impl_isOrder: function 67 -/
def impl_isOrder.f (a0 : Int) : Option (Bool) := (impl_within.f a0 1 6).bind fun t966 => (some t966)
set_option maxHeartbeats 8000000 in
set_option maxRecDepth 100000 in
theorem impl_isOrder.calls (a0 : Int) (r : Bool) (w : World) (h : impl_isOrder.f a0 = some r) :
  Calls Try.prog 67 #[.int .i64 a0] w fun e w' => e = .returned (.bool r) ∧ Drawn0 w w' := by
 have H : ((impl_within.f a0 1 6).bind fun t966 => (some t966)) = some r := h
 clear h
 replace H := Option.bind_eq_some_iff.mp H
 obtain ⟨t966, A20, H⟩ := H
 replace H : (some t966) = some r := H
 have A2 := Aside0.mk A20
 clear A20
 obtain rfl := Option.some.inj H
 go_enter Try.func67, Try.ntmps67
 go_wp2_with (first | ((with_reducible refine gate_callee (f := 106) rfl ?_); refine goesL_ (some 4) rfl rfl Try.func106 (by kernel_rfl) rfl #[.int .i64 a0, .int .i64 1, .int .i64 6] rfl (by (try simp only [List.map_toArray, List.map_cons, List.map_nil]); first | done | rfl) ?_; (with_reducible refine (impl_within.calls a0 1 6 t966 _ A2.out).mono ?_); rintro e w' ⟨rfl, ⟨nd, rfl⟩⟩; refine ⟨_, rfl, ?_⟩))
 go_ret
 exact ⟨by first | rfl | (simp; done) | (simp [*]; done), by repeat (first | exact Drawn0.refl _ | apply Drawn0.step)⟩

/-! ### impl_ownForms: function 69, by hand -/
-- COMMONS none
def impl_ownForms.own (k : Nat) (a1 : Int) (s : List S55) : Option Bool := (impl_forms.f k s a1).bind fun o => if o.length = 0 then none else slices_Equal_Cell.f k (minS_ o) s
def impl_ownForms.sel (k : Nat) (a1 : Int) : List (List S55) → Option (List (List S55))
 | [] => some []
 | s :: r => (impl_ownForms.own k a1 s).bind fun b => (impl_ownForms.sel k a1 r).bind fun t => some (if b = true then s :: t else t)
def impl_ownForms.f (k : Nat) (a0 a1 : Int) : Option (List (List S55)) := (impl_fixedShapes.f k a0).bind fun l => if l.length ≤ 1000000 then impl_ownForms.sel k a1 l else none
theorem impl_ownForms.own_mono (k : Nat) (a1 : Int) (s : List S55) : LeO (impl_ownForms.own k a1 s) (impl_ownForms.own (k + 1) a1 s) :=
 LeO.bind (impl_forms.mono _ _ _) fun _ => LeO.ite (LeO.refl _) (slices_Equal_Cell.mono _ _ _)
theorem impl_ownForms.sel_mono (k : Nat) (a1 : Int) : ∀ l, LeO (impl_ownForms.sel k a1 l) (impl_ownForms.sel (k + 1) a1 l) := by
 intro l
 induction l with
 | nil => exact LeO.refl _
 | cons s r ih => exact LeO.bind (impl_ownForms.own_mono k a1 s) fun _ => LeO.bind ih fun _ => LeO.refl _
theorem impl_ownForms.mono : ∀ a0 a1 k, LeO (impl_ownForms.f k a0 a1) (impl_ownForms.f (k + 1) a0 a1) := by
 intro a0 a1 k
 unfold impl_ownForms.f
 exact LeO.bind (impl_fixedShapes.mono _ _) fun l => LeO.ite (impl_ownForms.sel_mono k a1 l) (LeO.refl _)
set_option maxHeartbeats 8000000 in
set_option maxRecDepth 100000 in
theorem impl_ownForms.calls (k : Nat) (a0 a1 : Int) (r : List (List S55)) (w : World) (h : impl_ownForms.f k a0 a1 = some r) :
  Calls Try.prog 69 #[.int .i64 a0, .int .i64 a1] w fun e w' => ∃ v0_ : Value, e = .returned (v0_) ∧ Kd.S (Kd.slice 55 k55) 27 w' w.heap.size (fun _ => True) v0_ r ∧ Below w.heap.size w w' := by
 have hu1 := Try.underlying24
 obtain ⟨l, hl, h2⟩ := Option.bind_eq_some_iff.mp h
 by_cases hx : l.length ≤ 1000000
 rotate_left
 ·rw [if_neg hx] at h2; exact absurd h2 (by simp)
 rw [if_pos hx] at h2
 have HL := Aside0.mk hl
 have HSEL := Aside0.mk h2
 have HX := Aside0.mk hx
 have HB0 := Aside0.mk (Below.refl w.heap.size w)
 clear h hl h2 hx
 go_enter Try.func69, Try.ntmps69
 go_wp2_with ((with_reducible refine gate_dst (N := 8) rfl ?_); refine Kd.S_lit (Kd.slice 55 k55) _ 27 ?hg (N := 8) ?hd (xs := ([] : List (List S55))) (inner := []) (ok := fun _ => True) (okp := fun _ => True) ?hr ?hp (fun _ hk => hk) trivial (Below.refl _ _) (Nat.le_refl _) (by simp) ?_; (case hd => rfl); (case hg => rfl); (case hr => first | (go_simp; done) | (go_simp; rfl)); (case hp => exact (Reps.none _ _)); intro v8 w8 ho8 hb8 hg_ hnew_; clear hg_ hnew_; have HO := Aside0.mk ho8; have HB := Aside0.mk hb8; clear ho8 hb8 HB0)
 refine (impl_fixedShapes.calls k a0 l _ HL.out).mono ?_
 rintro e w2 ⟨v10, rfl, hS, hb⟩
 obtain ⟨A10, c10, e10⟩ := Kd.S_slice hS
 subst e10
 obtain ⟨A8, c8, e8⟩ := Kd.S_slice HO.out
 subst e8
 obtain ⟨es, hes, hown, hPR⟩ := S_split hS
 have hel : es.length = l.length := by rw [← hes, List.length_map]
 obtain ⟨os, hos, hown8, _⟩ := S_split HO.out
 have hos0 : os = [] := List.length_eq_zero_iff.1 (by have := congrArg List.length hos; simpa using this)
 subst hos0
 have h8lt := Kd.S_lt HO.out
 have HRL := Aside0.mk (Kd.R_lower (show rawK_.R 27 w2 w8.heap.size (fun k_ => True ∧ some k_ ≠ (Value.slice A8 ([] : List (List S55)).length c8).ownBlock) (.slice A10 l.length c10) (es.map Prod.fst) from Kd.R_mono (Kd.R_tight rfl (raw_R (by rw [List.length_map]; exact hown) (one_fst hPR))) (fun k_ hk => ⟨trivial, fun e_ => by
  have h1 := Kd.S_base hS k_ hk.symm
  have h2 := h8lt k_ e_.symm
  omega⟩)) (below_size HB.out))
 have HRO := Aside0.mk (Kd.R_below (show rawK_.R 27 w8 w.heap.size (fun _ => True) (.slice A8 ([] : List (List S55)).length c8) (([] : List (Value × List S55)).map Prod.fst) from raw_R (by simpa using hown8) (by simp)) hb)
 have HPR := Aside0.mk (show PR_ w2 w.heap.size none es from ⟨fun x hx => Kd.R_lower (Kd.R_mono (hPR.own x hx) (fun _ _ => by simp)) (below_size HB.out), hPR.apart⟩)
 have HB2 := Aside0.mk (below_step HB.out hb)
 have HES := Aside0.mk hes
 have HEL := Aside0.mk hel
 clear hS hb hown hPR hel hos hown8 h8lt HB HO HL hes
 go_wp2_with fail
 go_loopg [5, 12] l.length (fun gk v5 v12 wr => ∃ (i : Nat) (sel : List (Value × List S55)) (rest : List (List S55)), v12 = .int .i64 i ∧ Aside0 (gk + i = l.length) ∧ Aside0 (impl_ownForms.sel k a1 (l.drop i) = some rest) ∧ Aside0 (sel.map Prod.snd ++ rest = r) ∧ Aside0 (sel.Sublist (es.take i)) ∧ Aside0 (rawK_.R 27 wr w.heap.size (fun k_ => True ∧ some k_ ≠ (v5 : Value).ownBlock) (.slice A10 l.length c10) (es.map Prod.fst)) ∧ Aside0 (rawK_.R 27 wr w.heap.size (fun _ => True) v5 (sel.map Prod.fst)) ∧ Aside0 (PR_ wr w.heap.size none es) ∧ Aside0 (Below w.heap.size w wr))
 case atStart => exact ⟨0, [], r, rfl, ⟨rfl⟩, HSEL, ⟨rfl⟩, ⟨List.nil_sublist _⟩, HRL, HRO, HPR, HB2⟩
 case round =>
  clear HSEL HRL HRO HPR HB2
  obtain ⟨i, sel, rest, rfl, HI, HSEL, HR, HSUB, HRL, HRO, HPR, HB⟩ := hrel
  obtain ⟨A5, c5, e5⟩ := Kd.R_slice HRO.out
  rw [List.length_map] at e5
  subst e5
  cases gk with
  | zero =>
   have hi : i = l.length := by have := HI.out; omega
   have d3 : decide ((i : Int) < (l.length : Int)) = false := decide_eq_false (by omega)
   have d4 : decide (i < l.length) = false := decide_eq_false (by omega)
   have hs := HSEL.out
   rw [hi, List.drop_length] at hs
   have hs2 : some [] = some rest := hs
   obtain rfl := Option.some.inj hs2
   have hr := HR.out
   rw [List.append_nil] at hr
   have hsub := HSUB.out.trans (List.take_sublist i es)
   have hty := Kd.R_typed HRO.out
   have hres : Kd.S (Kd.slice 55 k55) 27 wr w.heap.size (fun _ => True) (.slice A5 sel.length c5) (sel.map Prod.snd) := by
    have ho := raw_own HRO.out
    rw [List.length_map] at ho
    exact S_join (es := sel) ho ⟨fun x hx => Kd.R_mono (Kd.R_apart' (HPR.out.own x (hsub.subset hx)) hty (by decide)) (fun _ hk => hk.2), HPR.out.apart.sublist hsub⟩
   rw [hr] at hres
   have HRES := Aside0.mk hres
   clear hi hs hs2 hr hsub hty hres HSEL HR HSUB HRL HRO HPR
   go_wp2_with fail
   go_ret
   exact ⟨_, rfl, HRES.out, HB.out⟩
  | succ gi =>
   have hi : i < l.length := by have := HI.out; omega
   have hie : i < es.length := by rw [HEL.out]; exact hi
   have p1 : 0 ≤ (i : Int) := by omega
   have q1 : (i : Int) < (l.length : Int) := by omega
   have d3 : decide ((i : Int) < (l.length : Int)) = true := decide_eq_true q1
   have d4 : decide (i < l.length) = true := decide_eq_true hi
   have hbig : l.length ≤ 1000000 := HX.out
   obtain ⟨ad, cc, eA, hcl, ⟨ecc, _⟩, hcells⟩ := ReadsRow.get_ (Kd.R_reads' HRL.out).2.2 (Value.slice none 0 0) (i : Int) p1 (by rw [List.length_map, HEL.out]; exact q1)
   subst eA
   subst ecc
   have hx := hcells 0 _ rfl
   rw [Int.toNat_natCast, show i * rawK_.sz + 0 = i from Nat.mul_one i] at hx
   have hget : (es.map Prod.fst).getD i (.slice none 0 0) = (gE_ es i).1 := by
    rw [List.getD_eq_getElem?_getD, List.getElem?_map, gE_get es i hie]; rfl
   rw [hget] at hx
   have hdr : l.drop i = (gE_ es i).2 :: l.drop (i + 1) := by
    have e1 : l[i]? = some (gE_ es i).2 := by rw [← HES.out, List.getElem?_map, gE_get es i hie]; rfl
    rw [List.drop_eq_getElem_cons hi]
    rw [List.getElem?_eq_getElem hi] at e1
    rw [Option.some.inj e1]
   have htk : es.take (i + 1) = es.take i ++ [gE_ es i] := by rw [List.take_add_one, gE_get es i hie]; rfl
   obtain ⟨B, cB, eB, hlB, hCB⟩ := Kd.R_reads (HPR.out.own _ (gE_mem es i hie))
   have hmem := gE_mem es i hie
   have hs := HSEL.out
   rw [hdr] at hs
   obtain ⟨b, hb, hs2⟩ := Option.bind_eq_some_iff.mp hs
   obtain ⟨t, ht, hs3⟩ := Option.bind_eq_some_iff.mp hs2
   obtain rfl := Option.some.inj hs3
   obtain ⟨o, ho, hb2⟩ := Option.bind_eq_some_iff.mp hb
   by_cases hon : o.length = 0
   ·rw [if_pos hon] at hb2; exact absurd hb2 (by simp)
   rw [if_neg hon] at hb2
   have HTK := Aside0.mk htk
   have HMEM := Aside0.mk hmem
   generalize gE_ es i = x at *
   obtain ⟨xv, xl⟩ := x
   try simp only at eB hlB hCB hx ho hb2
   subst eB
   have HCB := Aside0.mk hCB
   have HLB := Aside0.mk hlB
   have HOF := Aside0.mk ho
   have HON := Aside0.mk (show 0 < o.length by omega)
   have HEQ := Aside0.mk hb2
   have HT := Aside0.mk ht
   clear hcells hcl hget hdr htk hmem hs hs2 hs3 hb ho hon hb2 ht hCB hlB HSEL hie
   cases b with
   | false =>
    simp only [Bool.false_eq_true, if_false] at HR
    go_wp2_with fail
    refine (impl_forms.calls k B cB xl a1 o _ HCB.out HLB.out HOF.out).mono ?_
    rintro e w3 ⟨v18, rfl, hS18, hb18⟩
    obtain ⟨A18, c18, e18⟩ := Kd.S_slice hS18
    subst e18
    have HS18 := Aside0.mk hS18
    have HB18 := Aside0.mk hb18
    clear hS18 hb18 hx
    go_wp2_with fail
    refine (leastOf_walk _ o wr w3 HB18.out HS18.out HON.out).mono ?_
    rintro e w4 ⟨v19, rfl, hR19, hb19⟩
    obtain ⟨A19, c19, e19, hl19, hC19⟩ := Kd.R_reads hR19
    subst e19
    have HC19 := Aside0.mk hC19
    have HL19 := Aside0.mk hl19
    have HB19 := Aside0.mk hb19
    clear hR19 hb19 hC19 hl19 HS18 HB18
    go_wp2_with fail
    refine (slices_Equal_Cell.calls k A19 c19 (minS_ o) B cB xl false _ HC19.out HL19.out (Kd.C_below HCB.out HB19.out) HLB.out HEQ.out).mono ?_
    rintro e w5 ⟨rfl, hd⟩
    obtain ⟨md, rfl⟩ := hd.out
    have HRL2 := Aside0.mk (Kd.R_drewN (Kd.R_below HRL.out HB19.out) md)
    have HRO2 := Aside0.mk (Kd.R_drewN (Kd.R_below HRO.out HB19.out) md)
    have HPR2 := Aside0.mk (show PR_ (w4.drewN md) w.heap.size none es from ⟨fun x hx => Kd.R_drewN (Kd.R_below (HPR.out.own x hx) HB19.out) md, HPR.out.apart⟩)
    have HB2 := Aside0.mk (pw_below_drewN (below_step HB.out HB19.out) md)
    clear hd HRL HRO HPR HB HB19 HC19 HL19 HCB HLB HOF HON HEQ
    generalize w4.drewN md = w6 at *
    go_wp2_with fail
    go_roundg gi
    case measure => omega
    case rel => exact ⟨i + 1, sel, t, by go_num, ⟨by have := HI.out; omega⟩, HT, HR, ⟨by rw [HTK.out]; exact HSUB.out.trans (List.sublist_append_left _ _)⟩, HRL2, HRO2, HPR2, HB2⟩
   | true =>
    simp only [if_true] at HR
    go_wp2_with fail
    refine (impl_forms.calls k B cB xl a1 o _ HCB.out HLB.out HOF.out).mono ?_
    rintro e w3 ⟨v18, rfl, hS18, hb18⟩
    obtain ⟨A18, c18, e18⟩ := Kd.S_slice hS18
    subst e18
    have HS18 := Aside0.mk hS18
    have HB18 := Aside0.mk hb18
    clear hS18 hb18 hx
    go_wp2_with fail
    refine (leastOf_walk _ o wr w3 HB18.out HS18.out HON.out).mono ?_
    rintro e w4 ⟨v19, rfl, hR19, hb19⟩
    obtain ⟨A19, c19, e19, hl19, hC19⟩ := Kd.R_reads hR19
    subst e19
    have HC19 := Aside0.mk hC19
    have HL19 := Aside0.mk hl19
    have HB19 := Aside0.mk hb19
    clear hR19 hb19 hC19 hl19 HS18 HB18
    go_wp2_with fail
    refine (slices_Equal_Cell.calls k A19 c19 (minS_ o) B cB xl true _ HC19.out HL19.out (Kd.C_below HCB.out HB19.out) HLB.out HEQ.out).mono ?_
    rintro e w5 ⟨rfl, hd⟩
    obtain ⟨md, rfl⟩ := hd.out
    have HRL2 := Aside0.mk (Kd.R_drewN (Kd.R_below HRL.out HB19.out) md)
    have HRO2 := Aside0.mk (Kd.R_drewN (Kd.R_below HRO.out HB19.out) md)
    have HPR2 := Aside0.mk (show PR_ (w4.drewN md) w.heap.size none es from ⟨fun x hx => Kd.R_drewN (Kd.R_below (HPR.out.own x hx) HB19.out) md, HPR.out.apart⟩)
    have HB2 := Aside0.mk (pw_below_drewN (below_step HB.out HB19.out) md)
    clear hd HRL HRO HPR HB HB19 HC19 HL19 HCB HLB HOF HON HEQ
    generalize w4.drewN md = w6 at *
    have hsel : sel.length ≤ 1000000 := by
     have h1 := HSUB.out.length_le
     rw [List.length_take] at h1
     have := HEL.out
     omega
    have HKEY : Aside0 (∀ (v25 : Value) (w25 : World), rawK_.R 27 w25 w.heap.size (fun _ => True) v25 (sel.map Prod.fst ++ [Value.slice B xl.length cB]) → Below w.heap.size w w25 → w6.grownBy w25 (Value.slice A5 sel.length c5).ownBlock → (v25.ownBlock = (Value.slice A5 sel.length c5).ownBlock ∨ ∃ b, v25.ownBlock = some b ∧ w6.heap.size ≤ b) → rawK_.R 27 w25 w.heap.size (fun k_ => True ∧ some k_ ≠ v25.ownBlock) (.slice (some ad) l.length c10) (es.map Prod.fst) ∧ rawK_.R 27 w25 w.heap.size (fun _ => True) v25 ((sel ++ [(Value.slice B xl.length cB, xl)]).map Prod.fst) ∧ PR_ w25 w.heap.size none es ∧ Below w.heap.size w w25) := ⟨by
     intro v25 w25 hr hb hg hat
     refine ⟨Kd.R_after HRL2.out hg hat, by rw [List.map_append]; exact hr, ⟨fun y hy => ?_, HPR2.out.apart⟩, hb⟩
     have h1 := Kd.R_apart' (HPR2.out.own y hy) (Kd.R_typed HRO2.out) (by decide)
     exact Kd.R_mono (Kd.R_step h1 (fun k hk hl => hg.block k hl hk.2)) (fun _ hk => hk.1)⟩
    have HSL := Aside0.mk hsel
    clear hsel HRL2 HPR2
    go_wp2_with ((with_reducible refine gate_builtin (b := .append) (xs := #[.tmp 22, .tmp 24]) rfl ?_); at_builtin; refine Kd.R_append rawK_ (w0 := w) w.heap.size rfl (.tmp 22) (.tmp 24) 24 27 (.slice none 0 0) 24 rfl Try.underlying24 info27 rfl (by decide) (by omega) (.slice A5 sel.length c5) (sel.map Prod.fst) (Value.slice B xl.length cB) [Value.slice B xl.length cB] (fun _ => True) (fun _ => False) rfl rfl ⟨rfl, rfl⟩ (fun _ h => h.elim) (fun _ _ => trivial) HRO2.out HB2.out (below_size HB2.out) (by have := HSL.out; rw [List.length_map]; omega) ?_; intro v25 w25 hr hb hg hat; have hk_ := HKEY.out _ _ hr hb hg hat; clear hr hb hg hat HKEY)
    go_roundg gi
    case measure => omega
    case rel => exact ⟨i + 1, sel ++ [(Value.slice B xl.length cB, xl)], t, by go_num, ⟨by have := HI.out; omega⟩, HT, ⟨by rw [List.map_append, List.append_assoc]; exact HR.out⟩, ⟨by rw [HTK.out]; exact HSUB.out.append (List.Sublist.refl _)⟩, ⟨hk_.1⟩, ⟨hk_.2.1⟩, ⟨hk_.2.2.1⟩, ⟨hk_.2.2.2⟩⟩

/-! ### impl_CountShapes: function 31 -/
def impl_CountShapes.f (k : Nat) (a0 : Int) : Option (Int × Int × Int × Int) := (impl_isOrder.f a0).bind fun t980 => (if t980 = true then ((impl_fixedShapes.f k a0).bind fun t981 => ((impl_ownForms.f k a0 4).bind fun t984 => ((impl_ownForms.f k a0 8).bind fun t987 => (some ((t981.length : Int), (t984.length : Int), (t987.length : Int), 0))))) else (some (0, 0, 0, 2)))
theorem impl_CountShapes.mono : ∀ a0 k, LeO (impl_CountShapes.f k a0) (impl_CountShapes.f (k + 1) a0) := by
 intro a0 k
 unfold impl_CountShapes.f
 repeat' first
   | (with_reducible exact impl_fixedShapes.mono _ _)
   | (with_reducible exact impl_ownForms.mono _ _ _)
   | (with_reducible exact LeO.refl _)
   | (with_reducible exact LeO.none _)
   | (with_reducible refine LeO.ite ?_ ?_)
   | (with_reducible refine LeO.bind ?_ (fun _ => ?_))
   | exact impl_fixedShapes.mono _ _
   | exact impl_ownForms.mono _ _ _
   | exact LeO.none _
   | refine LeO.ite ?_ ?_
   | refine LeO.bind ?_ (fun _ => ?_)
set_option maxHeartbeats 8000000 in
set_option maxRecDepth 100000 in
theorem impl_CountShapes.calls (k : Nat) (a0 : Int) (r1 : Int) (r2 : Int) (r3 : Int) (r4 : Int) (w : World) (h : impl_CountShapes.f k a0 = some (r1, r2, r3, r4)) :
  Calls Try.prog 31 #[.int .i64 a0] w fun e w' => e = .returned (.tuple #[.int .i64 r1, .int .i64 r2, .int .i64 r3, .int .i64 r4]) ∧ Below w.heap.size w w' := by
 have HB := Aside0.mk (Below.refl w.heap.size w)
 have H : ((impl_isOrder.f a0).bind fun t980 => (if t980 = true then ((impl_fixedShapes.f k a0).bind fun t981 => ((impl_ownForms.f k a0 4).bind fun t984 => ((impl_ownForms.f k a0 8).bind fun t987 => (some ((t981.length : Int), (t984.length : Int), (t987.length : Int), 0))))) else (some (0, 0, 0, 2)))) = some (r1, r2, r3, r4) := h
 clear h
 replace H := Option.bind_eq_some_iff.mp H
 obtain ⟨t980, A20, H⟩ := H
 replace H : (if t980 = true then ((impl_fixedShapes.f k a0).bind fun t981 => ((impl_ownForms.f k a0 4).bind fun t984 => ((impl_ownForms.f k a0 8).bind fun t987 => (some ((t981.length : Int), (t984.length : Int), (t987.length : Int), 0))))) else (some (0, 0, 0, 2))) = some (r1, r2, r3, r4) := H
 have A2 := Aside0.mk A20
 clear A20
 by_cases c3 : t980 = true
 ·subst c3
  have H1 : ((impl_fixedShapes.f k a0).bind fun t981 => ((impl_ownForms.f k a0 4).bind fun t984 => ((impl_ownForms.f k a0 8).bind fun t987 => (some ((t981.length : Int), (t984.length : Int), (t987.length : Int), 0))))) = some (r1, r2, r3, r4) := by rw [if_pos rfl] at H; exact H
  clear H
  have H := H1
  clear H1
  replace H := Option.bind_eq_some_iff.mp H
  obtain ⟨t981, A40, H⟩ := H
  replace H : ((impl_ownForms.f k a0 4).bind fun t984 => ((impl_ownForms.f k a0 8).bind fun t987 => (some ((t981.length : Int), (t984.length : Int), (t987.length : Int), 0)))) = some (r1, r2, r3, r4) := H
  have A4 := Aside0.mk A40
  clear A40
  replace H := Option.bind_eq_some_iff.mp H
  obtain ⟨t984, A50, H⟩ := H
  replace H : ((impl_ownForms.f k a0 8).bind fun t987 => (some ((t981.length : Int), (t984.length : Int), (t987.length : Int), 0))) = some (r1, r2, r3, r4) := H
  have A5 := Aside0.mk A50
  clear A50
  replace H := Option.bind_eq_some_iff.mp H
  obtain ⟨t987, A60, H⟩ := H
  replace H : (some ((t981.length : Int), (t984.length : Int), (t987.length : Int), 0)) = some (r1, r2, r3, r4) := H
  have A6 := Aside0.mk A60
  clear A60
  simp only [Option.some.injEq, Prod.mk.injEq] at H
  obtain ⟨rfl, rfl, rfl, rfl⟩ := H
  go_enter Try.func31, Try.ntmps31
  go_wp2_with (first | ((with_reducible refine gate_callee (f := 67) rfl ?_); refine goesL_ (some 7) rfl rfl Try.func67 (by kernel_rfl) rfl #[.int .i64 a0] rfl (by (try simp only [List.map_toArray, List.map_cons, List.map_nil]); first | done | rfl) ?_; (with_reducible refine (impl_isOrder.calls a0 true _ A2.out).mono ?_); rintro e w' ⟨rfl, ⟨nd, rfl⟩⟩; refine ⟨_, rfl, ?_⟩) | ((with_reducible refine gate_callee (f := 68) rfl ?_); refine goesL_ (some 10) rfl rfl Try.func68 (by kernel_rfl) rfl #[.int .i64 a0] rfl (by (try simp only [List.map_toArray, List.map_cons, List.map_nil]); first | done | rfl) ?_; (with_reducible refine (impl_fixedShapes.calls k a0 t981 _ A4.out).mono ?_); rintro e w7 ⟨v982, rfl, ho0, hb⟩; refine ⟨_, rfl, ?_⟩; have n0_ := Aside0.mk (Kd.S_lower ho0 (below_size (by repeat (first | (with_reducible first | exact HB.out | apply below_alloc | apply pw_below_drewN | apply below_drew1) | exact HB.out)))); have n1_ := Aside0.mk (below_step (by repeat (first | (with_reducible first | exact HB.out | apply below_alloc | apply pw_below_drewN | apply below_drew1) | exact HB.out)) hb); clear HB; have HO983 := n0_; have HB := n1_; clear n0_ n1_; (try clear hb); (try clear ho0); obtain ⟨Ao8, co8, eo8⟩ := Kd.S_slice HO983.out; subst eo8) | ((with_reducible refine gate_callee (f := 69) rfl ?_); refine goesL_ (some 13) rfl rfl Try.func69 (by kernel_rfl) rfl #[.int .i64 a0, .int .i64 4] rfl (by (try simp only [List.map_toArray, List.map_cons, List.map_nil]); first | done | rfl) ?_; (with_reducible refine (impl_ownForms.calls k a0 4 t984 _ A5.out).mono ?_); rintro e w9 ⟨v985, rfl, ho0, hb⟩; refine ⟨_, rfl, ?_⟩; have n0_ := Aside0.mk (Kd.S_elder' (by (with_reducible repeat (first | apply Kd.S_alloc | apply Kd.S_drewN | apply Kd.S_drew)); exact HO983.out) (Kd.S_base ho0) hb); have n1_ := Aside0.mk (Kd.S_lower (Kd.S_new' ho0 (Kd.S_lt (by (with_reducible repeat (first | apply Kd.S_alloc | apply Kd.S_drewN | apply Kd.S_drew)); exact HO983.out))) (below_size (by repeat (first | (with_reducible first | exact HB.out | apply below_alloc | apply pw_below_drewN | apply below_drew1) | exact HB.out)))); have n2_ := Aside0.mk (below_step (by repeat (first | (with_reducible first | exact HB.out | apply below_alloc | apply pw_below_drewN | apply below_drew1) | exact HB.out)) hb); clear HO983; clear HB; have HO983 := n0_; have HO986 := n1_; have HB := n2_; clear n0_ n1_ n2_; (try clear hb); (try clear ho0); obtain ⟨Ao10, co10, eo10⟩ := Kd.S_slice HO986.out; subst eo10) | ((with_reducible refine gate_callee (f := 69) rfl ?_); refine goesL_ (some 16) rfl rfl Try.func69 (by kernel_rfl) rfl #[.int .i64 a0, .int .i64 8] rfl (by (try simp only [List.map_toArray, List.map_cons, List.map_nil]); first | done | rfl) ?_; (with_reducible refine (impl_ownForms.calls k a0 8 t987 _ A6.out).mono ?_); rintro e w11 ⟨v988, rfl, ho0, hb⟩; refine ⟨_, rfl, ?_⟩; have n0_ := Aside0.mk (Kd.S_elder' (by (with_reducible repeat (first | apply Kd.S_alloc | apply Kd.S_drewN | apply Kd.S_drew)); exact HO983.out) (Kd.S_base ho0) hb); have n1_ := Aside0.mk (Kd.S_elder' (by (with_reducible repeat (first | apply Kd.S_alloc | apply Kd.S_drewN | apply Kd.S_drew)); exact HO986.out) (Kd.S_base ho0) hb); have n2_ := Aside0.mk (Kd.S_lower (Kd.S_new' (Kd.S_new' ho0 (Kd.S_lt (by (with_reducible repeat (first | apply Kd.S_alloc | apply Kd.S_drewN | apply Kd.S_drew)); exact HO983.out))) (Kd.S_lt (by (with_reducible repeat (first | apply Kd.S_alloc | apply Kd.S_drewN | apply Kd.S_drew)); exact HO986.out))) (below_size (by repeat (first | (with_reducible first | exact HB.out | apply below_alloc | apply pw_below_drewN | apply below_drew1) | exact HB.out)))); have n3_ := Aside0.mk (below_step (by repeat (first | (with_reducible first | exact HB.out | apply below_alloc | apply pw_below_drewN | apply below_drew1) | exact HB.out)) hb); clear HO983; clear HO986; clear HB; have HO983 := n0_; have HO986 := n1_; have HO989 := n2_; have HB := n3_; clear n0_ n1_ n2_ n3_; (try clear hb); (try clear ho0); obtain ⟨Ao12, co12, eo12⟩ := Kd.S_slice HO989.out; subst eo12))
  refine bodyPost_ret (results_list (rs := [.tmp 2, .tmp 3, .tmp 4, .tmp 5]) rfl (by simp) (.tmp (.tmp (.tmp (.tmp .nil))))) rfl ?_
  exact ⟨by first | rfl | (simp [*] <;> rfl), by repeat (first | (with_reducible first | exact HB.out | apply below_alloc | apply pw_below_drewN | apply below_drew1) | exact HB.out)⟩
 ·replace c3 := Bool.eq_false_iff.mpr c3
  subst c3
  have H1 : (some (0, 0, 0, 2)) = some (r1, r2, r3, r4) := by rw [if_neg (show ¬ (false = true) by decide)] at H; exact H
  clear H
  have H := H1
  clear H1
  simp only [Option.some.injEq, Prod.mk.injEq] at H
  obtain ⟨rfl, rfl, rfl, rfl⟩ := H
  go_enter Try.func31, Try.ntmps31
  go_wp2_with (first | ((with_reducible refine gate_callee (f := 67) rfl ?_); refine goesL_ (some 7) rfl rfl Try.func67 (by kernel_rfl) rfl #[.int .i64 a0] rfl (by (try simp only [List.map_toArray, List.map_cons, List.map_nil]); first | done | rfl) ?_; (with_reducible refine (impl_isOrder.calls a0 false _ A2.out).mono ?_); rintro e w' ⟨rfl, ⟨nd, rfl⟩⟩; refine ⟨_, rfl, ?_⟩))
  refine bodyPost_ret (results_list (rs := [.tmp 2, .tmp 3, .tmp 4, .tmp 5]) rfl (by simp) (.tmp (.tmp (.tmp (.tmp .nil))))) rfl ?_
  exact ⟨by first | rfl | (simp [*] <;> rfl), by repeat (first | (with_reducible first | exact HB.out | apply below_alloc | apply pw_below_drewN | apply below_drew1) | exact HB.out)⟩

/-! ### spec_l05Order: function 70 -/
def spec_l05Order.f (a0 : Int) : Option (Bool) := (spec_l01In.f a0 1 6).bind fun t990 => (some t990)
set_option maxHeartbeats 8000000 in
set_option maxRecDepth 100000 in
theorem spec_l05Order.calls (a0 : Int) (r : Bool) (w : World) (h : spec_l05Order.f a0 = some r) :
  Calls Try.prog 70 #[.int .i64 a0] w fun e w' => e = .returned (.bool r) ∧ Drawn0 w w' := by
 have H : ((spec_l01In.f a0 1 6).bind fun t990 => (some t990)) = some r := h
 clear h
 replace H := Option.bind_eq_some_iff.mp H
 obtain ⟨t990, A20, H⟩ := H
 replace H : (some t990) = some r := H
 have A2 := Aside0.mk A20
 clear A20
 obtain rfl := Option.some.inj H
 go_enter Try.func70, Try.ntmps70
 go_wp2_with (first | ((with_reducible refine gate_callee (f := 108) rfl ?_); refine goesL_ (some 4) rfl rfl Try.func108 (by kernel_rfl) rfl #[.int .i64 a0, .int .i64 1, .int .i64 6] rfl (by (try simp only [List.map_toArray, List.map_cons, List.map_nil]); first | done | rfl) ?_; (with_reducible refine (spec_l01In.calls a0 1 6 t990 _ A2.out).mono ?_); rintro e w' ⟨rfl, ⟨nd, rfl⟩⟩; refine ⟨_, rfl, ?_⟩))
 go_ret
 exact ⟨by first | rfl | (simp; done) | (simp [*]; done), by repeat (first | exact Drawn0.refl _ | apply Drawn0.step)⟩

/-! ### spec_l05Own: function 72 -/
mutual
def spec_l05Own.l0 : Nat → List (List (S55)) → Int → List (List (S55)) → Int → Option ((List (List (S55))))
 | 0, _, _, _, _ => none
 | k + 1, x0, x1, x5, x6 => if x6 < (x0.length : Int) then (spec_l05Own.l1 k x0 x1 x5 x6 true 1) else (some x5)
def spec_l05Own.l1 : Nat → List (List (S55)) → Int → List (List (S55)) → Int → Bool → Int → Option ((List (List (S55))))
 | 0, _, _, _, _, _, _ => none
 | k + 1, x0, x1, x5, x6, x7, x8 => if x8 < x1 then (if x7 = true then (if 0 ≤ x6 then (if x6 < (x0.length : Int) then ((spec_l03Form.f k (rd_L3 x0 x6) x8).bind fun t1009 => ((spec_CompareShapes.f k (rd_L3 x0 x6) t1009).bind fun t1012 => (spec_l05Own.l1 k x0 x1 x5 x6 (decide (t1012 ≤ 0)) (wrap64 (x8 + 1))))) else (none)) else (none)) else (spec_l05Own.l1 k x0 x1 x5 x6 false (wrap64 (x8 + 1)))) else (if x7 = true then (if 0 ≤ x6 then (if x6 < (x0.length : Int) then (if x5.length < 5864062014805 then (spec_l05Own.l0 k x0 x1 (x5 ++ [rd_L3 x0 x6]) (wrap64 (x6 + 1))) else (none)) else (none)) else (none)) else (spec_l05Own.l0 k x0 x1 x5 (wrap64 (x6 + 1))))
end
def spec_l05Own.f (k : Nat) (l0 : List (List (S55))) (a1 : Int) : Option ((List (List (S55)))) := spec_l05Own.l0 k l0 a1 (([] : List (List (S55)))) 0
theorem spec_l05Own.mono_l : ∀ k, (∀ y0 y1 y2 y3, LeO (spec_l05Own.l0 k y0 y1 y2 y3) (spec_l05Own.l0 (k + 1) y0 y1 y2 y3)) ∧ (∀ y0 y1 y2 y3 y4 y5, LeO (spec_l05Own.l1 k y0 y1 y2 y3 y4 y5) (spec_l05Own.l1 (k + 1) y0 y1 y2 y3 y4 y5))
 | 0 => ⟨fun _ _ _ _ r h => by simp [spec_l05Own.l0] at h, fun _ _ _ _ _ _ r h => by simp [spec_l05Own.l1] at h⟩
 | k + 1 => by
  obtain ⟨ih0, ih1⟩ := spec_l05Own.mono_l k
  refine ⟨?_, ?_⟩
  ·intro y0 y1 y2 y3
   unfold spec_l05Own.l0
   repeat' first
   | (with_reducible exact ih0 _ _ _ _)
   | (with_reducible exact ih1 _ _ _ _ _ _)
   | (with_reducible exact spec_CompareShapes.mono _ _ _)
   | (with_reducible exact spec_l03Form.mono _ _ _)
   | (with_reducible exact LeO.refl _)
   | (with_reducible exact LeO.none _)
   | (with_reducible refine LeO.ite ?_ ?_)
   | (with_reducible refine LeO.bind ?_ (fun _ => ?_))
   | exact ih0 _ _ _ _
   | exact ih1 _ _ _ _ _ _
   | exact spec_CompareShapes.mono _ _ _
   | exact spec_l03Form.mono _ _ _
   | exact LeO.none _
   | refine LeO.ite ?_ ?_
   | refine LeO.bind ?_ (fun _ => ?_)
  ·intro y0 y1 y2 y3 y4 y5
   unfold spec_l05Own.l1
   repeat' first
   | (with_reducible exact ih0 _ _ _ _)
   | (with_reducible exact ih1 _ _ _ _ _ _)
   | (with_reducible exact spec_CompareShapes.mono _ _ _)
   | (with_reducible exact spec_l03Form.mono _ _ _)
   | (with_reducible exact LeO.refl _)
   | (with_reducible exact LeO.none _)
   | (with_reducible refine LeO.ite ?_ ?_)
   | (with_reducible refine LeO.bind ?_ (fun _ => ?_))
   | exact ih0 _ _ _ _
   | exact ih1 _ _ _ _ _ _
   | exact spec_CompareShapes.mono _ _ _
   | exact spec_l03Form.mono _ _ _
   | exact LeO.none _
   | refine LeO.ite ?_ ?_
   | refine LeO.bind ?_ (fun _ => ?_)
theorem spec_l05Own.mono : ∀ a0 a1 k, LeO (spec_l05Own.f k a0 a1) (spec_l05Own.f (k + 1) a0 a1) := by
 intro a0 a1 k
 obtain ⟨ih0, ih1⟩ := spec_l05Own.mono_l k
 unfold spec_l05Own.f
 repeat' first
   | (with_reducible exact ih0 _ _ _ _)
   | (with_reducible exact ih1 _ _ _ _ _ _)
   | (with_reducible exact spec_CompareShapes.mono _ _ _)
   | (with_reducible exact spec_l03Form.mono _ _ _)
   | (with_reducible exact LeO.refl _)
   | (with_reducible exact LeO.none _)
   | (with_reducible refine LeO.ite ?_ ?_)
   | (with_reducible refine LeO.bind ?_ (fun _ => ?_))
   | exact ih0 _ _ _ _
   | exact ih1 _ _ _ _ _ _
   | exact spec_CompareShapes.mono _ _ _
   | exact spec_l03Form.mono _ _ _
   | exact LeO.none _
   | refine LeO.ite ?_ ?_
   | refine LeO.bind ?_ (fun _ => ?_)
def spec_l05Own.T9 : Bool × List (List Nat × List Nat) := (true, [([], []), ([0], [0]), ([1], [1]), ([1], [1]), ([2, 3, 1], [1, 2, 3]), ([4, 1], [1, 4]), ([1], [1]), ([1], [1]), ([6, 7, 1], [1, 6, 7]), ([8, 1], [1, 8]), ([1], [1]), ([9, 10, 1, 1], [1, 9, 10]), ([5, 11, 11, 1], [1, 5, 11]), ([12, 1], [1, 12]), ([1, 13], [1, 13]), ([14, 12, 0, 1, 2, 3, 4, 5, 6, 7, 8, 9, 10, 11, 12, 13, 14], [0, 14])])
def spec_l05Own.B9 : List Nat := [0, 1, 3, 3, 15, 31, 3, 3, 195, 451, 3, 1987, 4095, 8191, 16383, 32767]
theorem spec_l05Own.tab9 : rtab .any (opsOf Try.f72 9) = spec_l05Own.T9 := by kernel_rfl
theorem spec_l05Own.bits9 : waitsOk spec_l05Own.T9.2 spec_l05Own.B9 = true := by kernel_rfl
set_option maxHeartbeats 8000000 in
set_option maxRecDepth 100000 in
theorem spec_l05Own.calls (k : Nat) (P0_ : Nat → Prop) (A0 : Option Addr) (c0 : Nat) (l0 : List (List (S55))) (a1 : Int) (r : List (List (S55))) (w : World) (hs0 : Kd.V (Kd.slice 55 k55) 27 w w.heap.size (fun k_ => P0_ k_) (.slice A0 l0.length c0) l0) (h : spec_l05Own.f k l0 a1 = some r) :
  Calls Try.prog 72 #[.slice A0 l0.length c0, .int .i64 a1] w fun e w' => ∃ v0_ : Value, e = .returned (v0_) ∧ Kd.N (Kd.slice 55 k55) 27 w' w.heap.size (fun k_ => (P0_ k_ ∨ w.heap.size ≤ k_)) v0_ r ∧ Below w.heap.size w w' := by
 have HO0 := Aside0.mk (show Kd.V (Kd.slice 55 k55) 27 w w.heap.size (fun k_ => (P0_ k_ ∨ w.heap.size ≤ k_)) (.slice A0 l0.length c0) l0 from Kd.V_mono hs0 (fun k_ hk => .inl hk))
 have HB := Aside0.mk (Below.refl w.heap.size w)
 have H : (spec_l05Own.l0 k l0 a1 (([] : List (List (S55)))) 0) = some r := h
 clear h
 obtain ⟨y1004, hy1004⟩ : ∃ y_ : List (List (S55)), y_ = (([] : List (List (S55)))) := ⟨_, rfl⟩
 replace H : (spec_l05Own.l0 k l0 a1 y1004 0) = some r := by first | (rw [hy1004]; with_reducible exact H) | (have H2_ := (Option.bind_some _ _).symm.trans H; rw [hy1004]; with_reducible exact H2_) | (have H2_ := (Option.bind_some _ _).symm.trans H; with_reducible exact H2_) | with_reducible exact H | (rw [hy1004]; exact H) | exact H
 have Ny1004 := Aside0.mk hy1004
 clear hy1004
 have H' := Aside0.mk H
 clear H
 go_enter Try.func72, Try.ntmps72
 go_wp2_with (first | ((with_reducible refine gate_dst (N := 9) rfl ?_); refine Kd.N_lit (Kd.slice 55 k55) _ 27 ?hg (N' := 9) ?hd (xs := ([] : List (List (S55)))) (inner := []) (ok := (fun k_ => (P0_ k_ ∨ w.heap.size ≤ k_))) (okp := (fun k_ => (P0_ k_ ∨ w.heap.size ≤ k_))) ?hr ?hp (fun _ hk => hk) ((show ∀ k_, w.heap.size ≤ k_ → (fun k_ => (P0_ k_ ∨ w.heap.size ≤ k_)) k_ from fun k_ hk => (.inr (Nat.le_trans (below_size (by repeat (first | (with_reducible first | exact HB.out | apply below_alloc | apply pw_below_drewN | apply below_drew1) | exact HB.out))) hk))) _ (Nat.le_refl _)) (Below.refl _ _) (Nat.le_refl _) (by simp) ?_; (case hd => rfl); (case hg => rfl); (case hr => first | (go_simp; done) | (go_simp; rfl)); (case hp => exact (Reps.none _ _)); intro v1005 w3 ho4 hb hg_ hnew_; clear hg_ hnew_; (first | rw [← Ny1004.out] at ho4 | (simp only [Int.reduceToNat] at ho4; rw [← Ny1004.out] at ho4)); have n0_ := Aside0.mk (Kd.V_elder' (by (with_reducible repeat (first | apply Kd.V_alloc | apply Kd.V_drewN | apply Kd.V_drew)); exact HO0.out) (Kd.N_base ho4) hb); have n1_ := Aside0.mk (Kd.N_lower ho4 (below_size (by repeat (first | (with_reducible first | exact HB.out | apply below_alloc | apply pw_below_drewN | apply below_drew1) | exact HB.out)))); have n2_ := Aside0.mk (below_step (by repeat (first | (with_reducible first | exact HB.out | apply below_alloc | apply pw_below_drewN | apply below_drew1) | exact HB.out)) hb); clear HO0; clear HB; have HO0 := n0_; have HO1006 := n1_; have HB := n2_; clear n0_ n1_ n2_; clear hb ho4))
 go_loopg [5, 6] k (fun kq v5 v6 w' => ∃ (x5_1 : List (List (S55))) (x6_1 : Int), v6 = .int .i64 x6_1 ∧ Aside0 (spec_l05Own.l0 kq l0 a1 x5_1 x6_1 = some r) ∧ Aside0 (kq ≤ k) ∧ Aside0 (Kd.V (Kd.slice 55 k55) 27 w' w.heap.size (fun k_ => (P0_ k_ ∨ w.heap.size ≤ k_) ∧ some k_ ≠ (v5 : Value).ownBlock) (.slice A0 l0.length c0) l0) ∧ Aside0 (Kd.N (Kd.slice 55 k55) 27 w' w.heap.size (fun k_ => (P0_ k_ ∨ w.heap.size ≤ k_)) v5 x5_1) ∧ Aside0 (Below w.heap.size w w'))
 case atStart => exact ⟨(y1004), (0), (by first | rfl | (simp; done) | (simp [*]; done)), H', ⟨Nat.le_refl _⟩, ⟨by (with_reducible repeat (first | apply Kd.V_alloc | apply Kd.V_drewN | apply Kd.V_drew)); exact HO0.out⟩, ⟨by (with_reducible repeat (first | apply Kd.N_alloc | apply Kd.N_drewN | apply Kd.N_drew)); exact HO1006.out⟩, ⟨by repeat (first | (with_reducible first | exact HB.out | apply below_alloc | apply pw_below_drewN | apply below_drew1) | exact HB.out)⟩⟩
 case round =>
  clear H'
  try clear p2
  obtain ⟨x5_1, x6_1, rfl, HA, HK1, HO_0, HO_5, HB⟩ := hrel
  cases gk with
  | zero => exact absurd HA.out (by simp [spec_l05Own.l0])
  | succ k1 =>
   have H := HA.out
   clear HA
   simp only [spec_l05Own.l0] at H
   by_cases c5 : x6_1 < (l0.length : Int)
   ·rw [if_pos c5] at H
    have c5b0 : decide (x6_1 < (l0.length : Int)) = true := decide_eq_true c5
    clear c5
    have H' := Aside0.mk H
    clear H
    go_wp2
    go_loopg [7, 8] k1 (fun kq v7 v8 w' => ∃ (x7_2 : Bool) (x8_2 : Int), v7 = .bool x7_2 ∧ v8 = .int .i64 x8_2 ∧ Aside0 (spec_l05Own.l1 kq l0 a1 x5_1 x6_1 x7_2 x8_2 = some r) ∧ Aside0 (kq ≤ k1) ∧ Aside0 (Kd.V (Kd.slice 55 k55) 27 w' w.heap.size (fun k_ => (P0_ k_ ∨ w.heap.size ≤ k_) ∧ some k_ ≠ (u5 : Value).ownBlock) (.slice A0 l0.length c0) l0) ∧ Aside0 (Kd.N (Kd.slice 55 k55) 27 w' w.heap.size (fun k_ => (P0_ k_ ∨ w.heap.size ≤ k_)) u5 x5_1) ∧ Aside0 (Below w.heap.size w w'))
    case atStart => exact ⟨(true), (1), (by first | rfl | (simp; done) | (simp [*]; done)), (by first | rfl | (simp; done) | (simp [*]; done)), H', ⟨Nat.le_refl _⟩, ⟨by (with_reducible repeat (first | apply Kd.V_alloc | apply Kd.V_drewN | apply Kd.V_drew)); exact HO_0.out⟩, ⟨by (with_reducible repeat (first | apply Kd.N_alloc | apply Kd.N_drewN | apply Kd.N_drew)); exact HO_5.out⟩, ⟨by repeat (first | (with_reducible first | exact HB.out | apply below_alloc | apply pw_below_drewN | apply below_drew1) | exact HB.out)⟩⟩
    case round =>
     clear H'
     try clear p2
     try clear c5
     try clear c5b0
     try clear p2
     obtain ⟨x7_2, x8_2, rfl, rfl, HA, HK2, HO_0, HO_5, HB⟩ := hrel
     cases gk with
     | zero => exact absurd HA.out (by simp [spec_l05Own.l1])
     | succ k2 =>
      have H := HA.out
      clear HA
      simp only [spec_l05Own.l1] at H
      by_cases c6 : x8_2 < a1
      ·rw [if_pos c6] at H
       have c6b0 : decide (x8_2 < a1) = true := decide_eq_true c6
       clear c6
       by_cases c7 : x7_2 = true
       ·subst c7
        have H1 : (if 0 ≤ x6_1 then (if x6_1 < (l0.length : Int) then ((spec_l03Form.f k2 (rd_L3 l0 x6_1) x8_2).bind fun t1009 => ((spec_CompareShapes.f k2 (rd_L3 l0 x6_1) t1009).bind fun t1012 => (spec_l05Own.l1 k2 l0 a1 x5_1 x6_1 (decide (t1012 ≤ 0)) (wrap64 (x8_2 + 1))))) else (none)) else (none)) = some r := by rw [if_pos rfl] at H; exact H
        clear H
        have H := H1
        clear H1
        by_cases c8 : 0 ≤ x6_1
        ·rw [if_pos c8] at H
         have c8b0 : decide (0 ≤ x6_1) = true := decide_eq_true c8
         clear c8
         by_cases c9 : x6_1 < (l0.length : Int)
         ·rw [if_pos c9] at H
          have c9b0 : decide (x6_1 < (l0.length : Int)) = true := decide_eq_true c9
          clear c9
          replace H := Option.bind_eq_some_iff.mp H
          obtain ⟨t1009, A100, H⟩ := H
          replace H : ((spec_CompareShapes.f k2 (rd_L3 l0 x6_1) t1009).bind fun t1012 => (spec_l05Own.l1 k2 l0 a1 x5_1 x6_1 (decide (t1012 ≤ 0)) (wrap64 (x8_2 + 1)))) = some r := H
          have A10 := Aside0.mk A100
          clear A100
          replace H := Option.bind_eq_some_iff.mp H
          obtain ⟨t1012, A110, H⟩ := H
          replace H : (spec_l05Own.l1 k2 l0 a1 x5_1 x6_1 (decide (t1012 ≤ 0)) (wrap64 (x8_2 + 1))) = some r := H
          have A11 := Aside0.mk A110
          clear A110
          have H' := Aside0.mk H
          clear H
          try go_wp2
          have n0_ := Aside0.mk (Kd.V_drew HO_0.out)
          have n1_ := Aside0.mk (Kd.N_drew HO_5.out)
          have n2_ := Aside0.mk (below_drew1 HB.out)
          clear HO_0
          clear HO_5
          clear HB
          have HO_0 := n0_
          have HO_5 := n1_
          have HB := n2_
          clear n0_ n1_ n2_
          have p1007 : 0 ≤ (x6_1 : Int) := of_decide_eq_true (by first | (with_reducible assumption) | assumption)
          have q1007 : x6_1 < (l0.length : Int) := of_decide_eq_true (by first | (with_reducible assumption) | assumption)
          obtain ⟨ad1007, A1007_0, c1007_0, e1007, hx1007_0, hl1007_0, hi1007_0⟩ := at_L3 (Kd.V_reads' HO_0.out).2.2 x6_1 p1007 q1007
          cases e1007
          obtain ⟨ce1007, hce1007, hMe1007, hcc1007⟩ := Kd.V_get HO_0.out [] x6_1 p1007 (by first | exact q1007 | exact of_decide_eq_true (by first | (with_reducible assumption) | assumption) | (have e_ := (Kd.V_reads' HO_0.out).1; omega))
          obtain ⟨ua1007_0, uc1007_0, rfl, ul1007_0, ge1007_0⟩ := Kd.FK_slice_open hMe1007
          have hv1007_0 := hcc1007 0 _ rfl
          rw [Nat.add_zero, show ((Kd.slice 55 k55)).sz = 1 from rfl, Nat.mul_one] at hv1007_0
          replace hv1007_0 := Option.some.inj (hv1007_0.symm.trans hx1007_0)
          injection hv1007_0 with hva_ hvn_ hvc_
          rw [hva_] at ge1007_0
          rw [hvc_] at ul1007_0
          have HL1007_0 := Aside0.mk (show Kd.V k55 55 _ w.heap.size _ _ (rd_L3 l0 x6_1) from Kd.V_mk ul1007_0 ge1007_0)
          clear hva_ hvn_ hvc_ ge1007_0 ul1007_0
          clear hcc1007 hce1007
          have HR1007_0 := Aside0.mk hi1007_0
          have HC1007_0 := Aside0.mk hl1007_0
          clear hi1007_0 hl1007_0
          replace p1007 := eq_true p1007
          replace q1007 := eq_true q1007
          have p1008 : 0 ≤ (x6_1 : Int) := of_decide_eq_true (by first | (with_reducible assumption) | assumption)
          have q1008 : x6_1 < (l0.length : Int) := of_decide_eq_true (by first | (with_reducible assumption) | assumption)
          obtain ⟨ad1008, A1008_0, c1008_0, e1008, hx1008_0, hl1008_0, hi1008_0⟩ := at_L3 (Kd.V_reads' HO_0.out).2.2 x6_1 p1008 q1008
          obtain rfl : ad1007 = ad1008 := (by injection e1008)
          obtain ⟨ce1008, hce1008, hMe1008, hcc1008⟩ := Kd.V_get HO_0.out [] x6_1 p1008 (by first | exact q1008 | exact of_decide_eq_true (by first | (with_reducible assumption) | assumption) | (have e_ := (Kd.V_reads' HO_0.out).1; omega))
          obtain ⟨ua1008_0, uc1008_0, rfl, ul1008_0, ge1008_0⟩ := Kd.FK_slice_open hMe1008
          have hv1008_0 := hcc1008 0 _ rfl
          rw [Nat.add_zero, show ((Kd.slice 55 k55)).sz = 1 from rfl, Nat.mul_one] at hv1008_0
          replace hv1008_0 := Option.some.inj (hv1008_0.symm.trans hx1008_0)
          injection hv1008_0 with hva_ hvn_ hvc_
          rw [hva_] at ge1008_0
          rw [hvc_] at ul1008_0
          have HL1008_0 := Aside0.mk (show Kd.V k55 55 _ w.heap.size _ _ (rd_L3 l0 x6_1) from Kd.V_mk ul1008_0 ge1008_0)
          clear hva_ hvn_ hvc_ ge1008_0 ul1008_0
          clear hcc1008 hce1008
          have HR1008_0 := Aside0.mk hi1008_0
          have HC1008_0 := Aside0.mk hl1008_0
          clear hi1008_0 hl1008_0
          replace p1008 := eq_true p1008
          replace q1008 := eq_true q1008
          have ea_ := Option.some.inj (hx1007_0.symm.trans hx1008_0)
          injection ea_ with ea_ en_ ec_
          subst ea_
          subst ec_
          clear en_
          refine start_ (n := 16) (S := fun w' => w'.cell? (ad1007.add (x6_1).toNat) = some (.slice A1007_0 (rd_L3 l0 x6_1).length c1007_0) ∧ w'.cell? (ad1007.add (x6_1).toNat) = some (.slice A1007_0 (rd_L3 l0 x6_1).length c1007_0)) (ds := []) #[false, false, false, false, false, false, false, false, false, false, false, false, false, false, false, false] (by kernel_rfl) rfl rfl ⟨hx1007_0, hx1008_0⟩ (fun hHeld => ?_); refine with_tabW spec_l05Own.tab9 spec_l05Own.bits9 (fun HT_ HW_ => ?_)
          generalize wr.drew = w12 at HO_0 HO_5 HB HL1007_0 HL1008_0 HR1007_0 HR1008_0 hx1007_0 hx1008_0 hHeld ⊢
          refine pure_ (i := 0) (N := some 21) (v := ?_) (a' := ?_) #[true, false, false, false, false, false, false, false, false, false, false, false, false, false, false, false] rfl rfl (any_of HT_.out (by kernel_rfl)) (fun _ _ _ h => h) (Or.inl ⟨by rfl, ?_⟩) ?_ ?_
          rotate_left
          ·intro w'
           go_simp
           with_reducible rfl
          rotate_left
          ·simp only [Act.put, List.setIfInBounds_toArray, List.set_cons_zero, List.set_cons_succ, i64_w, i32_w]
           rfl
          refine pure_ (i := 1) (N := some 22) (v := ?_) (a' := ?_) #[true, true, false, false, false, false, false, false, false, false, false, false, false, false, false, false] rfl rfl (any_of HT_.out (by kernel_rfl)) (fun _ _ _ h => h) (Or.inl ⟨by rfl, ?_⟩) ?_ ?_
          rotate_left
          ·intro w'
           go_simp
           with_reducible rfl
          rotate_left
          ·simp only [Act.put, List.setIfInBounds_toArray, List.set_cons_zero, List.set_cons_succ, i64_w, i32_w]
           rfl
          refine pure_ (i := 2) (N := some 23) (v := ?_) (a' := ?_) #[true, true, true, false, false, false, false, false, false, false, false, false, false, false, false, false] rfl rfl (any_of HT_.out (by kernel_rfl)) (fun _ _ _ h => h) (Or.inl ⟨by rfl, ?_⟩) ?_ ?_
          rotate_left
          ·intro w'
           go_simp
           with_reducible rfl
          rotate_left
          ·simp only [Act.put, List.setIfInBounds_toArray, List.set_cons_zero, List.set_cons_succ, i64_w, i32_w]
           rfl
          refine pure_ (i := 3) (N := some 24) (v := ?_) (a' := ?_) #[true, true, true, true, false, false, false, false, false, false, false, false, false, false, false, false] rfl rfl (any_of HT_.out (by kernel_rfl)) (fun _ _ _ h => h) (Or.inl ⟨by rfl, ?_⟩) ?_ ?_
          rotate_left
          ·intro w'
           go_simp
           with_reducible rfl
          rotate_left
          ·simp only [Act.put, List.setIfInBounds_toArray, List.set_cons_zero, List.set_cons_succ, i64_w, i32_w]
           rfl
          refine pure_ (i := 4) (N := some 25) (v := ?_) (a' := ?_) #[true, true, true, true, true, false, false, false, false, false, false, false, false, false, false, false] rfl rfl (any_of HT_.out (by kernel_rfl)) (fun _ _ _ h => h) (Or.inl ⟨by rfl, ?_⟩) ?_ ?_
          rotate_left
          ·intro w'
           go_simp
           with_reducible rfl
          rotate_left
          ·simp only [Act.put, List.setIfInBounds_toArray, List.set_cons_zero, List.set_cons_succ, i64_w, i32_w]
           rfl
          refine pure_ (i := 6) (N := some 27) (v := ?_) (a' := ?_) #[true, true, true, true, true, false, true, false, false, false, false, false, false, false, false, false] rfl rfl (any_of HT_.out (by kernel_rfl)) (fun _ _ _ h => h) (Or.inl ⟨by rfl, ?_⟩) ?_ ?_
          rotate_left
          ·intro w'
           go_simp
           with_reducible rfl
          rotate_left
          ·simp only [Act.put, List.setIfInBounds_toArray, List.set_cons_zero, List.set_cons_succ, i64_w, i32_w]
           rfl
          refine pure_ (i := 7) (N := some 28) (v := ?_) (a' := ?_) #[true, true, true, true, true, false, true, true, false, false, false, false, false, false, false, false] rfl rfl (any_of HT_.out (by kernel_rfl)) (fun _ _ _ h => h) (Or.inl ⟨by rfl, ?_⟩) ?_ ?_
          rotate_left
          ·intro w'
           go_simp
           with_reducible rfl
          rotate_left
          ·simp only [Act.put, List.setIfInBounds_toArray, List.set_cons_zero, List.set_cons_succ, i64_w, i32_w]
           rfl
          refine pure_ (i := 8) (N := some 29) (v := ?_) (a' := ?_) #[true, true, true, true, true, false, true, true, true, false, false, false, false, false, false, false] rfl rfl (any_of HT_.out (by kernel_rfl)) (fun _ _ _ h => h) (Or.inl ⟨by rfl, ?_⟩) ?_ ?_
          rotate_left
          ·intro w'
           go_simp
           with_reducible rfl
          rotate_left
          ·simp only [Act.put, List.setIfInBounds_toArray, List.set_cons_zero, List.set_cons_succ, i64_w, i32_w]
           rfl
          refine pure_ (i := 10) (N := some 31) (v := ?_) (a' := ?_) #[true, true, true, true, true, false, true, true, true, false, true, false, false, false, false, false] rfl rfl (any_of HT_.out (by kernel_rfl)) (fun _ _ _ h => h) (Or.inl ⟨by rfl, ?_⟩) ?_ ?_
          rotate_left
          ·intro w'
           go_simp
           with_reducible rfl
          rotate_left
          ·simp only [Act.put, List.setIfInBounds_toArray, List.set_cons_zero, List.set_cons_succ, i64_w, i32_w]
           rfl
          refine take_ (i := 5) (N := some 26) (v := ?_) (a' := ?_) #[true, true, true, true, true, true, true, true, true, false, true, false, false, false, false, false] rfl rfl (take_ofW HT_.out HW_.out (by kernel_rfl)) (fun _ _ _ h => h) (Or.inl ⟨by rfl, ?_⟩) hHeld ?_ ?_
          rotate_left
          ·rintro w' ⟨s0, s1⟩
           go_simp
           with_reducible rfl
          rotate_left
          ·simp only [Act.put, List.setIfInBounds_toArray, List.set_cons_zero, List.set_cons_succ, i64_w, i32_w]
           rfl
          refine take_ (i := 9) (N := some 30) (v := ?_) (a' := ?_) #[true, true, true, true, true, true, true, true, true, true, true, false, false, false, false, false] rfl rfl (take_ofW HT_.out HW_.out (by kernel_rfl)) (fun _ _ _ h => h) (Or.inl ⟨by rfl, ?_⟩) hHeld ?_ ?_
          rotate_left
          ·rintro w' ⟨s0, s1⟩
           go_simp
           with_reducible rfl
          rotate_left
          ·simp only [Act.put, List.setIfInBounds_toArray, List.set_cons_zero, List.set_cons_succ, i64_w, i32_w]
           rfl
          refine one_ (i := 11) (N := some 32) #[true, true, true, true, true, true, true, true, true, true, true, true, false, false, false, false] rfl rfl (one_of HT_.out (by kernel_rfl)) (by decide) (fun K hK => ?_)
          refine goes_ Try.func62 (by kernel_rfl) rfl #[.slice A1007_0 (rd_L3 l0 x6_1).length c1007_0, .int .i64 x8_2] (by rfl) rfl rfl (by (try simp only [List.map_toArray, List.map_cons, List.map_nil]); first | done | rfl) ?_
          with_reducible refine (spec_l03Form.calls k2 _ _ (rd_L3 l0 x6_1) x8_2 t1009 _ ?side1 ?side2 A10.out).mono ?_
          (case side1 => repeat (first | exact (by repeat (first | (with_reducible exact HR1008_0.out) | (with_reducible refine Kd.C_alloc ?_ _) | (with_reducible refine Kd.C_drewN ?_ _) | (with_reducible refine Kd.C_drew ?_) | exact HR1008_0.out)) | (with_reducible refine Kd.C_alloc ?_ _) | (with_reducible refine Kd.C_drewN ?_ _) | (with_reducible refine Kd.C_drew ?_)))
          (case side2 => exact HC1008_0.out)
          rintro e w13 ⟨v1010, rfl, ho0, hb⟩
          have HS0_ := (hb.cell (World.block_lt_of_cell? _ _ (hHeld.1))).trans (hHeld.1)
          have HS1_ := (hb.cell (World.block_lt_of_cell? _ _ (hHeld.2))).trans (hHeld.2)
          refine ⟨_, rfl, ?_⟩
          have n0_ := Aside0.mk (Kd.V_elder' (by (with_reducible repeat (first | apply Kd.V_alloc | apply Kd.V_drewN | apply Kd.V_drew)); exact HO_0.out) (Kd.R_base ho0) hb)
          have n1_ := Aside0.mk (Kd.N_elder' (by (with_reducible repeat (first | apply Kd.N_alloc | apply Kd.N_drewN | apply Kd.N_drew)); exact HO_5.out) (Kd.R_base ho0) hb)
          have n2_ := Aside0.mk (Kd.V_elder' (by (with_reducible repeat (first | apply Kd.V_alloc | apply Kd.V_drewN | apply Kd.V_drew)); exact HL1007_0.out) (Kd.R_base ho0) hb)
          have n3_ := Aside0.mk (Kd.V_elder' (by (with_reducible repeat (first | apply Kd.V_alloc | apply Kd.V_drewN | apply Kd.V_drew)); exact HL1008_0.out) (Kd.R_base ho0) hb)
          have n4_ := Aside0.mk (Kd.R_lower (Kd.R_newM (M := fun k_ => (w.heap.size ≤ k_)) ho0 (below_size (by repeat (first | (with_reducible first | exact HB.out | apply below_alloc | apply pw_below_drewN | apply below_drew1) | exact HB.out))) (fun k_ h_ => h_)) (below_size (by repeat (first | (with_reducible first | exact HB.out | apply below_alloc | apply pw_below_drewN | apply below_drew1) | exact HB.out))))
          have n5_ := Aside0.mk (Kd.C_below (by repeat (first | (with_reducible exact HR1007_0.out) | (with_reducible refine Kd.C_alloc ?_ _) | (with_reducible refine Kd.C_drewN ?_ _) | (with_reducible refine Kd.C_drew ?_) | exact HR1007_0.out)) hb)
          have n6_ := Aside0.mk (Kd.C_below (by repeat (first | (with_reducible exact HR1008_0.out) | (with_reducible refine Kd.C_alloc ?_ _) | (with_reducible refine Kd.C_drewN ?_ _) | (with_reducible refine Kd.C_drew ?_) | exact HR1008_0.out)) hb)
          have n7_ := Aside0.mk (below_step (by repeat (first | (with_reducible first | exact HB.out | apply below_alloc | apply pw_below_drewN | apply below_drew1) | exact HB.out)) hb)
          clear HO_0
          clear HO_5
          clear HL1007_0
          clear HL1008_0
          clear HR1007_0
          clear HR1008_0
          clear HB
          have HO_0 := n0_
          have HO_5 := n1_
          have HL1007_0 := n2_
          have HL1008_0 := n3_
          have HO1011 := n4_
          have HR1007_0 := n5_
          have HR1008_0 := n6_
          have HB := n7_
          clear n0_ n1_ n2_ n3_ n4_ n5_ n6_ n7_
          (try clear hb)
          (try clear ho0)
          obtain ⟨Ao14, co14, eo14⟩ := Kd.R_slice HO1011.out
          (first | subst eo14 | (injection eo14 with f1_ f2_ f3_; have f4_ := f1_.symm; have f5_ := f3_.symm; clear f1_ f2_ f3_; subst f4_; subst f5_))
          refine hK.out _ _ ⟨HS0_, HS1_⟩ (fun hHeld => ?_)
          clear hK K
          refine norm_ (a' := ?_) ?_ ?_
          rotate_left
          ·show Act.put _ (some 32) _ = _
           simp only [Act.put, List.setIfInBounds_toArray, List.set_cons_zero, List.set_cons_succ, i64_w, i32_w]
           rfl
          refine one_ (i := 12) (N := some 33) #[true, true, true, true, true, true, true, true, true, true, true, true, true, false, false, false] rfl rfl (one_of HT_.out (by kernel_rfl)) (by decide) (fun K hK => ?_)
          refine goes_ Try.func61 (by kernel_rfl) rfl #[.slice A1007_0 (rd_L3 l0 x6_1).length c1007_0, .slice Ao14 t1009.length co14] (by rfl) rfl rfl (by (try simp only [List.map_toArray, List.map_cons, List.map_nil]); first | done | rfl) ?_
          with_reducible refine (spec_CompareShapes.calls k2 _ _ (rd_L3 l0 x6_1) _ _ t1009 t1012 _ ?side1 ?side2 ?side3 ?side4 A11.out).mono ?_
          (case side1 => repeat (first | exact (by repeat (first | (with_reducible exact HR1007_0.out) | (with_reducible refine Kd.C_alloc ?_ _) | (with_reducible refine Kd.C_drewN ?_ _) | (with_reducible refine Kd.C_drew ?_) | exact HR1007_0.out)) | (with_reducible refine Kd.C_alloc ?_ _) | (with_reducible refine Kd.C_drewN ?_ _) | (with_reducible refine Kd.C_drew ?_)))
          (case side2 => exact HC1007_0.out)
          (case side3 => repeat (first | exact (Kd.R_reads' HO1011.out).2.2 | (with_reducible refine Kd.C_alloc ?_ _) | (with_reducible refine Kd.C_drewN ?_ _) | (with_reducible refine Kd.C_drew ?_)))
          (case side4 => exact (Kd.R_reads' HO1011.out).2.1)
          rintro e w15 ⟨rfl, hb⟩
          have HS0_ := (hb.cell (World.block_lt_of_cell? _ _ (hHeld.1))).trans (hHeld.1)
          have HS1_ := (hb.cell (World.block_lt_of_cell? _ _ (hHeld.2))).trans (hHeld.2)
          refine ⟨_, rfl, ?_⟩
          have n0_ := Aside0.mk (Kd.V_below (by (with_reducible repeat (first | apply Kd.V_alloc | apply Kd.V_drewN | apply Kd.V_drew)); exact HO_0.out) hb)
          have n1_ := Aside0.mk (Kd.N_below (by (with_reducible repeat (first | apply Kd.N_alloc | apply Kd.N_drewN | apply Kd.N_drew)); exact HO_5.out) hb)
          have n2_ := Aside0.mk (Kd.V_below (by (with_reducible repeat (first | apply Kd.V_alloc | apply Kd.V_drewN | apply Kd.V_drew)); exact HL1007_0.out) hb)
          have n3_ := Aside0.mk (Kd.V_below (by (with_reducible repeat (first | apply Kd.V_alloc | apply Kd.V_drewN | apply Kd.V_drew)); exact HL1008_0.out) hb)
          have n4_ := Aside0.mk (Kd.R_below (by (with_reducible repeat (first | apply Kd.R_alloc | apply Kd.R_drewN | apply Kd.R_drew)); exact HO1011.out) hb)
          have n5_ := Aside0.mk (Kd.C_below (by repeat (first | (with_reducible exact HR1007_0.out) | (with_reducible refine Kd.C_alloc ?_ _) | (with_reducible refine Kd.C_drewN ?_ _) | (with_reducible refine Kd.C_drew ?_) | exact HR1007_0.out)) hb)
          have n6_ := Aside0.mk (Kd.C_below (by repeat (first | (with_reducible exact HR1008_0.out) | (with_reducible refine Kd.C_alloc ?_ _) | (with_reducible refine Kd.C_drewN ?_ _) | (with_reducible refine Kd.C_drew ?_) | exact HR1008_0.out)) hb)
          have n7_ := Aside0.mk (below_step (by repeat (first | (with_reducible first | exact HB.out | apply below_alloc | apply pw_below_drewN | apply below_drew1) | exact HB.out)) hb)
          clear HO_0
          clear HO_5
          clear HL1007_0
          clear HL1008_0
          clear HO1011
          clear HR1007_0
          clear HR1008_0
          clear HB
          have HO_0 := n0_
          have HO_5 := n1_
          have HL1007_0 := n2_
          have HL1008_0 := n3_
          have HO1011 := n4_
          have HR1007_0 := n5_
          have HR1008_0 := n6_
          have HB := n7_
          clear n0_ n1_ n2_ n3_ n4_ n5_ n6_ n7_
          (try clear hb)
          refine hK.out _ _ ⟨HS0_, HS1_⟩ (fun hHeld => ?_)
          clear hK K
          refine norm_ (a' := ?_) ?_ ?_
          rotate_left
          ·show Act.put _ (some 33) _ = _
           simp only [Act.put, List.setIfInBounds_toArray, List.set_cons_zero, List.set_cons_succ, i64_w, i32_w]
           rfl
          refine pure_ (i := 13) (N := some 34) (v := ?_) (a' := ?_) #[true, true, true, true, true, true, true, true, true, true, true, true, true, true, false, false] rfl rfl (any_of HT_.out (by kernel_rfl)) (fun _ _ _ h => h) (Or.inl ⟨by rfl, ?_⟩) ?_ ?_
          rotate_left
          ·intro w'
           go_simp
           with_reducible rfl
          rotate_left
          ·simp only [Act.put, List.setIfInBounds_toArray, List.set_cons_zero, List.set_cons_succ, i64_w, i32_w]
           rfl
          refine pure_ (i := 14) (N := some 35) (v := ?_) (a' := ?_) #[true, true, true, true, true, true, true, true, true, true, true, true, true, true, true, false] rfl rfl (any_of HT_.out (by kernel_rfl)) (fun _ _ _ h => h) (Or.inl ⟨by rfl, ?_⟩) ?_ ?_
          rotate_left
          ·intro w'
           go_simp
           with_reducible rfl
          rotate_left
          ·simp only [Act.put, List.setIfInBounds_toArray, List.set_cons_zero, List.set_cons_succ, i64_w, i32_w]
           rfl
          refine pure_ (i := 15) (N := some 7) (v := ?_) (a' := ?_) #[true, true, true, true, true, true, true, true, true, true, true, true, true, true, true, true] rfl rfl (any_of HT_.out (by kernel_rfl)) (fun _ _ _ h => h) (Or.inl ⟨by rfl, ?_⟩) ?_ ?_
          rotate_left
          ·intro w'
           go_simp
           with_reducible rfl
          rotate_left
          ·simp only [Act.put, List.setIfInBounds_toArray, List.set_cons_zero, List.set_cons_succ, i64_w, i32_w]
           rfl
          refine done_ (done_of HT_.out (by kernel_rfl)) ?_
          try go_wp2
          go_roundg k2
          case measure => have := HK1.out; have := HK2.out; omega
          case rel => exact ⟨(decide (t1012 ≤ 0)), (wrap64 (x8_2 + 1)), (by first | rfl | (simp; done) | (simp [*]; done)), (by first | rfl | (simp; done) | (simp [*]; done)), H', ⟨by have := HK1.out; have := HK2.out; omega⟩, ⟨by (with_reducible repeat (first | apply Kd.V_alloc | apply Kd.V_drewN | apply Kd.V_drew)); exact Kd.V_mono HO_0.out (fun _ hk => ⟨hk.1.1, hk.1.2⟩)⟩, ⟨by (with_reducible repeat (first | apply Kd.N_alloc | apply Kd.N_drewN | apply Kd.N_drew)); exact Kd.N_mono HO_5.out (fun _ hk => hk.1)⟩, ⟨by repeat (first | (with_reducible first | exact HB.out | apply below_alloc | apply pw_below_drewN | apply below_drew1) | exact HB.out)⟩⟩
         ·rw [if_neg c9] at H
          exact absurd H (by simp)
        ·rw [if_neg c8] at H
         exact absurd H (by simp)
       ·replace c7 := Bool.eq_false_iff.mpr c7
        subst c7
        have H1 : (spec_l05Own.l1 k2 l0 a1 x5_1 x6_1 false (wrap64 (x8_2 + 1))) = some r := by rw [if_neg (show ¬ (false = true) by decide)] at H; exact H
        clear H
        have H := H1
        clear H1
        have H' := Aside0.mk H
        clear H
        try go_wp2
        have n0_ := Aside0.mk (Kd.V_drew HO_0.out)
        have n1_ := Aside0.mk (Kd.N_drew HO_5.out)
        have n2_ := Aside0.mk (below_drew1 HB.out)
        clear HO_0
        clear HO_5
        clear HB
        have HO_0 := n0_
        have HO_5 := n1_
        have HB := n2_
        clear n0_ n1_ n2_
        refine start_ (n := 16) (S := fun w' => True) (ds := []) #[false, false, false, false, false, false, false, false, false, false, false, false, false, false, false, false] (by kernel_rfl) rfl rfl trivial (fun hHeld => ?_); refine with_tabW spec_l05Own.tab9 spec_l05Own.bits9 (fun HT_ HW_ => ?_)
        generalize wr.drew = w16 at HO_0 HO_5 HB hHeld ⊢
        refine pure_ (i := 0) (N := some 21) (v := ?_) (a' := ?_) #[true, false, false, false, false, false, false, false, false, false, false, false, false, false, false, false] rfl rfl (any_of HT_.out (by kernel_rfl)) (fun _ _ _ h => h) (Or.inl ⟨by rfl, ?_⟩) ?_ ?_
        rotate_left
        ·intro w'
         go_simp
         with_reducible rfl
        rotate_left
        ·simp only [Act.put, List.setIfInBounds_toArray, List.set_cons_zero, List.set_cons_succ, i64_w, i32_w]
         rfl
        refine pure_ (i := 1) (N := some 22) (v := ?_) (a' := ?_) #[true, true, false, false, false, false, false, false, false, false, false, false, false, false, false, false] rfl rfl (any_of HT_.out (by kernel_rfl)) (fun _ _ _ h => h) (Or.inl ⟨by rfl, ?_⟩) ?_ ?_
        rotate_left
        ·intro w'
         go_simp
         with_reducible rfl
        rotate_left
        ·simp only [Act.put, List.setIfInBounds_toArray, List.set_cons_zero, List.set_cons_succ, i64_w, i32_w]
         rfl
        refine pure_ (i := 2) (N := some 23) (v := undef) (a' := ?_) #[true, true, true, false, false, false, false, false, false, false, false, false, false, false, false, false] rfl rfl (any_of HT_.out (by kernel_rfl)) (fun _ _ _ h => h) (Or.inr ⟨by rfl, rfl⟩) ?_ ?_
        rotate_left
        ·simp only [Act.put, List.setIfInBounds_toArray, List.set_cons_zero, List.set_cons_succ, i64_w, i32_w]
         rfl
        refine pure_ (i := 3) (N := some 24) (v := undef) (a' := ?_) #[true, true, true, true, false, false, false, false, false, false, false, false, false, false, false, false] rfl rfl (any_of HT_.out (by kernel_rfl)) (fun _ _ _ h => h) (Or.inr ⟨by rfl, rfl⟩) ?_ ?_
        rotate_left
        ·simp only [Act.put, List.setIfInBounds_toArray, List.set_cons_zero, List.set_cons_succ, i64_w, i32_w]
         rfl
        refine pure_ (i := 4) (N := some 25) (v := undef) (a' := ?_) #[true, true, true, true, true, false, false, false, false, false, false, false, false, false, false, false] rfl rfl (any_of HT_.out (by kernel_rfl)) (fun _ _ _ h => h) (Or.inr ⟨by rfl, rfl⟩) ?_ ?_
        rotate_left
        ·simp only [Act.put, List.setIfInBounds_toArray, List.set_cons_zero, List.set_cons_succ, i64_w, i32_w]
         rfl
        refine pure_ (i := 5) (N := some 26) (v := undef) (a' := ?_) #[true, true, true, true, true, true, false, false, false, false, false, false, false, false, false, false] rfl rfl (any_of HT_.out (by kernel_rfl)) (fun _ _ _ h => h) (Or.inr ⟨by rfl, rfl⟩) ?_ ?_
        rotate_left
        ·simp only [Act.put, List.setIfInBounds_toArray, List.set_cons_zero, List.set_cons_succ, i64_w, i32_w]
         rfl
        refine pure_ (i := 6) (N := some 27) (v := undef) (a' := ?_) #[true, true, true, true, true, true, true, false, false, false, false, false, false, false, false, false] rfl rfl (any_of HT_.out (by kernel_rfl)) (fun _ _ _ h => h) (Or.inr ⟨by rfl, rfl⟩) ?_ ?_
        rotate_left
        ·simp only [Act.put, List.setIfInBounds_toArray, List.set_cons_zero, List.set_cons_succ, i64_w, i32_w]
         rfl
        refine pure_ (i := 7) (N := some 28) (v := undef) (a' := ?_) #[true, true, true, true, true, true, true, true, false, false, false, false, false, false, false, false] rfl rfl (any_of HT_.out (by kernel_rfl)) (fun _ _ _ h => h) (Or.inr ⟨by rfl, rfl⟩) ?_ ?_
        rotate_left
        ·simp only [Act.put, List.setIfInBounds_toArray, List.set_cons_zero, List.set_cons_succ, i64_w, i32_w]
         rfl
        refine pure_ (i := 8) (N := some 29) (v := undef) (a' := ?_) #[true, true, true, true, true, true, true, true, true, false, false, false, false, false, false, false] rfl rfl (any_of HT_.out (by kernel_rfl)) (fun _ _ _ h => h) (Or.inr ⟨by rfl, rfl⟩) ?_ ?_
        rotate_left
        ·simp only [Act.put, List.setIfInBounds_toArray, List.set_cons_zero, List.set_cons_succ, i64_w, i32_w]
         rfl
        refine pure_ (i := 9) (N := some 30) (v := undef) (a' := ?_) #[true, true, true, true, true, true, true, true, true, true, false, false, false, false, false, false] rfl rfl (any_of HT_.out (by kernel_rfl)) (fun _ _ _ h => h) (Or.inr ⟨by rfl, rfl⟩) ?_ ?_
        rotate_left
        ·simp only [Act.put, List.setIfInBounds_toArray, List.set_cons_zero, List.set_cons_succ, i64_w, i32_w]
         rfl
        refine pure_ (i := 10) (N := some 31) (v := undef) (a' := ?_) #[true, true, true, true, true, true, true, true, true, true, true, false, false, false, false, false] rfl rfl (any_of HT_.out (by kernel_rfl)) (fun _ _ _ h => h) (Or.inr ⟨by rfl, rfl⟩) ?_ ?_
        rotate_left
        ·simp only [Act.put, List.setIfInBounds_toArray, List.set_cons_zero, List.set_cons_succ, i64_w, i32_w]
         rfl
        refine pure_ (i := 11) (N := some 32) (v := undef) (a' := ?_) #[true, true, true, true, true, true, true, true, true, true, true, true, false, false, false, false] rfl rfl (any_of HT_.out (by kernel_rfl)) (fun _ _ _ h => h) (Or.inr ⟨by rfl, rfl⟩) ?_ ?_
        rotate_left
        ·simp only [Act.put, List.setIfInBounds_toArray, List.set_cons_zero, List.set_cons_succ, i64_w, i32_w]
         rfl
        refine pure_ (i := 12) (N := some 33) (v := undef) (a' := ?_) #[true, true, true, true, true, true, true, true, true, true, true, true, true, false, false, false] rfl rfl (any_of HT_.out (by kernel_rfl)) (fun _ _ _ h => h) (Or.inr ⟨by rfl, rfl⟩) ?_ ?_
        rotate_left
        ·simp only [Act.put, List.setIfInBounds_toArray, List.set_cons_zero, List.set_cons_succ, i64_w, i32_w]
         rfl
        refine pure_ (i := 13) (N := some 34) (v := undef) (a' := ?_) #[true, true, true, true, true, true, true, true, true, true, true, true, true, true, false, false] rfl rfl (any_of HT_.out (by kernel_rfl)) (fun _ _ _ h => h) (Or.inr ⟨by rfl, rfl⟩) ?_ ?_
        rotate_left
        ·simp only [Act.put, List.setIfInBounds_toArray, List.set_cons_zero, List.set_cons_succ, i64_w, i32_w]
         rfl
        refine pure_ (i := 14) (N := some 35) (v := ?_) (a' := ?_) #[true, true, true, true, true, true, true, true, true, true, true, true, true, true, true, false] rfl rfl (any_of HT_.out (by kernel_rfl)) (fun _ _ _ h => h) (Or.inl ⟨by rfl, ?_⟩) ?_ ?_
        rotate_left
        ·intro w'
         go_simp
         with_reducible rfl
        rotate_left
        ·simp only [Act.put, List.setIfInBounds_toArray, List.set_cons_zero, List.set_cons_succ, i64_w, i32_w]
         rfl
        refine pure_ (i := 15) (N := some 7) (v := ?_) (a' := ?_) #[true, true, true, true, true, true, true, true, true, true, true, true, true, true, true, true] rfl rfl (any_of HT_.out (by kernel_rfl)) (fun _ _ _ h => h) (Or.inl ⟨by rfl, ?_⟩) ?_ ?_
        rotate_left
        ·intro w'
         go_simp
         with_reducible rfl
        rotate_left
        ·simp only [Act.put, List.setIfInBounds_toArray, List.set_cons_zero, List.set_cons_succ, i64_w, i32_w]
         rfl
        refine done_ (done_of HT_.out (by kernel_rfl)) ?_
        try go_wp2
        go_roundg k2
        case measure => have := HK1.out; have := HK2.out; omega
        case rel => exact ⟨(false), (wrap64 (x8_2 + 1)), (by first | rfl | (simp; done) | (simp [*]; done)), (by first | rfl | (simp; done) | (simp [*]; done)), H', ⟨by have := HK1.out; have := HK2.out; omega⟩, ⟨by (with_reducible repeat (first | apply Kd.V_alloc | apply Kd.V_drewN | apply Kd.V_drew)); exact HO_0.out⟩, ⟨by (with_reducible repeat (first | apply Kd.N_alloc | apply Kd.N_drewN | apply Kd.N_drew)); exact HO_5.out⟩, ⟨by repeat (first | (with_reducible first | exact HB.out | apply below_alloc | apply pw_below_drewN | apply below_drew1) | exact HB.out)⟩⟩
      ·rw [if_neg c6] at H
       have c6b0 : decide (x8_2 < a1) = false := decide_eq_false c6
       clear c6
       by_cases c17 : x7_2 = true
       ·subst c17
        have H1 : (if 0 ≤ x6_1 then (if x6_1 < (l0.length : Int) then (if x5_1.length < 5864062014805 then (spec_l05Own.l0 k2 l0 a1 (x5_1 ++ [rd_L3 l0 x6_1]) (wrap64 (x6_1 + 1))) else (none)) else (none)) else (none)) = some r := by rw [if_pos rfl] at H; exact H
        clear H
        have H := H1
        clear H1
        by_cases c18 : 0 ≤ x6_1
        ·rw [if_pos c18] at H
         have c18b0 : decide (0 ≤ x6_1) = true := decide_eq_true c18
         clear c18
         by_cases c19 : x6_1 < (l0.length : Int)
         ·rw [if_pos c19] at H
          have c19b0 : decide (x6_1 < (l0.length : Int)) = true := decide_eq_true c19
          clear c19
          by_cases c20 : x5_1.length < 5864062014805
          ·rw [if_pos c20] at H
           have LMc20 := Aside0.mk c20
           clear c20
           obtain ⟨y1014, hy1014⟩ : ∃ y_ : List (List (S55)), y_ = (x5_1 ++ [rd_L3 l0 x6_1]) := ⟨_, rfl⟩
           replace H : (spec_l05Own.l0 k2 l0 a1 y1014 (wrap64 (x6_1 + 1))) = some r := by first | (rw [hy1014]; with_reducible exact H) | (have H2_ := (Option.bind_some _ _).symm.trans H; rw [hy1014]; with_reducible exact H2_) | (have H2_ := (Option.bind_some _ _).symm.trans H; with_reducible exact H2_) | with_reducible exact H | (rw [hy1014]; exact H) | exact H
           have Ny1014 := Aside0.mk hy1014
           clear hy1014
           have H' := Aside0.mk H
           clear H
           have p1013 : 0 ≤ (x6_1 : Int) := of_decide_eq_true (by first | (with_reducible assumption) | assumption)
           have q1013 : x6_1 < (l0.length : Int) := of_decide_eq_true (by first | (with_reducible assumption) | assumption)
           obtain ⟨ad1013, A1013_0, c1013_0, e1013, hx1013_0, hl1013_0, hi1013_0⟩ := at_L3 (Kd.V_reads' HO_0.out).2.2 x6_1 p1013 q1013
           cases e1013
           obtain ⟨ce1013, hce1013, hMe1013, hcc1013⟩ := Kd.V_get HO_0.out [] x6_1 p1013 (by first | exact q1013 | exact of_decide_eq_true (by first | (with_reducible assumption) | assumption) | (have e_ := (Kd.V_reads' HO_0.out).1; omega))
           obtain ⟨ua1013_0, uc1013_0, rfl, ul1013_0, ge1013_0⟩ := Kd.FK_slice_open hMe1013
           have hv1013_0 := hcc1013 0 _ rfl
           rw [Nat.add_zero, show ((Kd.slice 55 k55)).sz = 1 from rfl, Nat.mul_one] at hv1013_0
           replace hv1013_0 := Option.some.inj (hv1013_0.symm.trans hx1013_0)
           injection hv1013_0 with hva_ hvn_ hvc_
           rw [hva_] at ge1013_0
           rw [hvc_] at ul1013_0
           have HL1013_0 := Aside0.mk (show Kd.V k55 55 _ w.heap.size _ _ (rd_L3 l0 x6_1) from Kd.V_mk ul1013_0 ge1013_0)
           clear hva_ hvn_ hvc_ ge1013_0 ul1013_0
           clear hcc1013 hce1013
           have HR1013_0 := Aside0.mk hi1013_0
           have HC1013_0 := Aside0.mk hl1013_0
           clear hi1013_0 hl1013_0
           replace p1013 := eq_true p1013
           replace q1013 := eq_true q1013
           go_wp2_with (first | ((with_reducible refine gate_builtin (b := .append) (xs := #[.tmp 37, .tmp 42]) rfl ?_); at_builtin; refine Kd.N_append (Kd.slice 55 k55) (w0 := w) w.heap.size rfl (.tmp 37) (.tmp 42) 24 27 (.slice none 0 0) 24 rfl Try.underlying24 info27 rfl (by decide) (by omega) u5 x5_1 (rd_L3 l0 x6_1) [.slice A1013_0 (rd_L3 l0 x6_1).length c1013_0] (fun k_ => (P0_ k_ ∨ w.heap.size ≤ k_)) (fun k_ => ((fun k_ => (P0_ k_ ∨ w.heap.size ≤ k_))) k_ ∧ some k_ ≠ (u5 : Value).ownBlock) rfl rfl ?aP (fun _ hk => hk) ?aF ?aO ?aB ?aS ?aL ?_; (case aP => exact (Kd.FK_slice_mk (Kd.V_reads' (Kd.V_mono (ok' := (fun k_ => ((fun k_ => (P0_ k_ ∨ w.heap.size ≤ k_))) k_ ∧ some k_ ≠ (u5 : Value).ownBlock)) (HL1013_0.out) (fun k_ hk => ⟨hk.1, hk.2⟩))).2.1 (Kd.V_F (Kd.V_mono (ok' := (fun k_ => ((fun k_ => (P0_ k_ ∨ w.heap.size ≤ k_))) k_ ∧ some k_ ≠ (u5 : Value).ownBlock)) (HL1013_0.out) (fun k_ hk => ⟨hk.1, hk.2⟩))))); (case aB => exact (by repeat (first | (with_reducible first | exact HB.out | apply below_alloc | apply pw_below_drewN | apply below_drew1) | exact HB.out))); (case aF => exact (fun k_ hk => (.inr (Nat.le_trans (below_size (by repeat (first | (with_reducible first | exact HB.out | apply below_alloc | apply pw_below_drewN | apply below_drew1) | exact HB.out))) hk)))); (case aO => exact (by (with_reducible repeat (first | apply Kd.N_alloc | apply Kd.N_drewN | apply Kd.N_drew)); exact HO_5.out)); (case aS => exact (below_size (by repeat (first | (with_reducible first | exact HB.out | apply below_alloc | apply pw_below_drewN | apply below_drew1) | exact HB.out)))); (case aL => have := LMc20.out; omega); intro v1015 w21 ho hb hg hat; rw [← Ny1014.out] at ho; have n0_ := Aside0.mk (Kd.V_afterv (ok := (fun k_ => (P0_ k_ ∨ w.heap.size ≤ k_))) (by (with_reducible repeat (first | apply Kd.V_alloc | apply Kd.V_drewN | apply Kd.V_drew)); exact HO_0.out) hg hat); have n1_ := Aside0.mk (Kd.V_afterv (ok := (fun k_ => (P0_ k_ ∨ w.heap.size ≤ k_))) (by (with_reducible repeat (first | apply Kd.V_alloc | apply Kd.V_drewN | apply Kd.V_drew)); exact HL1013_0.out) hg hat); have n2_ := Aside0.mk (hb); have n3_ := Aside0.mk (ho); clear HO_0; clear HL1013_0; clear HB; clear HO_5; have HO_0 := n0_; have HL1013_0 := n1_; have HB := n2_; have HO1016 := n3_; clear n0_ n1_ n2_ n3_; clear ho hb hg hat))
           go_roundg k2
           case measure => have := HK1.out; have := HK2.out; omega
           case rel => exact ⟨(y1014), (wrap64 (x6_1 + 1)), (by first | rfl | (simp; done) | (simp [*]; done)), H', ⟨by have := HK1.out; have := HK2.out; omega⟩, ⟨by (with_reducible repeat (first | apply Kd.V_alloc | apply Kd.V_drewN | apply Kd.V_drew)); exact HO_0.out⟩, ⟨by (with_reducible repeat (first | apply Kd.N_alloc | apply Kd.N_drewN | apply Kd.N_drew)); exact HO1016.out⟩, ⟨by repeat (first | (with_reducible first | exact HB.out | apply below_alloc | apply pw_below_drewN | apply below_drew1) | exact HB.out)⟩⟩
          ·rw [if_neg c20] at H
           exact absurd H (by simp)
         ·rw [if_neg c19] at H
          exact absurd H (by simp)
        ·rw [if_neg c18] at H
         exact absurd H (by simp)
       ·replace c17 := Bool.eq_false_iff.mpr c17
        subst c17
        have H1 : (spec_l05Own.l0 k2 l0 a1 x5_1 (wrap64 (x6_1 + 1))) = some r := by rw [if_neg (show ¬ (false = true) by decide)] at H; exact H
        clear H
        have H := H1
        clear H1
        have H' := Aside0.mk H
        clear H
        go_wp2
        go_roundg k2
        case measure => have := HK1.out; have := HK2.out; omega
        case rel => exact ⟨(x5_1), (wrap64 (x6_1 + 1)), (by first | rfl | (simp; done) | (simp [*]; done)), H', ⟨by have := HK1.out; have := HK2.out; omega⟩, ⟨by (with_reducible repeat (first | apply Kd.V_alloc | apply Kd.V_drewN | apply Kd.V_drew)); exact HO_0.out⟩, ⟨by (with_reducible repeat (first | apply Kd.N_alloc | apply Kd.N_drewN | apply Kd.N_drew)); exact HO_5.out⟩, ⟨by repeat (first | (with_reducible first | exact HB.out | apply below_alloc | apply pw_below_drewN | apply below_drew1) | exact HB.out)⟩⟩
   ·rw [if_neg c5] at H
    have c5b0 : decide (x6_1 < (l0.length : Int)) = false := decide_eq_false c5
    clear c5
    obtain rfl := Option.some.inj H
    go_wp2
    go_ret
    exact ⟨_, by first | rfl | (simp [*] <;> rfl), by (with_reducible repeat (first | apply Kd.N_alloc | apply Kd.N_drewN | apply Kd.N_drew)); exact HO_5.out, by repeat (first | (with_reducible first | exact HB.out | apply below_alloc | apply pw_below_drewN | apply below_drew1) | exact HB.out)⟩

/-! ### spec_CountShapes: function 32 -/
def spec_CountShapes.f (k : Nat) (a0 : Int) : Option (Int × Int × Int × Int) := (spec_l05Order.f a0).bind fun t1017 => (if t1017 = true then ((spec_l05Fixed.f k a0).bind fun t1018 => ((spec_l05Own.f k t1018 4).bind fun t1021 => ((spec_l05Own.f k t1018 8).bind fun t1024 => (some ((t1018.length : Int), (t1021.length : Int), (t1024.length : Int), 0))))) else (some (0, 0, 0, 2)))
theorem spec_CountShapes.mono : ∀ a0 k, LeO (spec_CountShapes.f k a0) (spec_CountShapes.f (k + 1) a0) := by
 intro a0 k
 unfold spec_CountShapes.f
 repeat' first
   | (with_reducible exact spec_l05Fixed.mono _ _)
   | (with_reducible exact spec_l05Own.mono _ _ _)
   | (with_reducible exact LeO.refl _)
   | (with_reducible exact LeO.none _)
   | (with_reducible refine LeO.ite ?_ ?_)
   | (with_reducible refine LeO.bind ?_ (fun _ => ?_))
   | exact spec_l05Fixed.mono _ _
   | exact spec_l05Own.mono _ _ _
   | exact LeO.none _
   | refine LeO.ite ?_ ?_
   | refine LeO.bind ?_ (fun _ => ?_)
set_option maxHeartbeats 8000000 in
set_option maxRecDepth 100000 in
theorem spec_CountShapes.calls (k : Nat) (a0 : Int) (r1 : Int) (r2 : Int) (r3 : Int) (r4 : Int) (w : World) (h : spec_CountShapes.f k a0 = some (r1, r2, r3, r4)) :
  Calls Try.prog 32 #[.int .i64 a0] w fun e w' => e = .returned (.tuple #[.int .i64 r1, .int .i64 r2, .int .i64 r3, .int .i64 r4]) ∧ Below w.heap.size w w' := by
 have HB := Aside0.mk (Below.refl w.heap.size w)
 have H : ((spec_l05Order.f a0).bind fun t1017 => (if t1017 = true then ((spec_l05Fixed.f k a0).bind fun t1018 => ((spec_l05Own.f k t1018 4).bind fun t1021 => ((spec_l05Own.f k t1018 8).bind fun t1024 => (some ((t1018.length : Int), (t1021.length : Int), (t1024.length : Int), 0))))) else (some (0, 0, 0, 2)))) = some (r1, r2, r3, r4) := h
 clear h
 replace H := Option.bind_eq_some_iff.mp H
 obtain ⟨t1017, A20, H⟩ := H
 replace H : (if t1017 = true then ((spec_l05Fixed.f k a0).bind fun t1018 => ((spec_l05Own.f k t1018 4).bind fun t1021 => ((spec_l05Own.f k t1018 8).bind fun t1024 => (some ((t1018.length : Int), (t1021.length : Int), (t1024.length : Int), 0))))) else (some (0, 0, 0, 2))) = some (r1, r2, r3, r4) := H
 have A2 := Aside0.mk A20
 clear A20
 by_cases c3 : t1017 = true
 ·subst c3
  have H1 : ((spec_l05Fixed.f k a0).bind fun t1018 => ((spec_l05Own.f k t1018 4).bind fun t1021 => ((spec_l05Own.f k t1018 8).bind fun t1024 => (some ((t1018.length : Int), (t1021.length : Int), (t1024.length : Int), 0))))) = some (r1, r2, r3, r4) := by rw [if_pos rfl] at H; exact H
  clear H
  have H := H1
  clear H1
  replace H := Option.bind_eq_some_iff.mp H
  obtain ⟨t1018, A40, H⟩ := H
  replace H : ((spec_l05Own.f k t1018 4).bind fun t1021 => ((spec_l05Own.f k t1018 8).bind fun t1024 => (some ((t1018.length : Int), (t1021.length : Int), (t1024.length : Int), 0)))) = some (r1, r2, r3, r4) := H
  have A4 := Aside0.mk A40
  clear A40
  replace H := Option.bind_eq_some_iff.mp H
  obtain ⟨t1021, A50, H⟩ := H
  replace H : ((spec_l05Own.f k t1018 8).bind fun t1024 => (some ((t1018.length : Int), (t1021.length : Int), (t1024.length : Int), 0))) = some (r1, r2, r3, r4) := H
  have A5 := Aside0.mk A50
  clear A50
  replace H := Option.bind_eq_some_iff.mp H
  obtain ⟨t1024, A60, H⟩ := H
  replace H : (some ((t1018.length : Int), (t1021.length : Int), (t1024.length : Int), 0)) = some (r1, r2, r3, r4) := H
  have A6 := Aside0.mk A60
  clear A60
  simp only [Option.some.injEq, Prod.mk.injEq] at H
  obtain ⟨rfl, rfl, rfl, rfl⟩ := H
  go_enter Try.func32, Try.ntmps32
  go_wp2_with (first | ((with_reducible refine gate_callee (f := 70) rfl ?_); refine goesL_ (some 8) rfl rfl Try.func70 (by kernel_rfl) rfl #[.int .i64 a0] rfl (by (try simp only [List.map_toArray, List.map_cons, List.map_nil]); first | done | rfl) ?_; (with_reducible refine (spec_l05Order.calls a0 true _ A2.out).mono ?_); rintro e w' ⟨rfl, ⟨nd, rfl⟩⟩; refine ⟨_, rfl, ?_⟩) | ((with_reducible refine gate_callee (f := 71) rfl ?_); refine goesL_ (some 11) rfl rfl Try.func71 (by kernel_rfl) rfl #[.int .i64 a0] rfl (by (try simp only [List.map_toArray, List.map_cons, List.map_nil]); first | done | rfl) ?_; (with_reducible refine (spec_l05Fixed.calls k a0 t1018 _ A4.out).mono ?_); rintro e w7 ⟨v1019, rfl, ho0, hb⟩; refine ⟨_, rfl, ?_⟩; have n0_ := Aside0.mk (Kd.V_lower (Kd.V_mono (ok' := fun k_ => True) ho0 (fun k_ hk_ => trivial)) (below_size (by repeat (first | (with_reducible first | exact HB.out | apply below_alloc | apply pw_below_drewN | apply below_drew1) | exact HB.out)))); have n1_ := Aside0.mk (below_step (by repeat (first | (with_reducible first | exact HB.out | apply below_alloc | apply pw_below_drewN | apply below_drew1) | exact HB.out)) hb); clear HB; have HO1020 := n0_; have HB := n1_; clear n0_ n1_; (try clear hb); (try clear ho0); obtain ⟨Ao8, co8, eo8⟩ := Kd.V_slice HO1020.out; subst eo8) | ((with_reducible refine gate_callee (f := 72) rfl ?_); refine goesL_ (some 15) rfl rfl Try.func72 (by kernel_rfl) rfl #[.slice Ao8 t1018.length co8, .int .i64 4] rfl (by (try simp only [List.map_toArray, List.map_cons, List.map_nil]); first | done | rfl) ?_; (with_reducible refine (spec_l05Own.calls k (fun k_ => True) _ _ t1018 4 t1021 _ ?side1 A5.out).mono ?_); (case side1 => exact HO1020.out); rintro e w9 ⟨v1022, rfl, ho0, hb⟩; refine ⟨_, rfl, ?_⟩; have n0_ := Aside0.mk (Kd.V_elder' (by (with_reducible repeat (first | apply Kd.V_alloc | apply Kd.V_drewN | apply Kd.V_drew)); exact HO1020.out) (Kd.N_base ho0) hb); have n1_ := Aside0.mk (Kd.N_lower (Kd.N_mono (ok' := fun k_ => True) ho0 (fun k_ hk_ => trivial)) (below_size (by repeat (first | (with_reducible first | exact HB.out | apply below_alloc | apply pw_below_drewN | apply below_drew1) | exact HB.out)))); have n2_ := Aside0.mk (below_step (by repeat (first | (with_reducible first | exact HB.out | apply below_alloc | apply pw_below_drewN | apply below_drew1) | exact HB.out)) hb); clear HO1020; clear HB; have HO1020 := n0_; have HO1023 := n1_; have HB := n2_; clear n0_ n1_ n2_; (try clear hb); (try clear ho0); obtain ⟨Ao10, co10, eo10⟩ := Kd.N_slice HO1023.out; subst eo10) | ((with_reducible refine gate_callee (f := 72) rfl ?_); refine goesL_ (some 18) rfl rfl Try.func72 (by kernel_rfl) rfl #[.slice Ao8 t1018.length co8, .int .i64 8] rfl (by (try simp only [List.map_toArray, List.map_cons, List.map_nil]); first | done | rfl) ?_; (with_reducible refine (spec_l05Own.calls k (fun k_ => (True ∧ some k_ ≠ (.slice Ao10 t1021.length co10 : Value).ownBlock)) _ _ t1018 8 t1024 _ ?side1 A6.out).mono ?_); (case side1 => exact HO1020.out); rintro e w11 ⟨v1025, rfl, ho0, hb⟩; refine ⟨_, rfl, ?_⟩; have n0_ := Aside0.mk (Kd.V_elder' (by (with_reducible repeat (first | apply Kd.V_alloc | apply Kd.V_drewN | apply Kd.V_drew)); exact HO1020.out) (Kd.N_base ho0) hb); have n1_ := Aside0.mk (Kd.N_elder' (by (with_reducible repeat (first | apply Kd.N_alloc | apply Kd.N_drewN | apply Kd.N_drew)); exact HO1023.out) (Kd.N_base ho0) hb); have n2_ := Aside0.mk (Kd.N_lower (Kd.N_mono (ok' := fun k_ => some k_ ≠ (.slice Ao10 t1021.length co10 : Value).ownBlock) ho0 (fun k_ hk_ => Or.elim hk_ (fun hs_ => hs_.2) (fun hn_ => (Kd.fresh' (Kd.N_lt (by (with_reducible repeat (first | apply Kd.N_alloc | apply Kd.N_drewN | apply Kd.N_drew)); exact HO1023.out)) k_ hn_)))) (below_size (by repeat (first | (with_reducible first | exact HB.out | apply below_alloc | apply pw_below_drewN | apply below_drew1) | exact HB.out)))); have n3_ := Aside0.mk (below_step (by repeat (first | (with_reducible first | exact HB.out | apply below_alloc | apply pw_below_drewN | apply below_drew1) | exact HB.out)) hb); clear HO1020; clear HO1023; clear HB; have HO1020 := n0_; have HO1023 := n1_; have HO1026 := n2_; have HB := n3_; clear n0_ n1_ n2_ n3_; (try clear hb); (try clear ho0); obtain ⟨Ao12, co12, eo12⟩ := Kd.N_slice HO1026.out; subst eo12))
  refine bodyPost_ret (results_list (rs := [.tmp 2, .tmp 3, .tmp 4, .tmp 5]) rfl (by simp) (.tmp (.tmp (.tmp (.tmp .nil))))) rfl ?_
  exact ⟨by first | rfl | (simp [*] <;> rfl), by repeat (first | (with_reducible first | exact HB.out | apply below_alloc | apply pw_below_drewN | apply below_drew1) | exact HB.out)⟩
 ·replace c3 := Bool.eq_false_iff.mpr c3
  subst c3
  have H1 : (some (0, 0, 0, 2)) = some (r1, r2, r3, r4) := by rw [if_neg (show ¬ (false = true) by decide)] at H; exact H
  clear H
  have H := H1
  clear H1
  simp only [Option.some.injEq, Prod.mk.injEq] at H
  obtain ⟨rfl, rfl, rfl, rfl⟩ := H
  go_enter Try.func32, Try.ntmps32
  go_wp2_with (first | ((with_reducible refine gate_callee (f := 70) rfl ?_); refine goesL_ (some 8) rfl rfl Try.func70 (by kernel_rfl) rfl #[.int .i64 a0] rfl (by (try simp only [List.map_toArray, List.map_cons, List.map_nil]); first | done | rfl) ?_; (with_reducible refine (spec_l05Order.calls a0 false _ A2.out).mono ?_); rintro e w' ⟨rfl, ⟨nd, rfl⟩⟩; refine ⟨_, rfl, ?_⟩))
  refine bodyPost_ret (results_list (rs := [.tmp 2, .tmp 3, .tmp 4, .tmp 5]) rfl (by simp) (.tmp (.tmp (.tmp (.tmp .nil))))) rfl ?_
  exact ⟨by first | rfl | (simp [*] <;> rfl), by repeat (first | (with_reducible first | exact HB.out | apply below_alloc | apply pw_below_drewN | apply below_drew1) | exact HB.out)⟩

/-! ### impl_FixedShapes: function 33 -/
def impl_FixedShapes.f (k : Nat) (a0 : Int) : Option ((List (List (S55))) × Int) := (impl_isOrder.f a0).bind fun t1027 => (if t1027 = true then ((impl_fixedShapes.f k a0).bind fun t1028 => (some (t1028, 0))) else (some (([] : List (List (S55))), 2)))
theorem impl_FixedShapes.mono : ∀ a0 k, LeO (impl_FixedShapes.f k a0) (impl_FixedShapes.f (k + 1) a0) := by
 intro a0 k
 unfold impl_FixedShapes.f
 repeat' first
   | (with_reducible exact impl_fixedShapes.mono _ _)
   | (with_reducible exact LeO.refl _)
   | (with_reducible exact LeO.none _)
   | (with_reducible refine LeO.ite ?_ ?_)
   | (with_reducible refine LeO.bind ?_ (fun _ => ?_))
   | exact impl_fixedShapes.mono _ _
   | exact LeO.none _
   | refine LeO.ite ?_ ?_
   | refine LeO.bind ?_ (fun _ => ?_)
set_option maxHeartbeats 8000000 in
set_option maxRecDepth 100000 in
theorem impl_FixedShapes.calls (k : Nat) (a0 : Int) (r1 : List (List (S55))) (r2 : Int) (w : World) (h : impl_FixedShapes.f k a0 = some (r1, r2)) :
  Calls Try.prog 33 #[.int .i64 a0] w fun e w' => ∃ v0_ : Value, e = .returned (.tuple #[v0_, .int .i64 r2]) ∧ Kd.S (Kd.slice 55 k55) 27 w' w.heap.size (fun _ => True) v0_ r1 ∧ Below w.heap.size w w' := by
 have HB := Aside0.mk (Below.refl w.heap.size w)
 have H : ((impl_isOrder.f a0).bind fun t1027 => (if t1027 = true then ((impl_fixedShapes.f k a0).bind fun t1028 => (some (t1028, 0))) else (some (([] : List (List (S55))), 2)))) = some (r1, r2) := h
 clear h
 replace H := Option.bind_eq_some_iff.mp H
 obtain ⟨t1027, A20, H⟩ := H
 replace H : (if t1027 = true then ((impl_fixedShapes.f k a0).bind fun t1028 => (some (t1028, 0))) else (some (([] : List (List (S55))), 2))) = some (r1, r2) := H
 have A2 := Aside0.mk A20
 clear A20
 by_cases c3 : t1027 = true
 ·subst c3
  have H1 : ((impl_fixedShapes.f k a0).bind fun t1028 => (some (t1028, 0))) = some (r1, r2) := by rw [if_pos rfl] at H; exact H
  clear H
  have H := H1
  clear H1
  replace H := Option.bind_eq_some_iff.mp H
  obtain ⟨t1028, A40, H⟩ := H
  replace H : (some (t1028, 0)) = some (r1, r2) := H
  have A4 := Aside0.mk A40
  clear A40
  simp only [Option.some.injEq, Prod.mk.injEq] at H
  obtain ⟨rfl, rfl⟩ := H
  go_enter Try.func33, Try.ntmps33
  go_wp2_with (first | ((with_reducible refine gate_callee (f := 67) rfl ?_); refine goesL_ (some 5) rfl rfl Try.func67 (by kernel_rfl) rfl #[.int .i64 a0] rfl (by (try simp only [List.map_toArray, List.map_cons, List.map_nil]); first | done | rfl) ?_; (with_reducible refine (impl_isOrder.calls a0 true _ A2.out).mono ?_); rintro e w' ⟨rfl, ⟨nd, rfl⟩⟩; refine ⟨_, rfl, ?_⟩) | ((with_reducible refine gate_callee (f := 68) rfl ?_); refine goesL_ (some 8) rfl rfl Try.func68 (by kernel_rfl) rfl #[.int .i64 a0] rfl (by (try simp only [List.map_toArray, List.map_cons, List.map_nil]); first | done | rfl) ?_; (with_reducible refine (impl_fixedShapes.calls k a0 t1028 _ A4.out).mono ?_); rintro e w5 ⟨v1029, rfl, ho0, hb⟩; refine ⟨_, rfl, ?_⟩; have n0_ := Aside0.mk (Kd.S_lower ho0 (below_size (by repeat (first | (with_reducible first | exact HB.out | apply below_alloc | apply pw_below_drewN | apply below_drew1) | exact HB.out)))); have n1_ := Aside0.mk (below_step (by repeat (first | (with_reducible first | exact HB.out | apply below_alloc | apply pw_below_drewN | apply below_drew1) | exact HB.out)) hb); clear HB; have HO1030 := n0_; have HB := n1_; clear n0_ n1_; (try clear hb); (try clear ho0)))
  go_ret2
  exact ⟨_, by first | rfl | (simp [*] <;> rfl), by (with_reducible repeat (first | apply Kd.S_alloc | apply Kd.S_drewN | apply Kd.S_drew)); exact HO1030.out, by repeat (first | (with_reducible first | exact HB.out | apply below_alloc | apply pw_below_drewN | apply below_drew1) | exact HB.out)⟩
 ·replace c3 := Bool.eq_false_iff.mpr c3
  subst c3
  have H1 : (some (([] : List (List (S55))), 2)) = some (r1, r2) := by rw [if_neg (show ¬ (false = true) by decide)] at H; exact H
  clear H
  have H := H1
  clear H1
  simp only [Option.some.injEq, Prod.mk.injEq] at H
  obtain ⟨rfl, rfl⟩ := H
  go_enter Try.func33, Try.ntmps33
  go_wp2_with (first | ((with_reducible refine gate_callee (f := 67) rfl ?_); refine goesL_ (some 5) rfl rfl Try.func67 (by kernel_rfl) rfl #[.int .i64 a0] rfl (by (try simp only [List.map_toArray, List.map_cons, List.map_nil]); first | done | rfl) ?_; (with_reducible refine (impl_isOrder.calls a0 false _ A2.out).mono ?_); rintro e w' ⟨rfl, ⟨nd, rfl⟩⟩; refine ⟨_, rfl, ?_⟩))
  go_ret2
  exact ⟨_, by first | rfl | (simp [*] <;> rfl), by first | exact Kd.S_nil _ _ _ _ _ | exact Kd.N_nil _ _ _ _ _ | exact Kd.V_nil _ _ _ _ _ | exact Kd.Q_nil _ _ _ _ _ | exact Kd.R_nil _ _ _ _ _, by repeat (first | (with_reducible first | exact HB.out | apply below_alloc | apply pw_below_drewN | apply below_drew1) | exact HB.out)⟩

/-! ### spec_FixedShapes: function 34 -/
def spec_FixedShapes.f (k : Nat) (a0 : Int) : Option ((List (List (S55))) × Int) := (spec_l05Order.f a0).bind fun t1031 => (if t1031 = true then ((spec_l05Fixed.f k a0).bind fun t1032 => (some (t1032, 0))) else (some (([] : List (List (S55))), 2)))
theorem spec_FixedShapes.mono : ∀ a0 k, LeO (spec_FixedShapes.f k a0) (spec_FixedShapes.f (k + 1) a0) := by
 intro a0 k
 unfold spec_FixedShapes.f
 repeat' first
   | (with_reducible exact spec_l05Fixed.mono _ _)
   | (with_reducible exact LeO.refl _)
   | (with_reducible exact LeO.none _)
   | (with_reducible refine LeO.ite ?_ ?_)
   | (with_reducible refine LeO.bind ?_ (fun _ => ?_))
   | exact spec_l05Fixed.mono _ _
   | exact LeO.none _
   | refine LeO.ite ?_ ?_
   | refine LeO.bind ?_ (fun _ => ?_)
set_option maxHeartbeats 8000000 in
set_option maxRecDepth 100000 in
theorem spec_FixedShapes.calls (k : Nat) (a0 : Int) (r1 : List (List (S55))) (r2 : Int) (w : World) (h : spec_FixedShapes.f k a0 = some (r1, r2)) :
  Calls Try.prog 34 #[.int .i64 a0] w fun e w' => ∃ v0_ : Value, e = .returned (.tuple #[v0_, .int .i64 r2]) ∧ Kd.V (Kd.slice 55 k55) 27 w' w.heap.size (fun k_ => (w.heap.size ≤ k_)) v0_ r1 ∧ Below w.heap.size w w' := by
 have HB := Aside0.mk (Below.refl w.heap.size w)
 have H : ((spec_l05Order.f a0).bind fun t1031 => (if t1031 = true then ((spec_l05Fixed.f k a0).bind fun t1032 => (some (t1032, 0))) else (some (([] : List (List (S55))), 2)))) = some (r1, r2) := h
 clear h
 replace H := Option.bind_eq_some_iff.mp H
 obtain ⟨t1031, A20, H⟩ := H
 replace H : (if t1031 = true then ((spec_l05Fixed.f k a0).bind fun t1032 => (some (t1032, 0))) else (some (([] : List (List (S55))), 2))) = some (r1, r2) := H
 have A2 := Aside0.mk A20
 clear A20
 by_cases c3 : t1031 = true
 ·subst c3
  have H1 : ((spec_l05Fixed.f k a0).bind fun t1032 => (some (t1032, 0))) = some (r1, r2) := by rw [if_pos rfl] at H; exact H
  clear H
  have H := H1
  clear H1
  replace H := Option.bind_eq_some_iff.mp H
  obtain ⟨t1032, A40, H⟩ := H
  replace H : (some (t1032, 0)) = some (r1, r2) := H
  have A4 := Aside0.mk A40
  clear A40
  simp only [Option.some.injEq, Prod.mk.injEq] at H
  obtain ⟨rfl, rfl⟩ := H
  go_enter Try.func34, Try.ntmps34
  go_wp2_with (first | ((with_reducible refine gate_callee (f := 70) rfl ?_); refine goesL_ (some 5) rfl rfl Try.func70 (by kernel_rfl) rfl #[.int .i64 a0] rfl (by (try simp only [List.map_toArray, List.map_cons, List.map_nil]); first | done | rfl) ?_; (with_reducible refine (spec_l05Order.calls a0 true _ A2.out).mono ?_); rintro e w' ⟨rfl, ⟨nd, rfl⟩⟩; refine ⟨_, rfl, ?_⟩) | ((with_reducible refine gate_callee (f := 71) rfl ?_); refine goesL_ (some 8) rfl rfl Try.func71 (by kernel_rfl) rfl #[.int .i64 a0] rfl (by (try simp only [List.map_toArray, List.map_cons, List.map_nil]); first | done | rfl) ?_; (with_reducible refine (spec_l05Fixed.calls k a0 t1032 _ A4.out).mono ?_); rintro e w5 ⟨v1033, rfl, ho0, hb⟩; refine ⟨_, rfl, ?_⟩; have n0_ := Aside0.mk (Kd.V_lower (Kd.V_mono (ok' := fun k_ => (w.heap.size ≤ k_)) ho0 (fun k_ hk_ => (Nat.le_trans (below_size (by repeat (first | (with_reducible first | exact HB.out | apply below_alloc | apply pw_below_drewN | apply below_drew1) | exact HB.out))) hk_))) (below_size (by repeat (first | (with_reducible first | exact HB.out | apply below_alloc | apply pw_below_drewN | apply below_drew1) | exact HB.out)))); have n1_ := Aside0.mk (below_step (by repeat (first | (with_reducible first | exact HB.out | apply below_alloc | apply pw_below_drewN | apply below_drew1) | exact HB.out)) hb); clear HB; have HO1034 := n0_; have HB := n1_; clear n0_ n1_; (try clear hb); (try clear ho0)))
  go_ret2
  exact ⟨_, by first | rfl | (simp [*] <;> rfl), by (with_reducible repeat (first | apply Kd.V_alloc | apply Kd.V_drewN | apply Kd.V_drew)); exact HO1034.out, by repeat (first | (with_reducible first | exact HB.out | apply below_alloc | apply pw_below_drewN | apply below_drew1) | exact HB.out)⟩
 ·replace c3 := Bool.eq_false_iff.mpr c3
  subst c3
  have H1 : (some (([] : List (List (S55))), 2)) = some (r1, r2) := by rw [if_neg (show ¬ (false = true) by decide)] at H; exact H
  clear H
  have H := H1
  clear H1
  simp only [Option.some.injEq, Prod.mk.injEq] at H
  obtain ⟨rfl, rfl⟩ := H
  go_enter Try.func34, Try.ntmps34
  go_wp2_with (first | ((with_reducible refine gate_callee (f := 70) rfl ?_); refine goesL_ (some 5) rfl rfl Try.func70 (by kernel_rfl) rfl #[.int .i64 a0] rfl (by (try simp only [List.map_toArray, List.map_cons, List.map_nil]); first | done | rfl) ?_; (with_reducible refine (spec_l05Order.calls a0 false _ A2.out).mono ?_); rintro e w' ⟨rfl, ⟨nd, rfl⟩⟩; refine ⟨_, rfl, ?_⟩))
  go_ret2
  exact ⟨_, by first | rfl | (simp [*] <;> rfl), Kd.S_V (base := w.heap.size) (Kd.S_nil _ _ _ _ _), by repeat (first | (with_reducible first | exact HB.out | apply below_alloc | apply pw_below_drewN | apply below_drew1) | exact HB.out)⟩

/-! ### impl_FreeShapes: function 35 -/
def impl_FreeShapes.f (k : Nat) (a0 : Int) : Option ((List (List (S55))) × Int) := (impl_isOrder.f a0).bind fun t1035 => (if t1035 = true then ((impl_ownForms.f k a0 8).bind fun t1036 => (some (t1036, 0))) else (some (([] : List (List (S55))), 2)))
theorem impl_FreeShapes.mono : ∀ a0 k, LeO (impl_FreeShapes.f k a0) (impl_FreeShapes.f (k + 1) a0) := by
 intro a0 k
 unfold impl_FreeShapes.f
 repeat' first
   | (with_reducible exact impl_ownForms.mono _ _ _)
   | (with_reducible exact LeO.refl _)
   | (with_reducible exact LeO.none _)
   | (with_reducible refine LeO.ite ?_ ?_)
   | (with_reducible refine LeO.bind ?_ (fun _ => ?_))
   | exact impl_ownForms.mono _ _ _
   | exact LeO.none _
   | refine LeO.ite ?_ ?_
   | refine LeO.bind ?_ (fun _ => ?_)
set_option maxHeartbeats 8000000 in
set_option maxRecDepth 100000 in
theorem impl_FreeShapes.calls (k : Nat) (a0 : Int) (r1 : List (List (S55))) (r2 : Int) (w : World) (h : impl_FreeShapes.f k a0 = some (r1, r2)) :
  Calls Try.prog 35 #[.int .i64 a0] w fun e w' => ∃ v0_ : Value, e = .returned (.tuple #[v0_, .int .i64 r2]) ∧ Kd.S (Kd.slice 55 k55) 27 w' w.heap.size (fun _ => True) v0_ r1 ∧ Below w.heap.size w w' := by
 have HB := Aside0.mk (Below.refl w.heap.size w)
 have H : ((impl_isOrder.f a0).bind fun t1035 => (if t1035 = true then ((impl_ownForms.f k a0 8).bind fun t1036 => (some (t1036, 0))) else (some (([] : List (List (S55))), 2)))) = some (r1, r2) := h
 clear h
 replace H := Option.bind_eq_some_iff.mp H
 obtain ⟨t1035, A20, H⟩ := H
 replace H : (if t1035 = true then ((impl_ownForms.f k a0 8).bind fun t1036 => (some (t1036, 0))) else (some (([] : List (List (S55))), 2))) = some (r1, r2) := H
 have A2 := Aside0.mk A20
 clear A20
 by_cases c3 : t1035 = true
 ·subst c3
  have H1 : ((impl_ownForms.f k a0 8).bind fun t1036 => (some (t1036, 0))) = some (r1, r2) := by rw [if_pos rfl] at H; exact H
  clear H
  have H := H1
  clear H1
  replace H := Option.bind_eq_some_iff.mp H
  obtain ⟨t1036, A40, H⟩ := H
  replace H : (some (t1036, 0)) = some (r1, r2) := H
  have A4 := Aside0.mk A40
  clear A40
  simp only [Option.some.injEq, Prod.mk.injEq] at H
  obtain ⟨rfl, rfl⟩ := H
  go_enter Try.func35, Try.ntmps35
  go_wp2_with (first | ((with_reducible refine gate_callee (f := 67) rfl ?_); refine goesL_ (some 5) rfl rfl Try.func67 (by kernel_rfl) rfl #[.int .i64 a0] rfl (by (try simp only [List.map_toArray, List.map_cons, List.map_nil]); first | done | rfl) ?_; (with_reducible refine (impl_isOrder.calls a0 true _ A2.out).mono ?_); rintro e w' ⟨rfl, ⟨nd, rfl⟩⟩; refine ⟨_, rfl, ?_⟩) | ((with_reducible refine gate_callee (f := 69) rfl ?_); refine goesL_ (some 8) rfl rfl Try.func69 (by kernel_rfl) rfl #[.int .i64 a0, .int .i64 8] rfl (by (try simp only [List.map_toArray, List.map_cons, List.map_nil]); first | done | rfl) ?_; (with_reducible refine (impl_ownForms.calls k a0 8 t1036 _ A4.out).mono ?_); rintro e w5 ⟨v1037, rfl, ho0, hb⟩; refine ⟨_, rfl, ?_⟩; have n0_ := Aside0.mk (Kd.S_lower ho0 (below_size (by repeat (first | (with_reducible first | exact HB.out | apply below_alloc | apply pw_below_drewN | apply below_drew1) | exact HB.out)))); have n1_ := Aside0.mk (below_step (by repeat (first | (with_reducible first | exact HB.out | apply below_alloc | apply pw_below_drewN | apply below_drew1) | exact HB.out)) hb); clear HB; have HO1038 := n0_; have HB := n1_; clear n0_ n1_; (try clear hb); (try clear ho0)))
  go_ret2
  exact ⟨_, by first | rfl | (simp [*] <;> rfl), by (with_reducible repeat (first | apply Kd.S_alloc | apply Kd.S_drewN | apply Kd.S_drew)); exact HO1038.out, by repeat (first | (with_reducible first | exact HB.out | apply below_alloc | apply pw_below_drewN | apply below_drew1) | exact HB.out)⟩
 ·replace c3 := Bool.eq_false_iff.mpr c3
  subst c3
  have H1 : (some (([] : List (List (S55))), 2)) = some (r1, r2) := by rw [if_neg (show ¬ (false = true) by decide)] at H; exact H
  clear H
  have H := H1
  clear H1
  simp only [Option.some.injEq, Prod.mk.injEq] at H
  obtain ⟨rfl, rfl⟩ := H
  go_enter Try.func35, Try.ntmps35
  go_wp2_with (first | ((with_reducible refine gate_callee (f := 67) rfl ?_); refine goesL_ (some 5) rfl rfl Try.func67 (by kernel_rfl) rfl #[.int .i64 a0] rfl (by (try simp only [List.map_toArray, List.map_cons, List.map_nil]); first | done | rfl) ?_; (with_reducible refine (impl_isOrder.calls a0 false _ A2.out).mono ?_); rintro e w' ⟨rfl, ⟨nd, rfl⟩⟩; refine ⟨_, rfl, ?_⟩))
  go_ret2
  exact ⟨_, by first | rfl | (simp [*] <;> rfl), by first | exact Kd.S_nil _ _ _ _ _ | exact Kd.N_nil _ _ _ _ _ | exact Kd.V_nil _ _ _ _ _ | exact Kd.Q_nil _ _ _ _ _ | exact Kd.R_nil _ _ _ _ _, by repeat (first | (with_reducible first | exact HB.out | apply below_alloc | apply pw_below_drewN | apply below_drew1) | exact HB.out)⟩

/-! ### spec_FreeShapes: function 36 -/
def spec_FreeShapes.f (k : Nat) (a0 : Int) : Option ((List (List (S55))) × Int) := (spec_l05Order.f a0).bind fun t1039 => (if t1039 = true then ((spec_l05Fixed.f k a0).bind fun t1040 => ((spec_l05Own.f k t1040 8).bind fun t1043 => (some (t1043, 0)))) else (some (([] : List (List (S55))), 2)))
theorem spec_FreeShapes.mono : ∀ a0 k, LeO (spec_FreeShapes.f k a0) (spec_FreeShapes.f (k + 1) a0) := by
 intro a0 k
 unfold spec_FreeShapes.f
 repeat' first
   | (with_reducible exact spec_l05Fixed.mono _ _)
   | (with_reducible exact spec_l05Own.mono _ _ _)
   | (with_reducible exact LeO.refl _)
   | (with_reducible exact LeO.none _)
   | (with_reducible refine LeO.ite ?_ ?_)
   | (with_reducible refine LeO.bind ?_ (fun _ => ?_))
   | exact spec_l05Fixed.mono _ _
   | exact spec_l05Own.mono _ _ _
   | exact LeO.none _
   | refine LeO.ite ?_ ?_
   | refine LeO.bind ?_ (fun _ => ?_)
set_option maxHeartbeats 8000000 in
set_option maxRecDepth 100000 in
theorem spec_FreeShapes.calls (k : Nat) (a0 : Int) (r1 : List (List (S55))) (r2 : Int) (w : World) (h : spec_FreeShapes.f k a0 = some (r1, r2)) :
  Calls Try.prog 36 #[.int .i64 a0] w fun e w' => ∃ v0_ : Value, e = .returned (.tuple #[v0_, .int .i64 r2]) ∧ Kd.N (Kd.slice 55 k55) 27 w' w.heap.size (fun k_ => (w.heap.size ≤ k_)) v0_ r1 ∧ Below w.heap.size w w' := by
 have HB := Aside0.mk (Below.refl w.heap.size w)
 have H : ((spec_l05Order.f a0).bind fun t1039 => (if t1039 = true then ((spec_l05Fixed.f k a0).bind fun t1040 => ((spec_l05Own.f k t1040 8).bind fun t1043 => (some (t1043, 0)))) else (some (([] : List (List (S55))), 2)))) = some (r1, r2) := h
 clear h
 replace H := Option.bind_eq_some_iff.mp H
 obtain ⟨t1039, A20, H⟩ := H
 replace H : (if t1039 = true then ((spec_l05Fixed.f k a0).bind fun t1040 => ((spec_l05Own.f k t1040 8).bind fun t1043 => (some (t1043, 0)))) else (some (([] : List (List (S55))), 2))) = some (r1, r2) := H
 have A2 := Aside0.mk A20
 clear A20
 by_cases c3 : t1039 = true
 ·subst c3
  have H1 : ((spec_l05Fixed.f k a0).bind fun t1040 => ((spec_l05Own.f k t1040 8).bind fun t1043 => (some (t1043, 0)))) = some (r1, r2) := by rw [if_pos rfl] at H; exact H
  clear H
  have H := H1
  clear H1
  replace H := Option.bind_eq_some_iff.mp H
  obtain ⟨t1040, A40, H⟩ := H
  replace H : ((spec_l05Own.f k t1040 8).bind fun t1043 => (some (t1043, 0))) = some (r1, r2) := H
  have A4 := Aside0.mk A40
  clear A40
  replace H := Option.bind_eq_some_iff.mp H
  obtain ⟨t1043, A50, H⟩ := H
  replace H : (some (t1043, 0)) = some (r1, r2) := H
  have A5 := Aside0.mk A50
  clear A50
  simp only [Option.some.injEq, Prod.mk.injEq] at H
  obtain ⟨rfl, rfl⟩ := H
  go_enter Try.func36, Try.ntmps36
  go_wp2_with (first | ((with_reducible refine gate_callee (f := 70) rfl ?_); refine goesL_ (some 5) rfl rfl Try.func70 (by kernel_rfl) rfl #[.int .i64 a0] rfl (by (try simp only [List.map_toArray, List.map_cons, List.map_nil]); first | done | rfl) ?_; (with_reducible refine (spec_l05Order.calls a0 true _ A2.out).mono ?_); rintro e w' ⟨rfl, ⟨nd, rfl⟩⟩; refine ⟨_, rfl, ?_⟩) | ((with_reducible refine gate_callee (f := 71) rfl ?_); refine goesL_ (some 8) rfl rfl Try.func71 (by kernel_rfl) rfl #[.int .i64 a0] rfl (by (try simp only [List.map_toArray, List.map_cons, List.map_nil]); first | done | rfl) ?_; (with_reducible refine (spec_l05Fixed.calls k a0 t1040 _ A4.out).mono ?_); rintro e w6 ⟨v1041, rfl, ho0, hb⟩; refine ⟨_, rfl, ?_⟩; have n0_ := Aside0.mk (Kd.V_lower (Kd.V_mono (ok' := fun k_ => (w.heap.size ≤ k_)) ho0 (fun k_ hk_ => (Nat.le_trans (below_size (by repeat (first | (with_reducible first | exact HB.out | apply below_alloc | apply pw_below_drewN | apply below_drew1) | exact HB.out))) hk_))) (below_size (by repeat (first | (with_reducible first | exact HB.out | apply below_alloc | apply pw_below_drewN | apply below_drew1) | exact HB.out)))); have n1_ := Aside0.mk (below_step (by repeat (first | (with_reducible first | exact HB.out | apply below_alloc | apply pw_below_drewN | apply below_drew1) | exact HB.out)) hb); clear HB; have HO1042 := n0_; have HB := n1_; clear n0_ n1_; (try clear hb); (try clear ho0); obtain ⟨Ao7, co7, eo7⟩ := Kd.V_slice HO1042.out; subst eo7) | ((with_reducible refine gate_callee (f := 72) rfl ?_); refine goesL_ (some 9) rfl rfl Try.func72 (by kernel_rfl) rfl #[.slice Ao7 t1040.length co7, .int .i64 8] rfl (by (try simp only [List.map_toArray, List.map_cons, List.map_nil]); first | done | rfl) ?_; (with_reducible refine (spec_l05Own.calls k (fun k_ => (w.heap.size ≤ k_)) _ _ t1040 8 t1043 _ ?side1 A5.out).mono ?_); (case side1 => exact HO1042.out); rintro e w8 ⟨v1044, rfl, ho0, hb⟩; refine ⟨_, rfl, ?_⟩; have n0_ := Aside0.mk (Kd.V_elder' (by (with_reducible repeat (first | apply Kd.V_alloc | apply Kd.V_drewN | apply Kd.V_drew)); exact HO1042.out) (Kd.N_base ho0) hb); have n1_ := Aside0.mk (Kd.N_lower (Kd.N_mono (ok' := fun k_ => (w.heap.size ≤ k_)) ho0 (fun k_ hk_ => Or.elim hk_ (fun hs_ => hs_) (fun hn_ => (Nat.le_trans (below_size (by repeat (first | (with_reducible first | exact HB.out | apply below_alloc | apply pw_below_drewN | apply below_drew1) | exact HB.out))) hn_)))) (below_size (by repeat (first | (with_reducible first | exact HB.out | apply below_alloc | apply pw_below_drewN | apply below_drew1) | exact HB.out)))); have n2_ := Aside0.mk (below_step (by repeat (first | (with_reducible first | exact HB.out | apply below_alloc | apply pw_below_drewN | apply below_drew1) | exact HB.out)) hb); clear HO1042; clear HB; have HO1042 := n0_; have HO1045 := n1_; have HB := n2_; clear n0_ n1_ n2_; (try clear hb); (try clear ho0)))
  go_ret2
  exact ⟨_, by first | rfl | (simp [*] <;> rfl), by (with_reducible repeat (first | apply Kd.N_alloc | apply Kd.N_drewN | apply Kd.N_drew)); exact HO1045.out, by repeat (first | (with_reducible first | exact HB.out | apply below_alloc | apply pw_below_drewN | apply below_drew1) | exact HB.out)⟩
 ·replace c3 := Bool.eq_false_iff.mpr c3
  subst c3
  have H1 : (some (([] : List (List (S55))), 2)) = some (r1, r2) := by rw [if_neg (show ¬ (false = true) by decide)] at H; exact H
  clear H
  have H := H1
  clear H1
  simp only [Option.some.injEq, Prod.mk.injEq] at H
  obtain ⟨rfl, rfl⟩ := H
  go_enter Try.func36, Try.ntmps36
  go_wp2_with (first | ((with_reducible refine gate_callee (f := 70) rfl ?_); refine goesL_ (some 5) rfl rfl Try.func70 (by kernel_rfl) rfl #[.int .i64 a0] rfl (by (try simp only [List.map_toArray, List.map_cons, List.map_nil]); first | done | rfl) ?_; (with_reducible refine (spec_l05Order.calls a0 false _ A2.out).mono ?_); rintro e w' ⟨rfl, ⟨nd, rfl⟩⟩; refine ⟨_, rfl, ?_⟩))
  go_ret2
  exact ⟨_, by first | rfl | (simp [*] <;> rfl), by first | exact Kd.S_nil _ _ _ _ _ | exact Kd.N_nil _ _ _ _ _ | exact Kd.V_nil _ _ _ _ _ | exact Kd.Q_nil _ _ _ _ _ | exact Kd.R_nil _ _ _ _ _, by repeat (first | (with_reducible first | exact HB.out | apply below_alloc | apply pw_below_drewN | apply below_drew1) | exact HB.out)⟩

/-! ### impl_OneSidedShapes: function 37 -/
def impl_OneSidedShapes.f (k : Nat) (a0 : Int) : Option ((List (List (S55))) × Int) := (impl_isOrder.f a0).bind fun t1046 => (if t1046 = true then ((impl_ownForms.f k a0 4).bind fun t1047 => (some (t1047, 0))) else (some (([] : List (List (S55))), 2)))
theorem impl_OneSidedShapes.mono : ∀ a0 k, LeO (impl_OneSidedShapes.f k a0) (impl_OneSidedShapes.f (k + 1) a0) := by
 intro a0 k
 unfold impl_OneSidedShapes.f
 repeat' first
   | (with_reducible exact impl_ownForms.mono _ _ _)
   | (with_reducible exact LeO.refl _)
   | (with_reducible exact LeO.none _)
   | (with_reducible refine LeO.ite ?_ ?_)
   | (with_reducible refine LeO.bind ?_ (fun _ => ?_))
   | exact impl_ownForms.mono _ _ _
   | exact LeO.none _
   | refine LeO.ite ?_ ?_
   | refine LeO.bind ?_ (fun _ => ?_)
set_option maxHeartbeats 8000000 in
set_option maxRecDepth 100000 in
theorem impl_OneSidedShapes.calls (k : Nat) (a0 : Int) (r1 : List (List (S55))) (r2 : Int) (w : World) (h : impl_OneSidedShapes.f k a0 = some (r1, r2)) :
  Calls Try.prog 37 #[.int .i64 a0] w fun e w' => ∃ v0_ : Value, e = .returned (.tuple #[v0_, .int .i64 r2]) ∧ Kd.S (Kd.slice 55 k55) 27 w' w.heap.size (fun _ => True) v0_ r1 ∧ Below w.heap.size w w' := by
 have HB := Aside0.mk (Below.refl w.heap.size w)
 have H : ((impl_isOrder.f a0).bind fun t1046 => (if t1046 = true then ((impl_ownForms.f k a0 4).bind fun t1047 => (some (t1047, 0))) else (some (([] : List (List (S55))), 2)))) = some (r1, r2) := h
 clear h
 replace H := Option.bind_eq_some_iff.mp H
 obtain ⟨t1046, A20, H⟩ := H
 replace H : (if t1046 = true then ((impl_ownForms.f k a0 4).bind fun t1047 => (some (t1047, 0))) else (some (([] : List (List (S55))), 2))) = some (r1, r2) := H
 have A2 := Aside0.mk A20
 clear A20
 by_cases c3 : t1046 = true
 ·subst c3
  have H1 : ((impl_ownForms.f k a0 4).bind fun t1047 => (some (t1047, 0))) = some (r1, r2) := by rw [if_pos rfl] at H; exact H
  clear H
  have H := H1
  clear H1
  replace H := Option.bind_eq_some_iff.mp H
  obtain ⟨t1047, A40, H⟩ := H
  replace H : (some (t1047, 0)) = some (r1, r2) := H
  have A4 := Aside0.mk A40
  clear A40
  simp only [Option.some.injEq, Prod.mk.injEq] at H
  obtain ⟨rfl, rfl⟩ := H
  go_enter Try.func37, Try.ntmps37
  go_wp2_with (first | ((with_reducible refine gate_callee (f := 67) rfl ?_); refine goesL_ (some 5) rfl rfl Try.func67 (by kernel_rfl) rfl #[.int .i64 a0] rfl (by (try simp only [List.map_toArray, List.map_cons, List.map_nil]); first | done | rfl) ?_; (with_reducible refine (impl_isOrder.calls a0 true _ A2.out).mono ?_); rintro e w' ⟨rfl, ⟨nd, rfl⟩⟩; refine ⟨_, rfl, ?_⟩) | ((with_reducible refine gate_callee (f := 69) rfl ?_); refine goesL_ (some 8) rfl rfl Try.func69 (by kernel_rfl) rfl #[.int .i64 a0, .int .i64 4] rfl (by (try simp only [List.map_toArray, List.map_cons, List.map_nil]); first | done | rfl) ?_; (with_reducible refine (impl_ownForms.calls k a0 4 t1047 _ A4.out).mono ?_); rintro e w5 ⟨v1048, rfl, ho0, hb⟩; refine ⟨_, rfl, ?_⟩; have n0_ := Aside0.mk (Kd.S_lower ho0 (below_size (by repeat (first | (with_reducible first | exact HB.out | apply below_alloc | apply pw_below_drewN | apply below_drew1) | exact HB.out)))); have n1_ := Aside0.mk (below_step (by repeat (first | (with_reducible first | exact HB.out | apply below_alloc | apply pw_below_drewN | apply below_drew1) | exact HB.out)) hb); clear HB; have HO1049 := n0_; have HB := n1_; clear n0_ n1_; (try clear hb); (try clear ho0)))
  go_ret2
  exact ⟨_, by first | rfl | (simp [*] <;> rfl), by (with_reducible repeat (first | apply Kd.S_alloc | apply Kd.S_drewN | apply Kd.S_drew)); exact HO1049.out, by repeat (first | (with_reducible first | exact HB.out | apply below_alloc | apply pw_below_drewN | apply below_drew1) | exact HB.out)⟩
 ·replace c3 := Bool.eq_false_iff.mpr c3
  subst c3
  have H1 : (some (([] : List (List (S55))), 2)) = some (r1, r2) := by rw [if_neg (show ¬ (false = true) by decide)] at H; exact H
  clear H
  have H := H1
  clear H1
  simp only [Option.some.injEq, Prod.mk.injEq] at H
  obtain ⟨rfl, rfl⟩ := H
  go_enter Try.func37, Try.ntmps37
  go_wp2_with (first | ((with_reducible refine gate_callee (f := 67) rfl ?_); refine goesL_ (some 5) rfl rfl Try.func67 (by kernel_rfl) rfl #[.int .i64 a0] rfl (by (try simp only [List.map_toArray, List.map_cons, List.map_nil]); first | done | rfl) ?_; (with_reducible refine (impl_isOrder.calls a0 false _ A2.out).mono ?_); rintro e w' ⟨rfl, ⟨nd, rfl⟩⟩; refine ⟨_, rfl, ?_⟩))
  go_ret2
  exact ⟨_, by first | rfl | (simp [*] <;> rfl), by first | exact Kd.S_nil _ _ _ _ _ | exact Kd.N_nil _ _ _ _ _ | exact Kd.V_nil _ _ _ _ _ | exact Kd.Q_nil _ _ _ _ _ | exact Kd.R_nil _ _ _ _ _, by repeat (first | (with_reducible first | exact HB.out | apply below_alloc | apply pw_below_drewN | apply below_drew1) | exact HB.out)⟩

/-! ### spec_OneSidedShapes: function 38 -/
def spec_OneSidedShapes.f (k : Nat) (a0 : Int) : Option ((List (List (S55))) × Int) := (spec_l05Order.f a0).bind fun t1050 => (if t1050 = true then ((spec_l05Fixed.f k a0).bind fun t1051 => ((spec_l05Own.f k t1051 4).bind fun t1054 => (some (t1054, 0)))) else (some (([] : List (List (S55))), 2)))
theorem spec_OneSidedShapes.mono : ∀ a0 k, LeO (spec_OneSidedShapes.f k a0) (spec_OneSidedShapes.f (k + 1) a0) := by
 intro a0 k
 unfold spec_OneSidedShapes.f
 repeat' first
   | (with_reducible exact spec_l05Fixed.mono _ _)
   | (with_reducible exact spec_l05Own.mono _ _ _)
   | (with_reducible exact LeO.refl _)
   | (with_reducible exact LeO.none _)
   | (with_reducible refine LeO.ite ?_ ?_)
   | (with_reducible refine LeO.bind ?_ (fun _ => ?_))
   | exact spec_l05Fixed.mono _ _
   | exact spec_l05Own.mono _ _ _
   | exact LeO.none _
   | refine LeO.ite ?_ ?_
   | refine LeO.bind ?_ (fun _ => ?_)
set_option maxHeartbeats 8000000 in
set_option maxRecDepth 100000 in
theorem spec_OneSidedShapes.calls (k : Nat) (a0 : Int) (r1 : List (List (S55))) (r2 : Int) (w : World) (h : spec_OneSidedShapes.f k a0 = some (r1, r2)) :
  Calls Try.prog 38 #[.int .i64 a0] w fun e w' => ∃ v0_ : Value, e = .returned (.tuple #[v0_, .int .i64 r2]) ∧ Kd.N (Kd.slice 55 k55) 27 w' w.heap.size (fun k_ => (w.heap.size ≤ k_)) v0_ r1 ∧ Below w.heap.size w w' := by
 have HB := Aside0.mk (Below.refl w.heap.size w)
 have H : ((spec_l05Order.f a0).bind fun t1050 => (if t1050 = true then ((spec_l05Fixed.f k a0).bind fun t1051 => ((spec_l05Own.f k t1051 4).bind fun t1054 => (some (t1054, 0)))) else (some (([] : List (List (S55))), 2)))) = some (r1, r2) := h
 clear h
 replace H := Option.bind_eq_some_iff.mp H
 obtain ⟨t1050, A20, H⟩ := H
 replace H : (if t1050 = true then ((spec_l05Fixed.f k a0).bind fun t1051 => ((spec_l05Own.f k t1051 4).bind fun t1054 => (some (t1054, 0)))) else (some (([] : List (List (S55))), 2))) = some (r1, r2) := H
 have A2 := Aside0.mk A20
 clear A20
 by_cases c3 : t1050 = true
 ·subst c3
  have H1 : ((spec_l05Fixed.f k a0).bind fun t1051 => ((spec_l05Own.f k t1051 4).bind fun t1054 => (some (t1054, 0)))) = some (r1, r2) := by rw [if_pos rfl] at H; exact H
  clear H
  have H := H1
  clear H1
  replace H := Option.bind_eq_some_iff.mp H
  obtain ⟨t1051, A40, H⟩ := H
  replace H : ((spec_l05Own.f k t1051 4).bind fun t1054 => (some (t1054, 0))) = some (r1, r2) := H
  have A4 := Aside0.mk A40
  clear A40
  replace H := Option.bind_eq_some_iff.mp H
  obtain ⟨t1054, A50, H⟩ := H
  replace H : (some (t1054, 0)) = some (r1, r2) := H
  have A5 := Aside0.mk A50
  clear A50
  simp only [Option.some.injEq, Prod.mk.injEq] at H
  obtain ⟨rfl, rfl⟩ := H
  go_enter Try.func38, Try.ntmps38
  go_wp2_with (first | ((with_reducible refine gate_callee (f := 70) rfl ?_); refine goesL_ (some 5) rfl rfl Try.func70 (by kernel_rfl) rfl #[.int .i64 a0] rfl (by (try simp only [List.map_toArray, List.map_cons, List.map_nil]); first | done | rfl) ?_; (with_reducible refine (spec_l05Order.calls a0 true _ A2.out).mono ?_); rintro e w' ⟨rfl, ⟨nd, rfl⟩⟩; refine ⟨_, rfl, ?_⟩) | ((with_reducible refine gate_callee (f := 71) rfl ?_); refine goesL_ (some 8) rfl rfl Try.func71 (by kernel_rfl) rfl #[.int .i64 a0] rfl (by (try simp only [List.map_toArray, List.map_cons, List.map_nil]); first | done | rfl) ?_; (with_reducible refine (spec_l05Fixed.calls k a0 t1051 _ A4.out).mono ?_); rintro e w6 ⟨v1052, rfl, ho0, hb⟩; refine ⟨_, rfl, ?_⟩; have n0_ := Aside0.mk (Kd.V_lower (Kd.V_mono (ok' := fun k_ => (w.heap.size ≤ k_)) ho0 (fun k_ hk_ => (Nat.le_trans (below_size (by repeat (first | (with_reducible first | exact HB.out | apply below_alloc | apply pw_below_drewN | apply below_drew1) | exact HB.out))) hk_))) (below_size (by repeat (first | (with_reducible first | exact HB.out | apply below_alloc | apply pw_below_drewN | apply below_drew1) | exact HB.out)))); have n1_ := Aside0.mk (below_step (by repeat (first | (with_reducible first | exact HB.out | apply below_alloc | apply pw_below_drewN | apply below_drew1) | exact HB.out)) hb); clear HB; have HO1053 := n0_; have HB := n1_; clear n0_ n1_; (try clear hb); (try clear ho0); obtain ⟨Ao7, co7, eo7⟩ := Kd.V_slice HO1053.out; subst eo7) | ((with_reducible refine gate_callee (f := 72) rfl ?_); refine goesL_ (some 9) rfl rfl Try.func72 (by kernel_rfl) rfl #[.slice Ao7 t1051.length co7, .int .i64 4] rfl (by (try simp only [List.map_toArray, List.map_cons, List.map_nil]); first | done | rfl) ?_; (with_reducible refine (spec_l05Own.calls k (fun k_ => (w.heap.size ≤ k_)) _ _ t1051 4 t1054 _ ?side1 A5.out).mono ?_); (case side1 => exact HO1053.out); rintro e w8 ⟨v1055, rfl, ho0, hb⟩; refine ⟨_, rfl, ?_⟩; have n0_ := Aside0.mk (Kd.V_elder' (by (with_reducible repeat (first | apply Kd.V_alloc | apply Kd.V_drewN | apply Kd.V_drew)); exact HO1053.out) (Kd.N_base ho0) hb); have n1_ := Aside0.mk (Kd.N_lower (Kd.N_mono (ok' := fun k_ => (w.heap.size ≤ k_)) ho0 (fun k_ hk_ => Or.elim hk_ (fun hs_ => hs_) (fun hn_ => (Nat.le_trans (below_size (by repeat (first | (with_reducible first | exact HB.out | apply below_alloc | apply pw_below_drewN | apply below_drew1) | exact HB.out))) hn_)))) (below_size (by repeat (first | (with_reducible first | exact HB.out | apply below_alloc | apply pw_below_drewN | apply below_drew1) | exact HB.out)))); have n2_ := Aside0.mk (below_step (by repeat (first | (with_reducible first | exact HB.out | apply below_alloc | apply pw_below_drewN | apply below_drew1) | exact HB.out)) hb); clear HO1053; clear HB; have HO1053 := n0_; have HO1056 := n1_; have HB := n2_; clear n0_ n1_ n2_; (try clear hb); (try clear ho0)))
  go_ret2
  exact ⟨_, by first | rfl | (simp [*] <;> rfl), by (with_reducible repeat (first | apply Kd.N_alloc | apply Kd.N_drewN | apply Kd.N_drew)); exact HO1056.out, by repeat (first | (with_reducible first | exact HB.out | apply below_alloc | apply pw_below_drewN | apply below_drew1) | exact HB.out)⟩
 ·replace c3 := Bool.eq_false_iff.mpr c3
  subst c3
  have H1 : (some (([] : List (List (S55))), 2)) = some (r1, r2) := by rw [if_neg (show ¬ (false = true) by decide)] at H; exact H
  clear H
  have H := H1
  clear H1
  simp only [Option.some.injEq, Prod.mk.injEq] at H
  obtain ⟨rfl, rfl⟩ := H
  go_enter Try.func38, Try.ntmps38
  go_wp2_with (first | ((with_reducible refine gate_callee (f := 70) rfl ?_); refine goesL_ (some 5) rfl rfl Try.func70 (by kernel_rfl) rfl #[.int .i64 a0] rfl (by (try simp only [List.map_toArray, List.map_cons, List.map_nil]); first | done | rfl) ?_; (with_reducible refine (spec_l05Order.calls a0 false _ A2.out).mono ?_); rintro e w' ⟨rfl, ⟨nd, rfl⟩⟩; refine ⟨_, rfl, ?_⟩))
  go_ret2
  exact ⟨_, by first | rfl | (simp [*] <;> rfl), by first | exact Kd.S_nil _ _ _ _ _ | exact Kd.N_nil _ _ _ _ _ | exact Kd.V_nil _ _ _ _ _ | exact Kd.Q_nil _ _ _ _ _ | exact Kd.R_nil _ _ _ _ _, by repeat (first | (with_reducible first | exact HB.out | apply below_alloc | apply pw_below_drewN | apply below_drew1) | exact HB.out)⟩

end Go.Proofs.Ytbkafaoehheioaa.X
