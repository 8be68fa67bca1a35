-- xprint.py
import Derived.Shelf.SlSortCmp.WholeK
import Derived.Sort.LotA
import Derived.Test.YtbkafaoehheioaaGreatXx0
import Derived.Test.YtbkafaoehheioaaGreatXx1
namespace Go.Proofs.YtbkafaoehheioaaGreat.X
open Go.RowKit Go.Proofs.YtbkafaoehheioaaGreatW.PrintWords Go.Proofs.YtbkafaoehheioaaGreatW.PrintLast Go.Proofs.YtbkafaoehheioaaGreatW.PrintMore
attribute [local go_sem] max2_int min2_int max_two min_two max_three min_three max_four min_four   -- for this text's walks alone
set_option linter.unusedVariables false
set_option linter.unusedSimpArgs false

attribute [local go_sem high] eqA39
/-! ### CommonCell: function -1, by hand -/
/-- a cell's two words -/
def encC_ (x : S39) : List Value := [.int .i64 x.f0, .int .i64 x.f1]
def flatC_ (l : List S39) : List Value := (l.map encC_).flatten
theorem flatC_length : ∀ l : List S39, (flatC_ l).length = l.length * 2 := by
 intro l
 induction l with
 | nil => rfl
 | cons c r ih => show (encC_ c ++ flatC_ r).length = _; rw [List.length_append, ih, List.length_cons]; show 2 + r.length * 2 = _; omega
theorem flatC_get : ∀ (l : List S39) (j : Nat) (x : S39), l[j]? = some x → (flatC_ l)[2 * j]? = some (.int .i64 x.f0) ∧ (flatC_ l)[2 * j + 1]? = some (.int .i64 x.f1) := by
 intro l
 induction l with
 | nil => intro j x h; simp at h
 | cons c r ih =>
  intro j x h
  cases j with
  | zero => simp only [List.getElem?_cons_zero, Option.some.injEq] at h; subst h; exact ⟨rfl, rfl⟩
  | succ j =>
   rw [List.getElem?_cons_succ] at h
   have := ih j x h
   exact this
theorem flatC_one (l : List S39) : ∀ u ∈ flatC_ l, u.oneCell' = true := by
 intro u hu
 obtain ⟨c, hc, hu⟩ := List.mem_flatten.1 hu
 obtain ⟨x, hx, rfl⟩ := List.mem_map.1 hc
 simp [encC_] at hu
 rcases hu with rfl | rfl <;> rfl
theorem flatC_reps {α : Type} (R : S39 → List Value → Prop) (hR : ∀ x, R x (encC_ x)) : ∀ l : List S39, Reps R 2 l (flatC_ l) := by
 intro l
 refine ⟨flatC_length l, ?_⟩
 induction l with
 | nil => intro j p h; simp at h
 | cons c r ih =>
  intro j p h
  cases j with
  | zero => simp only [List.getElem?_cons_zero, Option.some.injEq] at h; subst h; exact hR c
  | succ j =>
   rw [List.getElem?_cons_succ] at h
   have e : (flatC_ (c :: r)).drop ((j + 1) * 2) = (flatC_ r).drop (j * 2) := by
    show (encC_ c ++ flatC_ r).drop _ = _
    rw [show (j + 1) * 2 = (encC_ c).length + j * 2 from by show _ = 2 + j * 2; omega, List.drop_append]
    simp
   rw [e]; exact ih j p h
theorem kC_M (w : World) (base : Nat) (ok : Nat → Prop) (x : S39) : k39.M w base ok x (encC_ x) := ⟨[.int .i64 x.f0], [.int .i64 x.f1], rfl, rfl, rfl⟩
theorem kC_M_inv {w : World} {base : Nat} {ok : Nat → Prop} {x : S39} {cs : List Value} (h : k39.M w base ok x cs) : cs = encC_ x := by
 obtain ⟨a, b, rfl, h1, h2⟩ := h
 have h1' : a = [.int .i64 x.f0] := h1
 have h2' : b = [.int .i64 x.f1] := h2
 rw [h1', h2']; rfl
/-- a row of cells of the call's own, by its cells -/
theorem ownC_R {w : World} {base : Nat} {ok : Nat → Prop} {v : Value} {l : List S39} (h : w.ownsRow base 39 2 v l.length (flatC_ l)) (hok : ∀ k, v.ownBlock = some k → ok k) : Kd.R k39 39 w base ok v l :=
 ⟨hok, flatC_ l, h, flatC_reps (α := Unit) _ (fun x => kC_M w base _ x) l⟩
theorem flatC_of_reps {R : S39 → List Value → Prop} (hR : ∀ x cs, R x cs → cs = encC_ x) : ∀ (l : List S39) (cs : List Value), Reps R 2 l cs → cs = flatC_ l := by
 intro l
 induction l with
 | nil => intro cs h; have := h.1; simp at this; rw [this]; rfl
 | cons c r ih =>
  intro cs h
  have h0 := hR _ _ (h.2 0 c rfl)
  rw [Nat.zero_mul, List.drop_zero] at h0
  have h1 : Reps R 2 r (cs.drop 2) := by
   refine ⟨?_, fun j p hj => ?_⟩
   ·rw [List.length_drop, h.1, List.length_cons]; omega
   ·have := h.2 (j + 1) p (by rw [List.getElem?_cons_succ]; exact hj)
    rw [List.drop_drop, show 2 + j * 2 = (j + 1) * 2 from by omega]; exact this
  have e := ih _ h1
  rw [← List.take_append_drop 2 cs, h0, e]; rfl

/-! ### cmp_isNaN_int64: function 86 -/
def cmp_isNaN_int64.f (a0 : Int) : Option (Bool) := some (a0 != a0)
set_option maxHeartbeats 8000000 in
set_option maxRecDepth 100000 in
theorem cmp_isNaN_int64.calls (a0 : Int) (r : Bool) (w : World) (h : cmp_isNaN_int64.f a0 = some r) :
  Calls Tryz.prog 86 #[.int .i64 a0] w fun e w' => e = .returned (.bool r) ∧ Drawn0 w w' := by
 have H : (some (a0 != a0)) = some r := h
 clear h
 obtain rfl := Option.some.inj H
 go_enter Tryz.func86, Tryz.ntmps86
 go_wp2
 go_ret
 exact ⟨r3_, by repeat (first | exact Drawn0.refl _ | apply Drawn0.step)⟩

/-! ### cmp_Compare_int64: function 71 -/
def cmp_Compare_int64.f (a0 : Int) (a1 : Int) : Option (Int) := (cmp_isNaN_int64.f a0).bind fun t267 => ((cmp_isNaN_int64.f a1).bind fun t268 => (if t267 = true then (if t268 = true then (some 0) else (some (-1))) else (if t268 = true then (some 1) else (if a0 < a1 then (some (-1)) else (if a0 > a1 then (some 1) else (some 0))))))
set_option maxHeartbeats 8000000 in
set_option maxRecDepth 100000 in
theorem cmp_Compare_int64.calls (a0 : Int) (a1 : Int) (r : Int) (w : World) (h : cmp_Compare_int64.f a0 a1 = some r) :
  Calls Tryz.prog 71 #[.int .i64 a0, .int .i64 a1] w fun e w' => e = .returned (.int .i64 r) ∧ Drawn0 w w' := by
 have H : ((cmp_isNaN_int64.f a0).bind fun t267 => ((cmp_isNaN_int64.f a1).bind fun t268 => (if t267 = true then (if t268 = true then (some 0) else (some (-1))) else (if t268 = true then (some 1) else (if a0 < a1 then (some (-1)) else (if a0 > a1 then (some 1) else (some 0))))))) = some r := h
 clear h
 replace H := Option.bind_eq_some_iff.mp H
 obtain ⟨t267, A30, H⟩ := H
 try dsimp only at H
 have A3 := Aside0.mk A30
 clear A30
 replace H := Option.bind_eq_some_iff.mp H
 obtain ⟨t268, A40, H⟩ := H
 try dsimp only at H
 have A4 := Aside0.mk A40
 clear A40
 by_cases c5 : t267 = true
 ·subst c5
  have H1 : (if t268 = true then (some 0) else (some (-1))) = some r := by rw [if_pos rfl] at H; exact H
  clear H
  have H := H1
  clear H1
  by_cases c6 : t268 = true
  ·subst c6
   have H1 : (some 0) = some r := by rw [if_pos rfl] at H; exact H
   clear H
   have H := H1
   clear H1
   obtain rfl := Option.some.inj H
   go_enter Tryz.func71, Tryz.ntmps71
   go_wp2_with (first | ((with_reducible refine gate_callee (f := 86) rfl ?_); refine gL_ (some 8) Tryz.func86 #[.int .i64 a0] ?_; (with_reducible refine (cmp_isNaN_int64.calls a0 true _ A3.out).mono ?_); rintro e w' ⟨rfl, ⟨nd, rfl⟩⟩; refine ⟨_, rfl, ?_⟩) | ((with_reducible refine gate_callee (f := 86) rfl ?_); refine gL_ (some 10) Tryz.func86 #[.int .i64 a1] ?_; (with_reducible refine (cmp_isNaN_int64.calls a1 true _ A4.out).mono ?_); rintro e w' ⟨rfl, ⟨nd, rfl⟩⟩; refine ⟨_, rfl, ?_⟩))
   go_ret
   exact ⟨r3_, by repeat (first | exact Drawn0.refl _ | apply Drawn0.step)⟩
  ·replace c6 := Bool.eq_false_iff.mpr c6
   subst c6
   have H1 : (some (-1)) = some r := by rw [if_neg (show ¬ (false = true) by decide)] at H; exact H
   clear H
   have H := H1
   clear H1
   obtain rfl := Option.some.inj H
   go_enter Tryz.func71, Tryz.ntmps71
   go_wp2_with (first | ((with_reducible refine gate_callee (f := 86) rfl ?_); refine gL_ (some 8) Tryz.func86 #[.int .i64 a0] ?_; (with_reducible refine (cmp_isNaN_int64.calls a0 true _ A3.out).mono ?_); rintro e w' ⟨rfl, ⟨nd, rfl⟩⟩; refine ⟨_, rfl, ?_⟩) | ((with_reducible refine gate_callee (f := 86) rfl ?_); refine gL_ (some 10) Tryz.func86 #[.int .i64 a1] ?_; (with_reducible refine (cmp_isNaN_int64.calls a1 false _ A4.out).mono ?_); rintro e w' ⟨rfl, ⟨nd, rfl⟩⟩; refine ⟨_, rfl, ?_⟩))
   go_ret
   exact ⟨r3_, by repeat (first | exact Drawn0.refl _ | apply Drawn0.step)⟩
 ·replace c5 := Bool.eq_false_iff.mpr c5
  subst c5
  have H1 : (if t268 = true then (some 1) else (if a0 < a1 then (some (-1)) else (if a0 > a1 then (some 1) else (some 0)))) = some r := by rw [if_neg (show ¬ (false = true) by decide)] at H; exact H
  clear H
  have H := H1
  clear H1
  by_cases c7 : t268 = true
  ·subst c7
   have H1 : (some 1) = some r := by rw [if_pos rfl] at H; exact H
   clear H
   have H := H1
   clear H1
   obtain rfl := Option.some.inj H
   go_enter Tryz.func71, Tryz.ntmps71
   go_wp2_with (first | ((with_reducible refine gate_callee (f := 86) rfl ?_); refine gL_ (some 8) Tryz.func86 #[.int .i64 a0] ?_; (with_reducible refine (cmp_isNaN_int64.calls a0 false _ A3.out).mono ?_); rintro e w' ⟨rfl, ⟨nd, rfl⟩⟩; refine ⟨_, rfl, ?_⟩) | ((with_reducible refine gate_callee (f := 86) rfl ?_); refine gL_ (some 10) Tryz.func86 #[.int .i64 a1] ?_; (with_reducible refine (cmp_isNaN_int64.calls a1 true _ A4.out).mono ?_); rintro e w' ⟨rfl, ⟨nd, rfl⟩⟩; refine ⟨_, rfl, ?_⟩))
   go_ret
   exact ⟨r3_, by repeat (first | exact Drawn0.refl _ | apply Drawn0.step)⟩
  ·replace c7 := Bool.eq_false_iff.mpr c7
   subst c7
   have H1 : (if a0 < a1 then (some (-1)) else (if a0 > a1 then (some 1) else (some 0))) = some r := by rw [if_neg (show ¬ (false = true) by decide)] at H; exact H
   clear H
   have H := H1
   clear H1
   by_cases c8 : a0 < a1
   ·rw [if_pos c8] at H
    have c8b0 : decide (a0 < a1) = true := decide_eq_true c8
    clear c8
    obtain rfl := Option.some.inj H
    go_enter Tryz.func71, Tryz.ntmps71
    go_wp2_with (first | ((with_reducible refine gate_callee (f := 86) rfl ?_); refine gL_ (some 8) Tryz.func86 #[.int .i64 a0] ?_; (with_reducible refine (cmp_isNaN_int64.calls a0 false _ A3.out).mono ?_); rintro e w' ⟨rfl, ⟨nd, rfl⟩⟩; refine ⟨_, rfl, ?_⟩) | ((with_reducible refine gate_callee (f := 86) rfl ?_); refine gL_ (some 10) Tryz.func86 #[.int .i64 a1] ?_; (with_reducible refine (cmp_isNaN_int64.calls a1 false _ A4.out).mono ?_); rintro e w' ⟨rfl, ⟨nd, rfl⟩⟩; refine ⟨_, rfl, ?_⟩))
    go_ret
    exact ⟨r3_, by repeat (first | exact Drawn0.refl _ | apply Drawn0.step)⟩
   ·rw [if_neg c8] at H
    have c8b0 : decide (a0 < a1) = false := decide_eq_false c8
    clear c8
    by_cases c9 : a0 > a1
    ·rw [if_pos c9] at H
     have c9b0 : decide (a1 < a0) = true := decide_eq_true c9
     clear c9
     obtain rfl := Option.some.inj H
     go_enter Tryz.func71, Tryz.ntmps71
     go_wp2_with (first | ((with_reducible refine gate_callee (f := 86) rfl ?_); refine gL_ (some 8) Tryz.func86 #[.int .i64 a0] ?_; (with_reducible refine (cmp_isNaN_int64.calls a0 false _ A3.out).mono ?_); rintro e w' ⟨rfl, ⟨nd, rfl⟩⟩; refine ⟨_, rfl, ?_⟩) | ((with_reducible refine gate_callee (f := 86) rfl ?_); refine gL_ (some 10) Tryz.func86 #[.int .i64 a1] ?_; (with_reducible refine (cmp_isNaN_int64.calls a1 false _ A4.out).mono ?_); rintro e w' ⟨rfl, ⟨nd, rfl⟩⟩; refine ⟨_, rfl, ?_⟩))
     go_ret
     exact ⟨r3_, by repeat (first | exact Drawn0.refl _ | apply Drawn0.step)⟩
    ·rw [if_neg c9] at H
     have c9b0 : decide (a1 < a0) = false := decide_eq_false c9
     clear c9
     obtain rfl := Option.some.inj H
     go_enter Tryz.func71, Tryz.ntmps71
     go_wp2_with (first | ((with_reducible refine gate_callee (f := 86) rfl ?_); refine gL_ (some 8) Tryz.func86 #[.int .i64 a0] ?_; (with_reducible refine (cmp_isNaN_int64.calls a0 false _ A3.out).mono ?_); rintro e w' ⟨rfl, ⟨nd, rfl⟩⟩; refine ⟨_, rfl, ?_⟩) | ((with_reducible refine gate_callee (f := 86) rfl ?_); refine gL_ (some 10) Tryz.func86 #[.int .i64 a1] ?_; (with_reducible refine (cmp_isNaN_int64.calls a1 false _ A4.out).mono ?_); rintro e w' ⟨rfl, ⟨nd, rfl⟩⟩; refine ⟨_, rfl, ?_⟩))
     go_ret
     exact ⟨r3_, by repeat (first | exact Drawn0.refl _ | apply Drawn0.step)⟩

/-! ### slices_SortFunc_Cell: function 68, by hand -/
-- IMPORT Derived.Shelf.SlSortCmp.WholeK
-- IMPORT Derived.Sort.LotA
def laySortCell_ren : Go.Shelf.Ren := ⟨fun | 6 => 68 | 15 => 62 | 14 => 85 | 28 => 80 | 29 => 81 | 20 => 92 | 21 => 93 | 22 => 94 | 23 => 95 | 24 => 96 | 25 => 97 | 26 => 98 | 27 => 99 | 46 => 101 | 47 => 88 | 48 => 89 | 49 => 102 | 50 => 103 | 57 => 104 | n => n, fun | 22 => 24 | 24 => 39 | 25 => 69 | 3 => 3 | 39 => 75 | 0 => 0 | 53 => 90 | 55 => 92 | 4 => 4 | 46 => 84 | 45 => 83 | 50 => 72 | 5 => 5 | 9 => 9 | 66 => 96 | 70 => 100 | 76 => 107 | 77 => 108 | n => n, fun | n => n⟩
theorem laySortCell : Go.Proofs.SlLaysF0.n6 Tryz.prog laySortCell_ren := {
 mixed := by kernel_rfl
 f6 := ⟨Tryz.f68.name, by decide, Tryz.func68.trans (congrArg some (by kernel_rfl))⟩
 f14 := ⟨Tryz.f85.name, by decide, Tryz.func85.trans (congrArg some (by kernel_rfl))⟩
 f15 := Tryz.func62.trans (congrArg some (by kernel_rfl))
 f20 := ⟨Tryz.f92.name, by decide, Tryz.func92.trans (congrArg some (by kernel_rfl))⟩
 f21 := ⟨Tryz.f93.name, by decide, Tryz.func93.trans (congrArg some (by kernel_rfl))⟩
 f22 := ⟨Tryz.f94.name, by decide, Tryz.func94.trans (congrArg some (by kernel_rfl))⟩
 f23 := ⟨Tryz.f95.name, by decide, Tryz.func95.trans (congrArg some (by kernel_rfl))⟩
 f24 := ⟨Tryz.f96.name, by decide, Tryz.func96.trans (congrArg some (by kernel_rfl))⟩
 f25 := ⟨Tryz.f97.name, by decide, Tryz.func97.trans (congrArg some (by kernel_rfl))⟩
 f26 := ⟨Tryz.f98.name, by decide, Tryz.func98.trans (congrArg some (by kernel_rfl))⟩
 f27 := ⟨Tryz.f99.name, by decide, Tryz.func99.trans (congrArg some (by kernel_rfl))⟩
 f28 := Tryz.func80.trans (congrArg some (by kernel_rfl))
 f29 := Tryz.func81.trans (congrArg some (by kernel_rfl))
 f46 := ⟨Tryz.f101.name, by decide, Tryz.func101.trans (congrArg some (by kernel_rfl))⟩
 f47 := Tryz.func88.trans (congrArg some (by kernel_rfl))
 f48 := Tryz.func89.trans (congrArg some (by kernel_rfl))
 f49 := ⟨Tryz.f102.name, by decide, Tryz.func102.trans (congrArg some (by kernel_rfl))⟩
 f50 := ⟨Tryz.f103.name, by decide, Tryz.func103.trans (congrArg some (by kernel_rfl))⟩
 f57 := ⟨Tryz.f104.name, by decide, Tryz.func104.trans (congrArg some (by kernel_rfl))⟩
 t0 := Tryz.underlying0
 a0 := Tryz.isAgg0
 z0 := Tryz.sizeOf0
 v0 := Tryz.zeroValue0
 t3 := Tryz.underlying3
 a3 := Tryz.isAgg3
 z3 := Tryz.sizeOf3
 v3 := Tryz.zeroValue3
 t4 := Tryz.underlying4
 a4 := Tryz.isAgg4
 z4 := Tryz.sizeOf4
 v4 := Tryz.zeroValue4
 t5 := Tryz.underlying5
 a5 := Tryz.isAgg5
 z5 := Tryz.sizeOf5
 v5 := Tryz.zeroValue5
 t9 := Tryz.underlying9
 a9 := Tryz.isAgg9
 z9 := Tryz.sizeOf9
 v9 := Tryz.zeroValue9
 t22 := Tryz.underlying24
 a22 := Tryz.isAgg24
 z22 := Tryz.sizeOf24
 v22 := Tryz.zeroValue24
 t25 := Tryz.underlying69
 a25 := Tryz.isAgg69
 z25 := Tryz.sizeOf69
 v25 := Tryz.zeroValue69
 t39 := Tryz.underlying75
 a39 := Tryz.isAgg75
 z39 := Tryz.sizeOf75
 v39 := Tryz.zeroValue75
 t45 := Tryz.underlying83
 a45 := Tryz.isAgg83
 z45 := Tryz.sizeOf83
 v45 := Tryz.zeroValue83
 t46 := Tryz.underlying84
 a46 := Tryz.isAgg84
 z46 := Tryz.sizeOf84
 v46 := Tryz.zeroValue84
 t50 := Tryz.underlying72
 a50 := Tryz.isAgg72
 z50 := Tryz.sizeOf72
 v50 := Tryz.zeroValue72
 t53 := Tryz.underlying90
 a53 := Tryz.isAgg90
 z53 := Tryz.sizeOf90
 v53 := Tryz.zeroValue90
 t55 := Tryz.underlying92
 a55 := Tryz.isAgg92
 z55 := Tryz.sizeOf92
 v55 := Tryz.zeroValue92
 t66 := Tryz.underlying96
 a66 := Tryz.isAgg96
 z66 := Tryz.sizeOf96
 v66 := Tryz.zeroValue96
 t70 := Tryz.underlying100
 a70 := Tryz.isAgg100
 z70 := Tryz.sizeOf100
 v70 := Tryz.zeroValue100
 t76 := Tryz.underlying107
 a76 := Tryz.isAgg107
 z76 := Tryz.sizeOf107
 v76 := Tryz.zeroValue107
 t77 := Tryz.underlying108
 a77 := Tryz.isAgg108
 z77 := Tryz.sizeOf108
 v77 := Tryz.zeroValue108 }
def ltbC_ (a b : S39) : Bool := decide (a.f1 < b.f1 ∨ a.f1 = b.f1 ∧ a.f0 < b.f0)
def cfC_ (a b : S39) : Int := if ltbC_ a b = true then -1 else if ltbC_ b a = true then 1 else 0
def slices_SortFunc_Cell.f (l0 : List S39) : Option (List S39) := if l0.length ≤ 8796093022208 then some (l0.mergeSort fun x y => !ltbC_ y x) else none
theorem cmp_Compare_val (a b : Int) : cmp_Compare_int64.f a b = some (if a < b then -1 else if b < a then 1 else 0) := by
 unfold cmp_Compare_int64.f cmp_isNaN_int64.f
 simp only [bne_self_eq_false, Option.bind_some, Bool.false_eq_true, if_false]
 by_cases h : a < b
 ·simp [h]
 ·by_cases g : b < a <;> simp [h, g]
theorem ltOf_cfC (x y : S39) : Go.Proofs.ltOf cfC_ x y = ltbC_ x y := by
 unfold Go.Proofs.ltOf cfC_
 by_cases h : ltbC_ x y = true
 ·simp [h]
 ·by_cases g : ltbC_ y x = true <;> simp [h, g]
theorem swo_cfC : Go.Sort.SWO (Go.Proofs.ltOf cfC_) where
 irrefl x := by rw [ltOf_cfC]; unfold ltbC_; simp
 trans x y z h1 h2 := by rw [ltOf_cfC] at *; unfold ltbC_ at *; simp at *; omega
 ntrans x y z h1 h2 := by rw [ltOf_cfC] at *; unfold ltbC_ at *; simp at *; omega
set_option maxHeartbeats 1000000 in
theorem compareCells_grow (x y : S39) (W : World) : Calls Tryz.prog 60 #[.agg #[.int .i64 x.f0, .int .i64 x.f1], .agg #[.int .i64 y.f0, .int .i64 y.f1]] W fun e w' => e = .returned (.int .i64 (cfC_ x y)) ∧ ∃ q os', w' = Go.Sort.grow (W.drewN q) os' := by
 have h1 := fun W' => cmp_Compare_int64.calls x.f1 y.f1 _ W' (cmp_Compare_val _ _)
 have h2 := fun W' => cmp_Compare_int64.calls x.f0 y.f0 _ W' (cmp_Compare_val _ _)
 generalize hr1 : (if x.f1 < y.f1 then (-1 : Int) else if y.f1 < x.f1 then 1 else 0) = r1 at h1
 generalize hr2 : (if x.f0 < y.f0 then (-1 : Int) else if y.f0 < x.f0 then 1 else 0) = r2 at h2
 have hcf : cfC_ x y = if r1 = 0 then r2 else r1 := by
  rw [← hr1, ← hr2]; unfold cfC_ ltbC_
  simp only [decide_eq_true_eq]
  repeat' split
  all_goals omega
 clear hr1 hr2
 rw [hcf]
 clear hcf
 by_cases c : r1 = 0
 ·subst c
  rw [if_pos rfl]
  go_enter Tryz.func60, Tryz.ntmps60
  go_wp2_with fail
  refine (h1 _).mono ?_
  rintro e w' ⟨rfl, ⟨n, rfl⟩⟩
  go_wp2_with fail
  refine (h2 _).mono ?_
  rintro e w' ⟨rfl, ⟨m, rfl⟩⟩
  go_wp2_with fail
  go_ret
  exact ⟨rfl, n + m, #[.cells #[.int .i64 x.f0, .int .i64 x.f1] 39 (0, 0), .cells #[.int .i64 y.f0, .int .i64 y.f1] 39 (0, 0)], by rw [Go.Sort.alloc_eq_grow, Go.Sort.alloc_eq_grow, Go.Sort.grow_grow]; simp only [World.drewN, Go.Sort.grow, Nat.add_assoc]; rfl⟩
 ·rw [if_neg c]
  have c' : (r1 == 0) = false := beq_eq_false_iff_ne.mpr c
  go_enter Tryz.func60, Tryz.ntmps60
  go_wp2_with fail
  refine (h1 _).mono ?_
  rintro e w' ⟨rfl, ⟨n, rfl⟩⟩
  go_wp2_with fail
  go_ret
  exact ⟨rfl, n, #[.cells #[.int .i64 x.f0, .int .i64 x.f1] 39 (0, 0), .cells #[.int .i64 y.f0, .int .i64 y.f1] 39 (0, 0)], by rw [Go.Sort.alloc_eq_grow, Go.Sort.alloc_eq_grow, Go.Sort.grow_grow]; rfl⟩
theorem flatK_flatC [Inhabited S39] (d : Array S39) (j : Nat) (hj : j < d.size * 2) : (flatC_ d.toList)[j]? = some ((Go.Sort.flatK encC_ 2 d)[j]!) := by
 rw [Go.Sort.get_flatK _ _ _ _ hj]
 have hx : d.toList[j / 2]? = some (d[j / 2]!) := by
  rw [getElem!_pos d (j / 2) (by omega), Array.getElem?_toList, Array.getElem?_eq_getElem (by omega)]
 obtain ⟨g0, g1⟩ := flatC_get d.toList (j / 2) _ hx
 have h2 : j % 2 = 0 ∨ j % 2 = 1 := by omega
 rcases h2 with h2 | h2
 ·rw [h2]
  have : j = 2 * (j / 2) := by omega
  rw [← this] at g0; exact g0
 ·rw [h2]
  have : j = 2 * (j / 2) + 1 := by omega
  rw [← this] at g1; exact g1
theorem sortWorld_block [Inhabited S39] {w : World} {g : Nat} {cur : Array Value} {e : TypeId} (hblk : w.heap[g]? = some (.cells cur e (0, 0))) (n : Nat) (d : Array S39) (os : Array Obj) :
  (sortWorldK encC_ 2 w g 0 n d os).heap[g]? = some (.cells (Go.Sort.putCells id 0 (Go.Sort.flatK encC_ 2 d) cur) e (0, 0)) ∧ w.grownBy (sortWorldK encC_ 2 w g 0 n d os) (some g) := by
 have hlt : g < w.heap.size := by
  rcases Nat.lt_or_ge g w.heap.size with h | h
  ·exact h
  ·rw [Array.getElem?_eq_none h] at hblk; exact absurd hblk (by simp)
 have hb : ∀ k, k < w.heap.size → (sortWorldK encC_ 2 w g 0 n d os).heap[k]? = (w.heap.modify g (Go.Sort.onCells (Go.Sort.putCells id 0 (Go.Sort.flatK encC_ 2 d))))[k]? := by
  intro k hk
  unfold sortWorldK
  rw [Go.Sort.heap_grow_old]
  ·rfl
  ·unfold Go.Sort.putRowK; rw [Go.Sort.size_putRow]; exact hk
 refine ⟨?_, ⟨rfl, rfl, rfl, ?_, ?_⟩⟩
 ·rw [hb g hlt, Array.getElem?_modify, if_pos rfl, hblk]; rfl
 ·unfold sortWorldK Go.Sort.grow Go.Sort.putRowK; simp only [Array.size_append]; rw [Go.Sort.size_putRow]; show w.heap.size ≤ w.heap.size + _; omega
 ·intro k hk hne
  rw [hb k hk, Array.getElem?_modify, if_neg (fun h => hne (by rw [h]))]
set_option maxHeartbeats 2000000 in
set_option maxRecDepth 100000 in
/-- nothing is sorted at nil -/
theorem sortFunc_nil (w : World) : Calls Tryz.prog 68 #[.slice none 0 0, .func (.func 60) #[] #[]] w fun e w' => e = .returned (.tuple #[]) ∧ ∃ n, w' = w.drewN n := by
 have hl : ∀ W : World, Calls Tryz.prog 62 #[.int .u64 0] W fun e w' => e = .returned (.int .i64 0) ∧ w' = W := fun W => Any.bits_Len (SlLaysF0.n15.bits (P := Tryz.prog) (ρ := laySortCell_ren) { laySortCell with }) 0 W (by omega) (by omega)
 have hi : ∀ W : World, Calls Tryz.prog 92 #[.slice none 0 0, .int .i64 0, .int .i64 0, .func (.func 60) #[] #[]] W fun e w' => e = .returned (.tuple #[]) ∧ w' = W := by
  intro W
  go_enter Tryz.func92, Tryz.ntmps92
  go_wp2
  go_loopg [8] 0 (fun gk v8 w' => v8 = .int .i64 1 ∧ w' = W)
  case atStart => exact ⟨rfl, rfl⟩
  case round =>
   obtain ⟨rfl, rfl⟩ := hrel
   go_wp2
   go_end0
   exact ⟨rfl, rfl⟩
 have hp : ∀ W : World, Calls Tryz.prog 85 #[.slice none 0 0, .int .i64 0, .int .i64 0, .int .i64 0, .func (.func 60) #[] #[]] W fun e w' => e = .returned (.tuple #[]) ∧ w' = W := by
  intro W
  go_enter Tryz.func85, Tryz.ntmps85
  go_wp2
  go_loopg [1, 2, 3] 0 (fun gk v1 v2 v3 w' => v1 = .int .i64 0 ∧ v2 = .int .i64 0 ∧ v3 = .int .i64 0 ∧ w' = W)
  case atStart => exact ⟨rfl, rfl, rfl, rfl⟩
  case round =>
   obtain ⟨rfl, rfl, rfl, rfl⟩ := hrel
   go_wp2_with fail
   refine (hi _).mono ?_
   rintro e w' ⟨rfl, rfl⟩
   go_wp2_with fail
   refine bodyPost_ret (results_none rfl _ _ _) rfl ?_
   exact ⟨rfl, rfl⟩
 go_enter Tryz.func68, Tryz.ntmps68
 go_wp2_with fail
 refine (hl _).mono ?_
 rintro e w' ⟨rfl, rfl⟩
 go_wp2_with fail
 refine (hp _).mono ?_
 rintro e w' ⟨rfl, rfl⟩
 go_wp2_with fail
 go_end0
 exact ⟨rfl, 0, rfl⟩
set_option maxHeartbeats 2000000 in
set_option maxRecDepth 100000 in
theorem slices_SortFunc_Cell.calls (P0_ : Nat → Prop) (u9000_ : Value) (l0 : List (S39))  (r : List (S39)) (w0 w : World) (hB : Below w0.heap.size w0 w) (ho0 : Kd.R k39 39 w w0.heap.size P0_ u9000_ l0) (h : slices_SortFunc_Cell.f l0 = some r) :
  Calls Tryz.prog 68 #[u9000_, .func (.func 60) #[] #[]] w fun e w' => e = .returned (.tuple #[]) ∧ Kd.R k39 39 w' w0.heap.size (fun k_ => (P0_ k_ ∨ w.heap.size ≤ k_)) u9000_ r ∧ Below w0.heap.size w0 w' ∧ Kept w w' (fun k_ => P0_ k_) := by
 unfold slices_SortFunc_Cell.f at h
 by_cases hb : l0.length ≤ 8796093022208
 rotate_left
 ·rw [if_neg hb] at h; exact absurd h (by simp)
 rw [if_pos hb] at h
 obtain rfl := Option.some.inj h
 have ho1 := ho0
 obtain ⟨hok, inner, ⟨hlen, hv⟩, hreps⟩ := ho0
 have hin : inner = flatC_ l0 := flatC_of_reps (fun x cs hx => kC_M_inv hx) l0 inner hreps
 rcases hv with ⟨rfl, hn⟩ | ⟨g, cap, cur, rfl, hge, hblk, hcap, hmax, hcur, htake⟩
 ·have hl : l0 = [] := List.length_eq_zero_iff.1 hn
  subst hl
  refine (sortFunc_nil w).mono ?_
  rintro e w' ⟨rfl, n, rfl⟩
  have e : ([] : List S39).mergeSort (fun x y => !ltbC_ y x) = [] := by simp
  rw [e]
  exact ⟨rfl, Kd.R_nil _ _ _ _ _, pw_below_drewN hB n, Kept.of_below (pw_below_drewN (Below.refl _ _) n) _⟩
 ·letI : Inhabited S39 := ⟨⟨0, 0⟩⟩
  have hlt : g < w.heap.size := blk_lt hblk
  have hH : Go.Sort.HoldsK encC_ 2 w g 0 l0.toArray := by
   intro j hj
   rw [Go.Sort.size_flatK, List.size_toArray] at hj
   refine ⟨(blk_cell hblk (0 + j)).trans ?_, blk_frozen hblk _⟩
   have e := flatK_flatC l0.toArray j (by rw [List.size_toArray]; exact hj)
   rw [← hin, ← htake, List.getElem?_take, if_pos (by show j < l0.length * 2; exact hj), Array.getElem?_toList] at e
   rw [Nat.zero_add]; exact e
  have hcon := AnyQ.slices_SortFunc laySortCell 2 Tryz.isAgg39 Tryz.sizeOf39 encC_ (fun _ => rfl) (fun x v hv => by simp [encC_] at hv; rcases hv with rfl | rfl <;> rfl) cfC_ swo_cfC 60 #[] g 0 cap l0.toArray w (enters_of Tryz.func60 (by kernel_rfl) rfl) (fun _ _ _ _ x y => compareCells_grow x y _) hH hlt (by rw [List.size_toArray]; omega)
  change Calls Tryz.prog 68 _ _ _ at hcon
  rw [List.size_toArray] at hcon
  refine hcon.mono ?_
  rintro e w' ⟨rfl, d', n, os, hp, hs, rfl⟩
  have hd : d'.toList = l0.mergeSort fun x y => !ltbC_ y x := by
   have := Go.Sort.sorted_unique_holds (lt := ltOf cfC_) swo_cfC (fun x y h1 h2 => by
    rw [ltOf_cfC] at h1 h2
    unfold ltbC_ at h1 h2
    simp only [decide_eq_false_iff_not] at h1 h2
    have e0 : x.f0 = y.f0 := by omega
    have e1 : x.f1 = y.f1 := by omega
    cases x; cases y; cases e0; cases e1; rfl) l0.toArray d' (by rw [List.size_toArray]; exact hp) (by rw [List.size_toArray]; exact hs)
   rw [this]; congr 1; funext x y; rw [ltOf_cfC]
  obtain ⟨hb1, hg1⟩ := sortWorld_block hblk n d' os
  have hbel := hB.grown hg1 hB.size (fun k hk => by cases hk; exact hge)
  have hlen' : d'.size = l0.length := by have := hp.1; rw [List.size_toArray] at this; exact this
  rw [← hd]
  refine ⟨rfl, ownC_R ⟨?_, Or.inr ⟨g, cap, _, ?_, hge, hb1, ?_, hmax, ?_, ?_⟩⟩ ?_, hbel, ?_⟩
  ·rw [flatC_length]
  ·exact congrArg (fun n => Value.slice (some ⟨g, 0, none⟩) n cap) (by rw [Array.length_toList]; exact hlen'.symm)
  ·rw [Array.length_toList, hlen']; exact hcap
  ·unfold Go.Sort.putCells; rw [Array.size_mapIdx]; exact hcur
  ·apply List.ext_getElem?
   intro j
   rw [List.getElem?_take, Array.getElem?_toList]
   unfold Go.Sort.putCells
   by_cases hj : j < d'.toList.length * 2
   ·rw [if_pos hj, Array.length_toList] at *
    rw [flatK_flatC d' j hj, Array.getElem?_mapIdx, Array.getElem?_eq_getElem (by rw [hcur]; show j < cap * 2; omega)]
    simp only [Option.map_some, Go.Sort.size_flatK, Nat.zero_add, Nat.zero_le, true_and, Nat.sub_zero, id]
    rw [if_pos hj]
   ·rw [if_neg hj, List.getElem?_eq_none (by rw [flatC_length]; omega)]
  ·intro k hk; exact Or.inl (hok k hk)
  ·refine ⟨hg1.size, fun i hi hn => hg1.block i hi (fun he => hn (by cases he; exact hok g rfl))⟩

/-! ### CommonShapes: function -1, by hand -/
/-- how two rows of cells of one length stand to each other: -1, 0, 1 -/
def cfL_ : List S39 → List S39 → Int
 | a :: r, b :: s => if cfC_ a b = 0 then cfL_ r s else cfC_ a b
 | _, _ => 0
def cfS_ (l m : List S39) : Int := if l.length = m.length then cfL_ l m else if l.length < m.length then -1 else 1
theorem cfC_cases (a b : S39) : (ltbC_ a b = true ∧ cfC_ a b = -1) ∨ (ltbC_ a b = false ∧ ltbC_ b a = true ∧ cfC_ a b = 1) ∨ (a = b ∧ cfC_ a b = 0) := by
 by_cases h : ltbC_ a b = true
 ·exact Or.inl ⟨h, by unfold cfC_; rw [if_pos h]⟩
 ·have h' : ltbC_ a b = false := Bool.eq_false_iff.mpr h
  by_cases g : ltbC_ b a = true
  ·exact Or.inr (Or.inl ⟨h', g, by unfold cfC_; rw [if_neg h, if_pos g]⟩)
  ·refine Or.inr (Or.inr ⟨?_, by unfold cfC_; rw [if_neg h, if_neg g]⟩)
   unfold ltbC_ at h g
   simp only [decide_eq_true_eq] at h g
   have e0 : a.f0 = b.f0 := by omega
   have e1 : a.f1 = b.f1 := by omega
   cases a; cases b; cases e0; cases e1; rfl
theorem ltbC_trans {a b c : S39} (h : ltbC_ a b = true) (g : ltbC_ b c = true) : ltbC_ a c = true := by unfold ltbC_ at *; simp at *; omega
theorem ltbC_irrefl (a : S39) : ltbC_ a a = false := by unfold ltbC_; simp
theorem cfC_self (a : S39) : cfC_ a a = 0 := by unfold cfC_; simp [ltbC_irrefl]
theorem cfL_self (a : List S39) : cfL_ a a = 0 := by
 induction a with
 | nil => rfl
 | cons x r ih => simp only [cfL_, cfC_self, if_true]; exact ih
theorem cfL_eq (a : List S39) : ∀ b, a.length = b.length → cfL_ a b = 0 → a = b := by
 induction a with
 | nil => intro b h _; exact (List.length_eq_zero_iff.1 (by simpa using h.symm)).symm
 | cons x r ih =>
  intro b h g
  cases b with
  | nil => simp at h
  | cons y s =>
   simp only [cfL_] at g
   rcases cfC_cases x y with ⟨_, c⟩ | ⟨_, _, c⟩ | ⟨e, c⟩
   ·rw [c] at g; simp at g
   ·rw [c] at g; simp at g
   ·rw [if_pos c] at g; rw [e, ih s (by simpa using h) g]
theorem cfL_neg (a : List S39) : ∀ b, cfL_ b a = -cfL_ a b := by
 induction a with
 | nil => intro b; cases b <;> rfl
 | cons x r ih =>
  intro b
  cases b with
  | nil => rfl
  | cons y s =>
   simp only [cfL_]
   rcases cfC_cases x y with ⟨p, c⟩ | ⟨p, q, c⟩ | ⟨e, c⟩
   ·have d : cfC_ y x = 1 := by
     rcases cfC_cases y x with ⟨p2, _⟩ | ⟨_, _, d⟩ | ⟨e, _⟩
     ·have := ltbC_trans p p2; rw [ltbC_irrefl] at this; cases this
     ·exact d
     ·rw [e, ltbC_irrefl] at p; cases p
    rw [c, d]; rfl
   ·have d : cfC_ y x = -1 := by
     rcases cfC_cases y x with ⟨_, d⟩ | ⟨p2, _, _⟩ | ⟨e, _⟩
     ·exact d
     ·rw [q] at p2; cases p2
     ·rw [e, ltbC_irrefl] at q; cases q
    rw [c, d]; rfl
   ·subst e; rw [c, if_pos rfl, if_pos rfl]; exact ih s
theorem cfL_trans (a : List S39) : ∀ b c, a.length = b.length → b.length = c.length → cfL_ a b < 0 → cfL_ b c < 0 → cfL_ a c < 0 := by
 induction a with
 | nil => intro b c _ _ h; simp [cfL_] at h
 | cons x r ih =>
  intro b c h1 h2 g1 g2
  cases b with
  | nil => simp at h1
  | cons y s =>
   cases c with
   | nil => simp at h2
   | cons z t =>
    simp only [cfL_] at g1 g2 ⊢
    rcases cfC_cases x y with ⟨p, c⟩ | ⟨p, q, c⟩ | ⟨e, c⟩
    ·rcases cfC_cases y z with ⟨p2, c2⟩ | ⟨p2, q2, c2⟩ | ⟨e2, c2⟩
     ·rcases cfC_cases x z with ⟨_, c3⟩ | ⟨p3, _, _⟩ | ⟨e3, _⟩
      ·rw [c3]; simp
      ·rw [ltbC_trans p p2] at p3; cases p3
      ·rw [e3] at p; have := ltbC_trans p p2; rw [ltbC_irrefl] at this; cases this
     ·rw [c2] at g2; simp at g2
     ·subst e2; rw [c]; simp
    ·rw [c] at g1; simp at g1
    ·subst e
     rw [if_pos c] at g1
     rcases cfC_cases x z with ⟨p2, c2⟩ | ⟨p2, q2, c2⟩ | ⟨e2, c2⟩
     ·rw [c2]; simp
     ·rw [c2] at g2; simp at g2
     ·rw [if_pos c2] at g2 ⊢; exact ih s t (by simpa using h1) (by simpa using h2) g1 g2
theorem cfL_range (a : List S39) : ∀ b, cfL_ a b = -1 ∨ cfL_ a b = 0 ∨ cfL_ a b = 1 := by
 induction a with
 | nil => intro b; exact Or.inr (Or.inl rfl)
 | cons x r ih =>
  intro b
  cases b with
  | nil => exact Or.inr (Or.inl rfl)
  | cons y s =>
   simp only [cfL_]
   rcases cfC_cases x y with ⟨_, c⟩ | ⟨_, _, c⟩ | ⟨_, c⟩
   ·rw [c]; exact Or.inl rfl
   ·rw [c]; exact Or.inr (Or.inr rfl)
   ·rw [if_pos c]; exact ih s
theorem cfS_eq {a b : List S39} (h : cfS_ a b = 0) : a = b := by
 unfold cfS_ at h
 by_cases c : a.length = b.length
 ·rw [if_pos c] at h; exact cfL_eq a b c h
 ·rw [if_neg c] at h; split at h <;> simp at h
theorem cfS_self (a : List S39) : cfS_ a a = 0 := by unfold cfS_; rw [if_pos rfl]; exact cfL_self a
theorem cfS_neg (a b : List S39) : cfS_ b a = -cfS_ a b := by
 unfold cfS_
 by_cases h : a.length = b.length
 ·rw [if_pos h, if_pos h.symm]; exact cfL_neg a b
 ·rw [if_neg h, if_neg (fun g => h g.symm)]
  by_cases g : a.length < b.length
  ·rw [if_pos g, if_neg (by omega)]; rfl
  ·rw [if_neg g, if_pos (by omega)]
theorem cfS_trans {a b c : List S39} (h : cfS_ a b < 0) (g : cfS_ b c < 0) : cfS_ a c < 0 := by
 unfold cfS_ at *
 by_cases h1 : a.length = b.length
 ·by_cases h2 : b.length = c.length
  ·rw [if_pos h1] at h; rw [if_pos h2] at g; rw [if_pos (h1.trans h2)]
   exact cfL_trans a b c h1 h2 h g
  ·rw [if_neg h2] at g
   rw [if_neg (by omega)]
   by_cases g2 : b.length < c.length
   ·rw [if_pos (by omega)]; decide
   ·rw [if_neg g2] at g; simp at g
 ·rw [if_neg h1] at h
  by_cases g1 : a.length < b.length
  ·by_cases h2 : b.length = c.length
   ·rw [if_neg (by omega), if_pos (by omega)]; decide
   ·rw [if_neg h2] at g
    by_cases g2 : b.length < c.length
    ·rw [if_neg (by omega), if_pos (by omega)]; decide
    ·rw [if_neg g2] at g; simp at g
  ·rw [if_neg g1] at h; simp at h
theorem cfS_ntrans {a b c : List S39} (h : ¬ cfS_ a b < 0) (g : ¬ cfS_ b c < 0) : ¬ cfS_ a c < 0 := by
 intro k
 by_cases e : cfS_ a b = 0
 ·rw [cfS_eq e] at k; exact g k
 ·have h2 : cfS_ b a < 0 := by rw [cfS_neg a b]; omega
  exact g (cfS_trans h2 k)
set_option maxHeartbeats 4000000 in
set_option maxRecDepth 100000 in
theorem compareFunc_grow (A : Option Addr) (c : Nat) (xs : List S39) (B : Option Addr) (c' : Nat) (ys : List S39) (hl : xs.length = ys.length) (w : World) (hA : Kd.C k39 w A xs.length xs) (hB : Kd.C k39 w B ys.length ys) :
  Calls Tryz.prog 63 #[.slice A xs.length c, .slice B ys.length c', .func (.func 60) #[] #[]] w fun e w' => e = .returned (.int .i64 (cfL_ xs ys)) ∧ ∃ q os, w' = Go.Sort.grow (w.drewN q) os := by
 have hu2 := Tryz.underlying39
 have HA := Aside0.mk hA
 have HBB := Aside0.mk hB
 have hl1 : xs.length ≤ 9223372036854775807 := hA.2.1
 have HL := Aside0.mk hl
 obtain ⟨R, hR⟩ : ∃ R, R = cfL_ xs ys := ⟨_, rfl⟩
 rw [← hR]
 have HR := Aside0.mk hR
 clear hA hB hl hR
 go_enter Tryz.func63, Tryz.ntmps63
 go_wp2_with fail
 go_loopg [13] xs.length (fun gk v13 wr => ∃ (j : Nat) (q : Nat) (os : Array Obj), v13 = .int .i64 j ∧ Aside0 (gk + j = xs.length) ∧ Aside0 (R = cfL_ (xs.drop j) (ys.drop j)) ∧ Aside0 (wr = Go.Sort.grow (w.drewN q) os))
 case atStart => exact ⟨0, 0, #[], rfl, ⟨rfl⟩, ⟨HR.out⟩, ⟨by rw [Go.Sort.grow_empty]; rfl⟩⟩
 case round =>
  obtain ⟨j, q, os, rfl, HK, HE, HW⟩ := hrel
  have hcell : ∀ a u, w.cell? a = some u → wr.cell? a = some u := fun a u hu => by
   rw [HW.out]
   exact (Go.Sort.cell?_grow _ _ _ (World.block_lt_of_cell? w _ hu)).trans hu
  have HCE := Aside0.mk hcell
  clear hcell
  cases gk with
  | zero =>
   have hj : j = xs.length := by have := HK.out; omega
   have d1 : decide ((j : Int) < (xs.length : Int)) = false := decide_eq_false (by omega)
   have d2 : decide (j < xs.length) = false := decide_eq_false (by omega)
   have hl := HL.out
   have d3 : decide ((xs.length : Int) < (ys.length : Int)) = false := decide_eq_false (by omega)
   have d4 : decide (xs.length < ys.length) = false := decide_eq_false (by omega)
   have he := HE.out
   rw [hj, List.drop_length] at he
   have he2 : R = 0 := he
   have HE2 := Aside0.mk he2
   clear hj hl he he2 HE
   go_wp2_with fail
   go_ret
   exact ⟨by rw [HE2.out]; rfl, q, os, HW.out⟩
  | succ gk2 =>
   have hj : j < xs.length := by have := HK.out; omega
   have hj' : j < ys.length := by have := HL.out; omega
   have p1 : 0 ≤ (j : Int) := by omega
   have q1 : (j : Int) < (xs.length : Int) := by omega
   have q2 : (j : Int) < (ys.length : Int) := by omega
   obtain ⟨ad, e1, hx0, hx1⟩ := at_T39 HA.out j p1 q1
   obtain ⟨ad', e2, hy0, hy1⟩ := at_T39 HBB.out j p1 q2
   subst e1 e2
   rw [Int.toNat_natCast] at hx0 hx1 hy0 hy1
   replace hx0 := HCE.out _ _ hx0
   replace hx1 := HCE.out _ _ hx1
   replace hy0 := HCE.out _ _ hy0
   replace hy1 := HCE.out _ _ hy1
   have d1 : decide ((j : Int) < (xs.length : Int)) = true := decide_eq_true q1
   have d2 : decide (j < xs.length) = true := decide_eq_true hj
   have d3 : decide ((ys.length : Int) ≤ (j : Int)) = false := decide_eq_false (by omega)
   have d4 : decide (ys.length ≤ j) = false := decide_eq_false (by omega)
   have d5 : decide ((j : Int) < (ys.length : Int)) = true := decide_eq_true q2
   have d6 : decide (j < ys.length) = true := decide_eq_true hj'
   have he := HE.out
   have hdx : xs.drop j = rd_T39 xs j :: xs.drop (j + 1) := by
    rw [List.drop_eq_getElem_cons hj]; congr 1
    unfold rd_T39; rw [List.getD_eq_getElem?_getD, Int.toNat_natCast, List.getElem?_eq_getElem hj]; rfl
   have hdy : ys.drop j = rd_T39 ys j :: ys.drop (j + 1) := by
    rw [List.drop_eq_getElem_cons hj']; congr 1
    unfold rd_T39; rw [List.getD_eq_getElem?_getD, Int.toNat_natCast, List.getElem?_eq_getElem hj']; rfl
   rw [hdx, hdy] at he
   clear hdx hdy HE
   generalize rd_T39 xs (j : Int) = x at *
   generalize rd_T39 ys (j : Int) = y at *
   replace hy0 := Lib.cell?_alloc_some (.cells #[.int .i64 x.f0, .int .i64 x.f1] 39 (0, 0)) hy0
   replace hy1 := Lib.cell?_alloc_some (.cells #[.int .i64 x.f0, .int .i64 x.f1] 39 (0, 0)) hy1
   have he2 : R = if cfC_ x y = 0 then cfL_ (xs.drop (j + 1)) (ys.drop (j + 1)) else cfC_ x y := he
   have HE := Aside0.mk he2
   clear he he2 hj hj'
   go_wp2_with fail
   refine (compareCells_grow x y _).mono ?_
   rintro e w2 ⟨rfl, qq, oo, hw2⟩
   have HW2 : Aside0 (∃ q os, w2 = Go.Sort.grow (w.drewN q) os) := ⟨by
    rw [hw2, HW.out, Go.Sort.alloc_eq_grow, Go.Sort.alloc_eq_grow, Go.Sort.grow_grow, Go.Sort.grow_grow]
    refine ⟨q + qq, (os ++ (#[.cells #[.int .i64 x.f0, .int .i64 x.f1] 39 (0, 0)] ++ #[.cells #[.int .i64 y.f0, .int .i64 y.f1] 39 (0, 0)])) ++ oo, ?_⟩
    simp only [World.drewN, Go.Sort.grow, Nat.add_assoc, Array.append_assoc]⟩
   by_cases hz : cfC_ x y = 0
   ·have he := HE.out
    rw [if_pos hz] at he
    have HE2 := Aside0.mk he
    have z1 : (cfC_ x y == 0) = true := by rw [hz]; rfl
    have z2 : (cfC_ x y != 0) = false := by rw [hz]; rfl
    clear he HE hw2 hx0 hx1 hy0 hy1
    generalize cfC_ x y = cz at *
    subst hz
    go_wp2_with fail
    go_roundg gk2
    case measure => omega
    case rel => 
     obtain ⟨q3, os3, h3⟩ := HW2.out
     exact ⟨j + 1, q3, os3, by go_num, ⟨by have := HK.out; omega⟩, HE2, ⟨h3⟩⟩
   ·have he := HE.out
    rw [if_neg hz] at he
    have HE2 := Aside0.mk he
    have z1 : (cfC_ x y == 0) = false := beq_eq_false_iff_ne.mpr hz
    clear he HE hw2 hx0 hx1 hy0 hy1
    generalize cfC_ x y = cz at *
    go_wp2_with fail
    go_ret
    exact ⟨by rw [HE2.out]; rfl, HW2.out⟩
set_option maxHeartbeats 4000000 in
set_option maxRecDepth 100000 in
theorem compareShapes_grow (A : Option Addr) (c : Nat) (xs : List S39) (B : Option Addr) (c' : Nat) (ys : List S39) (w : World) (hA : Kd.C k39 w A xs.length xs) (hB : Kd.C k39 w B ys.length ys) :
  Calls Tryz.prog 45 #[.slice A xs.length c, .slice B ys.length c'] w fun e w' => e = .returned (.int .i64 (cfS_ xs ys)) ∧ ∃ q os, w' = Go.Sort.grow (w.drewN q) os := by
 have HA := Aside0.mk hA
 have HBB := Aside0.mk hB
 have hl1 : xs.length ≤ 9223372036854775807 := hA.2.1
 have hl2 : ys.length ≤ 9223372036854775807 := hB.2.1
 have h0 : ∃ q os, w = Go.Sort.grow (w.drewN q) os := ⟨0, #[], by rw [Go.Sort.grow_empty]; rfl⟩
 have H0 := Aside0.mk h0
 clear hA hB h0
 unfold cfS_
 by_cases hl : xs.length = ys.length
 ·rw [if_pos hl]
  have HL := Aside0.mk hl
  generalize hR : cfL_ xs ys = R
  have HR := Aside0.mk hR
  have z1 : ((xs.length : Int) == (ys.length : Int)) = true := by rw [hl]; exact beq_self_eq_true _
  have z2 : ((xs.length : Int) != (ys.length : Int)) = false := by rw [hl]; exact bne_self_eq_false _
  have z3 : (xs.length == ys.length) = true := by rw [hl]; exact beq_self_eq_true _
  have z4 : (xs.length != ys.length) = false := by rw [hl]; exact bne_self_eq_false _
  clear hl hR
  go_enter Tryz.func45, Tryz.ntmps45
  go_wp2_with fail
  refine (compareFunc_grow A c xs B c' ys HL.out _ HA.out HBB.out).mono ?_
  rintro e w1 ⟨rfl, hg⟩
  rw [HR.out]
  have HG := Aside0.mk hg
  clear hg
  go_wp2_with fail
  go_ret
  exact ⟨rfl, HG.out⟩
 ·rw [if_neg hl]
  have z1 : ((xs.length : Int) == (ys.length : Int)) = false := beq_eq_false_iff_ne.mpr (by omega)
  have z2 : ((xs.length : Int) != (ys.length : Int)) = true := by simp [bne, z1]
  have z3 : (xs.length == ys.length) = false := beq_eq_false_iff_ne.mpr hl
  have z4 : (xs.length != ys.length) = true := by simp [bne, z3]
  by_cases hlt : xs.length < ys.length
  ·rw [if_pos hlt]
   have z5 : decide ((xs.length : Int) < (ys.length : Int)) = true := decide_eq_true (by omega)
   have z6 : decide (xs.length < ys.length) = true := decide_eq_true hlt
   clear hl hlt
   go_enter Tryz.func45, Tryz.ntmps45
   go_wp2_with fail
   go_ret
   exact ⟨rfl, H0.out⟩
  ·rw [if_neg hlt]
   have z5 : decide ((xs.length : Int) < (ys.length : Int)) = false := decide_eq_false (by omega)
   have z6 : decide (xs.length < ys.length) = false := decide_eq_false hlt
   clear hl hlt
   go_enter Tryz.func45, Tryz.ntmps45
   go_wp2_with fail
   go_ret
   exact ⟨rfl, H0.out⟩
/-- the rows of a row of rows: each is the call's own, none is another's -/
structure PR_ (w : World) (base : Nat) (g : Option Nat) (es : List (Value × List S39)) : Prop where
 own : ∀ e ∈ es, Kd.R k39 39 w base (fun k => some k ≠ g) e.1 e.2
 apart : es.Pairwise fun a b => ∀ k, a.1.ownBlock = some k → b.1.ownBlock ≠ some k
theorem PR_.perm {w : World} {base : Nat} {g : Option Nat} {es es' : List (Value × List S39)} (h : PR_ w base g es) (hp : es'.Perm es) : PR_ w base g es' :=
 ⟨fun e he => h.own e (hp.mem_iff.1 he), (hp.symm.pairwise_iff (fun {a b} (hab : ∀ k, a.1.ownBlock = some k → b.1.ownBlock ≠ some k) => fun k h1 h2 => hab k h2 h1)).1 h.apart⟩
theorem PR_.sub {w : World} {base : Nat} {g : Option Nat} {es es' : List (Value × List S39)} (h : PR_ w base g es) (hp : es'.Sublist es) : PR_ w base g es' :=
 ⟨fun e he => h.own e (hp.subset he), h.apart.sublist hp⟩
theorem PR_.move {w w' : World} {base : Nat} {g : Nat} {es : List (Value × List S39)} (h : PR_ w base (some g) es) (hm : ∀ k, k ≠ g → k < w.heap.size → w'.heap[k]? = w.heap[k]?) : PR_ w' base (some g) es :=
 ⟨fun e he => Kd.R_step (h.own e he) (fun k hk hlt => hm k (fun e => hk (by rw [e])) hlt), h.apart⟩
theorem PR_.lower {w : World} {base base' : Nat} {g : Option Nat} {es : List (Value × List S39)} (h : PR_ w base g es) (hb : base' ≤ base) : PR_ w base' g es := ⟨fun e he => Kd.R_lower (h.own e he) hb, h.apart⟩
/-- down: a row of rows that lie apart, by its elements -/
theorem S_split {w : World} {base : Nat} {u : Value} {l : List (List S39)} (h : Kd.S (Kd.slice 39 k39) 24 w base (fun _ => True) u l) :
  ∃ es : List (Value × List S39), es.map Prod.snd = l ∧ w.ownsRow base 24 1 u es.length (es.map Prod.fst) ∧ PR_ w base u.ownBlock es := by
 obtain ⟨f, h0, inner, ho, hl, hr⟩ := h
 rw [List.length_zipIdx] at ho hl
 have hil : inner.length = l.length := by rw [hl]; exact Nat.mul_one _
 have each : ∀ j x, l[j]? = some x → ∃ v, inner[j]? = some v ∧ Kd.R k39 39 w base (fun k => (True ∧ some k ≠ u.ownBlock) ∧ f k = j) v x := by
  intro j x hx
  have hz := hr j (x, j) (by rw [List.getElem?_zipIdx, hx, Nat.zero_add]; rfl)
  obtain ⟨v, hv, hR⟩ := hz
  have hjl : j < l.length := (List.getElem?_eq_some_iff.1 hx).1
  have hsz : (Kd.tag f (Kd.slice 39 k39)).sz = 1 := rfl
  rw [hsz, Nat.mul_one] at hv
  refine ⟨v, ?_, hR⟩
  have := congrArg (fun z => z[0]?) hv
  simp only [List.getElem?_take, List.getElem?_drop, Nat.add_zero] at this
  simpa using this
 refine ⟨inner.zip l, ?_, ?_, ⟨fun e he => ?_, ?_⟩⟩
 ·exact List.map_snd_zip (by omega)
 ·rw [List.map_fst_zip (by omega), List.length_zip, hil, Nat.min_self]; exact ho
 ·obtain ⟨j, hj, e1⟩ := List.mem_iff_getElem.1 he
  have hj1 : j < l.length := by rw [List.length_zip] at hj; omega
  obtain ⟨v, hv, hR⟩ := each j _ (List.getElem?_eq_getElem hj1)
  rw [List.getElem_zip] at e1
  rw [List.getElem?_eq_getElem (by omega)] at hv
  obtain rfl := Option.some.inj hv
  rw [← e1]
  exact Kd.R_mono hR (fun k hk => hk.1.2)
 ·rw [List.pairwise_iff_getElem]
  intro i j hi hj hij k h1 h2
  have hi1 : i < l.length := by rw [List.length_zip] at hi; omega
  have hj1 : j < l.length := by rw [List.length_zip] at hj; omega
  obtain ⟨v, hv, hR⟩ := each i _ (List.getElem?_eq_getElem hi1)
  obtain ⟨v', hv', hR'⟩ := each j _ (List.getElem?_eq_getElem hj1)
  rw [List.getElem?_eq_getElem (by omega)] at hv hv'
  obtain rfl := Option.some.inj hv
  obtain rfl := Option.some.inj hv'
  rw [List.getElem_zip] at h1 h2
  have a1 := (hR.1 k h1).2
  have a2 := (hR'.1 k h2).2
  omega
/-- .. and up -/
theorem S_join {w : World} {base : Nat} {u : Value} {es : List (Value × List S39)} (ho : w.ownsRow base 24 1 u es.length (es.map Prod.fst)) (h : PR_ w base u.ownBlock es) :
  Kd.S (Kd.slice 39 k39) 24 w base (fun _ => True) u (es.map Prod.snd) := by
 have hap := List.pairwise_iff_getElem.1 h.apart
 obtain ⟨f, hr⟩ := Kd.reps_tag (d := Kd.slice 39 k39) (w := w) (base := base) (ok := fun k => True ∧ some k ≠ u.ownBlock) (xs := es.map Prod.snd) (inner := es.map Prod.fst)
  (fun j k => ∃ e : Value × List S39, es[j]? = some e ∧ e.1.ownBlock = some k) (fun i j k ⟨a, ha, hak⟩ ⟨b, hb, hbk⟩ => by
   obtain ⟨hi, rfl⟩ := List.getElem?_eq_some_iff.1 ha
   obtain ⟨hj, rfl⟩ := List.getElem?_eq_some_iff.1 hb
   rcases Nat.lt_trichotomy i j with g | g | g
   ·exact absurd hbk (hap i j hi hj g k hak)
   ·exact g
   ·exact absurd hak (hap j i hj hi g k hbk))
  (fun j k ⟨a, ha, hak⟩ => ⟨trivial, (h.own a (List.mem_of_getElem? ha)).1 k hak⟩) (by rw [List.length_map, List.length_map]; exact (Nat.mul_one _).symm) (fun j x hx => by
   rw [List.getElem?_map] at hx
   obtain ⟨e, he, rfl⟩ := Option.map_eq_some_iff.1 hx
   refine ⟨e.1, ?_, ?_⟩
   ·have hs : (Kd.slice 39 k39).sz = 1 := rfl
    rw [hs, Nat.mul_one]
    obtain ⟨hj, rfl⟩ := List.getElem?_eq_some_iff.1 he
    rw [List.drop_eq_getElem_cons (by simpa using hj)]
    simp
   ·exact Kd.R_mono (Kd.R_tight rfl (h.own e (List.mem_of_getElem? he))) (fun k hk => ⟨e, he, hk.symm⟩))
 refine ⟨f, fun k hk => trivial, es.map Prod.fst, ?_, hr⟩
 rw [List.length_zipIdx, List.length_map]; exact ho
def gE_ (l : List (Value × List S39)) (i : Nat) : Value × List S39 := l.getD i (.slice none 0 0, [])
theorem gE_get (l : List (Value × List S39)) (i : Nat) (h : i < l.length) : l[i]? = some (gE_ l i) := by
 unfold gE_; rw [List.getD_eq_getElem?_getD, List.getElem?_eq_getElem h]; rfl
theorem gE_mem (l : List (Value × List S39)) (i : Nat) (h : i < l.length) : gE_ l i ∈ l := List.mem_of_getElem? (gE_get l i h)

/-! ### laws_big: function 4 -/
def laws_big.f (l0 : List Int) : Option (Bool) := some (decide ((l0.length : Int) > 4096))
set_option maxHeartbeats 8000000 in
set_option maxRecDepth 100000 in
theorem laws_big.calls (A0 : Option Addr) (c0 : Nat) (l0 : List Int) (r : Bool) (w : World) (hr0 : Kd.C (Kd.int .u8) w A0 l0.length l0) (hc0 : l0.length ≤ c0) (h : laws_big.f l0 = some r) :
  Calls Tryz.prog 4 #[.slice A0 l0.length c0] w fun e w' => e = .returned (.bool r) ∧ Drawn0 w w' := by
 have HR0 := Aside0.mk hr0
 have HC0 := Aside0.mk hc0
 clear hr0 hc0
 have H : (some (decide ((l0.length : Int) > 4096))) = some r := h
 clear h
 obtain rfl := Option.some.inj H
 go_enter Tryz.func4, Tryz.ntmps4
 go_wp2
 go_ret
 exact ⟨r3_, by repeat (first | exact Drawn0.refl _ | apply Drawn0.step)⟩

/-! ### spec_l02Move: function 34 -/
def spec_l02Move.l0 : Nat → List (S39) → Int → Int → List (S39) → Int → Option ((List (S39)))
 | 0, _, _, _, _, _ => none
 | k + 1, x0, x1, x2, x7, x8 => if x8 < (x0.length : Int) then (if 0 ≤ x8 then (if x7.length < 8796093022208 then (spec_l02Move.l0 k x0 x1 x2 (x7 ++ [(⟨wrap64 (((rd_T39 x0 x8).f0) + x1), wrap64 (((rd_T39 x0 x8).f1) + x2)⟩ : S39)]) (wrap64 (x8 + 1))) else (none)) else (none)) else (some x7)
def spec_l02Move.f (k : Nat) (l0 : List (S39)) (a1 : Int) (a2 : Int) : Option ((List (S39))) := spec_l02Move.l0 k l0 a1 a2 (([] : List (S39))) 0
theorem spec_l02Move.mono_l : ∀ k, (∀ y0 y1 y2 y3 y4, LeO (spec_l02Move.l0 k y0 y1 y2 y3 y4) (spec_l02Move.l0 (k + 1) y0 y1 y2 y3 y4))
 | 0 => fun _ _ _ _ _ r h => by simp [spec_l02Move.l0] at h
 | k + 1 => by
  have ih0 := spec_l02Move.mono_l k
  ·intro y0 y1 y2 y3 y4
   unfold spec_l02Move.l0
   repeat' first
   | (with_reducible exact ih0 _ _ _ _ _)
   | (with_reducible exact LeO.refl _)
   | (with_reducible exact LeO.none _)
   | (with_reducible refine LeO.ite ?_ ?_)
   | (with_reducible refine LeO.bind ?_ (fun _ => ?_))
   | exact ih0 _ _ _ _ _
   | exact LeO.none _
   | refine LeO.ite ?_ ?_
   | refine LeO.bind ?_ (fun _ => ?_)
theorem spec_l02Move.mono : ∀ a0 a1 a2 k, LeO (spec_l02Move.f k a0 a1 a2) (spec_l02Move.f (k + 1) a0 a1 a2) := by
 intro a0 a1 a2 k
 have ih0 := spec_l02Move.mono_l k
 unfold spec_l02Move.f
 repeat' first
   | (with_reducible exact ih0 _ _ _ _ _)
   | (with_reducible exact LeO.refl _)
   | (with_reducible exact LeO.none _)
   | (with_reducible refine LeO.ite ?_ ?_)
   | (with_reducible refine LeO.bind ?_ (fun _ => ?_))
   | exact ih0 _ _ _ _ _
   | exact LeO.none _
   | refine LeO.ite ?_ ?_
   | refine LeO.bind ?_ (fun _ => ?_)
def spec_l02Move.T5 : Bool × List (List Nat × List Nat) := (true, [([], []), ([], []), ([], []), ([1, 2], [1, 2]), ([3], [3]), ([4], [4]), ([], []), ([5, 6], [5, 6]), ([], []), ([], []), ([8, 9], [8, 9]), ([10], [10]), ([11], [11]), ([], []), ([12, 13], [12, 13]), ([7, 14], [7, 14]), ([15], [15]), ([0, 16], [0, 16]), ([17, 17, 0, 1, 2, 3, 4, 5, 6, 7, 8, 9, 10, 11, 12, 13, 14, 15, 16, 17], [0, 17])])
def spec_l02Move.B5 : List Nat := [0, 0, 0, 6, 14, 30, 0, 126, 0, 0, 768, 1792, 3840, 0, 16128, 32766, 65534, 131071, 262143]
theorem spec_l02Move.tab5 : rtab .any (opsOf Tryz.f34 5) = spec_l02Move.T5 := by kernel_rfl
theorem spec_l02Move.bits5 : waitsOk spec_l02Move.T5.2 spec_l02Move.B5 = true := by kernel_rfl
set_option maxHeartbeats 8000000 in
set_option maxRecDepth 100000 in
theorem spec_l02Move.calls (k : Nat) (A0 : Option Addr) (c0 : Nat) (l0 : List (S39)) (a1 : Int) (a2 : Int) (r : List (S39)) (w : World) (hr0 : Kd.C k39 w A0 l0.length l0) (hc0 : l0.length ≤ c0) (h : spec_l02Move.f k l0 a1 a2 = some r) :
  Calls Tryz.prog 34 #[.slice A0 l0.length c0, .int .i64 a1, .int .i64 a2] w fun e w' => ∃ v0_ : Value, e = .returned (v0_) ∧ Kd.R k39 39 w' w.heap.size (fun _ => True) v0_ r ∧ Below w.heap.size w w' := by
 have hu39 := Tryz.underlying39
 have HR0 := Aside0.mk hr0
 have HC0 := Aside0.mk hc0
 clear hr0 hc0
 have HB := Aside0.mk (Below.refl w.heap.size w)
 have H : (spec_l02Move.l0 k l0 a1 a2 (([] : List (S39))) 0) = some r := h
 clear h
 obtain ⟨y101, hY_⟩ : ∃ y_ : List (S39), y_ = (([] : List (S39))) := ⟨_, rfl⟩
 replace H : (spec_l02Move.l0 k l0 a1 a2 y101 0) = some r := yY_
 have Ny101 := Aside0.mk hY_
 clear hY_
 have H' := Aside0.mk H
 clear H
 go_enter Tryz.func34, Tryz.ntmps34
 go_wp2_with (first | ((with_reducible refine gate_dst (N := 9) rfl ?_); refine Kd.R_lit k39 _ 39 ?hg (N := 9) ?hd (xs := ([] : List (S39))) (inner := []) (ok := fun _ => True) (okp := fun _ => True) ?hr ?hp (fun _ hk => hk) trivial (Below.refl _ _) (Nat.le_refl _) (by simp) ?_; (case hd => rfl); (case hg => rfl); (case hr => first | (go_simp; done) | (go_simp; rfl)); (case hp => exact (Reps.none _ _)); intro v102 w4 ho5 hb hg_ hnew_; clear hg_ hnew_; (first | rw [← Ny101.out] at ho5 | (simp only [Int.reduceToNat] at ho5; rw [← Ny101.out] at ho5)); have HO103 := Aside0.mk (Kd.R_lower ho5 (below_size bB_)); replace HB := Aside0.mk (below_step bB_ hb); clear hb ho5))
 go_loopg [7, 8] k (fun kq v7 v8 w' => ∃ (x7_1 : List (S39)) (x8_1 : Int), v8 = .int .i64 x8_1 ∧ Aside0 (spec_l02Move.l0 kq l0 a1 a2 x7_1 x8_1 = some r) ∧ Aside0 (kq ≤ k) ∧ Aside0 (Kd.R k39 39 w' w.heap.size (fun _ => True) v7 x7_1) ∧ Aside0 (Below w.heap.size w w'))
 case atStart => exact ⟨(y101), (0), r3_, H', ⟨Nat.le_refl _⟩, ⟨rS_ HO103.out⟩, ⟨bB_⟩⟩
 case round =>
  clear H'
  try clear p2
  try clear c3
  obtain ⟨x7_1, x8_1, rfl, HA, HK1, HO_7, HB⟩ := hrel
  cases gk with
  | zero => exact absurd HA.out (by simp [spec_l02Move.l0])
  | succ k1 =>
   have H := HA.out
   clear HA
   simp only [spec_l02Move.l0] at H
   by_cases c6 : x8_1 < (l0.length : Int)
   ·rw [if_pos c6] at H
    have c6b0 : decide (x8_1 < (l0.length : Int)) = true := decide_eq_true c6
    clear c6
    by_cases c7 : 0 ≤ x8_1
    ·rw [if_pos c7] at H
     have c7b0 : decide (0 ≤ x8_1) = true := decide_eq_true c7
     clear c7
     by_cases c8 : x7_1.length < 8796093022208
     ·rw [if_pos c8] at H
      have LMc8 := Aside0.mk c8
      clear c8
      obtain ⟨y106, hY_⟩ : ∃ y_ : List (S39), y_ = (x7_1 ++ [(⟨wrap64 (((rd_T39 l0 x8_1).f0) + a1), wrap64 (((rd_T39 l0 x8_1).f1) + a2)⟩ : S39)]) := ⟨_, rfl⟩
      replace H : (spec_l02Move.l0 k1 l0 a1 a2 y106 (wrap64 (x8_1 + 1))) = some r := yY_
      have Ny106 := Aside0.mk hY_
      clear hY_
      have H' := Aside0.mk H
      clear H
      try go_wp2
      replace HO_7 := Aside0.mk (Kd.R_drew HO_7.out)
      replace HB := Aside0.mk (below_drew1 HB.out)
      have p104 : 0 ≤ (x8_1 : Int) := of_decide_eq_true aS_
      have q104 : x8_1 < (l0.length : Int) := of_decide_eq_true aS_
      obtain ⟨ad104, e104, hx104_0, hx104_1⟩ := at_T39 HR0.out x8_1 p104 q104
      have hw104_1 := hx104_1
      have hw104_0 := hx104_0
      cases e104
      replace hx104_0 := (HB.out.cell (World.block_lt_of_cell? w _ hx104_0)).trans hx104_0
      replace hx104_1 := (HB.out.cell (World.block_lt_of_cell? w _ hx104_1)).trans hx104_1
      replace p104 := eq_true p104
      replace q104 := eq_true q104
      have p105 : 0 ≤ (x8_1 : Int) := of_decide_eq_true aS_
      have q105 : x8_1 < (l0.length : Int) := of_decide_eq_true aS_
      obtain ⟨ad105, e105, hx105_0, hx105_1⟩ := at_T39 HR0.out x8_1 p105 q105
      have hw105_1 := hx105_1
      have hw105_0 := hx105_0
      obtain rfl : ad104 = ad105 := (by injection e105)
      replace hx105_0 := (HB.out.cell (World.block_lt_of_cell? w _ hx105_0)).trans hx105_0
      replace hx105_1 := (HB.out.cell (World.block_lt_of_cell? w _ hx105_1)).trans hx105_1
      replace p105 := eq_true p105
      replace q105 := eq_true q105
      refine start_ (n := 19) (S := fun w' => w'.cell? (ad104.add ((x8_1).toNat * 2)) = some (.int .i64 ((rd_T39 l0 x8_1).f0)) ∧ w'.cell? ⟨(ad104.add ((x8_1).toNat * 2)).block, (ad104.add ((x8_1).toNat * 2)).off + 1, none⟩ = some (.int .i64 ((rd_T39 l0 x8_1).f1)) ∧ w'.cell? (ad104.add ((x8_1).toNat * 2)) = some (.int .i64 ((rd_T39 l0 x8_1).f0)) ∧ w'.cell? ⟨(ad104.add ((x8_1).toNat * 2)).block, (ad104.add ((x8_1).toNat * 2)).off + 1, none⟩ = some (.int .i64 ((rd_T39 l0 x8_1).f1))) (ds := []) #[F, F, F, F, F, F, F, F, F, F, F, F, F, F, F, F, F, F, F] (by kernel_rfl) rfl rfl ⟨((HB.out.cell (World.block_lt_of_cell? w _ hw104_0)).trans hw104_0), ((HB.out.cell (World.block_lt_of_cell? w _ hw104_1)).trans hw104_1), ((HB.out.cell (World.block_lt_of_cell? w _ hw105_0)).trans hw105_0), ((HB.out.cell (World.block_lt_of_cell? w _ hw105_1)).trans hw105_1)⟩ (fun hHeld => ?_); refine with_tabW spec_l02Move.tab5 spec_l02Move.bits5 (fun HT_ HW_ => ?_)
      generalize wr.drew = w9 at HO_7 HB hx104_0 hx104_1 hx105_0 hx105_1 hHeld ⊢
      refine pu_ HT_ 0 (some 16) #[T,F,F,F,F,F,F,F,F,F,F,F,F,F,F,F,F,F,F] ?_
      refine pu_ HT_ 1 (some 17) #[T,T,F,F,F,F,F,F,F,F,F,F,F,F,F,F,F,F,F] ?_
      refine pu_ HT_ 2 (some 18) #[T,T,T,F,F,F,F,F,F,F,F,F,F,F,F,F,F,F,F] ?_
      refine pu_ HT_ 3 (some 19) #[T,T,T,T,F,F,F,F,F,F,F,F,F,F,F,F,F,F,F] ?_
      refine pu_ HT_ 4 (some 20) #[T,T,T,T,T,F,F,F,F,F,F,F,F,F,F,F,F,F,F] ?_
      refine pu_ HT_ 6 (some 22) #[T,T,T,T,T,F,T,F,F,F,F,F,F,F,F,F,F,F,F] ?_
      refine pu_ HT_ 8 (some 24) #[T,T,T,T,T,F,T,F,T,F,F,F,F,F,F,F,F,F,F] ?_
      refine pu_ HT_ 9 (some 25) #[T,T,T,T,T,F,T,F,T,T,F,F,F,F,F,F,F,F,F] ?_
      refine pu_ HT_ 10 (some 26) #[T,T,T,T,T,F,T,F,T,T,T,F,F,F,F,F,F,F,F] ?_
      refine pu_ HT_ 11 (some 27) #[T,T,T,T,T,F,T,F,T,T,T,T,F,F,F,F,F,F,F] ?_
      refine pu_ HT_ 13 (some 29) #[T,T,T,T,T,F,T,F,T,T,T,T,F,T,F,F,F,F,F] ?_
      refine take_ (i := 5) (N := some 21) (v := ?_) (a' := ?_) #[T, T, T, T, T, T, T, F, T, T, T, T, F, T, F, F, F, F, F] rfl rfl (take_ofW HT_.out HW_.out (by kernel_rfl)) (fun _ _ _ h => h) (Or.inl ⟨by rfl, ?_⟩) hHeld ?_ ?_
      rotate_left
      ·rintro w' ⟨s0, s1, s2, s3⟩
       go_simp
       with_reducible rfl
      rotate_left
      ·simp only [Act.put, List.setIfInBounds_toArray, List.set_cons_zero, List.set_cons_succ, i64_w, i32_w]
       rfl
      refine pu_ HT_ 7 (some 23) #[T,T,T,T,T,T,T,T,T,T,T,T,F,T,F,F,F,F,F] ?_
      refine take_ (i := 12) (N := some 28) (v := ?_) (a' := ?_) #[T, T, T, T, T, T, T, T, T, T, T, T, T, T, F, F, F, F, F] rfl rfl (take_ofW HT_.out HW_.out (by kernel_rfl)) (fun _ _ _ h => h) (Or.inl ⟨by rfl, ?_⟩) hHeld ?_ ?_
      rotate_left
      ·rintro w' ⟨s0, s1, s2, s3⟩
       go_simp
       with_reducible rfl
      rotate_left
      ·simp only [Act.put, List.setIfInBounds_toArray, List.set_cons_zero, List.set_cons_succ, i64_w, i32_w]
       rfl
      refine pu_ HT_ 14 (some 30) #[T,T,T,T,T,T,T,T,T,T,T,T,T,T,T,F,F,F,F] ?_
      refine pu_ HT_ 15 (some 31) #[T,T,T,T,T,T,T,T,T,T,T,T,T,T,T,T,F,F,F] ?_
      refine one_ (i := 16) (N := some 32) #[T, T, T, T, T, T, T, T, T, T, T, T, T, T, T, T, T, F, F] rfl rfl (one_of HT_.out (by kernel_rfl)) (by decide) (fun K hK => ?_)
      refine value_ (w1 := ?_) (v := ?_) (by rfl) rfl ?_ ?_
      rotate_left 2
      ·go_simp
       constructor
       ·rfl
       ·rfl
      refine hK.out _ _ ⟨(World.cell?_alloc_lt _ _ _ (World.block_lt_of_cell? _ _ (((HB.out.cell (World.block_lt_of_cell? w _ hw104_0)).trans hw104_0)))).trans (((HB.out.cell (World.block_lt_of_cell? w _ hw104_0)).trans hw104_0)), (World.cell?_alloc_lt _ _ _ (World.block_lt_of_cell? _ _ (((HB.out.cell (World.block_lt_of_cell? w _ hw104_1)).trans hw104_1)))).trans (((HB.out.cell (World.block_lt_of_cell? w _ hw104_1)).trans hw104_1)), (World.cell?_alloc_lt _ _ _ (World.block_lt_of_cell? _ _ (((HB.out.cell (World.block_lt_of_cell? w _ hw105_0)).trans hw105_0)))).trans (((HB.out.cell (World.block_lt_of_cell? w _ hw105_0)).trans hw105_0)), (World.cell?_alloc_lt _ _ _ (World.block_lt_of_cell? _ _ (((HB.out.cell (World.block_lt_of_cell? w _ hw105_1)).trans hw105_1)))).trans (((HB.out.cell (World.block_lt_of_cell? w _ hw105_1)).trans hw105_1))⟩ (fun hHeld => ?_)
      clear hK K
      refine no_ (some 32) ?_
      refine one_ (i := 17) (N := some 33) #[T, T, T, T, T, T, T, T, T, T, T, T, T, T, T, T, T, T, F] rfl rfl (one_of HT_.out (by kernel_rfl)) (by decide) (fun K hK => ?_)
      refine Kd.R_append_step k39 (w0 := w) w.heap.size (by rfl) (.tmp 16) (.tmp 32) 24 39 (.agg #[(.int .i64 0), (.int .i64 0)]) 16 rfl Tryz.underlying24 info39 rfl (by decide) (by omega) u7 x7_1 (⟨wrap64 (((rd_T39 l0 x8_1).f0) + a1), wrap64 (((rd_T39 l0 x8_1).f1) + a2)⟩ : S39) [.int .i64 (wrap64 (((rd_T39 l0 x8_1).f0) + a1)), .int .i64 (wrap64 (((rd_T39 l0 x8_1).f1) + a2))] (fun _ => True) (fun _ => False) rfl rfl ?aP (fun _ hk => hk.elim) ?aF ?aO ?aB ?aS ?aL ?_
      (case aP => exact k39_mkM _ _ _ (⟨wrap64 (((rd_T39 l0 x8_1).f0) + a1), wrap64 (((rd_T39 l0 x8_1).f1) + a2)⟩ : S39))
      (case aB => exact bB_)
      (case aF => exact (fun _ _ => trivial))
      (case aO => exact (rS_ HO_7.out))
      (case aS => exact (below_size bB_))
      (case aL => have := LMc8.out; omega)
      intro v107 w10 ho hb hg hat
      rw [← Ny106.out] at ho
      replace HB := Aside0.mk (hb)
      have HO108 := Aside0.mk (ho)
      clear HO_7
      clear ho hb hg hat
      refine hK.out _ _ ⟨((HB.out.cell (World.block_lt_of_cell? w _ hw104_0)).trans hw104_0), ((HB.out.cell (World.block_lt_of_cell? w _ hw104_1)).trans hw104_1), ((HB.out.cell (World.block_lt_of_cell? w _ hw105_0)).trans hw105_0), ((HB.out.cell (World.block_lt_of_cell? w _ hw105_1)).trans hw105_1)⟩ (fun hHeld => ?_)
      clear hK K
      refine no_ (some 33) ?_
      refine pu_ HT_ 18 (some 7) #[T,T,T,T,T,T,T,T,T,T,T,T,T,T,T,T,T,T,T] ?_
      refine done_ (done_of HT_.out (by kernel_rfl)) ?_
      try go_wp2
      go_roundg k1
      case measure => have := HK1.out; omega
      case rel => exact ⟨(y106), (wrap64 (x8_1 + 1)), r3_, H', ⟨by have := HK1.out; omega⟩, ⟨rS_ HO108.out⟩, ⟨bB_⟩⟩
     ·rw [if_neg c8] at H
      exact absurd H (by simp)
    ·rw [if_neg c7] at H
     exact absurd H (by simp)
   ·rw [if_neg c6] at H
    have c6b0 : decide (x8_1 < (l0.length : Int)) = false := decide_eq_false c6
    clear c6
    obtain rfl := Option.some.inj H
    go_wp2
    go_ret
    exact ⟨_, r2_, rS_ HO_7.out, bB_⟩

/-! ### spec_l02Least: function 53 -/
def spec_l02Least.l0 : Nat → List (S39) → Int → Int → Int → Option (Int × Int)
 | 0, _, _, _, _ => none
 | k + 1, x0, x4, x5, x6 => if x6 < (x0.length : Int) then (if 0 ≤ x6 then (spec_l02Least.l0 k x0 (mn x4 ((rd_T39 x0 x6).f0)) (mn x5 ((rd_T39 x0 x6).f1)) (wrap64 (x6 + 1))) else (none)) else (some (x4, x5))
def spec_l02Least.f (k : Nat) (l0 : List (S39)) : Option (Int × Int) := if 0 < (l0.length : Int) then (spec_l02Least.l0 k l0 ((rd_T39 l0 0).f0) ((rd_T39 l0 0).f1) 1) else (none)
theorem spec_l02Least.mono_l : ∀ k, (∀ y0 y1 y2 y3, LeO (spec_l02Least.l0 k y0 y1 y2 y3) (spec_l02Least.l0 (k + 1) y0 y1 y2 y3))
 | 0 => fun _ _ _ _ r h => by simp [spec_l02Least.l0] at h
 | k + 1 => by
  have ih0 := spec_l02Least.mono_l k
  ·intro y0 y1 y2 y3
   unfold spec_l02Least.l0
   repeat' first
   | (with_reducible exact ih0 _ _ _ _)
   | (with_reducible exact LeO.refl _)
   | (with_reducible exact LeO.none _)
   | (with_reducible refine LeO.ite ?_ ?_)
   | (with_reducible refine LeO.bind ?_ (fun _ => ?_))
   | exact ih0 _ _ _ _
   | exact LeO.none _
   | refine LeO.ite ?_ ?_
   | refine LeO.bind ?_ (fun _ => ?_)
theorem spec_l02Least.mono : ∀ a0 k, LeO (spec_l02Least.f k a0) (spec_l02Least.f (k + 1) a0) := by
 intro a0 k
 have ih0 := spec_l02Least.mono_l k
 unfold spec_l02Least.f
 repeat' first
   | (with_reducible exact ih0 _ _ _ _)
   | (with_reducible exact LeO.refl _)
   | (with_reducible exact LeO.none _)
   | (with_reducible refine LeO.ite ?_ ?_)
   | (with_reducible refine LeO.bind ?_ (fun _ => ?_))
   | exact ih0 _ _ _ _
   | exact LeO.none _
   | refine LeO.ite ?_ ?_
   | refine LeO.bind ?_ (fun _ => ?_)
set_option maxHeartbeats 8000000 in
set_option maxRecDepth 100000 in
theorem spec_l02Least.calls (k : Nat) (A0 : Option Addr) (c0 : Nat) (l0 : List (S39)) (r1 : Int) (r2 : Int) (w : World) (hr0 : Kd.C k39 w A0 l0.length l0) (hc0 : l0.length ≤ c0) (h : spec_l02Least.f k l0 = some (r1, r2)) :
  Calls Tryz.prog 53 #[.slice A0 l0.length c0] w fun e w' => e = .returned (.tuple #[.int .i64 r1, .int .i64 r2]) ∧ Below w.heap.size w w' := by
 have HR0 := Aside0.mk hr0
 have HC0 := Aside0.mk hc0
 clear hr0 hc0
 have HB := Aside0.mk (Below.refl w.heap.size w)
 have H : (if 0 < (l0.length : Int) then (spec_l02Least.l0 k l0 ((rd_T39 l0 0).f0) ((rd_T39 l0 0).f1) 1) else (none)) = some (r1, r2) := h
 clear h
 by_cases c2 : 0 < (l0.length : Int)
 ·rw [if_pos c2] at H
  have c2b0 : decide (0 < (l0.length : Int)) = true := decide_eq_true c2
  have c2b1 : decide (0 < l0.length) = true := decide_eq_true (by omega)
  clear c2
  have H' := Aside0.mk H
  clear H
  have p109 : 0 ≤ (0 : Int) := (by omega)
  have q109 : 0 < (l0.length : Int) := of_decide_eq_true aS_
  obtain ⟨ad109, e109, hx109_0, hx109_1⟩ := at_T39 HR0.out 0 p109 q109
  cases e109
  have qi109 : (0 < l0.length) = True := eq_true (by omega)
  (try rw [show ((0 : Int)).toNat = 0 from rfl] at hx109_0)
  (try rw [show 0 * 2 = 0 from rfl] at hx109_0)
  (try rw [Addr.add_zero'] at hx109_0)
  (try rw [show ((0 : Int)).toNat = 0 from rfl] at hx109_1)
  (try rw [show 0 * 2 = 0 from rfl] at hx109_1)
  (try rw [Addr.add_zero'] at hx109_1)
  replace p109 := eq_true p109
  replace q109 := eq_true q109
  have p110 : 0 ≤ (0 : Int) := (by omega)
  have q110 : 0 < (l0.length : Int) := of_decide_eq_true aS_
  obtain ⟨ad110, e110, hx110_0, hx110_1⟩ := at_T39 HR0.out 0 p110 q110
  obtain rfl : ad109 = ad110 := (by injection e110)
  have qi110 : (0 < l0.length) = True := eq_true (by omega)
  (try rw [show ((0 : Int)).toNat = 0 from rfl] at hx110_0)
  (try rw [show 0 * 2 = 0 from rfl] at hx110_0)
  (try rw [Addr.add_zero'] at hx110_0)
  (try rw [show ((0 : Int)).toNat = 0 from rfl] at hx110_1)
  (try rw [show 0 * 2 = 0 from rfl] at hx110_1)
  (try rw [Addr.add_zero'] at hx110_1)
  replace p110 := eq_true p110
  replace q110 := eq_true q110
  go_enter Tryz.func53, Tryz.ntmps53
  go_wp2
  repeat (go_quiet (fail); try go_wp2)
  go_loopg [4, 5, 6] k (fun kq v4 v5 v6 w' => ∃ (x4_1 : Int) (x5_1 : Int) (x6_1 : Int), v4 = .int .i64 x4_1 ∧ v5 = .int .i64 x5_1 ∧ v6 = .int .i64 x6_1 ∧ Aside0 (spec_l02Least.l0 kq l0 x4_1 x5_1 x6_1 = some (r1, r2)) ∧ Aside0 (kq ≤ k) ∧ Aside0 (Below w.heap.size w w'))
  case atStart => exact ⟨((rd_T39 l0 0).f0), ((rd_T39 l0 0).f1), (1), r3_, r3_, r3_, H', ⟨Nat.le_refl _⟩, ⟨bB_⟩⟩
  case round =>
   clear H'
   try clear p1
   try clear q1
   try clear hx1
   try clear qi1
   try clear c2
   try clear c2b0
   try clear c2b1
   try clear p2
   try clear hx109_0
   try clear hx109_1
   try clear hx110_0
   try clear hx110_1
   try clear p109
   try clear p110
   try clear q109
   try clear q110
   obtain ⟨x4_1, x5_1, x6_1, rfl, rfl, rfl, HA, HK1, HB⟩ := hrel
   cases gk with
   | zero => exact absurd HA.out (by simp [spec_l02Least.l0])
   | succ k1 =>
    have H := HA.out
    clear HA
    simp only [spec_l02Least.l0] at H
    by_cases c3 : x6_1 < (l0.length : Int)
    ·rw [if_pos c3] at H
     have c3b0 : decide (x6_1 < (l0.length : Int)) = true := decide_eq_true c3
     clear c3
     by_cases c4 : 0 ≤ x6_1
     ·rw [if_pos c4] at H
      have c4b0 : decide (0 ≤ x6_1) = true := decide_eq_true c4
      clear c4
      obtain ⟨ji5, hji5⟩ : ∃ j_ : Int, (mn x4_1 ((rd_T39 l0 x6_1).f0)) = j_ := ⟨_, rfl⟩
      replace H : (spec_l02Least.l0 k1 l0 ji5 (mn x5_1 ((rd_T39 l0 x6_1).f1)) (wrap64 (x6_1 + 1))) = some (r1, r2) := by first | (rw [hji5] at H; exact H) | (simp only [hji5] at H ⊢; exact H)
      have hji5_ : (if ((rd_T39 l0 x6_1).f0) < x4_1 then ((rd_T39 l0 x6_1).f0) else x4_1) = ji5 := hji5
      obtain ⟨ji6, hji6⟩ : ∃ j_ : Int, (mn x5_1 ((rd_T39 l0 x6_1).f1)) = j_ := ⟨_, rfl⟩
      replace H : (spec_l02Least.l0 k1 l0 ji5 ji6 (wrap64 (x6_1 + 1))) = some (r1, r2) := by first | (rw [hji6] at H; exact H) | (simp only [hji6] at H ⊢; exact H)
      have hji6_ : (if ((rd_T39 l0 x6_1).f1) < x5_1 then ((rd_T39 l0 x6_1).f1) else x5_1) = ji6 := hji6
      have H' := Aside0.mk H
      clear H
      have p111 : 0 ≤ (x6_1 : Int) := of_decide_eq_true aS_
      have q111 : x6_1 < (l0.length : Int) := of_decide_eq_true aS_
      obtain ⟨ad111, e111, hx111_0, hx111_1⟩ := at_T39 HR0.out x6_1 p111 q111
      obtain rfl : ad109 = ad111 := (by injection e111)
      replace hx111_0 := (HB.out.cell (World.block_lt_of_cell? w _ hx111_0)).trans hx111_0
      replace hx111_1 := (HB.out.cell (World.block_lt_of_cell? w _ hx111_1)).trans hx111_1
      replace p111 := eq_true p111
      replace q111 := eq_true q111
      have p112 : 0 ≤ (x6_1 : Int) := of_decide_eq_true aS_
      have q112 : x6_1 < (l0.length : Int) := of_decide_eq_true aS_
      obtain ⟨ad112, e112, hx112_0, hx112_1⟩ := at_T39 HR0.out x6_1 p112 q112
      obtain rfl : ad109 = ad112 := (by injection e112)
      replace hx112_0 := (HB.out.cell (World.block_lt_of_cell? w _ hx112_0)).trans hx112_0
      replace hx112_1 := (HB.out.cell (World.block_lt_of_cell? w _ hx112_1)).trans hx112_1
      replace p112 := eq_true p112
      replace q112 := eq_true q112
      go_wp2
      repeat (go_quiet (fail); try go_wp2)
      go_roundg k1
      case measure => have := HK1.out; omega
      case rel => exact ⟨(ji5), (ji6), (wrap64 (x6_1 + 1)), (by first | rfl | (simp; done) | (simp only [← hji5] <;> (first | rfl | simp)) | (simp [*]; done)), (by first | rfl | (simp; done) | (simp only [← hji6] <;> (first | rfl | simp)) | (simp [*]; done)), r3_, H', ⟨by have := HK1.out; omega⟩, ⟨bB_⟩⟩
     ·rw [if_neg c4] at H
      exact absurd H (by simp)
    ·rw [if_neg c3] at H
     have c3b0 : decide (x6_1 < (l0.length : Int)) = false := decide_eq_false c3
     clear c3
     simp only [Option.some.injEq, Prod.mk.injEq] at H
     obtain ⟨rfl, rfl⟩ := H
     go_wp2
     repeat (go_quiet (fail); try go_wp2)
     go_ret2
     exact ⟨r2_, bB_⟩
 ·rw [if_neg c2] at H
  exact absurd H (by simp)

/-! ### spec_l02Normal: function 28 -/
def spec_l02Normal.f (k : Nat) (l0 : List (S39)) : Option ((List (S39))) := (spec_l02Least.f k l0).bind fun bt113 => ((spec_l02Move.f k l0 (wrap64 (-bt113.1)) (wrap64 (-bt113.2))).bind fun t115 => (some t115))
theorem spec_l02Normal.mono : ∀ a0 k, LeO (spec_l02Normal.f k a0) (spec_l02Normal.f (k + 1) a0) := by
 intro a0 k
 unfold spec_l02Normal.f
 repeat' first
   | (with_reducible exact spec_l02Least.mono _ _)
   | (with_reducible exact spec_l02Move.mono _ _ _ _)
   | (with_reducible exact LeO.refl _)
   | (with_reducible exact LeO.none _)
   | (with_reducible refine LeO.ite ?_ ?_)
   | (with_reducible refine LeO.bind ?_ (fun _ => ?_))
   | exact spec_l02Least.mono _ _
   | exact spec_l02Move.mono _ _ _ _
   | exact LeO.none _
   | refine LeO.ite ?_ ?_
   | refine LeO.bind ?_ (fun _ => ?_)
set_option maxHeartbeats 8000000 in
set_option maxRecDepth 100000 in
theorem spec_l02Normal.calls (k : Nat) (A0 : Option Addr) (c0 : Nat) (l0 : List (S39)) (r : List (S39)) (w : World) (hr0 : Kd.C k39 w A0 l0.length l0) (hc0 : l0.length ≤ c0) (h : spec_l02Normal.f k l0 = some r) :
  Calls Tryz.prog 28 #[.slice A0 l0.length c0] w fun e w' => ∃ v0_ : Value, e = .returned (v0_) ∧ Kd.R k39 39 w' w.heap.size (fun _ => True) v0_ r ∧ Below w.heap.size w w' := by
 have HR0 := Aside0.mk hr0
 have HC0 := Aside0.mk hc0
 clear hr0 hc0
 have HB := Aside0.mk (Below.refl w.heap.size w)
 have H : ((spec_l02Least.f k l0).bind fun bt113 => ((spec_l02Move.f k l0 (wrap64 (-bt113.1)) (wrap64 (-bt113.2))).bind fun t115 => (some t115))) = some r := h
 clear h
 replace H := Option.bind_eq_some_iff.mp H
 obtain ⟨⟨t113, t114⟩, A20, H⟩ := H
 try dsimp only at H
 have A2 := Aside0.mk A20
 clear A20
 replace H := Option.bind_eq_some_iff.mp H
 obtain ⟨t115, A30, H⟩ := H
 try dsimp only at H
 have A3 := Aside0.mk A30
 clear A30
 obtain rfl := Option.some.inj H
 go_enter Tryz.func28, Tryz.ntmps28
 go_wp2_with (first | ((with_reducible refine gate_callee (f := 53) rfl ?_); refine gL_ (some 7) Tryz.func53 #[.slice A0 l0.length c0] ?_; (with_reducible refine (spec_l02Least.calls k _ _ l0 t113 t114 _ ?side1 ?side2 A2.out).mono ?_); (case side1 => exact cS_ HR0.out); (case side2 => exact HC0.out); rintro e w4 ⟨rfl, hb⟩; refine ⟨_, rfl, ?_⟩; replace HB := Aside0.mk (below_step bB_ hb); (try clear hb)) | ((with_reducible refine gate_callee (f := 34) rfl ?_); refine gL_ (some 15) Tryz.func34 #[.slice A0 l0.length c0, .int .i64 (wrap64 (-t113)), .int .i64 (wrap64 (-t114))] ?_; (with_reducible refine (spec_l02Move.calls k _ _ l0 (wrap64 (-t113)) (wrap64 (-t114)) t115 _ ?side1 ?side2 A3.out).mono ?_); (case side1 => exact cS_ (Kd.C_below HR0.out HB.out)); (case side2 => exact HC0.out); rintro e w5 ⟨v116, rfl, ho0, hb⟩; refine ⟨_, rfl, ?_⟩; have HO117 := Aside0.mk (Kd.R_lower ho0 (below_size bB_)); replace HB := Aside0.mk (below_step bB_ hb); (try clear hb ho0)))
 go_ret
 exact ⟨_, r2_, rS_ HO117.out, bB_⟩

/-- A state of type 57 at block g of W; what its slices lead to came in by w0. -/
def IsS57 (w0 W : World) (g : Nat) (f0 : List Int) (f1 : Int) (f2 : Int) : Prop := ∃ A0 c0, W.heap[g]? = some (.cells #[.slice A0 f0.length c0, .int .i64 f1, .int .i64 f2] 57 (0, 0)) ∧ w0.heap.size ≤ g ∧ Kd.C (Kd.int .u8) w0 A0 f0.length f0
theorem IsS57.grown {w0 W : World} {g : Nat} {f0 : List Int} {f1 : Int} {f2 : Int} {W1 : World} {row : Option Nat} (h : IsS57 w0 W g f0 f1 f2) (hw : W.grownBy W1 row) (hne : some g ≠ row) : IsS57 w0 W1 g f0 f1 f2 := by
 obtain ⟨A0, c0, hb, hg, hr0⟩ := h
 exact ⟨A0, c0, blk_grown hb hw hne, hg, hr0⟩
theorem IsS57.own_neN {w0 W : World} {g : Nat} {f0 : List Int} {f1 : Int} {f2 : Int} {α : Type} {d : Kd α} {e : Nat} {base : Nat} {ok : Nat → Prop} {v : Value} {xs : List α} (h : IsS57 w0 W g f0 f1 f2) (ho : Kd.N d e W base ok v xs) (ht : e ≠ 57) : some g ≠ v.ownBlock := by
 obtain ⟨A0, c0, hb, hg, hr0⟩ := h
 exact Kd.N_ne ho hb ht
theorem IsS57.fresh {w0 W : World} {g : Nat} {f0 : List Int} {f1 : Int} {f2 : Int} (h : IsS57 w0 W g f0 f1 f2) : ∀ k, W.heap.size ≤ k → k ≠ g := by
 obtain ⟨A0, c0, hb, hg, hr0⟩ := h
 exact Kd.freshB hb
theorem IsS57.kept {w0 W : World} {g : Nat} {f0 : List Int} {f1 : Int} {f2 : Int} {W1 : World} {S : Nat → Prop} (h : IsS57 w0 W g f0 f1 f2) (hk : Kept W W1 S) (hne : ¬ S g) : IsS57 w0 W1 g f0 f1 f2 := by
 obtain ⟨A0, c0, hb, hg, hr0⟩ := h
 exact ⟨A0, c0, blk_kept hb hk hne, hg, hr0⟩
theorem IsS57.below {w0 W : World} {g : Nat} {f0 : List Int} {f1 : Int} {f2 : Int} {W1 : World} (h : IsS57 w0 W g f0 f1 f2) (hw : Below W.heap.size W W1) : IsS57 w0 W1 g f0 f1 f2 := h.grown (grown_of_below hw none) (by simp)
theorem IsS57.alloc {w0 W : World} {g : Nat} {f0 : List Int} {f1 : Int} {f2 : Int} (h : IsS57 w0 W g f0 f1 f2) (o : Obj) : IsS57 w0 (W.alloc o) g f0 f1 f2 := h.below (below_alloc (Below.refl _ _) o)
theorem IsS57.drewN {w0 W : World} {g : Nat} {f0 : List Int} {f1 : Int} {f2 : Int} (h : IsS57 w0 W g f0 f1 f2) (m : Nat) : IsS57 w0 (W.drewN m) g f0 f1 f2 := h
theorem IsS57.drew {w0 W : World} {g : Nat} {f0 : List Int} {f1 : Int} {f2 : Int} (h : IsS57 w0 W g f0 f1 f2) : IsS57 w0 W.drew g f0 f1 f2 := h
theorem IsS57.at_ {w0 W : World} {g : Nat} {f0 : List Int} {f1 : Int} {f2 : Int} {w' : World} {m : Nat} (hq : W.drewN m = w') (h : IsS57 w0 W g f0 f1 f2) : IsS57 w0 w' g f0 f1 f2 := by subst hq; exact IsS57.drewN h m
theorem IsS57.apart {w0 W : World} {g : Nat} {f0 : List Int} {f1 : Int} {f2 : Int} {α : Type} {d : Kd α} {e : Nat} {base : Nat} {ok : Nat → Prop} {v : Value} {xs : List α} (h : IsS57 w0 W g f0 f1 f2) (ho : d.R e W base ok v xs) (ht : ∀ q, q ∈ e :: d.E → q ≠ 57) : d.R e W base (fun k => ok k ∧ k ≠ g) v xs := by
 obtain ⟨A0, c0, hb, hg, hr0⟩ := h
 exact Kd.R_types ho hb ht
theorem IsS57.own_ne {w0 W : World} {g : Nat} {f0 : List Int} {f1 : Int} {f2 : Int} {α : Type} {d : Kd α} {e : Nat} {base : Nat} {ok : Nat → Prop} {v : Value} {xs : List α} (h : IsS57 w0 W g f0 f1 f2) (ho : d.R e W base ok v xs) (ht : e ≠ 57) : some g ≠ v.ownBlock := by
 obtain ⟨A0, c0, hb, hg, hr0⟩ := h
 exact Kd.R_ne ho hb ht
theorem IsS57.apartQ {w0 W : World} {g : Nat} {f0 : List Int} {f1 : Int} {f2 : Int} {α : Type} {d : Kd α} {e : Nat} {base : Nat} {ok : Nat → Prop} {v : Value} {xs : List α} (h : IsS57 w0 W g f0 f1 f2) (ho : d.Q e W base ok v xs) (ht : ∀ q, q ∈ e :: d.E → q ≠ 57) : d.Q e W base (fun k => ok k ∧ k ≠ g) v xs := by
 obtain ⟨A0, c0, hb, hg, hr0⟩ := h
 exact Kd.Q_types ho hb ht
theorem IsS57.own_neQ {w0 W : World} {g : Nat} {f0 : List Int} {f1 : Int} {f2 : Int} {α : Type} {d : Kd α} {e : Nat} {base : Nat} {ok : Nat → Prop} {v : Value} {xs : List α} (h : IsS57 w0 W g f0 f1 f2) (ho : d.Q e W base ok v xs) (ht : e ≠ 57) : some g ≠ v.ownBlock := by
 obtain ⟨A0, c0, hb, hg, hr0⟩ := h
 exact Kd.Q_ne ho hb ht
theorem IsS57.apartS {w0 W : World} {g : Nat} {f0 : List Int} {f1 : Int} {f2 : Int} {α : Type} {d : Kd α} {e : Nat} {base : Nat} {ok : Nat → Prop} {v : Value} {xs : List α} (h : IsS57 w0 W g f0 f1 f2) (ho : d.S e W base ok v xs) (ht : ∀ q, q ∈ e :: d.E → q ≠ 57) : d.S e W base (fun k => ok k ∧ k ≠ g) v xs := by
 obtain ⟨A0, c0, hb, hg, hr0⟩ := h
 exact Kd.S_types ho hb ht
theorem IsS57.own_neS {w0 W : World} {g : Nat} {f0 : List Int} {f1 : Int} {f2 : Int} {α : Type} {d : Kd α} {e : Nat} {base : Nat} {ok : Nat → Prop} {v : Value} {xs : List α} (h : IsS57 w0 W g f0 f1 f2) (ho : d.S e W base ok v xs) (ht : e ≠ 57) : some g ≠ v.ownBlock := by
 obtain ⟨A0, c0, hb, hg, hr0⟩ := h
 exact Kd.S_ne ho hb ht
theorem IsS57.lt {w0 W : World} {g : Nat} {f0 : List Int} {f1 : Int} {f2 : Int} (h : IsS57 w0 W g f0 f1 f2) : g < W.heap.size := by
 obtain ⟨A0, c0, hb, hg, hr0⟩ := h
 exact blk_lt hb
theorem IsS57.ge {w0 W : World} {g : Nat} {f0 : List Int} {f1 : Int} {f2 : Int} (h : IsS57 w0 W g f0 f1 f2) : w0.heap.size ≤ g := by
 obtain ⟨A0, c0, hb, hg, hr0⟩ := h
 exact hg
theorem IsS57.ne_blk {w0 W : World} {g : Nat} {f0 : List Int} {f1 : Int} {f2 : Int} {a : Nat} {cs : Array Value} {t : TypeId} {fr : Nat × Nat} (h : IsS57 w0 W g f0 f1 f2) (hb2 : W.heap[a]? = some (.cells cs t fr)) (ht : t ≠ 57) : g ≠ a := by
 obtain ⟨A0, c0, hb, hg, hr0⟩ := h
 rintro rfl
 rw [hb] at hb2
 injection hb2 with hb2
 injection hb2 with _ ht2
 exact ht ht2.symm
theorem IsS57.far {w0 W : World} {g : Nat} {f0 : List Int} {f1 : Int} {f2 : Int} {p : Addr} (h : IsS57 w0 W g f0 f1 f2) (hne : g ≠ p.block) (u : Value) : IsS57 w0 (W.setCell p u) g f0 f1 f2 := by
 obtain ⟨A0, c0, hb, hg, hr0⟩ := h
 exact ⟨A0, c0, blk_far hb hne u, hg, hr0⟩
theorem cellS57_0 {W : World} {g : Nat} {A0 : Option Addr} {c0 : Nat} {f0 : List Int} {f1 : Int} {f2 : Int} (h : W.heap[g]? = some (.cells #[.slice A0 f0.length c0, .int .i64 f1, .int .i64 f2] 57 (0, 0))) : W.cell? ⟨g, 0, none⟩ = some (.slice A0 f0.length c0) := (blk_cell h 0).trans rfl
theorem cellS57_1 {W : World} {g : Nat} {A0 : Option Addr} {c0 : Nat} {f0 : List Int} {f1 : Int} {f2 : Int} (h : W.heap[g]? = some (.cells #[.slice A0 f0.length c0, .int .i64 f1, .int .i64 f2] 57 (0, 0))) : W.cell? ⟨g, 1, none⟩ = some (.int .i64 f1) := (blk_cell h 1).trans rfl
theorem IsS57.set_1 {w0 W : World} {g : Nat} {f0 : List Int} {f1 : Int} {f2 : Int} (h : IsS57 w0 W g f0 f1 f2) (x : Int) : IsS57 w0 (W.setCell ⟨g, 1, none⟩ (.int .i64 x)) g f0 x f2 := by
 obtain ⟨A0, c0, hb, hg, hr0⟩ := h
 exact ⟨A0, c0, by simpa using blk_set hb 1 (.int .i64 x), hg, hr0⟩
theorem cellS57_2 {W : World} {g : Nat} {A0 : Option Addr} {c0 : Nat} {f0 : List Int} {f1 : Int} {f2 : Int} (h : W.heap[g]? = some (.cells #[.slice A0 f0.length c0, .int .i64 f1, .int .i64 f2] 57 (0, 0))) : W.cell? ⟨g, 2, none⟩ = some (.int .i64 f2) := (blk_cell h 2).trans rfl
theorem IsS57.set_2 {w0 W : World} {g : Nat} {f0 : List Int} {f1 : Int} {f2 : Int} (h : IsS57 w0 W g f0 f1 f2) (x : Int) : IsS57 w0 (W.setCell ⟨g, 2, none⟩ (.int .i64 x)) g f0 f1 x := by
 obtain ⟨A0, c0, hb, hg, hr0⟩ := h
 exact ⟨A0, c0, by simpa using blk_set hb 2 (.int .i64 x), hg, hr0⟩
theorem IsS57.new (w0 W : World) (A0 : Option Addr) (c0 : Nat) (f0 : List Int) (f1 : Int) (f2 : Int) (hB : Below w0.heap.size w0 W) (hr0 : Kd.C (Kd.int .u8) w0 A0 f0.length f0) : IsS57 w0 (W.alloc (.cells #[.slice A0 f0.length c0, .int .i64 f1, .int .i64 f2] 57)) W.heap.size f0 f1 f2 := ⟨A0, c0, by simpa using heap_alloc_new W _, hB.size, hr0⟩

/-! ### spec_l01Next: function 36, by hand -/
/-- the next number: what is told holds where the source's own numbers are in range -/
def spec_l01Next.f (c : List Int) (i : Int) (s : Int) (n : Int) : Option (Int × Int × Int) :=
 if n ≤ 1 then some (0, i, s)
 else if 0 ≤ s ∧ s < 2147483647 ∧ 0 ≤ i ∧ i ≤ 4611686018427387904 ∧ 0 ≤ rd c i ∧ rd c i ≤ 255 then
  (if i < (c.length : Int) then
   (if n ≤ 256 ∧ (i + 1) % 2 = 0 then some (rd c i % n, i + 1, (s * 48271 + 29) % 2147483647)
    else some (((s * 48271 + 29) % 2147483647 / 31 + rd c i) % n, i + 1, (s * 48271 + 29) % 2147483647))
   else some ((s * 48271 + 29) % 2147483647 / 31 % n, i, (s * 48271 + 29) % 2147483647))
 else none
set_option maxHeartbeats 4000000 in
set_option maxRecDepth 100000 in
theorem spec_l01Next.calls (g : Nat) (s0_0 : List Int) (s0_1 : Int) (s0_2 : Int) (a1 : Int) (r1 : Int) (r2 : Int) (r3 : Int) (w0 w : World) (hI : IsS57 w0 w g s0_0 s0_1 s0_2) (hB : Below w0.heap.size w0 w) (h : spec_l01Next.f s0_0 s0_1 s0_2 a1 = some (r1, r2, r3)) :
  Calls Tryz.prog 36 #[.pointer (some ⟨g, 0, none⟩), .int .i64 a1] w fun e w' => e = .returned (.int .i64 r1) ∧ IsS57 w0 w' g s0_0 r2 r3 ∧ Below w0.heap.size w0 w' ∧ KeepBut w w' g none := by
 have HI0 := Aside0.mk hI
 have HK := Aside0.mk (KeepBut.refl w g none)
 have HL := Aside0.mk hB.size
 have HB := Aside0.mk hB
 obtain ⟨A, c0, hblk, hg, hC⟩ := hI
 have HBK := Aside0.mk hblk
 have HG := Aside0.mk hg
 have HC := Aside0.mk hC
 have x0 : w.cell? ⟨g, 0, none⟩ = some (.slice A s0_0.length c0) := (blk_cell hblk 0).trans rfl
 have x1 : w.cell? ⟨g, 1, none⟩ = some (.int .i64 s0_1) := (blk_cell hblk 1).trans rfl
 have x2 : w.cell? ⟨g, 2, none⟩ = some (.int .i64 s0_2) := (blk_cell hblk 2).trans rfl
 have f0 := blk_frozen hblk 0
 have f1 := blk_frozen hblk 1
 have f2 := blk_frozen hblk 2
 clear hblk hg hC hB
 unfold spec_l01Next.f at h
 by_cases c1 : a1 ≤ 1
 ·rw [if_pos c1] at h
  simp only [Option.some.injEq, Prod.mk.injEq] at h
  obtain ⟨rfl, rfl, rfl⟩ := h
  go_enter Tryz.func36, Tryz.ntmps36
  go_wp2
  go_ret
  exact ⟨rfl, HI0.out, HB.out, HK.out⟩
 rw [if_neg c1] at h
 have z1 : (a1 == 0) = false := beq_eq_false_iff_ne.mpr (by omega)
 have z2 : 1 < a1 := by omega
 by_cases c2 : 0 ≤ s0_2 ∧ s0_2 < 2147483647 ∧ 0 ≤ s0_1 ∧ s0_1 ≤ 4611686018427387904 ∧ 0 ≤ rd s0_0 s0_1 ∧ rd s0_0 s0_1 ≤ 255
 ·rw [if_pos c2] at h
  obtain ⟨b1, b2, b3, b4, b5, b6⟩ := c2
  by_cases c3 : s0_1 < (s0_0.length : Int)
  ·rw [if_pos c3] at h
   obtain ⟨ad, e1, hx⟩ := Kd.at_int HC.out s0_1 b3 c3
   cases e1
   have hlt : ad.block < w0.heap.size := by
    have := World.block_lt_of_cell? w0 _ hx
    rwa [add_block] at this
   have hne : (ad.add s0_1.toNat).block ≠ g := by rw [add_block]; have := HG.out; omega
   replace hx := (HB.out.cell (World.block_lt_of_cell? w0 _ hx)).trans hx
   have hx1 : ∀ u, (w.setCell ⟨g, 2, none⟩ u).cell? (ad.add s0_1.toNat) = some (.int .u8 (rd s0_0 s0_1)) := fun u => (cell_far (p := ⟨g, 2, none⟩) hne u).trans hx
   have hx2 : ∀ u n v, (((w.setCell ⟨g, 2, none⟩ u).drewN n).setCell ⟨g, 1, none⟩ v).cell? (ad.add s0_1.toNat) = some (.int .u8 (rd s0_0 s0_1)) := fun u n v => (cell_far (p := ⟨g, 1, none⟩) hne v).trans (hx1 u)
   have q1 : decide (s0_1 < (s0_0.length : Int)) = true := decide_eq_true c3
   clear hlt hne
   by_cases c4 : a1 ≤ 256 ∧ (s0_1 + 1) % 2 = 0
   ·rw [if_pos c4] at h
    simp only [Option.some.injEq, Prod.mk.injEq] at h
    obtain ⟨rfl, rfl, rfl⟩ := h
    obtain ⟨c5, c6⟩ := c4
    have q2 : ((s0_1 + 1) % 2 == 0) = true := beq_iff_eq.mpr c6
    clear c6
    go_enter Tryz.func36, Tryz.ntmps36
    go_wp2
    go_quiet (fail)
    go_wp2
    go_quiet (fail)
    go_wp2
    go_quiet (fail)
    go_wp2
    go_ret
    refine ⟨rfl, by repeat (first | (with_reducible first | exact HI0.out | apply IsS57.drewN | refine IsS57.set_1 (f1 := s0_1) ?_ _ | refine IsS57.set_2 (f2 := s0_2) ?_ _) | exact HI0.out), by repeat (first | (with_reducible first | exact HB.out | apply pw_below_drewN | refine below_set ?_ HG.out) | exact HB.out), by repeat (first | (with_reducible first | exact HK.out | apply keep_drewN | refine KeepBut.set_ ?_ _ _) | exact HK.out)⟩
   ·rw [if_neg c4] at h
    simp only [Option.some.injEq, Prod.mk.injEq] at h
    obtain ⟨rfl, rfl, rfl⟩ := h
    by_cases c5 : a1 ≤ 256
    ·have c6 : ¬ (s0_1 + 1) % 2 = 0 := fun z => c4 ⟨c5, z⟩
     have q2 : ((s0_1 + 1) % 2 == 0) = false := beq_eq_false_iff_ne.mpr c6
     clear c6 c4
     go_enter Tryz.func36, Tryz.ntmps36
     go_wp2
     repeat (go_quiet (fail); try go_wp2)
     try go_wp2
     go_ret
     refine ⟨rfl, by repeat (first | (with_reducible first | exact HI0.out | apply IsS57.drewN | refine IsS57.set_1 (f1 := s0_1) ?_ _ | refine IsS57.set_2 (f2 := s0_2) ?_ _) | exact HI0.out), by repeat (first | (with_reducible first | exact HB.out | apply pw_below_drewN | refine below_set ?_ HG.out) | exact HB.out), by repeat (first | (with_reducible first | exact HK.out | apply keep_drewN | refine KeepBut.set_ ?_ _ _) | exact HK.out)⟩
    ·have q3 : decide (a1 ≤ 256) = false := decide_eq_false c5
     clear c4
     go_enter Tryz.func36, Tryz.ntmps36
     go_wp2
     repeat (go_quiet (fail); try go_wp2)
     try go_wp2
     go_ret
     refine ⟨rfl, by repeat (first | (with_reducible first | exact HI0.out | apply IsS57.drewN | refine IsS57.set_1 (f1 := s0_1) ?_ _ | refine IsS57.set_2 (f2 := s0_2) ?_ _) | exact HI0.out), by repeat (first | (with_reducible first | exact HB.out | apply pw_below_drewN | refine below_set ?_ HG.out) | exact HB.out), by repeat (first | (with_reducible first | exact HK.out | apply keep_drewN | refine KeepBut.set_ ?_ _ _) | exact HK.out)⟩
  ·rw [if_neg c3] at h
   simp only [Option.some.injEq, Prod.mk.injEq] at h
   obtain ⟨rfl, rfl, rfl⟩ := h
   have q1 : decide (s0_1 < (s0_0.length : Int)) = false := decide_eq_false c3
   go_enter Tryz.func36, Tryz.ntmps36
   go_wp2
   repeat (go_quiet (fail); try go_wp2)
   try go_wp2
   go_ret
   refine ⟨rfl, by repeat (first | (with_reducible first | exact HI0.out | apply IsS57.drewN | refine IsS57.set_1 (f1 := s0_1) ?_ _ | refine IsS57.set_2 (f2 := s0_2) ?_ _) | exact HI0.out), by repeat (first | (with_reducible first | exact HB.out | apply pw_below_drewN | refine below_set ?_ HG.out) | exact HB.out), by repeat (first | (with_reducible first | exact HK.out | apply keep_drewN | refine KeepBut.set_ ?_ _ _) | exact HK.out)⟩
 ·rw [if_neg c2] at h; cases h

/-! ### spec_l02Around: function 50 -/
def spec_l02Around.f (a0_0 : Int) (a0_1 : Int) : Option ((List (S39))) := some (([(⟨a0_0, wrap64 (a0_1 - 1)⟩ : S39), (⟨wrap64 (a0_0 - 1), a0_1⟩ : S39), (⟨wrap64 (a0_0 + 1), a0_1⟩ : S39), (⟨a0_0, wrap64 (a0_1 + 1)⟩ : S39)] : List (S39)))
set_option maxHeartbeats 8000000 in
set_option maxRecDepth 100000 in
theorem spec_l02Around.calls (a0_0 : Int) (a0_1 : Int) (r : List (S39)) (w : World) (h : spec_l02Around.f a0_0 a0_1 = some r) :
  Calls Tryz.prog 50 #[.agg #[.int .i64 a0_0, .int .i64 a0_1]] w fun e w' => ∃ v0_ : Value, e = .returned (v0_) ∧ Kd.R k39 39 w' w.heap.size (fun _ => True) v0_ r ∧ Below w.heap.size w w' := by
 have hu39 := Tryz.underlying39
 have HB := Aside0.mk (Below.refl w.heap.size w)
 have H : (some (([(⟨a0_0, wrap64 (a0_1 - 1)⟩ : S39), (⟨wrap64 (a0_0 - 1), a0_1⟩ : S39), (⟨wrap64 (a0_0 + 1), a0_1⟩ : S39), (⟨a0_0, wrap64 (a0_1 + 1)⟩ : S39)] : List (S39)))) = some r := h
 clear h
 obtain ⟨y119, hY_⟩ : ∃ y_ : List (S39), y_ = (([(⟨a0_0, wrap64 (a0_1 - 1)⟩ : S39), (⟨wrap64 (a0_0 - 1), a0_1⟩ : S39), (⟨wrap64 (a0_0 + 1), a0_1⟩ : S39), (⟨a0_0, wrap64 (a0_1 + 1)⟩ : S39)] : List (S39))) := ⟨_, rfl⟩
 replace H : (some y119) = some r := yY_
 have Ny119 := Aside0.mk hY_
 clear hY_
 obtain rfl := Option.some.inj H
 go_enter Tryz.func50, Tryz.ntmps50
 go_wp2_with (first | ((with_reducible refine gate_dst (N := 1) rfl ?_); refine box_event ?hg (N := 1) ?hd (cs := #[.int .i64 a0_0, .int .i64 a0_1]) (t := 39) ?hr ?_; (case hd => rfl); (case hg => rfl); (case hr => first | (go_simp; done) | (go_simp; rfl)); intro gb118 hg w2 hbox hb; have BK118 := Aside0.mk (hbox); have GW118 := Aside0.mk ((by rw [hg]; exact (below_size bB_) : w.heap.size ≤ gb118)); have GE118 := Aside0.mk ((by rw [hg]; exact (below_size bB_) : w.heap.size ≤ gb118)); replace HB := Aside0.mk (below_step bB_ hb); clear hb hbox hg; have hcz3_0 : w2.cell? ⟨gb118, 0, none⟩ = some (.int .i64 a0_0) := (blk_cell BK118.out 0).trans rfl; have hcz3_1 : w2.cell? ⟨gb118, 1, none⟩ = some (.int .i64 a0_1) := (blk_cell BK118.out 1).trans rfl; have hfz3_0 := blk_frozen BK118.out 0; have hfz3_1 := blk_frozen BK118.out 1) | ((with_reducible refine gate_dst (N := 27) rfl ?_); refine Kd.R_lit k39 _ 39 ?hg (N := 27) ?hd (xs := ([(⟨a0_0, wrap64 (a0_1 - 1)⟩ : S39), (⟨wrap64 (a0_0 - 1), a0_1⟩ : S39), (⟨wrap64 (a0_0 + 1), a0_1⟩ : S39), (⟨a0_0, wrap64 (a0_1 + 1)⟩ : S39)] : List (S39))) (inner := [.int .i64 a0_0, .int .i64 (wrap64 (a0_1 - 1)), .int .i64 (wrap64 (a0_0 - 1)), .int .i64 a0_1, .int .i64 (wrap64 (a0_0 + 1)), .int .i64 a0_1, .int .i64 a0_0, .int .i64 (wrap64 (a0_1 + 1))]) (ok := fun _ => True) (okp := fun _ => True) ?hr ?hp (fun _ hk => hk) trivial (Below.refl _ _) (Nat.le_refl _) (by simp) ?_; (case hd => rfl); (case hg => rfl); (case hr => first | (go_simp; done) | (go_simp; rfl)); (case hp => exact (Reps.c2 (show Kd.M k39 _ _ _ (⟨a0_0, wrap64 (a0_1 - 1)⟩ : S39) [.int .i64 a0_0, .int .i64 (wrap64 (a0_1 - 1))] from (k39_mkM _ _ _ (⟨a0_0, wrap64 (a0_1 - 1)⟩ : S39) )) (Reps.c2 (show Kd.M k39 _ _ _ (⟨wrap64 (a0_0 - 1), a0_1⟩ : S39) [.int .i64 (wrap64 (a0_0 - 1)), .int .i64 a0_1] from (k39_mkM _ _ _ (⟨wrap64 (a0_0 - 1), a0_1⟩ : S39) )) (Reps.c2 (show Kd.M k39 _ _ _ (⟨wrap64 (a0_0 + 1), a0_1⟩ : S39) [.int .i64 (wrap64 (a0_0 + 1)), .int .i64 a0_1] from (k39_mkM _ _ _ (⟨wrap64 (a0_0 + 1), a0_1⟩ : S39) )) (Reps.c2 (show Kd.M k39 _ _ _ (⟨a0_0, wrap64 (a0_1 + 1)⟩ : S39) [.int .i64 a0_0, .int .i64 (wrap64 (a0_1 + 1))] from (k39_mkM _ _ _ (⟨a0_0, wrap64 (a0_1 + 1)⟩ : S39) )) (Reps.none _ _)))))); intro v120 w4 ho5 hb hg_ hnew_; clear hg_ hnew_; (first | rw [← Ny119.out] at ho5 | (simp only [Int.reduceToNat] at ho5; rw [← Ny119.out] at ho5)); have HO121 := Aside0.mk (Kd.R_lower (Kd.R_newB ho5 (g := gb118) (o := .cells #[.int .i64 a0_0, .int .i64 a0_1] 39 (0, 0)) (by (with_reducible repeat (first | refine blk_drewN ?_ _ | refine blk_drew ?_ | refine blk_alloc ?_ _)); exact BK118.out)) (below_size (by repeat (first | (with_reducible first | exact HB.out | apply below_alloc | apply pw_below_drewN | apply below_drew1 | refine below_set ?_ GE118.out) | exact HB.out)))); replace BK118 := Aside0.mk (blk_below (g := gb118) (o := .cells #[.int .i64 a0_0, .int .i64 a0_1] 39 (0, 0)) (by (with_reducible repeat (first | refine blk_drewN ?_ _ | refine blk_drew ?_ | refine blk_alloc ?_ _)); exact BK118.out) hb); replace HB := Aside0.mk (below_step (by repeat (first | (with_reducible first | exact HB.out | apply below_alloc | apply pw_below_drewN | apply below_drew1 | refine below_set ?_ GE118.out) | exact HB.out)) hb); clear hb ho5))
 go_ret
 exact ⟨_, r2_, rS_ (Kd.R_mono HO121.out (fun _ hk => trivial)), by repeat (first | (with_reducible first | exact HB.out | apply below_alloc | apply pw_below_drewN | apply below_drew1 | refine below_set ?_ GE118.out) | exact HB.out)⟩

/-! ### spec_l02Index: function 51 -/
def spec_l02Index.l0 : Nat → List (S39) → Int → Int → Int → Option (Int)
 | 0, _, _, _, _ => none
 | k + 1, x0, x5, x123000, x123001 => if x5 < (x0.length : Int) then (if 0 ≤ x5 then (if (((rd_T39 x0 x5).f0) == x123000 && (((rd_T39 x0 x5).f1) == x123001)) = true then (some x5) else (spec_l02Index.l0 k x0 (wrap64 (x5 + 1)) x123000 x123001)) else (none)) else (some (-1))
def spec_l02Index.f (k : Nat) (l0 : List (S39)) (a1_0 : Int) (a1_1 : Int) : Option (Int) := spec_l02Index.l0 k l0 0 a1_0 a1_1
theorem spec_l02Index.mono_l : ∀ k, (∀ y0 y1 y2 y3, LeO (spec_l02Index.l0 k y0 y1 y2 y3) (spec_l02Index.l0 (k + 1) y0 y1 y2 y3))
 | 0 => fun _ _ _ _ r h => by simp [spec_l02Index.l0] at h
 | k + 1 => by
  have ih0 := spec_l02Index.mono_l k
  ·intro y0 y1 y2 y3
   unfold spec_l02Index.l0
   repeat' first
   | (with_reducible exact ih0 _ _ _ _)
   | (with_reducible exact LeO.refl _)
   | (with_reducible exact LeO.none _)
   | (with_reducible refine LeO.ite ?_ ?_)
   | (with_reducible refine LeO.bind ?_ (fun _ => ?_))
   | exact ih0 _ _ _ _
   | exact LeO.none _
   | refine LeO.ite ?_ ?_
   | refine LeO.bind ?_ (fun _ => ?_)
theorem spec_l02Index.mono : ∀ a0 a1 a2 k, LeO (spec_l02Index.f k a0 a1 a2) (spec_l02Index.f (k + 1) a0 a1 a2) := by
 intro a0 a1 a2 k
 have ih0 := spec_l02Index.mono_l k
 unfold spec_l02Index.f
 repeat' first
   | (with_reducible exact ih0 _ _ _ _)
   | (with_reducible exact LeO.refl _)
   | (with_reducible exact LeO.none _)
   | (with_reducible refine LeO.ite ?_ ?_)
   | (with_reducible refine LeO.bind ?_ (fun _ => ?_))
   | exact ih0 _ _ _ _
   | exact LeO.none _
   | refine LeO.ite ?_ ?_
   | refine LeO.bind ?_ (fun _ => ?_)
set_option maxHeartbeats 8000000 in
set_option maxRecDepth 100000 in
theorem spec_l02Index.calls (k : Nat) (A0 : Option Addr) (c0 : Nat) (l0 : List (S39)) (a1_0 : Int) (a1_1 : Int) (r : Int) (w : World) (hr0 : Kd.C k39 w A0 l0.length l0) (hc0 : l0.length ≤ c0) (h : spec_l02Index.f k l0 a1_0 a1_1 = some r) :
  Calls Tryz.prog 51 #[.slice A0 l0.length c0, .agg #[.int .i64 a1_0, .int .i64 a1_1]] w fun e w' => e = .returned (.int .i64 r) ∧ Below w.heap.size w w' := by
 have hu39 := Tryz.underlying39
 have HR0 := Aside0.mk hr0
 have HC0 := Aside0.mk hc0
 clear hr0 hc0
 have HB := Aside0.mk (Below.refl w.heap.size w)
 have H : (spec_l02Index.l0 k l0 0 a1_0 a1_1) = some r := h
 clear h
 have H' := Aside0.mk H
 clear H
 go_enter Tryz.func51, Tryz.ntmps51
 go_wp2_with (first | ((with_reducible refine gate_dst (N := 3) rfl ?_); refine box_event ?hg (N := 3) ?hd (cs := #[.int .i64 a1_0, .int .i64 a1_1]) (t := 39) ?hr ?_; (case hd => rfl); (case hg => rfl); (case hr => first | (go_simp; done) | (go_simp; rfl)); intro gb122 hg w3 hbox hb; have BK122 := Aside0.mk (hbox); have GW122 := Aside0.mk ((by rw [hg]; exact (below_size bB_) : w.heap.size ≤ gb122)); have GE122 := Aside0.mk ((by rw [hg]; exact (below_size bB_) : w.heap.size ≤ gb122)); replace HB := Aside0.mk (below_step bB_ hb); clear hb hbox hg))
 repeat (go_quiet (first | ((with_reducible refine gate_dst (N := 3) rfl ?_); refine box_event ?hg (N := 3) ?hd (cs := #[.int .i64 a1_0, .int .i64 a1_1]) (t := 39) ?hr ?_; (case hd => rfl); (case hg => rfl); (case hr => first | (go_simp; done) | (go_simp; rfl)); intro gb122 hg w3 hbox hb; have BK122 := Aside0.mk (hbox); have GW122 := Aside0.mk ((by rw [hg]; exact (below_size bB_) : w.heap.size ≤ gb122)); have GE122 := Aside0.mk ((by rw [hg]; exact (below_size bB_) : w.heap.size ≤ gb122)); replace HB := Aside0.mk (below_step bB_ hb); clear hb hbox hg)); try go_wp2_with (first | ((with_reducible refine gate_dst (N := 3) rfl ?_); refine box_event ?hg (N := 3) ?hd (cs := #[.int .i64 a1_0, .int .i64 a1_1]) (t := 39) ?hr ?_; (case hd => rfl); (case hg => rfl); (case hr => first | (go_simp; done) | (go_simp; rfl)); intro gb122 hg w3 hbox hb; have BK122 := Aside0.mk (hbox); have GW122 := Aside0.mk ((by rw [hg]; exact (below_size bB_) : w.heap.size ≤ gb122)); have GE122 := Aside0.mk ((by rw [hg]; exact (below_size bB_) : w.heap.size ≤ gb122)); replace HB := Aside0.mk (below_step bB_ hb); clear hb hbox hg)))
 go_loopg [5] k (fun kq v5 w' => ∃ (x5_1 : Int), v5 = .int .i64 x5_1 ∧ Aside0 (spec_l02Index.l0 kq l0 x5_1 a1_0 a1_1 = some r) ∧ Aside0 (kq ≤ k) ∧ Aside0 (w'.heap[gb122]? = some (.cells #[.int .i64 a1_0, .int .i64 a1_1] 39 (0, 0))) ∧ Aside0 (Below w.heap.size w w'))
 case atStart => exact ⟨(0), r3_, H', ⟨Nat.le_refl _⟩, ⟨by (with_reducible repeat (first | refine blk_drewN ?_ _ | refine blk_drew ?_ | refine blk_alloc ?_ _)); exact BK122.out⟩, ⟨by repeat (first | (with_reducible first | exact HB.out | apply below_alloc | apply pw_below_drewN | apply below_drew1 | refine below_set ?_ GE122.out) | exact HB.out)⟩⟩
 case round =>
  clear H'
  try clear p2
  obtain ⟨x5_1, rfl, HA, HK1, BK122, HB⟩ := hrel
  cases gk with
  | zero => exact absurd HA.out (by simp [spec_l02Index.l0])
  | succ k1 =>
   have H := HA.out
   clear HA
   simp only [spec_l02Index.l0] at H
   by_cases c4 : x5_1 < (l0.length : Int)
   ·rw [if_pos c4] at H
    have c4b0 : decide (x5_1 < (l0.length : Int)) = true := decide_eq_true c4
    clear c4
    by_cases c5 : 0 ≤ x5_1
    ·rw [if_pos c5] at H
     have c5b0 : decide (0 ≤ x5_1) = true := decide_eq_true c5
     clear c5
     by_cases c6 : (((rd_T39 l0 x5_1).f0) == a1_0 && (((rd_T39 l0 x5_1).f1) == a1_1)) = true
     ·rw [if_pos c6] at H
      have c6b0 : (((rd_T39 l0 x5_1).f0) == a1_0 && (((rd_T39 l0 x5_1).f1) == a1_1)) = true := c6
      (try (have c6b1 : decide (((rd_T39 l0 x5_1).f0) = a1_0 && (((rd_T39 l0 x5_1).f1) == a1_1)) = true := by simpa using c6))
      (try (have c6b2 : (((rd_T39 l0 x5_1).f0) == a1_0 && (((rd_T39 l0 x5_1).f1) == a1_1)) = true := by simpa using c6))
      clear c6
      obtain rfl := Option.some.inj H
      have p123 : 0 ≤ (x5_1 : Int) := of_decide_eq_true aS_
      have q123 : x5_1 < (l0.length : Int) := of_decide_eq_true aS_
      obtain ⟨ad123, e123, hx123_0, hx123_1⟩ := at_T39 HR0.out x5_1 p123 q123
      cases e123
      replace hx123_0 := (HB.out.cell (World.block_lt_of_cell? w _ hx123_0)).trans hx123_0
      replace hx123_1 := (HB.out.cell (World.block_lt_of_cell? w _ hx123_1)).trans hx123_1
      replace p123 := eq_true p123
      replace q123 := eq_true q123
      have hcz7_0 : wr.cell? ⟨gb122, 0, none⟩ = some (.int .i64 a1_0) := (blk_cell BK122.out 0).trans rfl
      have hcz7_1 : wr.cell? ⟨gb122, 1, none⟩ = some (.int .i64 a1_1) := (blk_cell BK122.out 1).trans rfl
      have hfz7_0 := blk_frozen BK122.out 0
      have hfz7_1 := blk_frozen BK122.out 1
      go_wp2
      repeat (go_quiet (fail); try go_wp2)
      go_ret
      exact ⟨r2_, by repeat (first | (with_reducible first | exact HB.out | apply below_alloc | apply pw_below_drewN | apply below_drew1 | refine below_set ?_ GE122.out) | exact HB.out)⟩
     ·rw [if_neg c6] at H
      have c6b0 : (((rd_T39 l0 x5_1).f0) == a1_0 && (((rd_T39 l0 x5_1).f1) == a1_1)) = false := by simpa using c6
      (try (have c6b1 : decide (((rd_T39 l0 x5_1).f0) = a1_0 && (((rd_T39 l0 x5_1).f1) == a1_1)) = false := by simpa using c6))
      (try (have c6b2 : (((rd_T39 l0 x5_1).f0) == a1_0 && (((rd_T39 l0 x5_1).f1) == a1_1)) = false := by simpa using c6))
      (try (have c6b3 : ¬ (((rd_T39 l0 x5_1).f0) = a1_0 && (((rd_T39 l0 x5_1).f1) == a1_1)) := by simpa using c6))
      clear c6
      have H' := Aside0.mk H
      clear H
      have p123 : 0 ≤ (x5_1 : Int) := of_decide_eq_true aS_
      have q123 : x5_1 < (l0.length : Int) := of_decide_eq_true aS_
      obtain ⟨ad123, e123, hx123_0, hx123_1⟩ := at_T39 HR0.out x5_1 p123 q123
      cases e123
      replace hx123_0 := (HB.out.cell (World.block_lt_of_cell? w _ hx123_0)).trans hx123_0
      replace hx123_1 := (HB.out.cell (World.block_lt_of_cell? w _ hx123_1)).trans hx123_1
      replace p123 := eq_true p123
      replace q123 := eq_true q123
      have hcz8_0 : wr.cell? ⟨gb122, 0, none⟩ = some (.int .i64 a1_0) := (blk_cell BK122.out 0).trans rfl
      have hcz8_1 : wr.cell? ⟨gb122, 1, none⟩ = some (.int .i64 a1_1) := (blk_cell BK122.out 1).trans rfl
      have hfz8_0 := blk_frozen BK122.out 0
      have hfz8_1 := blk_frozen BK122.out 1
      go_wp2
      repeat (go_quiet (fail); try go_wp2)
      go_roundg k1
      case measure => have := HK1.out; omega
      case rel => exact ⟨(wrap64 (x5_1 + 1)), r3_, H', ⟨by have := HK1.out; omega⟩, ⟨by (with_reducible repeat (first | refine blk_drewN ?_ _ | refine blk_drew ?_ | refine blk_alloc ?_ _)); exact BK122.out⟩, ⟨by repeat (first | (with_reducible first | exact HB.out | apply below_alloc | apply pw_below_drewN | apply below_drew1 | refine below_set ?_ GE122.out) | exact HB.out)⟩⟩
    ·rw [if_neg c5] at H
     exact absurd H (by simp)
   ·rw [if_neg c4] at H
    have c4b0 : decide (x5_1 < (l0.length : Int)) = false := decide_eq_false c4
    clear c4
    obtain rfl := Option.some.inj H
    go_wp2
    repeat (go_quiet (fail); try go_wp2)
    go_ret
    exact ⟨r2_, by repeat (first | (with_reducible first | exact HB.out | apply below_alloc | apply pw_below_drewN | apply below_drew1 | refine below_set ?_ GE122.out) | exact HB.out)⟩

/-! ### spec_l02Less: function 66 -/
def spec_l02Less.f (a0_0 : Int) (a0_1 : Int) (a1_0 : Int) (a1_1 : Int) : Option (Bool) := if a0_1 < a1_1 then (some true) else (if a0_1 = a1_1 then (some (decide (a0_0 < a1_0))) else (some false))
set_option maxHeartbeats 8000000 in
set_option maxRecDepth 100000 in
theorem spec_l02Less.calls (a0_0 : Int) (a0_1 : Int) (a1_0 : Int) (a1_1 : Int) (r : Bool) (w : World) (h : spec_l02Less.f a0_0 a0_1 a1_0 a1_1 = some r) :
  Calls Tryz.prog 66 #[.agg #[.int .i64 a0_0, .int .i64 a0_1], .agg #[.int .i64 a1_0, .int .i64 a1_1]] w fun e w' => e = .returned (.bool r) ∧ Below w.heap.size w w' := by
 have hu39 := Tryz.underlying39
 have HB := Aside0.mk (Below.refl w.heap.size w)
 have H : (if a0_1 < a1_1 then (some true) else (if a0_1 = a1_1 then (some (decide (a0_0 < a1_0))) else (some false))) = some r := h
 clear h
 by_cases c3 : a0_1 < a1_1
 ·rw [if_pos c3] at H
  have c3b0 : decide (a0_1 < a1_1) = true := decide_eq_true c3
  clear c3
  obtain rfl := Option.some.inj H
  go_enter Tryz.func66, Tryz.ntmps66
  go_wp2_with (first | ((with_reducible refine gate_dst (N := 2) rfl ?_); refine box_event ?hg (N := 2) ?hd (cs := #[.int .i64 a0_0, .int .i64 a0_1]) (t := 39) ?hr ?_; (case hd => rfl); (case hg => rfl); (case hr => first | (go_simp; done) | (go_simp; rfl)); intro gb124 hg w4 hbox hb; have BK124 := Aside0.mk (hbox); have GW124 := Aside0.mk ((by rw [hg]; exact (below_size bB_) : w.heap.size ≤ gb124)); have GE124 := Aside0.mk ((by rw [hg]; exact (below_size bB_) : w.heap.size ≤ gb124)); replace HB := Aside0.mk (below_step bB_ hb); clear hb hbox hg) | ((with_reducible refine gate_dst (N := 3) rfl ?_); refine box_event ?hg (N := 3) ?hd (cs := #[.int .i64 a1_0, .int .i64 a1_1]) (t := 39) ?hr ?_; (case hd => rfl); (case hg => rfl); (case hr => first | (go_simp; done) | (go_simp; rfl)); intro gb125 hg w5 hbox hb; have BK125 := Aside0.mk (hbox); have GW125 := Aside0.mk ((by rw [hg]; exact (below_size (by repeat (first | (with_reducible first | exact HB.out | apply below_alloc | apply pw_below_drewN | apply below_drew1 | refine below_set ?_ GE124.out) | exact HB.out))) : w.heap.size ≤ gb125)); have GE125 := Aside0.mk ((by rw [hg]; exact (below_size (by repeat (first | (with_reducible first | exact HB.out | apply below_alloc | apply pw_below_drewN | apply below_drew1 | refine below_set ?_ GE124.out) | exact HB.out))) : w.heap.size ≤ gb125)); replace HB := Aside0.mk (below_step (by repeat (first | (with_reducible first | exact HB.out | apply below_alloc | apply pw_below_drewN | apply below_drew1 | refine below_set ?_ GE124.out) | exact HB.out)) hb); have NB124_125 := Aside0.mk ((by rw [hg]; exact Nat.ne_of_lt (blk_lt (g := gb124) (o := .cells #[.int .i64 a0_0, .int .i64 a0_1] 39 (0, 0)) (by (with_reducible repeat (first | refine blk_drewN ?_ _ | refine blk_drew ?_ | refine blk_alloc ?_ _)); exact BK124.out)) : gb124 ≠ gb125)); have NB125_124 := Aside0.mk ((by rw [hg]; exact Nat.ne_of_gt (blk_lt (g := gb124) (o := .cells #[.int .i64 a0_0, .int .i64 a0_1] 39 (0, 0)) (by (with_reducible repeat (first | refine blk_drewN ?_ _ | refine blk_drew ?_ | refine blk_alloc ?_ _)); exact BK124.out)) : gb125 ≠ gb124)); replace BK124 := Aside0.mk (blk_below (g := gb124) (o := .cells #[.int .i64 a0_0, .int .i64 a0_1] 39 (0, 0)) (by (with_reducible repeat (first | refine blk_drewN ?_ _ | refine blk_drew ?_ | refine blk_alloc ?_ _)); exact BK124.out) hb); clear hb hbox hg; have hnb6 := NB124_125.out; have hnc6 := NB125_124.out; have hcz7_0 : w5.cell? ⟨gb124, 0, none⟩ = some (.int .i64 a0_0) := (blk_cell BK124.out 0).trans rfl; have hcz7_1 : w5.cell? ⟨gb124, 1, none⟩ = some (.int .i64 a0_1) := (blk_cell BK124.out 1).trans rfl; have hfz7_0 := blk_frozen BK124.out 0; have hfz7_1 := blk_frozen BK124.out 1; have hcz8_0 : w5.cell? ⟨gb125, 0, none⟩ = some (.int .i64 a1_0) := (blk_cell BK125.out 0).trans rfl; have hcz8_1 : w5.cell? ⟨gb125, 1, none⟩ = some (.int .i64 a1_1) := (blk_cell BK125.out 1).trans rfl; have hfz8_0 := blk_frozen BK125.out 0; have hfz8_1 := blk_frozen BK125.out 1))
  go_ret
  exact ⟨r2_, by repeat (first | (with_reducible first | exact HB.out | apply below_alloc | apply pw_below_drewN | apply below_drew1 | refine below_set ?_ GE124.out | refine below_set ?_ GE125.out) | exact HB.out)⟩
 ·rw [if_neg c3] at H
  have c3b0 : decide (a0_1 < a1_1) = false := decide_eq_false c3
  clear c3
  by_cases c9 : a0_1 = a1_1
  ·rw [if_pos c9] at H
   have c9b0 : (a0_1 == a1_1) = true := beq_iff_eq.mpr c9
   have c9b1 : (a0_1 != a1_1) = false := bne_eq_false_iff_eq.mpr c9
   clear c9
   obtain rfl := Option.some.inj H
   go_enter Tryz.func66, Tryz.ntmps66
   go_wp2_with (first | ((with_reducible refine gate_dst (N := 2) rfl ?_); refine box_event ?hg (N := 2) ?hd (cs := #[.int .i64 a0_0, .int .i64 a0_1]) (t := 39) ?hr ?_; (case hd => rfl); (case hg => rfl); (case hr => first | (go_simp; done) | (go_simp; rfl)); intro gb124 hg w10 hbox hb; have BK124 := Aside0.mk (hbox); have GW124 := Aside0.mk ((by rw [hg]; exact (below_size bB_) : w.heap.size ≤ gb124)); have GE124 := Aside0.mk ((by rw [hg]; exact (below_size bB_) : w.heap.size ≤ gb124)); replace HB := Aside0.mk (below_step bB_ hb); clear hb hbox hg) | ((with_reducible refine gate_dst (N := 3) rfl ?_); refine box_event ?hg (N := 3) ?hd (cs := #[.int .i64 a1_0, .int .i64 a1_1]) (t := 39) ?hr ?_; (case hd => rfl); (case hg => rfl); (case hr => first | (go_simp; done) | (go_simp; rfl)); intro gb125 hg w11 hbox hb; have BK125 := Aside0.mk (hbox); have GW125 := Aside0.mk ((by rw [hg]; exact (below_size (by repeat (first | (with_reducible first | exact HB.out | apply below_alloc | apply pw_below_drewN | apply below_drew1 | refine below_set ?_ GE124.out) | exact HB.out))) : w.heap.size ≤ gb125)); have GE125 := Aside0.mk ((by rw [hg]; exact (below_size (by repeat (first | (with_reducible first | exact HB.out | apply below_alloc | apply pw_below_drewN | apply below_drew1 | refine below_set ?_ GE124.out) | exact HB.out))) : w.heap.size ≤ gb125)); replace HB := Aside0.mk (below_step (by repeat (first | (with_reducible first | exact HB.out | apply below_alloc | apply pw_below_drewN | apply below_drew1 | refine below_set ?_ GE124.out) | exact HB.out)) hb); have NB124_125 := Aside0.mk ((by rw [hg]; exact Nat.ne_of_lt (blk_lt (g := gb124) (o := .cells #[.int .i64 a0_0, .int .i64 a0_1] 39 (0, 0)) (by (with_reducible repeat (first | refine blk_drewN ?_ _ | refine blk_drew ?_ | refine blk_alloc ?_ _)); exact BK124.out)) : gb124 ≠ gb125)); have NB125_124 := Aside0.mk ((by rw [hg]; exact Nat.ne_of_gt (blk_lt (g := gb124) (o := .cells #[.int .i64 a0_0, .int .i64 a0_1] 39 (0, 0)) (by (with_reducible repeat (first | refine blk_drewN ?_ _ | refine blk_drew ?_ | refine blk_alloc ?_ _)); exact BK124.out)) : gb125 ≠ gb124)); replace BK124 := Aside0.mk (blk_below (g := gb124) (o := .cells #[.int .i64 a0_0, .int .i64 a0_1] 39 (0, 0)) (by (with_reducible repeat (first | refine blk_drewN ?_ _ | refine blk_drew ?_ | refine blk_alloc ?_ _)); exact BK124.out) hb); clear hb hbox hg; have hnb12 := NB124_125.out; have hnc12 := NB125_124.out; have hcz13_0 : w11.cell? ⟨gb124, 0, none⟩ = some (.int .i64 a0_0) := (blk_cell BK124.out 0).trans rfl; have hcz13_1 : w11.cell? ⟨gb124, 1, none⟩ = some (.int .i64 a0_1) := (blk_cell BK124.out 1).trans rfl; have hfz13_0 := blk_frozen BK124.out 0; have hfz13_1 := blk_frozen BK124.out 1; have hcz14_0 : w11.cell? ⟨gb125, 0, none⟩ = some (.int .i64 a1_0) := (blk_cell BK125.out 0).trans rfl; have hcz14_1 : w11.cell? ⟨gb125, 1, none⟩ = some (.int .i64 a1_1) := (blk_cell BK125.out 1).trans rfl; have hfz14_0 := blk_frozen BK125.out 0; have hfz14_1 := blk_frozen BK125.out 1))
   go_ret
   exact ⟨r2_, by repeat (first | (with_reducible first | exact HB.out | apply below_alloc | apply pw_below_drewN | apply below_drew1 | refine below_set ?_ GE124.out | refine below_set ?_ GE125.out) | exact HB.out)⟩
  ·rw [if_neg c9] at H
   have c9b0 : (a0_1 == a1_1) = false := beq_eq_false_iff_ne.mpr c9
   have c9b1 : (a0_1 != a1_1) = true := bne_iff_ne.mpr c9
   obtain rfl := Option.some.inj H
   go_enter Tryz.func66, Tryz.ntmps66
   go_wp2_with (first | ((with_reducible refine gate_dst (N := 2) rfl ?_); refine box_event ?hg (N := 2) ?hd (cs := #[.int .i64 a0_0, .int .i64 a0_1]) (t := 39) ?hr ?_; (case hd => rfl); (case hg => rfl); (case hr => first | (go_simp; done) | (go_simp; rfl)); intro gb124 hg w15 hbox hb; have BK124 := Aside0.mk (hbox); have GW124 := Aside0.mk ((by rw [hg]; exact (below_size bB_) : w.heap.size ≤ gb124)); have GE124 := Aside0.mk ((by rw [hg]; exact (below_size bB_) : w.heap.size ≤ gb124)); replace HB := Aside0.mk (below_step bB_ hb); clear hb hbox hg) | ((with_reducible refine gate_dst (N := 3) rfl ?_); refine box_event ?hg (N := 3) ?hd (cs := #[.int .i64 a1_0, .int .i64 a1_1]) (t := 39) ?hr ?_; (case hd => rfl); (case hg => rfl); (case hr => first | (go_simp; done) | (go_simp; rfl)); intro gb125 hg w16 hbox hb; have BK125 := Aside0.mk (hbox); have GW125 := Aside0.mk ((by rw [hg]; exact (below_size (by repeat (first | (with_reducible first | exact HB.out | apply below_alloc | apply pw_below_drewN | apply below_drew1 | refine below_set ?_ GE124.out) | exact HB.out))) : w.heap.size ≤ gb125)); have GE125 := Aside0.mk ((by rw [hg]; exact (below_size (by repeat (first | (with_reducible first | exact HB.out | apply below_alloc | apply pw_below_drewN | apply below_drew1 | refine below_set ?_ GE124.out) | exact HB.out))) : w.heap.size ≤ gb125)); replace HB := Aside0.mk (below_step (by repeat (first | (with_reducible first | exact HB.out | apply below_alloc | apply pw_below_drewN | apply below_drew1 | refine below_set ?_ GE124.out) | exact HB.out)) hb); have NB124_125 := Aside0.mk ((by rw [hg]; exact Nat.ne_of_lt (blk_lt (g := gb124) (o := .cells #[.int .i64 a0_0, .int .i64 a0_1] 39 (0, 0)) (by (with_reducible repeat (first | refine blk_drewN ?_ _ | refine blk_drew ?_ | refine blk_alloc ?_ _)); exact BK124.out)) : gb124 ≠ gb125)); have NB125_124 := Aside0.mk ((by rw [hg]; exact Nat.ne_of_gt (blk_lt (g := gb124) (o := .cells #[.int .i64 a0_0, .int .i64 a0_1] 39 (0, 0)) (by (with_reducible repeat (first | refine blk_drewN ?_ _ | refine blk_drew ?_ | refine blk_alloc ?_ _)); exact BK124.out)) : gb125 ≠ gb124)); replace BK124 := Aside0.mk (blk_below (g := gb124) (o := .cells #[.int .i64 a0_0, .int .i64 a0_1] 39 (0, 0)) (by (with_reducible repeat (first | refine blk_drewN ?_ _ | refine blk_drew ?_ | refine blk_alloc ?_ _)); exact BK124.out) hb); clear hb hbox hg; have hnb17 := NB124_125.out; have hnc17 := NB125_124.out; have hcz18_0 : w16.cell? ⟨gb124, 0, none⟩ = some (.int .i64 a0_0) := (blk_cell BK124.out 0).trans rfl; have hcz18_1 : w16.cell? ⟨gb124, 1, none⟩ = some (.int .i64 a0_1) := (blk_cell BK124.out 1).trans rfl; have hfz18_0 := blk_frozen BK124.out 0; have hfz18_1 := blk_frozen BK124.out 1; have hcz19_0 : w16.cell? ⟨gb125, 0, none⟩ = some (.int .i64 a1_0) := (blk_cell BK125.out 0).trans rfl; have hcz19_1 : w16.cell? ⟨gb125, 1, none⟩ = some (.int .i64 a1_1) := (blk_cell BK125.out 1).trans rfl; have hfz19_0 := blk_frozen BK125.out 0; have hfz19_1 := blk_frozen BK125.out 1))
   go_ret
   exact ⟨r2_, by repeat (first | (with_reducible first | exact HB.out | apply below_alloc | apply pw_below_drewN | apply below_drew1 | refine below_set ?_ GE124.out | refine below_set ?_ GE125.out) | exact HB.out)⟩

end Go.Proofs.YtbkafaoehheioaaGreat.X
