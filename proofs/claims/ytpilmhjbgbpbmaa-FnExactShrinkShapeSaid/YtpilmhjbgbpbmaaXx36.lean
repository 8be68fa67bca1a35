-- xprint.py
import Derived.Lib.SliceRun
import Derived.Test.YtpilmhjbgbpbmaaXx0
import Derived.Test.YtpilmhjbgbpbmaaXx2
import Derived.Test.YtpilmhjbgbpbmaaXx4
import Derived.Test.YtpilmhjbgbpbmaaXx7
import Derived.Test.YtpilmhjbgbpbmaaXx8
import Derived.Test.YtpilmhjbgbpbmaaXx15
import Derived.Test.YtpilmhjbgbpbmaaXx16
import Derived.Test.YtpilmhjbgbpbmaaXx17
import Derived.Test.YtpilmhjbgbpbmaaXx20
import Derived.Test.YtpilmhjbgbpbmaaXx24
namespace Go.Proofs.Ytpilmhjbgbpbmaa.X
open Go.RowKit Go.Proofs.YtpilmhjbgbpbmaaW.PrintWords Go.Proofs.YtpilmhjbgbpbmaaW.PrintLast Go.Proofs.YtpilmhjbgbpbmaaW.PrintMore
attribute [local go_sem] max2_int min2_int max_two min_two max_three min_three max_four min_four   -- for this text's walks alone
set_option linter.unusedVariables false
set_option linter.unusedSimpArgs false

/-! ### spec_l05Code: function 83 -/
def spec_l05Code.f (k : Nat) (l0 : List (S42)) : Option (Int) := (spec_IsConnected.f k l0).bind fun t989 => (if t989 = true then ((spec_l03Code.f k l0).bind fun t990 => (some t990)) else (some 1))
theorem spec_l05Code.mono : ∀ a0 k, LeO (spec_l05Code.f k a0) (spec_l05Code.f (k + 1) a0) := by
 intro a0 k
 unfold spec_l05Code.f
 repeat' first
   | (with_reducible exact spec_IsConnected.mono _ _)
   | (with_reducible exact spec_l03Code.mono _ _)
   | (with_reducible exact LeO.refl _)
   | (with_reducible exact LeO.none _)
   | (with_reducible refine LeO.ite ?_ ?_)
   | (with_reducible refine LeO.bind ?_ (fun _ => ?_))
   | exact spec_IsConnected.mono _ _
   | exact spec_l03Code.mono _ _
   | exact LeO.none _
   | refine LeO.ite ?_ ?_
   | refine LeO.bind ?_ (fun _ => ?_)
set_option maxHeartbeats 8000000 in
set_option maxRecDepth 100000 in
theorem spec_l05Code.calls (k : Nat) (A0 : Option Addr) (c0 : Nat) (l0 : List (S42)) (r : Int) (w : World) (hr0 : Kd.C k42 w A0 l0.length l0) (hc0 : l0.length ≤ c0) (h : spec_l05Code.f k l0 = some r) :
  Calls Try.prog 83 #[.slice A0 l0.length c0] w fun e w' => e = .returned (.int .i64 r) ∧ Below w.heap.size w w' := by
 have HR0 := Aside0.mk hr0
 have HC0 := Aside0.mk hc0
 clear hr0 hc0
 have HB := Aside0.mk (Below.refl w.heap.size w)
 have H : ((spec_IsConnected.f k l0).bind fun t989 => (if t989 = true then ((spec_l03Code.f k l0).bind fun t990 => (some t990)) else (some 1))) = some r := h
 clear h
 replace H := Option.bind_eq_some_iff.mp H
 obtain ⟨t989, A20, H⟩ := H
 replace H : (if t989 = true then ((spec_l03Code.f k l0).bind fun t990 => (some t990)) else (some 1)) = some r := H
 have A2 := Aside0.mk A20
 clear A20
 by_cases c3 : t989 = true
 ·subst c3
  have H1 : ((spec_l03Code.f k l0).bind fun t990 => (some t990)) = some r := by rw [if_pos rfl] at H; exact H
  clear H
  have H := H1
  clear H1
  replace H := Option.bind_eq_some_iff.mp H
  obtain ⟨t990, A40, H⟩ := H
  replace H : (some t990) = some r := H
  have A4 := Aside0.mk A40
  clear A40
  obtain rfl := Option.some.inj H
  go_enter Try.func83, Try.ntmps83
  go_wp2_with (first | ((with_reducible refine gate_callee (f := 36) rfl ?_); refine goesL_ (some 4) rfl rfl Try.func36 (by kernel_rfl) rfl #[.slice A0 l0.length c0] rfl (by (try simp only [List.map_toArray, List.map_cons, List.map_nil]); first | done | rfl) ?_; (with_reducible refine (spec_IsConnected.calls k _ _ l0 true _ ?side1 ?side2 A2.out).mono ?_); (case side1 => repeat (first | exact HR0.out | (with_reducible refine Kd.C_alloc ?_ _) | (with_reducible refine Kd.C_drewN ?_ _) | (with_reducible refine Kd.C_drew ?_))); (case side2 => exact HC0.out); rintro e w5 ⟨rfl, hb⟩; refine ⟨_, rfl, ?_⟩; have n0_ := Aside0.mk (below_step (by repeat (with_reducible first | exact HB.out | apply below_alloc | apply pw_below_drewN | apply below_drew1)) hb); clear HB; have HB := n0_; clear n0_; (try clear hb)) | ((with_reducible refine gate_callee (f := 53) rfl ?_); refine goesL_ (some 7) rfl rfl Try.func53 (by kernel_rfl) rfl #[.slice A0 l0.length c0] rfl (by (try simp only [List.map_toArray, List.map_cons, List.map_nil]); first | done | rfl) ?_; (with_reducible refine (spec_l03Code.calls k _ _ l0 t990 _ ?side1 ?side2 A4.out).mono ?_); (case side1 => repeat (first | exact (Kd.C_below HR0.out HB.out) | (with_reducible refine Kd.C_alloc ?_ _) | (with_reducible refine Kd.C_drewN ?_ _) | (with_reducible refine Kd.C_drew ?_))); (case side2 => exact HC0.out); rintro e w6 ⟨rfl, hb⟩; refine ⟨_, rfl, ?_⟩; have n0_ := Aside0.mk (below_step (by repeat (with_reducible first | exact HB.out | apply below_alloc | apply pw_below_drewN | apply below_drew1)) hb); clear HB; have HB := n0_; clear n0_; (try clear hb)))
  go_ret
  exact ⟨by first | rfl | (simp [*] <;> rfl), by repeat (with_reducible first | exact HB.out | apply below_alloc | apply pw_below_drewN | apply below_drew1)⟩
 ·replace c3 := Bool.eq_false_iff.mpr c3
  subst c3
  have H1 : (some 1) = some r := by rw [if_neg (show ¬ (false = true) by decide)] at H; exact H
  clear H
  have H := H1
  clear H1
  obtain rfl := Option.some.inj H
  go_enter Try.func83, Try.ntmps83
  go_wp2_with (first | ((with_reducible refine gate_callee (f := 36) rfl ?_); refine goesL_ (some 4) rfl rfl Try.func36 (by kernel_rfl) rfl #[.slice A0 l0.length c0] rfl (by (try simp only [List.map_toArray, List.map_cons, List.map_nil]); first | done | rfl) ?_; (with_reducible refine (spec_IsConnected.calls k _ _ l0 false _ ?side1 ?side2 A2.out).mono ?_); (case side1 => repeat (first | exact HR0.out | (with_reducible refine Kd.C_alloc ?_ _) | (with_reducible refine Kd.C_drewN ?_ _) | (with_reducible refine Kd.C_drew ?_))); (case side2 => exact HC0.out); rintro e w7 ⟨rfl, hb⟩; refine ⟨_, rfl, ?_⟩; have n0_ := Aside0.mk (below_step (by repeat (with_reducible first | exact HB.out | apply below_alloc | apply pw_below_drewN | apply below_drew1)) hb); clear HB; have HB := n0_; clear n0_; (try clear hb)))
  go_ret
  exact ⟨by first | rfl | (simp [*] <;> rfl), by repeat (with_reducible first | exact HB.out | apply below_alloc | apply pw_below_drewN | apply below_drew1)⟩

/-! ### spec_l05Without: function 84 -/
def spec_l05Without.f (l0 : List (S42)) (a1 : Int) : Option ((List (S42))) := (some (([] : List (S42)) : List (S42))).bind fun y991 => (if 0 ≤ a1 then (if a1 ≤ (l0.length : Int) then ((some (l0.take (a1 : Int).toNat : List (S42))).bind fun y994 => (if y991.length + y994.length < 8796093022208 then ((some (y991 ++ y994 : List (S42))).bind fun y998 => (if 0 ≤ (wrap64 (a1 + 1)) then (if (wrap64 (a1 + 1)) ≤ (l0.length : Int) then ((some (l0.drop ((wrap64 (a1 + 1)) : Int).toNat : List (S42))).bind fun y1001 => (if y998.length + y1001.length < 8796093022208 then (some (y998 ++ y1001)) else (none))) else (none)) else (none))) else (none))) else (none)) else (none))
def spec_l05Without.T1 : Bool × List (List Nat × List Nat) := (true, [([], []), ([], []), ([], []), ([1, 2], [1, 2]), ([0, 3], [0, 3]), ([], []), ([], []), ([6], [6]), ([5, 7], [5, 7]), ([4, 8, 4], [4, 8]), ([9, 9, 0, 1, 2, 3, 4, 5, 6, 7, 8, 9], [9])])
def spec_l05Without.B1 : List Nat := [0, 0, 0, 6, 15, 0, 0, 64, 224, 511, 1023]
theorem spec_l05Without.tab1 : rtab .any (opsOf Try.f84 1) = spec_l05Without.T1 := by kernel_rfl
theorem spec_l05Without.bits1 : waitsOk spec_l05Without.T1.2 spec_l05Without.B1 = true := by kernel_rfl
set_option maxHeartbeats 8000000 in
set_option maxRecDepth 100000 in
theorem spec_l05Without.calls (A0 : Option Addr) (c0 : Nat) (l0 : List (S42)) (a1 : Int) (r : List (S42)) (w : World) (hr0 : Kd.C k42 w A0 l0.length l0) (hc0 : l0.length ≤ c0) (h : spec_l05Without.f l0 a1 = some r) :
  Calls Try.prog 84 #[.slice A0 l0.length c0, .int .i64 a1] w fun e w' => ∃ v0_ : Value, e = .returned (v0_) ∧ Kd.R k42 42 w' w.heap.size (fun _ => True) v0_ r ∧ Below w.heap.size w w' := by
 have HR0 := Aside0.mk hr0
 have HC0 := Aside0.mk hc0
 clear hr0 hc0
 have HB := Aside0.mk (Below.refl w.heap.size w)
 have H : ((some (([] : List (S42)) : List (S42))).bind fun y991 => (if 0 ≤ a1 then (if a1 ≤ (l0.length : Int) then ((some (l0.take (a1 : Int).toNat : List (S42))).bind fun y994 => (if y991.length + y994.length < 8796093022208 then ((some (y991 ++ y994 : List (S42))).bind fun y998 => (if 0 ≤ (wrap64 (a1 + 1)) then (if (wrap64 (a1 + 1)) ≤ (l0.length : Int) then ((some (l0.drop ((wrap64 (a1 + 1)) : Int).toNat : List (S42))).bind fun y1001 => (if y998.length + y1001.length < 8796093022208 then (some (y998 ++ y1001)) else (none))) else (none)) else (none))) else (none))) else (none)) else (none))) = some r := h
 clear h
 obtain ⟨y991, hy991⟩ : ∃ y_ : List (S42), y_ = (([] : List (S42))) := ⟨_, rfl⟩
 replace H : (if 0 ≤ a1 then (if a1 ≤ (l0.length : Int) then ((some (l0.take (a1 : Int).toNat : List (S42))).bind fun y994 => (if y991.length + y994.length < 8796093022208 then ((some (y991 ++ y994 : List (S42))).bind fun y998 => (if 0 ≤ (wrap64 (a1 + 1)) then (if (wrap64 (a1 + 1)) ≤ (l0.length : Int) then ((some (l0.drop ((wrap64 (a1 + 1)) : Int).toNat : List (S42))).bind fun y1001 => (if y998.length + y1001.length < 8796093022208 then (some (y998 ++ y1001)) else (none))) else (none)) else (none))) else (none))) else (none)) else (none)) = some r := by first | (rw [hy991]; with_reducible exact H) | (have H2_ := (Option.bind_some _ _).symm.trans H; rw [hy991]; with_reducible exact H2_) | (have H2_ := (Option.bind_some _ _).symm.trans H; with_reducible exact H2_) | with_reducible exact H | (rw [hy991]; exact H) | exact H
 have Ny991 := Aside0.mk hy991
 clear hy991
 by_cases c3 : 0 ≤ a1
 ·rw [if_pos c3] at H
  have c3b0 := eq_true c3
  have c3b1 : decide (0 ≤ a1) = true := decide_eq_true c3
  clear c3
  by_cases c4 : a1 ≤ (l0.length : Int)
  ·rw [if_pos c4] at H
   have c4b0 := eq_true c4
   have c4b1 : decide (a1 ≤ (l0.length : Int)) = true := decide_eq_true c4
   clear c4
   obtain ⟨y994, hy994⟩ : ∃ y_ : List (S42), y_ = (l0.take (a1 : Int).toNat) := ⟨_, rfl⟩
   replace H : (if y991.length + y994.length < 8796093022208 then ((some (y991 ++ y994 : List (S42))).bind fun y998 => (if 0 ≤ (wrap64 (a1 + 1)) then (if (wrap64 (a1 + 1)) ≤ (l0.length : Int) then ((some (l0.drop ((wrap64 (a1 + 1)) : Int).toNat : List (S42))).bind fun y1001 => (if y998.length + y1001.length < 8796093022208 then (some (y998 ++ y1001)) else (none))) else (none)) else (none))) else (none)) = some r := by first | (rw [hy994]; with_reducible exact H) | (have H2_ := (Option.bind_some _ _).symm.trans H; rw [hy994]; with_reducible exact H2_) | (have H2_ := (Option.bind_some _ _).symm.trans H; with_reducible exact H2_) | with_reducible exact H | (rw [hy994]; exact H) | exact H
   have Ny994 := Aside0.mk hy994
   clear hy994
   by_cases c5 : y991.length + y994.length < 8796093022208
   ·rw [if_pos c5] at H
    have LMc5 := Aside0.mk c5
    clear c5
    obtain ⟨y998, hy998⟩ : ∃ y_ : List (S42), y_ = (y991 ++ y994) := ⟨_, rfl⟩
    replace H : (if 0 ≤ (wrap64 (a1 + 1)) then (if (wrap64 (a1 + 1)) ≤ (l0.length : Int) then ((some (l0.drop ((wrap64 (a1 + 1)) : Int).toNat : List (S42))).bind fun y1001 => (if y998.length + y1001.length < 8796093022208 then (some (y998 ++ y1001)) else (none))) else (none)) else (none)) = some r := by first | (rw [hy998]; with_reducible exact H) | (have H2_ := (Option.bind_some _ _).symm.trans H; rw [hy998]; with_reducible exact H2_) | (have H2_ := (Option.bind_some _ _).symm.trans H; with_reducible exact H2_) | with_reducible exact H | (rw [hy998]; exact H) | exact H
    have Ny998 := Aside0.mk hy998
    clear hy998
    obtain ⟨ji6, hji6⟩ : ∃ j_ : Int, (wrap64 (a1 + 1)) = j_ := ⟨_, rfl⟩
    replace H : (if 0 ≤ (ji6) then (if (ji6) ≤ (l0.length : Int) then ((some (l0.drop ((ji6) : Int).toNat : List (S42))).bind fun y1001 => (if y998.length + y1001.length < 8796093022208 then (some (y998 ++ y1001)) else (none))) else (none)) else (none)) = some r := by first | (rw [hji6] at H; exact H) | (simp only [hji6] at H ⊢; exact H)
    have hji6w : (IntKind.i64.wrap (a1 + 1)) = ji6 := (i64_w _).trans hji6
    by_cases c7 : 0 ≤ (ji6)
    ·rw [if_pos c7] at H
     have c7b0 := eq_true c7
     have c7b1 : decide (0 ≤ (ji6)) = true := decide_eq_true c7
     clear c7
     by_cases c8 : (ji6) ≤ (l0.length : Int)
     ·rw [if_pos c8] at H
      have c8b0 := eq_true c8
      have c8b1 : decide ((ji6) ≤ (l0.length : Int)) = true := decide_eq_true c8
      clear c8
      obtain ⟨y1001, hy1001⟩ : ∃ y_ : List (S42), y_ = (l0.drop ((ji6) : Int).toNat) := ⟨_, rfl⟩
      replace H : (if y998.length + y1001.length < 8796093022208 then (some (y998 ++ y1001)) else (none)) = some r := by first | (rw [hy1001]; with_reducible exact H) | (have H2_ := (Option.bind_some _ _).symm.trans H; rw [hy1001]; with_reducible exact H2_) | (have H2_ := (Option.bind_some _ _).symm.trans H; with_reducible exact H2_) | with_reducible exact H | (rw [hy1001]; exact H) | exact H
      have Ny1001 := Aside0.mk hy1001
      clear hy1001
      by_cases c9 : y998.length + y1001.length < 8796093022208
      ·rw [if_pos c9] at H
       have LMc9 := Aside0.mk c9
       clear c9
       obtain ⟨y1005, hy1005⟩ : ∃ y_ : List (S42), y_ = (y998 ++ y1001) := ⟨_, rfl⟩
       replace H : (some y1005) = some r := by first | (rw [hy1005]; with_reducible exact H) | (have H2_ := (Option.bind_some _ _).symm.trans H; rw [hy1005]; with_reducible exact H2_) | (have H2_ := (Option.bind_some _ _).symm.trans H; with_reducible exact H2_) | with_reducible exact H | (rw [hy1005]; exact H) | exact H
       have Ny1005 := Aside0.mk hy1005
       clear hy1005
       obtain rfl := Option.some.inj H
       go_enter Try.func84, Try.ntmps84
       try go_wp2
       have n0_ := Aside0.mk (below_drew1 HB.out)
       clear HB
       have HB := n0_
       clear n0_
       have q11 : (a1 : Int) ≤ ((l0.length : Int) : Int) := of_decide_eq_true (by first | (with_reducible assumption) | assumption)
       obtain ⟨i011, hi011, _, hsz11, _⟩ := info_parts info42
       have hroom11 : l0.length ≤ c0 := HC0.out
       have hC11 : Kd.C k42 _ A0 l0.length l0 := HR0.out
       have hcut11 := cut_to (P := Try.prog) 27 42 .i64 Try.underlying27 hi011 A0 l0.length c0 a1 (of_decide_eq_true (by first | (with_reducible assumption) | assumption)) q11 hroom11
       have hr11 := Kd.C_take (m := (a1 : Int).toNat) hC11 (by omega)
       have hy11 : y994.length = (a1 : Int).toNat := (by rw [Ny994.out, List.length_take]; omega)
       rw [← Ny994.out] at hr11
       rw [← hy11] at hcut11
       have HR997 := Aside0.mk hr11
       have HC997 := Aside0.mk (show y994.length ≤ c0 from by omega)
       clear hr11 hC11 hroom11 hi011 hsz11
       have KY11 := Aside0.mk hy11
       clear hy11
       replace q11 := eq_true q11
       have q12 : ((ji6) : Int) ≤ ((l0.length : Int) : Int) := of_decide_eq_true (by first | (with_reducible assumption) | assumption)
       obtain ⟨i012, hi012, _, hsz12, _⟩ := info_parts info42
       have hroom12 : l0.length ≤ c0 := HC0.out
       have hC12 : Kd.C k42 _ A0 l0.length l0 := HR0.out
       have q012 : (0 : Int) ≤ ((ji6) : Int) := of_decide_eq_true (by first | (with_reducible assumption) | assumption)
       have hcut12 := cut_from (P := Try.prog) 27 42 .i64 Try.underlying27 hi012 2 hsz12 A0 l0.length c0 (ji6) q012 q12
       have hr12 := Kd.C_drop (m := ((ji6) : Int).toNat) (c := c0) hC12 (by omega) hroom12
       obtain ⟨A12, hA12⟩ : ∃ A1, A1 = (if c0 = ((ji6) : Int).toNat then A0 else (A0 : Option Addr).map (·.add (((ji6) : Int).toNat * 2))) := ⟨_, rfl⟩
       obtain ⟨c12, hc12⟩ : ∃ c1, c1 = c0 - ((ji6) : Int).toNat := ⟨_, rfl⟩
       have hy12 : y1001.length = l0.length - ((ji6) : Int).toNat := (by rw [Ny1001.out, List.length_drop] <;> omega)
       rw [show (l0).drop ((ji6) : Int).toNat = y1001 from Ny1001.out.symm] at hr12
       replace hr12 : Kd.C k42 _ A12 y1001.length y1001 := (by rw [hA12]; exact hr12)
       rw [← hy12, ← hA12, ← hc12] at hcut12
       have HR1004 := Aside0.mk hr12
       have HC1004 := Aside0.mk (show y1001.length ≤ c12 from by rw [hy12, hc12]; exact Nat.sub_le_sub_right hroom12 _)
       clear hr12 hC12 hroom12 hi012 hsz12 hc12
       have KY12 := Aside0.mk hy12
       have KA12 := Aside0.mk hA12
       clear hy12 hA12
       replace q12 := eq_true q12
       refine start_ (n := 11) (S := fun w' => True) (ds := []) #[F, F, F, F, F, F, F, F, F, F, F] (by kernel_rfl) rfl rfl trivial (fun hHeld => ?_); refine with_tabW spec_l05Without.tab1 spec_l05Without.bits1 (fun HT_ HW_ => ?_)
       generalize w.drew = w10 at HB HR1004 HR997 hHeld ⊢
       refine pure_ (i := 1) (N := some 6) (v := ?_) (a' := ?_) #[F, T, F, F, F, F, F, F, F, F, F] rfl rfl (any_of HT_.out (by kernel_rfl)) (fun _ _ _ h => h) (Or.inl ⟨by rfl, ?_⟩) ?_ ?_
       rotate_left
       ·intro w'
        go_simp
        with_reducible rfl
       rotate_left
       ·simp only [Act.put, List.setIfInBounds_toArray, List.set_cons_zero, List.set_cons_succ, i64_w, i32_w]
        rfl
       refine pure_ (i := 2) (N := some 7) (v := ?_) (a' := ?_) #[F, T, T, F, F, F, F, F, F, F, F] rfl rfl (any_of HT_.out (by kernel_rfl)) (fun _ _ _ h => h) (Or.inl ⟨by rfl, ?_⟩) ?_ ?_
       rotate_left
       ·intro w'
        go_simp
        with_reducible rfl
       rotate_left
       ·simp only [Act.put, List.setIfInBounds_toArray, List.set_cons_zero, List.set_cons_succ, i64_w, i32_w]
        rfl
       refine pure_ (i := 3) (N := some 8) (v := ?_) (a' := ?_) #[F, T, T, T, F, F, F, F, F, F, F] rfl rfl (any_of HT_.out (by kernel_rfl)) (fun _ _ _ h => h) (Or.inl ⟨by rfl, ?_⟩) ?_ ?_
       rotate_left
       ·intro w'
        go_simp
        with_reducible rfl
       rotate_left
       ·simp only [Act.put, List.setIfInBounds_toArray, List.set_cons_zero, List.set_cons_succ, i64_w, i32_w]
        rfl
       refine pure_ (i := 5) (N := some 10) (v := ?_) (a' := ?_) #[F, T, T, T, F, T, F, F, F, F, F] rfl rfl (any_of HT_.out (by kernel_rfl)) (fun _ _ _ h => h) (Or.inl ⟨by rfl, ?_⟩) ?_ ?_
       rotate_left
       ·intro w'
        go_simp
        with_reducible rfl
       rotate_left
       ·simp only [Act.put, List.setIfInBounds_toArray, List.set_cons_zero, List.set_cons_succ, i64_w, i32_w]
        rfl
       refine pure_ (i := 6) (N := some 11) (v := ?_) (a' := ?_) #[F, T, T, T, F, T, T, F, F, F, F] rfl rfl (any_of HT_.out (by kernel_rfl)) (fun _ _ _ h => h) (Or.inl ⟨by rfl, ?_⟩) ?_ ?_
       rotate_left
       ·intro w'
        go_simp
        with_reducible rfl
       rotate_left
       ·simp only [Act.put, List.setIfInBounds_toArray, List.set_cons_zero, List.set_cons_succ, i64_w, i32_w]
        rfl
       refine pure_ (i := 7) (N := some 12) (v := ?_) (a' := ?_) #[F, T, T, T, F, T, T, T, F, F, F] rfl rfl (any_of HT_.out (by kernel_rfl)) (fun _ _ _ h => h) (Or.inl ⟨by rfl, ?_⟩) ?_ ?_
       rotate_left
       ·intro w'
        go_simp
        with_reducible rfl
       rotate_left
       ·simp only [Act.put, List.setIfInBounds_toArray, List.set_cons_zero, List.set_cons_succ, i64_w, i32_w]
        rfl
       refine pure_ (i := 8) (N := some 13) (v := ?_) (a' := ?_) #[F, T, T, T, F, T, T, T, T, F, F] rfl rfl (any_of HT_.out (by kernel_rfl)) (fun _ _ _ h => h) (Or.inl ⟨by rfl, ?_⟩) ?_ ?_
       rotate_left
       ·intro w'
        go_simp
        with_reducible rfl
       rotate_left
       ·simp only [Act.put, List.setIfInBounds_toArray, List.set_cons_zero, List.set_cons_succ, i64_w, i32_w]
        rfl
       refine one_ (i := 0) (N := some 5) #[T, T, T, T, F, T, T, T, T, F, F] rfl rfl (one_of HT_.out (by kernel_rfl)) (by decide) (fun K hK => ?_)
       refine Kd.R_lit_step k42 _ 42 ?hg (N := 5) ?hd (xs := ([] : List (S42))) (inner := []) (ok := fun _ => True) (okp := fun _ => True) ?hr ?hp (fun _ hk => hk) trivial (Below.refl _ _) (Nat.le_refl _) (by simp) ?_; (case hd => rfl); (case hg => rfl); (case hr => first | (go_simp; done) | (go_simp; rfl)); (case hp => exact (Reps.none _ _))
       intro v992 w13 ho14 hb hg_ hnew_
       clear hg_ hnew_
       (first | rw [← Ny991.out] at ho14 | (simp only [Int.reduceToNat] at ho14; rw [← Ny991.out] at ho14))
       have n0_ := Aside0.mk (Kd.R_lower ho14 (below_size (by repeat (with_reducible first | exact HB.out | apply below_alloc | apply pw_below_drewN | apply below_drew1))))
       have n1_ := Aside0.mk (below_step (by repeat (with_reducible first | exact HB.out | apply below_alloc | apply pw_below_drewN | apply below_drew1)) hb)
       clear HB
       have HO993 := n0_
       have HB := n1_
       clear n0_ n1_
       clear hb ho14
       refine hK.out _ _ trivial (fun hHeld => ?_)
       clear hK K
       refine norm_ (a' := ?_) ?_ ?_
       rotate_left
       ·show Act.put _ (some 5) _ = _
        simp only [Act.put, List.setIfInBounds_toArray, List.set_cons_zero, List.set_cons_succ, i64_w, i32_w]
        rfl
       refine one_ (i := 4) (N := some 9) #[T, T, T, T, T, T, T, T, T, F, F] rfl rfl (one_of HT_.out (by kernel_rfl)) (by decide) (fun K hK => ?_)
       refine Kd.R_append_rows_step k42 (w0 := w) w.heap.size (by rfl) (.tmp 5) (.tmp 8) 27 42 (.agg #[(.int .i64 0), (.int .i64 0)]) 16 rfl Try.underlying27 info42 rfl (by decide) (by omega) v992 y991 y994 _ _ _ (fun _ => True) (fun _ => False) rfl rfl ?aO ?aR (fun _ _ h => h) (fun _ h => h.elim) ?aF ?aB ?aS ?aL ?_
       (case aR => repeat (first | exact (Kd.C_below HR997.out HB.out) | (with_reducible refine Kd.C_alloc ?_ _) | (with_reducible refine Kd.C_drewN ?_ _) | (with_reducible refine Kd.C_drew ?_)))
       (case aB => exact (by repeat (with_reducible first | exact HB.out | apply below_alloc | apply pw_below_drewN | apply below_drew1)))
       (case aF => exact (fun _ _ => trivial))
       (case aO => exact (by (with_reducible repeat (first | apply Kd.R_alloc | apply Kd.R_drewN | apply Kd.R_drew)); exact HO993.out))
       (case aS => exact (below_size (by repeat (with_reducible first | exact HB.out | apply below_alloc | apply pw_below_drewN | apply below_drew1))))
       (case aL => have := LMc5.out; omega)
       intro v999 w15 ho hb hg hat
       rw [← Ny998.out] at ho
       have n0_ := Aside0.mk (hb)
       have n1_ := Aside0.mk (ho)
       clear HB
       clear HO993
       have HB := n0_
       have HO1000 := n1_
       clear n0_ n1_
       clear ho hb hg hat
       refine hK.out _ _ trivial (fun hHeld => ?_)
       clear hK K
       refine norm_ (a' := ?_) ?_ ?_
       rotate_left
       ·show Act.put _ (some 9) _ = _
        simp only [Act.put, List.setIfInBounds_toArray, List.set_cons_zero, List.set_cons_succ, i64_w, i32_w]
        rfl
       refine one_ (i := 9) (N := some 14) #[T, T, T, T, T, T, T, T, T, T, F] rfl rfl (one_of HT_.out (by kernel_rfl)) (by decide) (fun K hK => ?_)
       refine Kd.R_append_rows_step k42 (w0 := w) w.heap.size (by rfl) (.tmp 9) (.tmp 13) 27 42 (.agg #[(.int .i64 0), (.int .i64 0)]) 16 rfl Try.underlying27 info42 rfl (by decide) (by omega) v999 y998 y1001 _ _ _ (fun _ => True) (fun _ => False) rfl rfl ?aO ?aR (fun _ _ h => h) (fun _ h => h.elim) ?aF ?aB ?aS ?aL ?_
       (case aR => repeat (first | exact (Kd.C_below HR1004.out HB.out) | (with_reducible refine Kd.C_alloc ?_ _) | (with_reducible refine Kd.C_drewN ?_ _) | (with_reducible refine Kd.C_drew ?_)))
       (case aB => exact (by repeat (with_reducible first | exact HB.out | apply below_alloc | apply pw_below_drewN | apply below_drew1)))
       (case aF => exact (fun _ _ => trivial))
       (case aO => exact (by (with_reducible repeat (first | apply Kd.R_alloc | apply Kd.R_drewN | apply Kd.R_drew)); exact HO1000.out))
       (case aS => exact (below_size (by repeat (with_reducible first | exact HB.out | apply below_alloc | apply pw_below_drewN | apply below_drew1))))
       (case aL => have := LMc9.out; omega)
       intro v1006 w16 ho hb hg hat
       rw [← Ny1005.out] at ho
       have n0_ := Aside0.mk (hb)
       have n1_ := Aside0.mk (ho)
       clear HB
       clear HO1000
       have HB := n0_
       have HO1007 := n1_
       clear n0_ n1_
       clear ho hb hg hat
       refine hK.out _ _ trivial (fun hHeld => ?_)
       clear hK K
       refine norm_ (a' := ?_) ?_ ?_
       rotate_left
       ·show Act.put _ (some 14) _ = _
        simp only [Act.put, List.setIfInBounds_toArray, List.set_cons_zero, List.set_cons_succ, i64_w, i32_w]
        rfl
       refine pure_ (i := 10) (N := some 4) (v := ?_) (a' := ?_) #[T, T, T, T, T, T, T, T, T, T, T] rfl rfl (any_of HT_.out (by kernel_rfl)) (fun _ _ _ h => h) (Or.inl ⟨by rfl, ?_⟩) ?_ ?_
       rotate_left
       ·intro w'
        go_simp
        with_reducible rfl
       rotate_left
       ·simp only [Act.put, List.setIfInBounds_toArray, List.set_cons_zero, List.set_cons_succ, i64_w, i32_w]
        rfl
       refine done_ (done_of HT_.out (by kernel_rfl)) ?_
       try go_wp2
       go_ret
       exact ⟨_, by first | rfl | (simp [errW_none, errW_some] <;> rfl) | (simp only [← hji6]; first | rfl | (simp [errW_none, errW_some] <;> rfl)) | (simp [*, errW_none, errW_some] <;> rfl), by (with_reducible repeat (first | apply Kd.R_alloc | apply Kd.R_drewN | apply Kd.R_drew)); exact HO1007.out, by repeat (with_reducible first | exact HB.out | apply below_alloc | apply pw_below_drewN | apply below_drew1)⟩
      ·rw [if_neg c9] at H
       exact absurd H (by simp)
     ·rw [if_neg c8] at H
      exact absurd H (by simp)
    ·rw [if_neg c7] at H
     exact absurd H (by simp)
   ·rw [if_neg c5] at H
    exact absurd H (by simp)
  ·rw [if_neg c4] at H
   exact absurd H (by simp)
 ·rw [if_neg c3] at H
  exact absurd H (by simp)

/-! ### spec_ShrinkShape: function 47 -/
def spec_ShrinkShape.l0 : Nat → List (S42) → List (List (S42)) → Int → Option ((List (List (S42))) × Int)
 | 0, _, _, _ => none
 | k + 1, x0, x5, x6 => if x6 < (x0.length : Int) then ((spec_l05Without.f x0 x6).bind fun t1012 => ((spec_l02Parts.f k t1012).bind fun t1015 => ((spec_l02One.f k t1015).bind fun t1018 => (if t1018 = true then ((spec_l02Normal.f k t1012).bind fun t1019 => ((spec_l03Add.f k x5 t1019).bind fun t1022 => (spec_ShrinkShape.l0 k x0 t1022 (wrap64 (x6 + 1))))) else (spec_ShrinkShape.l0 k x0 x5 (wrap64 (x6 + 1))))))) else (some (x5, 0))
def spec_ShrinkShape.f (k : Nat) (l0 : List (S42)) : Option ((List (List (S42))) × Int) := (spec_l05Code.f k l0).bind fun t1008 => (if t1008 = 0 then (if (l0.length : Int) = 1 then (some (([] : List (List (S42))), 5)) else (spec_ShrinkShape.l0 k l0 (([] : List (List (S42)))) 0)) else (some (([] : List (List (S42))), t1008)))
theorem spec_ShrinkShape.mono_l : ∀ k, (∀ y0 y1 y2, LeO (spec_ShrinkShape.l0 k y0 y1 y2) (spec_ShrinkShape.l0 (k + 1) y0 y1 y2))
 | 0 => fun _ _ _ r h => by simp [spec_ShrinkShape.l0] at h
 | k + 1 => by
  have ih0 := spec_ShrinkShape.mono_l k
  ·intro y0 y1 y2
   unfold spec_ShrinkShape.l0
   repeat' first
   | (with_reducible exact ih0 _ _ _)
   | (with_reducible exact spec_l02Normal.mono _ _)
   | (with_reducible exact spec_l02One.mono _ _)
   | (with_reducible exact spec_l02Parts.mono _ _)
   | (with_reducible exact spec_l03Add.mono _ _ _)
   | (with_reducible exact spec_l05Code.mono _ _)
   | (with_reducible exact LeO.refl _)
   | (with_reducible exact LeO.none _)
   | (with_reducible refine LeO.ite ?_ ?_)
   | (with_reducible refine LeO.bind ?_ (fun _ => ?_))
   | exact ih0 _ _ _
   | exact spec_l02Normal.mono _ _
   | exact spec_l02One.mono _ _
   | exact spec_l02Parts.mono _ _
   | exact spec_l03Add.mono _ _ _
   | exact spec_l05Code.mono _ _
   | exact LeO.none _
   | refine LeO.ite ?_ ?_
   | refine LeO.bind ?_ (fun _ => ?_)
theorem spec_ShrinkShape.mono : ∀ a0 k, LeO (spec_ShrinkShape.f k a0) (spec_ShrinkShape.f (k + 1) a0) := by
 intro a0 k
 have ih0 := spec_ShrinkShape.mono_l k
 unfold spec_ShrinkShape.f
 repeat' first
   | (with_reducible exact ih0 _ _ _)
   | (with_reducible exact spec_l02Normal.mono _ _)
   | (with_reducible exact spec_l02One.mono _ _)
   | (with_reducible exact spec_l02Parts.mono _ _)
   | (with_reducible exact spec_l03Add.mono _ _ _)
   | (with_reducible exact spec_l05Code.mono _ _)
   | (with_reducible exact LeO.refl _)
   | (with_reducible exact LeO.none _)
   | (with_reducible refine LeO.ite ?_ ?_)
   | (with_reducible refine LeO.bind ?_ (fun _ => ?_))
   | exact ih0 _ _ _
   | exact spec_l02Normal.mono _ _
   | exact spec_l02One.mono _ _
   | exact spec_l02Parts.mono _ _
   | exact spec_l03Add.mono _ _ _
   | exact spec_l05Code.mono _ _
   | exact LeO.none _
   | refine LeO.ite ?_ ?_
   | refine LeO.bind ?_ (fun _ => ?_)
set_option maxHeartbeats 8000000 in
set_option maxRecDepth 100000 in
theorem spec_ShrinkShape.calls (k : Nat) (A0 : Option Addr) (c0 : Nat) (l0 : List (S42)) (r1 : List (List (S42))) (r2 : Int) (w : World) (hr0 : Kd.C k42 w A0 l0.length l0) (hc0 : l0.length ≤ c0) (h : spec_ShrinkShape.f k l0 = some (r1, r2)) :
  Calls Try.prog 47 #[.slice A0 l0.length c0] w fun e w' => ∃ v0_ : Value, e = .returned (.tuple #[v0_, .int .i64 r2]) ∧ Kd.V (Kd.slice 42 k42) 27 w' w.heap.size (fun k_ => (w.heap.size ≤ k_)) v0_ r1 ∧ Below w.heap.size w w' := by
 have HR0 := Aside0.mk hr0
 have HC0 := Aside0.mk hc0
 clear hr0 hc0
 have HB := Aside0.mk (Below.refl w.heap.size w)
 have H : ((spec_l05Code.f k l0).bind fun t1008 => (if t1008 = 0 then (if (l0.length : Int) = 1 then (some (([] : List (List (S42))), 5)) else (spec_ShrinkShape.l0 k l0 (([] : List (List (S42)))) 0)) else (some (([] : List (List (S42))), t1008)))) = some (r1, r2) := h
 clear h
 replace H := Option.bind_eq_some_iff.mp H
 obtain ⟨t1008, A20, H⟩ := H
 replace H : (if t1008 = 0 then (if (l0.length : Int) = 1 then (some (([] : List (List (S42))), 5)) else (spec_ShrinkShape.l0 k l0 (([] : List (List (S42)))) 0)) else (some (([] : List (List (S42))), t1008))) = some (r1, r2) := H
 have A2 := Aside0.mk A20
 clear A20
 by_cases c3 : t1008 = 0
 ·rw [if_pos c3] at H
  have c3b0 : (t1008 == 0) = true := beq_iff_eq.mpr c3
  have c3b1 : (t1008 != 0) = false := bne_eq_false_iff_eq.mpr c3
  clear c3
  by_cases c4 : (l0.length : Int) = 1
  ·rw [if_pos c4] at H
   have c4b0 : ((l0.length : Int) == 1) = true := beq_iff_eq.mpr c4
   have c4b1 : ((l0.length : Int) != 1) = false := bne_eq_false_iff_eq.mpr c4
   clear c4
   simp only [Option.some.injEq, Prod.mk.injEq] at H
   obtain ⟨rfl, rfl⟩ := H
   go_enter Try.func47, Try.ntmps47
   go_wp2_with (first | ((with_reducible refine gate_callee (f := 83) rfl ?_); refine goesL_ (some 9) rfl rfl Try.func83 (by kernel_rfl) rfl #[.slice A0 l0.length c0] rfl (by (try simp only [List.map_toArray, List.map_cons, List.map_nil]); first | done | rfl) ?_; (with_reducible refine (spec_l05Code.calls k _ _ l0 t1008 _ ?side1 ?side2 A2.out).mono ?_); (case side1 => repeat (first | exact HR0.out | (with_reducible refine Kd.C_alloc ?_ _) | (with_reducible refine Kd.C_drewN ?_ _) | (with_reducible refine Kd.C_drew ?_))); (case side2 => exact HC0.out); rintro e w5 ⟨rfl, hb⟩; refine ⟨_, rfl, ?_⟩; have n0_ := Aside0.mk (below_step (by repeat (with_reducible first | exact HB.out | apply below_alloc | apply pw_below_drewN | apply below_drew1)) hb); clear HB; have HB := n0_; clear n0_; (try clear hb)))
   go_ret2
   exact ⟨_, by first | rfl | (simp [*] <;> rfl), Kd.S_V (base := w.heap.size) (Kd.S_nil _ _ _ _ _), by repeat (with_reducible first | exact HB.out | apply below_alloc | apply pw_below_drewN | apply below_drew1)⟩
  ·rw [if_neg c4] at H
   have c4b0 : ((l0.length : Int) == 1) = false := beq_eq_false_iff_ne.mpr c4
   have c4b1 : ((l0.length : Int) != 1) = true := bne_iff_ne.mpr c4
   obtain ⟨y1009, hy1009⟩ : ∃ y_ : List (List (S42)), y_ = (([] : List (List (S42)))) := ⟨_, rfl⟩
   replace H : (spec_ShrinkShape.l0 k l0 y1009 0) = some (r1, r2) := by first | (rw [hy1009]; with_reducible exact H) | (have H2_ := (Option.bind_some _ _).symm.trans H; rw [hy1009]; with_reducible exact H2_) | (have H2_ := (Option.bind_some _ _).symm.trans H; with_reducible exact H2_) | with_reducible exact H | (rw [hy1009]; exact H) | exact H
   have Ny1009 := Aside0.mk hy1009
   clear hy1009
   have H' := Aside0.mk H
   clear H
   go_enter Try.func47, Try.ntmps47
   go_wp2_with (first | ((with_reducible refine gate_callee (f := 83) rfl ?_); refine goesL_ (some 9) rfl rfl Try.func83 (by kernel_rfl) rfl #[.slice A0 l0.length c0] rfl (by (try simp only [List.map_toArray, List.map_cons, List.map_nil]); first | done | rfl) ?_; (with_reducible refine (spec_l05Code.calls k _ _ l0 t1008 _ ?side1 ?side2 A2.out).mono ?_); (case side1 => repeat (first | exact HR0.out | (with_reducible refine Kd.C_alloc ?_ _) | (with_reducible refine Kd.C_drewN ?_ _) | (with_reducible refine Kd.C_drew ?_))); (case side2 => exact HC0.out); rintro e w6 ⟨rfl, hb⟩; refine ⟨_, rfl, ?_⟩; have n0_ := Aside0.mk (below_step (by repeat (with_reducible first | exact HB.out | apply below_alloc | apply pw_below_drewN | apply below_drew1)) hb); clear HB; have HB := n0_; clear n0_; (try clear hb)) | ((with_reducible refine gate_dst (N := 16) rfl ?_); refine Kd.S_lit (Kd.slice 42 k42) _ 27 ?hg (N := 16) ?hd (xs := ([] : List (List (S42)))) (inner := []) (ok := fun _ => True) (okp := fun _ => True) ?hr ?hp (fun _ hk => hk) trivial (Below.refl _ _) (Nat.le_refl _) (by simp) ?_; (case hd => rfl); (case hg => rfl); (case hr => first | (go_simp; done) | (go_simp; rfl)); (case hp => exact (Reps.none _ _)); intro v1010 w7 ho8 hb hg_ hnew_; clear hg_ hnew_; (first | rw [← Ny1009.out] at ho8 | (simp only [Int.reduceToNat] at ho8; rw [← Ny1009.out] at ho8)); have n0_ := Aside0.mk (Kd.S_lower (Kd.S_newM (M := fun k_ => (w.heap.size ≤ k_)) ho8 (below_size (by repeat (with_reducible first | exact HB.out | apply below_alloc | apply pw_below_drewN | apply below_drew1))) (fun k_ h_ => h_)) (below_size (by repeat (with_reducible first | exact HB.out | apply below_alloc | apply pw_below_drewN | apply below_drew1)))); have n1_ := Aside0.mk (below_step (by repeat (with_reducible first | exact HB.out | apply below_alloc | apply pw_below_drewN | apply below_drew1)) hb); clear HB; have HO1011 := n0_; have HB := n1_; clear n0_ n1_; clear hb ho8))
   go_loopg [5, 6] k (fun kq v5 v6 w' => ∃ (x5_1 : List (List (S42))) (x6_1 : Int), v6 = .int .i64 x6_1 ∧ Aside0 (spec_ShrinkShape.l0 kq l0 x5_1 x6_1 = some (r1, r2)) ∧ Aside0 (kq ≤ k) ∧ Aside0 (Kd.V (Kd.slice 42 k42) 27 w' w.heap.size (fun k_ => (w.heap.size ≤ k_)) v5 x5_1) ∧ Aside0 (Below w.heap.size w w'))
   case atStart => exact ⟨(y1009), (0), (by first | rfl | (simp; done) | (simp [*]; done)), H', ⟨Nat.le_refl _⟩, ⟨Kd.S_V (by (with_reducible repeat (first | apply Kd.S_alloc | apply Kd.S_drewN | apply Kd.S_drew)); exact Kd.S_mono HO1011.out (fun _ hk => hk.1))⟩, ⟨by repeat (with_reducible first | exact HB.out | apply below_alloc | apply pw_below_drewN | apply below_drew1)⟩⟩
   case round =>
    clear H'
    try clear p2
    try clear c3
    try clear c3b0
    try clear c3b1
    try clear c4
    try clear c4b0
    try clear c4b1
    try clear c8
    obtain ⟨x5_1, x6_1, rfl, HA, HK1, HO_5, HB⟩ := hrel
    cases gk with
    | zero => exact absurd HA.out (by simp [spec_ShrinkShape.l0])
    | succ k1 =>
     have H := HA.out
     clear HA
     simp only [spec_ShrinkShape.l0] at H
     by_cases c9 : x6_1 < (l0.length : Int)
     ·rw [if_pos c9] at H
      have c9b0 : decide (x6_1 < (l0.length : Int)) = true := decide_eq_true c9
      clear c9
      replace H := Option.bind_eq_some_iff.mp H
      obtain ⟨t1012, A100, H⟩ := H
      replace H : ((spec_l02Parts.f k1 t1012).bind fun t1015 => ((spec_l02One.f k1 t1015).bind fun t1018 => (if t1018 = true then ((spec_l02Normal.f k1 t1012).bind fun t1019 => ((spec_l03Add.f k1 x5_1 t1019).bind fun t1022 => (spec_ShrinkShape.l0 k1 l0 t1022 (wrap64 (x6_1 + 1))))) else (spec_ShrinkShape.l0 k1 l0 x5_1 (wrap64 (x6_1 + 1)))))) = some (r1, r2) := H
      have A10 := Aside0.mk A100
      clear A100
      replace H := Option.bind_eq_some_iff.mp H
      obtain ⟨t1015, A110, H⟩ := H
      replace H : ((spec_l02One.f k1 t1015).bind fun t1018 => (if t1018 = true then ((spec_l02Normal.f k1 t1012).bind fun t1019 => ((spec_l03Add.f k1 x5_1 t1019).bind fun t1022 => (spec_ShrinkShape.l0 k1 l0 t1022 (wrap64 (x6_1 + 1))))) else (spec_ShrinkShape.l0 k1 l0 x5_1 (wrap64 (x6_1 + 1))))) = some (r1, r2) := H
      have A11 := Aside0.mk A110
      clear A110
      replace H := Option.bind_eq_some_iff.mp H
      obtain ⟨t1018, A120, H⟩ := H
      replace H : (if t1018 = true then ((spec_l02Normal.f k1 t1012).bind fun t1019 => ((spec_l03Add.f k1 x5_1 t1019).bind fun t1022 => (spec_ShrinkShape.l0 k1 l0 t1022 (wrap64 (x6_1 + 1))))) else (spec_ShrinkShape.l0 k1 l0 x5_1 (wrap64 (x6_1 + 1)))) = some (r1, r2) := H
      have A12 := Aside0.mk A120
      clear A120
      by_cases c13 : t1018 = true
      ·subst c13
       have H1 : ((spec_l02Normal.f k1 t1012).bind fun t1019 => ((spec_l03Add.f k1 x5_1 t1019).bind fun t1022 => (spec_ShrinkShape.l0 k1 l0 t1022 (wrap64 (x6_1 + 1))))) = some (r1, r2) := by rw [if_pos rfl] at H; exact H
       clear H
       have H := H1
       clear H1
       replace H := Option.bind_eq_some_iff.mp H
       obtain ⟨t1019, A140, H⟩ := H
       replace H : ((spec_l03Add.f k1 x5_1 t1019).bind fun t1022 => (spec_ShrinkShape.l0 k1 l0 t1022 (wrap64 (x6_1 + 1)))) = some (r1, r2) := H
       have A14 := Aside0.mk A140
       clear A140
       replace H := Option.bind_eq_some_iff.mp H
       obtain ⟨t1022, A150, H⟩ := H
       replace H : (spec_ShrinkShape.l0 k1 l0 t1022 (wrap64 (x6_1 + 1))) = some (r1, r2) := H
       have A15 := Aside0.mk A150
       clear A150
       have H' := Aside0.mk H
       clear H
       go_wp2_with (first | ((with_reducible refine gate_callee (f := 84) rfl ?_); refine goesL_ (some 25) rfl rfl Try.func84 (by kernel_rfl) rfl #[.slice A0 l0.length c0, .int .i64 x6_1] rfl (by (try simp only [List.map_toArray, List.map_cons, List.map_nil]); first | done | rfl) ?_; (with_reducible refine (spec_l05Without.calls _ _ l0 x6_1 t1012 _ ?side1 ?side2 A10.out).mono ?_); (case side1 => repeat (first | exact (Kd.C_below HR0.out HB.out) | (with_reducible refine Kd.C_alloc ?_ _) | (with_reducible refine Kd.C_drewN ?_ _) | (with_reducible refine Kd.C_drew ?_))); (case side2 => exact HC0.out); rintro e w16 ⟨v1013, rfl, ho0, hb⟩; refine ⟨_, rfl, ?_⟩; have n0_ := Aside0.mk (Kd.V_elder' (by (with_reducible repeat (first | apply Kd.V_alloc | apply Kd.V_drewN | apply Kd.V_drew)); exact HO_5.out) (Kd.R_base ho0) hb); have n1_ := Aside0.mk (Kd.R_lower (Kd.R_newM (M := fun k_ => (w.heap.size ≤ k_)) ho0 (below_size (by repeat (with_reducible first | exact HB.out | apply below_alloc | apply pw_below_drewN | apply below_drew1))) (fun k_ h_ => h_)) (below_size (by repeat (with_reducible first | exact HB.out | apply below_alloc | apply pw_below_drewN | apply below_drew1)))); have n2_ := Aside0.mk (below_step (by repeat (with_reducible first | exact HB.out | apply below_alloc | apply pw_below_drewN | apply below_drew1)) hb); clear HO_5; clear HB; have HO_5 := n0_; have HO1014 := n1_; have HB := n2_; clear n0_ n1_ n2_; (try clear hb); (try clear ho0); obtain ⟨Ao17, co17, eo17⟩ := Kd.R_slice HO1014.out; subst eo17) | ((with_reducible refine gate_callee (f := 70) rfl ?_); refine goesL_ (some 27) rfl rfl Try.func70 (by kernel_rfl) rfl #[.slice Ao17 t1012.length co17] rfl (by (try simp only [List.map_toArray, List.map_cons, List.map_nil]); first | done | rfl) ?_; (with_reducible refine (spec_l02Parts.calls k1 _ _ t1012 t1015 _ ?side1 ?side2 A11.out).mono ?_); (case side1 => repeat (first | exact (Kd.R_reads' HO1014.out).2.2 | (with_reducible refine Kd.C_alloc ?_ _) | (with_reducible refine Kd.C_drewN ?_ _) | (with_reducible refine Kd.C_drew ?_))); (case side2 => exact (Kd.R_reads' HO1014.out).2.1); rintro e w18 ⟨v1016, rfl, ho0, hb⟩; refine ⟨_, rfl, ?_⟩; have n0_ := Aside0.mk (Kd.V_elder' (by (with_reducible repeat (first | apply Kd.V_alloc | apply Kd.V_drewN | apply Kd.V_drew)); exact HO_5.out) (Kd.R_base ho0) hb); have n1_ := Aside0.mk (Kd.R_below (by (with_reducible repeat (first | apply Kd.R_alloc | apply Kd.R_drewN | apply Kd.R_drew)); exact HO1014.out) hb); have n2_ := Aside0.mk (Kd.R_lower (Kd.R_newM (M := fun k_ => (w.heap.size ≤ k_)) ho0 (below_size (by repeat (with_reducible first | exact HB.out | apply below_alloc | apply pw_below_drewN | apply below_drew1))) (fun k_ h_ => h_)) (below_size (by repeat (with_reducible first | exact HB.out | apply below_alloc | apply pw_below_drewN | apply below_drew1)))); have n3_ := Aside0.mk (below_step (by repeat (with_reducible first | exact HB.out | apply below_alloc | apply pw_below_drewN | apply below_drew1)) hb); clear HO_5; clear HO1014; clear HB; have HO_5 := n0_; have HO1014 := n1_; have HO1017 := n2_; have HB := n3_; clear n0_ n1_ n2_ n3_; (try clear hb); (try clear ho0); obtain ⟨Ao19, co19, eo19⟩ := Kd.R_slice HO1017.out; subst eo19) | ((with_reducible refine gate_callee (f := 74) rfl ?_); refine goesL_ (some 28) rfl rfl Try.func74 (by kernel_rfl) rfl #[.slice Ao19 t1015.length co19] rfl (by (try simp only [List.map_toArray, List.map_cons, List.map_nil]); first | done | rfl) ?_; (with_reducible refine (spec_l02One.calls k1 _ _ t1015 true _ ?side1 ?side2 A12.out).mono ?_); (case side1 => repeat (first | exact (Kd.R_reads' HO1017.out).2.2 | (with_reducible refine Kd.C_alloc ?_ _) | (with_reducible refine Kd.C_drewN ?_ _) | (with_reducible refine Kd.C_drew ?_))); (case side2 => exact (Kd.R_reads' HO1017.out).2.1); rintro e w' ⟨rfl, ⟨nd, rfl⟩⟩; refine ⟨_, rfl, ?_⟩) | ((with_reducible refine gate_callee (f := 86) rfl ?_); refine goesL_ (some 31) rfl rfl Try.func86 (by kernel_rfl) rfl #[.slice Ao17 t1012.length co17] rfl (by (try simp only [List.map_toArray, List.map_cons, List.map_nil]); first | done | rfl) ?_; (with_reducible refine (spec_l02Normal.calls k1 _ _ t1012 t1019 _ ?side1 ?side2 A14.out).mono ?_); (case side1 => repeat (first | exact (Kd.R_reads' HO1014.out).2.2 | (with_reducible refine Kd.C_alloc ?_ _) | (with_reducible refine Kd.C_drewN ?_ _) | (with_reducible refine Kd.C_drew ?_))); (case side2 => exact (Kd.R_reads' HO1014.out).2.1); rintro e w20 ⟨v1020, rfl, ho0, hb⟩; refine ⟨_, rfl, ?_⟩; have n0_ := Aside0.mk (Kd.V_elder' (by (with_reducible repeat (first | apply Kd.V_alloc | apply Kd.V_drewN | apply Kd.V_drew)); exact HO_5.out) (Kd.R_base ho0) hb); have n1_ := Aside0.mk (Kd.R_elder' (by (with_reducible repeat (first | apply Kd.R_alloc | apply Kd.R_drewN | apply Kd.R_drew)); exact HO1014.out) (Kd.R_base ho0) hb); have n2_ := Aside0.mk (Kd.R_below (by (with_reducible repeat (first | apply Kd.R_alloc | apply Kd.R_drewN | apply Kd.R_drew)); exact HO1017.out) hb); have n3_ := Aside0.mk (Kd.R_lower (Kd.R_new' (Kd.R_newM (M := fun k_ => (w.heap.size ≤ k_)) ho0 (below_size (by repeat (with_reducible first | exact HB.out | apply below_alloc | apply pw_below_drewN | apply below_drew1))) (fun k_ h_ => h_)) (Kd.R_lt (by (with_reducible repeat (first | apply Kd.R_alloc | apply Kd.R_drewN | apply Kd.R_drew)); exact HO1014.out))) (below_size (by repeat (with_reducible first | exact HB.out | apply below_alloc | apply pw_below_drewN | apply below_drew1)))); have n4_ := Aside0.mk (below_step (by repeat (with_reducible first | exact HB.out | apply below_alloc | apply pw_below_drewN | apply below_drew1)) hb); clear HO_5; clear HO1014; clear HO1017; clear HB; have HO_5 := n0_; have HO1014 := n1_; have HO1017 := n2_; have HO1021 := n3_; have HB := n4_; clear n0_ n1_ n2_ n3_ n4_; (try clear hb); (try clear ho0); obtain ⟨Ao21, co21, eo21⟩ := Kd.V_slice HO_5.out; subst eo21; obtain ⟨Ao22, co22, eo22⟩ := Kd.R_slice HO1021.out; subst eo22) | ((with_reducible refine gate_callee (f := 85) rfl ?_); refine goesL_ (some 32) rfl rfl Try.func85 (by kernel_rfl) rfl #[.slice Ao21 x5_1.length co21, .slice Ao22 t1019.length co22] rfl (by (try simp only [List.map_toArray, List.map_cons, List.map_nil]); first | done | rfl) ?_; (with_reducible refine (spec_l03Add.calls k1 (fun k_ => ((((w.heap.size ≤ k_) ∧ some k_ ≠ (.slice Ao17 t1012.length co17 : Value).ownBlock) ∧ some k_ ≠ (.slice Ao19 t1015.length co19 : Value).ownBlock) ∧ some k_ ≠ (.slice Ao22 t1019.length co22 : Value).ownBlock)) _ _ x5_1 (fun k_ => some k_ = (.slice Ao22 t1019.length co22 : Value).ownBlock) _ _ t1019 t1022 _ ?side1 ?side2 A15.out).mono ?_); (case side1 => exact HO_5.out); (case side2 => exact Kd.R_V (Kd.R_tight rfl (Kd.R_apart' (HO1021.out) (Kd.R_typed HO1017.out) (by decide)))); rintro e w23 ⟨v1023, rfl, ho0, hb⟩; refine ⟨_, rfl, ?_⟩; have n0_ := Aside0.mk (Kd.V_below (by (with_reducible repeat (first | apply Kd.V_alloc | apply Kd.V_drewN | apply Kd.V_drew)); exact HO_5.out) hb); have n1_ := Aside0.mk (Kd.R_below (by (with_reducible repeat (first | apply Kd.R_alloc | apply Kd.R_drewN | apply Kd.R_drew)); exact HO1014.out) hb); have n2_ := Aside0.mk (Kd.R_below (by (with_reducible repeat (first | apply Kd.R_alloc | apply Kd.R_drewN | apply Kd.R_drew)); exact HO1017.out) hb); have n3_ := Aside0.mk (Kd.R_below (by (with_reducible repeat (first | apply Kd.R_alloc | apply Kd.R_drewN | apply Kd.R_drew)); exact HO1021.out) hb); have n4_ := Aside0.mk (Kd.V_lower (Kd.V_mono (ok' := fun k_ => (w.heap.size ≤ k_) ∧ some k_ ≠ (.slice Ao17 t1012.length co17 : Value).ownBlock ∧ some k_ ≠ (.slice Ao19 t1015.length co19 : Value).ownBlock) ho0 (fun k_ hk_ => ⟨Or.elim hk_ (fun hs_ => Or.elim hs_ (fun hs_ => hs_.1.1.1) (fun hs_ => ((Kd.R_apart' (HO1021.out) (Kd.R_typed HO1017.out) (by decide)).1 k_ hs_.symm).1.1.1)) (fun hn_ => (Nat.le_trans (below_size (by repeat (with_reducible first | exact HB.out | apply below_alloc | apply pw_below_drewN | apply below_drew1))) hn_)), Or.elim hk_ (fun hs_ => Or.elim hs_ (fun hs_ => hs_.1.1.2) (fun hs_ => ((Kd.R_apart' (HO1021.out) (Kd.R_typed HO1017.out) (by decide)).1 k_ hs_.symm).1.2)) (fun hn_ => (Kd.fresh' (Kd.R_lt (by (with_reducible repeat (first | apply Kd.R_alloc | apply Kd.R_drewN | apply Kd.R_drew)); exact HO1014.out)) k_ hn_)), Or.elim hk_ (fun hs_ => Or.elim hs_ (fun hs_ => hs_.1.2) (fun hs_ => ((Kd.R_apart' (HO1021.out) (Kd.R_typed HO1017.out) (by decide)).1 k_ hs_.symm).2)) (fun hn_ => (Kd.fresh' (Kd.R_lt (by (with_reducible repeat (first | apply Kd.R_alloc | apply Kd.R_drewN | apply Kd.R_drew)); exact HO1017.out)) k_ hn_))⟩)) (below_size (by repeat (with_reducible first | exact HB.out | apply below_alloc | apply pw_below_drewN | apply below_drew1)))); have n5_ := Aside0.mk (below_step (by repeat (with_reducible first | exact HB.out | apply below_alloc | apply pw_below_drewN | apply below_drew1)) hb); clear HO_5; clear HO1014; clear HO1017; clear HO1021; clear HB; have HO_5 := n0_; have HO1014 := n1_; have HO1017 := n2_; have HO1021 := n3_; have HO1024 := n4_; have HB := n5_; clear n0_ n1_ n2_ n3_ n4_ n5_; (try clear hb); (try clear ho0)))
       go_roundg k1
       case measure => have := HK1.out; omega
       case rel => exact ⟨(t1022), (wrap64 (x6_1 + 1)), (by first | rfl | (simp; done) | (simp [*]; done)), H', ⟨by have := HK1.out; omega⟩, ⟨by (with_reducible repeat (first | apply Kd.V_alloc | apply Kd.V_drewN | apply Kd.V_drew)); exact Kd.V_mono HO1024.out (fun _ hk => hk.1)⟩, ⟨by repeat (with_reducible first | exact HB.out | apply below_alloc | apply pw_below_drewN | apply below_drew1)⟩⟩
      ·replace c13 := Bool.eq_false_iff.mpr c13
       subst c13
       have H1 : (spec_ShrinkShape.l0 k1 l0 x5_1 (wrap64 (x6_1 + 1))) = some (r1, r2) := by rw [if_neg (show ¬ (false = true) by decide)] at H; exact H
       clear H
       have H := H1
       clear H1
       have H' := Aside0.mk H
       clear H
       go_wp2_with (first | ((with_reducible refine gate_callee (f := 84) rfl ?_); refine goesL_ (some 25) rfl rfl Try.func84 (by kernel_rfl) rfl #[.slice A0 l0.length c0, .int .i64 x6_1] rfl (by (try simp only [List.map_toArray, List.map_cons, List.map_nil]); first | done | rfl) ?_; (with_reducible refine (spec_l05Without.calls _ _ l0 x6_1 t1012 _ ?side1 ?side2 A10.out).mono ?_); (case side1 => repeat (first | exact (Kd.C_below HR0.out HB.out) | (with_reducible refine Kd.C_alloc ?_ _) | (with_reducible refine Kd.C_drewN ?_ _) | (with_reducible refine Kd.C_drew ?_))); (case side2 => exact HC0.out); rintro e w24 ⟨v1013, rfl, ho0, hb⟩; refine ⟨_, rfl, ?_⟩; have n0_ := Aside0.mk (Kd.V_elder' (by (with_reducible repeat (first | apply Kd.V_alloc | apply Kd.V_drewN | apply Kd.V_drew)); exact HO_5.out) (Kd.R_base ho0) hb); have n1_ := Aside0.mk (Kd.R_lower (Kd.R_newM (M := fun k_ => (w.heap.size ≤ k_)) ho0 (below_size (by repeat (with_reducible first | exact HB.out | apply below_alloc | apply pw_below_drewN | apply below_drew1))) (fun k_ h_ => h_)) (below_size (by repeat (with_reducible first | exact HB.out | apply below_alloc | apply pw_below_drewN | apply below_drew1)))); have n2_ := Aside0.mk (below_step (by repeat (with_reducible first | exact HB.out | apply below_alloc | apply pw_below_drewN | apply below_drew1)) hb); clear HO_5; clear HB; have HO_5 := n0_; have HO1014 := n1_; have HB := n2_; clear n0_ n1_ n2_; (try clear hb); (try clear ho0); obtain ⟨Ao25, co25, eo25⟩ := Kd.R_slice HO1014.out; subst eo25) | ((with_reducible refine gate_callee (f := 70) rfl ?_); refine goesL_ (some 27) rfl rfl Try.func70 (by kernel_rfl) rfl #[.slice Ao25 t1012.length co25] rfl (by (try simp only [List.map_toArray, List.map_cons, List.map_nil]); first | done | rfl) ?_; (with_reducible refine (spec_l02Parts.calls k1 _ _ t1012 t1015 _ ?side1 ?side2 A11.out).mono ?_); (case side1 => repeat (first | exact (Kd.R_reads' HO1014.out).2.2 | (with_reducible refine Kd.C_alloc ?_ _) | (with_reducible refine Kd.C_drewN ?_ _) | (with_reducible refine Kd.C_drew ?_))); (case side2 => exact (Kd.R_reads' HO1014.out).2.1); rintro e w26 ⟨v1016, rfl, ho0, hb⟩; refine ⟨_, rfl, ?_⟩; have n0_ := Aside0.mk (Kd.V_elder' (by (with_reducible repeat (first | apply Kd.V_alloc | apply Kd.V_drewN | apply Kd.V_drew)); exact HO_5.out) (Kd.R_base ho0) hb); have n1_ := Aside0.mk (Kd.R_below (by (with_reducible repeat (first | apply Kd.R_alloc | apply Kd.R_drewN | apply Kd.R_drew)); exact HO1014.out) hb); have n2_ := Aside0.mk (Kd.R_lower (Kd.R_newM (M := fun k_ => (w.heap.size ≤ k_)) ho0 (below_size (by repeat (with_reducible first | exact HB.out | apply below_alloc | apply pw_below_drewN | apply below_drew1))) (fun k_ h_ => h_)) (below_size (by repeat (with_reducible first | exact HB.out | apply below_alloc | apply pw_below_drewN | apply below_drew1)))); have n3_ := Aside0.mk (below_step (by repeat (with_reducible first | exact HB.out | apply below_alloc | apply pw_below_drewN | apply below_drew1)) hb); clear HO_5; clear HO1014; clear HB; have HO_5 := n0_; have HO1014 := n1_; have HO1017 := n2_; have HB := n3_; clear n0_ n1_ n2_ n3_; (try clear hb); (try clear ho0); obtain ⟨Ao27, co27, eo27⟩ := Kd.R_slice HO1017.out; subst eo27) | ((with_reducible refine gate_callee (f := 74) rfl ?_); refine goesL_ (some 28) rfl rfl Try.func74 (by kernel_rfl) rfl #[.slice Ao27 t1015.length co27] rfl (by (try simp only [List.map_toArray, List.map_cons, List.map_nil]); first | done | rfl) ?_; (with_reducible refine (spec_l02One.calls k1 _ _ t1015 false _ ?side1 ?side2 A12.out).mono ?_); (case side1 => repeat (first | exact (Kd.R_reads' HO1017.out).2.2 | (with_reducible refine Kd.C_alloc ?_ _) | (with_reducible refine Kd.C_drewN ?_ _) | (with_reducible refine Kd.C_drew ?_))); (case side2 => exact (Kd.R_reads' HO1017.out).2.1); rintro e w' ⟨rfl, ⟨nd, rfl⟩⟩; refine ⟨_, rfl, ?_⟩))
       go_roundg k1
       case measure => have := HK1.out; omega
       case rel => exact ⟨(x5_1), (wrap64 (x6_1 + 1)), (by first | rfl | (simp; done) | (simp [*]; done)), H', ⟨by have := HK1.out; omega⟩, ⟨by (with_reducible repeat (first | apply Kd.V_alloc | apply Kd.V_drewN | apply Kd.V_drew)); exact Kd.V_mono HO_5.out (fun _ hk => hk.1.1)⟩, ⟨by repeat (with_reducible first | exact HB.out | apply below_alloc | apply pw_below_drewN | apply below_drew1)⟩⟩
     ·rw [if_neg c9] at H
      have c9b0 : decide (x6_1 < (l0.length : Int)) = false := decide_eq_false c9
      clear c9
      simp only [Option.some.injEq, Prod.mk.injEq] at H
      obtain ⟨rfl, rfl⟩ := H
      go_wp2
      go_ret2
      exact ⟨_, by first | rfl | (simp [*] <;> rfl), by (with_reducible repeat (first | apply Kd.V_alloc | apply Kd.V_drewN | apply Kd.V_drew)); exact HO_5.out, by repeat (with_reducible first | exact HB.out | apply below_alloc | apply pw_below_drewN | apply below_drew1)⟩
 ·rw [if_neg c3] at H
  have c3b0 : (t1008 == 0) = false := beq_eq_false_iff_ne.mpr c3
  have c3b1 : (t1008 != 0) = true := bne_iff_ne.mpr c3
  simp only [Option.some.injEq, Prod.mk.injEq] at H
  obtain ⟨rfl, rfl⟩ := H
  go_enter Try.func47, Try.ntmps47
  go_wp2_with (first | ((with_reducible refine gate_callee (f := 83) rfl ?_); refine goesL_ (some 9) rfl rfl Try.func83 (by kernel_rfl) rfl #[.slice A0 l0.length c0] rfl (by (try simp only [List.map_toArray, List.map_cons, List.map_nil]); first | done | rfl) ?_; (with_reducible refine (spec_l05Code.calls k _ _ l0 t1008 _ ?side1 ?side2 A2.out).mono ?_); (case side1 => repeat (first | exact HR0.out | (with_reducible refine Kd.C_alloc ?_ _) | (with_reducible refine Kd.C_drewN ?_ _) | (with_reducible refine Kd.C_drew ?_))); (case side2 => exact HC0.out); rintro e w28 ⟨rfl, hb⟩; refine ⟨_, rfl, ?_⟩; have n0_ := Aside0.mk (below_step (by repeat (with_reducible first | exact HB.out | apply below_alloc | apply pw_below_drewN | apply below_drew1)) hb); clear HB; have HB := n0_; clear n0_; (try clear hb)))
  go_ret2
  exact ⟨_, by first | rfl | (simp [*] <;> rfl), Kd.S_V (base := w.heap.size) (Kd.S_nil _ _ _ _ _), by repeat (with_reducible first | exact HB.out | apply below_alloc | apply pw_below_drewN | apply below_drew1)⟩

/-! ### impl_connectedCode: function 87 -/
def impl_connectedCode.f (k : Nat) (l0 : List (S42)) : Option (Int) := (impl_IsConnected.f k l0).bind fun t1025 => (if t1025 = true then ((impl_shapeCode.f k l0).bind fun t1026 => (some t1026)) else (some 1))
theorem impl_connectedCode.mono : ∀ a0 k, LeO (impl_connectedCode.f k a0) (impl_connectedCode.f (k + 1) a0) := by
 intro a0 k
 unfold impl_connectedCode.f
 repeat' first
   | (with_reducible exact impl_IsConnected.mono _ _)
   | (with_reducible exact impl_shapeCode.mono _ _)
   | (with_reducible exact LeO.refl _)
   | (with_reducible exact LeO.none _)
   | (with_reducible refine LeO.ite ?_ ?_)
   | (with_reducible refine LeO.bind ?_ (fun _ => ?_))
   | exact impl_IsConnected.mono _ _
   | exact impl_shapeCode.mono _ _
   | exact LeO.none _
   | refine LeO.ite ?_ ?_
   | refine LeO.bind ?_ (fun _ => ?_)
set_option maxHeartbeats 8000000 in
set_option maxRecDepth 100000 in
theorem impl_connectedCode.calls (k : Nat) (A0 : Option Addr) (c0 : Nat) (l0 : List (S42)) (r : Int) (w : World) (hr0 : Kd.C k42 w A0 l0.length l0) (hc0 : l0.length ≤ c0) (h : impl_connectedCode.f k l0 = some r) :
  Calls Try.prog 87 #[.slice A0 l0.length c0] w fun e w' => e = .returned (.int .i64 r) ∧ Below w.heap.size w w' := by
 have HR0 := Aside0.mk hr0
 have HC0 := Aside0.mk hc0
 clear hr0 hc0
 have HB := Aside0.mk (Below.refl w.heap.size w)
 have H : ((impl_IsConnected.f k l0).bind fun t1025 => (if t1025 = true then ((impl_shapeCode.f k l0).bind fun t1026 => (some t1026)) else (some 1))) = some r := h
 clear h
 replace H := Option.bind_eq_some_iff.mp H
 obtain ⟨t1025, A20, H⟩ := H
 replace H : (if t1025 = true then ((impl_shapeCode.f k l0).bind fun t1026 => (some t1026)) else (some 1)) = some r := H
 have A2 := Aside0.mk A20
 clear A20
 by_cases c3 : t1025 = true
 ·subst c3
  have H1 : ((impl_shapeCode.f k l0).bind fun t1026 => (some t1026)) = some r := by rw [if_pos rfl] at H; exact H
  clear H
  have H := H1
  clear H1
  replace H := Option.bind_eq_some_iff.mp H
  obtain ⟨t1026, A40, H⟩ := H
  replace H : (some t1026) = some r := H
  have A4 := Aside0.mk A40
  clear A40
  obtain rfl := Option.some.inj H
  go_enter Try.func87, Try.ntmps87
  go_wp2_with (first | ((with_reducible refine gate_callee (f := 35) rfl ?_); refine goesL_ (some 4) rfl rfl Try.func35 (by kernel_rfl) rfl #[.slice A0 l0.length c0] rfl (by (try simp only [List.map_toArray, List.map_cons, List.map_nil]); first | done | rfl) ?_; (with_reducible refine (impl_IsConnected.calls k _ _ l0 true _ ?side1 ?side2 A2.out).mono ?_); (case side1 => repeat (first | exact HR0.out | (with_reducible refine Kd.C_alloc ?_ _) | (with_reducible refine Kd.C_drewN ?_ _) | (with_reducible refine Kd.C_drew ?_))); (case side2 => exact HC0.out); rintro e w5 ⟨rfl, hb⟩; refine ⟨_, rfl, ?_⟩; have n0_ := Aside0.mk (below_step (by repeat (with_reducible first | exact HB.out | apply below_alloc | apply pw_below_drewN | apply below_drew1)) hb); clear HB; have HB := n0_; clear n0_; (try clear hb)) | ((with_reducible refine gate_callee (f := 57) rfl ?_); refine goesL_ (some 7) rfl rfl Try.func57 (by kernel_rfl) rfl #[.slice A0 l0.length c0] rfl (by (try simp only [List.map_toArray, List.map_cons, List.map_nil]); first | done | rfl) ?_; (with_reducible refine (impl_shapeCode.calls k _ _ l0 t1026 _ ?side1 ?side2 A4.out).mono ?_); (case side1 => repeat (first | exact (Kd.C_below HR0.out HB.out) | (with_reducible refine Kd.C_alloc ?_ _) | (with_reducible refine Kd.C_drewN ?_ _) | (with_reducible refine Kd.C_drew ?_))); (case side2 => exact HC0.out); rintro e w6 ⟨rfl, hb⟩; refine ⟨_, rfl, ?_⟩; have n0_ := Aside0.mk (below_step (by repeat (with_reducible first | exact HB.out | apply below_alloc | apply pw_below_drewN | apply below_drew1)) hb); clear HB; have HB := n0_; clear n0_; (try clear hb)))
  go_ret
  exact ⟨by first | rfl | (simp [*] <;> rfl), by repeat (with_reducible first | exact HB.out | apply below_alloc | apply pw_below_drewN | apply below_drew1)⟩
 ·replace c3 := Bool.eq_false_iff.mpr c3
  subst c3
  have H1 : (some 1) = some r := by rw [if_neg (show ¬ (false = true) by decide)] at H; exact H
  clear H
  have H := H1
  clear H1
  obtain rfl := Option.some.inj H
  go_enter Try.func87, Try.ntmps87
  go_wp2_with (first | ((with_reducible refine gate_callee (f := 35) rfl ?_); refine goesL_ (some 4) rfl rfl Try.func35 (by kernel_rfl) rfl #[.slice A0 l0.length c0] rfl (by (try simp only [List.map_toArray, List.map_cons, List.map_nil]); first | done | rfl) ?_; (with_reducible refine (impl_IsConnected.calls k _ _ l0 false _ ?side1 ?side2 A2.out).mono ?_); (case side1 => repeat (first | exact HR0.out | (with_reducible refine Kd.C_alloc ?_ _) | (with_reducible refine Kd.C_drewN ?_ _) | (with_reducible refine Kd.C_drew ?_))); (case side2 => exact HC0.out); rintro e w7 ⟨rfl, hb⟩; refine ⟨_, rfl, ?_⟩; have n0_ := Aside0.mk (below_step (by repeat (with_reducible first | exact HB.out | apply below_alloc | apply pw_below_drewN | apply below_drew1)) hb); clear HB; have HB := n0_; clear n0_; (try clear hb)))
  go_ret
  exact ⟨by first | rfl | (simp [*] <;> rfl), by repeat (with_reducible first | exact HB.out | apply below_alloc | apply pw_below_drewN | apply below_drew1)⟩

/-! ### slices_Delete_Cell: function 88, by hand -/
-- IMPORT Derived.Lib.SliceRun
-- COMMONS none
def slices_Delete_Cell.f (l0 : List S42) (a1 a2 : Int) : Option (List S42) := if (0 ≤ a1 ∧ a1 < (l0.length : Int)) ∧ a2 = a1 + 1 ∧ l0.length ≤ 8796093022208 then some (l0.eraseIdx a1.toNat) else none
def slices_Delete_Cell.T5 : Bool × List (List Nat × List Nat) := (true, [([], []), ([], []), ([0, 1], [0, 1]), ([], []), ([], []), ([3, 4], [3, 4]), ([2, 5], [2, 5]), ([6, 6, 0, 1, 2, 3, 4, 5, 6], [0, 3, 6])])
def slices_Delete_Cell.B5 : List Nat := [0, 0, 3, 0, 0, 24, 63, 127]
theorem slices_Delete_Cell.tab5 : rtab .any (opsOf Try.f88 5) = slices_Delete_Cell.T5 := by kernel_rfl
theorem slices_Delete_Cell.bits5 : waitsOk slices_Delete_Cell.T5.2 slices_Delete_Cell.B5 = true := by kernel_rfl
section
variable {P : Program} {ops : Array Oper} {o : Oper} {a : Act} {Q : Exit → Act → World → Prop} {Kc : Act → World → Prop}
theorem append_run_step {W w1 : World} {v u v1 : Value} (hw : Region.wanted o (yielded ops a.tmps) = true) (s x : Operand) (t : TypeId) (ho : o.op = .call { callee := .builtin .append, args := #[s, x], argTypes := #[t, t] }) (hs : a.eval s = v) (hx : a.eval x = u)
  (hrun : (Builtin.append_ #[t, t] o.type #[v, u]).run P W = .ok v1 w1) (h : Kc (a.put o.dst v1) w1) : if Region.wanted o (yielded ops a.tmps) = true then Oper.wp P o a W Kc Q else Kc (a.put o.dst undef) W :=
 by
 rw [if_pos hw]
 unfold Oper.wp execOp
 simp only [ho, resolve, invoke, builtin, Sem.run_bind, Sem.run_pure, Result.andThen_ok, List.map_toArray, List.map_cons, List.map_nil, hs, hx, hrun]
 exact h
end
theorem flatC_drop : ∀ (m : List S42) (k : Nat), flatC_ (m.drop k) = (flatC_ m).drop (k * 2) := by
 intro m
 induction m with
 | nil => intro k; simp [flatC_]
 | cons c r ih =>
  intro k
  cases k with
  | zero => rfl
  | succ k =>
   rw [List.drop_succ_cons, ih k, show (k + 1) * 2 = k * 2 + 2 by omega]; rfl
/-- the row's block, the cells behind i one place lower -/
theorem RowAt_.shift {w wr : World} {g cap : Nat} {l : List S42} (h : RowAt_ w g cap l.length l wr) (hn : l.length ≤ cap) (i : Nat) (hi : i < l.length) {cur : Array Value} (hb : wr.heap[g]? = some (.cells cur 42 (0, 0))) :
  RowAt_ w g cap (l.length - 1) (l.eraseIdx i) (wr.setRow g (cur.toList.take (i * 2) ++ flatC_ (l.drop (i + 1)) ++ cur.toList.drop (i * 2 + (flatC_ (l.drop (i + 1))).length)).toArray) := by
 obtain ⟨cur', hb', hs, ht⟩ := h.blk
 rw [hb] at hb'
 injection hb' with e
 injection e with e
 subst e
 have hfl : (flatC_ (l.drop (i + 1))).length = (l.length - (i + 1)) * 2 := by rw [flatC_length, List.length_drop]
 refine ⟨⟨_, setRow_heap _ _ _ _ _ _ hb, ?_, ?_⟩, by rw [List.length_eraseIdx]; simp only [hi, if_true], ?_⟩
 ·simp only [List.size_toArray, List.length_append, List.length_take, List.length_drop, hfl, Array.length_toList]; omega
 ·have e1 : l.eraseIdx i = l.take i ++ l.drop (i + 1) := List.eraseIdx_eq_take_drop_succ ..
  have e2 : flatC_ (l.take i ++ l.drop (i + 1)) = flatC_ (l.take i) ++ flatC_ (l.drop (i + 1)) := by unfold flatC_; rw [List.map_append, List.flatten_append]
  have e3 : cur.toList.take (i * 2) = flatC_ (l.take i) := by
   rw [flatC_take, ← ht, List.take_take]; congr 1; omega
  rw [e1, e2, e3]
  simp only [List.toList_toArray]
  rw [List.take_append_of_le_length (by rw [List.length_append, hfl, flatC_length, List.length_take]; omega), List.take_of_length_le (by rw [List.length_append, hfl, flatC_length, List.length_take]; omega)]
 ·refine ⟨h.grown.os, h.grown.tape, h.grown.output, ?_, fun k hk hne => ?_⟩
  ·have := h.grown.size; simpa [World.setRow] using this
  ·have hkg : k ≠ g := fun e => hne (by rw [e])
   rw [← h.grown.block k hk hne]
   simp [World.setRow, Array.getElem?_modify, Ne.symm hkg]
set_option maxHeartbeats 4000000 in
set_option maxRecDepth 100000 in
theorem delete_walk (g cap i : Nat) (l : List S42) (w : World) (hi : i < l.length) (hn : l.length ≤ cap) (hl : l.length ≤ 8796093022208) (hmax : cap ≤ maxLen) (h : RowAt_ w g cap l.length l w) :
  Calls Try.prog 88 #[.slice (some ⟨g, 0, none⟩) l.length cap, .int .i64 i, .int .i64 ((i : Int) + 1)] w fun e w' => e = .returned (.slice (some ⟨g, 0, none⟩) (l.length - 1) cap) ∧ RowAt_ w g cap (l.length - 1) (l.eraseIdx i) w' := by
 have hu1 := Try.underlying27
 simp only [maxLen] at hmax
 have p1 : 0 ≤ (i : Int) := by omega
 have p2 : (i : Int) ≤ (i : Int) + 1 := by omega
 have p3 : (i : Int) + 1 ≤ (l.length : Int) := by omega
 have p4 : (l.length : Int) ≤ (cap : Int) := by omega
 have p5 : 0 ≤ (i : Int) + 1 := by omega
 have p6 : (i : Int) ≤ (cap : Int) := by omega
 have z1 : ((i : Int) == (i : Int) + 1) = false := beq_eq_false_iff_ne.2 (by omega)
 have HR := Aside0.mk h
 have HI := Aside0.mk hi
 clear h
 go_enter Try.func88, Try.ntmps88
 go_wp2_with fail
 obtain ⟨cur, hcur, hcs, hct⟩ := HR.out.blk
 obtain ⟨i0, hi0, hz0, hsz0, hby0⟩ := info_parts info42
 have hcut1 := cut_to (P := Try.prog) 27 42 .i64 hu1 hi0 (some ⟨g, 0, none⟩) l.length cap (i : Int) p1 (by omega) hn
 have hcut2 := cut_from (P := Try.prog) 27 42 .i64 hu1 hi0 2 hsz0 (some ⟨g, 0, none⟩) l.length cap ((i : Int) + 1) p5 p3
 rw [show ((i : Int)).toNat = i from Int.toNat_natCast i] at hcut1
 rw [show ((i : Int) + 1).toNat = i + 1 by omega] at hcut2
 obtain ⟨A2, hA2⟩ : ∃ A2 : Addr, (if cap = i + 1 then some (⟨g, 0, none⟩ : Addr) else (some (⟨g, 0, none⟩ : Addr)).map (·.add ((i + 1) * 2))) = some A2 ∧ (cap ≠ i + 1 → A2 = ⟨g, (i + 1) * 2, none⟩) := by
  by_cases hc : cap = i + 1
  ·exact ⟨⟨g, 0, none⟩, by rw [if_pos hc], fun h => absurd hc h⟩
  ·exact ⟨⟨g, (i + 1) * 2, none⟩, by rw [if_neg hc]; simp [Addr.add], fun _ => rfl⟩
 rw [hA2.1] at hcut2
 have HA2 := Aside0.mk hA2.2
 have HCUR := Aside0.mk hcur
 have HCS := Aside0.mk hcs
 have HCT := Aside0.mk hct
 have HI0 := Aside0.mk hi0
 clear hA2 hcur hcs hct hz0 hby0
 refine start_ (n := 8) (S := fun w' => True) (ds := []) #[F, F, F, F, F, F, F, F] (by kernel_rfl) rfl rfl trivial (fun hHeld => ?_); refine with_tabW slices_Delete_Cell.tab5 slices_Delete_Cell.bits5 (fun HT_ HW_ => ?_)
 refine pure_ (i := 0) (N := some 20) (v := ?_) (a' := ?_) #[T, F, F, F, F, F, F, F] rfl rfl (any_of HT_.out (by kernel_rfl)) (fun _ _ _ h => h) (Or.inl ⟨by rfl, ?_⟩) ?_ ?_
 rotate_left
 ·intro w'
  go_simp
  with_reducible rfl
 rotate_left
 ·simp only [Act.put, List.setIfInBounds_toArray, List.set_cons_zero, List.set_cons_succ, i64_w, i32_w]
  rfl
 refine pure_ (i := 1) (N := some 21) (v := ?_) (a' := ?_) #[T, T, F, F, F, F, F, F] rfl rfl (any_of HT_.out (by kernel_rfl)) (fun _ _ _ h => h) (Or.inl ⟨by rfl, ?_⟩) ?_ ?_
 rotate_left
 ·intro w'
  go_simp
  with_reducible rfl
 rotate_left
 ·simp only [Act.put, List.setIfInBounds_toArray, List.set_cons_zero, List.set_cons_succ, i64_w, i32_w]
  rfl
 refine pure_ (i := 2) (N := some 22) (v := ?_) (a' := ?_) #[T, T, T, F, F, F, F, F] rfl rfl (any_of HT_.out (by kernel_rfl)) (fun _ _ _ h => h) (Or.inl ⟨by rfl, ?_⟩) ?_ ?_
 rotate_left
 ·intro w'
  go_simp
  with_reducible rfl
 rotate_left
 ·simp only [Act.put, List.setIfInBounds_toArray, List.set_cons_zero, List.set_cons_succ, i64_w, i32_w]
  rfl
 refine pure_ (i := 3) (N := some 23) (v := ?_) (a' := ?_) #[T, T, T, T, F, F, F, F] rfl rfl (any_of HT_.out (by kernel_rfl)) (fun _ _ _ h => h) (Or.inl ⟨by rfl, ?_⟩) ?_ ?_
 rotate_left
 ·intro w'
  go_simp
  with_reducible rfl
 rotate_left
 ·simp only [Act.put, List.setIfInBounds_toArray, List.set_cons_zero, List.set_cons_succ, i64_w, i32_w]
  rfl
 refine pure_ (i := 4) (N := some 24) (v := ?_) (a' := ?_) #[T, T, T, T, T, F, F, F] rfl rfl (any_of HT_.out (by kernel_rfl)) (fun _ _ _ h => h) (Or.inl ⟨by rfl, ?_⟩) ?_ ?_
 rotate_left
 ·intro w'
  go_simp
  with_reducible rfl
 rotate_left
 ·simp only [Act.put, List.setIfInBounds_toArray, List.set_cons_zero, List.set_cons_succ, i64_w, i32_w]
  rfl
 refine pure_ (i := 5) (N := some 25) (v := ?_) (a' := ?_) #[T, T, T, T, T, T, F, F] rfl rfl (any_of HT_.out (by kernel_rfl)) (fun _ _ _ h => h) (Or.inl ⟨by rfl, ?_⟩) ?_ ?_
 rotate_left
 ·intro w'
  go_simp
  with_reducible rfl
 rotate_left
 ·simp only [Act.put, List.setIfInBounds_toArray, List.set_cons_zero, List.set_cons_succ, i64_w, i32_w]
  rfl
 obtain ⟨m, hm⟩ : ∃ m, m = l.length - 1 := ⟨_, rfl⟩
 obtain ⟨w1, hw1⟩ : ∃ w1, w1 = w.drew.setRow g (cur.toList.take (i * 2) ++ flatC_ (l.drop (i + 1)) ++ cur.toList.drop (i * 2 + (flatC_ (l.drop (i + 1))).length)).toArray := ⟨_, rfl⟩
 have hrow : RowAt_ w g cap m (l.eraseIdx i) w1 := by
  rw [hw1, hm]
  exact RowAt_.shift (HR.out.drew 1) hn i hi HCUR.out
 have hfl : (flatC_ (l.drop (i + 1))).length = (l.length - (i + 1)) * 2 := by rw [flatC_length, List.length_drop]
 have hrun : ∀ ty, (Builtin.append_ #[27, 27] ty #[.slice (some ⟨g, 0, none⟩) i cap, .slice (some A2) (l.length - (i + 1)) (cap - (i + 1))]).run Try.prog w.drew = .ok (.slice (some ⟨g, 0, none⟩) m cap) w1 := by
  intro ty
  have h := run_append_room (P := Try.prog) w.drew 27 ty 42 i0 hu1 HI0.out g i cap cur HCUR.out A2 (l.length - (i + 1)) (cap - (i + 1)) (flatC_ (l.drop (i + 1))) (by rw [hfl, hsz0]) (fun j u hj => ?_) (flatC_one _) (by omega) (by rw [hfl, hsz0, HCS.out]; omega)
  ·rw [h, hsz0, ← hw1, show i + (l.length - (i + 1)) = m by omega]
  ·have hjl : j < (l.length - (i + 1)) * 2 := by rw [← hfl]; exact (List.getElem?_eq_some_iff.1 hj).1
   rw [HA2.out (by omega)]
   have e : (⟨g, (i + 1) * 2, none⟩ : Addr).add j = ⟨g, (i + 1) * 2 + j, none⟩ := by simp [Addr.add]
   rw [e]
   refine (blk_cell (w := w.drew) HCUR.out _).trans ?_
   have e2 := flatC_drop l (i + 1)
   rw [e2, List.getElem?_drop, ← HCT.out, List.getElem?_take, if_pos (by omega), Array.getElem?_toList] at hj
   exact hj
 have HRUN := Aside0.mk hrun
 have HROW := Aside0.mk hrow
 have HM := Aside0.mk (show m + 1 = l.length by omega)
 clear hrun hrow hm hfl hw1
 refine one_ (i := 6) (N := some 26) #[T, T, T, T, T, T, T, F] rfl rfl (one_of HT_.out (by kernel_rfl)) (by decide) (fun K hK => ?_)
 refine append_run_step (by rfl) (.tmp 22) (.tmp 25) 27 rfl rfl rfl (HRUN.out _) ?_
 refine hK.out _ _ trivial (fun hHeld => ?_)
 clear hK K
 refine norm_ (a' := ?_) ?_ ?_
 rotate_left
 ·show Act.put _ (some 26) _ = _
  simp only [Act.put, List.setIfInBounds_toArray, List.set_cons_zero, List.set_cons_succ, i64_w, i32_w]
  rfl
 refine pure_ (i := 7) (N := some 0) (v := ?_) (a' := ?_) #[T, T, T, T, T, T, T, T] rfl rfl (any_of HT_.out (by kernel_rfl)) (fun _ _ _ h => h) (Or.inl ⟨by rfl, ?_⟩) ?_ ?_
 rotate_left
 ·intro w'
  go_simp
  with_reducible rfl
 rotate_left
 ·simp only [Act.put, List.setIfInBounds_toArray, List.set_cons_zero, List.set_cons_succ, i64_w, i32_w]
  rfl
 refine done_ (done_of HT_.out (by kernel_rfl)) ?_
 obtain ⟨cur1, hc1, hs1, ht1⟩ := HROW.out.blk
 have hcl : ∀ ty, (Builtin.clear_ #[27] ty #[.slice (some ⟨g, m * 2, none⟩) (l.length - m) (cap - m)]).run Try.prog w1 = .ok (.tuple #[]) (w1.setCells g (m * 2) (List.replicate ((l.length - m) * 2) (.int .i64 0))) := by
  intro ty
  refine clear_cells w1 ty g _ _ _ (by have := HM.out; omega) (fun j hj => ?_) (fun j hj => blk_frozen hc1 _)
  rw [blk_cell hc1, Array.getElem?_eq_getElem (by have := HM.out; omega)]; rfl
 have hmc : ¬ cap = m := by have := HM.out; omega
 have pm : 0 ≤ (m : Int) := by omega
 have qm : (m : Int) ≤ (l.length : Int) := by have := HM.out; omega
 have HC1 := Aside0.mk hc1
 have HS1 := Aside0.mk hs1
 have HT1 := Aside0.mk ht1
 clear hcut1 hcut2 hc1 hs1 ht1 hHeld HT_ HW_ HRUN HCUR HCS HCT HA2
 go_wp2_with fail
 go_ret
 obtain ⟨cur2, d1, d2, d3, d4, d5, d6, d7, d8⟩ := setCells_blk g (List.replicate ((l.length - m) * 2) (.int .i64 0)) (m * 2) w1 cur1 HC1.out
 have hG := HROW.out.grown
 have hm1 : l.length - 1 = m := by have := HM.out; omega
 rw [hm1]
 refine ⟨rfl, ⟨⟨cur2, d1, by rw [d2]; exact HS1.out, ?_⟩, HROW.out.len, ⟨by rw [d6]; exact hG.os, by rw [d7]; exact hG.tape, by rw [d8]; exact hG.output, by rw [d5]; exact hG.size, fun k hk hne => (d4 k (fun e => hne (by rw [e]))).trans (hG.block k hk hne)⟩⟩⟩
 rw [← HT1.out]
 apply List.ext_getElem?
 intro j
 rw [List.getElem?_take, List.getElem?_take]
 by_cases hj : j < m * 2
 ·rw [if_pos hj, if_pos hj, Array.getElem?_toList, Array.getElem?_toList]; exact d3 j hj
 ·rw [if_neg hj, if_neg hj]
theorem slices_Delete_Cell.calls (P0_ : Nat → Prop) (u9000_ : Value) (l0 : List (S42)) (a1 a2 : Int) (r : List (S42)) (w0 w : World) (hB : Below w0.heap.size w0 w) (ho0 : Kd.R k42 42 w w0.heap.size P0_ u9000_ l0) (h : slices_Delete_Cell.f l0 a1 a2 = some r) :
  Calls Try.prog 88 #[u9000_, .int .i64 a1, .int .i64 a2] w fun e w' => ∃ v0_ : Value, e = .returned v0_ ∧ Kd.R k42 42 w' w0.heap.size (fun k_ => (P0_ k_ ∨ w.heap.size ≤ k_)) v0_ r ∧ Below w0.heap.size w0 w' ∧ Kept w w' (fun k_ => P0_ k_) := by
 unfold slices_Delete_Cell.f at h
 by_cases c : (0 ≤ a1 ∧ a1 < (l0.length : Int)) ∧ a2 = a1 + 1 ∧ l0.length ≤ 8796093022208
 rotate_left
 ·rw [if_neg c] at h; exact absurd h (by simp)
 rw [if_pos c] at h
 obtain rfl := Option.some.inj h
 obtain ⟨⟨c1, c2⟩, rfl, c3⟩ := c
 obtain ⟨i, rfl⟩ : ∃ i : Nat, a1 = (i : Int) := ⟨a1.toNat, by omega⟩
 rw [Int.toNat_natCast]
 have hi : i < l0.length := by omega
 obtain ⟨hok, inner, ⟨hlen, hv⟩, hreps⟩ := ho0
 have hin : inner = flatC_ l0 := flatC_of_reps (fun x cs hx => kC_M_inv hx) l0 inner hreps
 rcases hv with ⟨_, hn⟩ | ⟨g, cap, cur, rfl, hge, hblk, hcap, hmax, hcur, htake⟩
 ·exact absurd hn (by omega)
 ·have hrow : RowAt_ w g cap l0.length l0 w := ⟨⟨cur, hblk, hcur, by rw [← hin, ← htake]; rfl⟩, rfl, ⟨rfl, rfl, rfl, Nat.le_refl _, fun _ _ _ => rfl⟩⟩
  refine (delete_walk g cap i l0 w hi hcap c3 hmax hrow).mono ?_
  rintro e w' ⟨rfl, hr⟩
  obtain ⟨cur2, b1, b2, b3⟩ := hr.blk
  have hg1 := hr.grown
  have hle : (l0.eraseIdx i).length = l0.length - 1 := hr.len
  rw [← hle] at b3 ⊢
  exact ⟨_, rfl, ownC_R ⟨by rw [flatC_length], Or.inr ⟨g, cap, cur2, rfl, hge, b1, by omega, hmax, b2, b3⟩⟩ (fun k hk => Or.inl (hok k hk)), hB.grown hg1 hB.size (fun k hk => by cases hk; exact hge), ⟨hg1.size, fun i hi hn => hg1.block i hi (fun he => hn (by cases he; exact hok g rfl))⟩⟩

/-! ### impl_ShrinkShape: function 48, by hand -/
-- COMMONS none
def impl_ShrinkShape.go (k : Nat) (l0 : List S42) : Nat → Nat → Option (List (List S42))
 | 0, _ => some []
 | d + 1, i => (impl_connected.f k (l0.eraseIdx i)).bind fun b => if b = true then ((impl_normal.f k (l0.eraseIdx i)).bind fun s => (impl_ShrinkShape.go k l0 d (i + 1)).bind fun r => some (s :: r)) else impl_ShrinkShape.go k l0 d (i + 1)
def impl_ShrinkShape.f (k : Nat) (l0 : List S42) : Option (List (List S42) × Int) :=
 (impl_connectedCode.f k l0).bind fun t => if t = 0 then (if (l0.length : Int) = 1 then some (([] : List (List S42)), 5) else if l0.length ≤ 1000000 then ((impl_ShrinkShape.go k l0 l0.length 0).bind fun o => (impl_tidyShapes.f k o).bind fun q => some (q, 0)) else none) else some (([] : List (List S42)), t)
theorem impl_ShrinkShape.go_mono (k : Nat) (l0 : List S42) : ∀ d i, LeO (impl_ShrinkShape.go k l0 d i) (impl_ShrinkShape.go (k + 1) l0 d i) := by
 intro d
 induction d with
 | zero => intro i; exact LeO.refl _
 | succ d ih => intro i; exact LeO.bind (impl_connected.mono _ _) fun b => LeO.ite (LeO.bind (impl_normal.mono _ _) fun s => LeO.bind (ih _) fun _ => LeO.refl _) (ih _)
theorem impl_ShrinkShape.mono : ∀ a0 k, LeO (impl_ShrinkShape.f k a0) (impl_ShrinkShape.f (k + 1) a0) := by
 intro a0 k
 unfold impl_ShrinkShape.f
 exact LeO.bind (impl_connectedCode.mono _ _) fun t => LeO.ite (LeO.ite (LeO.refl _) (LeO.ite (LeO.bind (impl_ShrinkShape.go_mono k a0 _ _) fun o => LeO.bind (impl_tidyShapes.mono _ _) fun _ => LeO.refl _) (LeO.refl _))) (LeO.refl _)
set_option maxHeartbeats 8000000 in
set_option maxRecDepth 100000 in
theorem impl_ShrinkShape.calls (k : Nat) (A0 : Option Addr) (c0 : Nat) (l0 : List S42) (r1 : List (List S42)) (r2 : Int) (w : World) (hr0 : Kd.C k42 w A0 l0.length l0) (hc0 : l0.length ≤ c0) (h : impl_ShrinkShape.f k l0 = some (r1, r2)) :
  Calls Try.prog 48 #[.slice A0 l0.length c0] w fun e w' => ∃ v0_ : Value, e = .returned (.tuple #[v0_, .int .i64 r2]) ∧ Kd.S (Kd.slice 42 k42) 27 w' w.heap.size (fun _ => True) v0_ r1 ∧ Below w.heap.size w w' := by
 have HR0 := Aside0.mk hr0
 have HC0 := Aside0.mk hc0
 clear hr0 hc0
 obtain ⟨t, ht, h⟩ := Option.bind_eq_some_iff.mp h
 have HT := Aside0.mk ht
 clear ht
 by_cases c : t = 0
 rotate_left
 ·rw [if_neg c] at h
  simp only [Option.some.injEq, Prod.mk.injEq] at h
  obtain ⟨rfl, rfl⟩ := h
  have c3b0 : (t == 0) = false := beq_eq_false_iff_ne.mpr c
  have c3b1 : (t != 0) = true := bne_iff_ne.mpr c
  go_enter Try.func48, Try.ntmps48
  go_wp2_with fail
  refine (impl_connectedCode.calls k A0 c0 l0 t _ HR0.out HC0.out HT.out).mono ?_
  rintro e w1 ⟨rfl, hb⟩
  have HB1 := Aside0.mk hb
  clear hb
  go_wp2_with fail
  go_ret2
  exact ⟨_, rfl, Kd.S_nil _ _ _ _ _, HB1.out⟩
 rw [if_pos c] at h
 subst c
 have HL := Aside0.mk (show l0.length ≤ 9223372036854775807 from HR0.out.2.1)
 by_cases c1 : (l0.length : Int) = 1
 ·rw [if_pos c1] at h
  simp only [Option.some.injEq, Prod.mk.injEq] at h
  obtain ⟨rfl, rfl⟩ := h
  have b1 : ((l0.length : Int) == 1) = true := beq_iff_eq.2 c1
  have b2 : ((l0.length : Int) != 1) = false := by simp [bne, b1]
  have b3 : (l0.length == 1) = true := beq_iff_eq.2 (by omega)
  have b4 : (l0.length != 1) = false := by simp [bne, b3]
  clear c1
  go_enter Try.func48, Try.ntmps48
  go_wp2_with fail
  refine (impl_connectedCode.calls k A0 c0 l0 0 _ HR0.out HC0.out HT.out).mono ?_
  rintro e w1 ⟨rfl, hb⟩
  have HB1 := Aside0.mk hb
  clear hb
  go_wp2_with fail
  go_ret2
  exact ⟨_, rfl, Kd.S_nil _ _ _ _ _, HB1.out⟩
 have b1 : ((l0.length : Int) == 1) = false := beq_eq_false_iff_ne.2 c1
 have b2 : ((l0.length : Int) != 1) = true := by simp [bne, b1]
 have b3 : (l0.length == 1) = false := beq_eq_false_iff_ne.2 (by omega)
 have b4 : (l0.length != 1) = true := by simp [bne, b3]
 rw [if_neg c1] at h
 clear c1
 by_cases c2 : l0.length ≤ 1000000
 rotate_left
 ·rw [if_neg c2] at h; exact absurd h (by simp)
 rw [if_pos c2] at h
 obtain ⟨o, ho, h⟩ := Option.bind_eq_some_iff.mp h
 obtain ⟨q, hq, h⟩ := Option.bind_eq_some_iff.mp h
 simp only [Option.some.injEq, Prod.mk.injEq] at h
 obtain ⟨rfl, rfl⟩ := h
 have HGO := Aside0.mk ho
 have HQ := Aside0.mk hq
 have HX := Aside0.mk c2
 have hu1 := Try.underlying43
 clear ho hq c2
 go_enter Try.func48, Try.ntmps48
 go_wp2_with fail
 refine (impl_connectedCode.calls k A0 c0 l0 0 _ HR0.out HC0.out HT.out).mono ?_
 rintro e w1 ⟨rfl, hb⟩
 have HB1 := Aside0.mk hb
 clear hb
 go_wp2_with ((with_reducible refine gate_dst (N := 16) rfl ?_); refine Kd.S_lit (Kd.slice 42 k42) _ 27 ?hg (N := 16) ?hd (xs := ([] : List (List S42))) (inner := []) (ok := fun _ => True) (okp := fun _ => True) ?hr ?hp (fun _ hk => hk) trivial (Below.refl _ _) (Nat.le_refl _) (by simp) ?_; (case hd => rfl); (case hg => rfl); (case hr => first | (go_simp; done) | (go_simp; rfl)); (case hp => exact (Reps.none _ _)); intro v16 w16 ho16 hb16 hg_ hnew_; clear hg_ hnew_; have HO := Aside0.mk (Kd.S_lower ho16 (below_size HB1.out)); have HB := Aside0.mk (below_step HB1.out hb16); clear ho16 hb16 HB1)
 go_loopg [5, 19] l0.length (fun gk v5 v19 wr => ∃ (i : Nat) (acc rest : List (List S42)), v19 = .int .i64 i ∧ Aside0 (gk + i = l0.length) ∧ Aside0 (impl_ShrinkShape.go k l0 gk i = some rest) ∧ Aside0 (acc ++ rest = o) ∧ Aside0 (acc.length ≤ i) ∧ Aside0 (Kd.S (Kd.slice 42 k42) 27 wr w.heap.size (fun _ => True) v5 acc) ∧ Aside0 (Below w.heap.size w wr))
 case atStart => exact ⟨0, [], o, rfl, ⟨rfl⟩, HGO, ⟨rfl⟩, ⟨Nat.zero_le _⟩, HO, HB⟩
 case round =>
  clear HGO HO HB
  obtain ⟨i, acc, rest, rfl, HI, HGO, HA, HAL, HO, HB⟩ := hrel
  obtain ⟨A5, c5, e5⟩ := Kd.S_slice HO.out
  subst e5
  cases gk with
  | zero =>
   have hi : i = l0.length := by have := HI.out; omega
   have d3 : decide ((i : Int) < (l0.length : Int)) = false := decide_eq_false (by omega)
   have d4 : decide (i < l0.length) = false := decide_eq_false (by omega)
   have hs2 : some [] = some rest := HGO.out
   obtain rfl := Option.some.inj hs2
   have ha := HA.out
   rw [List.append_nil] at ha
   subst ha
   clear hi hs2 HGO HA
   go_wp2_with fail
   refine (tidy_walk _ acc q w _ HB.out HO.out k HQ.out).mono ?_
   rintro e w3 ⟨v3, rfl, hS3, hb3⟩
   have HS3 := Aside0.mk hS3
   have HB3 := Aside0.mk hb3
   clear hS3 hb3
   go_wp2_with fail
   go_ret2
   exact ⟨_, rfl, HS3.out, HB3.out⟩
  | succ gi =>
   have hi : i < l0.length := by have := HI.out; omega
   have hbig : l0.length ≤ 1000000 := HX.out
   have p1 : 0 ≤ (i : Int) := by omega
   have d3 : decide ((i : Int) < (l0.length : Int)) = true := decide_eq_true (by omega)
   have d4 : decide (i < l0.length) = true := decide_eq_true hi
   have hg := HGO.out
   obtain ⟨b, hb, hg2⟩ := Option.bind_eq_some_iff.mp hg
   have HCN := Aside0.mk hb
   have hclone : slices_Clone_Cell.f l0 = some l0 := by unfold slices_Clone_Cell.f; rw [if_pos (by omega)]
   have hdel : slices_Delete_Cell.f l0 (i : Int) ((i : Int) + 1) = some (l0.eraseIdx i) := by unfold slices_Delete_Cell.f; rw [if_pos ⟨⟨by omega, by omega⟩, rfl, by omega⟩, Int.toNat_natCast]
   have HCL := Aside0.mk hclone
   have HDL := Aside0.mk hdel
   have hacc : acc.length ≤ 1000000 := by have := HAL.out; omega
   have HACC := Aside0.mk hacc
   have HG2 := Aside0.mk hg2
   clear hg hb hg2 hclone hdel hacc HGO
   go_wp2_with fail
   refine (slices_Clone_Cell.calls A0 c0 l0 l0 _ (Kd.C_below HR0.out HB.out) HC0.out HCL.out).mono ?_
   rintro e w2 ⟨v23, rfl, hR, hb⟩
   have HR2 := Aside0.mk hR
   have HB2 := Aside0.mk hb
   clear hR hb
   go_wp2_with fail
   refine (slices_Delete_Cell.calls (fun _ => True) v23 l0 (i : Int) ((i : Int) + 1) (l0.eraseIdx i) _ w2 HB2.out HR2.out HDL.out).mono ?_
   rintro e w3 ⟨v27, rfl, hR, hb, _⟩
   obtain ⟨A27, c27, e27, hl27, hC27⟩ := Kd.R_reads hR
   subst e27
   have HC27 := Aside0.mk hC27
   have HL27 := Aside0.mk hl27
   have HB3 := Aside0.mk hb
   clear hR hb hC27 hl27 HR2 HB2
   generalize l0.eraseIdx i = less at *
   go_wp2_with fail
   refine (impl_connected.calls k A27 c27 less b _ HC27.out HL27.out HCN.out).mono ?_
   rintro e w4 ⟨rfl, hb⟩
   have HC4 := Aside0.mk (Kd.C_below HC27.out hb)
   have HB4 := Aside0.mk (below_step HB3.out hb)
   clear hb HC27 HB3
   cases b with
   | false =>
    have hg := HG2.out
    rw [if_neg (by simp)] at hg
    have HGO := Aside0.mk hg
    have HO4 := Aside0.mk (Kd.S_below HO.out HB4.out)
    have HB5 := Aside0.mk (below_step HB.out HB4.out)
    clear hg HG2 HO HB HB4 HC4
    go_wp2_with fail
    go_roundg gi
    case measure => omega
    case rel => exact ⟨i + 1, acc, rest, by go_num, ⟨by have := HI.out; omega⟩, HGO, HA, ⟨by have := HAL.out; omega⟩, HO4, HB5⟩
   | true =>
    have hg := HG2.out
    rw [if_pos rfl] at hg
    obtain ⟨s, hs, hg2⟩ := Option.bind_eq_some_iff.mp hg
    obtain ⟨r, hr, hg3⟩ := Option.bind_eq_some_iff.mp hg2
    obtain rfl := Option.some.inj hg3
    have HS := Aside0.mk hs
    have HGO := Aside0.mk hr
    have HA2 := Aside0.mk (show (acc ++ [s]) ++ r = o by rw [List.append_assoc]; exact HA.out)
    clear hg hs hg2 hr hg3 HG2 HA
    go_wp2_with fail
    refine (impl_normal.calls k A27 c27 less s _ HC4.out HL27.out HS.out).mono ?_
    rintro e w5 ⟨v32, rfl, hR, hb⟩
    have HB5 := Aside0.mk (below_step HB4.out hb)
    have HB6 := Aside0.mk (below_step HB.out HB5.out)
    have HO5 := Aside0.mk (Kd.S_elder' HO.out (fun k hk => Nat.le_trans (below_size HB4.out) (Kd.R_base hR k hk)) HB5.out)
    have HR5 := Aside0.mk (Kd.R_lower hR (Nat.le_trans (below_size HB.out) (below_size HB4.out)))
    obtain ⟨A32, c32, e32⟩ := Kd.R_slice hR
    subst e32
    clear hR hb HC4 HB4 HB HO HB5
    go_wp2_with ((with_reducible refine gate_builtin (b := .append) (xs := #[.tmp 30, .tmp 33]) rfl ?_); at_builtin; refine Kd.S_append (Kd.slice 42 k42) (w0 := w) w.heap.size rfl (.tmp 30) (.tmp 33) 43 27 (.slice none 0 0) 24 rfl Try.underlying43 info27 rfl (by decide) (by omega) (.slice A5 acc.length c5) acc s [.slice A32 s.length c32] (fun _ => True) (fun k_ => some k_ = (.slice A32 s.length c32 : Value).ownBlock) rfl rfl ?aP (fun k_ hk_ => ((Kd.R_mono (ok' := fun k_ => ((fun _ => True)) k_ ∧ some k_ ≠ (.slice A5 acc.length c5 : Value).ownBlock) (Kd.R_apart' (HR5.out) (Kd.S_typed HO5.out) (by decide)) (fun k_ hk => ⟨trivial, hk.2⟩))).1 k_ hk_.symm) ?aF ?aO ?aB ?aS ?aL ?_; (case aP => exact Kd.M_row (Kd.R_mono (Kd.R_tight rfl (Kd.R_mono (ok' := fun k_ => ((fun _ => True)) k_ ∧ some k_ ≠ (.slice A5 acc.length c5 : Value).ownBlock) (Kd.R_apart' (HR5.out) (Kd.S_typed HO5.out) (by decide)) (fun k_ hk => ⟨trivial, hk.2⟩))) (fun _ h_ => h_))); (case aB => exact (by repeat (with_reducible first | exact HB6.out | apply below_alloc | apply pw_below_drewN | apply below_drew1))); (case aF => exact (fun _ _ => trivial)); (case aO => exact (by (with_reducible repeat (first | apply Kd.S_alloc | apply Kd.S_drewN | apply Kd.S_drew)); exact Kd.S_mono HO5.out (fun k_ hk => ⟨trivial, fun e_ => hk.2 e_⟩))); (case aS => exact (below_size (by repeat (with_reducible first | exact HB6.out | apply below_alloc | apply pw_below_drewN | apply below_drew1)))); (case aL => have := HACC.out; omega); intro v34 w34 ho hb hg hat; have HO7 := Aside0.mk ho; have HB7 := Aside0.mk hb; clear ho hb hg hat HO5 HR5 HB6)
    go_roundg gi
    case measure => omega
    case rel => exact ⟨i + 1, acc ++ [s], r, by go_num, ⟨by have := HI.out; omega⟩, HGO, HA2, ⟨by rw [List.length_append, List.length_singleton]; have := HAL.out; omega⟩, HO7, HB7⟩

/-! ### laws_FnExactShrinkShape: function 10, by hand -/
-- COMMONS none
def laws_FnExactShrinkShape.f (k : Nat) (l0 : List S56) : Option Bool :=
 (laws_szCellS.f l0 1048576).bind fun t => if t < 0 then some true else (laws_toCellS.f k l0).bind fun x => (spec_ShrinkShape.f k x).bind fun s => (impl_ShrinkShape.f k x).bind fun g => (laws_eqCellSS.f k g.1 s.1).bind fun b => (laws_eqCellS.f k x x).bind fun b2 => (laws_markCellS.f k x 1).bind fun mx => if (b = true ∧ g.2 = s.2) ∧ b2 = true ∧ ¬ mx.1 < 0 then (laws_markCellSS.f k g.1 1).bind fun m => (laws_heldCellSS.f k m.2 1).bind fun q => if q = m.1 ∧ ¬ q < 0 then some true else none else none
theorem laws_FnExactShrinkShape.mono : ∀ a0 k, LeO (laws_FnExactShrinkShape.f k a0) (laws_FnExactShrinkShape.f (k + 1) a0) := by
 intro a0 k
 unfold laws_FnExactShrinkShape.f
 exact LeO.bind (LeO.refl _) fun t => LeO.ite (LeO.refl _) (LeO.bind (laws_toCellS.mono _ _) fun x => LeO.bind (spec_ShrinkShape.mono _ _) fun s => LeO.bind (impl_ShrinkShape.mono _ _) fun g => LeO.bind (laws_eqCellSS.mono _ _ _) fun b => LeO.bind (laws_eqCellS.mono _ _ _) fun b2 => LeO.bind (laws_markCellS.mono _ _ _) fun mx => LeO.ite (LeO.bind (laws_markCellSS.mono _ _ _) fun m => LeO.bind (laws_heldCellSS.mono _ _ _) fun _ => LeO.refl _) (LeO.refl _))
set_option maxHeartbeats 8000000 in
set_option maxRecDepth 100000 in
theorem laws_FnExactShrinkShape.calls (k : Nat) (A0 : Option Addr) (c0 : Nat) (l0 : List S56) (r : Bool) (w : World) (hr0 : Kd.C k56 w A0 l0.length l0) (hc0 : l0.length ≤ c0) (h : laws_FnExactShrinkShape.f k l0 = some r) :
  Calls Try.prog 10 #[.slice A0 l0.length c0] w fun e w' => e = .returned (.bool r) ∧ Below w.heap.size w w' := by
 have HR0 := Aside0.mk hr0
 have HC0 := Aside0.mk hc0
 clear hr0 hc0
 obtain ⟨t, ht, h⟩ := Option.bind_eq_some_iff.mp h
 have HT := Aside0.mk ht
 clear ht
 by_cases ct : t < 0
 ·rw [if_pos ct] at h
  obtain rfl := Option.some.inj h
  have z1 : decide (t < 0) = true := decide_eq_true ct
  clear h ct
  go_enter Try.func10, Try.ntmps10
  go_wp2_with fail
  refine (laws_szCellS.calls A0 c0 l0 1048576 t _ HR0.out HC0.out HT.out).mono ?_
  rintro e w1 ⟨rfl, hd⟩
  obtain ⟨md, rfl⟩ := hd.out
  go_wp2_with fail
  go_ret
  exact ⟨rfl, pw_below_drewN (Below.refl _ _) md⟩
 rw [if_neg ct] at h
 obtain ⟨x, hx, h1⟩ := Option.bind_eq_some_iff.mp h
 obtain ⟨⟨s, sc⟩, hs, h2⟩ := Option.bind_eq_some_iff.mp h1
 obtain ⟨⟨g, gc⟩, hg, h3⟩ := Option.bind_eq_some_iff.mp h2
 obtain ⟨b, hb, h4⟩ := Option.bind_eq_some_iff.mp h3
 obtain ⟨b2, hb2, h5⟩ := Option.bind_eq_some_iff.mp h4
 obtain ⟨⟨mx, xl⟩, hmx, h6⟩ := Option.bind_eq_some_iff.mp h5
 obtain ⟨⟨⟨cb, cg⟩, cb2, cx⟩, h7⟩ := ite_some_ h6
 replace cg : gc = sc := cg
 replace cx : ¬ mx < 0 := cx
 clear h h1 h2 h3 h4 h5 h6
 obtain ⟨⟨m, ml⟩, hm, h8⟩ := Option.bind_eq_some_iff.mp h7
 obtain ⟨q, hq, h9⟩ := Option.bind_eq_some_iff.mp h8
 obtain ⟨⟨cq, c⟩, h10⟩ := ite_some_ h9
 replace cq : q = m := cq
 clear h7 h8 h9
 obtain rfl := Option.some.inj h10
 replace hb : laws_eqCellSS.f k g s = some b := hb
 replace hm : laws_markCellSS.f k g 1 = some (m, ml) := hm
 replace hq : laws_heldCellSS.f k ml 1 = some q := hq
 subst cb
 subst cb2
 subst cg
 subst cq
 have z0 : decide (t < 0) = false := decide_eq_false ct
 have z1 : (gc == gc) = true := beq_self_eq_true _
 have z2 : (gc != gc) = false := bne_self_eq_false _
 have z3 : (q == q) = true := beq_self_eq_true _
 have z4 : (q != q) = false := bne_self_eq_false _
 have z5 : decide (q < 0) = false := decide_eq_false c
 have z6 : decide (mx < 0) = false := decide_eq_false cx
 have HX := Aside0.mk hx
 have HS := Aside0.mk hs
 have HG := Aside0.mk hg
 have HE := Aside0.mk hb
 have HE2 := Aside0.mk hb2
 have HMX := Aside0.mk hmx
 have HM := Aside0.mk hm
 have HQ := Aside0.mk hq
 clear h10 hx hs hg hb hb2 hmx hm hq c cx ct
 go_enter Try.func10, Try.ntmps10
 go_wp2_with fail
 refine (laws_szCellS.calls A0 c0 l0 1048576 t _ HR0.out HC0.out HT.out).mono ?_
 rintro e w1 ⟨rfl, hd⟩
 obtain ⟨md, rfl⟩ := hd.out
 have HR1 := Aside0.mk (Kd.C_below HR0.out (pw_below_drewN (Below.refl _ _) md))
 have HB1 := Aside0.mk (pw_below_drewN (Below.refl w.heap.size w) md)
 clear hd HR0
 generalize w.drewN md = w1 at *
 go_wp2_with fail
 refine (laws_toCellS.calls k A0 c0 l0 x _ HR1.out HC0.out HX.out).mono ?_
 rintro e w2 ⟨v2, rfl, hR, hb⟩
 obtain ⟨A2, c2, e2⟩ := Kd.R_slice hR
 subst e2
 have HX2 := Aside0.mk (Kd.R_reads' hR).2
 have HR2 := Aside0.mk (Kd.C_below HR1.out hb)
 have HB2 := Aside0.mk (below_step HB1.out hb)
 clear hR hb HR1 HB1
 go_wp2_with fail
 refine (spec_ShrinkShape.calls k A2 c2 x s gc _ HX2.out.2 HX2.out.1 HS.out).mono ?_
 rintro e w3 ⟨v3, rfl, hv, hb⟩
 obtain ⟨A3, c3, e3⟩ := Kd.V_slice hv
 subst e3
 have HV3 := Aside0.mk (Kd.V_bound hv)
 have HR3 := Aside0.mk (Kd.C_below HR2.out hb)
 have HB3 := Aside0.mk (below_step HB2.out hb)
 clear hv hb HR2 HB2 HX2 HS
 go_wp2_with fail
 refine (laws_toCellS.calls k A0 c0 l0 x _ HR3.out HC0.out HX.out).mono ?_
 rintro e w4 ⟨v4, rfl, hR, hb⟩
 obtain ⟨A4, c4, e4⟩ := Kd.R_slice hR
 subst e4
 have HX4 := Aside0.mk hR
 have HB4 := Aside0.mk hb
 clear hR hb
 go_wp2_with fail
 refine (impl_ShrinkShape.calls k A4 c4 x g gc _ (Kd.R_reads' HX4.out).2.2 (Kd.R_reads' HX4.out).2.1 HG.out).mono ?_
 rintro e w5 ⟨v5, rfl, hS, hb⟩
 obtain ⟨A5, c5, e5⟩ := Kd.S_slice hS
 subst e5
 have HS5 := Aside0.mk hS
 have HB5 := Aside0.mk hb
 clear hS hb
 go_wp2_with fail
 refine (laws_eqCellSS.calls k A5 c5 g A3 c3 s true _ (Kd.S_reads' HS5.out).2.2 (Kd.S_reads' HS5.out).2.1 (Kd.V_reads' (Kd.V_below HV3.out (below_step HB4.out HB5.out))).2.2 (Kd.V_reads' HV3.out).2.1 HE.out).mono ?_
 rintro e w6 ⟨rfl, hb⟩
 have HS6 := Aside0.mk (Kd.S_below HS5.out hb)
 have HB6 := Aside0.mk (below_step HB5.out hb)
 clear hb HS5 HB5
 go_wp2_with fail
 refine (laws_toCellS.calls k A0 c0 l0 x _ (Kd.C_below HR3.out (below_step HB4.out HB6.out)) HC0.out HX.out).mono ?_
 rintro e w7 ⟨v7, rfl, hR, hb⟩
 obtain ⟨A7, c7, e7⟩ := Kd.R_slice hR
 subst e7
 have HX7 := Aside0.mk (Kd.R_reads' hR).2
 have HS7 := Aside0.mk (Kd.S_below HS6.out hb)
 have HB7 := Aside0.mk (below_step HB6.out hb)
 clear hR hb HS6 HB6
 go_wp2_with fail
 refine (laws_eqCellS.calls k A4 c4 x A7 c7 x true _ (Kd.R_reads' (Kd.R_below HX4.out HB7.out)).2.2 (Kd.R_reads' HX4.out).2.1 HX7.out.2 HX7.out.1 HE2.out).mono ?_
 rintro e w8 ⟨rfl, hb⟩
 have HS8 := Aside0.mk (Kd.S_below HS7.out hb)
 have HB8 := Aside0.mk (below_step HB7.out hb)
 have HX8 := Aside0.mk (Kd.R_tight rfl (Kd.R_below HX4.out HB8.out))
 have HBX := Aside0.mk (Kd.R_lt HX4.out)
 clear hb HS7 HB7 HX7 HX4
 go_wp2_with fail
 refine (laws_markCellS.calls k (fun k => some k = (Value.slice A4 x.length c4).ownBlock) _ x 1 mx xl w3 _ (below_step HB4.out HB8.out) HX8.out HMX.out).mono ?_
 rintro e w9 ⟨rfl, _, hb, hk⟩
 have HS9 := Aside0.mk (Kd.S_mono (ok' := fun _ => True) (Kd.S_lower (Kd.S_kept (Kd.S_bound HS8.out) hk (fun k h1 h2 => by have a := h1.2.1; have b := HBX.out k h2.symm; omega)) (below_size HB4.out)) (fun _ _ => trivial))
 have HB9 := Aside0.mk hb
 clear hb hk HS8 HB8 HX8 HBX
 go_wp2_with fail
 refine (laws_eqCellSS.calls k A5 c5 g A3 c3 s true _ (Kd.S_reads' HS9.out).2.2 (Kd.S_reads' HS9.out).2.1 (Kd.V_reads' (Kd.V_below HV3.out HB9.out)).2.2 (Kd.V_reads' HV3.out).2.1 HE.out).mono ?_
 rintro e w10 ⟨rfl, hb⟩
 have HS10 := Aside0.mk (Kd.S_below HS9.out hb)
 have HB10 := Aside0.mk (below_step HB9.out hb)
 clear hb HS9 HB9
 go_wp2_with fail
 refine (laws_markCellSS.calls k _ g 1 q ml w3 _ HB10.out HS10.out HM.out).mono ?_
 rintro e w11 ⟨rfl, hS, hb⟩
 have hlen := (Kd.S_reads' hS).1
 have HB11 := Aside0.mk hb
 have HH : Aside0 (∀ W, Below w11.heap.size w11 W → Calls Try.prog 42 #[.slice A5 g.length c5, .int .i64 1] W fun e w' => e = .returned (.int .i64 q) ∧ Below W.heap.size W w') := ⟨by
  intro W hW
  rw [hlen] at hS ⊢
  exact (laws_heldCellSS.calls k A5 c5 ml 1 q W (Kd.S_reads' (Kd.S_below hS hW)).2.2 (Kd.S_reads' hS).2.1 HQ.out).mono (fun e w' h => ⟨h.1, by obtain ⟨md, hd⟩ := h.2.out; rw [hd]; exact pw_below_drewN (Below.refl _ _) md⟩)⟩
 clear hS hb HS10 HB10 HM hlen
 go_wp2_with fail
 refine (HH.out _ (Below.refl _ _)).mono ?_
 rintro e w12 ⟨rfl, hb⟩
 have HB12 := Aside0.mk hb
 clear hb
 go_wp2_with fail
 refine (laws_toCellS.calls k A0 c0 l0 x _ (Kd.C_below HR3.out (below_step HB11.out HB12.out)) HC0.out HX.out).mono ?_
 rintro e w13 ⟨v13, rfl, hR, hb⟩
 obtain ⟨A13, c13, e13⟩ := Kd.R_slice hR
 subst e13
 have HX13 := Aside0.mk (Kd.R_reads' hR).2
 have HB13 := Aside0.mk (below_step HB12.out hb)
 clear hR hb HB12
 go_wp2_with fail
 refine (impl_ShrinkShape.calls k A13 c13 x g gc _ HX13.out.2 HX13.out.1 HG.out).mono ?_
 rintro e w14 ⟨v14, rfl, hS, hb⟩
 obtain ⟨A14, c14, e14⟩ := Kd.S_slice hS
 subst e14
 have HS14 := Aside0.mk hS
 have HB14 := Aside0.mk (below_step HB13.out hb)
 clear hS hb HB13 HX13
 go_wp2_with fail
 refine (laws_eqCellSS.calls k A14 c14 g A3 c3 s true _ (Kd.S_reads' HS14.out).2.2 (Kd.S_reads' HS14.out).2.1 (Kd.V_reads' (Kd.V_below HV3.out (below_step HB11.out HB14.out))).2.2 (Kd.V_reads' HV3.out).2.1 HE.out).mono ?_
 rintro e w15 ⟨rfl, hb⟩
 have HB15 := Aside0.mk (below_step HB14.out hb)
 clear hb HB14 HS14
 go_wp2_with fail
 refine (HH.out _ HB15.out).mono ?_
 rintro e w16 ⟨rfl, hb⟩
 have HB16 := Aside0.mk (below_step HB3.out (below_step HB11.out (below_step HB15.out hb)))
 clear hb HB15 HB11 HB3
 go_wp2_with fail
 go_ret
 exact ⟨rfl, HB16.out⟩

end Go.Proofs.Ytpilmhjbgbpbmaa.X
