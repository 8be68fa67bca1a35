-- xprint.py
import Derived.Test.YtbkafaoehheioaaXx0
import Derived.Test.YtbkafaoehheioaaXx4
import Derived.Test.YtbkafaoehheioaaXx6
import Derived.Test.YtbkafaoehheioaaXx8
namespace Go.Proofs.Ytbkafaoehheioaa.X
open Go.RowKit Go.Proofs.YtbkafaoehheioaaW.PrintWords Go.Proofs.YtbkafaoehheioaaW.PrintLast Go.Proofs.YtbkafaoehheioaaW.PrintMore
attribute [local go_sem] max2_int min2_int max_two min_two max_three min_three max_four min_four   -- for this text's walks alone
set_option linter.unusedVariables false
set_option linter.unusedSimpArgs false

/-! ### impl_grown: function 47 -/
/-- a call through a variable's function -/
theorem goesV_ {P : Program} {ops : Array Oper} {Q : Exit → Act → World → Prop} {oi : Oper} {N : Option Tmp} {a : Act} {w : World} {K : Act → World → Prop} {f : FuncId} {fn : Func} {x : Operand} {as_ : Array Operand} {ts : Array TypeId} (hf : P.funcs[f]? = some fn) (hname : (fn.name == "runtime.NumGoroutine") = false) (hb : fn.body.isSome = true) (args : Array Value)
  (hw : Region.wanted oi (yielded ops a.tmps) = true) (hN : oi.dst = N) (hop : oi.op = .call { callee := .value x, args := as_, argTypes := ts }) (hx : a.eval x = .func (.func f) #[] #[]) (hargs : as_.map a.eval = args)
  (h : Calls P f args w fun e w' => ∃ v, e = .returned v ∧ K (a.put N v) w') : if Region.wanted oi (yielded ops a.tmps) = true then Oper.wp P oi a w K Q else K (a.put N undef) w := by
 refine call_ f args hw hN ?_ h
 have he := enters_ hf hname hb args w
 unfold execOp
 simp [hop, hx, resolve, Deferred.ofValue, invoke, hargs, he]
def impl_grown.l0 : Nat → List (S55) → List (List (S55)) → List (S55) → Int → Int → Option ((List (List (S55))))
 | 0, _, _, _, _, _ => none
 | k + 1, x0, x7, x13, x14, x15 => if x15 < x14 then (if 0 ≤ x15 then (if x15 < (x13.length : Int) then ((slices_Clone_Cell.f x0).bind fun t532 => ((some (([(⟨(rd_T55 x13 x15).f0, (rd_T55 x13 x15).f1⟩ : S55)] : List (S55)) : List (S55))).bind fun y535 => (if t532.length + y535.length < 8796093022208 then ((impl_sorted.f (t532 ++ y535)).bind fun t541 => ((impl_normal.f k t541).bind fun t544 => ((some (([t544] : List (List (S55))) : List (List (S55)))).bind fun y547 => (if x7.length + y547.length < 5864062014805 then (impl_grown.l0 k x0 (x7 ++ y547) x13 x14 (wrap64 (x15 + 1))) else (none))))) else (none)))) else (none)) else (none)) else ((impl_tidyShapes.f k x7).bind fun t553 => (some t553))
def impl_grown.f (k : Nat) (l0 : List (S55))   : Option ((List (List (S55)))) := (impl_beside.f k l0).bind fun t527 => (impl_grown.l0 k l0 (([] : List (List (S55)))) t527 (t527.length : Int) 0)
theorem impl_grown.mono_l : ∀ k, (∀ y0 y1 y2 y3 y4, LeO (impl_grown.l0 k y0 y1 y2 y3 y4) (impl_grown.l0 (k + 1) y0 y1 y2 y3 y4))
 | 0 => fun _ _ _ _ _ r h => by simp [impl_grown.l0] at h
 | k + 1 => by
  have ih0 := impl_grown.mono_l k
  ·intro y0 y1 y2 y3 y4
   unfold impl_grown.l0
   repeat' first
   | (with_reducible exact ih0 _ _ _ _ _)
   | (with_reducible exact impl_beside.mono _ _)
   | (with_reducible exact impl_normal.mono _ _)
   | (with_reducible exact impl_tidyShapes.mono _ _)
   | (with_reducible exact LeO.refl _)
   | (with_reducible exact LeO.none _)
   | (with_reducible refine LeO.ite ?_ ?_)
   | (with_reducible refine LeO.bind ?_ (fun _ => ?_))
   | exact ih0 _ _ _ _ _
   | exact impl_beside.mono _ _
   | exact impl_normal.mono _ _
   | exact impl_tidyShapes.mono _ _
   | exact LeO.none _
   | refine LeO.ite ?_ ?_
   | refine LeO.bind ?_ (fun _ => ?_)
theorem impl_grown.mono : ∀ a0 k, LeO (impl_grown.f k a0) (impl_grown.f (k + 1) a0) := by
 intro a0 k
 have ih0 := impl_grown.mono_l k
 unfold impl_grown.f
 repeat' first
   | (with_reducible exact ih0 _ _ _ _ _)
   | (with_reducible exact impl_beside.mono _ _)
   | (with_reducible exact impl_normal.mono _ _)
   | (with_reducible exact impl_tidyShapes.mono _ _)
   | (with_reducible exact LeO.refl _)
   | (with_reducible exact LeO.none _)
   | (with_reducible refine LeO.ite ?_ ?_)
   | (with_reducible refine LeO.bind ?_ (fun _ => ?_))
   | exact ih0 _ _ _ _ _
   | exact impl_beside.mono _ _
   | exact impl_normal.mono _ _
   | exact impl_tidyShapes.mono _ _
   | exact LeO.none _
   | refine LeO.ite ?_ ?_
   | refine LeO.bind ?_ (fun _ => ?_)
def impl_grown.T5 : Bool × List (List Nat × List Nat) := (true, [([], []), ([], []), ([], []), ([2], [2]), ([], []), ([4], [4]), ([3, 5, 3], [3, 5]), ([6, 6], [6]), ([1, 7, 7], [1, 7]), ([8], [8]), ([0, 9, 8], [0, 9]), ([10, 10, 0, 1, 2, 3, 4, 5, 6, 7, 8, 9, 10], [0, 10])])
def impl_grown.B5 : List Nat := [0, 0, 0, 4, 0, 16, 60, 124, 254, 510, 1023, 2047]
theorem impl_grown.tab5 : rtab .any (opsOf Try.f47 5) = impl_grown.T5 := by kernel_rfl
theorem impl_grown.bits5 : waitsOk impl_grown.T5.2 impl_grown.B5 = true := by kernel_rfl
set_option maxHeartbeats 8000000 in
set_option maxRecDepth 100000 in
theorem impl_grown.calls (k : Nat) (A0 : Option Addr) (c0 : Nat) (l0 : List (S55))   (r : List (List (S55))) (w : World) (hr0 : Kd.C k55 w A0 l0.length l0) (hc0 : l0.length ≤ c0) (h : impl_grown.f k l0 = some r) :
  Calls Try.prog 47 #[.slice A0 l0.length c0, .func (.func 48) #[] #[], .func (.func 49) #[] #[]] w fun e w' => ∃ v0_ : Value, e = .returned (v0_) ∧ Kd.S (Kd.slice 55 k55) 27 w' w.heap.size (fun _ => True) v0_ r ∧ Below w.heap.size w w' := by
 have hu55 := Try.underlying55
 have HR0 := Aside0.mk hr0
 have HC0 := Aside0.mk hc0
 clear hr0 hc0
 have HB := Aside0.mk (Below.refl w.heap.size w)
 have H : ((impl_beside.f k l0).bind fun t527 => (impl_grown.l0 k l0 (([] : List (List (S55)))) t527 (t527.length : Int) 0)) = some r := h
 clear h
 obtain ⟨y524, hy524⟩ : ∃ y_ : List (List (S55)), y_ = (([] : List (List (S55)))) := ⟨_, rfl⟩
 replace H : ((impl_beside.f k l0).bind fun t527 => (impl_grown.l0 k l0 y524 t527 (t527.length : Int) 0)) = some r := by first | (rw [hy524]; with_reducible exact H) | (have H2_ := (Option.bind_some _ _).symm.trans H; rw [hy524]; with_reducible exact H2_) | (have H2_ := (Option.bind_some _ _).symm.trans H; with_reducible exact H2_) | with_reducible exact H | (rw [hy524]; exact H) | exact H
 have Ny524 := Aside0.mk hy524
 clear hy524
 replace H := Option.bind_eq_some_iff.mp H
 obtain ⟨t527, A40, H⟩ := H
 replace H : (impl_grown.l0 k l0 y524 t527 (t527.length : Int) 0) = some r := H
 have A4 := Aside0.mk A40
 clear A40
 have H' := Aside0.mk H
 clear H
 go_enter Try.func47, Try.ntmps47
 go_wp2_with (first | ((with_reducible refine gate_dst (N := 10) rfl ?_); refine Kd.S_lit (Kd.slice 55 k55) _ 27 ?hg (N := 10) ?hd (xs := ([] : List (List (S55)))) (inner := []) (ok := (fun k_ => (w.heap.size ≤ k_))) (okp := (fun k_ => (w.heap.size ≤ k_))) ?hr ?hp (fun _ hk => hk) ((show ∀ k_, w.heap.size ≤ k_ → (fun k_ => (w.heap.size ≤ k_)) k_ from fun k_ hk => (Nat.le_trans (below_size (by repeat (with_reducible first | exact HB.out | apply below_alloc | apply pw_below_drewN | apply below_drew1))) hk)) _ (Nat.le_refl _)) (Below.refl _ _) (Nat.le_refl _) (by simp) ?_; (case hd => rfl); (case hg => rfl); (case hr => first | (go_simp; done) | (go_simp; rfl)); (case hp => exact (Reps.none _ _)); intro v525 w5 ho6 hb hg_ hnew_; clear hg_ hnew_; (first | rw [← Ny524.out] at ho6 | (simp only [Int.reduceToNat] at ho6; rw [← Ny524.out] at ho6)); have n0_ := Aside0.mk (Kd.S_lower ho6 (below_size (by repeat (with_reducible first | exact HB.out | apply below_alloc | apply pw_below_drewN | apply below_drew1)))); have n1_ := Aside0.mk (below_step (by repeat (with_reducible first | exact HB.out | apply below_alloc | apply pw_below_drewN | apply below_drew1)) hb); clear HB; have HO526 := n0_; have HB := n1_; clear n0_ n1_; clear hb ho6) | ((with_reducible refine gate_callee (f := 83) rfl ?_); refine goesL_ (some 13) rfl rfl Try.func83 (by kernel_rfl) rfl #[.slice A0 l0.length c0, .func (.func 48) #[] #[]] rfl (by (try simp only [List.map_toArray, List.map_cons, List.map_nil]); first | done | rfl) ?_; (with_reducible refine (impl_beside.calls k _ _ l0  t527 _ ?side1 ?side2 A4.out).mono ?_); (case side1 => repeat (first | exact (Kd.C_below HR0.out HB.out) | (with_reducible refine Kd.C_alloc ?_ _) | (with_reducible refine Kd.C_drewN ?_ _) | (with_reducible refine Kd.C_drew ?_))); (case side2 => exact HC0.out); rintro e w7 ⟨v528, rfl, ho0, hb⟩; refine ⟨_, rfl, ?_⟩; have n0_ := Aside0.mk (Kd.S_elder' (by (with_reducible repeat (first | apply Kd.S_alloc | apply Kd.S_drewN | apply Kd.S_drew)); exact HO526.out) (Kd.R_base ho0) hb); have n1_ := Aside0.mk (Kd.R_lower (Kd.R_newM (M := fun k_ => (w.heap.size ≤ k_)) ho0 (below_size (by repeat (with_reducible first | exact HB.out | apply below_alloc | apply pw_below_drewN | apply below_drew1))) (fun k_ h_ => h_)) (below_size (by repeat (with_reducible first | exact HB.out | apply below_alloc | apply pw_below_drewN | apply below_drew1)))); have n2_ := Aside0.mk (below_step (by repeat (with_reducible first | exact HB.out | apply below_alloc | apply pw_below_drewN | apply below_drew1)) hb); clear HO526; clear HB; have HO526 := n0_; have HO529 := n1_; have HB := n2_; clear n0_ n1_ n2_; (try clear hb); (try clear ho0); obtain ⟨Ao8, co8, eo8⟩ := Kd.R_slice HO529.out; subst eo8))
 go_loopg [7, 15] k (fun kq v7 v15 w' => ∃ (x7_1 : List (List (S55))) (x15_1 : Int), v15 = .int .i64 x15_1 ∧ Aside0 (impl_grown.l0 kq l0 x7_1 t527 (t527.length : Int) x15_1 = some r) ∧ Aside0 (kq ≤ k) ∧ Aside0 (Kd.S (Kd.slice 55 k55) 27 w' w.heap.size (fun k_ => (w.heap.size ≤ k_) ∧ some k_ ≠ ((.slice Ao8 t527.length co8) : Value).ownBlock) v7 x7_1) ∧ Aside0 (Kd.R k55 55 w' w.heap.size (fun k_ => (w.heap.size ≤ k_)) (.slice Ao8 t527.length co8) t527) ∧ Aside0 (Below w.heap.size w w'))
 case atStart => exact ⟨(y524), (0), (by first | rfl | (simp; done) | (simp [*]; done)), H', ⟨Nat.le_refl _⟩, ⟨by (with_reducible repeat (first | apply Kd.S_alloc | apply Kd.S_drewN | apply Kd.S_drew)); exact HO526.out⟩, ⟨by (with_reducible repeat (first | apply Kd.R_alloc | apply Kd.R_drewN | apply Kd.R_drew)); exact Kd.R_mono HO529.out (fun _ hk => hk.1)⟩, ⟨by repeat (with_reducible first | exact HB.out | apply below_alloc | apply pw_below_drewN | apply below_drew1)⟩⟩
 case round =>
  clear H'
  try clear p2
  try clear c4
  try clear c8
  obtain ⟨x7_1, x15_1, rfl, HA, HK1, HO_7, HO_13, HB⟩ := hrel
  cases gk with
  | zero => exact absurd HA.out (by simp [impl_grown.l0])
  | succ k1 =>
   have H := HA.out
   clear HA
   simp only [impl_grown.l0] at H
   by_cases c9 : x15_1 < (t527.length : Int)
   ·rw [if_pos c9] at H
    have c9b0 : decide (x15_1 < (t527.length : Int)) = true := decide_eq_true c9
    clear c9
    by_cases c10 : 0 ≤ x15_1
    ·rw [if_pos c10] at H
     have c10b0 : decide (0 ≤ x15_1) = true := decide_eq_true c10
     clear c10
     by_cases c11 : x15_1 < (t527.length : Int)
     ·rw [if_pos c11] at H
      have c11b0 : decide (x15_1 < (t527.length : Int)) = true := decide_eq_true c11
      clear c11
      replace H := Option.bind_eq_some_iff.mp H
      obtain ⟨t532, A120, H⟩ := H
      replace H : ((some (([(⟨(rd_T55 t527 x15_1).f0, (rd_T55 t527 x15_1).f1⟩ : S55)] : List (S55)) : List (S55))).bind fun y535 => (if t532.length + y535.length < 8796093022208 then ((impl_sorted.f (t532 ++ y535)).bind fun t541 => ((impl_normal.f k1 t541).bind fun t544 => ((some (([t544] : List (List (S55))) : List (List (S55)))).bind fun y547 => (if x7_1.length + y547.length < 5864062014805 then (impl_grown.l0 k1 l0 (x7_1 ++ y547) t527 (t527.length : Int) (wrap64 (x15_1 + 1))) else (none))))) else (none))) = some r := H
      have A12 := Aside0.mk A120
      clear A120
      obtain ⟨y535, hy535⟩ : ∃ y_ : List (S55), y_ = (([(⟨(rd_T55 t527 x15_1).f0, (rd_T55 t527 x15_1).f1⟩ : S55)] : List (S55))) := ⟨_, rfl⟩
      replace H : (if t532.length + y535.length < 8796093022208 then ((impl_sorted.f (t532 ++ y535)).bind fun t541 => ((impl_normal.f k1 t541).bind fun t544 => ((some (([t544] : List (List (S55))) : List (List (S55)))).bind fun y547 => (if x7_1.length + y547.length < 5864062014805 then (impl_grown.l0 k1 l0 (x7_1 ++ y547) t527 (t527.length : Int) (wrap64 (x15_1 + 1))) else (none))))) else (none)) = some r := by first | (rw [hy535]; with_reducible exact H) | (have H2_ := (Option.bind_some _ _).symm.trans H; rw [hy535]; with_reducible exact H2_) | (have H2_ := (Option.bind_some _ _).symm.trans H; with_reducible exact H2_) | with_reducible exact H | (rw [hy535]; exact H) | exact H
      have Ny535 := Aside0.mk hy535
      clear hy535
      by_cases c13 : t532.length + y535.length < 8796093022208
      ·rw [if_pos c13] at H
       have LMc13 := Aside0.mk c13
       clear c13
       obtain ⟨y538, hy538⟩ : ∃ y_ : List (S55), y_ = (t532 ++ y535) := ⟨_, rfl⟩
       replace H : ((impl_sorted.f y538).bind fun t541 => ((impl_normal.f k1 t541).bind fun t544 => ((some (([t544] : List (List (S55))) : List (List (S55)))).bind fun y547 => (if x7_1.length + y547.length < 5864062014805 then (impl_grown.l0 k1 l0 (x7_1 ++ y547) t527 (t527.length : Int) (wrap64 (x15_1 + 1))) else (none))))) = some r := by first | (rw [hy538]; with_reducible exact H) | (have H2_ := (Option.bind_some _ _).symm.trans H; rw [hy538]; with_reducible exact H2_) | (have H2_ := (Option.bind_some _ _).symm.trans H; with_reducible exact H2_) | with_reducible exact H | (rw [hy538]; exact H) | exact H
       have Ny538 := Aside0.mk hy538
       clear hy538
       replace H := Option.bind_eq_some_iff.mp H
       obtain ⟨t541, A140, H⟩ := H
       replace H : ((impl_normal.f k1 t541).bind fun t544 => ((some (([t544] : List (List (S55))) : List (List (S55)))).bind fun y547 => (if x7_1.length + y547.length < 5864062014805 then (impl_grown.l0 k1 l0 (x7_1 ++ y547) t527 (t527.length : Int) (wrap64 (x15_1 + 1))) else (none)))) = some r := H
       have A14 := Aside0.mk A140
       clear A140
       replace H := Option.bind_eq_some_iff.mp H
       obtain ⟨t544, A150, H⟩ := H
       replace H : ((some (([t544] : List (List (S55))) : List (List (S55)))).bind fun y547 => (if x7_1.length + y547.length < 5864062014805 then (impl_grown.l0 k1 l0 (x7_1 ++ y547) t527 (t527.length : Int) (wrap64 (x15_1 + 1))) else (none))) = some r := H
       have A15 := Aside0.mk A150
       clear A150
       obtain ⟨y547, hy547⟩ : ∃ y_ : List (List (S55)), y_ = (([t544] : List (List (S55)))) := ⟨_, rfl⟩
       replace H : (if x7_1.length + y547.length < 5864062014805 then (impl_grown.l0 k1 l0 (x7_1 ++ y547) t527 (t527.length : Int) (wrap64 (x15_1 + 1))) else (none)) = some r := by first | (rw [hy547]; with_reducible exact H) | (have H2_ := (Option.bind_some _ _).symm.trans H; rw [hy547]; with_reducible exact H2_) | (have H2_ := (Option.bind_some _ _).symm.trans H; with_reducible exact H2_) | with_reducible exact H | (rw [hy547]; exact H) | exact H
       have Ny547 := Aside0.mk hy547
       clear hy547
       by_cases c16 : x7_1.length + y547.length < 5864062014805
       ·rw [if_pos c16] at H
        have LMc16 := Aside0.mk c16
        clear c16
        obtain ⟨y550, hy550⟩ : ∃ y_ : List (List (S55)), y_ = (x7_1 ++ y547) := ⟨_, rfl⟩
        replace H : (impl_grown.l0 k1 l0 y550 t527 (t527.length : Int) (wrap64 (x15_1 + 1))) = some r := by first | (rw [hy550]; with_reducible exact H) | (have H2_ := (Option.bind_some _ _).symm.trans H; rw [hy550]; with_reducible exact H2_) | (have H2_ := (Option.bind_some _ _).symm.trans H; with_reducible exact H2_) | with_reducible exact H | (rw [hy550]; exact H) | exact H
        have Ny550 := Aside0.mk hy550
        clear hy550
        have H' := Aside0.mk H
        clear H
        have p530 : 0 ≤ (x15_1 : Int) := of_decide_eq_true (by first | (with_reducible assumption) | assumption)
        have q530 : x15_1 < (t527.length : Int) := of_decide_eq_true (by first | (with_reducible assumption) | assumption)
        obtain ⟨ad530, e530, hx530_0, hx530_1⟩ := at_T55 (Kd.R_reads' HO_13.out).2.2 x15_1 p530 q530
        cases e530
        replace p530 := eq_true p530
        replace q530 := eq_true q530
        try go_wp2_with (first | ((with_reducible refine gate_dst (N := 9) rfl ?_); refine box_event ?hg (N := 9) ?hd (cs := #[.int .i64 0, .int .i64 0]) (t := 55) ?hr ?_; (case hd => rfl); (case hg => rfl); (case hr => first | (go_simp; done) | (go_simp; rfl)); intro gb531 hg w17 hbox hb; have n0_ := Aside0.mk (Kd.S_below (Kd.S_elderB (by (with_reducible repeat (first | apply Kd.S_alloc | apply Kd.S_drewN | apply Kd.S_drew)); exact HO_7.out) gb531 (Nat.le_of_eq hg.symm)) hb); have n1_ := Aside0.mk (Kd.R_below (Kd.R_elderB (by (with_reducible repeat (first | apply Kd.R_alloc | apply Kd.R_drewN | apply Kd.R_drew)); exact HO_13.out) gb531 (Nat.le_of_eq hg.symm)) hb); have n2_ := Aside0.mk (below_step (by repeat (with_reducible first | exact HB.out | apply below_alloc | apply pw_below_drewN | apply below_drew1)) hb); have n3_ := Aside0.mk (hbox); have n4_ := Aside0.mk ((by rw [hg]; exact (below_size (by repeat (with_reducible first | exact HB.out | apply below_alloc | apply pw_below_drewN | apply below_drew1))) : w.heap.size ≤ gb531)); have n5_ := Aside0.mk ((by rw [hg]; exact (below_size (by repeat (with_reducible first | exact HB.out | apply below_alloc | apply pw_below_drewN | apply below_drew1))) : w.heap.size ≤ gb531)); clear HO_7; clear HO_13; clear HB; have HO_7 := n0_; have HO_13 := n1_; have HB := n2_; have BK531 := n3_; have GW531 := n4_; have GE531 := n5_; clear n0_ n1_ n2_ n3_ n4_ n5_; clear hb hbox hg; have hcz18_0 : w17.cell? ⟨gb531, 0, none⟩ = some (.int .i64 0) := (blk_cell BK531.out 0).trans rfl; have hcz18_1 : w17.cell? ⟨gb531, 1, none⟩ = some (.int .i64 0) := (blk_cell BK531.out 1).trans rfl; have hfz18_0 := blk_frozen BK531.out 0; have hfz18_1 := blk_frozen BK531.out 1; obtain ⟨Ao19, co19, eo19⟩ := Kd.S_slice HO_7.out; subst eo19))
        have n0_ : Aside0 (Kd.S (Kd.slice 55 k55) 27 ((w17.setCell ⟨gb531, 0, none⟩ (.int .i64 ((rd_T55 t527 x15_1).f0))).setCell ⟨gb531, 1, none⟩ (.int .i64 ((rd_T55 t527 x15_1).f1))) w.heap.size (fun k_ => (w.heap.size ≤ k_) ∧ some k_ ≠ (.slice (some ad530) t527.length co8 : Value).ownBlock ∧ k_ ≠ gb531) (.slice Ao19 x7_1.length co19) x7_1) := ⟨by (with_reducible repeat (first | apply Kd.S_alloc | apply Kd.S_drewN | apply Kd.S_drew)); exact Kd.S_mono (Kd.S_far (p := ⟨gb531, 1, none⟩) (Kd.S_far (p := ⟨gb531, 0, none⟩) (Kd.S_mono HO_7.out (fun k_ hk => (⟨hk, hk.2⟩ : _ ∧ k_ ≠ gb531))) (fun _ hk => hk.2) (.int .i64 ((rd_T55 t527 x15_1).f0))) (fun _ hk => hk.2) (.int .i64 ((rd_T55 t527 x15_1).f1))) (fun _ hk => ⟨hk.1.1.1, ⟨hk.1.1.2, hk.1.2⟩⟩)⟩
        have n1_ : Aside0 (Kd.R k55 55 ((w17.setCell ⟨gb531, 0, none⟩ (.int .i64 ((rd_T55 t527 x15_1).f0))).setCell ⟨gb531, 1, none⟩ (.int .i64 ((rd_T55 t527 x15_1).f1))) w.heap.size (fun k_ => (w.heap.size ≤ k_) ∧ k_ ≠ gb531) (.slice (some ad530) t527.length co8) t527) := ⟨by (with_reducible repeat (first | apply Kd.R_alloc | apply Kd.R_drewN | apply Kd.R_drew)); exact Kd.R_mono (Kd.R_far (p := ⟨gb531, 1, none⟩) (Kd.R_far (p := ⟨gb531, 0, none⟩) (Kd.R_mono HO_13.out (fun k_ hk => (⟨hk, hk.2⟩ : _ ∧ k_ ≠ gb531))) (fun _ hk => hk.2) (.int .i64 ((rd_T55 t527 x15_1).f0))) (fun _ hk => hk.2) (.int .i64 ((rd_T55 t527 x15_1).f1))) (fun _ hk => ⟨hk.1.1, hk.1.2⟩)⟩
        have n2_ : Aside0 (((w17.setCell ⟨gb531, 0, none⟩ (.int .i64 ((rd_T55 t527 x15_1).f0))).setCell ⟨gb531, 1, none⟩ (.int .i64 ((rd_T55 t527 x15_1).f1))).heap[gb531]? = some (.cells #[.int .i64 ((rd_T55 t527 x15_1).f0), .int .i64 ((rd_T55 t527 x15_1).f1)] 55 (0, 0))) := ⟨by (with_reducible repeat (first | refine blk_drewN ?_ _ | refine blk_drew ?_ | refine blk_alloc ?_ _)); refine blk_put (cs := #[.int .i64 ((rd_T55 t527 x15_1).f0), .int .i64 0]) ?_ 1 _ rfl; (with_reducible repeat (first | refine blk_drewN ?_ _ | refine blk_drew ?_ | refine blk_alloc ?_ _)); refine blk_put (cs := #[.int .i64 0, .int .i64 0]) ?_ 0 _ rfl; (with_reducible repeat (first | refine blk_drewN ?_ _ | refine blk_drew ?_ | refine blk_alloc ?_ _)); exact BK531.out⟩
        have n3_ : Aside0 (Below w.heap.size w ((w17.setCell ⟨gb531, 0, none⟩ (.int .i64 ((rd_T55 t527 x15_1).f0))).setCell ⟨gb531, 1, none⟩ (.int .i64 ((rd_T55 t527 x15_1).f1)))) := ⟨by repeat (first | (with_reducible first | exact HB.out | apply below_alloc | apply pw_below_drewN | apply below_drew1 | refine below_set ?_ GE531.out) | exact HB.out)⟩
        (try clear HO_7)
        (try clear HO_13)
        (try clear BK531)
        (try clear HB)
        generalize ((w17.setCell ⟨gb531, 0, none⟩ (.int .i64 ((rd_T55 t527 x15_1).f0))).setCell ⟨gb531, 1, none⟩ (.int .i64 ((rd_T55 t527 x15_1).f1))) = w20 at n0_ n1_ n2_ n3_ ⊢
        have HO_7 := n0_
        have HO_13 := n1_
        have BK531 := n2_
        have HB := n3_
        clear n0_ n1_ n2_ n3_
        have n0_ := Aside0.mk (Kd.S_drew HO_7.out)
        have n1_ := Aside0.mk (Kd.R_drew HO_13.out)
        have n2_ := Aside0.mk (blk_drew BK531.out)
        have n3_ := Aside0.mk (below_drew1 HB.out)
        clear HO_7
        clear HO_13
        clear BK531
        clear HB
        have HO_7 := n0_
        have HO_13 := n1_
        have BK531 := n2_
        have HB := n3_
        clear n0_ n1_ n2_ n3_
        refine start_ (n := 12) (S := fun w' => w'.cell? ⟨gb531, 0, none⟩ = some (.int .i64 ((rd_T55 t527 x15_1).f0)) ∧ w'.cell? ⟨gb531, 1, none⟩ = some (.int .i64 ((rd_T55 t527 x15_1).f1))) (ds := []) #[F, F, F, F, F, F, F, F, F, F, F, F] (by kernel_rfl) rfl rfl ⟨(blk_cell BK531.out 0).trans rfl, (blk_cell BK531.out 1).trans rfl⟩ (fun hHeld => ?_); refine with_tabW impl_grown.tab5 impl_grown.bits5 (fun HT_ HW_ => ?_)
        generalize w20.drew = w21 at HO_7 HO_13 BK531 HB hHeld ⊢
        refine pure_ (i := 0) (N := some 19) (v := ?_) (a' := ?_) #[T, F, F, F, F, F, F, F, F, F, F, F] rfl rfl (any_of HT_.out (by kernel_rfl)) (fun _ _ _ h => h) (Or.inl ⟨by rfl, ?_⟩) ?_ ?_
        rotate_left
        ·intro w'
         go_simp
         with_reducible rfl
        rotate_left
        ·simp only [Act.put, List.setIfInBounds_toArray, List.set_cons_zero, List.set_cons_succ, i64_w, i32_w]
         rfl
        refine pure_ (i := 1) (N := some 20) (v := ?_) (a' := ?_) #[T, T, F, F, F, F, F, F, F, F, F, F] rfl rfl (any_of HT_.out (by kernel_rfl)) (fun _ _ _ h => h) (Or.inl ⟨by rfl, ?_⟩) ?_ ?_
        rotate_left
        ·intro w'
         go_simp
         with_reducible rfl
        rotate_left
        ·simp only [Act.put, List.setIfInBounds_toArray, List.set_cons_zero, List.set_cons_succ, i64_w, i32_w]
         rfl
        refine pure_ (i := 2) (N := some 21) (v := ?_) (a' := ?_) #[T, T, T, F, F, F, F, F, F, F, F, F] rfl rfl (any_of HT_.out (by kernel_rfl)) (fun _ _ _ h => h) (Or.inl ⟨by rfl, ?_⟩) ?_ ?_
        rotate_left
        ·intro w'
         go_simp
         with_reducible rfl
        rotate_left
        ·simp only [Act.put, List.setIfInBounds_toArray, List.set_cons_zero, List.set_cons_succ, i64_w, i32_w]
         rfl
        refine take_ (i := 4) (N := some 23) (v := ?_) (a' := ?_) #[T, T, T, F, T, F, F, F, F, F, F, F] rfl rfl (take_ofW HT_.out HW_.out (by kernel_rfl)) (fun _ _ _ h => h) (Or.inl ⟨by rfl, ?_⟩) hHeld ?_ ?_
        rotate_left
        ·rintro w' ⟨s0, s1⟩
         go_simp
         with_reducible rfl
        rotate_left
        ·simp only [Act.put, List.setIfInBounds_toArray, List.set_cons_zero, List.set_cons_succ, i64_w, i32_w]
         rfl
        refine join_ (σ := Value × Value) 6 #[T, T, T, T, T, T, F, F, F, F, F, F] (fun s_ => [(22, s_.1), (24, s_.2)]) (fun s_ w' => (w'.cell? ⟨gb531, 0, none⟩ = some (.int .i64 ((rd_T55 t527 x15_1).f0)) ∧ w'.cell? ⟨gb531, 1, none⟩ = some (.int .i64 ((rd_T55 t527 x15_1).f1))) ∧ (Kd.R k55 55 w' w.heap.size (fun k_ => (w.heap.size ≤ k_) ∧ some k_ ≠ (s_.2 : Value).ownBlock ∧ some k_ ≠ (.slice (some ad530) t527.length co8 : Value).ownBlock ∧ k_ ≠ gb531) s_.1 t532) ∧ (Kd.R k55 55 w' w.heap.size (fun k_ => (w.heap.size ≤ k_) ∧ some k_ ≠ (s_.1 : Value).ownBlock ∧ some k_ ≠ (.slice (some ad530) t527.length co8 : Value).ownBlock ∧ k_ ≠ gb531) s_.2 y535) ∧ (Kd.R k55 55 w' w.heap.size (fun k_ => (w.heap.size ≤ k_) ∧ some k_ ≠ (s_.1 : Value).ownBlock ∧ some k_ ≠ (s_.2 : Value).ownBlock ∧ k_ ≠ gb531) (.slice (some ad530) t527.length co8) t527) ∧ (Kd.S (Kd.slice 55 k55) 27 w' w.heap.size (fun k_ => (w.heap.size ≤ k_) ∧ some k_ ≠ (s_.1 : Value).ownBlock ∧ some k_ ≠ (s_.2 : Value).ownBlock ∧ some k_ ≠ (.slice (some ad530) t527.length co8 : Value).ownBlock ∧ k_ ≠ gb531) (.slice Ao19 x7_1.length co19) x7_1) ∧ (w'.heap[gb531]? = some (.cells #[.int .i64 ((rd_T55 t527 x15_1).f0), .int .i64 ((rd_T55 t527 x15_1).f1)] 55 (0, 0))) ∧ (Below w.heap.size w w')) ?_ ?_
        rotate_left
        ·intro hCont
         refine two_ (i := 3) (j := 5) (Ni := some 22) (Nj := some 24) #[T, T, T, T, T, F, F, F, F, F, F, F] #[T, T, T, F, T, T, F, F, F, F, F, F] rfl rfl rfl rfl (two_of HT_.out (by kernel_rfl)) (by decide) (by decide) (fun K hK => ?_) (fun K hK => ?_)
         ·skip
          refine goes_ Try.func85 (by kernel_rfl) rfl #[.slice A0 l0.length c0] (by rfl) rfl rfl (by (try simp only [List.map_toArray, List.map_cons, List.map_nil]); first | done | rfl) ?_
          with_reducible refine (slices_Clone_Cell.calls _ _ l0 t532 _ ?side1 ?side2 A12.out).mono ?_
          (case side1 => repeat (first | exact (Kd.C_below HR0.out HB.out) | (with_reducible refine Kd.C_alloc ?_ _) | (with_reducible refine Kd.C_drewN ?_ _) | (with_reducible refine Kd.C_drew ?_)))
          (case side2 => exact HC0.out)
          rintro e w22 ⟨v533, rfl, ho0, hb⟩
          refine ⟨_, rfl, ?_⟩
          have n0_ := Aside0.mk (Kd.S_elder' (by (with_reducible repeat (first | apply Kd.S_alloc | apply Kd.S_drewN | apply Kd.S_drew)); exact HO_7.out) (Kd.R_base ho0) hb)
          have n1_ := Aside0.mk (Kd.R_elder' (by (with_reducible repeat (first | apply Kd.R_alloc | apply Kd.R_drewN | apply Kd.R_drew)); exact HO_13.out) (Kd.R_base ho0) hb)
          have n2_ := Aside0.mk (Kd.R_lower (Kd.R_newB (Kd.R_new' (Kd.R_newM (M := fun k_ => (w.heap.size ≤ k_)) ho0 (below_size (by repeat (first | (with_reducible first | exact HB.out | apply below_alloc | apply pw_below_drewN | apply below_drew1 | refine below_set ?_ GE531.out) | exact HB.out))) (fun k_ h_ => h_)) (Kd.R_lt (by (with_reducible repeat (first | apply Kd.R_alloc | apply Kd.R_drewN | apply Kd.R_drew)); exact HO_13.out))) (g := gb531) (o := .cells #[.int .i64 ((rd_T55 t527 x15_1).f0), .int .i64 ((rd_T55 t527 x15_1).f1)] 55 (0, 0)) (by (with_reducible repeat (first | refine blk_drewN ?_ _ | refine blk_drew ?_ | refine blk_alloc ?_ _)); exact BK531.out)) (below_size (by repeat (first | (with_reducible first | exact HB.out | apply below_alloc | apply pw_below_drewN | apply below_drew1 | refine below_set ?_ GE531.out) | exact HB.out))))
          have n3_ := Aside0.mk (blk_below (g := gb531) (o := .cells #[.int .i64 ((rd_T55 t527 x15_1).f0), .int .i64 ((rd_T55 t527 x15_1).f1)] 55 (0, 0)) (by (with_reducible repeat (first | refine blk_drewN ?_ _ | refine blk_drew ?_ | refine blk_alloc ?_ _)); exact BK531.out) hb)
          have n4_ := Aside0.mk (below_step (by repeat (first | (with_reducible first | exact HB.out | apply below_alloc | apply pw_below_drewN | apply below_drew1 | refine below_set ?_ GE531.out) | exact HB.out)) hb)
          clear HO_7
          clear HO_13
          clear BK531
          clear HB
          have HO_7 := n0_
          have HO_13 := n1_
          have HO534 := n2_
          have BK531 := n3_
          have HB := n4_
          clear n0_ n1_ n2_ n3_ n4_
          (try clear hb)
          (try clear ho0)
          refine hK.out _ _ ⟨(blk_cell BK531.out 0).trans rfl, (blk_cell BK531.out 1).trans rfl⟩ (fun hHeld => ?_)
          clear hK K
          refine norm_ (a' := ?_) ?_ ?_
          rotate_left
          ·show Act.put _ (some 22) _ = _
           simp only [Act.put, List.setIfInBounds_toArray, List.set_cons_zero, List.set_cons_succ, i64_w, i32_w]
           rfl
          refine one_ (i := 5) (N := some 24) #[T, T, T, T, T, T, F, F, F, F, F, F] rfl rfl (one_of HT_.out (by kernel_rfl)) (by decide) (fun K hK => ?_)
          refine Kd.R_lit_step k55 _ 55 ?hg (N := 24) ?hd (xs := ([(⟨(rd_T55 t527 x15_1).f0, (rd_T55 t527 x15_1).f1⟩ : S55)] : List (S55))) (inner := [.int .i64 ((rd_T55 t527 x15_1).f0), .int .i64 ((rd_T55 t527 x15_1).f1)]) (ok := fun _ => True) (okp := fun _ => True) ?hr ?hp (fun _ hk => hk) trivial (Below.refl _ _) (Nat.le_refl _) (by simp) ?_; (case hd => rfl); (case hg => rfl); (case hr => first | (go_simp; done) | (go_simp; rfl)); (case hp => exact (Reps.c2 (show Kd.M k55 _ _ _ (⟨(rd_T55 t527 x15_1).f0, (rd_T55 t527 x15_1).f1⟩ : S55) [.int .i64 ((rd_T55 t527 x15_1).f0), .int .i64 ((rd_T55 t527 x15_1).f1)] from (k55_mkM _ _ _ (⟨(rd_T55 t527 x15_1).f0, (rd_T55 t527 x15_1).f1⟩ : S55) )) (Reps.none _ _)))
          intro v536 w23 ho24 hb hg_ hnew_
          clear hg_ hnew_
          (first | rw [← Ny535.out] at ho24 | (simp only [Int.reduceToNat] at ho24; rw [← Ny535.out] at ho24))
          have n0_ := Aside0.mk (Kd.S_elder' (by (with_reducible repeat (first | apply Kd.S_alloc | apply Kd.S_drewN | apply Kd.S_drew)); exact HO_7.out) (Kd.R_base ho24) hb)
          have n1_ := Aside0.mk (Kd.R_elder' (by (with_reducible repeat (first | apply Kd.R_alloc | apply Kd.R_drewN | apply Kd.R_drew)); exact HO_13.out) (Kd.R_base ho24) hb)
          have n2_ := Aside0.mk (Kd.R_elder' (by (with_reducible repeat (first | apply Kd.R_alloc | apply Kd.R_drewN | apply Kd.R_drew)); exact HO534.out) (Kd.R_base ho24) hb)
          have n3_ := Aside0.mk (Kd.R_lower (Kd.R_newB (Kd.R_new' (Kd.R_new' (Kd.R_newM (M := fun k_ => (w.heap.size ≤ k_)) ho24 (below_size (by repeat (first | (with_reducible first | exact HB.out | apply below_alloc | apply pw_below_drewN | apply below_drew1 | refine below_set ?_ GE531.out) | exact HB.out))) (fun k_ h_ => h_)) (Kd.R_lt (by (with_reducible repeat (first | apply Kd.R_alloc | apply Kd.R_drewN | apply Kd.R_drew)); exact HO_13.out))) (Kd.R_lt (by (with_reducible repeat (first | apply Kd.R_alloc | apply Kd.R_drewN | apply Kd.R_drew)); exact HO534.out))) (g := gb531) (o := .cells #[.int .i64 ((rd_T55 t527 x15_1).f0), .int .i64 ((rd_T55 t527 x15_1).f1)] 55 (0, 0)) (by (with_reducible repeat (first | refine blk_drewN ?_ _ | refine blk_drew ?_ | refine blk_alloc ?_ _)); exact BK531.out)) (below_size (by repeat (first | (with_reducible first | exact HB.out | apply below_alloc | apply pw_below_drewN | apply below_drew1 | refine below_set ?_ GE531.out) | exact HB.out))))
          have n4_ := Aside0.mk (blk_below (g := gb531) (o := .cells #[.int .i64 ((rd_T55 t527 x15_1).f0), .int .i64 ((rd_T55 t527 x15_1).f1)] 55 (0, 0)) (by (with_reducible repeat (first | refine blk_drewN ?_ _ | refine blk_drew ?_ | refine blk_alloc ?_ _)); exact BK531.out) hb)
          have n5_ := Aside0.mk (below_step (by repeat (first | (with_reducible first | exact HB.out | apply below_alloc | apply pw_below_drewN | apply below_drew1 | refine below_set ?_ GE531.out) | exact HB.out)) hb)
          clear HO_7
          clear HO_13
          clear HO534
          clear BK531
          clear HB
          have HO_7 := n0_
          have HO_13 := n1_
          have HO534 := n2_
          have HO537 := n3_
          have BK531 := n4_
          have HB := n5_
          clear n0_ n1_ n2_ n3_ n4_ n5_
          clear hb ho24
          refine hK.out _ _ ⟨(blk_cell BK531.out 0).trans rfl, (blk_cell BK531.out 1).trans rfl⟩ (fun hHeld => ?_)
          clear hK K
          refine norm_ (a' := ?_) ?_ ?_
          rotate_left
          ·show Act.put _ (some 24) _ = _
           simp only [Act.put, List.setIfInBounds_toArray, List.set_cons_zero, List.set_cons_succ, i64_w, i32_w]
           rfl
          exact norm_ (by simp only [putAll, Act.put, List.setIfInBounds_toArray, List.set_cons_zero, List.set_cons_succ]) (hCont (v533, v536) _ ⟨hHeld, (by (with_reducible repeat (first | apply Kd.R_alloc | apply Kd.R_drewN | apply Kd.R_drew)); exact Kd.R_mono HO534.out (fun _ hk => ⟨hk.1.1.1.1, ⟨hk.2, ⟨hk.1.1.2, hk.1.2⟩⟩⟩)), (by (with_reducible repeat (first | apply Kd.R_alloc | apply Kd.R_drewN | apply Kd.R_drew)); exact Kd.R_mono HO537.out (fun _ hk => ⟨hk.1.1.1.1, ⟨hk.1.2, ⟨hk.1.1.2, hk.2⟩⟩⟩)), (by (with_reducible repeat (first | apply Kd.R_alloc | apply Kd.R_drewN | apply Kd.R_drew)); exact Kd.R_mono HO_13.out (fun _ hk => ⟨hk.1.1.1, ⟨hk.1.2, ⟨hk.2, hk.1.1.2⟩⟩⟩)), (by (with_reducible repeat (first | apply Kd.S_alloc | apply Kd.S_drewN | apply Kd.S_drew)); exact Kd.S_mono HO_7.out (fun _ hk => ⟨hk.1.1.1, ⟨hk.1.2, ⟨hk.2, ⟨hk.1.1.2.1, hk.1.1.2.2⟩⟩⟩⟩)), (by (with_reducible repeat (first | refine blk_drewN ?_ _ | refine blk_drew ?_ | refine blk_alloc ?_ _)); exact BK531.out), (by repeat (first | (with_reducible first | exact HB.out | apply below_alloc | apply pw_below_drewN | apply below_drew1 | refine below_set ?_ GE531.out) | exact HB.out))⟩)
         ·skip
          refine Kd.R_lit_step k55 _ 55 ?hg (N := 24) ?hd (xs := ([(⟨(rd_T55 t527 x15_1).f0, (rd_T55 t527 x15_1).f1⟩ : S55)] : List (S55))) (inner := [.int .i64 ((rd_T55 t527 x15_1).f0), .int .i64 ((rd_T55 t527 x15_1).f1)]) (ok := fun _ => True) (okp := fun _ => True) ?hr ?hp (fun _ hk => hk) trivial (Below.refl _ _) (Nat.le_refl _) (by simp) ?_; (case hd => rfl); (case hg => rfl); (case hr => first | (go_simp; done) | (go_simp; rfl)); (case hp => exact (Reps.c2 (show Kd.M k55 _ _ _ (⟨(rd_T55 t527 x15_1).f0, (rd_T55 t527 x15_1).f1⟩ : S55) [.int .i64 ((rd_T55 t527 x15_1).f0), .int .i64 ((rd_T55 t527 x15_1).f1)] from (k55_mkM _ _ _ (⟨(rd_T55 t527 x15_1).f0, (rd_T55 t527 x15_1).f1⟩ : S55) )) (Reps.none _ _)))
          intro v536 w22 ho23 hb hg_ hnew_
          clear hg_ hnew_
          (first | rw [← Ny535.out] at ho23 | (simp only [Int.reduceToNat] at ho23; rw [← Ny535.out] at ho23))
          have n0_ := Aside0.mk (Kd.S_elder' (by (with_reducible repeat (first | apply Kd.S_alloc | apply Kd.S_drewN | apply Kd.S_drew)); exact HO_7.out) (Kd.R_base ho23) hb)
          have n1_ := Aside0.mk (Kd.R_elder' (by (with_reducible repeat (first | apply Kd.R_alloc | apply Kd.R_drewN | apply Kd.R_drew)); exact HO_13.out) (Kd.R_base ho23) hb)
          have n2_ := Aside0.mk (Kd.R_lower (Kd.R_newB (Kd.R_new' (Kd.R_newM (M := fun k_ => (w.heap.size ≤ k_)) ho23 (below_size (by repeat (first | (with_reducible first | exact HB.out | apply below_alloc | apply pw_below_drewN | apply below_drew1 | refine below_set ?_ GE531.out) | exact HB.out))) (fun k_ h_ => h_)) (Kd.R_lt (by (with_reducible repeat (first | apply Kd.R_alloc | apply Kd.R_drewN | apply Kd.R_drew)); exact HO_13.out))) (g := gb531) (o := .cells #[.int .i64 ((rd_T55 t527 x15_1).f0), .int .i64 ((rd_T55 t527 x15_1).f1)] 55 (0, 0)) (by (with_reducible repeat (first | refine blk_drewN ?_ _ | refine blk_drew ?_ | refine blk_alloc ?_ _)); exact BK531.out)) (below_size (by repeat (first | (with_reducible first | exact HB.out | apply below_alloc | apply pw_below_drewN | apply below_drew1 | refine below_set ?_ GE531.out) | exact HB.out))))
          have n3_ := Aside0.mk (blk_below (g := gb531) (o := .cells #[.int .i64 ((rd_T55 t527 x15_1).f0), .int .i64 ((rd_T55 t527 x15_1).f1)] 55 (0, 0)) (by (with_reducible repeat (first | refine blk_drewN ?_ _ | refine blk_drew ?_ | refine blk_alloc ?_ _)); exact BK531.out) hb)
          have n4_ := Aside0.mk (below_step (by repeat (first | (with_reducible first | exact HB.out | apply below_alloc | apply pw_below_drewN | apply below_drew1 | refine below_set ?_ GE531.out) | exact HB.out)) hb)
          clear HO_7
          clear HO_13
          clear BK531
          clear HB
          have HO_7 := n0_
          have HO_13 := n1_
          have HO537 := n2_
          have BK531 := n3_
          have HB := n4_
          clear n0_ n1_ n2_ n3_ n4_
          clear hb ho23
          refine hK.out _ _ ⟨(blk_cell BK531.out 0).trans rfl, (blk_cell BK531.out 1).trans rfl⟩ (fun hHeld => ?_)
          clear hK K
          refine norm_ (a' := ?_) ?_ ?_
          rotate_left
          ·show Act.put _ (some 24) _ = _
           simp only [Act.put, List.setIfInBounds_toArray, List.set_cons_zero, List.set_cons_succ, i64_w, i32_w]
           rfl
          refine one_ (i := 3) (N := some 22) #[T, T, T, T, T, T, F, F, F, F, F, F] rfl rfl (one_of HT_.out (by kernel_rfl)) (by decide) (fun K hK => ?_)
          refine goes_ Try.func85 (by kernel_rfl) rfl #[.slice A0 l0.length c0] (by rfl) rfl rfl (by (try simp only [List.map_toArray, List.map_cons, List.map_nil]); first | done | rfl) ?_
          with_reducible refine (slices_Clone_Cell.calls _ _ l0 t532 _ ?side1 ?side2 A12.out).mono ?_
          (case side1 => repeat (first | exact (Kd.C_below HR0.out HB.out) | (with_reducible refine Kd.C_alloc ?_ _) | (with_reducible refine Kd.C_drewN ?_ _) | (with_reducible refine Kd.C_drew ?_)))
          (case side2 => exact HC0.out)
          rintro e w24 ⟨v533, rfl, ho0, hb⟩
          refine ⟨_, rfl, ?_⟩
          have n0_ := Aside0.mk (Kd.S_elder' (by (with_reducible repeat (first | apply Kd.S_alloc | apply Kd.S_drewN | apply Kd.S_drew)); exact HO_7.out) (Kd.R_base ho0) hb)
          have n1_ := Aside0.mk (Kd.R_elder' (by (with_reducible repeat (first | apply Kd.R_alloc | apply Kd.R_drewN | apply Kd.R_drew)); exact HO_13.out) (Kd.R_base ho0) hb)
          have n2_ := Aside0.mk (Kd.R_elder' (by (with_reducible repeat (first | apply Kd.R_alloc | apply Kd.R_drewN | apply Kd.R_drew)); exact HO537.out) (Kd.R_base ho0) hb)
          have n3_ := Aside0.mk (Kd.R_lower (Kd.R_newB (Kd.R_new' (Kd.R_new' (Kd.R_newM (M := fun k_ => (w.heap.size ≤ k_)) ho0 (below_size (by repeat (first | (with_reducible first | exact HB.out | apply below_alloc | apply pw_below_drewN | apply below_drew1 | refine below_set ?_ GE531.out) | exact HB.out))) (fun k_ h_ => h_)) (Kd.R_lt (by (with_reducible repeat (first | apply Kd.R_alloc | apply Kd.R_drewN | apply Kd.R_drew)); exact HO_13.out))) (Kd.R_lt (by (with_reducible repeat (first | apply Kd.R_alloc | apply Kd.R_drewN | apply Kd.R_drew)); exact HO537.out))) (g := gb531) (o := .cells #[.int .i64 ((rd_T55 t527 x15_1).f0), .int .i64 ((rd_T55 t527 x15_1).f1)] 55 (0, 0)) (by (with_reducible repeat (first | refine blk_drewN ?_ _ | refine blk_drew ?_ | refine blk_alloc ?_ _)); exact BK531.out)) (below_size (by repeat (first | (with_reducible first | exact HB.out | apply below_alloc | apply pw_below_drewN | apply below_drew1 | refine below_set ?_ GE531.out) | exact HB.out))))
          have n4_ := Aside0.mk (blk_below (g := gb531) (o := .cells #[.int .i64 ((rd_T55 t527 x15_1).f0), .int .i64 ((rd_T55 t527 x15_1).f1)] 55 (0, 0)) (by (with_reducible repeat (first | refine blk_drewN ?_ _ | refine blk_drew ?_ | refine blk_alloc ?_ _)); exact BK531.out) hb)
          have n5_ := Aside0.mk (below_step (by repeat (first | (with_reducible first | exact HB.out | apply below_alloc | apply pw_below_drewN | apply below_drew1 | refine below_set ?_ GE531.out) | exact HB.out)) hb)
          clear HO_7
          clear HO_13
          clear HO537
          clear BK531
          clear HB
          have HO_7 := n0_
          have HO_13 := n1_
          have HO537 := n2_
          have HO534 := n3_
          have BK531 := n4_
          have HB := n5_
          clear n0_ n1_ n2_ n3_ n4_ n5_
          (try clear hb)
          (try clear ho0)
          refine hK.out _ _ ⟨(blk_cell BK531.out 0).trans rfl, (blk_cell BK531.out 1).trans rfl⟩ (fun hHeld => ?_)
          clear hK K
          refine norm_ (a' := ?_) ?_ ?_
          rotate_left
          ·show Act.put _ (some 22) _ = _
           simp only [Act.put, List.setIfInBounds_toArray, List.set_cons_zero, List.set_cons_succ, i64_w, i32_w]
           rfl
          exact norm_ (by simp only [putAll, Act.put, List.setIfInBounds_toArray, List.set_cons_zero, List.set_cons_succ]) (hCont (v533, v536) _ ⟨hHeld, (by (with_reducible repeat (first | apply Kd.R_alloc | apply Kd.R_drewN | apply Kd.R_drew)); exact Kd.R_mono HO534.out (fun _ hk => ⟨hk.1.1.1.1, ⟨hk.1.2, ⟨hk.1.1.2, hk.2⟩⟩⟩)), (by (with_reducible repeat (first | apply Kd.R_alloc | apply Kd.R_drewN | apply Kd.R_drew)); exact Kd.R_mono HO537.out (fun _ hk => ⟨hk.1.1.1.1, ⟨hk.2, ⟨hk.1.1.2, hk.1.2⟩⟩⟩)), (by (with_reducible repeat (first | apply Kd.R_alloc | apply Kd.R_drewN | apply Kd.R_drew)); exact Kd.R_mono HO_13.out (fun _ hk => ⟨hk.1.1.1, ⟨hk.2, ⟨hk.1.2, hk.1.1.2⟩⟩⟩)), (by (with_reducible repeat (first | apply Kd.S_alloc | apply Kd.S_drewN | apply Kd.S_drew)); exact Kd.S_mono HO_7.out (fun _ hk => ⟨hk.1.1.1, ⟨hk.2, ⟨hk.1.2, ⟨hk.1.1.2.1, hk.1.1.2.2⟩⟩⟩⟩)), (by (with_reducible repeat (first | refine blk_drewN ?_ _ | refine blk_drew ?_ | refine blk_alloc ?_ _)); exact BK531.out), (by repeat (first | (with_reducible first | exact HB.out | apply below_alloc | apply pw_below_drewN | apply below_drew1 | refine below_set ?_ GE531.out) | exact HB.out))⟩)
        rintro ⟨v533, v536⟩ w25 ⟨hS_, h0_, h1_, h2_, h3_, h4_, h5_⟩
        have n0_ : Aside0 (Kd.R k55 55 w25 w.heap.size (fun k_ => (w.heap.size ≤ k_) ∧ some k_ ≠ (v536 : Value).ownBlock ∧ some k_ ≠ (.slice (some ad530) t527.length co8 : Value).ownBlock ∧ k_ ≠ gb531) v533 t532) := ⟨h0_⟩
        have n1_ : Aside0 (Kd.R k55 55 w25 w.heap.size (fun k_ => (w.heap.size ≤ k_) ∧ some k_ ≠ (v533 : Value).ownBlock ∧ some k_ ≠ (.slice (some ad530) t527.length co8 : Value).ownBlock ∧ k_ ≠ gb531) v536 y535) := ⟨h1_⟩
        have n2_ : Aside0 (Kd.R k55 55 w25 w.heap.size (fun k_ => (w.heap.size ≤ k_) ∧ some k_ ≠ (v533 : Value).ownBlock ∧ some k_ ≠ (v536 : Value).ownBlock ∧ k_ ≠ gb531) (.slice (some ad530) t527.length co8) t527) := ⟨h2_⟩
        have n3_ : Aside0 (Kd.S (Kd.slice 55 k55) 27 w25 w.heap.size (fun k_ => (w.heap.size ≤ k_) ∧ some k_ ≠ (v533 : Value).ownBlock ∧ some k_ ≠ (v536 : Value).ownBlock ∧ some k_ ≠ (.slice (some ad530) t527.length co8 : Value).ownBlock ∧ k_ ≠ gb531) (.slice Ao19 x7_1.length co19) x7_1) := ⟨h3_⟩
        have n4_ : Aside0 (w25.heap[gb531]? = some (.cells #[.int .i64 ((rd_T55 t527 x15_1).f0), .int .i64 ((rd_T55 t527 x15_1).f1)] 55 (0, 0))) := ⟨h4_⟩
        have n5_ : Aside0 (Below w.heap.size w w25) := ⟨h5_⟩
        clear HO_7
        clear HO_13
        clear BK531
        clear HB
        clear h0_ h1_ h2_ h3_ h4_ h5_
        have HO534 := n0_
        have HO537 := n1_
        have HO_13 := n2_
        have HO_7 := n3_
        have BK531 := n4_
        have HB := n5_
        clear n0_ n1_ n2_ n3_ n4_ n5_
        have hHeld : w25.cell? ⟨gb531, 0, none⟩ = some (.int .i64 ((rd_T55 t527 x15_1).f0)) ∧ w25.cell? ⟨gb531, 1, none⟩ = some (.int .i64 ((rd_T55 t527 x15_1).f1)) := hS_
        obtain ⟨Ao27, co27, eo27⟩ := Kd.R_slice HO537.out
        (first | subst eo27 | (injection eo27 with f1_ f2_ f3_; have f4_ := f1_.symm; have f5_ := f3_.symm; clear f1_ f2_ f3_; subst f4_; subst f5_))
        refine norm_ (a' := ?_) ?_ ?_
        rotate_left
        ·simp only [putAll, Act.put, List.setIfInBounds_toArray, List.set_cons_zero, List.set_cons_succ]
         rfl
        refine one_ (i := 6) (N := some 25) #[T, T, T, T, T, T, T, F, F, F, F, F] rfl rfl (one_of HT_.out (by kernel_rfl)) (by decide) (fun K hK => ?_)
        refine Kd.R_append_rows_step k55 (w0 := w) w.heap.size (by rfl) (.tmp 22) (.tmp 24) 27 55 (.agg #[(.int .i64 0), (.int .i64 0)]) 16 rfl Try.underlying27 info55 rfl (by decide) (by omega) v533 t532 y535 _ _ _ (fun k_ => (w.heap.size ≤ k_) ∧ some k_ ≠ (.slice (some ad530) t527.length co8 : Value).ownBlock ∧ some k_ ≠ (.slice Ao27 y535.length co27 : Value).ownBlock ∧ k_ ≠ gb531) (fun _ => False) rfl rfl ?aO ?aR (fun _ _ h => h) (fun _ h => h.elim) ?aF ?aB ?aS ?aL ?_
        (case aR => repeat (first | exact (Kd.R_reads' HO537.out).2.2 | (with_reducible refine Kd.C_alloc ?_ _) | (with_reducible refine Kd.C_drewN ?_ _) | (with_reducible refine Kd.C_drew ?_)))
        (case aB => exact (by repeat (first | (with_reducible first | exact HB.out | apply below_alloc | apply pw_below_drewN | apply below_drew1 | refine below_set ?_ GE531.out) | exact HB.out)))
        (case aF => exact (fun k_ hk => ⟨(Nat.le_trans (below_size (by repeat (first | (with_reducible first | exact HB.out | apply below_alloc | apply pw_below_drewN | apply below_drew1 | refine below_set ?_ GE531.out) | exact HB.out))) hk), Kd.fresh' (Kd.R_lt (by (with_reducible repeat (first | apply Kd.R_alloc | apply Kd.R_drewN | apply Kd.R_drew)); exact HO_13.out)) k_ hk, Kd.fresh' (Kd.R_lt (by (with_reducible repeat (first | apply Kd.R_alloc | apply Kd.R_drewN | apply Kd.R_drew)); exact HO537.out)) k_ hk, Kd.freshB (g := gb531) (o := .cells #[.int .i64 ((rd_T55 t527 x15_1).f0), .int .i64 ((rd_T55 t527 x15_1).f1)] 55 (0, 0)) (by (with_reducible repeat (first | refine blk_drewN ?_ _ | refine blk_drew ?_ | refine blk_alloc ?_ _)); exact BK531.out) k_ hk⟩))
        (case aO => exact (by (with_reducible repeat (first | apply Kd.R_alloc | apply Kd.R_drewN | apply Kd.R_drew)); exact Kd.R_mono HO534.out (fun _ hk => ⟨hk.1, ⟨hk.2.2.1, ⟨hk.2.1, hk.2.2.2⟩⟩⟩)))
        (case aS => exact (below_size (by repeat (first | (with_reducible first | exact HB.out | apply below_alloc | apply pw_below_drewN | apply below_drew1 | refine below_set ?_ GE531.out) | exact HB.out))))
        (case aL => have := LMc13.out; omega)
        intro v539 w26 ho hb hg hat
        rw [← Ny538.out] at ho
        have n0_ := Aside0.mk (Kd.S_after (ok := (fun k_ => (w.heap.size ≤ k_) ∧ some k_ ≠ (.slice (some ad530) t527.length co8 : Value).ownBlock ∧ some k_ ≠ (.slice Ao27 y535.length co27 : Value).ownBlock ∧ k_ ≠ gb531)) (by (with_reducible repeat (first | apply Kd.S_alloc | apply Kd.S_drewN | apply Kd.S_drew)); exact Kd.S_mono HO_7.out (fun _ hk => ⟨⟨hk.1, ⟨hk.2.2.2.1, ⟨hk.2.2.1, hk.2.2.2.2⟩⟩⟩, hk.2.1⟩)) hg hat)
        have n1_ := Aside0.mk (Kd.R_after (ok := (fun k_ => (w.heap.size ≤ k_) ∧ some k_ ≠ (.slice Ao27 y535.length co27 : Value).ownBlock ∧ k_ ≠ gb531)) (by (with_reducible repeat (first | apply Kd.R_alloc | apply Kd.R_drewN | apply Kd.R_drew)); exact Kd.R_mono HO_13.out (fun _ hk => ⟨⟨hk.1, ⟨hk.2.2.1, hk.2.2.2⟩⟩, hk.2.1⟩)) hg hat)
        have n2_ := Aside0.mk (blk_grown (g := gb531) (o := .cells #[.int .i64 ((rd_T55 t527 x15_1).f0), .int .i64 ((rd_T55 t527 x15_1).f1)] 55 (0, 0)) (by (with_reducible repeat (first | refine blk_drewN ?_ _ | refine blk_drew ?_ | refine blk_alloc ?_ _)); exact BK531.out) hg (Kd.R_away HO534.out (fun _ hk => hk.2.2.2)))
        have n3_ := Aside0.mk (Kd.R_after (ok := (fun k_ => (w.heap.size ≤ k_) ∧ some k_ ≠ (.slice (some ad530) t527.length co8 : Value).ownBlock ∧ k_ ≠ gb531)) (by (with_reducible repeat (first | apply Kd.R_alloc | apply Kd.R_drewN | apply Kd.R_drew)); exact Kd.R_mono HO537.out (fun _ hk => ⟨⟨hk.1, ⟨hk.2.2.1, hk.2.2.2⟩⟩, hk.2.1⟩)) hg hat)
        have n4_ := Aside0.mk (hb)
        have n5_ := Aside0.mk (ho)
        clear HO_7
        clear HO_13
        clear BK531
        clear HO537
        clear HB
        clear HO534
        have HO_7 := n0_
        have HO_13 := n1_
        have BK531 := n2_
        have HO537 := n3_
        have HB := n4_
        have HO540 := n5_
        clear n0_ n1_ n2_ n3_ n4_ n5_
        clear ho hb hg hat
        obtain ⟨Ao28, co28, eo28⟩ := Kd.R_slice HO540.out
        (first | subst eo28 | (injection eo28 with f1_ f2_ f3_; have f4_ := f1_.symm; have f5_ := f3_.symm; clear f1_ f2_ f3_; subst f4_; subst f5_))
        refine hK.out _ _ ⟨(blk_cell BK531.out 0).trans rfl, (blk_cell BK531.out 1).trans rfl⟩ (fun hHeld => ?_)
        clear hK K
        refine norm_ (a' := ?_) ?_ ?_
        rotate_left
        ·show Act.put _ (some 25) _ = _
         simp only [Act.put, List.setIfInBounds_toArray, List.set_cons_zero, List.set_cons_succ, i64_w, i32_w]
         rfl
        refine one_ (i := 7) (N := some 26) #[T, T, T, T, T, T, T, T, F, F, F, F] rfl rfl (one_of HT_.out (by kernel_rfl)) (by decide) (fun K hK => ?_)
        refine goes_ Try.func84 (by kernel_rfl) rfl #[.slice Ao28 y538.length co28] (by rfl) rfl rfl (by (try simp only [List.map_toArray, List.map_cons, List.map_nil]); first | done | rfl) ?_
        with_reducible refine (impl_sorted.calls _ _ y538 t541 _ ?side1 ?side2 A14.out).mono ?_
        (case side1 => repeat (first | exact (Kd.R_reads' HO540.out).2.2 | (with_reducible refine Kd.C_alloc ?_ _) | (with_reducible refine Kd.C_drewN ?_ _) | (with_reducible refine Kd.C_drew ?_)))
        (case side2 => exact (Kd.R_reads' HO540.out).2.1)
        rintro e w29 ⟨v542, rfl, ho0, hb⟩
        refine ⟨_, rfl, ?_⟩
        have n0_ := Aside0.mk (Kd.S_elder' (by (with_reducible repeat (first | apply Kd.S_alloc | apply Kd.S_drewN | apply Kd.S_drew)); exact HO_7.out) (Kd.R_base ho0) hb)
        have n1_ := Aside0.mk (Kd.R_elder' (by (with_reducible repeat (first | apply Kd.R_alloc | apply Kd.R_drewN | apply Kd.R_drew)); exact HO_13.out) (Kd.R_base ho0) hb)
        have n2_ := Aside0.mk (Kd.R_elder' (by (with_reducible repeat (first | apply Kd.R_alloc | apply Kd.R_drewN | apply Kd.R_drew)); exact HO537.out) (Kd.R_base ho0) hb)
        have n3_ := Aside0.mk (Kd.R_elder' (by (with_reducible repeat (first | apply Kd.R_alloc | apply Kd.R_drewN | apply Kd.R_drew)); exact HO540.out) (Kd.R_base ho0) hb)
        have n4_ := Aside0.mk (Kd.R_lower (Kd.R_newB (Kd.R_new' (Kd.R_new' (Kd.R_new' (Kd.R_newM (M := fun k_ => (w.heap.size ≤ k_)) ho0 (below_size (by repeat (first | (with_reducible first | exact HB.out | apply below_alloc | apply pw_below_drewN | apply below_drew1 | refine below_set ?_ GE531.out) | exact HB.out))) (fun k_ h_ => h_)) (Kd.R_lt (by (with_reducible repeat (first | apply Kd.R_alloc | apply Kd.R_drewN | apply Kd.R_drew)); exact HO_13.out))) (Kd.R_lt (by (with_reducible repeat (first | apply Kd.R_alloc | apply Kd.R_drewN | apply Kd.R_drew)); exact HO537.out))) (Kd.R_lt (by (with_reducible repeat (first | apply Kd.R_alloc | apply Kd.R_drewN | apply Kd.R_drew)); exact HO540.out))) (g := gb531) (o := .cells #[.int .i64 ((rd_T55 t527 x15_1).f0), .int .i64 ((rd_T55 t527 x15_1).f1)] 55 (0, 0)) (by (with_reducible repeat (first | refine blk_drewN ?_ _ | refine blk_drew ?_ | refine blk_alloc ?_ _)); exact BK531.out)) (below_size (by repeat (first | (with_reducible first | exact HB.out | apply below_alloc | apply pw_below_drewN | apply below_drew1 | refine below_set ?_ GE531.out) | exact HB.out))))
        have n5_ := Aside0.mk (blk_below (g := gb531) (o := .cells #[.int .i64 ((rd_T55 t527 x15_1).f0), .int .i64 ((rd_T55 t527 x15_1).f1)] 55 (0, 0)) (by (with_reducible repeat (first | refine blk_drewN ?_ _ | refine blk_drew ?_ | refine blk_alloc ?_ _)); exact BK531.out) hb)
        have n6_ := Aside0.mk (below_step (by repeat (first | (with_reducible first | exact HB.out | apply below_alloc | apply pw_below_drewN | apply below_drew1 | refine below_set ?_ GE531.out) | exact HB.out)) hb)
        clear HO_7
        clear HO_13
        clear HO537
        clear HO540
        clear BK531
        clear HB
        have HO_7 := n0_
        have HO_13 := n1_
        have HO537 := n2_
        have HO540 := n3_
        have HO543 := n4_
        have BK531 := n5_
        have HB := n6_
        clear n0_ n1_ n2_ n3_ n4_ n5_ n6_
        (try clear hb)
        (try clear ho0)
        obtain ⟨Ao30, co30, eo30⟩ := Kd.R_slice HO543.out
        (first | subst eo30 | (injection eo30 with f1_ f2_ f3_; have f4_ := f1_.symm; have f5_ := f3_.symm; clear f1_ f2_ f3_; subst f4_; subst f5_))
        refine hK.out _ _ ⟨(blk_cell BK531.out 0).trans rfl, (blk_cell BK531.out 1).trans rfl⟩ (fun hHeld => ?_)
        clear hK K
        refine norm_ (a' := ?_) ?_ ?_
        rotate_left
        ·show Act.put _ (some 26) _ = _
         simp only [Act.put, List.setIfInBounds_toArray, List.set_cons_zero, List.set_cons_succ, i64_w, i32_w]
         rfl
        refine one_ (i := 8) (N := some 27) #[T, T, T, T, T, T, T, T, T, F, F, F] rfl rfl (one_of HT_.out (by kernel_rfl)) (by decide) (fun K hK => ?_)
        refine goesV_ Try.func49 (by kernel_rfl) rfl #[.slice Ao30 t541.length co30] (by rfl) rfl rfl rfl (by (try simp only [List.map_toArray, List.map_cons, List.map_nil]); first | done | rfl) ?_
        with_reducible refine (impl_normal.calls k1 _ _ t541 t544 _ ?side1 ?side2 A15.out).mono ?_
        (case side1 => repeat (first | exact (Kd.R_reads' HO543.out).2.2 | (with_reducible refine Kd.C_alloc ?_ _) | (with_reducible refine Kd.C_drewN ?_ _) | (with_reducible refine Kd.C_drew ?_)))
        (case side2 => exact (Kd.R_reads' HO543.out).2.1)
        rintro e w31 ⟨v545, rfl, ho0, hb⟩
        refine ⟨_, rfl, ?_⟩
        have n0_ := Aside0.mk (Kd.S_elder' (by (with_reducible repeat (first | apply Kd.S_alloc | apply Kd.S_drewN | apply Kd.S_drew)); exact HO_7.out) (Kd.R_base ho0) hb)
        have n1_ := Aside0.mk (Kd.R_elder' (by (with_reducible repeat (first | apply Kd.R_alloc | apply Kd.R_drewN | apply Kd.R_drew)); exact HO_13.out) (Kd.R_base ho0) hb)
        have n2_ := Aside0.mk (Kd.R_elder' (by (with_reducible repeat (first | apply Kd.R_alloc | apply Kd.R_drewN | apply Kd.R_drew)); exact HO537.out) (Kd.R_base ho0) hb)
        have n3_ := Aside0.mk (Kd.R_elder' (by (with_reducible repeat (first | apply Kd.R_alloc | apply Kd.R_drewN | apply Kd.R_drew)); exact HO540.out) (Kd.R_base ho0) hb)
        have n4_ := Aside0.mk (Kd.R_elder' (by (with_reducible repeat (first | apply Kd.R_alloc | apply Kd.R_drewN | apply Kd.R_drew)); exact HO543.out) (Kd.R_base ho0) hb)
        have n5_ := Aside0.mk (Kd.R_lower (Kd.R_newB (Kd.R_new' (Kd.R_new' (Kd.R_new' (Kd.R_new' (Kd.R_newM (M := fun k_ => (w.heap.size ≤ k_)) ho0 (below_size (by repeat (first | (with_reducible first | exact HB.out | apply below_alloc | apply pw_below_drewN | apply below_drew1 | refine below_set ?_ GE531.out) | exact HB.out))) (fun k_ h_ => h_)) (Kd.R_lt (by (with_reducible repeat (first | apply Kd.R_alloc | apply Kd.R_drewN | apply Kd.R_drew)); exact HO_13.out))) (Kd.R_lt (by (with_reducible repeat (first | apply Kd.R_alloc | apply Kd.R_drewN | apply Kd.R_drew)); exact HO537.out))) (Kd.R_lt (by (with_reducible repeat (first | apply Kd.R_alloc | apply Kd.R_drewN | apply Kd.R_drew)); exact HO540.out))) (Kd.R_lt (by (with_reducible repeat (first | apply Kd.R_alloc | apply Kd.R_drewN | apply Kd.R_drew)); exact HO543.out))) (g := gb531) (o := .cells #[.int .i64 ((rd_T55 t527 x15_1).f0), .int .i64 ((rd_T55 t527 x15_1).f1)] 55 (0, 0)) (by (with_reducible repeat (first | refine blk_drewN ?_ _ | refine blk_drew ?_ | refine blk_alloc ?_ _)); exact BK531.out)) (below_size (by repeat (first | (with_reducible first | exact HB.out | apply below_alloc | apply pw_below_drewN | apply below_drew1 | refine below_set ?_ GE531.out) | exact HB.out))))
        have n6_ := Aside0.mk (blk_below (g := gb531) (o := .cells #[.int .i64 ((rd_T55 t527 x15_1).f0), .int .i64 ((rd_T55 t527 x15_1).f1)] 55 (0, 0)) (by (with_reducible repeat (first | refine blk_drewN ?_ _ | refine blk_drew ?_ | refine blk_alloc ?_ _)); exact BK531.out) hb)
        have n7_ := Aside0.mk (below_step (by repeat (first | (with_reducible first | exact HB.out | apply below_alloc | apply pw_below_drewN | apply below_drew1 | refine below_set ?_ GE531.out) | exact HB.out)) hb)
        clear HO_7
        clear HO_13
        clear HO537
        clear HO540
        clear HO543
        clear BK531
        clear HB
        have HO_7 := n0_
        have HO_13 := n1_
        have HO537 := n2_
        have HO540 := n3_
        have HO543 := n4_
        have HO546 := n5_
        have BK531 := n6_
        have HB := n7_
        clear n0_ n1_ n2_ n3_ n4_ n5_ n6_ n7_
        (try clear hb)
        (try clear ho0)
        obtain ⟨Ao32, co32, eo32⟩ := Kd.R_slice HO546.out
        (first | subst eo32 | (injection eo32 with f1_ f2_ f3_; have f4_ := f1_.symm; have f5_ := f3_.symm; clear f1_ f2_ f3_; subst f4_; subst f5_))
        refine hK.out _ _ ⟨(blk_cell BK531.out 0).trans rfl, (blk_cell BK531.out 1).trans rfl⟩ (fun hHeld => ?_)
        clear hK K
        refine norm_ (a' := ?_) ?_ ?_
        rotate_left
        ·show Act.put _ (some 27) _ = _
         simp only [Act.put, List.setIfInBounds_toArray, List.set_cons_zero, List.set_cons_succ, i64_w, i32_w]
         rfl
        refine one_ (i := 9) (N := some 28) #[T, T, T, T, T, T, T, T, T, T, F, F] rfl rfl (one_of HT_.out (by kernel_rfl)) (by decide) (fun K hK => ?_)
        refine event_step ?hw (v := .slice (some ⟨w31.heap.size, 0, none⟩) 1 1) (w1 := w31.alloc (.cells #[.slice Ao32 t544.length co32] 27)) ?hr ?_
        (case hw => rfl)
        (case hr => first | (go_simp; done) | (go_simp; rfl))
        refine hK.out _ _ ⟨(blk_cell (blk_alloc BK531.out _) 0).trans rfl, (blk_cell (blk_alloc BK531.out _) 1).trans rfl⟩ (fun hHeld => ?_)
        clear hK K
        refine norm_ (a' := ?_) ?_ ?_
        rotate_left
        ·show Act.put _ (some 28) _ = _
         simp only [Act.put, List.setIfInBounds_toArray, List.set_cons_zero, List.set_cons_succ, i64_w, i32_w]
         rfl
        refine one_ (i := 10) (N := some 29) #[T, T, T, T, T, T, T, T, T, T, T, F] rfl rfl (one_of HT_.out (by kernel_rfl)) (by decide) (fun K hK => ?_)
        refine Kd.S_append_step (Kd.slice 55 k55) (w0 := w) w.heap.size (by rfl) (.tmp 19) (.tmp 28) 24 27 (.slice none 0 0) 24 rfl Try.underlying24 info27 rfl (by decide) (by omega) (.slice Ao19 x7_1.length co19) x7_1 t544 [.slice Ao32 t544.length co32] (fun k_ => (w.heap.size ≤ k_) ∧ some k_ ≠ (.slice (some ad530) t527.length co8 : Value).ownBlock) (fun k_ => some k_ = (.slice Ao32 t544.length co32 : Value).ownBlock) rfl rfl ?aP ?aQ ?aF ?aO ?aB ?aS ?aL ?_
        (case aP => exact Kd.M_row (Kd.R_mono (Kd.R_tight rfl HO546.out) (fun _ h_ => h_)))
        (case aQ => exact (fun k_ hq_ => by (have hk_ := (Kd.R_apart' HO546.out (Kd.S_typed HO_7.out) (by decide)).1 k_ hq_.symm); (simp only [and_assoc] at hk_); refine ⟨⟨Kd.R_base HO546.out k_ hq_.symm, ?_⟩, ?_⟩ <;> (first | exact hk_ | exact hk_.1 | exact hk_.2.1 | exact hk_.2.2.1 | exact hk_.2.2.2.1 | exact hk_.2.2.2.2.1 | exact hk_.2.2.2.2.2.1 | exact hk_.2.2.2.2.2.2.1 | exact hk_.2.2.2.2.2.2.2.1 | exact hk_.2.2.2.2.2.2.2.2.1 | exact hk_.2.2.2.2.2.2.2.2.2.1 | exact hk_.2.2.2.2.2.2.2.2.2.2.1 | exact hk_.2.2.2.2.2.2.2.2.2.2.2.1 | exact hk_.2 | exact hk_.2.2 | exact hk_.2.2.2 | exact hk_.2.2.2.2 | exact hk_.2.2.2.2.2 | exact hk_.2.2.2.2.2.2 | exact hk_.2.2.2.2.2.2.2 | exact hk_.2.2.2.2.2.2.2.2 | exact hk_.2.2.2.2.2.2.2.2.2 | exact hk_.2.2.2.2.2.2.2.2.2.2 | exact hk_.2.2.2.2.2.2.2.2.2.2.2)))
        (case aF => exact (fun k_ hk => ⟨Nat.le_trans (below_size (by exact HB.out)) hk, Kd.fresh' (Kd.R_lt HO_13.out) k_ hk⟩))
        (case aO => exact (Kd.S_mono HO_7.out (fun k_ hk_ => by (simp only [and_assoc] at hk_); refine ⟨⟨?_, ?_⟩, ?_⟩ <;> (first | exact hk_ | exact hk_.1 | exact hk_.2.1 | exact hk_.2.2.1 | exact hk_.2.2.2.1 | exact hk_.2.2.2.2.1 | exact hk_.2.2.2.2.2.1 | exact hk_.2.2.2.2.2.2.1 | exact hk_.2.2.2.2.2.2.2.1 | exact hk_.2.2.2.2.2.2.2.2.1 | exact hk_.2.2.2.2.2.2.2.2.2.1 | exact hk_.2.2.2.2.2.2.2.2.2.2.1 | exact hk_.2.2.2.2.2.2.2.2.2.2.2.1 | exact hk_.2 | exact hk_.2.2 | exact hk_.2.2.2 | exact hk_.2.2.2.2 | exact hk_.2.2.2.2.2 | exact hk_.2.2.2.2.2.2 | exact hk_.2.2.2.2.2.2.2 | exact hk_.2.2.2.2.2.2.2.2 | exact hk_.2.2.2.2.2.2.2.2.2 | exact hk_.2.2.2.2.2.2.2.2.2.2 | exact hk_.2.2.2.2.2.2.2.2.2.2.2))))
        (case aB => exact HB.out)
        (case aS => exact below_size HB.out)
        (case aL => have := LMc16.out; have hy_ := congrArg List.length Ny547.out; simp only [List.length_singleton] at hy_; omega)
        intro v551 w35 ho hb hg hat
        rw [← Ny547.out, ← Ny550.out] at ho
        have n0_ := Aside0.mk (Kd.R_over' (HO_13.out) (Kd.S_typed HO_7.out) (by decide) hg)
        have n1_ := Aside0.mk (blk_grown BK531.out hg (Kd.S_ne HO_7.out BK531.out (by decide)))
        have n2_ := Aside0.mk hb
        have n3_ := Aside0.mk ho
        clear HO_13 BK531 HB HO_7
        have HO_13 := n0_
        have BK531 := n1_
        have HB := n2_
        have HO552 := n3_
        clear n0_ n1_ n2_ n3_ ho hb hg hat
        refine hK.out _ _ ⟨(blk_cell BK531.out 0).trans rfl, (blk_cell BK531.out 1).trans rfl⟩ (fun hHeld => ?_)
        clear hK K
        refine norm_ (a' := ?_) ?_ ?_
        rotate_left
        ·show Act.put _ (some 29) _ = _
         simp only [Act.put, List.setIfInBounds_toArray, List.set_cons_zero, List.set_cons_succ, i64_w, i32_w]
         rfl
        refine pure_ (i := 11) (N := some 7) (v := ?_) (a' := ?_) #[T, T, T, T, T, T, T, T, T, T, T, T] rfl rfl (any_of HT_.out (by kernel_rfl)) (fun _ _ _ h => h) (Or.inl ⟨by rfl, ?_⟩) ?_ ?_
        rotate_left
        ·intro w'
         go_simp
         with_reducible rfl
        rotate_left
        ·simp only [Act.put, List.setIfInBounds_toArray, List.set_cons_zero, List.set_cons_succ, i64_w, i32_w]
         rfl
        refine done_ (done_of HT_.out (by kernel_rfl)) ?_
        try go_wp2
        go_roundg k1
        case measure => have := HK1.out; omega
        case rel => exact ⟨(y550), (wrap64 (x15_1 + 1)), (by first | rfl | (simp; done) | (simp [*]; done)), H', ⟨by have := HK1.out; omega⟩, ⟨by (with_reducible repeat (first | apply Kd.S_alloc | apply Kd.S_drewN | apply Kd.S_drew)); exact HO552.out⟩, ⟨by (with_reducible repeat (first | apply Kd.R_alloc | apply Kd.R_drewN | apply Kd.R_drew)); exact Kd.R_mono HO_13.out (fun _ hk_ => by (simp only [and_assoc] at hk_); first | exact hk_ | exact hk_.1 | exact hk_.2.1 | exact hk_.2.2.1 | exact hk_.2.2.2.1 | exact hk_.2.2.2.2.1 | exact hk_.2.2.2.2.2.1 | exact hk_.2.2.2.2.2.2.1 | exact hk_.2.2.2.2.2.2.2.1 | exact hk_.2.2.2.2.2.2.2.2.1 | exact hk_.2.2.2.2.2.2.2.2.2.1 | exact hk_.2.2.2.2.2.2.2.2.2.2.1 | exact hk_.2.2.2.2.2.2.2.2.2.2.2.1 | exact hk_.2 | exact hk_.2.2 | exact hk_.2.2.2 | exact hk_.2.2.2.2 | exact hk_.2.2.2.2.2 | exact hk_.2.2.2.2.2.2 | exact hk_.2.2.2.2.2.2.2 | exact hk_.2.2.2.2.2.2.2.2 | exact hk_.2.2.2.2.2.2.2.2.2 | exact hk_.2.2.2.2.2.2.2.2.2.2 | exact hk_.2.2.2.2.2.2.2.2.2.2.2)⟩, ⟨by repeat (first | (with_reducible first | exact HB.out | apply below_alloc | apply pw_below_drewN | apply below_drew1 | refine below_set ?_ GE531.out) | exact HB.out)⟩⟩
       ·rw [if_neg c16] at H
        exact absurd H (by simp)
      ·rw [if_neg c13] at H
       exact absurd H (by simp)
     ·rw [if_neg c11] at H
      exact absurd H (by simp)
    ·rw [if_neg c10] at H
     exact absurd H (by simp)
   ·rw [if_neg c9] at H
    have c9b0 : decide (x15_1 < (t527.length : Int)) = false := decide_eq_false c9
    clear c9
    replace H := Option.bind_eq_some_iff.mp H
    obtain ⟨t553, A370, H⟩ := H
    replace H : (some t553) = some r := H
    have A37 := Aside0.mk A370
    clear A370
    obtain rfl := Option.some.inj H
    obtain ⟨Ao38, co38, eo38⟩ := Kd.S_slice HO_7.out
    subst eo38
    have HS_ := Aside0.mk (Kd.S_mono HO_7.out (ok' := fun _ => True) (fun _ _ => trivial))
    go_wp2_with fail
    refine (tidy_walk _ x7_1 t553 w _ HB.out HS_.out _ A37.out).mono ?_
    rintro e we_ ⟨ve_, rfl, hs_, hb_⟩
    have HE_ := Aside0.mk hs_
    have HF_ := Aside0.mk hb_
    clear hs_ hb_
    go_wp2_with fail
    go_ret
    exact ⟨_, rfl, HE_.out, HF_.out⟩

end Go.Proofs.Ytbkafaoehheioaa.X
