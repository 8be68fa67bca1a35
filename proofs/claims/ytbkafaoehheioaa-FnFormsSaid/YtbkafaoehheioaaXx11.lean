-- xprint.py
import Derived.Test.YtbkafaoehheioaaXx0
import Derived.Test.YtbkafaoehheioaaXx1
import Derived.Test.YtbkafaoehheioaaXx2
import Derived.Test.YtbkafaoehheioaaXx3
import Derived.Test.YtbkafaoehheioaaXx4
import Derived.Test.YtbkafaoehheioaaXx5
namespace Go.Proofs.Ytbkafaoehheioaa.X
open Go.RowKit Go.Proofs.YtbkafaoehheioaaW.PrintWords Go.Proofs.YtbkafaoehheioaaW.PrintLast Go.Proofs.YtbkafaoehheioaaW.PrintMore
attribute [local go_sem] max2_int min2_int max_two min_two max_three min_three max_four min_four   -- for this text's walks alone
set_option linter.unusedVariables false
set_option linter.unusedSimpArgs false

attribute [local go_sem high] eqA55
/-! ### CommonShapesLeast: function -1, by hand -/
def minF_ (m y : List S55) : List S55 := if cfS_ y m < 0 then y else m
/-- the first least row -/
def minS_ : List (List S55) → List S55
 | [] => []
 | a :: r => r.foldl minF_ a
set_option maxHeartbeats 4000000 in
set_option maxRecDepth 100000 in
theorem min_rows (g cap : Nat) (es : List (Value × List S55)) (w0 w : World) (hB : Below w0.heap.size w0 w) (hown : w.ownsRow w0.heap.size 27 1 (.slice (some ⟨g, 0, none⟩) es.length cap) es.length (es.map Prod.fst)) (hPR : PR_ w w0.heap.size (some g) es) (hn : 0 < es.length) :
  Calls Try.prog 125 #[.slice (some ⟨g, 0, none⟩) es.length cap, .func (.func 65) #[] #[]] w fun e w' => ∃ x ∈ es, e = .returned x.1 ∧ x.2 = minS_ (es.map Prod.snd) ∧ PR_ w' w0.heap.size (some g) es ∧ Below w0.heap.size w0 w' := by
 have hu1 := Try.underlying24
 obtain ⟨ho1, hv⟩ := hown
 rcases hv with ⟨hv, _⟩ | ⟨g', cap', cur, hv, hge, hblk, hcap, hmax, hcur, htake⟩
 ·exact absurd hv (by simp)
 obtain ⟨rfl, rfl⟩ : g' = g ∧ cap' = cap := by
  injection hv with a b c
  injection a with a
  injection a with a
  exact ⟨a.symm, c.symm⟩
 have hlt : g' < w.heap.size := blk_lt hblk
 have hcell : ∀ W, w.grownBy W none → ∀ j, j < es.length → W.cell? ⟨g', j, none⟩ = some (gE_ es j).1 := by
  intro W hW j hj
  have hb := (hW.block g' hlt (by simp)).trans hblk
  refine (blk_cell hb _).trans ?_
  have e := congrArg (fun z => z[j]?) htake
  simp only [List.getElem?_take, Nat.mul_one] at e
  rw [if_pos (by omega), List.getElem?_map, gE_get es j hj, Array.getElem?_toList] at e
  exact e
 have hsl : ∀ x ∈ es, ∃ A n c, x.1 = .slice A n c := fun x hx => by
  obtain ⟨A, c, e⟩ := Kd.R_slice (hPR.own x hx)
  exact ⟨A, _, c, e⟩
 have hcmp : ∀ x ∈ es, ∀ y ∈ es, ∀ W, w.grownBy W none → Calls Try.prog 65 #[x.1, y.1] W fun e w' => e = .returned (.int .i64 (cfS_ x.2 y.2)) ∧ w.grownBy w' none := by
  intro x hx y hy W hW
  obtain ⟨A, c, ex, _, hCx⟩ := Kd.R_reads (Kd.R_step (hPR.own x hx) (fun k hk hlt => hW.block k hlt (by simp)))
  obtain ⟨B, c', ey, _, hCy⟩ := Kd.R_reads (Kd.R_step (hPR.own y hy) (fun k hk hlt => hW.block k hlt (by simp)))
  rw [ex, ey]
  refine (compareShapes_grow A c x.2 B c' y.2 W hCx hCy).mono ?_
  rintro e w' ⟨rfl, q, os, rfl⟩
  refine ⟨rfl, ⟨hW.os, hW.tape, hW.output, ?_, fun k hk hne => ?_⟩⟩
  ·have := hW.size
   unfold Go.Sort.grow; simp only [Array.size_append]; show w.heap.size ≤ W.heap.size + _; omega
  ·rw [Go.Sort.heap_grow_old _ _ (by have := hW.size; show k < W.heap.size; omega)]
   exact hW.block k hk hne
 have HCELL := Aside0.mk hcell
 have HSL := Aside0.mk hsl
 have HCMP := Aside0.mk hcmp
 have HPR := Aside0.mk hPR
 have HB := Aside0.mk hB
 have HG0 : Aside0 (w.grownBy w none) := ⟨⟨rfl, rfl, rfl, Nat.le_refl _, fun _ _ _ => rfl⟩⟩
 have hx0 := hcell w HG0.out 0 hn
 obtain ⟨A0, n0, c0, e0⟩ := hsl _ (gE_mem es 0 hn)
 rw [e0] at hx0
 have HM0 : Aside0 ((Value.slice A0 n0 c0, (gE_ es 0).2) ∈ es) := ⟨by rw [← e0]; exact gE_mem es 0 hn⟩
 have HF0 : Aside0 (((es.map Prod.snd).drop 1).foldl minF_ (gE_ es 0).2 = minS_ (es.map Prod.snd)) := ⟨by
  cases es with
  | nil => simp at hn
  | cons a r => rfl⟩
 have z1 : decide ((es.length : Int) < 1) = false := decide_eq_false (by omega)
 have z2 : decide (es.length < 1) = false := decide_eq_false (by omega)
 have z3 : decide (0 < (es.length : Int)) = true := decide_eq_true (by omega)
 have z4 : decide (0 < es.length) = true := decide_eq_true hn
 have HN := Aside0.mk hn
 simp only [maxLen] at hmax
 clear hcell hsl hcmp hPR hB hblk htake hv ho1 e0
 go_enter Try.func125, Try.ntmps125
 go_wp2_with fail
 go_loopg [5, 6] (es.length - 1) (fun gk v5 v6 wr => ∃ (j : Nat) (A : Option Addr) (n c : Nat) (l : List S55), v5 = .slice A n c ∧ v6 = .int .i64 j ∧ Aside0 ((Value.slice A n c, l) ∈ es) ∧ Aside0 (1 ≤ j ∧ gk + j = es.length) ∧ Aside0 (((es.map Prod.snd).drop j).foldl minF_ l = minS_ (es.map Prod.snd)) ∧ Aside0 (w.grownBy wr none))
 case atStart => exact ⟨1, A0, n0, c0, _, rfl, rfl, HM0, ⟨by have := HN.out; omega⟩, HF0, HG0⟩
 case round =>
  clear HM0 HF0 HG0 hx0 z1 z2 z3 z4
  obtain ⟨j, A, n, c, l, rfl, rfl, HM, HK, HF, HG⟩ := hrel
  cases gk with
  | zero =>
   have hj : j = es.length := by have := HK.out; omega
   have d1 : decide ((j : Int) < (es.length : Int)) = false := decide_eq_false (by omega)
   have d2 : decide (j < es.length) = false := decide_eq_false (by omega)
   have hf := HF.out
   rw [hj, List.drop_of_length_le (by rw [List.length_map]; exact Nat.le_refl _)] at hf
   have HF2 := Aside0.mk hf
   clear hj hf HF
   go_wp2_with fail
   go_ret
   exact ⟨_, HM.out, rfl, HF2.out, ⟨fun e he => Kd.R_step (HPR.out.own e he) (fun k _ hlt => HG.out.block k hlt (by simp)), HPR.out.apart⟩, HB.out.grown HG.out HB.out.size (fun k hk => by cases hk)⟩
  | succ gk2 =>
   have hj : j < es.length := by have := HK.out; omega
   have p1 : 0 ≤ (j : Int) := by omega
   have q1 : (j : Int) < (es.length : Int) := by omega
   have d1 : decide ((j : Int) < (es.length : Int)) = true := decide_eq_true q1
   have d2 : decide (j < es.length) = true := decide_eq_true hj
   have hx := HCELL.out wr HG.out j hj
   obtain ⟨B, n', c', eB⟩ := HSL.out _ (gE_mem es j hj)
   have HJM := Aside0.mk (gE_mem es j hj)
   have hdr : (es.map Prod.snd).drop j = (gE_ es j).2 :: (es.map Prod.snd).drop (j + 1) := by
    have e1 : (es.map Prod.snd)[j]? = some (gE_ es j).2 := by rw [List.getElem?_map, gE_get es j hj]; rfl
    have hj2 : j < (es.map Prod.snd).length := by rw [List.length_map]; exact hj
    rw [List.drop_eq_getElem_cons hj2]
    rw [List.getElem?_eq_getElem hj2] at e1
    rw [Option.some.inj e1]
   have hf := HF.out
   rw [hdr, List.foldl_cons] at hf
   have HF1 := Aside0.mk hf
   have HCJ := Aside0.mk (fun W hW => HCELL.out W hW j hj)
   clear hdr hf HF
   generalize gE_ es j = x at *
   obtain ⟨xv, xl⟩ := x
   try simp only at eB
   subst eB
   try simp only at hx
   have hc := HCMP.out _ HJM.out _ HM.out wr HG.out
   try simp only at hc
   have HC := Aside0.mk hc
   clear hc
   go_wp2_with fail
   refine HC.out.mono ?_
   rintro e w2 ⟨rfl, hg2⟩
   have HG2 := Aside0.mk hg2
   have hx2 := HCJ.out w2 hg2
   try simp only at hx2
   clear hg2 hx HC
   by_cases hlt2 : cfS_ xl l < 0
   ·have c1 : decide (cfS_ xl l < 0) = true := decide_eq_true hlt2
    have hf := HF1.out
    unfold minF_ at hf
    rw [if_pos hlt2] at hf
    have HF2 := Aside0.mk hf
    clear hf hlt2 HF1
    generalize cfS_ xl l = cc at *
    go_wp2_with fail
    go_roundg gk2
    case measure => omega
    case rel => exact ⟨j + 1, B, n', c', xl, rfl, by go_num, HJM, ⟨by have := HK.out; omega⟩, ⟨by first | exact HF2.out | (unfold minF_; exact HF2.out)⟩, HG2⟩
   ·have c1 : decide (cfS_ xl l < 0) = false := decide_eq_false hlt2
    have hf := HF1.out
    unfold minF_ at hf
    rw [if_neg hlt2] at hf
    have HF2 := Aside0.mk hf
    clear hf hlt2 HF1
    generalize cfS_ xl l = cc at *
    go_wp2_with fail
    go_roundg gk2
    case measure => omega
    case rel => exact ⟨j + 1, A, n, c, l, rfl, by go_num, HM, ⟨by have := HK.out; omega⟩, ⟨by first | exact HF2.out | (unfold minF_; exact HF2.out)⟩, HG2⟩

theorem leastOf_walk (u : Value) (o : List (List S55)) (w0 w : World) (hB : Below w0.heap.size w0 w) (hS : Kd.S (Kd.slice 55 k55) 27 w w0.heap.size (fun _ => True) u o) (h0 : 0 < o.length) :
  Calls Try.prog 92 #[u] w fun e w' => ∃ v, e = .returned v ∧ Kd.R k55 55 w' w0.heap.size (fun _ => True) v (minS_ o) ∧ Below w0.heap.size w0 w' := by
 obtain ⟨es, hes, hown, hPR⟩ := S_split hS
 have hlen : es.length = o.length := by rw [← hes, List.length_map]
 obtain ⟨g, cap, hu⟩ : ∃ g cap, u = .slice (some ⟨g, 0, none⟩) es.length cap := by
  rcases hown.2 with ⟨_, hn⟩ | ⟨g, cap, cur, hu, _⟩
  ·omega
  ·exact ⟨g, cap, hu⟩
 subst hu
 have hob : (Value.slice (some ⟨g, 0, none⟩) es.length cap).ownBlock = some g := by simp [Value.ownBlock]
 rw [hob] at hPR
 have HM := Aside0.mk (min_rows g cap es w0 w hB hown hPR (by omega))
 have HES := Aside0.mk hes
 have HSL : Aside0 (∀ x ∈ es, ∃ A n c, x.1 = .slice A n c) := ⟨fun x hx => by
  obtain ⟨A, c, e⟩ := Kd.R_slice (hPR.own x hx)
  exact ⟨A, _, c, e⟩⟩
 clear hS hB hown hPR hes hlen hob h0
 go_enter Try.func92, Try.ntmps92
 go_wp2_with fail
 refine HM.out.mono ?_
 rintro e w' ⟨x, hx, rfl, hm, hP, hb⟩
 obtain ⟨A, n, c, ex⟩ := HSL.out x hx
 have HR := Aside0.mk (Kd.R_mono (hP.own x hx) (fun _ _ => trivial))
 have hm2 := hm
 rw [HES.out] at hm2
 rw [hm2, ex] at HR
 rw [ex]
 have HB2 := Aside0.mk hb
 clear hm hm2 hP hb hx ex
 go_wp2_with fail
 go_ret
 exact ⟨_, rfl, HR.out, HB2.out⟩

/-! ### spec_l03Turn: function 96 -/
mutual
def spec_l03Turn.j0 : Nat → Int → Int → Int → Option (Int × Int)
 | 0, _, _, _ => none
 | k + 1, x1, x589000, x589001 => spec_l03Turn.l0 k (Int.tmod x1 4) x589000 x589001
def spec_l03Turn.l0 : Nat → Int → Int → Int → Option (Int × Int)
 | 0, _, _, _ => none
 | k + 1, x5, x589000, x589001 => if x5 > 0 then (spec_l03Turn.l0 k (wrap64 (x5 - 1)) (wrap64 (-x589001)) x589000) else (some (x589000, x589001))
end
def spec_l03Turn.f (k : Nat) (a0_0 : Int) (a0_1 : Int) (a1 : Int) : Option (Int × Int) := if a1 ≥ 4 then (spec_l03Turn.j0 k a1 (wrap64 (-a0_0)) a0_1) else (spec_l03Turn.j0 k a1 a0_0 a0_1)
theorem spec_l03Turn.mono_l : ∀ k, (∀ y0 y1 y2, LeO (spec_l03Turn.j0 k y0 y1 y2) (spec_l03Turn.j0 (k + 1) y0 y1 y2)) ∧ (∀ y0 y1 y2, LeO (spec_l03Turn.l0 k y0 y1 y2) (spec_l03Turn.l0 (k + 1) y0 y1 y2))
 | 0 => ⟨fun _ _ _ r h => by simp [spec_l03Turn.j0] at h, fun _ _ _ r h => by simp [spec_l03Turn.l0] at h⟩
 | k + 1 => by
  obtain ⟨ih0, ih1⟩ := spec_l03Turn.mono_l k
  refine ⟨?_, ?_⟩
  ·intro y0 y1 y2
   unfold spec_l03Turn.j0
   repeat' first
   | (with_reducible exact ih0 _ _ _)
   | (with_reducible exact ih1 _ _ _)
   | (with_reducible exact LeO.refl _)
   | (with_reducible exact LeO.none _)
   | (with_reducible refine LeO.ite ?_ ?_)
   | (with_reducible refine LeO.bind ?_ (fun _ => ?_))
   | exact ih0 _ _ _
   | exact ih1 _ _ _
   | exact LeO.none _
   | refine LeO.ite ?_ ?_
   | refine LeO.bind ?_ (fun _ => ?_)
  ·intro y0 y1 y2
   unfold spec_l03Turn.l0
   repeat' first
   | (with_reducible exact ih0 _ _ _)
   | (with_reducible exact ih1 _ _ _)
   | (with_reducible exact LeO.refl _)
   | (with_reducible exact LeO.none _)
   | (with_reducible refine LeO.ite ?_ ?_)
   | (with_reducible refine LeO.bind ?_ (fun _ => ?_))
   | exact ih0 _ _ _
   | exact ih1 _ _ _
   | exact LeO.none _
   | refine LeO.ite ?_ ?_
   | refine LeO.bind ?_ (fun _ => ?_)
theorem spec_l03Turn.mono : ∀ a0 a1 a2 k, LeO (spec_l03Turn.f k a0 a1 a2) (spec_l03Turn.f (k + 1) a0 a1 a2) := by
 intro a0 a1 a2 k
 obtain ⟨ih0, ih1⟩ := spec_l03Turn.mono_l k
 unfold spec_l03Turn.f
 repeat' first
   | (with_reducible exact ih0 _ _ _)
   | (with_reducible exact ih1 _ _ _)
   | (with_reducible exact LeO.refl _)
   | (with_reducible exact LeO.none _)
   | (with_reducible refine LeO.ite ?_ ?_)
   | (with_reducible refine LeO.bind ?_ (fun _ => ?_))
   | exact ih0 _ _ _
   | exact ih1 _ _ _
   | exact LeO.none _
   | refine LeO.ite ?_ ?_
   | refine LeO.bind ?_ (fun _ => ?_)
set_option maxHeartbeats 8000000 in
set_option maxRecDepth 100000 in
theorem spec_l03Turn.calls (k : Nat) (a0_0 : Int) (a0_1 : Int) (a1 : Int) (r1 : Int) (r2 : Int) (w : World) (h : spec_l03Turn.f k a0_0 a0_1 a1 = some (r1, r2)) :
  Calls Try.prog 96 #[.agg #[.int .i64 a0_0, .int .i64 a0_1], .int .i64 a1] w fun e w' => e = .returned (.agg #[.int .i64 r1, .int .i64 r2]) ∧ Below w.heap.size w w' := by
 have hu55 := Try.underlying55
 have HB := Aside0.mk (Below.refl w.heap.size w)
 have H : (if a1 ≥ 4 then (spec_l03Turn.j0 k a1 (wrap64 (-a0_0)) a0_1) else (spec_l03Turn.j0 k a1 a0_0 a0_1)) = some (r1, r2) := h
 clear h
 have HC3 := Aside0.mk H
 clear H
 go_enter Try.func96, Try.ntmps96
 go_upto_if 7 with (first | ((with_reducible refine gate_dst (N := 2) rfl ?_); refine box_event ?hg (N := 2) ?hd (cs := #[.int .i64 a0_0, .int .i64 a0_1]) (t := 55) ?hr ?_; (case hd => rfl); (case hg => rfl); (case hr => first | (go_simp; done) | (go_simp; rfl)); intro gb588 hg w4 hbox hb; have BK588 := Aside0.mk (hbox); have GW588 := Aside0.mk ((by rw [hg]; exact (below_size bB_) : w.heap.size ≤ gb588)); have GE588 := Aside0.mk ((by rw [hg]; exact (below_size bB_) : w.heap.size ≤ gb588)); replace HB := Aside0.mk (below_step bB_ hb); clear hb hbox hg) | ((with_reducible refine gate_dst (N := 4) rfl ?_); refine box_event ?hg (N := 4) ?hd (cs := #[.int .i64 0, .int .i64 0]) (t := 55) ?hr ?_; (case hd => rfl); (case hg => rfl); (case hr => first | (go_simp; done) | (go_simp; rfl)); intro gb589 hg w5 hbox hb; have BK589 := Aside0.mk (hbox); have GW589 := Aside0.mk ((by rw [hg]; exact (below_size (by repeat (first | (with_reducible first | exact HB.out | apply below_alloc | apply pw_below_drewN | apply below_drew1 | refine below_set ?_ GE588.out) | exact HB.out))) : w.heap.size ≤ gb589)); have GE589 := Aside0.mk ((by rw [hg]; exact (below_size (by repeat (first | (with_reducible first | exact HB.out | apply below_alloc | apply pw_below_drewN | apply below_drew1 | refine below_set ?_ GE588.out) | exact HB.out))) : w.heap.size ≤ gb589)); replace HB := Aside0.mk (below_step (by repeat (first | (with_reducible first | exact HB.out | apply below_alloc | apply pw_below_drewN | apply below_drew1 | refine below_set ?_ GE588.out) | exact HB.out)) hb); have NB588_589 := Aside0.mk ((by rw [hg]; exact Nat.ne_of_lt (blk_lt (g := gb588) (o := .cells #[.int .i64 a0_0, .int .i64 a0_1] 55 (0, 0)) (by (with_reducible repeat (first | refine blk_drewN ?_ _ | refine blk_drew ?_ | refine blk_alloc ?_ _)); exact BK588.out)) : gb588 ≠ gb589)); have NB589_588 := Aside0.mk ((by rw [hg]; exact Nat.ne_of_gt (blk_lt (g := gb588) (o := .cells #[.int .i64 a0_0, .int .i64 a0_1] 55 (0, 0)) (by (with_reducible repeat (first | refine blk_drewN ?_ _ | refine blk_drew ?_ | refine blk_alloc ?_ _)); exact BK588.out)) : gb589 ≠ gb588)); replace BK588 := Aside0.mk (blk_below (g := gb588) (o := .cells #[.int .i64 a0_0, .int .i64 a0_1] 55 (0, 0)) (by (with_reducible repeat (first | refine blk_drewN ?_ _ | refine blk_drew ?_ | refine blk_alloc ?_ _)); exact BK588.out) hb); clear hb hbox hg))
 (try simp only [Act.put, List.setIfInBounds_toArray, List.set_cons_zero, List.set_cons_succ])
 go_cut [] (fun wc => ∃ (kq : Nat) (x589000_2 : Int) (x589001_2 : Int), Aside0 (spec_l03Turn.j0 kq a1 x589000_2 x589001_2 = some (r1, r2)) ∧ Aside0 (kq ≤ k) ∧ Aside0 (wc.heap[gb588]? = some (.cells #[.int .i64 x589000_2, .int .i64 x589001_2] 55 (0, 0))) ∧ Aside0 (wc.heap[gb589]? = some (.cells #[.int .i64 0, .int .i64 0] 55 (0, 0))) ∧ Aside0 (Below w.heap.size w wc))
 case first =>
  have H := HC3.out
  clear HC3
  by_cases c6 : a1 ≥ 4
  ·rw [if_pos c6] at H
   have c6b0 : decide (4 ≤ a1) = true := decide_eq_true c6
   clear c6
   (first | rw [c6b0] | (simp only [i64_w, i32_w]; rw [c6b0]) | skip)
   have H' := Aside0.mk H
   clear H
   have hnb7 := NB588_589.out
   have hnc7 := NB589_588.out
   have hcz8_0 : w5.cell? ⟨gb588, 0, none⟩ = some (.int .i64 a0_0) := (blk_cell BK588.out 0).trans rfl
   have hcz8_1 : w5.cell? ⟨gb588, 1, none⟩ = some (.int .i64 a0_1) := (blk_cell BK588.out 1).trans rfl
   have hfz8_0 := blk_frozen BK588.out 0
   have hfz8_1 := blk_frozen BK588.out 1
   go_wp2
   go_meet
   case rel => exact ⟨_, (wrap64 (-a0_0)), (a0_1), H', ⟨by first | omega | exact Nat.le_refl _⟩, ⟨by (with_reducible repeat (first | refine blk_drewN ?_ _ | refine blk_drew ?_ | refine blk_alloc ?_ _)); refine blk_put (cs := #[.int .i64 (wrap64 (-a0_0)), .int .i64 a0_1]) ?_ 1 _ rfl; (with_reducible repeat (first | refine blk_drewN ?_ _ | refine blk_drew ?_ | refine blk_alloc ?_ _)); refine blk_put (cs := #[.int .i64 a0_0, .int .i64 a0_1]) ?_ 0 _ rfl; (with_reducible repeat (first | refine blk_drewN ?_ _ | refine blk_drew ?_ | refine blk_alloc ?_ _)); exact BK588.out⟩, ⟨by (with_reducible repeat (first | refine blk_drewN ?_ _ | refine blk_drew ?_ | refine blk_alloc ?_ _)); refine blk_far ?_ NB589_588.out _; (with_reducible repeat (first | refine blk_drewN ?_ _ | refine blk_drew ?_ | refine blk_alloc ?_ _)); refine blk_far ?_ NB589_588.out _; (with_reducible repeat (first | refine blk_drewN ?_ _ | refine blk_drew ?_ | refine blk_alloc ?_ _)); exact BK589.out⟩, ⟨by repeat (first | (with_reducible first | exact HB.out | apply below_alloc | apply pw_below_drewN | apply below_drew1 | refine below_set ?_ GE588.out | refine below_set ?_ GE589.out) | exact HB.out)⟩⟩
  ·rw [if_neg c6] at H
   have c6b0 : decide (4 ≤ a1) = false := decide_eq_false c6
   clear c6
   (first | rw [c6b0] | (simp only [i64_w, i32_w]; rw [c6b0]) | skip)
   have H' := Aside0.mk H
   clear H
   go_wp2
   go_meet
   case rel => exact ⟨_, (a0_0), (a0_1), H', ⟨by first | omega | exact Nat.le_refl _⟩, ⟨by (with_reducible repeat (first | refine blk_drewN ?_ _ | refine blk_drew ?_ | refine blk_alloc ?_ _)); exact BK588.out⟩, ⟨by (with_reducible repeat (first | refine blk_drewN ?_ _ | refine blk_drew ?_ | refine blk_alloc ?_ _)); exact BK589.out⟩, ⟨by repeat (first | (with_reducible first | exact HB.out | apply below_alloc | apply pw_below_drewN | apply below_drew1 | refine below_set ?_ GE588.out | refine below_set ?_ GE589.out) | exact HB.out)⟩⟩
 case rest =>
  clear HC3
  try clear p2
  try clear c6
  try clear c6b0
  try clear p6
  try clear c7
  try clear hcz8_0
  try clear hcz8_1
  try clear hfz8_0
  try clear hfz8_1
  obtain ⟨kq, x589000_2, x589001_2, HA, HJ2, BK588, BK589, HB⟩ := hcut
  cases kq with
  | zero => exact absurd HA.out (by simp [spec_l03Turn.j0])
  | succ kj2 =>
   have H := HA.out
   clear HA
   simp only [spec_l03Turn.j0] at H
   have H' := Aside0.mk H
   clear H
   go_wp2
   go_loopg [5] kj2 (fun kq v5 w' => ∃ (x5_2 : Int) (x589000_2 : Int) (x589001_2 : Int), v5 = .int .i64 x5_2 ∧ Aside0 (spec_l03Turn.l0 kq x5_2 x589000_2 x589001_2 = some (r1, r2)) ∧ Aside0 (kq ≤ kj2) ∧ Aside0 (w'.heap[gb588]? = some (.cells #[.int .i64 x589000_2, .int .i64 x589001_2] 55 (0, 0))) ∧ Aside0 (w'.heap[gb589]? = some (.cells #[.int .i64 0, .int .i64 0] 55 (0, 0))) ∧ Aside0 (Below w.heap.size w w'))
   case atStart => exact ⟨(Int.tmod a1 4), (x589000_2), (x589001_2), r3_, H', ⟨Nat.le_refl _⟩, ⟨by (with_reducible repeat (first | refine blk_drewN ?_ _ | refine blk_drew ?_ | refine blk_alloc ?_ _)); exact BK588.out⟩, ⟨by (with_reducible repeat (first | refine blk_drewN ?_ _ | refine blk_drew ?_ | refine blk_alloc ?_ _)); exact BK589.out⟩, ⟨by repeat (first | (with_reducible first | exact HB.out | apply below_alloc | apply pw_below_drewN | apply below_drew1 | refine below_set ?_ GE588.out | refine below_set ?_ GE589.out) | exact HB.out)⟩⟩
   case round =>
    clear H'
    try clear p2
    try clear c6
    try clear c6b0
    try clear p6
    try clear c7
    try clear hcz8_0
    try clear hcz8_1
    try clear hfz8_0
    try clear hfz8_1
    try clear p2
    try clear p6
    obtain ⟨x5_2, x589000_2, x589001_2, rfl, HA, HK2, BK588, BK589, HB⟩ := hrel
    cases gk with
    | zero => exact absurd HA.out (by simp [spec_l03Turn.l0])
    | succ k2 =>
     have H := HA.out
     clear HA
     simp only [spec_l03Turn.l0] at H
     by_cases c9 : x5_2 > 0
     ·rw [if_pos c9] at H
      have c9b0 : decide (0 < x5_2) = true := decide_eq_true c9
      clear c9
      have H' := Aside0.mk H
      clear H
      have hnb10 := NB588_589.out
      have hnc10 := NB589_588.out
      have hcz11_0 : wr.cell? ⟨gb588, 0, none⟩ = some (.int .i64 x589000_2) := (blk_cell BK588.out 0).trans rfl
      have hcz11_1 : wr.cell? ⟨gb588, 1, none⟩ = some (.int .i64 x589001_2) := (blk_cell BK588.out 1).trans rfl
      have hfz11_0 := blk_frozen BK588.out 0
      have hfz11_1 := blk_frozen BK588.out 1
      go_wp2
      go_roundg k2
      case measure => have := HJ2.out; have := HK2.out; omega
      case rel => exact ⟨(wrap64 (x5_2 - 1)), (wrap64 (-x589001_2)), (x589000_2), r3_, H', ⟨by have := HJ2.out; have := HK2.out; omega⟩, ⟨by (with_reducible repeat (first | refine blk_drewN ?_ _ | refine blk_drew ?_ | refine blk_alloc ?_ _)); refine blk_put (cs := #[.int .i64 (wrap64 (-x589001_2)), .int .i64 x589001_2]) ?_ 1 _ rfl; (with_reducible repeat (first | refine blk_drewN ?_ _ | refine blk_drew ?_ | refine blk_alloc ?_ _)); refine blk_put (cs := #[.int .i64 x589000_2, .int .i64 x589001_2]) ?_ 0 _ rfl; (with_reducible repeat (first | refine blk_drewN ?_ _ | refine blk_drew ?_ | refine blk_alloc ?_ _)); exact BK588.out⟩, ⟨by (with_reducible repeat (first | refine blk_drewN ?_ _ | refine blk_drew ?_ | refine blk_alloc ?_ _)); refine blk_far ?_ NB589_588.out _; (with_reducible repeat (first | refine blk_drewN ?_ _ | refine blk_drew ?_ | refine blk_alloc ?_ _)); refine blk_far ?_ NB589_588.out _; (with_reducible repeat (first | refine blk_drewN ?_ _ | refine blk_drew ?_ | refine blk_alloc ?_ _)); exact BK589.out⟩, ⟨by repeat (first | (with_reducible first | exact HB.out | apply below_alloc | apply pw_below_drewN | apply below_drew1 | refine below_set ?_ GE588.out | refine below_set ?_ GE589.out) | exact HB.out)⟩⟩
     ·rw [if_neg c9] at H
      have c9b0 : decide (0 < x5_2) = false := decide_eq_false c9
      clear c9
      simp only [Option.some.injEq, Prod.mk.injEq] at H
      obtain ⟨rfl, rfl⟩ := H
      have hnb12 := NB588_589.out
      have hnc12 := NB589_588.out
      have hcz13_0 : wr.cell? ⟨gb588, 0, none⟩ = some (.int .i64 x589000_2) := (blk_cell BK588.out 0).trans rfl
      have hcz13_1 : wr.cell? ⟨gb588, 1, none⟩ = some (.int .i64 x589001_2) := (blk_cell BK588.out 1).trans rfl
      have hfz13_0 := blk_frozen BK588.out 0
      have hfz13_1 := blk_frozen BK588.out 1
      have hcz14_0 : wr.cell? ⟨gb589, 0, none⟩ = some (.int .i64 0) := (blk_cell BK589.out 0).trans rfl
      have hcz14_1 : wr.cell? ⟨gb589, 1, none⟩ = some (.int .i64 0) := (blk_cell BK589.out 1).trans rfl
      have hfz14_0 := blk_frozen BK589.out 0
      have hfz14_1 := blk_frozen BK589.out 1
      go_wp2
      refine bodyPost_ret (results_cell_row rfl _ _ gb589 55 #[.int .i64 x589000_2, .int .i64 x589001_2] (0, 0) _ rfl (by (with_reducible repeat (first | refine blk_drewN ?_ _ | refine blk_drew ?_ | refine blk_alloc ?_ _)); refine blk_put (cs := #[.int .i64 x589000_2, .int .i64 0]) ?_ 1 _ rfl; (with_reducible repeat (first | refine blk_drewN ?_ _ | refine blk_drew ?_ | refine blk_alloc ?_ _)); refine blk_put (cs := #[.int .i64 0, .int .i64 0]) ?_ 0 _ rfl; (with_reducible repeat (first | refine blk_drewN ?_ _ | refine blk_drew ?_ | refine blk_alloc ?_ _)); exact BK589.out) Try.underlying55 rfl (by kernel_rfl)) rfl ?_
      exact ⟨r2_, by repeat (first | (with_reducible first | exact HB.out | apply below_alloc | apply pw_below_drewN | apply below_drew1 | refine below_set ?_ GE588.out | refine below_set ?_ GE589.out) | exact HB.out)⟩

/-! ### spec_l02Sort: function 97 -/
def spec_l02Sort.l0 : Nat → List (S55) → List (S55) → Int → Option ((List (S55)))
 | 0, _, _, _ => none
 | k + 1, x0, x3, x4 => if x4 < (x0.length : Int) then (if 0 ≤ x4 then ((spec_l02Insert.f k x3 ((rd_T55 x0 x4).f0) ((rd_T55 x0 x4).f1)).bind fun t594 => (spec_l02Sort.l0 k x0 t594 (wrap64 (x4 + 1)))) else (none)) else (some x3)
def spec_l02Sort.f (k : Nat) (l0 : List (S55)) : Option ((List (S55))) := spec_l02Sort.l0 k l0 (([] : List (S55))) 0
theorem spec_l02Sort.mono_l : ∀ k, (∀ y0 y1 y2, LeO (spec_l02Sort.l0 k y0 y1 y2) (spec_l02Sort.l0 (k + 1) y0 y1 y2))
 | 0 => fun _ _ _ r h => by simp [spec_l02Sort.l0] at h
 | k + 1 => by
  have ih0 := spec_l02Sort.mono_l k
  ·intro y0 y1 y2
   unfold spec_l02Sort.l0
   repeat' first
   | (with_reducible exact ih0 _ _ _)
   | (with_reducible exact spec_l02Insert.mono _ _ _ _)
   | (with_reducible exact LeO.refl _)
   | (with_reducible exact LeO.none _)
   | (with_reducible refine LeO.ite ?_ ?_)
   | (with_reducible refine LeO.bind ?_ (fun _ => ?_))
   | exact ih0 _ _ _
   | exact spec_l02Insert.mono _ _ _ _
   | exact LeO.none _
   | refine LeO.ite ?_ ?_
   | refine LeO.bind ?_ (fun _ => ?_)
theorem spec_l02Sort.mono : ∀ a0 k, LeO (spec_l02Sort.f k a0) (spec_l02Sort.f (k + 1) a0) := by
 intro a0 k
 have ih0 := spec_l02Sort.mono_l k
 unfold spec_l02Sort.f
 repeat' first
   | (with_reducible exact ih0 _ _ _)
   | (with_reducible exact spec_l02Insert.mono _ _ _ _)
   | (with_reducible exact LeO.refl _)
   | (with_reducible exact LeO.none _)
   | (with_reducible refine LeO.ite ?_ ?_)
   | (with_reducible refine LeO.bind ?_ (fun _ => ?_))
   | exact ih0 _ _ _
   | exact spec_l02Insert.mono _ _ _ _
   | exact LeO.none _
   | refine LeO.ite ?_ ?_
   | refine LeO.bind ?_ (fun _ => ?_)
set_option maxHeartbeats 8000000 in
set_option maxRecDepth 100000 in
theorem spec_l02Sort.calls (k : Nat) (A0 : Option Addr) (c0 : Nat) (l0 : List (S55)) (r : List (S55)) (w : World) (hr0 : Kd.C k55 w A0 l0.length l0) (hc0 : l0.length ≤ c0) (h : spec_l02Sort.f k l0 = some r) :
  Calls Try.prog 97 #[.slice A0 l0.length c0] w fun e w' => ∃ v0_ : Value, e = .returned (v0_) ∧ Kd.R k55 55 w' w.heap.size (fun _ => True) v0_ r ∧ Below w.heap.size w w' := by
 have hu55 := Try.underlying55
 have HR0 := Aside0.mk hr0
 have HC0 := Aside0.mk hc0
 clear hr0 hc0
 have HB := Aside0.mk (Below.refl w.heap.size w)
 have H : (spec_l02Sort.l0 k l0 (([] : List (S55))) 0) = some r := h
 clear h
 obtain ⟨y590, hY_⟩ : ∃ y_ : List (S55), y_ = (([] : List (S55))) := ⟨_, rfl⟩
 replace H : (spec_l02Sort.l0 k l0 y590 0) = some r := yY_
 have Ny590 := Aside0.mk hY_
 clear hY_
 have H' := Aside0.mk H
 clear H
 go_enter Try.func97, Try.ntmps97
 go_wp2_with (first | ((with_reducible refine gate_dst (N := 5) rfl ?_); refine Kd.R_lit k55 _ 55 ?hg (N := 5) ?hd (xs := ([] : List (S55))) (inner := []) (ok := fun _ => True) (okp := fun _ => True) ?hr ?hp (fun _ hk => hk) trivial (Below.refl _ _) (Nat.le_refl _) (by simp) ?_; (case hd => rfl); (case hg => rfl); (case hr => first | (go_simp; done) | (go_simp; rfl)); (case hp => exact (Reps.none _ _)); intro v591 w2 ho3 hb hg_ hnew_; clear hg_ hnew_; (first | rw [← Ny590.out] at ho3 | (simp only [Int.reduceToNat] at ho3; rw [← Ny590.out] at ho3)); have HO592 := Aside0.mk (Kd.R_lower ho3 (below_size bB_)); replace HB := Aside0.mk (below_step bB_ hb); clear hb ho3))
 go_loopg [3, 4] k (fun kq v3 v4 w' => ∃ (x3_1 : List (S55)) (x4_1 : Int), v4 = .int .i64 x4_1 ∧ Aside0 (spec_l02Sort.l0 kq l0 x3_1 x4_1 = some r) ∧ Aside0 (kq ≤ k) ∧ Aside0 (Kd.R k55 55 w' w.heap.size (fun _ => True) v3 x3_1) ∧ Aside0 (Below w.heap.size w w'))
 case atStart => exact ⟨(y590), (0), r3_, H', ⟨Nat.le_refl _⟩, ⟨rS_ HO592.out⟩, ⟨bB_⟩⟩
 case round =>
  clear H'
  try clear p2
  obtain ⟨x3_1, x4_1, rfl, HA, HK1, HO_3, HB⟩ := hrel
  cases gk with
  | zero => exact absurd HA.out (by simp [spec_l02Sort.l0])
  | succ k1 =>
   have H := HA.out
   clear HA
   simp only [spec_l02Sort.l0] at H
   by_cases c4 : x4_1 < (l0.length : Int)
   ·rw [if_pos c4] at H
    have c4b0 : decide (x4_1 < (l0.length : Int)) = true := decide_eq_true c4
    clear c4
    by_cases c5 : 0 ≤ x4_1
    ·rw [if_pos c5] at H
     have c5b0 : decide (0 ≤ x4_1) = true := decide_eq_true c5
     clear c5
     replace H := Option.bind_eq_some_iff.mp H
     obtain ⟨t594, A60, H⟩ := H
     try dsimp only at H
     have A6 := Aside0.mk A60
     clear A60
     have H' := Aside0.mk H
     clear H
     have p593 : 0 ≤ (x4_1 : Int) := of_decide_eq_true aS_
     have q593 : x4_1 < (l0.length : Int) := of_decide_eq_true aS_
     obtain ⟨ad593, e593, hx593_0, hx593_1⟩ := at_T55 HR0.out x4_1 p593 q593
     cases e593
     replace hx593_0 := (HB.out.cell (World.block_lt_of_cell? w _ hx593_0)).trans hx593_0
     replace hx593_1 := (HB.out.cell (World.block_lt_of_cell? w _ hx593_1)).trans hx593_1
     replace p593 := eq_true p593
     replace q593 := eq_true q593
     obtain ⟨Ao7, co7, eo7⟩ := Kd.R_slice HO_3.out
     subst eo7
     go_wp2_with (first | ((with_reducible refine gate_callee (f := 79) rfl ?_); refine gL_ (some 17) Try.func79 #[.slice Ao7 x3_1.length co7, .agg #[.int .i64 ((rd_T55 l0 x4_1).f0), .int .i64 ((rd_T55 l0 x4_1).f1)]] ?_; (with_reducible refine (spec_l02Insert.calls k1 _ _ x3_1 ((rd_T55 l0 x4_1).f0) ((rd_T55 l0 x4_1).f1) t594 _ ?side1 ?side2 A6.out).mono ?_); (case side1 => exact cS_ ((Kd.R_reads' HO_3.out).2.2)); (case side2 => exact (Kd.R_reads' HO_3.out).2.1); rintro e w8 ⟨v595, rfl, ho0, hb⟩; refine ⟨_, rfl, ?_⟩; have HO596 := Aside0.mk (Kd.R_lower (Kd.R_new' ho0 (Kd.R_lt (rS_ HO_3.out))) (below_size bB_)); replace HO_3 := Aside0.mk (Kd.R_elder' (rS_ HO_3.out) (Kd.R_base ho0) hb); replace HB := Aside0.mk (below_step bB_ hb); (try clear hb ho0)))
     go_roundg k1
     case measure => have := HK1.out; omega
     case rel => exact ⟨(t594), (wrap64 (x4_1 + 1)), r3_, H', ⟨by have := HK1.out; omega⟩, ⟨rS_ (Kd.R_mono HO596.out (fun _ hk => trivial))⟩, ⟨bB_⟩⟩
    ·rw [if_neg c5] at H
     exact absurd H (by simp)
   ·rw [if_neg c4] at H
    have c4b0 : decide (x4_1 < (l0.length : Int)) = false := decide_eq_false c4
    clear c4
    obtain rfl := Option.some.inj H
    go_wp2
    go_ret
    exact ⟨_, r2_, rS_ HO_3.out, bB_⟩

/-! ### spec_l03Form: function 62 -/
def spec_l03Form.l0 : Nat → List (S55) → Int → List (S55) → Int → Option ((List (S55)))
 | 0, _, _, _, _ => none
 | k + 1, x0, x1, x5, x6 => if x6 < (x0.length : Int) then (if 0 ≤ x6 then ((spec_l03Turn.f k ((rd_T55 x0 x6).f0) ((rd_T55 x0 x6).f1) x1).bind fun bt601 => (if x5.length < 8796093022208 then (spec_l03Form.l0 k x0 x1 (x5 ++ [(⟨bt601.1, bt601.2⟩ : S55)]) (wrap64 (x6 + 1))) else (none))) else (none)) else ((spec_l02Sort.f k x5).bind fun t606 => ((spec_l02Normal.f k t606).bind fun t609 => (some t609)))
def spec_l03Form.f (k : Nat) (l0 : List (S55)) (a1 : Int) : Option ((List (S55))) := spec_l03Form.l0 k l0 a1 (([] : List (S55))) 0
theorem spec_l03Form.mono_l : ∀ k, (∀ y0 y1 y2 y3, LeO (spec_l03Form.l0 k y0 y1 y2 y3) (spec_l03Form.l0 (k + 1) y0 y1 y2 y3))
 | 0 => fun _ _ _ _ r h => by simp [spec_l03Form.l0] at h
 | k + 1 => by
  have ih0 := spec_l03Form.mono_l k
  ·intro y0 y1 y2 y3
   unfold spec_l03Form.l0
   repeat' first
   | (with_reducible exact ih0 _ _ _ _)
   | (with_reducible exact spec_l02Normal.mono _ _)
   | (with_reducible exact spec_l02Sort.mono _ _)
   | (with_reducible exact spec_l03Turn.mono _ _ _ _)
   | (with_reducible exact LeO.refl _)
   | (with_reducible exact LeO.none _)
   | (with_reducible refine LeO.ite ?_ ?_)
   | (with_reducible refine LeO.bind ?_ (fun _ => ?_))
   | exact ih0 _ _ _ _
   | exact spec_l02Normal.mono _ _
   | exact spec_l02Sort.mono _ _
   | exact spec_l03Turn.mono _ _ _ _
   | exact LeO.none _
   | refine LeO.ite ?_ ?_
   | refine LeO.bind ?_ (fun _ => ?_)
theorem spec_l03Form.mono : ∀ a0 a1 k, LeO (spec_l03Form.f k a0 a1) (spec_l03Form.f (k + 1) a0 a1) := by
 intro a0 a1 k
 have ih0 := spec_l03Form.mono_l k
 unfold spec_l03Form.f
 repeat' first
   | (with_reducible exact ih0 _ _ _ _)
   | (with_reducible exact spec_l02Normal.mono _ _)
   | (with_reducible exact spec_l02Sort.mono _ _)
   | (with_reducible exact spec_l03Turn.mono _ _ _ _)
   | (with_reducible exact LeO.refl _)
   | (with_reducible exact LeO.none _)
   | (with_reducible refine LeO.ite ?_ ?_)
   | (with_reducible refine LeO.bind ?_ (fun _ => ?_))
   | exact ih0 _ _ _ _
   | exact spec_l02Normal.mono _ _
   | exact spec_l02Sort.mono _ _
   | exact spec_l03Turn.mono _ _ _ _
   | exact LeO.none _
   | refine LeO.ite ?_ ?_
   | refine LeO.bind ?_ (fun _ => ?_)
set_option maxHeartbeats 8000000 in
set_option maxRecDepth 100000 in
theorem spec_l03Form.calls (k : Nat) (A0 : Option Addr) (c0 : Nat) (l0 : List (S55)) (a1 : Int) (r : List (S55)) (w : World) (hr0 : Kd.C k55 w A0 l0.length l0) (hc0 : l0.length ≤ c0) (h : spec_l03Form.f k l0 a1 = some r) :
  Calls Try.prog 62 #[.slice A0 l0.length c0, .int .i64 a1] w fun e w' => ∃ v0_ : Value, e = .returned (v0_) ∧ Kd.R k55 55 w' w.heap.size (fun _ => True) v0_ r ∧ Below w.heap.size w w' := by
 have hu55 := Try.underlying55
 have HR0 := Aside0.mk hr0
 have HC0 := Aside0.mk hc0
 clear hr0 hc0
 have HB := Aside0.mk (Below.refl w.heap.size w)
 have H : (spec_l03Form.l0 k l0 a1 (([] : List (S55))) 0) = some r := h
 clear h
 obtain ⟨y597, hY_⟩ : ∃ y_ : List (S55), y_ = (([] : List (S55))) := ⟨_, rfl⟩
 replace H : (spec_l03Form.l0 k l0 a1 y597 0) = some r := yY_
 have Ny597 := Aside0.mk hY_
 clear hY_
 have H' := Aside0.mk H
 clear H
 go_enter Try.func62, Try.ntmps62
 go_wp2_with (first | ((with_reducible refine gate_dst (N := 7) rfl ?_); refine Kd.R_lit k55 _ 55 ?hg (N := 7) ?hd (xs := ([] : List (S55))) (inner := []) (ok := fun _ => True) (okp := fun _ => True) ?hr ?hp (fun _ hk => hk) trivial (Below.refl _ _) (Nat.le_refl _) (by simp) ?_; (case hd => rfl); (case hg => rfl); (case hr => first | (go_simp; done) | (go_simp; rfl)); (case hp => exact (Reps.none _ _)); intro v598 w3 ho4 hb hg_ hnew_; clear hg_ hnew_; (first | rw [← Ny597.out] at ho4 | (simp only [Int.reduceToNat] at ho4; rw [← Ny597.out] at ho4)); have HO599 := Aside0.mk (Kd.R_lower ho4 (below_size bB_)); replace HB := Aside0.mk (below_step bB_ hb); clear hb ho4))
 go_loopg [5, 6] k (fun kq v5 v6 w' => ∃ (x5_1 : List (S55)) (x6_1 : Int), v6 = .int .i64 x6_1 ∧ Aside0 (spec_l03Form.l0 kq l0 a1 x5_1 x6_1 = some r) ∧ Aside0 (kq ≤ k) ∧ Aside0 (Kd.R k55 55 w' w.heap.size (fun _ => True) v5 x5_1) ∧ Aside0 (Below w.heap.size w w'))
 case atStart => exact ⟨(y597), (0), r3_, H', ⟨Nat.le_refl _⟩, ⟨rS_ HO599.out⟩, ⟨bB_⟩⟩
 case round =>
  clear H'
  try clear p2
  obtain ⟨x5_1, x6_1, rfl, HA, HK1, HO_5, HB⟩ := hrel
  cases gk with
  | zero => exact absurd HA.out (by simp [spec_l03Form.l0])
  | succ k1 =>
   have H := HA.out
   clear HA
   simp only [spec_l03Form.l0] at H
   by_cases c5 : x6_1 < (l0.length : Int)
   ·rw [if_pos c5] at H
    have c5b0 : decide (x6_1 < (l0.length : Int)) = true := decide_eq_true c5
    clear c5
    by_cases c6 : 0 ≤ x6_1
    ·rw [if_pos c6] at H
     have c6b0 : decide (0 ≤ x6_1) = true := decide_eq_true c6
     clear c6
     replace H := Option.bind_eq_some_iff.mp H
     obtain ⟨⟨t601, t602⟩, A70, H⟩ := H
     try dsimp only at H
     have A7 := Aside0.mk A70
     clear A70
     by_cases c8 : x5_1.length < 8796093022208
     ·rw [if_pos c8] at H
      have LMc8 := Aside0.mk c8
      clear c8
      obtain ⟨y603, hY_⟩ : ∃ y_ : List (S55), y_ = (x5_1 ++ [(⟨t601, t602⟩ : S55)]) := ⟨_, rfl⟩
      replace H : (spec_l03Form.l0 k1 l0 a1 y603 (wrap64 (x6_1 + 1))) = some r := yY_
      have Ny603 := Aside0.mk hY_
      clear hY_
      have H' := Aside0.mk H
      clear H
      have p600 : 0 ≤ (x6_1 : Int) := of_decide_eq_true aS_
      have q600 : x6_1 < (l0.length : Int) := of_decide_eq_true aS_
      obtain ⟨ad600, e600, hx600_0, hx600_1⟩ := at_T55 HR0.out x6_1 p600 q600
      cases e600
      replace hx600_0 := (HB.out.cell (World.block_lt_of_cell? w _ hx600_0)).trans hx600_0
      replace hx600_1 := (HB.out.cell (World.block_lt_of_cell? w _ hx600_1)).trans hx600_1
      replace p600 := eq_true p600
      replace q600 := eq_true q600
      go_wp2_with (first | ((with_reducible refine gate_callee (f := 96) rfl ?_); refine gL_ (some 20) Try.func96 #[.agg #[.int .i64 ((rd_T55 l0 x6_1).f0), .int .i64 ((rd_T55 l0 x6_1).f1)], .int .i64 a1] ?_; (with_reducible refine (spec_l03Turn.calls k1 ((rd_T55 l0 x6_1).f0) ((rd_T55 l0 x6_1).f1) a1 t601 t602 _ A7.out).mono ?_); rintro e w9 ⟨rfl, hb⟩; refine ⟨_, rfl, ?_⟩; replace HO_5 := Aside0.mk (Kd.R_below (rS_ HO_5.out) hb); replace HB := Aside0.mk (below_step bB_ hb); (try clear hb)) | ((with_reducible refine gate_builtin (b := .append) (xs := #[.tmp 14, .tmp 21]) rfl ?_); at_builtin; refine Kd.R_append k55 (w0 := w) w.heap.size rfl (.tmp 14) (.tmp 21) 27 55 (.agg #[(.int .i64 0), (.int .i64 0)]) 16 rfl Try.underlying27 info55 rfl (by decide) (by omega) u5 x5_1 (⟨t601, t602⟩ : S55) [.int .i64 t601, .int .i64 t602] (fun _ => True) (fun _ => False) rfl rfl ?aP (fun _ hk => hk.elim) ?aF ?aO ?aB ?aS ?aL ?_; (case aP => exact k55_mkM _ _ _ (⟨t601, t602⟩ : S55)); (case aB => exact bB_); (case aF => exact (fun _ _ => trivial)); (case aO => exact (rS_ HO_5.out)); (case aS => exact (below_size bB_)); (case aL => have := LMc8.out; omega); intro v604 w10 ho hb hg hat; rw [← Ny603.out] at ho; replace HB := Aside0.mk (hb); have HO605 := Aside0.mk (ho); clear HO_5; clear ho hb hg hat))
      go_roundg k1
      case measure => have := HK1.out; omega
      case rel => exact ⟨(y603), (wrap64 (x6_1 + 1)), r3_, H', ⟨by have := HK1.out; omega⟩, ⟨rS_ HO605.out⟩, ⟨bB_⟩⟩
     ·rw [if_neg c8] at H
      exact absurd H (by simp)
    ·rw [if_neg c6] at H
     exact absurd H (by simp)
   ·rw [if_neg c5] at H
    have c5b0 : decide (x6_1 < (l0.length : Int)) = false := decide_eq_false c5
    clear c5
    replace H := Option.bind_eq_some_iff.mp H
    obtain ⟨t606, A110, H⟩ := H
    try dsimp only at H
    have A11 := Aside0.mk A110
    clear A110
    replace H := Option.bind_eq_some_iff.mp H
    obtain ⟨t609, A120, H⟩ := H
    try dsimp only at H
    have A12 := Aside0.mk A120
    clear A120
    obtain rfl := Option.some.inj H
    obtain ⟨Ao13, co13, eo13⟩ := Kd.R_slice HO_5.out
    subst eo13
    go_wp2_with (first | ((with_reducible refine gate_callee (f := 97) rfl ?_); refine gL_ (some 24) Try.func97 #[.slice Ao13 x5_1.length co13] ?_; (with_reducible refine (spec_l02Sort.calls k1 _ _ x5_1 t606 _ ?side1 ?side2 A11.out).mono ?_); (case side1 => exact cS_ ((Kd.R_reads' HO_5.out).2.2)); (case side2 => exact (Kd.R_reads' HO_5.out).2.1); rintro e w14 ⟨v607, rfl, ho0, hb⟩; refine ⟨_, rfl, ?_⟩; have HO608 := Aside0.mk (Kd.R_lower (Kd.R_new' ho0 (Kd.R_lt (rS_ HO_5.out))) (below_size bB_)); replace HO_5 := Aside0.mk (Kd.R_elder' (rS_ HO_5.out) (Kd.R_base ho0) hb); replace HB := Aside0.mk (below_step bB_ hb); (try clear hb ho0); obtain ⟨Ao15, co15, eo15⟩ := Kd.R_slice HO608.out; subst eo15) | ((with_reducible refine gate_callee (f := 73) rfl ?_); refine gL_ (some 25) Try.func73 #[.slice Ao15 t606.length co15] ?_; (with_reducible refine (spec_l02Normal.calls k1 _ _ t606 t609 _ ?side1 ?side2 A12.out).mono ?_); (case side1 => exact cS_ ((Kd.R_reads' HO608.out).2.2)); (case side2 => exact (Kd.R_reads' HO608.out).2.1); rintro e w16 ⟨v610, rfl, ho0, hb⟩; refine ⟨_, rfl, ?_⟩; have HO611 := Aside0.mk (Kd.R_lower (Kd.R_new' (Kd.R_new' ho0 (Kd.R_lt (rS_ HO_5.out))) (Kd.R_lt (rS_ HO608.out))) (below_size bB_)); replace HO_5 := Aside0.mk (Kd.R_elder' (rS_ HO_5.out) (Kd.R_base ho0) hb); replace HO608 := Aside0.mk (Kd.R_elder' (rS_ HO608.out) (Kd.R_base ho0) hb); replace HB := Aside0.mk (below_step bB_ hb); (try clear hb ho0)))
    go_ret
    exact ⟨_, r2_, rS_ (Kd.R_mono HO611.out (fun _ hk => trivial)), bB_⟩

/-! ### impl_turnCell: function 126 -/
mutual
def impl_turnCell.j0 : Nat → Int → Int → Int → Option (Int × Int)
 | 0, _, _, _ => none
 | k + 1, x1, x649000, x649001 => impl_turnCell.l0 k (Int.tmod x1 4) 0 x649000 x649001
def impl_turnCell.l0 : Nat → Int → Int → Int → Int → Option (Int × Int)
 | 0, _, _, _, _ => none
 | k + 1, x12, x13, x649000, x649001 => if x13 < x12 then (impl_turnCell.l0 k x12 (wrap64 (x13 + 1)) (wrap64 (-x649001)) x649000) else (some (x649000, x649001))
end
def impl_turnCell.f (k : Nat) (a0_0 : Int) (a0_1 : Int) (a1 : Int) : Option (Int × Int) := if a1 ≥ 4 then (impl_turnCell.j0 k a1 (wrap64 (-a0_0)) a0_1) else (impl_turnCell.j0 k a1 a0_0 a0_1)
theorem impl_turnCell.mono_l : ∀ k, (∀ y0 y1 y2, LeO (impl_turnCell.j0 k y0 y1 y2) (impl_turnCell.j0 (k + 1) y0 y1 y2)) ∧ (∀ y0 y1 y2 y3, LeO (impl_turnCell.l0 k y0 y1 y2 y3) (impl_turnCell.l0 (k + 1) y0 y1 y2 y3))
 | 0 => ⟨fun _ _ _ r h => by simp [impl_turnCell.j0] at h, fun _ _ _ _ r h => by simp [impl_turnCell.l0] at h⟩
 | k + 1 => by
  obtain ⟨ih0, ih1⟩ := impl_turnCell.mono_l k
  refine ⟨?_, ?_⟩
  ·intro y0 y1 y2
   unfold impl_turnCell.j0
   repeat' first
   | (with_reducible exact ih0 _ _ _)
   | (with_reducible exact ih1 _ _ _ _)
   | (with_reducible exact LeO.refl _)
   | (with_reducible exact LeO.none _)
   | (with_reducible refine LeO.ite ?_ ?_)
   | (with_reducible refine LeO.bind ?_ (fun _ => ?_))
   | exact ih0 _ _ _
   | exact ih1 _ _ _ _
   | exact LeO.none _
   | refine LeO.ite ?_ ?_
   | refine LeO.bind ?_ (fun _ => ?_)
  ·intro y0 y1 y2 y3
   unfold impl_turnCell.l0
   repeat' first
   | (with_reducible exact ih0 _ _ _)
   | (with_reducible exact ih1 _ _ _ _)
   | (with_reducible exact LeO.refl _)
   | (with_reducible exact LeO.none _)
   | (with_reducible refine LeO.ite ?_ ?_)
   | (with_reducible refine LeO.bind ?_ (fun _ => ?_))
   | exact ih0 _ _ _
   | exact ih1 _ _ _ _
   | exact LeO.none _
   | refine LeO.ite ?_ ?_
   | refine LeO.bind ?_ (fun _ => ?_)
theorem impl_turnCell.mono : ∀ a0 a1 a2 k, LeO (impl_turnCell.f k a0 a1 a2) (impl_turnCell.f (k + 1) a0 a1 a2) := by
 intro a0 a1 a2 k
 obtain ⟨ih0, ih1⟩ := impl_turnCell.mono_l k
 unfold impl_turnCell.f
 repeat' first
   | (with_reducible exact ih0 _ _ _)
   | (with_reducible exact ih1 _ _ _ _)
   | (with_reducible exact LeO.refl _)
   | (with_reducible exact LeO.none _)
   | (with_reducible refine LeO.ite ?_ ?_)
   | (with_reducible refine LeO.bind ?_ (fun _ => ?_))
   | exact ih0 _ _ _
   | exact ih1 _ _ _ _
   | exact LeO.none _
   | refine LeO.ite ?_ ?_
   | refine LeO.bind ?_ (fun _ => ?_)
set_option maxHeartbeats 8000000 in
set_option maxRecDepth 100000 in
theorem impl_turnCell.calls (k : Nat) (a0_0 : Int) (a0_1 : Int) (a1 : Int) (r1 : Int) (r2 : Int) (w : World) (h : impl_turnCell.f k a0_0 a0_1 a1 = some (r1, r2)) :
  Calls Try.prog 126 #[.agg #[.int .i64 a0_0, .int .i64 a0_1], .int .i64 a1] w fun e w' => e = .returned (.agg #[.int .i64 r1, .int .i64 r2]) ∧ Below w.heap.size w w' := by
 have hu55 := Try.underlying55
 have HB := Aside0.mk (Below.refl w.heap.size w)
 have H : (if a1 ≥ 4 then (impl_turnCell.j0 k a1 (wrap64 (-a0_0)) a0_1) else (impl_turnCell.j0 k a1 a0_0 a0_1)) = some (r1, r2) := h
 clear h
 have HC3 := Aside0.mk H
 clear H
 go_enter Try.func126, Try.ntmps126
 go_upto_if 6 with (first | ((with_reducible refine gate_dst (N := 2) rfl ?_); refine box_event ?hg (N := 2) ?hd (cs := #[.int .i64 a0_0, .int .i64 a0_1]) (t := 55) ?hr ?_; (case hd => rfl); (case hg => rfl); (case hr => first | (go_simp; done) | (go_simp; rfl)); intro gb648 hg w4 hbox hb; have BK648 := Aside0.mk (hbox); have GW648 := Aside0.mk ((by rw [hg]; exact (below_size bB_) : w.heap.size ≤ gb648)); have GE648 := Aside0.mk ((by rw [hg]; exact (below_size bB_) : w.heap.size ≤ gb648)); replace HB := Aside0.mk (below_step bB_ hb); clear hb hbox hg) | ((with_reducible refine gate_dst (N := 4) rfl ?_); refine box_event ?hg (N := 4) ?hd (cs := #[.int .i64 0, .int .i64 0]) (t := 55) ?hr ?_; (case hd => rfl); (case hg => rfl); (case hr => first | (go_simp; done) | (go_simp; rfl)); intro gb649 hg w5 hbox hb; have BK649 := Aside0.mk (hbox); have GW649 := Aside0.mk ((by rw [hg]; exact (below_size (by repeat (first | (with_reducible first | exact HB.out | apply below_alloc | apply pw_below_drewN | apply below_drew1 | refine below_set ?_ GE648.out) | exact HB.out))) : w.heap.size ≤ gb649)); have GE649 := Aside0.mk ((by rw [hg]; exact (below_size (by repeat (first | (with_reducible first | exact HB.out | apply below_alloc | apply pw_below_drewN | apply below_drew1 | refine below_set ?_ GE648.out) | exact HB.out))) : w.heap.size ≤ gb649)); replace HB := Aside0.mk (below_step (by repeat (first | (with_reducible first | exact HB.out | apply below_alloc | apply pw_below_drewN | apply below_drew1 | refine below_set ?_ GE648.out) | exact HB.out)) hb); have NB648_649 := Aside0.mk ((by rw [hg]; exact Nat.ne_of_lt (blk_lt (g := gb648) (o := .cells #[.int .i64 a0_0, .int .i64 a0_1] 55 (0, 0)) (by (with_reducible repeat (first | refine blk_drewN ?_ _ | refine blk_drew ?_ | refine blk_alloc ?_ _)); exact BK648.out)) : gb648 ≠ gb649)); have NB649_648 := Aside0.mk ((by rw [hg]; exact Nat.ne_of_gt (blk_lt (g := gb648) (o := .cells #[.int .i64 a0_0, .int .i64 a0_1] 55 (0, 0)) (by (with_reducible repeat (first | refine blk_drewN ?_ _ | refine blk_drew ?_ | refine blk_alloc ?_ _)); exact BK648.out)) : gb649 ≠ gb648)); replace BK648 := Aside0.mk (blk_below (g := gb648) (o := .cells #[.int .i64 a0_0, .int .i64 a0_1] 55 (0, 0)) (by (with_reducible repeat (first | refine blk_drewN ?_ _ | refine blk_drew ?_ | refine blk_alloc ?_ _)); exact BK648.out) hb); clear hb hbox hg))
 (try simp only [Act.put, List.setIfInBounds_toArray, List.set_cons_zero, List.set_cons_succ])
 go_cut [] (fun wc => ∃ (kq : Nat) (x649000_2 : Int), Aside0 (impl_turnCell.j0 kq a1 x649000_2 a0_1 = some (r1, r2)) ∧ Aside0 (kq ≤ k) ∧ Aside0 (wc.heap[gb648]? = some (.cells #[.int .i64 x649000_2, .int .i64 a0_1] 55 (0, 0))) ∧ Aside0 (wc.heap[gb649]? = some (.cells #[.int .i64 0, .int .i64 0] 55 (0, 0))) ∧ Aside0 (Below w.heap.size w wc))
 case first =>
  have H := HC3.out
  clear HC3
  by_cases c6 : a1 ≥ 4
  ·rw [if_pos c6] at H
   have c6b0 : decide (4 ≤ a1) = true := decide_eq_true c6
   clear c6
   (first | rw [c6b0] | (simp only [i64_w, i32_w]; rw [c6b0]) | skip)
   have H' := Aside0.mk H
   clear H
   have hnb7 := NB648_649.out
   have hnc7 := NB649_648.out
   have hcz8_0 : w5.cell? ⟨gb648, 0, none⟩ = some (.int .i64 a0_0) := (blk_cell BK648.out 0).trans rfl
   have hcz8_1 : w5.cell? ⟨gb648, 1, none⟩ = some (.int .i64 a0_1) := (blk_cell BK648.out 1).trans rfl
   have hfz8_0 := blk_frozen BK648.out 0
   have hfz8_1 := blk_frozen BK648.out 1
   go_wp2
   go_meet
   case rel => exact ⟨_, (wrap64 (-a0_0)), H', ⟨by first | omega | exact Nat.le_refl _⟩, ⟨by (with_reducible repeat (first | refine blk_drewN ?_ _ | refine blk_drew ?_ | refine blk_alloc ?_ _)); refine blk_put (cs := #[.int .i64 a0_0, .int .i64 a0_1]) ?_ 0 _ rfl; (with_reducible repeat (first | refine blk_drewN ?_ _ | refine blk_drew ?_ | refine blk_alloc ?_ _)); exact BK648.out⟩, ⟨by (with_reducible repeat (first | refine blk_drewN ?_ _ | refine blk_drew ?_ | refine blk_alloc ?_ _)); refine blk_far ?_ NB649_648.out _; (with_reducible repeat (first | refine blk_drewN ?_ _ | refine blk_drew ?_ | refine blk_alloc ?_ _)); exact BK649.out⟩, ⟨by repeat (first | (with_reducible first | exact HB.out | apply below_alloc | apply pw_below_drewN | apply below_drew1 | refine below_set ?_ GE648.out | refine below_set ?_ GE649.out) | exact HB.out)⟩⟩
  ·rw [if_neg c6] at H
   have c6b0 : decide (4 ≤ a1) = false := decide_eq_false c6
   clear c6
   (first | rw [c6b0] | (simp only [i64_w, i32_w]; rw [c6b0]) | skip)
   have H' := Aside0.mk H
   clear H
   go_wp2
   go_meet
   case rel => exact ⟨_, (a0_0), H', ⟨by first | omega | exact Nat.le_refl _⟩, ⟨by (with_reducible repeat (first | refine blk_drewN ?_ _ | refine blk_drew ?_ | refine blk_alloc ?_ _)); exact BK648.out⟩, ⟨by (with_reducible repeat (first | refine blk_drewN ?_ _ | refine blk_drew ?_ | refine blk_alloc ?_ _)); exact BK649.out⟩, ⟨by repeat (first | (with_reducible first | exact HB.out | apply below_alloc | apply pw_below_drewN | apply below_drew1 | refine below_set ?_ GE648.out | refine below_set ?_ GE649.out) | exact HB.out)⟩⟩
 case rest =>
  clear HC3
  try clear c1
  try clear p2
  try clear c6
  try clear c6b0
  try clear p6
  try clear c7
  try clear hcz8_0
  try clear hcz8_1
  try clear hfz8_0
  try clear hfz8_1
  obtain ⟨kq, x649000_2, HA, HJ2, BK648, BK649, HB⟩ := hcut
  cases kq with
  | zero => exact absurd HA.out (by simp [impl_turnCell.j0])
  | succ kj2 =>
   have H := HA.out
   clear HA
   simp only [impl_turnCell.j0] at H
   have H' := Aside0.mk H
   clear H
   go_wp2
   go_loopg [13] kj2 (fun kq v13 w' => ∃ (x13_2 : Int) (x649000_2 : Int) (x649001_2 : Int), v13 = .int .i64 x13_2 ∧ Aside0 (impl_turnCell.l0 kq (Int.tmod a1 4) x13_2 x649000_2 x649001_2 = some (r1, r2)) ∧ Aside0 (kq ≤ kj2) ∧ Aside0 (w'.heap[gb648]? = some (.cells #[.int .i64 x649000_2, .int .i64 x649001_2] 55 (0, 0))) ∧ Aside0 (w'.heap[gb649]? = some (.cells #[.int .i64 0, .int .i64 0] 55 (0, 0))) ∧ Aside0 (Below w.heap.size w w'))
   case atStart => exact ⟨(0), (x649000_2), (a0_1), r3_, H', ⟨Nat.le_refl _⟩, ⟨by (with_reducible repeat (first | refine blk_drewN ?_ _ | refine blk_drew ?_ | refine blk_alloc ?_ _)); exact BK648.out⟩, ⟨by (with_reducible repeat (first | refine blk_drewN ?_ _ | refine blk_drew ?_ | refine blk_alloc ?_ _)); exact BK649.out⟩, ⟨by repeat (first | (with_reducible first | exact HB.out | apply below_alloc | apply pw_below_drewN | apply below_drew1 | refine below_set ?_ GE648.out | refine below_set ?_ GE649.out) | exact HB.out)⟩⟩
   case round =>
    clear H'
    try clear c1
    try clear p2
    try clear c6
    try clear c6b0
    try clear p6
    try clear c7
    try clear hcz8_0
    try clear hcz8_1
    try clear hfz8_0
    try clear hfz8_1
    try clear p2
    try clear p6
    obtain ⟨x13_2, x649000_2, x649001_2, rfl, HA, HK2, BK648, BK649, HB⟩ := hrel
    cases gk with
    | zero => exact absurd HA.out (by simp [impl_turnCell.l0])
    | succ k2 =>
     have H := HA.out
     clear HA
     simp only [impl_turnCell.l0] at H
     by_cases c9 : x13_2 < (Int.tmod a1 4)
     ·rw [if_pos c9] at H
      have c9b0 : decide (x13_2 < (Int.tmod a1 4)) = true := decide_eq_true c9
      clear c9
      have H' := Aside0.mk H
      clear H
      have hnb10 := NB648_649.out
      have hnc10 := NB649_648.out
      have hcz11_0 : wr.cell? ⟨gb648, 0, none⟩ = some (.int .i64 x649000_2) := (blk_cell BK648.out 0).trans rfl
      have hcz11_1 : wr.cell? ⟨gb648, 1, none⟩ = some (.int .i64 x649001_2) := (blk_cell BK648.out 1).trans rfl
      have hfz11_0 := blk_frozen BK648.out 0
      have hfz11_1 := blk_frozen BK648.out 1
      go_wp2
      go_roundg k2
      case measure => have := HJ2.out; have := HK2.out; omega
      case rel => exact ⟨(wrap64 (x13_2 + 1)), (wrap64 (-x649001_2)), (x649000_2), r3_, H', ⟨by have := HJ2.out; have := HK2.out; omega⟩, ⟨by (with_reducible repeat (first | refine blk_drewN ?_ _ | refine blk_drew ?_ | refine blk_alloc ?_ _)); refine blk_put (cs := #[.int .i64 (wrap64 (-x649001_2)), .int .i64 x649001_2]) ?_ 1 _ rfl; (with_reducible repeat (first | refine blk_drewN ?_ _ | refine blk_drew ?_ | refine blk_alloc ?_ _)); refine blk_put (cs := #[.int .i64 x649000_2, .int .i64 x649001_2]) ?_ 0 _ rfl; (with_reducible repeat (first | refine blk_drewN ?_ _ | refine blk_drew ?_ | refine blk_alloc ?_ _)); exact BK648.out⟩, ⟨by (with_reducible repeat (first | refine blk_drewN ?_ _ | refine blk_drew ?_ | refine blk_alloc ?_ _)); refine blk_far ?_ NB649_648.out _; (with_reducible repeat (first | refine blk_drewN ?_ _ | refine blk_drew ?_ | refine blk_alloc ?_ _)); refine blk_far ?_ NB649_648.out _; (with_reducible repeat (first | refine blk_drewN ?_ _ | refine blk_drew ?_ | refine blk_alloc ?_ _)); exact BK649.out⟩, ⟨by repeat (first | (with_reducible first | exact HB.out | apply below_alloc | apply pw_below_drewN | apply below_drew1 | refine below_set ?_ GE648.out | refine below_set ?_ GE649.out) | exact HB.out)⟩⟩
     ·rw [if_neg c9] at H
      have c9b0 : decide (x13_2 < (Int.tmod a1 4)) = false := decide_eq_false c9
      clear c9
      simp only [Option.some.injEq, Prod.mk.injEq] at H
      obtain ⟨rfl, rfl⟩ := H
      have hnb12 := NB648_649.out
      have hnc12 := NB649_648.out
      have hcz13_0 : wr.cell? ⟨gb648, 0, none⟩ = some (.int .i64 x649000_2) := (blk_cell BK648.out 0).trans rfl
      have hcz13_1 : wr.cell? ⟨gb648, 1, none⟩ = some (.int .i64 x649001_2) := (blk_cell BK648.out 1).trans rfl
      have hfz13_0 := blk_frozen BK648.out 0
      have hfz13_1 := blk_frozen BK648.out 1
      have hcz14_0 : wr.cell? ⟨gb649, 0, none⟩ = some (.int .i64 0) := (blk_cell BK649.out 0).trans rfl
      have hcz14_1 : wr.cell? ⟨gb649, 1, none⟩ = some (.int .i64 0) := (blk_cell BK649.out 1).trans rfl
      have hfz14_0 := blk_frozen BK649.out 0
      have hfz14_1 := blk_frozen BK649.out 1
      go_wp2
      refine bodyPost_ret (results_cell_row rfl _ _ gb649 55 #[.int .i64 x649000_2, .int .i64 x649001_2] (0, 0) _ rfl (by (with_reducible repeat (first | refine blk_drewN ?_ _ | refine blk_drew ?_ | refine blk_alloc ?_ _)); refine blk_put (cs := #[.int .i64 x649000_2, .int .i64 0]) ?_ 1 _ rfl; (with_reducible repeat (first | refine blk_drewN ?_ _ | refine blk_drew ?_ | refine blk_alloc ?_ _)); refine blk_put (cs := #[.int .i64 0, .int .i64 0]) ?_ 0 _ rfl; (with_reducible repeat (first | refine blk_drewN ?_ _ | refine blk_drew ?_ | refine blk_alloc ?_ _)); exact BK649.out) Try.underlying55 rfl (by kernel_rfl)) rfl ?_
      exact ⟨r2_, by repeat (first | (with_reducible first | exact HB.out | apply below_alloc | apply pw_below_drewN | apply below_drew1 | refine below_set ?_ GE648.out | refine below_set ?_ GE649.out) | exact HB.out)⟩

/-! ### impl_form: function 99 -/
def impl_form.l0 : Nat → Int → List (S55) → List (S55) → Int → Int → Option ((List (S55)))
 | 0, _, _, _, _, _ => none
 | k + 1, x1, x5, x11, x12, x13 => if x13 < x12 then (if 0 ≤ x13 then (if x13 < (x11.length : Int) then ((impl_turnCell.f k ((rd_T55 x11 x13).f0) ((rd_T55 x11 x13).f1) x1).bind fun bt655 => (if x5.length < 8796093022208 then (impl_form.l0 k x1 (x5 ++ [(⟨bt655.1, bt655.2⟩ : S55)]) x11 x12 (wrap64 (x13 + 1))) else (none))) else (none)) else (none)) else ((impl_sorted.f x5).bind fun t660 => ((impl_normal.f k t660).bind fun t663 => (some t663)))
def impl_form.f (k : Nat) (l0 : List (S55)) (a1 : Int) : Option ((List (S55))) := if 0 ≤ (l0.length : Int) then (if ((l0.length : Int) : Int).toNat ≤ 17592186044416 then (impl_form.l0 k a1 (([] : List (S55))) l0 (l0.length : Int) 0) else (none)) else (none)
theorem impl_form.mono_l : ∀ k, (∀ y0 y1 y2 y3 y4, LeO (impl_form.l0 k y0 y1 y2 y3 y4) (impl_form.l0 (k + 1) y0 y1 y2 y3 y4))
 | 0 => fun _ _ _ _ _ r h => by simp [impl_form.l0] at h
 | k + 1 => by
  have ih0 := impl_form.mono_l k
  ·intro y0 y1 y2 y3 y4
   unfold impl_form.l0
   repeat' first
   | (with_reducible exact ih0 _ _ _ _ _)
   | (with_reducible exact impl_normal.mono _ _)
   | (with_reducible exact impl_turnCell.mono _ _ _ _)
   | (with_reducible exact LeO.refl _)
   | (with_reducible exact LeO.none _)
   | (with_reducible refine LeO.ite ?_ ?_)
   | (with_reducible refine LeO.bind ?_ (fun _ => ?_))
   | exact ih0 _ _ _ _ _
   | exact impl_normal.mono _ _
   | exact impl_turnCell.mono _ _ _ _
   | exact LeO.none _
   | refine LeO.ite ?_ ?_
   | refine LeO.bind ?_ (fun _ => ?_)
theorem impl_form.mono : ∀ a0 a1 k, LeO (impl_form.f k a0 a1) (impl_form.f (k + 1) a0 a1) := by
 intro a0 a1 k
 have ih0 := impl_form.mono_l k
 unfold impl_form.f
 repeat' first
   | (with_reducible exact ih0 _ _ _ _ _)
   | (with_reducible exact impl_normal.mono _ _)
   | (with_reducible exact impl_turnCell.mono _ _ _ _)
   | (with_reducible exact LeO.refl _)
   | (with_reducible exact LeO.none _)
   | (with_reducible refine LeO.ite ?_ ?_)
   | (with_reducible refine LeO.bind ?_ (fun _ => ?_))
   | exact ih0 _ _ _ _ _
   | exact impl_normal.mono _ _
   | exact impl_turnCell.mono _ _ _ _
   | exact LeO.none _
   | refine LeO.ite ?_ ?_
   | refine LeO.bind ?_ (fun _ => ?_)
set_option maxHeartbeats 8000000 in
set_option maxRecDepth 100000 in
theorem impl_form.calls (k : Nat) (A0 : Option Addr) (c0 : Nat) (l0 : List (S55)) (a1 : Int) (r : List (S55)) (w : World) (hr0 : Kd.C k55 w A0 l0.length l0) (hc0 : l0.length ≤ c0) (h : impl_form.f k l0 a1 = some r) :
  Calls Try.prog 99 #[.slice A0 l0.length c0, .int .i64 a1] w fun e w' => ∃ v0_ : Value, e = .returned (v0_) ∧ Kd.R k55 55 w' w.heap.size (fun _ => True) v0_ r ∧ Below w.heap.size w w' := by
 have hu55 := Try.underlying55
 have HR0 := Aside0.mk hr0
 have HC0 := Aside0.mk hc0
 clear hr0 hc0
 have HB := Aside0.mk (Below.refl w.heap.size w)
 have H : (if 0 ≤ (l0.length : Int) then (if ((l0.length : Int) : Int).toNat ≤ 17592186044416 then (impl_form.l0 k a1 (([] : List (S55))) l0 (l0.length : Int) 0) else (none)) else (none)) = some r := h
 clear h
 by_cases c3 : 0 ≤ (l0.length : Int)
 ·rw [if_pos c3] at H
  have c3b0 := eq_true c3
  have c3b1 : decide (0 ≤ (l0.length : Int)) = true := decide_eq_true c3
  clear c3
  by_cases c4 : ((l0.length : Int) : Int).toNat ≤ 17592186044416
  ·rw [if_pos c4] at H
   have c4b0 := eq_true c4
   have c4b1 : decide (((l0.length : Int) : Int).toNat ≤ 17592186044416) = true := decide_eq_true c4
   clear c4
   obtain ⟨y650, hY_⟩ : ∃ y_ : List (S55), y_ = (([] : List (S55))) := ⟨_, rfl⟩
   replace H : (impl_form.l0 k a1 y650 l0 (l0.length : Int) 0) = some r := yY_
   have Ny650 := Aside0.mk hY_
   clear hY_
   have H' := Aside0.mk H
   clear H
   go_enter Try.func99, Try.ntmps99
   go_wp2_with (first | ((with_reducible refine gate_dst (N := 10) rfl ?_); refine R_makecap k55 _ 55 rfl (N := 10) rfl 27 _ _ rfl (l0.length : Int) rfl rfl Try.underlying27 (.agg #[(.int .i64 0), (.int .i64 0)]) 16 info55 (by omega) (ok := fun _ => True) trivial (of_decide_eq_true aS_) (Nat.le_trans (Nat.mul_le_mul_right _ (of_decide_eq_true aS_ : (l0.length : Int).toNat ≤ 17592186044416)) (by omega)) (Below.refl _ _) (Nat.le_refl _) ?_; intro v651 w5 ho6 hb hg_ hnew_; clear hg_ hnew_; (first | rw [← Ny650.out] at ho6 | (simp only [Int.reduceToNat] at ho6; rw [← Ny650.out] at ho6)); have HO652 := Aside0.mk (Kd.R_lower ho6 (below_size bB_)); replace HB := Aside0.mk (below_step bB_ hb); clear hb ho6))
   go_loopg [5, 13] k (fun kq v5 v13 w' => ∃ (x5_1 : List (S55)) (x13_1 : Int), v13 = .int .i64 x13_1 ∧ Aside0 (impl_form.l0 kq a1 x5_1 l0 (l0.length : Int) x13_1 = some r) ∧ Aside0 (kq ≤ k) ∧ Aside0 (Kd.R k55 55 w' w.heap.size (fun _ => True) v5 x5_1) ∧ Aside0 (Below w.heap.size w w'))
   case atStart => exact ⟨(y650), (0), r3_, H', ⟨Nat.le_refl _⟩, ⟨rS_ HO652.out⟩, ⟨bB_⟩⟩
   case round =>
    clear H'
    try clear p2
    try clear c3
    try clear c3b0
    try clear c3b1
    try clear c4
    try clear c4b0
    try clear c4b1
    obtain ⟨x5_1, x13_1, rfl, HA, HK1, HO_5, HB⟩ := hrel
    cases gk with
    | zero => exact absurd HA.out (by simp [impl_form.l0])
    | succ k1 =>
     have H := HA.out
     clear HA
     simp only [impl_form.l0] at H
     by_cases c7 : x13_1 < (l0.length : Int)
     ·rw [if_pos c7] at H
      have c7b0 : decide (x13_1 < (l0.length : Int)) = true := decide_eq_true c7
      clear c7
      by_cases c8 : 0 ≤ x13_1
      ·rw [if_pos c8] at H
       have c8b0 : decide (0 ≤ x13_1) = true := decide_eq_true c8
       clear c8
       by_cases c9 : x13_1 < (l0.length : Int)
       ·rw [if_pos c9] at H
        have c9b0 : decide (x13_1 < (l0.length : Int)) = true := decide_eq_true c9
        clear c9
        replace H := Option.bind_eq_some_iff.mp H
        obtain ⟨⟨t655, t656⟩, A100, H⟩ := H
        try dsimp only at H
        have A10 := Aside0.mk A100
        clear A100
        by_cases c11 : x5_1.length < 8796093022208
        ·rw [if_pos c11] at H
         have LMc11 := Aside0.mk c11
         clear c11
         obtain ⟨y657, hY_⟩ : ∃ y_ : List (S55), y_ = (x5_1 ++ [(⟨t655, t656⟩ : S55)]) := ⟨_, rfl⟩
         replace H : (impl_form.l0 k1 a1 y657 l0 (l0.length : Int) (wrap64 (x13_1 + 1))) = some r := yY_
         have Ny657 := Aside0.mk hY_
         clear hY_
         have H' := Aside0.mk H
         clear H
         have p653 : 0 ≤ (x13_1 : Int) := of_decide_eq_true aS_
         have q653 : x13_1 < (l0.length : Int) := of_decide_eq_true aS_
         obtain ⟨ad653, e653, hx653_0, hx653_1⟩ := at_T55 HR0.out x13_1 p653 q653
         cases e653
         replace hx653_0 := (HB.out.cell (World.block_lt_of_cell? w _ hx653_0)).trans hx653_0
         replace hx653_1 := (HB.out.cell (World.block_lt_of_cell? w _ hx653_1)).trans hx653_1
         replace p653 := eq_true p653
         replace q653 := eq_true q653
         go_wp2_with (first | ((with_reducible refine gate_dst (N := 7) rfl ?_); refine box_event ?hg (N := 7) ?hd (cs := #[.int .i64 0, .int .i64 0]) (t := 55) ?hr ?_; (case hd => rfl); (case hg => rfl); (case hr => first | (go_simp; done) | (go_simp; rfl)); intro gb654 hg w12 hbox hb; replace HO_5 := Aside0.mk (Kd.R_below (Kd.R_elderB (rS_ HO_5.out) gb654 (Nat.le_of_eq hg.symm)) hb); have BK654 := Aside0.mk (hbox); have GW654 := Aside0.mk ((by rw [hg]; exact (below_size bB_) : w.heap.size ≤ gb654)); have GE654 := Aside0.mk ((by rw [hg]; exact (below_size bB_) : w.heap.size ≤ gb654)); replace HB := Aside0.mk (below_step bB_ hb); clear hb hbox hg; have hcz13_0 : w12.cell? ⟨gb654, 0, none⟩ = some (.int .i64 0) := (blk_cell BK654.out 0).trans rfl; have hcz13_1 : w12.cell? ⟨gb654, 1, none⟩ = some (.int .i64 0) := (blk_cell BK654.out 1).trans rfl; have hfz13_0 := blk_frozen BK654.out 0; have hfz13_1 := blk_frozen BK654.out 1) | ((with_reducible refine gate_callee (f := 126) rfl ?_); refine gL_ (some 20) Try.func126 #[.agg #[.int .i64 ((rd_T55 l0 x13_1).f0), .int .i64 ((rd_T55 l0 x13_1).f1)], .int .i64 a1] ?_; (with_reducible refine (impl_turnCell.calls k1 ((rd_T55 l0 x13_1).f0) ((rd_T55 l0 x13_1).f1) a1 t655 t656 _ A10.out).mono ?_); rintro e w14 ⟨rfl, hb⟩; refine ⟨_, rfl, ?_⟩; replace HO_5 := Aside0.mk (Kd.R_below (rS_ (Kd.R_mono (Kd.R_far (p := ⟨gb654, 1, none⟩) (Kd.R_far (p := ⟨gb654, 0, none⟩) (Kd.R_mono HO_5.out (fun k_ hk => (⟨hk, hk.2⟩ : _ ∧ k_ ≠ gb654))) (fun _ hk => hk.2) (.int .i64 ((rd_T55 l0 x13_1).f0))) (fun _ hk => hk.2) (.int .i64 ((rd_T55 l0 x13_1).f1))) (fun _ h_ => h_.1))) hb); replace BK654 := Aside0.mk (blk_below (g := gb654) (o := .cells #[.int .i64 ((rd_T55 l0 x13_1).f0), .int .i64 ((rd_T55 l0 x13_1).f1)] 55 (0, 0)) (by (with_reducible repeat (first | refine blk_drewN ?_ _ | refine blk_drew ?_ | refine blk_alloc ?_ _)); refine blk_put (cs := #[.int .i64 ((rd_T55 l0 x13_1).f0), .int .i64 0]) ?_ 1 _ rfl; (with_reducible repeat (first | refine blk_drewN ?_ _ | refine blk_drew ?_ | refine blk_alloc ?_ _)); refine blk_put (cs := #[.int .i64 0, .int .i64 0]) ?_ 0 _ rfl; (with_reducible repeat (first | refine blk_drewN ?_ _ | refine blk_drew ?_ | refine blk_alloc ?_ _)); exact BK654.out) hb); replace HB := Aside0.mk (below_step (by repeat (first | (with_reducible first | exact HB.out | apply below_alloc | apply pw_below_drewN | apply below_drew1 | refine below_set ?_ GE654.out) | exact HB.out)) hb); (try clear hb)) | ((with_reducible refine gate_builtin (b := .append) (xs := #[.tmp 17, .tmp 21]) rfl ?_); at_builtin; refine Kd.R_append k55 (w0 := w) w.heap.size rfl (.tmp 17) (.tmp 21) 27 55 (.agg #[(.int .i64 0), (.int .i64 0)]) 16 rfl Try.underlying27 info55 rfl (by decide) (by omega) u5 x5_1 (⟨t655, t656⟩ : S55) [.int .i64 t655, .int .i64 t656] (fun k_ => k_ ≠ gb654) (fun _ => False) rfl rfl ?aP (fun _ hk => hk.elim) ?aF ?aO ?aB ?aS ?aL ?_; (case aP => exact k55_mkM _ _ _ (⟨t655, t656⟩ : S55)); (case aB => exact (by repeat (first | (with_reducible first | exact HB.out | apply below_alloc | apply pw_below_drewN | apply below_drew1 | refine below_set ?_ GE654.out) | exact HB.out))); (case aF => exact (fun k_ hk => Kd.freshB (g := gb654) (o := .cells #[.int .i64 ((rd_T55 l0 x13_1).f0), .int .i64 ((rd_T55 l0 x13_1).f1)] 55 (0, 0)) (by (with_reducible repeat (first | refine blk_drewN ?_ _ | refine blk_drew ?_ | refine blk_alloc ?_ _)); exact BK654.out) k_ hk)); (case aO => exact (rS_ (Kd.R_mono HO_5.out (fun _ hk => hk.2)))); (case aS => exact (below_size (by repeat (first | (with_reducible first | exact HB.out | apply below_alloc | apply pw_below_drewN | apply below_drew1 | refine below_set ?_ GE654.out) | exact HB.out)))); (case aL => have := LMc11.out; omega); intro v658 w15 ho hb hg hat; rw [← Ny657.out] at ho; replace BK654 := Aside0.mk (blk_grown (g := gb654) (o := .cells #[.int .i64 ((rd_T55 l0 x13_1).f0), .int .i64 ((rd_T55 l0 x13_1).f1)] 55 (0, 0)) (by (with_reducible repeat (first | refine blk_drewN ?_ _ | refine blk_drew ?_ | refine blk_alloc ?_ _)); exact BK654.out) hg (Kd.R_away HO_5.out (fun _ hk => hk.2))); replace HB := Aside0.mk (hb); have HO659 := Aside0.mk (ho); clear HO_5; clear ho hb hg hat))
         go_roundg k1
         case measure => have := HK1.out; omega
         case rel => exact ⟨(y657), (wrap64 (x13_1 + 1)), r3_, H', ⟨by have := HK1.out; omega⟩, ⟨rS_ (Kd.R_mono HO659.out (fun _ hk => trivial))⟩, ⟨by repeat (first | (with_reducible first | exact HB.out | apply below_alloc | apply pw_below_drewN | apply below_drew1 | refine below_set ?_ GE654.out) | exact HB.out)⟩⟩
        ·rw [if_neg c11] at H
         exact absurd H (by simp)
       ·rw [if_neg c9] at H
        exact absurd H (by simp)
      ·rw [if_neg c8] at H
       exact absurd H (by simp)
     ·rw [if_neg c7] at H
      have c7b0 : decide (x13_1 < (l0.length : Int)) = false := decide_eq_false c7
      clear c7
      replace H := Option.bind_eq_some_iff.mp H
      obtain ⟨t660, A160, H⟩ := H
      try dsimp only at H
      have A16 := Aside0.mk A160
      clear A160
      replace H := Option.bind_eq_some_iff.mp H
      obtain ⟨t663, A170, H⟩ := H
      try dsimp only at H
      have A17 := Aside0.mk A170
      clear A170
      obtain rfl := Option.some.inj H
      obtain ⟨Ao18, co18, eo18⟩ := Kd.R_slice HO_5.out
      subst eo18
      go_wp2_with (first | ((with_reducible refine gate_callee (f := 84) rfl ?_); refine gL_ (some 25) Try.func84 #[.slice Ao18 x5_1.length co18] ?_; (with_reducible refine (impl_sorted.calls _ _ x5_1 t660 _ ?side1 ?side2 A16.out).mono ?_); (case side1 => exact cS_ ((Kd.R_reads' HO_5.out).2.2)); (case side2 => exact (Kd.R_reads' HO_5.out).2.1); rintro e w19 ⟨v661, rfl, ho0, hb⟩; refine ⟨_, rfl, ?_⟩; have HO662 := Aside0.mk (Kd.R_lower (Kd.R_new' ho0 (Kd.R_lt (rS_ HO_5.out))) (below_size bB_)); replace HO_5 := Aside0.mk (Kd.R_elder' (rS_ HO_5.out) (Kd.R_base ho0) hb); replace HB := Aside0.mk (below_step bB_ hb); (try clear hb ho0); obtain ⟨Ao20, co20, eo20⟩ := Kd.R_slice HO662.out; subst eo20) | ((with_reducible refine gate_callee (f := 49) rfl ?_); refine gL_ (some 26) Try.func49 #[.slice Ao20 t660.length co20] ?_; (with_reducible refine (impl_normal.calls k1 _ _ t660 t663 _ ?side1 ?side2 A17.out).mono ?_); (case side1 => exact cS_ ((Kd.R_reads' HO662.out).2.2)); (case side2 => exact (Kd.R_reads' HO662.out).2.1); rintro e w21 ⟨v664, rfl, ho0, hb⟩; refine ⟨_, rfl, ?_⟩; have HO665 := Aside0.mk (Kd.R_lower (Kd.R_new' (Kd.R_new' ho0 (Kd.R_lt (rS_ HO_5.out))) (Kd.R_lt (rS_ HO662.out))) (below_size bB_)); replace HO_5 := Aside0.mk (Kd.R_elder' (rS_ HO_5.out) (Kd.R_base ho0) hb); replace HO662 := Aside0.mk (Kd.R_elder' (rS_ HO662.out) (Kd.R_base ho0) hb); replace HB := Aside0.mk (below_step bB_ hb); (try clear hb ho0)))
      go_ret
      exact ⟨_, r2_, rS_ (Kd.R_mono HO665.out (fun _ hk => trivial)), bB_⟩
  ·rw [if_neg c4] at H
   exact absurd H (by simp)
 ·rw [if_neg c3] at H
  exact absurd H (by simp)

/-! ### impl_forms: function 64 -/
def impl_forms.l0 : Nat → List (S55) → List (List (S55)) → Int → Int → Option ((List (List (S55))))
 | 0, _, _, _, _ => none
 | k + 1, x0, x5, x8, x9 => if x9 < x8 then ((impl_form.f k x0 x9).bind fun t669 => (if x5.length < 5864062014805 then (impl_forms.l0 k x0 (x5 ++ [t669]) x8 (wrap64 (x9 + 1))) else (none))) else (some x5)
def impl_forms.f (k : Nat) (l0 : List (S55)) (a1 : Int) : Option ((List (List (S55)))) := impl_forms.l0 k l0 (([] : List (List (S55)))) a1 0
theorem impl_forms.mono_l : ∀ k, (∀ y0 y1 y2 y3, LeO (impl_forms.l0 k y0 y1 y2 y3) (impl_forms.l0 (k + 1) y0 y1 y2 y3))
 | 0 => fun _ _ _ _ r h => by simp [impl_forms.l0] at h
 | k + 1 => by
  have ih0 := impl_forms.mono_l k
  ·intro y0 y1 y2 y3
   unfold impl_forms.l0
   repeat' first
   | (with_reducible exact ih0 _ _ _ _)
   | (with_reducible exact impl_form.mono _ _ _)
   | (with_reducible exact LeO.refl _)
   | (with_reducible exact LeO.none _)
   | (with_reducible refine LeO.ite ?_ ?_)
   | (with_reducible refine LeO.bind ?_ (fun _ => ?_))
   | exact ih0 _ _ _ _
   | exact impl_form.mono _ _ _
   | exact LeO.none _
   | refine LeO.ite ?_ ?_
   | refine LeO.bind ?_ (fun _ => ?_)
theorem impl_forms.mono : ∀ a0 a1 k, LeO (impl_forms.f k a0 a1) (impl_forms.f (k + 1) a0 a1) := by
 intro a0 a1 k
 have ih0 := impl_forms.mono_l k
 unfold impl_forms.f
 repeat' first
   | (with_reducible exact ih0 _ _ _ _)
   | (with_reducible exact impl_form.mono _ _ _)
   | (with_reducible exact LeO.refl _)
   | (with_reducible exact LeO.none _)
   | (with_reducible refine LeO.ite ?_ ?_)
   | (with_reducible refine LeO.bind ?_ (fun _ => ?_))
   | exact ih0 _ _ _ _
   | exact impl_form.mono _ _ _
   | exact LeO.none _
   | refine LeO.ite ?_ ?_
   | refine LeO.bind ?_ (fun _ => ?_)
set_option maxHeartbeats 8000000 in
set_option maxRecDepth 100000 in
theorem impl_forms.calls (k : Nat) (A0 : Option Addr) (c0 : Nat) (l0 : List (S55)) (a1 : Int) (r : List (List (S55))) (w : World) (hr0 : Kd.C k55 w A0 l0.length l0) (hc0 : l0.length ≤ c0) (h : impl_forms.f k l0 a1 = some r) :
  Calls Try.prog 64 #[.slice A0 l0.length c0, .int .i64 a1] w fun e w' => ∃ v0_ : Value, e = .returned (v0_) ∧ Kd.S (Kd.slice 55 k55) 27 w' w.heap.size (fun _ => True) v0_ r ∧ Below w.heap.size w w' := by
 have HR0 := Aside0.mk hr0
 have HC0 := Aside0.mk hc0
 clear hr0 hc0
 have HB := Aside0.mk (Below.refl w.heap.size w)
 have H : (impl_forms.l0 k l0 (([] : List (List (S55)))) a1 0) = some r := h
 clear h
 obtain ⟨y666, hY_⟩ : ∃ y_ : List (List (S55)), y_ = (([] : List (List (S55)))) := ⟨_, rfl⟩
 replace H : (impl_forms.l0 k l0 y666 a1 0) = some r := yY_
 have Ny666 := Aside0.mk hY_
 clear hY_
 have H' := Aside0.mk H
 clear H
 go_enter Try.func64, Try.ntmps64
 go_wp2_with (first | ((with_reducible refine gate_dst (N := 7) rfl ?_); refine Kd.S_lit (Kd.slice 55 k55) _ 27 ?hg (N := 7) ?hd (xs := ([] : List (List (S55)))) (inner := []) (ok := fun _ => True) (okp := fun _ => True) ?hr ?hp (fun _ hk => hk) trivial (Below.refl _ _) (Nat.le_refl _) (by simp) ?_; (case hd => rfl); (case hg => rfl); (case hr => first | (go_simp; done) | (go_simp; rfl)); (case hp => exact (Reps.none _ _)); intro v667 w3 ho4 hb hg_ hnew_; clear hg_ hnew_; (first | rw [← Ny666.out] at ho4 | (simp only [Int.reduceToNat] at ho4; rw [← Ny666.out] at ho4)); have HO668 := Aside0.mk (Kd.S_lower ho4 (below_size bB_)); replace HB := Aside0.mk (below_step bB_ hb); clear hb ho4))
 go_loopg [5, 9] k (fun kq v5 v9 w' => ∃ (x5_1 : List (List (S55))) (x9_1 : Int), v9 = .int .i64 x9_1 ∧ Aside0 (impl_forms.l0 kq l0 x5_1 a1 x9_1 = some r) ∧ Aside0 (kq ≤ k) ∧ Aside0 (Kd.S (Kd.slice 55 k55) 27 w' w.heap.size (fun _ => True) v5 x5_1) ∧ Aside0 (Below w.heap.size w w'))
 case atStart => exact ⟨(y666), (0), r3_, H', ⟨Nat.le_refl _⟩, ⟨sS_ HO668.out⟩, ⟨bB_⟩⟩
 case round =>
  clear H'
  try clear p2
  obtain ⟨x5_1, x9_1, rfl, HA, HK1, HO_5, HB⟩ := hrel
  cases gk with
  | zero => exact absurd HA.out (by simp [impl_forms.l0])
  | succ k1 =>
   have H := HA.out
   clear HA
   simp only [impl_forms.l0] at H
   by_cases c5 : x9_1 < a1
   ·rw [if_pos c5] at H
    have c5b0 : decide (x9_1 < a1) = true := decide_eq_true c5
    clear c5
    replace H := Option.bind_eq_some_iff.mp H
    obtain ⟨t669, A60, H⟩ := H
    try dsimp only at H
    have A6 := Aside0.mk A60
    clear A60
    by_cases c7 : x5_1.length < 5864062014805
    ·rw [if_pos c7] at H
     have LMc7 := Aside0.mk c7
     clear c7
     obtain ⟨y672, hY_⟩ : ∃ y_ : List (List (S55)), y_ = (x5_1 ++ [t669]) := ⟨_, rfl⟩
     replace H : (impl_forms.l0 k1 l0 y672 a1 (wrap64 (x9_1 + 1))) = some r := yY_
     have Ny672 := Aside0.mk hY_
     clear hY_
     have H' := Aside0.mk H
     clear H
     go_wp2_with (first | ((with_reducible refine gate_callee (f := 99) rfl ?_); refine gL_ (some 15) Try.func99 #[.slice A0 l0.length c0, .int .i64 x9_1] ?_; (with_reducible refine (impl_form.calls k1 _ _ l0 x9_1 t669 _ ?side1 ?side2 A6.out).mono ?_); (case side1 => exact cS_ (Kd.C_below HR0.out HB.out)); (case side2 => exact HC0.out); rintro e w8 ⟨v670, rfl, ho0, hb⟩; refine ⟨_, rfl, ?_⟩; replace HO_5 := Aside0.mk (Kd.S_elder' (sS_ HO_5.out) (Kd.R_base ho0) hb); have HO671 := Aside0.mk (Kd.R_lower ho0 (below_size bB_)); replace HB := Aside0.mk (below_step bB_ hb); (try clear hb ho0); obtain ⟨Ao10, co10, eo10⟩ := Kd.R_slice HO671.out; subst eo10) | ((with_reducible refine gate_builtin (b := .append) (xs := #[.tmp 12, .tmp 16]) rfl ?_); at_builtin; refine Kd.S_append (Kd.slice 55 k55) (w0 := w) w.heap.size rfl (.tmp 12) (.tmp 16) 24 27 (.slice none 0 0) 24 rfl Try.underlying24 info27 rfl (by decide) (by omega) u5 x5_1 t669 [.slice Ao10 t669.length co10] (fun _ => True) (fun k_ => some k_ = (.slice Ao10 t669.length co10 : Value).ownBlock) rfl rfl ?aP (fun k_ hk_ => ((Kd.R_mono (ok' := fun k_ => ((fun _ => True)) k_ ∧ some k_ ≠ (u5 : Value).ownBlock) (Kd.R_apart' (HO671.out) (Kd.S_typed HO_5.out) (by decide)) (fun k_ hk => ⟨trivial, hk.2⟩))).1 k_ hk_.symm) ?aF ?aO ?aB ?aS ?aL ?_; (case aP => exact Kd.M_row (Kd.R_mono (Kd.R_tight rfl (Kd.R_mono (ok' := fun k_ => ((fun _ => True)) k_ ∧ some k_ ≠ (u5 : Value).ownBlock) (Kd.R_apart' (HO671.out) (Kd.S_typed HO_5.out) (by decide)) (fun k_ hk => ⟨trivial, hk.2⟩))) (fun _ h_ => h_))); (case aB => exact bB_); (case aF => exact (fun _ _ => trivial)); (case aO => exact (sS_ (Kd.S_mono HO_5.out (fun k_ hk => ⟨trivial, fun e_ => hk.2 e_⟩)))); (case aS => exact (below_size bB_)); (case aL => have := LMc7.out; omega); intro v673 w9 ho hb hg hat; rw [← Ny672.out] at ho; replace HB := Aside0.mk (hb); have HO674 := Aside0.mk (ho); clear HO_5 HO671; clear ho hb hg hat))
     go_roundg k1
     case measure => have := HK1.out; omega
     case rel => exact ⟨(y672), (wrap64 (x9_1 + 1)), r3_, H', ⟨by have := HK1.out; omega⟩, ⟨sS_ HO674.out⟩, ⟨bB_⟩⟩
    ·rw [if_neg c7] at H
     exact absurd H (by simp)
   ·rw [if_neg c5] at H
    have c5b0 : decide (x9_1 < a1) = false := decide_eq_false c5
    clear c5
    obtain rfl := Option.some.inj H
    go_wp2
    go_ret
    exact ⟨_, r2_, sS_ HO_5.out, bB_⟩

/-! ### laws_big: function 19 -/
def laws_big.f (l0 : List Int) : Option (Bool) := some (decide ((l0.length : Int) > 4096))
set_option maxHeartbeats 8000000 in
set_option maxRecDepth 100000 in
theorem laws_big.calls (A0 : Option Addr) (c0 : Nat) (l0 : List Int) (r : Bool) (w : World) (hr0 : Kd.C (Kd.int .u8) w A0 l0.length l0) (hc0 : l0.length ≤ c0) (h : laws_big.f l0 = some r) :
  Calls Try.prog 19 #[.slice A0 l0.length c0] w fun e w' => e = .returned (.bool r) ∧ Drawn0 w w' := by
 have HR0 := Aside0.mk hr0
 have HC0 := Aside0.mk hc0
 clear hr0 hc0
 have H : (some (decide ((l0.length : Int) > 4096))) = some r := h
 clear h
 obtain rfl := Option.some.inj H
 go_enter Try.func19, Try.ntmps19
 go_wp2
 go_ret
 exact ⟨r3_, by repeat (first | exact Drawn0.refl _ | apply Drawn0.step)⟩

/-- A state of type 94 at block g of W; what its slices lead to came in by w0. -/
def IsS94 (w0 W : World) (g : Nat) (f0 : List Int) (f1 : Int) (f2 : Int) : Prop := ∃ A0 c0, W.heap[g]? = some (.cells #[.slice A0 f0.length c0, .int .i64 f1, .int .i64 f2] 94 (0, 0)) ∧ w0.heap.size ≤ g ∧ Kd.C (Kd.int .u8) w0 A0 f0.length f0
theorem IsS94.grown {w0 W : World} {g : Nat} {f0 : List Int} {f1 : Int} {f2 : Int} {W1 : World} {row : Option Nat} (h : IsS94 w0 W g f0 f1 f2) (hw : W.grownBy W1 row) (hne : some g ≠ row) : IsS94 w0 W1 g f0 f1 f2 := by
 obtain ⟨A0, c0, hb, hg, hr0⟩ := h
 exact ⟨A0, c0, blk_grown hb hw hne, hg, hr0⟩
theorem IsS94.own_neN {w0 W : World} {g : Nat} {f0 : List Int} {f1 : Int} {f2 : Int} {α : Type} {d : Kd α} {e : Nat} {base : Nat} {ok : Nat → Prop} {v : Value} {xs : List α} (h : IsS94 w0 W g f0 f1 f2) (ho : Kd.N d e W base ok v xs) (ht : e ≠ 94) : some g ≠ v.ownBlock := by
 obtain ⟨A0, c0, hb, hg, hr0⟩ := h
 exact Kd.N_ne ho hb ht
theorem IsS94.fresh {w0 W : World} {g : Nat} {f0 : List Int} {f1 : Int} {f2 : Int} (h : IsS94 w0 W g f0 f1 f2) : ∀ k, W.heap.size ≤ k → k ≠ g := by
 obtain ⟨A0, c0, hb, hg, hr0⟩ := h
 exact Kd.freshB hb
theorem IsS94.kept {w0 W : World} {g : Nat} {f0 : List Int} {f1 : Int} {f2 : Int} {W1 : World} {S : Nat → Prop} (h : IsS94 w0 W g f0 f1 f2) (hk : Kept W W1 S) (hne : ¬ S g) : IsS94 w0 W1 g f0 f1 f2 := by
 obtain ⟨A0, c0, hb, hg, hr0⟩ := h
 exact ⟨A0, c0, blk_kept hb hk hne, hg, hr0⟩
theorem IsS94.below {w0 W : World} {g : Nat} {f0 : List Int} {f1 : Int} {f2 : Int} {W1 : World} (h : IsS94 w0 W g f0 f1 f2) (hw : Below W.heap.size W W1) : IsS94 w0 W1 g f0 f1 f2 := h.grown (grown_of_below hw none) (by simp)
theorem IsS94.alloc {w0 W : World} {g : Nat} {f0 : List Int} {f1 : Int} {f2 : Int} (h : IsS94 w0 W g f0 f1 f2) (o : Obj) : IsS94 w0 (W.alloc o) g f0 f1 f2 := h.below (below_alloc (Below.refl _ _) o)
theorem IsS94.drewN {w0 W : World} {g : Nat} {f0 : List Int} {f1 : Int} {f2 : Int} (h : IsS94 w0 W g f0 f1 f2) (m : Nat) : IsS94 w0 (W.drewN m) g f0 f1 f2 := h
theorem IsS94.drew {w0 W : World} {g : Nat} {f0 : List Int} {f1 : Int} {f2 : Int} (h : IsS94 w0 W g f0 f1 f2) : IsS94 w0 W.drew g f0 f1 f2 := h
theorem IsS94.at_ {w0 W : World} {g : Nat} {f0 : List Int} {f1 : Int} {f2 : Int} {w' : World} {m : Nat} (hq : W.drewN m = w') (h : IsS94 w0 W g f0 f1 f2) : IsS94 w0 w' g f0 f1 f2 := by subst hq; exact IsS94.drewN h m
theorem IsS94.apart {w0 W : World} {g : Nat} {f0 : List Int} {f1 : Int} {f2 : Int} {α : Type} {d : Kd α} {e : Nat} {base : Nat} {ok : Nat → Prop} {v : Value} {xs : List α} (h : IsS94 w0 W g f0 f1 f2) (ho : d.R e W base ok v xs) (ht : ∀ q, q ∈ e :: d.E → q ≠ 94) : d.R e W base (fun k => ok k ∧ k ≠ g) v xs := by
 obtain ⟨A0, c0, hb, hg, hr0⟩ := h
 exact Kd.R_types ho hb ht
theorem IsS94.own_ne {w0 W : World} {g : Nat} {f0 : List Int} {f1 : Int} {f2 : Int} {α : Type} {d : Kd α} {e : Nat} {base : Nat} {ok : Nat → Prop} {v : Value} {xs : List α} (h : IsS94 w0 W g f0 f1 f2) (ho : d.R e W base ok v xs) (ht : e ≠ 94) : some g ≠ v.ownBlock := by
 obtain ⟨A0, c0, hb, hg, hr0⟩ := h
 exact Kd.R_ne ho hb ht
theorem IsS94.apartQ {w0 W : World} {g : Nat} {f0 : List Int} {f1 : Int} {f2 : Int} {α : Type} {d : Kd α} {e : Nat} {base : Nat} {ok : Nat → Prop} {v : Value} {xs : List α} (h : IsS94 w0 W g f0 f1 f2) (ho : d.Q e W base ok v xs) (ht : ∀ q, q ∈ e :: d.E → q ≠ 94) : d.Q e W base (fun k => ok k ∧ k ≠ g) v xs := by
 obtain ⟨A0, c0, hb, hg, hr0⟩ := h
 exact Kd.Q_types ho hb ht
theorem IsS94.own_neQ {w0 W : World} {g : Nat} {f0 : List Int} {f1 : Int} {f2 : Int} {α : Type} {d : Kd α} {e : Nat} {base : Nat} {ok : Nat → Prop} {v : Value} {xs : List α} (h : IsS94 w0 W g f0 f1 f2) (ho : d.Q e W base ok v xs) (ht : e ≠ 94) : some g ≠ v.ownBlock := by
 obtain ⟨A0, c0, hb, hg, hr0⟩ := h
 exact Kd.Q_ne ho hb ht
theorem IsS94.apartS {w0 W : World} {g : Nat} {f0 : List Int} {f1 : Int} {f2 : Int} {α : Type} {d : Kd α} {e : Nat} {base : Nat} {ok : Nat → Prop} {v : Value} {xs : List α} (h : IsS94 w0 W g f0 f1 f2) (ho : d.S e W base ok v xs) (ht : ∀ q, q ∈ e :: d.E → q ≠ 94) : d.S e W base (fun k => ok k ∧ k ≠ g) v xs := by
 obtain ⟨A0, c0, hb, hg, hr0⟩ := h
 exact Kd.S_types ho hb ht
theorem IsS94.own_neS {w0 W : World} {g : Nat} {f0 : List Int} {f1 : Int} {f2 : Int} {α : Type} {d : Kd α} {e : Nat} {base : Nat} {ok : Nat → Prop} {v : Value} {xs : List α} (h : IsS94 w0 W g f0 f1 f2) (ho : d.S e W base ok v xs) (ht : e ≠ 94) : some g ≠ v.ownBlock := by
 obtain ⟨A0, c0, hb, hg, hr0⟩ := h
 exact Kd.S_ne ho hb ht
theorem IsS94.lt {w0 W : World} {g : Nat} {f0 : List Int} {f1 : Int} {f2 : Int} (h : IsS94 w0 W g f0 f1 f2) : g < W.heap.size := by
 obtain ⟨A0, c0, hb, hg, hr0⟩ := h
 exact blk_lt hb
theorem IsS94.ge {w0 W : World} {g : Nat} {f0 : List Int} {f1 : Int} {f2 : Int} (h : IsS94 w0 W g f0 f1 f2) : w0.heap.size ≤ g := by
 obtain ⟨A0, c0, hb, hg, hr0⟩ := h
 exact hg
theorem IsS94.ne_blk {w0 W : World} {g : Nat} {f0 : List Int} {f1 : Int} {f2 : Int} {a : Nat} {cs : Array Value} {t : TypeId} {fr : Nat × Nat} (h : IsS94 w0 W g f0 f1 f2) (hb2 : W.heap[a]? = some (.cells cs t fr)) (ht : t ≠ 94) : g ≠ a := by
 obtain ⟨A0, c0, hb, hg, hr0⟩ := h
 rintro rfl
 rw [hb] at hb2
 injection hb2 with hb2
 injection hb2 with _ ht2
 exact ht ht2.symm
theorem IsS94.far {w0 W : World} {g : Nat} {f0 : List Int} {f1 : Int} {f2 : Int} {p : Addr} (h : IsS94 w0 W g f0 f1 f2) (hne : g ≠ p.block) (u : Value) : IsS94 w0 (W.setCell p u) g f0 f1 f2 := by
 obtain ⟨A0, c0, hb, hg, hr0⟩ := h
 exact ⟨A0, c0, blk_far hb hne u, hg, hr0⟩
theorem cellS94_0 {W : World} {g : Nat} {A0 : Option Addr} {c0 : Nat} {f0 : List Int} {f1 : Int} {f2 : Int} (h : W.heap[g]? = some (.cells #[.slice A0 f0.length c0, .int .i64 f1, .int .i64 f2] 94 (0, 0))) : W.cell? ⟨g, 0, none⟩ = some (.slice A0 f0.length c0) := (blk_cell h 0).trans rfl
theorem cellS94_1 {W : World} {g : Nat} {A0 : Option Addr} {c0 : Nat} {f0 : List Int} {f1 : Int} {f2 : Int} (h : W.heap[g]? = some (.cells #[.slice A0 f0.length c0, .int .i64 f1, .int .i64 f2] 94 (0, 0))) : W.cell? ⟨g, 1, none⟩ = some (.int .i64 f1) := (blk_cell h 1).trans rfl
theorem IsS94.set_1 {w0 W : World} {g : Nat} {f0 : List Int} {f1 : Int} {f2 : Int} (h : IsS94 w0 W g f0 f1 f2) (x : Int) : IsS94 w0 (W.setCell ⟨g, 1, none⟩ (.int .i64 x)) g f0 x f2 := by
 obtain ⟨A0, c0, hb, hg, hr0⟩ := h
 exact ⟨A0, c0, by simpa using blk_set hb 1 (.int .i64 x), hg, hr0⟩
theorem cellS94_2 {W : World} {g : Nat} {A0 : Option Addr} {c0 : Nat} {f0 : List Int} {f1 : Int} {f2 : Int} (h : W.heap[g]? = some (.cells #[.slice A0 f0.length c0, .int .i64 f1, .int .i64 f2] 94 (0, 0))) : W.cell? ⟨g, 2, none⟩ = some (.int .i64 f2) := (blk_cell h 2).trans rfl
theorem IsS94.set_2 {w0 W : World} {g : Nat} {f0 : List Int} {f1 : Int} {f2 : Int} (h : IsS94 w0 W g f0 f1 f2) (x : Int) : IsS94 w0 (W.setCell ⟨g, 2, none⟩ (.int .i64 x)) g f0 f1 x := by
 obtain ⟨A0, c0, hb, hg, hr0⟩ := h
 exact ⟨A0, c0, by simpa using blk_set hb 2 (.int .i64 x), hg, hr0⟩
theorem IsS94.new (w0 W : World) (A0 : Option Addr) (c0 : Nat) (f0 : List Int) (f1 : Int) (f2 : Int) (hB : Below w0.heap.size w0 W) (hr0 : Kd.C (Kd.int .u8) w0 A0 f0.length f0) : IsS94 w0 (W.alloc (.cells #[.slice A0 f0.length c0, .int .i64 f1, .int .i64 f2] 94)) W.heap.size f0 f1 f2 := ⟨A0, c0, by simpa using heap_alloc_new W _, hB.size, hr0⟩

/-! ### spec_l01Next: function 93, by hand -/
/-- the next number: what is told holds where the source's own numbers are in range -/
def spec_l01Next.f (c : List Int) (i : Int) (s : Int) (n : Int) : Option (Int × Int × Int) :=
 if n ≤ 1 then some (0, i, s)
 else if 0 ≤ s ∧ s < 2147483647 ∧ 0 ≤ i ∧ i ≤ 4611686018427387904 ∧ 0 ≤ rd c i ∧ rd c i ≤ 255 then
  (if i < (c.length : Int) then
   (if n ≤ 256 ∧ (i + 1) % 2 = 0 then some (rd c i % n, i + 1, (s * 48271 + 29) % 2147483647)
    else some (((s * 48271 + 29) % 2147483647 / 31 + rd c i) % n, i + 1, (s * 48271 + 29) % 2147483647))
   else some ((s * 48271 + 29) % 2147483647 / 31 % n, i, (s * 48271 + 29) % 2147483647))
 else none
set_option maxHeartbeats 4000000 in
set_option maxRecDepth 100000 in
theorem spec_l01Next.calls (g : Nat) (s0_0 : List Int) (s0_1 : Int) (s0_2 : Int) (a1 : Int) (r1 : Int) (r2 : Int) (r3 : Int) (w0 w : World) (hI : IsS94 w0 w g s0_0 s0_1 s0_2) (hB : Below w0.heap.size w0 w) (h : spec_l01Next.f s0_0 s0_1 s0_2 a1 = some (r1, r2, r3)) :
  Calls Try.prog 93 #[.pointer (some ⟨g, 0, none⟩), .int .i64 a1] w fun e w' => e = .returned (.int .i64 r1) ∧ IsS94 w0 w' g s0_0 r2 r3 ∧ Below w0.heap.size w0 w' ∧ KeepBut w w' g none := by
 have HI0 := Aside0.mk hI
 have HK := Aside0.mk (KeepBut.refl w g none)
 have HL := Aside0.mk hB.size
 have HB := Aside0.mk hB
 obtain ⟨A, c0, hblk, hg, hC⟩ := hI
 have HBK := Aside0.mk hblk
 have HG := Aside0.mk hg
 have HC := Aside0.mk hC
 have x0 : w.cell? ⟨g, 0, none⟩ = some (.slice A s0_0.length c0) := (blk_cell hblk 0).trans rfl
 have x1 : w.cell? ⟨g, 1, none⟩ = some (.int .i64 s0_1) := (blk_cell hblk 1).trans rfl
 have x2 : w.cell? ⟨g, 2, none⟩ = some (.int .i64 s0_2) := (blk_cell hblk 2).trans rfl
 have f0 := blk_frozen hblk 0
 have f1 := blk_frozen hblk 1
 have f2 := blk_frozen hblk 2
 clear hblk hg hC hB
 unfold spec_l01Next.f at h
 by_cases c1 : a1 ≤ 1
 ·rw [if_pos c1] at h
  simp only [Option.some.injEq, Prod.mk.injEq] at h
  obtain ⟨rfl, rfl, rfl⟩ := h
  go_enter Try.func93, Try.ntmps93
  go_wp2
  go_ret
  exact ⟨rfl, HI0.out, HB.out, HK.out⟩
 rw [if_neg c1] at h
 have z1 : (a1 == 0) = false := beq_eq_false_iff_ne.mpr (by omega)
 have z2 : 1 < a1 := by omega
 by_cases c2 : 0 ≤ s0_2 ∧ s0_2 < 2147483647 ∧ 0 ≤ s0_1 ∧ s0_1 ≤ 4611686018427387904 ∧ 0 ≤ rd s0_0 s0_1 ∧ rd s0_0 s0_1 ≤ 255
 ·rw [if_pos c2] at h
  obtain ⟨b1, b2, b3, b4, b5, b6⟩ := c2
  by_cases c3 : s0_1 < (s0_0.length : Int)
  ·rw [if_pos c3] at h
   obtain ⟨ad, e1, hx⟩ := Kd.at_int HC.out s0_1 b3 c3
   cases e1
   have hlt : ad.block < w0.heap.size := by
    have := World.block_lt_of_cell? w0 _ hx
    rwa [add_block] at this
   have hne : (ad.add s0_1.toNat).block ≠ g := by rw [add_block]; have := HG.out; omega
   replace hx := (HB.out.cell (World.block_lt_of_cell? w0 _ hx)).trans hx
   have hx1 : ∀ u, (w.setCell ⟨g, 2, none⟩ u).cell? (ad.add s0_1.toNat) = some (.int .u8 (rd s0_0 s0_1)) := fun u => (cell_far (p := ⟨g, 2, none⟩) hne u).trans hx
   have hx2 : ∀ u n v, (((w.setCell ⟨g, 2, none⟩ u).drewN n).setCell ⟨g, 1, none⟩ v).cell? (ad.add s0_1.toNat) = some (.int .u8 (rd s0_0 s0_1)) := fun u n v => (cell_far (p := ⟨g, 1, none⟩) hne v).trans (hx1 u)
   have q1 : decide (s0_1 < (s0_0.length : Int)) = true := decide_eq_true c3
   clear hlt hne
   by_cases c4 : a1 ≤ 256 ∧ (s0_1 + 1) % 2 = 0
   ·rw [if_pos c4] at h
    simp only [Option.some.injEq, Prod.mk.injEq] at h
    obtain ⟨rfl, rfl, rfl⟩ := h
    obtain ⟨c5, c6⟩ := c4
    have q2 : ((s0_1 + 1) % 2 == 0) = true := beq_iff_eq.mpr c6
    clear c6
    go_enter Try.func93, Try.ntmps93
    go_wp2
    go_quiet (fail)
    go_wp2
    go_quiet (fail)
    go_wp2
    go_quiet (fail)
    go_wp2
    go_ret
    refine ⟨rfl, by repeat (first | (with_reducible first | exact HI0.out | apply IsS94.drewN | refine IsS94.set_1 (f1 := s0_1) ?_ _ | refine IsS94.set_2 (f2 := s0_2) ?_ _) | exact HI0.out), by repeat (first | (with_reducible first | exact HB.out | apply pw_below_drewN | refine below_set ?_ HG.out) | exact HB.out), by repeat (first | (with_reducible first | exact HK.out | apply keep_drewN | refine KeepBut.set_ ?_ _ _) | exact HK.out)⟩
   ·rw [if_neg c4] at h
    simp only [Option.some.injEq, Prod.mk.injEq] at h
    obtain ⟨rfl, rfl, rfl⟩ := h
    by_cases c5 : a1 ≤ 256
    ·have c6 : ¬ (s0_1 + 1) % 2 = 0 := fun z => c4 ⟨c5, z⟩
     have q2 : ((s0_1 + 1) % 2 == 0) = false := beq_eq_false_iff_ne.mpr c6
     clear c6 c4
     go_enter Try.func93, Try.ntmps93
     go_wp2
     repeat (go_quiet (fail); try go_wp2)
     try go_wp2
     go_ret
     refine ⟨rfl, by repeat (first | (with_reducible first | exact HI0.out | apply IsS94.drewN | refine IsS94.set_1 (f1 := s0_1) ?_ _ | refine IsS94.set_2 (f2 := s0_2) ?_ _) | exact HI0.out), by repeat (first | (with_reducible first | exact HB.out | apply pw_below_drewN | refine below_set ?_ HG.out) | exact HB.out), by repeat (first | (with_reducible first | exact HK.out | apply keep_drewN | refine KeepBut.set_ ?_ _ _) | exact HK.out)⟩
    ·have q3 : decide (a1 ≤ 256) = false := decide_eq_false c5
     clear c4
     go_enter Try.func93, Try.ntmps93
     go_wp2
     repeat (go_quiet (fail); try go_wp2)
     try go_wp2
     go_ret
     refine ⟨rfl, by repeat (first | (with_reducible first | exact HI0.out | apply IsS94.drewN | refine IsS94.set_1 (f1 := s0_1) ?_ _ | refine IsS94.set_2 (f2 := s0_2) ?_ _) | exact HI0.out), by repeat (first | (with_reducible first | exact HB.out | apply pw_below_drewN | refine below_set ?_ HG.out) | exact HB.out), by repeat (first | (with_reducible first | exact HK.out | apply keep_drewN | refine KeepBut.set_ ?_ _ _) | exact HK.out)⟩
  ·rw [if_neg c3] at h
   simp only [Option.some.injEq, Prod.mk.injEq] at h
   obtain ⟨rfl, rfl, rfl⟩ := h
   have q1 : decide (s0_1 < (s0_0.length : Int)) = false := decide_eq_false c3
   go_enter Try.func93, Try.ntmps93
   go_wp2
   repeat (go_quiet (fail); try go_wp2)
   try go_wp2
   go_ret
   refine ⟨rfl, by repeat (first | (with_reducible first | exact HI0.out | apply IsS94.drewN | refine IsS94.set_1 (f1 := s0_1) ?_ _ | refine IsS94.set_2 (f2 := s0_2) ?_ _) | exact HI0.out), by repeat (first | (with_reducible first | exact HB.out | apply pw_below_drewN | refine below_set ?_ HG.out) | exact HB.out), by repeat (first | (with_reducible first | exact HK.out | apply keep_drewN | refine KeepBut.set_ ?_ _ _) | exact HK.out)⟩
 ·rw [if_neg c2] at h; cases h

/-! ### spec_l01From: function 59 -/
def spec_l01From.l0 : Nat → List Int → Int → List Int → Int → Int → Option (List Int × Int × Int)
 | 0, _, _, _, _, _ => none
 | k + 1, x0, x4, x775000, x775001, x775002 => if x4 < (x0.length : Int) then (if x4 < 64 then (if 0 ≤ x4 then (spec_l01From.l0 k x0 (wrap64 (x4 + 1)) x775000 x775001 (Int.tmod (wrap64 ((wrap64 (x775002 * 47)) + (wrap64 (rd x0 x4)))) 2147483647)) else (none)) else (some (x775000, x775001, x775002))) else (some (x775000, x775001, x775002))
def spec_l01From.f (k : Nat) (l0 : List Int) : Option (List Int × Int × Int) := spec_l01From.l0 k l0 0 l0 0 61003
theorem spec_l01From.mono_l : ∀ k, (∀ y0 y1 y2 y3 y4, LeO (spec_l01From.l0 k y0 y1 y2 y3 y4) (spec_l01From.l0 (k + 1) y0 y1 y2 y3 y4))
 | 0 => fun _ _ _ _ _ r h => by simp [spec_l01From.l0] at h
 | k + 1 => by
  have ih0 := spec_l01From.mono_l k
  ·intro y0 y1 y2 y3 y4
   unfold spec_l01From.l0
   repeat' first
   | (with_reducible exact ih0 _ _ _ _ _)
   | (with_reducible exact LeO.refl _)
   | (with_reducible exact LeO.none _)
   | (with_reducible refine LeO.ite ?_ ?_)
   | (with_reducible refine LeO.bind ?_ (fun _ => ?_))
   | exact ih0 _ _ _ _ _
   | exact LeO.none _
   | refine LeO.ite ?_ ?_
   | refine LeO.bind ?_ (fun _ => ?_)
theorem spec_l01From.mono : ∀ a0 k, LeO (spec_l01From.f k a0) (spec_l01From.f (k + 1) a0) := by
 intro a0 k
 have ih0 := spec_l01From.mono_l k
 unfold spec_l01From.f
 repeat' first
   | (with_reducible exact ih0 _ _ _ _ _)
   | (with_reducible exact LeO.refl _)
   | (with_reducible exact LeO.none _)
   | (with_reducible refine LeO.ite ?_ ?_)
   | (with_reducible refine LeO.bind ?_ (fun _ => ?_))
   | exact ih0 _ _ _ _ _
   | exact LeO.none _
   | refine LeO.ite ?_ ?_
   | refine LeO.bind ?_ (fun _ => ?_)
def spec_l01From.T5 : Bool × List (List Nat × List Nat) := (true, [([], []), ([], []), ([1], [1]), ([2], [2]), ([3], [3]), ([4], [4]), ([], []), ([], []), ([6, 7], [6, 7]), ([8], [8]), ([9], [9]), ([5, 10], [5, 10]), ([11], [11]), ([0, 0, 1, 2, 3, 4, 5, 6, 7, 8, 9, 10, 11, 12], [0]), ([13, 0, 1, 2, 3, 4, 5, 6, 7, 8, 9, 10, 11, 12], [13]), ([14, 12, 0, 1, 2, 3, 4, 5, 6, 7, 8, 9, 10, 11, 12], [12, 14])])
def spec_l01From.B5 : List Nat := [0, 0, 2, 6, 14, 30, 0, 0, 192, 448, 960, 2046, 4094, 8191, 16383, 32767]
theorem spec_l01From.tab5 : rtab .any (opsOf Try.f59 5) = spec_l01From.T5 := by kernel_rfl
theorem spec_l01From.bits5 : waitsOk spec_l01From.T5.2 spec_l01From.B5 = true := by kernel_rfl
set_option maxHeartbeats 8000000 in
set_option maxRecDepth 100000 in
theorem spec_l01From.calls (k : Nat) (A0 : Option Addr) (c0 : Nat) (l0 : List Int) (r1 : List Int) (r2 : Int) (r3 : Int) (w0 w : World) (hB : Below w0.heap.size w0 w) (hr0 : Kd.C (Kd.int .u8) w0 A0 l0.length l0) (hc0 : l0.length ≤ c0) (h : spec_l01From.f k l0 = some (r1, r2, r3)) :
  Calls Try.prog 59 #[.slice A0 l0.length c0] w fun e w' => ∃ g_ : Nat, e = .returned (.pointer (some ⟨g_, 0, none⟩)) ∧ IsS94 w0 w' g_ r1 r2 r3 ∧ Below w0.heap.size w0 w' ∧ Below w.heap.size w w' := by
 have hu94 := Try.underlying94
 have HR0 := Aside0.mk hr0
 have HC0 := Aside0.mk hc0
 clear hr0 hc0
 have HBW := Aside0.mk (Below.refl w.heap.size w)
 have HW0 := Aside0.mk hB.size
 have HB := Aside0.mk hB
 clear hB
 have H : (spec_l01From.l0 k l0 0 l0 0 61003) = some (r1, r2, r3) := h
 clear h
 have H' := Aside0.mk H
 clear H
 go_enter Try.func59, Try.ntmps59
 go_wp2_with (first | ((with_reducible refine gate_dst (N := 7) rfl ?_); refine box_event ?hg (N := 7) ?hd (cs := #[.slice A0 l0.length c0, .int .i64 0, .int .i64 61003]) (t := 94) ?hr ?_; (case hd => rfl); (case hg => rfl); (case hr => first | (go_simp; done) | (go_simp; rfl)); intro gb774 hg w2 hbox hb; replace HB := Aside0.mk (below_step bB_ hb); have BK774 := Aside0.mk (hbox); have GW774 := Aside0.mk ((by rw [hg]; exact (below_size (by repeat (first | (with_reducible first | exact HBW.out | apply below_alloc | apply pw_below_drewN | apply below_drew1) | exact HBW.out))) : w.heap.size ≤ gb774)); have GE774 := Aside0.mk ((Nat.le_trans HW0.out (by rw [hg]; exact (below_size (by repeat (first | (with_reducible first | exact HBW.out | apply below_alloc | apply pw_below_drewN | apply below_drew1) | exact HBW.out))) : w.heap.size ≤ gb774) : w0.heap.size ≤ gb774)); replace HBW := Aside0.mk (below_step HBW.out hb); clear hb hbox hg))
 go_loopg [4] k (fun kq v4 w' => ∃ (x4_1 : Int) (x775002_1 : Int), v4 = .int .i64 x4_1 ∧ Aside0 (spec_l01From.l0 kq l0 x4_1 l0 0 x775002_1 = some (r1, r2, r3)) ∧ Aside0 (kq ≤ k) ∧ Aside0 (w'.heap[gb774]? = some (.cells #[(.slice A0 l0.length c0), .int .i64 0, .int .i64 x775002_1] 94 (0, 0))) ∧ Aside0 (Below w0.heap.size w0 w') ∧ Aside0 (Below w.heap.size w w'))
 case atStart => exact ⟨(0), (61003), r3_, H', ⟨Nat.le_refl _⟩, ⟨by (with_reducible repeat (first | refine blk_drewN ?_ _ | refine blk_drew ?_ | refine blk_alloc ?_ _)); exact BK774.out⟩, ⟨by repeat (first | (with_reducible first | exact HB.out | apply below_alloc | apply pw_below_drewN | apply below_drew1 | refine below_set ?_ GE774.out) | exact HB.out)⟩, ⟨by repeat (first | (with_reducible first | exact HBW.out | apply below_alloc | apply pw_below_drewN | apply below_drew1 | refine below_set ?_ GW774.out) | exact HBW.out)⟩⟩
 case round =>
  clear H'
  try clear p2
  obtain ⟨x4_1, x775002_1, rfl, HA, HK1, BK774, HB, HBW⟩ := hrel
  cases gk with
  | zero => exact absurd HA.out (by simp [spec_l01From.l0])
  | succ k1 =>
   have H := HA.out
   clear HA
   simp only [spec_l01From.l0] at H
   by_cases c3 : x4_1 < (l0.length : Int)
   ·rw [if_pos c3] at H
    have c3b0 : decide (x4_1 < (l0.length : Int)) = true := decide_eq_true c3
    clear c3
    by_cases c4 : x4_1 < 64
    ·rw [if_pos c4] at H
     have c4b0 : decide (x4_1 < 64) = true := decide_eq_true c4
     clear c4
     by_cases c5 : 0 ≤ x4_1
     ·rw [if_pos c5] at H
      have c5b0 : decide (0 ≤ x4_1) = true := decide_eq_true c5
      clear c5
      have H' := Aside0.mk H
      clear H
      try go_wp2
      replace BK774 := Aside0.mk (blk_drew BK774.out)
      replace HB := Aside0.mk (below_drew1 HB.out)
      replace HBW := Aside0.mk (below_drew1 HBW.out)
      have p775 : 0 ≤ (x4_1 : Int) := of_decide_eq_true aS_
      have q775 : x4_1 < (l0.length : Int) := of_decide_eq_true aS_
      obtain ⟨ad775, e775, hx775_0⟩ := Kd.at_int HR0.out x4_1 p775 q775
      have hw775_0 := hx775_0
      cases e775
      replace hx775_0 := pw_cell_below HB.out hx775_0
      replace p775 := eq_true p775
      replace q775 := eq_true q775
      refine start_ (n := 16) (S := fun w' => w'.cell? ⟨gb774, 0, none⟩ = some (.slice (some ad775) l0.length c0) ∧ w'.cell? ⟨gb774, 1, none⟩ = some (.int .i64 0) ∧ w'.cell? ⟨gb774, 2, none⟩ = some (.int .i64 x775002_1) ∧ w'.cell? (ad775.add (x4_1).toNat) = some (.int .u8 (rd l0 x4_1))) (ds := [15]) #[F, F, F, F, F, F, F, F, F, F, F, F, F, F, F, F] (by kernel_rfl) rfl rfl ⟨(blk_cell BK774.out 0).trans rfl, (blk_cell BK774.out 1).trans rfl, (blk_cell BK774.out 2).trans rfl, ((HB.out.cell (World.block_lt_of_cell? w0 _ hw775_0)).trans hw775_0)⟩ (fun hHeld => ?_); refine with_tabW spec_l01From.tab5 spec_l01From.bits5 (fun HT_ HW_ => ?_)
      generalize wr.drew = w6 at BK774 HB HBW hx775_0 hHeld ⊢
      refine pu_ HT_ 0 (some 18) #[T,F,F,F,F,F,F,F,F,F,F,F,F,F,F,F] ?_
      refine pu_ HT_ 1 (some 19) #[T,T,F,F,F,F,F,F,F,F,F,F,F,F,F,F] ?_
      refine pu_ HT_ 2 (some 20) #[T,T,T,F,F,F,F,F,F,F,F,F,F,F,F,F] ?_
      refine pu_ HT_ 3 (some 21) #[T,T,T,T,F,F,F,F,F,F,F,F,F,F,F,F] ?_
      refine pu_ HT_ 6 (some 24) #[T,T,T,T,F,F,T,F,F,F,F,F,F,F,F,F] ?_
      refine pu_ HT_ 7 (some 25) #[T,T,T,T,F,F,T,T,F,F,F,F,F,F,F,F] ?_
      refine pu_ HT_ 8 (some 26) #[T,T,T,T,F,F,T,T,T,F,F,F,F,F,F,F] ?_
      refine take_ (i := 4) (N := some 22) (v := ?_) (a' := ?_) #[T, T, T, T, T, F, T, T, T, F, F, F, F, F, F, F] rfl rfl (take_ofW HT_.out HW_.out (by kernel_rfl)) (fun _ _ _ h => h) (Or.inl ⟨by rfl, ?_⟩) hHeld ?_ ?_
      rotate_left
      ·rintro w' ⟨s0, s1, s2, s3⟩
       go_simp
       with_reducible rfl
      rotate_left
      ·simp only [Act.put, List.setIfInBounds_toArray, List.set_cons_zero, List.set_cons_succ, i64_w, i32_w]
       rfl
      refine pu_ HT_ 5 (some 23) #[T,T,T,T,T,T,T,T,T,F,F,F,F,F,F,F] ?_
      refine take_ (i := 9) (N := some 27) (v := ?_) (a' := ?_) #[T, T, T, T, T, T, T, T, T, T, F, F, F, F, F, F] rfl rfl (take_ofW HT_.out HW_.out (by kernel_rfl)) (fun _ _ _ h => h) (Or.inl ⟨by rfl, ?_⟩) hHeld ?_ ?_
      rotate_left
      ·rintro w' ⟨s0, s1, s2, s3⟩
       go_simp
       with_reducible rfl
      rotate_left
      ·simp only [Act.put, List.setIfInBounds_toArray, List.set_cons_zero, List.set_cons_succ, i64_w, i32_w]
       rfl
      refine pu_ HT_ 10 (some 28) #[T,T,T,T,T,T,T,T,T,T,T,F,F,F,F,F] ?_
      refine pu_ HT_ 11 (some 29) #[T,T,T,T,T,T,T,T,T,T,T,T,F,F,F,F] ?_
      refine pu_ HT_ 12 (some 30) #[T,T,T,T,T,T,T,T,T,T,T,T,T,F,F,F] ?_
      refine pu_ HT_ 13 (some 31) #[T,T,T,T,T,T,T,T,T,T,T,T,T,T,F,F] ?_
      refine pu_ HT_ 14 (some 32) #[T,T,T,T,T,T,T,T,T,T,T,T,T,T,T,F] ?_
      refine last_ (i := 15) (N := none) #[T, T, T, T, T, T, T, T, T, T, T, T, T, T, T, T] rfl rfl (one_of HT_.out (by kernel_rfl)) (by decide) (fun K hK => ?_)
      have hs7 : w6.cell? ⟨gb774, 2, none⟩ = some (.int .i64 x775002_1) := (blk_cell BK774.out 2).trans rfl
      have hfs7 := blk_frozen BK774.out 2
      refine skip_ (w1 := ?_) (by rfl) rfl ?_ ?_
      rotate_left
      ·go_simp
       rfl
      refine hK.out _ _ ?_
      clear hK K
      refine done_ (done_of HT_.out (by kernel_rfl)) ?_
      try go_wp2
      go_roundg k1
      case measure => have := HK1.out; omega
      case rel => exact ⟨(wrap64 (x4_1 + 1)), (Int.tmod (wrap64 ((wrap64 (x775002_1 * 47)) + (wrap64 (rd l0 x4_1)))) 2147483647), r3_, H', ⟨by have := HK1.out; omega⟩, ⟨by (with_reducible repeat (first | refine blk_drewN ?_ _ | refine blk_drew ?_ | refine blk_alloc ?_ _)); refine blk_put (cs := #[.slice (some ad775) l0.length c0, .int .i64 0, .int .i64 x775002_1]) ?_ 2 _ rfl; (with_reducible repeat (first | refine blk_drewN ?_ _ | refine blk_drew ?_ | refine blk_alloc ?_ _)); exact BK774.out⟩, ⟨by repeat (first | (with_reducible first | exact HB.out | apply below_alloc | apply pw_below_drewN | apply below_drew1 | refine below_set ?_ GE774.out) | exact HB.out)⟩, ⟨by repeat (first | (with_reducible first | exact HBW.out | apply below_alloc | apply pw_below_drewN | apply below_drew1 | refine below_set ?_ GW774.out) | exact HBW.out)⟩⟩
     ·rw [if_neg c5] at H
      exact absurd H (by simp)
    ·rw [if_neg c4] at H
     have c4b0 : decide (x4_1 < 64) = false := decide_eq_false c4
     clear c4
     simp only [Option.some.injEq, Prod.mk.injEq] at H
     obtain ⟨rfl, rfl, rfl⟩ := H
     go_wp2
     go_ret
     exact ⟨_, rfl, (show IsS94 w0 _ gb774 l0 0 x775002_1 from ⟨_, _, by (with_reducible repeat (first | refine blk_drewN ?_ _ | refine blk_drew ?_ | refine blk_alloc ?_ _)); exact BK774.out, GE774.out, HR0.out⟩), by repeat (first | (with_reducible first | exact HB.out | apply below_alloc | apply pw_below_drewN | apply below_drew1 | refine below_set ?_ GE774.out) | exact HB.out), by repeat (first | (with_reducible first | exact HBW.out | apply below_alloc | apply pw_below_drewN | apply below_drew1 | refine below_set ?_ GW774.out) | exact HBW.out)⟩
   ·rw [if_neg c3] at H
    have c3b0 : decide (x4_1 < (l0.length : Int)) = false := decide_eq_false c3
    clear c3
    simp only [Option.some.injEq, Prod.mk.injEq] at H
    obtain ⟨rfl, rfl, rfl⟩ := H
    go_wp2
    go_ret
    exact ⟨_, rfl, (show IsS94 w0 _ gb774 l0 0 x775002_1 from ⟨_, _, by (with_reducible repeat (first | refine blk_drewN ?_ _ | refine blk_drew ?_ | refine blk_alloc ?_ _)); exact BK774.out, GE774.out, HR0.out⟩), by repeat (first | (with_reducible first | exact HB.out | apply below_alloc | apply pw_below_drewN | apply below_drew1 | refine below_set ?_ GE774.out) | exact HB.out), by repeat (first | (with_reducible first | exact HBW.out | apply below_alloc | apply pw_below_drewN | apply below_drew1 | refine below_set ?_ GW774.out) | exact HBW.out)⟩

/-! ### impl_FormsOf: function 23, by hand -/
-- COMMONS none
def impl_FormsOf.f (k : Nat) (l0 : List S55) : Option (List (List S55) × Int) :=
 (impl_shapeCode.f k l0).bind fun t => if t = 0 then ((impl_forms.f k l0 8).bind fun o => (impl_tidyShapes.f k o).bind fun q => some (q, 0)) else some (([] : List (List S55)), t)
theorem impl_FormsOf.mono : ∀ a0 k, LeO (impl_FormsOf.f k a0) (impl_FormsOf.f (k + 1) a0) := by
 intro a0 k
 unfold impl_FormsOf.f
 refine LeO.bind (impl_shapeCode.mono _ _) fun t => LeO.ite (LeO.bind (impl_forms.mono _ _ _) fun _ => LeO.bind (impl_tidyShapes.mono _ _) fun _ => LeO.refl _) (LeO.refl _)
set_option maxHeartbeats 4000000 in
set_option maxRecDepth 100000 in
theorem impl_FormsOf.calls (k : Nat) (A0 : Option Addr) (c0 : Nat) (l0 : List S55) (r1 : List (List S55)) (r2 : Int) (w : World) (hr0 : Kd.C k55 w A0 l0.length l0) (hc0 : l0.length ≤ c0) (h : impl_FormsOf.f k l0 = some (r1, r2)) :
  Calls Try.prog 23 #[.slice A0 l0.length c0] w fun e w' => ∃ v0_ : Value, e = .returned (.tuple #[v0_, .int .i64 r2]) ∧ Kd.S (Kd.slice 55 k55) 27 w' w.heap.size (fun _ => True) v0_ r1 ∧ Below w.heap.size w w' := by
 unfold impl_FormsOf.f at h
 have HR0 := Aside0.mk hr0
 have HC0 := Aside0.mk hc0
 clear hr0 hc0
 obtain ⟨t, ht, h⟩ := Option.bind_eq_some_iff.mp h
 have HT := Aside0.mk ht
 clear ht
 by_cases c : t = 0
 ·rw [if_pos c] at h
  subst c
  obtain ⟨o, ho, h⟩ := Option.bind_eq_some_iff.mp h
  obtain ⟨q, hq, h⟩ := Option.bind_eq_some_iff.mp h
  simp only [Option.some.injEq, Prod.mk.injEq] at h
  obtain ⟨rfl, rfl⟩ := h
  have HO := Aside0.mk ho
  have HQ := Aside0.mk hq
  clear ho hq
  go_enter Try.func23, Try.ntmps23
  go_wp2_with fail
  refine (impl_shapeCode.calls k A0 c0 l0 0 _ HR0.out HC0.out HT.out).mono ?_
  rintro e w1 ⟨rfl, hb⟩
  have HB1 := Aside0.mk hb
  clear hb
  go_wp2_with fail
  refine (impl_forms.calls k A0 c0 l0 8 o _ (Kd.C_below HR0.out HB1.out) HC0.out HO.out).mono ?_
  rintro e w2 ⟨v, rfl, hS, hb⟩
  have HS2 := Aside0.mk (Kd.S_lower hS (below_size HB1.out))
  have HB2 := Aside0.mk (below_step HB1.out hb)
  clear hb hS
  obtain ⟨A, cc, ev⟩ := Kd.S_slice HS2.out
  subst ev
  go_wp2_with fail
  refine (tidy_walk _ o q w w2 HB2.out HS2.out k HQ.out).mono ?_
  rintro e w3 ⟨v3, rfl, hS, hb⟩
  have HS3 := Aside0.mk hS
  have HB3 := Aside0.mk hb
  clear hb hS
  go_wp2_with fail
  go_ret2
  exact ⟨_, rfl, HS3.out, HB3.out⟩
 ·rw [if_neg c] at h
  simp only [Option.some.injEq, Prod.mk.injEq] at h
  obtain ⟨rfl, rfl⟩ := h
  have c3b0 : (t == 0) = false := beq_eq_false_iff_ne.mpr c
  have c3b1 : (t != 0) = true := bne_iff_ne.mpr c
  go_enter Try.func23, Try.ntmps23
  go_wp2_with fail
  refine (impl_shapeCode.calls k A0 c0 l0 t _ HR0.out HC0.out HT.out).mono ?_
  rintro e w1 ⟨rfl, hb⟩
  have HB1 := Aside0.mk hb
  clear hb
  go_wp2_with fail
  go_ret2
  exact ⟨_, rfl, Kd.S_nil _ _ _ _ _, HB1.out⟩

/-! ### laws_likeCells: function 28 -/
def laws_likeCells.l0 : Nat → List (S55) → List (S55) → Int → Option (Bool)
 | 0, _, _, _ => none
 | k + 1, x0, x1, x5 => if x5 < (x0.length : Int) then (if 0 ≤ x5 then (if x5 < (x1.length : Int) then (if (!(((rd_T55 x0 x5).f0) == ((rd_T55 x1 x5).f0)) || (!(((rd_T55 x0 x5).f1) == ((rd_T55 x1 x5).f1)))) = true then (some false) else (laws_likeCells.l0 k x0 x1 (wrap64 (x5 + 1)))) else (none)) else (none)) else (some true)
def laws_likeCells.f (k : Nat) (l0 : List (S55)) (l1 : List (S55)) : Option (Bool) := if (l0.length : Int) = (l1.length : Int) then (laws_likeCells.l0 k l0 l1 0) else (some false)
theorem laws_likeCells.mono_l : ∀ k, (∀ y0 y1 y2, LeO (laws_likeCells.l0 k y0 y1 y2) (laws_likeCells.l0 (k + 1) y0 y1 y2))
 | 0 => fun _ _ _ r h => by simp [laws_likeCells.l0] at h
 | k + 1 => by
  have ih0 := laws_likeCells.mono_l k
  ·intro y0 y1 y2
   unfold laws_likeCells.l0
   repeat' first
   | (with_reducible exact ih0 _ _ _)
   | (with_reducible exact LeO.refl _)
   | (with_reducible exact LeO.none _)
   | (with_reducible refine LeO.ite ?_ ?_)
   | (with_reducible refine LeO.bind ?_ (fun _ => ?_))
   | exact ih0 _ _ _
   | exact LeO.none _
   | refine LeO.ite ?_ ?_
   | refine LeO.bind ?_ (fun _ => ?_)
theorem laws_likeCells.mono : ∀ a0 a1 k, LeO (laws_likeCells.f k a0 a1) (laws_likeCells.f (k + 1) a0 a1) := by
 intro a0 a1 k
 have ih0 := laws_likeCells.mono_l k
 unfold laws_likeCells.f
 repeat' first
   | (with_reducible exact ih0 _ _ _)
   | (with_reducible exact LeO.refl _)
   | (with_reducible exact LeO.none _)
   | (with_reducible refine LeO.ite ?_ ?_)
   | (with_reducible refine LeO.bind ?_ (fun _ => ?_))
   | exact ih0 _ _ _
   | exact LeO.none _
   | refine LeO.ite ?_ ?_
   | refine LeO.bind ?_ (fun _ => ?_)
set_option maxHeartbeats 8000000 in
set_option maxRecDepth 100000 in
theorem laws_likeCells.calls (k : Nat) (A0 : Option Addr) (c0 : Nat) (l0 : List (S55)) (A1 : Option Addr) (c1 : Nat) (l1 : List (S55)) (r : Bool) (w : World) (hr0 : Kd.C k55 w A0 l0.length l0) (hc0 : l0.length ≤ c0) (hr1 : Kd.C k55 w A1 l1.length l1) (hc1 : l1.length ≤ c1) (h : laws_likeCells.f k l0 l1 = some r) :
  Calls Try.prog 28 #[.slice A0 l0.length c0, .slice A1 l1.length c1] w fun e w' => e = .returned (.bool r) ∧ Drawn0 w w' := by
 have hu55 := Try.underlying55
 have HR0 := Aside0.mk hr0
 have HC0 := Aside0.mk hc0
 clear hr0 hc0
 have HR1 := Aside0.mk hr1
 have HC1 := Aside0.mk hc1
 clear hr1 hc1
 have H : (if (l0.length : Int) = (l1.length : Int) then (laws_likeCells.l0 k l0 l1 0) else (some false)) = some r := h
 clear h
 by_cases c3 : (l0.length : Int) = (l1.length : Int)
 ·rw [if_pos c3] at H
  have c3b0 : ((l0.length : Int) == (l1.length : Int)) = true := beq_iff_eq.mpr c3
  have c3b1 : ((l0.length : Int) != (l1.length : Int)) = false := bne_eq_false_iff_eq.mpr c3
  have c3b2 : (l0.length == l1.length) = true := by first | simpa using c3 | (simp at c3 ⊢; omega)
  clear c3
  have H' := Aside0.mk H
  clear H
  go_enter Try.func28, Try.ntmps28
  go_wp2
  repeat (go_quiet (fail); try go_wp2)
  go_loopg [5] k (fun kq v5 w' => ∃ (x5_1 : Int), v5 = .int .i64 x5_1 ∧ Aside0 (laws_likeCells.l0 kq l0 l1 x5_1 = some r) ∧ Aside0 (kq ≤ k) ∧ Drawn0 w w')
  case atStart => exact ⟨(0), r3_, H', ⟨Nat.le_refl _⟩, by repeat (first | exact Drawn0.refl _ | apply Drawn0.step)⟩
  case round =>
   clear H'
   try clear c1
   try clear c2
   try clear p2
   try clear c3
   try clear c3b0
   try clear c3b1
   try clear c3b2
   obtain ⟨x5_1, rfl, HA, HK1, ⟨m1, rfl⟩⟩ := hrel
   cases gk with
   | zero => exact absurd HA.out (by simp [laws_likeCells.l0])
   | succ k1 =>
    have H := HA.out
    clear HA
    simp only [laws_likeCells.l0] at H
    by_cases c4 : x5_1 < (l0.length : Int)
    ·rw [if_pos c4] at H
     have c4b0 : decide (x5_1 < (l0.length : Int)) = true := decide_eq_true c4
     clear c4
     by_cases c5 : 0 ≤ x5_1
     ·rw [if_pos c5] at H
      have c5b0 : decide (0 ≤ x5_1) = true := decide_eq_true c5
      clear c5
      by_cases c6 : x5_1 < (l1.length : Int)
      ·rw [if_pos c6] at H
       have c6b0 : decide (x5_1 < (l1.length : Int)) = true := decide_eq_true c6
       clear c6
       by_cases c7 : (!(((rd_T55 l0 x5_1).f0) == ((rd_T55 l1 x5_1).f0)) || (!(((rd_T55 l0 x5_1).f1) == ((rd_T55 l1 x5_1).f1)))) = true
       ·rw [if_pos c7] at H
        have c7b0 : (!(((rd_T55 l0 x5_1).f0) == ((rd_T55 l1 x5_1).f0)) || (!(((rd_T55 l0 x5_1).f1) == ((rd_T55 l1 x5_1).f1)))) = true := c7
        clear c7
        obtain rfl := Option.some.inj H
        have p822 : 0 ≤ (x5_1 : Int) := of_decide_eq_true aS_
        have q822 : x5_1 < (l0.length : Int) := of_decide_eq_true aS_
        obtain ⟨ad822, e822, hx822_0, hx822_1⟩ := at_T55 HR0.out x5_1 p822 q822
        cases e822
        replace p822 := eq_true p822
        replace q822 := eq_true q822
        have p823 : 0 ≤ (x5_1 : Int) := of_decide_eq_true aS_
        have q823 : x5_1 < (l1.length : Int) := of_decide_eq_true aS_
        obtain ⟨ad823, e823, hx823_0, hx823_1⟩ := at_T55 HR1.out x5_1 p823 q823
        cases e823
        replace p823 := eq_true p823
        replace q823 := eq_true q823
        go_wp2
        repeat (go_quiet (fail); try go_wp2)
        go_ret
        exact ⟨r3_, by repeat (first | exact Drawn0.refl _ | apply Drawn0.step)⟩
       ·rw [if_neg c7] at H
        have c7b0 : (!(((rd_T55 l0 x5_1).f0) == ((rd_T55 l1 x5_1).f0)) || (!(((rd_T55 l0 x5_1).f1) == ((rd_T55 l1 x5_1).f1)))) = false := by simpa using c7
        clear c7
        have H' := Aside0.mk H
        clear H
        have p822 : 0 ≤ (x5_1 : Int) := of_decide_eq_true aS_
        have q822 : x5_1 < (l0.length : Int) := of_decide_eq_true aS_
        obtain ⟨ad822, e822, hx822_0, hx822_1⟩ := at_T55 HR0.out x5_1 p822 q822
        cases e822
        replace p822 := eq_true p822
        replace q822 := eq_true q822
        have p823 : 0 ≤ (x5_1 : Int) := of_decide_eq_true aS_
        have q823 : x5_1 < (l1.length : Int) := of_decide_eq_true aS_
        obtain ⟨ad823, e823, hx823_0, hx823_1⟩ := at_T55 HR1.out x5_1 p823 q823
        cases e823
        replace p823 := eq_true p823
        replace q823 := eq_true q823
        go_wp2
        repeat (go_quiet (fail); try go_wp2)
        go_roundg k1
        case measure => have := HK1.out; omega
        case rel => exact ⟨(wrap64 (x5_1 + 1)), r3_, H', ⟨by have := HK1.out; omega⟩, by repeat (first | exact Drawn0.refl _ | apply Drawn0.step)⟩
      ·rw [if_neg c6] at H
       exact absurd H (by simp)
     ·rw [if_neg c5] at H
      exact absurd H (by simp)
    ·rw [if_neg c4] at H
     have c4b0 : decide (x5_1 < (l0.length : Int)) = false := decide_eq_false c4
     clear c4
     obtain rfl := Option.some.inj H
     go_wp2
     repeat (go_quiet (fail); try go_wp2)
     go_ret
     exact ⟨r3_, by repeat (first | exact Drawn0.refl _ | apply Drawn0.step)⟩
 ·rw [if_neg c3] at H
  have c3b0 : ((l0.length : Int) == (l1.length : Int)) = false := beq_eq_false_iff_ne.mpr c3
  have c3b1 : ((l0.length : Int) != (l1.length : Int)) = true := bne_iff_ne.mpr c3
  have c3b2 : (l0.length == l1.length) = false := by first | simpa using c3 | (simp at c3 ⊢; omega)
  obtain rfl := Option.some.inj H
  go_enter Try.func28, Try.ntmps28
  go_wp2
  repeat (go_quiet (fail); try go_wp2)
  go_ret
  exact ⟨r3_, by repeat (first | exact Drawn0.refl _ | apply Drawn0.step)⟩

/-! ### laws_likeShapes: function 26 -/
def laws_likeShapes.l0 : Nat → List (List (S55)) → List (List (S55)) → Int → Option (Bool)
 | 0, _, _, _ => none
 | k + 1, x0, x1, x5 => if x5 < (x0.length : Int) then (if 0 ≤ x5 then (if x5 < (x1.length : Int) then ((laws_likeCells.f k (rd_L3 x0 x5) (rd_L3 x1 x5)).bind fun t826 => (if t826 = true then (laws_likeShapes.l0 k x0 x1 (wrap64 (x5 + 1))) else (some false))) else (none)) else (none)) else (some true)
def laws_likeShapes.f (k : Nat) (l0 : List (List (S55))) (l1 : List (List (S55))) : Option (Bool) := if (l0.length : Int) = (l1.length : Int) then (laws_likeShapes.l0 k l0 l1 0) else (some false)
theorem laws_likeShapes.mono_l : ∀ k, (∀ y0 y1 y2, LeO (laws_likeShapes.l0 k y0 y1 y2) (laws_likeShapes.l0 (k + 1) y0 y1 y2))
 | 0 => fun _ _ _ r h => by simp [laws_likeShapes.l0] at h
 | k + 1 => by
  have ih0 := laws_likeShapes.mono_l k
  ·intro y0 y1 y2
   unfold laws_likeShapes.l0
   repeat' first
   | (with_reducible exact ih0 _ _ _)
   | (with_reducible exact laws_likeCells.mono _ _ _)
   | (with_reducible exact LeO.refl _)
   | (with_reducible exact LeO.none _)
   | (with_reducible refine LeO.ite ?_ ?_)
   | (with_reducible refine LeO.bind ?_ (fun _ => ?_))
   | exact ih0 _ _ _
   | exact laws_likeCells.mono _ _ _
   | exact LeO.none _
   | refine LeO.ite ?_ ?_
   | refine LeO.bind ?_ (fun _ => ?_)
theorem laws_likeShapes.mono : ∀ a0 a1 k, LeO (laws_likeShapes.f k a0 a1) (laws_likeShapes.f (k + 1) a0 a1) := by
 intro a0 a1 k
 have ih0 := laws_likeShapes.mono_l k
 unfold laws_likeShapes.f
 repeat' first
   | (with_reducible exact ih0 _ _ _)
   | (with_reducible exact laws_likeCells.mono _ _ _)
   | (with_reducible exact LeO.refl _)
   | (with_reducible exact LeO.none _)
   | (with_reducible refine LeO.ite ?_ ?_)
   | (with_reducible refine LeO.bind ?_ (fun _ => ?_))
   | exact ih0 _ _ _
   | exact laws_likeCells.mono _ _ _
   | exact LeO.none _
   | refine LeO.ite ?_ ?_
   | refine LeO.bind ?_ (fun _ => ?_)
set_option maxHeartbeats 8000000 in
set_option maxRecDepth 100000 in
theorem laws_likeShapes.calls (k : Nat) (A0 : Option Addr) (c0 : Nat) (l0 : List (List (S55))) (A1 : Option Addr) (c1 : Nat) (l1 : List (List (S55))) (r : Bool) (w : World) (hr0 : Kd.C (Kd.slice 55 k55) w A0 l0.length l0) (hc0 : l0.length ≤ c0) (hr1 : Kd.C (Kd.slice 55 k55) w A1 l1.length l1) (hc1 : l1.length ≤ c1) (h : laws_likeShapes.f k l0 l1 = some r) :
  Calls Try.prog 26 #[.slice A0 l0.length c0, .slice A1 l1.length c1] w fun e w' => e = .returned (.bool r) ∧ Drawn0 w w' := by
 have HR0 := Aside0.mk hr0
 have HC0 := Aside0.mk hc0
 clear hr0 hc0
 have HR1 := Aside0.mk hr1
 have HC1 := Aside0.mk hc1
 clear hr1 hc1
 have H : (if (l0.length : Int) = (l1.length : Int) then (laws_likeShapes.l0 k l0 l1 0) else (some false)) = some r := h
 clear h
 by_cases c3 : (l0.length : Int) = (l1.length : Int)
 ·rw [if_pos c3] at H
  have c3b0 : ((l0.length : Int) == (l1.length : Int)) = true := beq_iff_eq.mpr c3
  have c3b1 : ((l0.length : Int) != (l1.length : Int)) = false := bne_eq_false_iff_eq.mpr c3
  have c3b2 : (l0.length == l1.length) = true := by first | simpa using c3 | (simp at c3 ⊢; omega)
  clear c3
  have H' := Aside0.mk H
  clear H
  go_enter Try.func26, Try.ntmps26
  go_wp2
  repeat (go_quiet (fail); try go_wp2)
  go_loopg [5] k (fun kq v5 w' => ∃ (x5_1 : Int), v5 = .int .i64 x5_1 ∧ Aside0 (laws_likeShapes.l0 kq l0 l1 x5_1 = some r) ∧ Aside0 (kq ≤ k) ∧ Drawn0 w w')
  case atStart => exact ⟨(0), r3_, H', ⟨Nat.le_refl _⟩, by repeat (first | exact Drawn0.refl _ | apply Drawn0.step)⟩
  case round =>
   clear H'
   try clear c1
   try clear c2
   try clear p2
   try clear c3
   try clear c3b0
   try clear c3b1
   try clear c3b2
   obtain ⟨x5_1, rfl, HA, HK1, ⟨m1, rfl⟩⟩ := hrel
   cases gk with
   | zero => exact absurd HA.out (by simp [laws_likeShapes.l0])
   | succ k1 =>
    have H := HA.out
    clear HA
    simp only [laws_likeShapes.l0] at H
    by_cases c4 : x5_1 < (l0.length : Int)
    ·rw [if_pos c4] at H
     have c4b0 : decide (x5_1 < (l0.length : Int)) = true := decide_eq_true c4
     clear c4
     by_cases c5 : 0 ≤ x5_1
     ·rw [if_pos c5] at H
      have c5b0 : decide (0 ≤ x5_1) = true := decide_eq_true c5
      clear c5
      by_cases c6 : x5_1 < (l1.length : Int)
      ·rw [if_pos c6] at H
       have c6b0 : decide (x5_1 < (l1.length : Int)) = true := decide_eq_true c6
       clear c6
       replace H := Option.bind_eq_some_iff.mp H
       obtain ⟨t826, A70, H⟩ := H
       try dsimp only at H
       have A7 := Aside0.mk A70
       clear A70
       by_cases c8 : t826 = true
       ·subst c8
        have H1 : (laws_likeShapes.l0 k1 l0 l1 (wrap64 (x5_1 + 1))) = some r := by rw [if_pos rfl] at H; exact H
        clear H
        have H := H1
        clear H1
        have H' := Aside0.mk H
        clear H
        have p824 : 0 ≤ (x5_1 : Int) := of_decide_eq_true aS_
        have q824 : x5_1 < (l0.length : Int) := of_decide_eq_true aS_
        obtain ⟨ad824, A824_0, c824_0, e824, hx824_0, hl824_0, hi824_0⟩ := at_L3 HR0.out x5_1 p824 q824
        cases e824
        have HR824_0 := Aside0.mk hi824_0
        have HC824_0 := Aside0.mk hl824_0
        clear hi824_0 hl824_0
        replace p824 := eq_true p824
        replace q824 := eq_true q824
        have p825 : 0 ≤ (x5_1 : Int) := of_decide_eq_true aS_
        have q825 : x5_1 < (l1.length : Int) := of_decide_eq_true aS_
        obtain ⟨ad825, A825_0, c825_0, e825, hx825_0, hl825_0, hi825_0⟩ := at_L3 HR1.out x5_1 p825 q825
        cases e825
        have HR825_0 := Aside0.mk hi825_0
        have HC825_0 := Aside0.mk hl825_0
        clear hi825_0 hl825_0
        replace p825 := eq_true p825
        replace q825 := eq_true q825
        go_wp2_with (first | (go_at_call 28; (with_reducible refine (laws_likeCells.calls k1 _ _ (rd_L3 l0 x5_1) _ _ (rd_L3 l1 x5_1) true _ ?side1 ?side2 ?side3 ?side4 A7.out).mono ?_); (case side1 => exact cS_ HR824_0.out); (case side2 => exact HC824_0.out); (case side3 => exact cS_ HR825_0.out); (case side4 => exact HC825_0.out); rintro e w' ⟨rfl, ⟨nd, rfl⟩⟩; (try first | exact ⟨rfl, _, World.drewN_drewN _ _ _⟩ | exact ⟨rfl, _, Eq.trans (World.drewN_drewN _ _ _) (congrArg (World.drewN _) (Nat.add_assoc _ _ _))⟩)))
        repeat (go_quiet (first | (go_at_call 28; (with_reducible refine (laws_likeCells.calls k1 _ _ (rd_L3 l0 x5_1) _ _ (rd_L3 l1 x5_1) true _ ?side1 ?side2 ?side3 ?side4 A7.out).mono ?_); (case side1 => exact cS_ HR824_0.out); (case side2 => exact HC824_0.out); (case side3 => exact cS_ HR825_0.out); (case side4 => exact HC825_0.out); rintro e w' ⟨rfl, ⟨nd, rfl⟩⟩; (try first | exact ⟨rfl, _, World.drewN_drewN _ _ _⟩ | exact ⟨rfl, _, Eq.trans (World.drewN_drewN _ _ _) (congrArg (World.drewN _) (Nat.add_assoc _ _ _))⟩))); try go_wp2_with (first | (go_at_call 28; (with_reducible refine (laws_likeCells.calls k1 _ _ (rd_L3 l0 x5_1) _ _ (rd_L3 l1 x5_1) true _ ?side1 ?side2 ?side3 ?side4 A7.out).mono ?_); (case side1 => exact cS_ HR824_0.out); (case side2 => exact HC824_0.out); (case side3 => exact cS_ HR825_0.out); (case side4 => exact HC825_0.out); rintro e w' ⟨rfl, ⟨nd, rfl⟩⟩; (try first | exact ⟨rfl, _, World.drewN_drewN _ _ _⟩ | exact ⟨rfl, _, Eq.trans (World.drewN_drewN _ _ _) (congrArg (World.drewN _) (Nat.add_assoc _ _ _))⟩))))
        go_roundg k1
        case measure => have := HK1.out; omega
        case rel => exact ⟨(wrap64 (x5_1 + 1)), r3_, H', ⟨by have := HK1.out; omega⟩, by repeat (first | exact Drawn0.refl _ | apply Drawn0.step)⟩
       ·replace c8 := Bool.eq_false_iff.mpr c8
        subst c8
        have H1 : (some false) = some r := by rw [if_neg (show ¬ (false = true) by decide)] at H; exact H
        clear H
        have H := H1
        clear H1
        obtain rfl := Option.some.inj H
        have p824 : 0 ≤ (x5_1 : Int) := of_decide_eq_true aS_
        have q824 : x5_1 < (l0.length : Int) := of_decide_eq_true aS_
        obtain ⟨ad824, A824_0, c824_0, e824, hx824_0, hl824_0, hi824_0⟩ := at_L3 HR0.out x5_1 p824 q824
        cases e824
        have HR824_0 := Aside0.mk hi824_0
        have HC824_0 := Aside0.mk hl824_0
        clear hi824_0 hl824_0
        replace p824 := eq_true p824
        replace q824 := eq_true q824
        have p825 : 0 ≤ (x5_1 : Int) := of_decide_eq_true aS_
        have q825 : x5_1 < (l1.length : Int) := of_decide_eq_true aS_
        obtain ⟨ad825, A825_0, c825_0, e825, hx825_0, hl825_0, hi825_0⟩ := at_L3 HR1.out x5_1 p825 q825
        cases e825
        have HR825_0 := Aside0.mk hi825_0
        have HC825_0 := Aside0.mk hl825_0
        clear hi825_0 hl825_0
        replace p825 := eq_true p825
        replace q825 := eq_true q825
        go_wp2_with (first | (go_at_call 28; (with_reducible refine (laws_likeCells.calls k1 _ _ (rd_L3 l0 x5_1) _ _ (rd_L3 l1 x5_1) false _ ?side1 ?side2 ?side3 ?side4 A7.out).mono ?_); (case side1 => exact cS_ HR824_0.out); (case side2 => exact HC824_0.out); (case side3 => exact cS_ HR825_0.out); (case side4 => exact HC825_0.out); rintro e w' ⟨rfl, ⟨nd, rfl⟩⟩; (try first | exact ⟨rfl, _, World.drewN_drewN _ _ _⟩ | exact ⟨rfl, _, Eq.trans (World.drewN_drewN _ _ _) (congrArg (World.drewN _) (Nat.add_assoc _ _ _))⟩)))
        repeat (go_quiet (first | (go_at_call 28; (with_reducible refine (laws_likeCells.calls k1 _ _ (rd_L3 l0 x5_1) _ _ (rd_L3 l1 x5_1) false _ ?side1 ?side2 ?side3 ?side4 A7.out).mono ?_); (case side1 => exact cS_ HR824_0.out); (case side2 => exact HC824_0.out); (case side3 => exact cS_ HR825_0.out); (case side4 => exact HC825_0.out); rintro e w' ⟨rfl, ⟨nd, rfl⟩⟩; (try first | exact ⟨rfl, _, World.drewN_drewN _ _ _⟩ | exact ⟨rfl, _, Eq.trans (World.drewN_drewN _ _ _) (congrArg (World.drewN _) (Nat.add_assoc _ _ _))⟩))); try go_wp2_with (first | (go_at_call 28; (with_reducible refine (laws_likeCells.calls k1 _ _ (rd_L3 l0 x5_1) _ _ (rd_L3 l1 x5_1) false _ ?side1 ?side2 ?side3 ?side4 A7.out).mono ?_); (case side1 => exact cS_ HR824_0.out); (case side2 => exact HC824_0.out); (case side3 => exact cS_ HR825_0.out); (case side4 => exact HC825_0.out); rintro e w' ⟨rfl, ⟨nd, rfl⟩⟩; (try first | exact ⟨rfl, _, World.drewN_drewN _ _ _⟩ | exact ⟨rfl, _, Eq.trans (World.drewN_drewN _ _ _) (congrArg (World.drewN _) (Nat.add_assoc _ _ _))⟩))))
        go_ret
        exact ⟨r3_, by repeat (first | exact Drawn0.refl _ | apply Drawn0.step)⟩
      ·rw [if_neg c6] at H
       exact absurd H (by simp)
     ·rw [if_neg c5] at H
      exact absurd H (by simp)
    ·rw [if_neg c4] at H
     have c4b0 : decide (x5_1 < (l0.length : Int)) = false := decide_eq_false c4
     clear c4
     obtain rfl := Option.some.inj H
     go_wp2
     repeat (go_quiet (fail); try go_wp2)
     go_ret
     exact ⟨r3_, by repeat (first | exact Drawn0.refl _ | apply Drawn0.step)⟩
 ·rw [if_neg c3] at H
  have c3b0 : ((l0.length : Int) == (l1.length : Int)) = false := beq_eq_false_iff_ne.mpr c3
  have c3b1 : ((l0.length : Int) != (l1.length : Int)) = true := bne_iff_ne.mpr c3
  have c3b2 : (l0.length == l1.length) = false := by first | simpa using c3 | (simp at c3 ⊢; omega)
  obtain rfl := Option.some.inj H
  go_enter Try.func26, Try.ntmps26
  go_wp2
  repeat (go_quiet (fail); try go_wp2)
  go_ret
  exact ⟨r3_, by repeat (first | exact Drawn0.refl _ | apply Drawn0.step)⟩

end Go.Proofs.Ytbkafaoehheioaa.X
