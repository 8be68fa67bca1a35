-- Written by xprint.py, a program of this session, on the kit's print.py: functions of the seat in one namespace.
import Derived.Test.YtpilmhjbgbpbmaaXx0
import Derived.Test.YtpilmhjbgbpbmaaXx6
import Derived.Test.YtpilmhjbgbpbmaaXx9
namespace Go.Proofs.Ytpilmhjbgbpbmaa.X
open Go.RowKit Go.Proofs.YtpilmhjbgbpbmaaW.PrintWords Go.Proofs.YtpilmhjbgbpbmaaW.PrintLast Go.Proofs.YtpilmhjbgbpbmaaW.PrintMore
attribute [local go_sem] max2_int min2_int max_two min_two max_three min_three max_four min_four   -- for this text's walks alone
set_option linter.unusedVariables false
set_option linter.unusedSimpArgs false

/-! ### CommonShapesLeast: function -1, by hand -/
def minF_ (m y : List S42) : List S42 := if cfS_ y m < 0 then y else m
/-- the first least row -/
def minS_ : List (List S42) → List S42
  | [] => []
  | a :: r => r.foldl minF_ a
set_option maxHeartbeats 4000000 in
set_option maxRecDepth 100000 in
theorem min_rows (g cap : Nat) (es : List (Value × List S42)) (w0 w : World) (hB : Below w0.heap.size w0 w) (hown : w.ownsRow w0.heap.size 27 1 (.slice (some ⟨g, 0, none⟩) es.length cap) es.length (es.map Prod.fst)) (hPR : PR_ w w0.heap.size (some g) es) (hn : 0 < es.length) :
    Calls Try.prog 96 #[.slice (some ⟨g, 0, none⟩) es.length cap, .func (.func 97) #[] #[]] w fun e w' => ∃ x ∈ es, e = .returned x.1 ∧ x.2 = minS_ (es.map Prod.snd) ∧ PR_ w' w0.heap.size (some g) es ∧ Below w0.heap.size w0 w' := by
  have hu1 := Try.underlying43
  obtain ⟨ho1, hv⟩ := hown
  rcases hv with ⟨hv, _⟩ | ⟨g', cap', cur, hv, hge, hblk, hcap, hmax, hcur, htake⟩
  · exact absurd hv (by simp)
  obtain ⟨rfl, rfl⟩ : g' = g ∧ cap' = cap := by
    injection hv with a b c
    injection a with a
    injection a with a
    exact ⟨a.symm, c.symm⟩
  have hlt : g' < w.heap.size := blk_lt hblk
  have hcell : ∀ W, w.grownBy W none → ∀ j, j < es.length → W.cell? ⟨g', j, none⟩ = some (gE_ es j).1 := by
    intro W hW j hj
    have hb := (hW.block g' hlt (by simp)).trans hblk
    refine (blk_cell hb _).trans ?_
    have e := congrArg (fun z => z[j]?) htake
    simp only [List.getElem?_take, Nat.mul_one] at e
    rw [if_pos (by omega), List.getElem?_map, gE_get es j hj, Array.getElem?_toList] at e
    exact e
  have hsl : ∀ x ∈ es, ∃ A n c, x.1 = .slice A n c := fun x hx => by
    obtain ⟨A, c, e⟩ := Kd.R_slice (hPR.own x hx)
    exact ⟨A, _, c, e⟩
  have hcmp : ∀ x ∈ es, ∀ y ∈ es, ∀ W, w.grownBy W none → Calls Try.prog 97 #[x.1, y.1] W fun e w' => e = .returned (.int .i64 (cfS_ x.2 y.2)) ∧ w.grownBy w' none := by
    intro x hx y hy W hW
    obtain ⟨A, c, ex, _, hCx⟩ := Kd.R_reads (Kd.R_step (hPR.own x hx) (fun k hk hlt => hW.block k hlt (by simp)))
    obtain ⟨B, c', ey, _, hCy⟩ := Kd.R_reads (Kd.R_step (hPR.own y hy) (fun k hk hlt => hW.block k hlt (by simp)))
    rw [ex, ey]
    refine (compareShapes_grow A c x.2 B c' y.2 W hCx hCy).mono ?_
    rintro e w' ⟨rfl, q, os, rfl⟩
    refine ⟨rfl, ⟨hW.os, hW.tape, hW.output, ?_, fun k hk hne => ?_⟩⟩
    · have := hW.size
      unfold Go.Sort.grow; simp only [Array.size_append]; show w.heap.size ≤ W.heap.size + _; omega
    · rw [Go.Sort.heap_grow_old _ _ (by have := hW.size; show k < W.heap.size; omega)]
      exact hW.block k hk hne
  have HCELL := Aside0.mk hcell
  have HSL := Aside0.mk hsl
  have HCMP := Aside0.mk hcmp
  have HPR := Aside0.mk hPR
  have HB := Aside0.mk hB
  have HG0 : Aside0 (w.grownBy w none) := ⟨⟨rfl, rfl, rfl, Nat.le_refl _, fun _ _ _ => rfl⟩⟩
  have hx0 := hcell w HG0.out 0 hn
  obtain ⟨A0, n0, c0, e0⟩ := hsl _ (gE_mem es 0 hn)
  rw [e0] at hx0
  have HM0 : Aside0 ((Value.slice A0 n0 c0, (gE_ es 0).2) ∈ es) := ⟨by rw [← e0]; exact gE_mem es 0 hn⟩
  have HF0 : Aside0 (((es.map Prod.snd).drop 1).foldl minF_ (gE_ es 0).2 = minS_ (es.map Prod.snd)) := ⟨by
    cases es with
    | nil => simp at hn
    | cons a r => rfl⟩
  have z1 : decide ((es.length : Int) < 1) = false := decide_eq_false (by omega)
  have z2 : decide (es.length < 1) = false := decide_eq_false (by omega)
  have z3 : decide (0 < (es.length : Int)) = true := decide_eq_true (by omega)
  have z4 : decide (0 < es.length) = true := decide_eq_true hn
  have HN := Aside0.mk hn
  simp only [maxLen] at hmax
  clear hcell hsl hcmp hPR hB hblk htake hv ho1 e0
  go_enter Try.func96, Try.ntmps96
  go_wp2_with fail
  go_loopg [5, 6] (es.length - 1) (fun gk v5 v6 wr => ∃ (j : Nat) (A : Option Addr) (n c : Nat) (l : List S42), v5 = .slice A n c ∧ v6 = .int .i64 j ∧ Aside0 ((Value.slice A n c, l) ∈ es) ∧ Aside0 (1 ≤ j ∧ gk + j = es.length) ∧ Aside0 (((es.map Prod.snd).drop j).foldl minF_ l = minS_ (es.map Prod.snd)) ∧ Aside0 (w.grownBy wr none))
  case atStart => exact ⟨1, A0, n0, c0, _, rfl, rfl, HM0, ⟨by have := HN.out; omega⟩, HF0, HG0⟩
  case round =>
    clear HM0 HF0 HG0 hx0 z1 z2 z3 z4
    obtain ⟨j, A, n, c, l, rfl, rfl, HM, HK, HF, HG⟩ := hrel
    cases gk with
    | zero =>
      have hj : j = es.length := by have := HK.out; omega
      have d1 : decide ((j : Int) < (es.length : Int)) = false := decide_eq_false (by omega)
      have d2 : decide (j < es.length) = false := decide_eq_false (by omega)
      have hf := HF.out
      rw [hj, List.drop_of_length_le (by rw [List.length_map]; exact Nat.le_refl _)] at hf
      have HF2 := Aside0.mk hf
      clear hj hf HF
      go_wp2_with fail
      go_ret
      exact ⟨_, HM.out, rfl, HF2.out, ⟨fun e he => Kd.R_step (HPR.out.own e he) (fun k _ hlt => HG.out.block k hlt (by simp)), HPR.out.apart⟩, HB.out.grown HG.out HB.out.size (fun k hk => by cases hk)⟩
    | succ gk2 =>
      have hj : j < es.length := by have := HK.out; omega
      have p1 : 0 ≤ (j : Int) := by omega
      have q1 : (j : Int) < (es.length : Int) := by omega
      have d1 : decide ((j : Int) < (es.length : Int)) = true := decide_eq_true q1
      have d2 : decide (j < es.length) = true := decide_eq_true hj
      have hx := HCELL.out wr HG.out j hj
      obtain ⟨B, n', c', eB⟩ := HSL.out _ (gE_mem es j hj)
      have HJM := Aside0.mk (gE_mem es j hj)
      have hdr : (es.map Prod.snd).drop j = (gE_ es j).2 :: (es.map Prod.snd).drop (j + 1) := by
        have e1 : (es.map Prod.snd)[j]? = some (gE_ es j).2 := by rw [List.getElem?_map, gE_get es j hj]; rfl
        have hj2 : j < (es.map Prod.snd).length := by rw [List.length_map]; exact hj
        rw [List.drop_eq_getElem_cons hj2]
        rw [List.getElem?_eq_getElem hj2] at e1
        rw [Option.some.inj e1]
      have hf := HF.out
      rw [hdr, List.foldl_cons] at hf
      have HF1 := Aside0.mk hf
      have HCJ := Aside0.mk (fun W hW => HCELL.out W hW j hj)
      clear hdr hf HF
      generalize gE_ es j = x at *
      obtain ⟨xv, xl⟩ := x
      try simp only at eB
      subst eB
      try simp only at hx
      have hc := HCMP.out _ HJM.out _ HM.out wr HG.out
      try simp only at hc
      have HC := Aside0.mk hc
      clear hc
      go_wp2_with fail
      refine HC.out.mono ?_
      rintro e w2 ⟨rfl, hg2⟩
      have HG2 := Aside0.mk hg2
      have hx2 := HCJ.out w2 hg2
      try simp only at hx2
      clear hg2 hx HC
      by_cases hlt2 : cfS_ xl l < 0
      · have c1 : decide (cfS_ xl l < 0) = true := decide_eq_true hlt2
        have hf := HF1.out
        unfold minF_ at hf
        rw [if_pos hlt2] at hf
        have HF2 := Aside0.mk hf
        clear hf hlt2 HF1
        generalize cfS_ xl l = cc at *
        go_wp2_with fail
        go_roundg gk2
        case measure => omega
        case rel => exact ⟨j + 1, B, n', c', xl, rfl, by go_num, HJM, ⟨by have := HK.out; omega⟩, ⟨by first | exact HF2.out | (unfold minF_; exact HF2.out)⟩, HG2⟩
      · have c1 : decide (cfS_ xl l < 0) = false := decide_eq_false hlt2
        have hf := HF1.out
        unfold minF_ at hf
        rw [if_neg hlt2] at hf
        have HF2 := Aside0.mk hf
        clear hf hlt2 HF1
        generalize cfS_ xl l = cc at *
        go_wp2_with fail
        go_roundg gk2
        case measure => omega
        case rel => exact ⟨j + 1, A, n, c, l, rfl, by go_num, HM, ⟨by have := HK.out; omega⟩, ⟨by first | exact HF2.out | (unfold minF_; exact HF2.out)⟩, HG2⟩

theorem leastOf_walk (u : Value) (o : List (List S42)) (w0 w : World) (hB : Below w0.heap.size w0 w) (hS : Kd.S (Kd.slice 42 k42) 27 w w0.heap.size (fun _ => True) u o) (h0 : 0 < o.length) :
    Calls Try.prog 61 #[u] w fun e w' => ∃ v, e = .returned v ∧ Kd.R k42 42 w' w0.heap.size (fun _ => True) v (minS_ o) ∧ Below w0.heap.size w0 w' := by
  obtain ⟨es, hes, hown, hPR⟩ := S_split hS
  have hlen : es.length = o.length := by rw [← hes, List.length_map]
  obtain ⟨g, cap, hu⟩ : ∃ g cap, u = .slice (some ⟨g, 0, none⟩) es.length cap := by
    rcases hown.2 with ⟨_, hn⟩ | ⟨g, cap, cur, hu, _⟩
    · omega
    · exact ⟨g, cap, hu⟩
  subst hu
  have hob : (Value.slice (some ⟨g, 0, none⟩) es.length cap).ownBlock = some g := by simp [Value.ownBlock]
  rw [hob] at hPR
  have HM := Aside0.mk (min_rows g cap es w0 w hB hown hPR (by omega))
  have HES := Aside0.mk hes
  have HSL : Aside0 (∀ x ∈ es, ∃ A n c, x.1 = .slice A n c) := ⟨fun x hx => by
    obtain ⟨A, c, e⟩ := Kd.R_slice (hPR.own x hx)
    exact ⟨A, _, c, e⟩⟩
  clear hS hB hown hPR hes hlen hob h0
  go_enter Try.func61, Try.ntmps61
  go_wp2_with fail
  refine HM.out.mono ?_
  rintro e w' ⟨x, hx, rfl, hm, hP, hb⟩
  obtain ⟨A, n, c, ex⟩ := HSL.out x hx
  have HR := Aside0.mk (Kd.R_mono (hP.own x hx) (fun _ _ => trivial))
  have hm2 := hm
  rw [HES.out] at hm2
  rw [hm2, ex] at HR
  rw [ex]
  have HB2 := Aside0.mk hb
  clear hm hm2 hP hb hx ex
  go_wp2_with fail
  go_ret
  exact ⟨_, rfl, HR.out, HB2.out⟩

/-! ### spec_l03Forms: function 60 -/
def spec_l03Forms.l0 : Nat → List (S42) → Int → List (List (S42)) → Int → Option ((List (List (S42))))
 | 0, _, _, _, _ => none
 | k + 1, x0, x1, x5, x6 => if x6 < x1 then ((spec_l03Form.f k x0 x6).bind fun t479 => ((spec_l03Add.f k x5 t479).bind fun t482 => (spec_l03Forms.l0 k x0 x1 t482 (wrap64 (x6 + 1))))) else (some x5)
def spec_l03Forms.f (k : Nat) (l0 : List (S42)) (a1 : Int) : Option ((List (List (S42)))) := spec_l03Forms.l0 k l0 a1 (([] : List (List (S42)))) 0
theorem spec_l03Forms.mono_l : ∀ k, (∀ y0 y1 y2 y3, LeO (spec_l03Forms.l0 k y0 y1 y2 y3) (spec_l03Forms.l0 (k + 1) y0 y1 y2 y3))
 | 0 => fun _ _ _ _ r h => by simp [spec_l03Forms.l0] at h
 | k + 1 => by
  have ih0 := spec_l03Forms.mono_l k
  ·intro y0 y1 y2 y3
   unfold spec_l03Forms.l0
   repeat' first
   | (with_reducible exact ih0 _ _ _ _)
   | (with_reducible exact spec_l03Add.mono _ _ _)
   | (with_reducible exact spec_l03Form.mono _ _ _)
   | (with_reducible exact LeO.refl _)
   | (with_reducible exact LeO.none _)
   | (with_reducible refine LeO.ite ?_ ?_)
   | (with_reducible refine LeO.bind ?_ (fun _ => ?_))
   | exact ih0 _ _ _ _
   | exact spec_l03Add.mono _ _ _
   | exact spec_l03Form.mono _ _ _
   | exact LeO.none _
   | refine LeO.ite ?_ ?_
   | refine LeO.bind ?_ (fun _ => ?_)
theorem spec_l03Forms.mono : ∀ a0 a1 k, LeO (spec_l03Forms.f k a0 a1) (spec_l03Forms.f (k + 1) a0 a1) := by
 intro a0 a1 k
 have ih0 := spec_l03Forms.mono_l k
 unfold spec_l03Forms.f
 repeat' first
   | (with_reducible exact ih0 _ _ _ _)
   | (with_reducible exact spec_l03Add.mono _ _ _)
   | (with_reducible exact spec_l03Form.mono _ _ _)
   | (with_reducible exact LeO.refl _)
   | (with_reducible exact LeO.none _)
   | (with_reducible refine LeO.ite ?_ ?_)
   | (with_reducible refine LeO.bind ?_ (fun _ => ?_))
   | exact ih0 _ _ _ _
   | exact spec_l03Add.mono _ _ _
   | exact spec_l03Form.mono _ _ _
   | exact LeO.none _
   | refine LeO.ite ?_ ?_
   | refine LeO.bind ?_ (fun _ => ?_)
set_option maxHeartbeats 8000000 in
set_option maxRecDepth 100000 in
theorem spec_l03Forms.calls (k : Nat) (A0 : Option Addr) (c0 : Nat) (l0 : List (S42)) (a1 : Int) (r : List (List (S42))) (w : World) (hr0 : Kd.C k42 w A0 l0.length l0) (hc0 : l0.length ≤ c0) (h : spec_l03Forms.f k l0 a1 = some r) :
  Calls Try.prog 60 #[.slice A0 l0.length c0, .int .i64 a1] w fun e w' => ∃ v0_ : Value, e = .returned (v0_) ∧ Kd.V (Kd.slice 42 k42) 27 w' w.heap.size (fun k_ => (w.heap.size ≤ k_)) v0_ r ∧ Below w.heap.size w w' := by
 have HR0 := Aside0.mk hr0
 have HC0 := Aside0.mk hc0
 clear hr0 hc0
 have HB := Aside0.mk (Below.refl w.heap.size w)
 have H : (spec_l03Forms.l0 k l0 a1 (([] : List (List (S42)))) 0) = some r := h
 clear h
 obtain ⟨y476, hy476⟩ : ∃ y_ : List (List (S42)), y_ = (([] : List (List (S42)))) := ⟨_, rfl⟩
 replace H : (spec_l03Forms.l0 k l0 a1 y476 0) = some r := by first | (rw [hy476]; with_reducible exact H) | (have H2_ := (Option.bind_some _ _).symm.trans H; rw [hy476]; with_reducible exact H2_) | (have H2_ := (Option.bind_some _ _).symm.trans H; with_reducible exact H2_) | with_reducible exact H | (rw [hy476]; exact H) | exact H
 have Ny476 := Aside0.mk hy476
 clear hy476
 have H' := Aside0.mk H
 clear H
 go_enter Try.func60, Try.ntmps60
 go_wp2_with (first | ((with_reducible refine gate_dst (N := 7) rfl ?_); refine Kd.S_lit (Kd.slice 42 k42) _ 27 ?hg (N := 7) ?hd (xs := ([] : List (List (S42)))) (inner := []) (ok := fun _ => True) (okp := fun _ => True) ?hr ?hp (fun _ hk => hk) trivial (Below.refl _ _) (Nat.le_refl _) (by simp) ?_; (case hd => rfl); (case hg => rfl); (case hr => first | (go_simp; done) | (go_simp; rfl)); (case hp => exact (Reps.none _ _)); intro v477 w3 ho4 hb hg_ hnew_; clear hg_ hnew_; (first | rw [← Ny476.out] at ho4 | (simp only [Int.reduceToNat] at ho4; rw [← Ny476.out] at ho4)); have n0_ := Aside0.mk (Kd.S_lower (Kd.S_newM (M := fun k_ => (w.heap.size ≤ k_)) ho4 (below_size (by repeat (first | (with_reducible first | exact HB.out | apply below_alloc | apply pw_below_drewN | apply below_drew1) | exact HB.out))) (fun k_ h_ => h_)) (below_size (by repeat (first | (with_reducible first | exact HB.out | apply below_alloc | apply pw_below_drewN | apply below_drew1) | exact HB.out)))); have n1_ := Aside0.mk (below_step (by repeat (first | (with_reducible first | exact HB.out | apply below_alloc | apply pw_below_drewN | apply below_drew1) | exact HB.out)) hb); clear HB; have HO478 := n0_; have HB := n1_; clear n0_ n1_; clear hb ho4))
 go_loopg [5, 6] k (fun kq v5 v6 w' => ∃ (x5_1 : List (List (S42))) (x6_1 : Int), v6 = .int .i64 x6_1 ∧ Aside0 (spec_l03Forms.l0 kq l0 a1 x5_1 x6_1 = some r) ∧ Aside0 (kq ≤ k) ∧ Aside0 (Kd.V (Kd.slice 42 k42) 27 w' w.heap.size (fun k_ => (w.heap.size ≤ k_)) v5 x5_1) ∧ Aside0 (Below w.heap.size w w'))
 case atStart => exact ⟨(y476), (0), (by first | rfl | (simp; done) | (simp [*]; done)), H', ⟨Nat.le_refl _⟩, ⟨Kd.S_V (by (with_reducible repeat (first | apply Kd.S_alloc | apply Kd.S_drewN | apply Kd.S_drew)); exact Kd.S_mono HO478.out (fun _ hk => hk.1))⟩, ⟨by repeat (first | (with_reducible first | exact HB.out | apply below_alloc | apply pw_below_drewN | apply below_drew1) | exact HB.out)⟩⟩
 case round =>
  clear H'
  try clear p2
  obtain ⟨x5_1, x6_1, rfl, HA, HK1, HO_5, HB⟩ := hrel
  cases gk with
  | zero => exact absurd HA.out (by simp [spec_l03Forms.l0])
  | succ k1 =>
   have H := HA.out
   clear HA
   simp only [spec_l03Forms.l0] at H
   by_cases c5 : x6_1 < a1
   ·rw [if_pos c5] at H
    have c5b0 : decide (x6_1 < a1) = true := decide_eq_true c5
    clear c5
    replace H := Option.bind_eq_some_iff.mp H
    obtain ⟨t479, A60, H⟩ := H
    replace H : ((spec_l03Add.f k1 x5_1 t479).bind fun t482 => (spec_l03Forms.l0 k1 l0 a1 t482 (wrap64 (x6_1 + 1)))) = some r := H
    have A6 := Aside0.mk A60
    clear A60
    replace H := Option.bind_eq_some_iff.mp H
    obtain ⟨t482, A70, H⟩ := H
    replace H : (spec_l03Forms.l0 k1 l0 a1 t482 (wrap64 (x6_1 + 1))) = some r := H
    have A7 := Aside0.mk A70
    clear A70
    have H' := Aside0.mk H
    clear H
    go_wp2_with (first | ((with_reducible refine gate_callee (f := 55) rfl ?_); refine goesL_ (some 16) rfl rfl Try.func55 (by kernel_rfl) rfl #[.slice A0 l0.length c0, .int .i64 x6_1] rfl (by (try simp only [List.map_toArray, List.map_cons, List.map_nil]); first | done | rfl | (simp only [List.length_drop, List.length_take]; rfl)) ?_; (with_reducible refine (spec_l03Form.calls k1 _ _ l0 x6_1 t479 _ ?side1 ?side2 A6.out).mono ?_); (case side1 => repeat (first | exact (Kd.C_below HR0.out HB.out) | (with_reducible refine Kd.C_alloc ?_ _) | (with_reducible refine Kd.C_drewN ?_ _) | (with_reducible refine Kd.C_drew ?_))); (case side2 => exact HC0.out); rintro e w8 ⟨v480, rfl, ho0, hb⟩; refine ⟨_, rfl, ?_⟩; have n0_ := Aside0.mk (Kd.V_elder' (by (with_reducible repeat (first | apply Kd.V_alloc | apply Kd.V_drewN | apply Kd.V_drew)); exact HO_5.out) (Kd.R_base ho0) hb); have n1_ := Aside0.mk (Kd.R_lower (Kd.R_newM (M := fun k_ => (w.heap.size ≤ k_)) ho0 (below_size (by repeat (first | (with_reducible first | exact HB.out | apply below_alloc | apply pw_below_drewN | apply below_drew1) | exact HB.out))) (fun k_ h_ => h_)) (below_size (by repeat (first | (with_reducible first | exact HB.out | apply below_alloc | apply pw_below_drewN | apply below_drew1) | exact HB.out)))); have n2_ := Aside0.mk (below_step (by repeat (first | (with_reducible first | exact HB.out | apply below_alloc | apply pw_below_drewN | apply below_drew1) | exact HB.out)) hb); clear HO_5; clear HB; have HO_5 := n0_; have HO481 := n1_; have HB := n2_; clear n0_ n1_ n2_; (try clear hb); (try clear hb2); (try clear hk); (try clear hi); (try clear ho0); obtain ⟨Ao9, co9, eo9⟩ := Kd.V_slice HO_5.out; subst eo9; obtain ⟨Ao10, co10, eo10⟩ := Kd.R_slice HO481.out; subst eo10) | ((with_reducible refine gate_callee (f := 85) rfl ?_); refine goesL_ (some 17) rfl rfl Try.func85 (by kernel_rfl) rfl #[.slice Ao9 x5_1.length co9, .slice Ao10 t479.length co10] rfl (by (try simp only [List.map_toArray, List.map_cons, List.map_nil]); first | done | rfl | (simp only [List.length_drop, List.length_take]; rfl)) ?_; (with_reducible refine (spec_l03Add.calls k1 (fun k_ => ((w.heap.size ≤ k_) ∧ some k_ ≠ (.slice Ao10 t479.length co10 : Value).ownBlock)) _ _ x5_1 (fun k_ => some k_ = (.slice Ao10 t479.length co10 : Value).ownBlock) _ _ t479 t482 _ ?side1 ?side2 A7.out).mono ?_); (case side1 => exact HO_5.out); (case side2 => exact Kd.R_V (Kd.R_tight rfl (HO481.out))); rintro e w11 ⟨v483, rfl, ho0, hb⟩; refine ⟨_, rfl, ?_⟩; have n0_ := Aside0.mk (Kd.V_below (by (with_reducible repeat (first | apply Kd.V_alloc | apply Kd.V_drewN | apply Kd.V_drew)); exact HO_5.out) hb); have n1_ := Aside0.mk (Kd.R_below (by (with_reducible repeat (first | apply Kd.R_alloc | apply Kd.R_drewN | apply Kd.R_drew)); exact HO481.out) hb); have n2_ := Aside0.mk (Kd.V_lower (Kd.V_mono (ok' := fun k_ => (w.heap.size ≤ k_)) ho0 (fun k_ hk_ => Or.elim hk_ (fun hs_ => Or.elim hs_ (fun hs_ => hs_.1) (fun hs_ => ((HO481.out).1 k_ hs_.symm).1)) (fun hn_ => (Nat.le_trans (below_size (by repeat (first | (with_reducible first | exact HB.out | apply below_alloc | apply pw_below_drewN | apply below_drew1) | exact HB.out))) hn_)))) (below_size (by repeat (first | (with_reducible first | exact HB.out | apply below_alloc | apply pw_below_drewN | apply below_drew1) | exact HB.out)))); have n3_ := Aside0.mk (below_step (by repeat (first | (with_reducible first | exact HB.out | apply below_alloc | apply pw_below_drewN | apply below_drew1) | exact HB.out)) hb); clear HO_5; clear HO481; clear HB; have HO_5 := n0_; have HO481 := n1_; have HO484 := n2_; have HB := n3_; clear n0_ n1_ n2_ n3_; (try clear hb); (try clear hb2); (try clear hk); (try clear hi); (try clear ho0)))
    go_roundg k1
    case measure => have := HK1.out; omega
    case rel => exact ⟨(t482), (wrap64 (x6_1 + 1)), (by first | rfl | (simp; done) | (simp [*]; done)), H', ⟨by have := HK1.out; omega⟩, ⟨by (with_reducible repeat (first | apply Kd.V_alloc | apply Kd.V_drewN | apply Kd.V_drew)); exact HO484.out⟩, ⟨by repeat (first | (with_reducible first | exact HB.out | apply below_alloc | apply pw_below_drewN | apply below_drew1) | exact HB.out)⟩⟩
   ·rw [if_neg c5] at H
    have c5b0 : decide (x6_1 < a1) = false := decide_eq_false c5
    clear c5
    obtain rfl := Option.some.inj H
    go_wp2
    go_ret
    exact ⟨_, by first | rfl | (simp [errW_none, errW_some] <;> rfl) | (simp [*, errW_none, errW_some] <;> rfl), by (with_reducible repeat (first | apply Kd.V_alloc | apply Kd.V_drewN | apply Kd.V_drew)); exact HO_5.out, by repeat (first | (with_reducible first | exact HB.out | apply below_alloc | apply pw_below_drewN | apply below_drew1) | exact HB.out)⟩

/-! ### laws_heldCellS: function 24 -/
def laws_heldCellS.l0 : Nat → List (S42) → Int → Int → Option (Int)
 | 0, _, _, _ => none
 | k + 1, x0, x1, x5 => if x5 < (x0.length : Int) then (if 0 ≤ x5 then (if ((rd_T42 x0 x5).f0) = x1 then (if ((rd_T42 x0 x5).f1) = (wrap64 (x1 + 1)) then (laws_heldCellS.l0 k x0 (wrap64 ((wrap64 (x1 + 1)) + 1)) (wrap64 (x5 + 1))) else (some (-1))) else (some (-1))) else (none)) else (some x1)
def laws_heldCellS.f (k : Nat) (l0 : List (S42)) (a1 : Int) : Option (Int) := laws_heldCellS.l0 k l0 a1 0
theorem laws_heldCellS.mono_l : ∀ k, (∀ y0 y1 y2, LeO (laws_heldCellS.l0 k y0 y1 y2) (laws_heldCellS.l0 (k + 1) y0 y1 y2))
 | 0 => fun _ _ _ r h => by simp [laws_heldCellS.l0] at h
 | k + 1 => by
  have ih0 := laws_heldCellS.mono_l k
  ·intro y0 y1 y2
   unfold laws_heldCellS.l0
   repeat' first
   | (with_reducible exact ih0 _ _ _)
   | (with_reducible exact LeO.refl _)
   | (with_reducible exact LeO.none _)
   | (with_reducible refine LeO.ite ?_ ?_)
   | (with_reducible refine LeO.bind ?_ (fun _ => ?_))
   | exact ih0 _ _ _
   | exact LeO.none _
   | refine LeO.ite ?_ ?_
   | refine LeO.bind ?_ (fun _ => ?_)
theorem laws_heldCellS.mono : ∀ a0 a1 k, LeO (laws_heldCellS.f k a0 a1) (laws_heldCellS.f (k + 1) a0 a1) := by
 intro a0 a1 k
 have ih0 := laws_heldCellS.mono_l k
 unfold laws_heldCellS.f
 repeat' first
   | (with_reducible exact ih0 _ _ _)
   | (with_reducible exact LeO.refl _)
   | (with_reducible exact LeO.none _)
   | (with_reducible refine LeO.ite ?_ ?_)
   | (with_reducible refine LeO.bind ?_ (fun _ => ?_))
   | exact ih0 _ _ _
   | exact LeO.none _
   | refine LeO.ite ?_ ?_
   | refine LeO.bind ?_ (fun _ => ?_)
set_option maxHeartbeats 8000000 in
set_option maxRecDepth 100000 in
theorem laws_heldCellS.calls (k : Nat) (A0 : Option Addr) (c0 : Nat) (l0 : List (S42)) (a1 : Int) (r : Int) (w : World) (hr0 : Kd.C k42 w A0 l0.length l0) (hc0 : l0.length ≤ c0) (h : laws_heldCellS.f k l0 a1 = some r) :
  Calls Try.prog 24 #[.slice A0 l0.length c0, .int .i64 a1] w fun e w' => e = .returned (.int .i64 r) ∧ Drawn0 w w' := by
 have HR0 := Aside0.mk hr0
 have HC0 := Aside0.mk hc0
 clear hr0 hc0
 have H : (laws_heldCellS.l0 k l0 a1 0) = some r := h
 clear h
 have H' := Aside0.mk H
 clear H
 go_enter Try.func24, Try.ntmps24
 go_wp2
 go_loopg [1, 5] k (fun kq v1 v5 w' => ∃ (x1_1 : Int) (x5_1 : Int), v1 = .int .i64 x1_1 ∧ v5 = .int .i64 x5_1 ∧ Aside0 (laws_heldCellS.l0 kq l0 x1_1 x5_1 = some r) ∧ Aside0 (kq ≤ k) ∧ Drawn0 w w')
 case atStart => exact ⟨(a1), (0), (by first | rfl | (simp; done) | (simp [*]; done)), (by first | rfl | (simp; done) | (simp [*]; done)), H', ⟨Nat.le_refl _⟩, by repeat (first | exact Drawn0.refl _ | apply Drawn0.step)⟩
 case round =>
  clear H'
  try clear c2
  try clear p2
  obtain ⟨x1_1, x5_1, rfl, rfl, HA, HK1, ⟨m1, rfl⟩⟩ := hrel
  cases gk with
  | zero => exact absurd HA.out (by simp [laws_heldCellS.l0])
  | succ k1 =>
   have H := HA.out
   clear HA
   simp only [laws_heldCellS.l0] at H
   by_cases c3 : x5_1 < (l0.length : Int)
   ·rw [if_pos c3] at H
    have c3b0 : decide (x5_1 < (l0.length : Int)) = true := decide_eq_true c3
    clear c3
    by_cases c4 : 0 ≤ x5_1
    ·rw [if_pos c4] at H
     have c4b0 : decide (0 ≤ x5_1) = true := decide_eq_true c4
     clear c4
     by_cases c5 : ((rd_T42 l0 x5_1).f0) = x1_1
     ·rw [if_pos c5] at H
      have c5b0 : (((rd_T42 l0 x5_1).f0) == x1_1) = true := beq_iff_eq.mpr c5
      have c5b1 : (((rd_T42 l0 x5_1).f0) != x1_1) = false := bne_eq_false_iff_eq.mpr c5
      clear c5
      by_cases c6 : ((rd_T42 l0 x5_1).f1) = (wrap64 (x1_1 + 1))
      ·rw [if_pos c6] at H
       have c6b0 : (((rd_T42 l0 x5_1).f1) == (wrap64 (x1_1 + 1))) = true := beq_iff_eq.mpr c6
       have c6b1 : (((rd_T42 l0 x5_1).f1) != (wrap64 (x1_1 + 1))) = false := bne_eq_false_iff_eq.mpr c6
       clear c6
       have H' := Aside0.mk H
       clear H
       have p512 : 0 ≤ (x5_1 : Int) := of_decide_eq_true (by first | (with_reducible assumption) | assumption)
       have q512 : x5_1 < (l0.length : Int) := of_decide_eq_true (by first | (with_reducible assumption) | assumption)
       obtain ⟨ad512, e512, hx512_0, hx512_1⟩ := at_T42 HR0.out x5_1 p512 q512
       cases e512
       replace p512 := eq_true p512
       replace q512 := eq_true q512
       have p513 : 0 ≤ (x5_1 : Int) := of_decide_eq_true (by first | (with_reducible assumption) | assumption)
       have q513 : x5_1 < (l0.length : Int) := of_decide_eq_true (by first | (with_reducible assumption) | assumption)
       obtain ⟨ad513, e513, hx513_0, hx513_1⟩ := at_T42 HR0.out x5_1 p513 q513
       obtain rfl : ad512 = ad513 := (by injection e513)
       replace p513 := eq_true p513
       replace q513 := eq_true q513
       go_wp2
       go_roundg k1
       case measure => have := HK1.out; omega
       case rel => exact ⟨(wrap64 ((wrap64 (x1_1 + 1)) + 1)), (wrap64 (x5_1 + 1)), (by first | rfl | (simp; done) | (simp [*]; done)), (by first | rfl | (simp; done) | (simp [*]; done)), H', ⟨by have := HK1.out; omega⟩, by repeat (first | exact Drawn0.refl _ | apply Drawn0.step)⟩
      ·rw [if_neg c6] at H
       have c6b0 : (((rd_T42 l0 x5_1).f1) == (wrap64 (x1_1 + 1))) = false := beq_eq_false_iff_ne.mpr c6
       have c6b1 : (((rd_T42 l0 x5_1).f1) != (wrap64 (x1_1 + 1))) = true := bne_iff_ne.mpr c6
       obtain rfl := Option.some.inj H
       have p512 : 0 ≤ (x5_1 : Int) := of_decide_eq_true (by first | (with_reducible assumption) | assumption)
       have q512 : x5_1 < (l0.length : Int) := of_decide_eq_true (by first | (with_reducible assumption) | assumption)
       obtain ⟨ad512, e512, hx512_0, hx512_1⟩ := at_T42 HR0.out x5_1 p512 q512
       cases e512
       replace p512 := eq_true p512
       replace q512 := eq_true q512
       have p513 : 0 ≤ (x5_1 : Int) := of_decide_eq_true (by first | (with_reducible assumption) | assumption)
       have q513 : x5_1 < (l0.length : Int) := of_decide_eq_true (by first | (with_reducible assumption) | assumption)
       obtain ⟨ad513, e513, hx513_0, hx513_1⟩ := at_T42 HR0.out x5_1 p513 q513
       obtain rfl : ad512 = ad513 := (by injection e513)
       replace p513 := eq_true p513
       replace q513 := eq_true q513
       go_wp2
       go_ret
       exact ⟨by first | rfl | (simp; done) | (simp [*]; done), by repeat (first | exact Drawn0.refl _ | apply Drawn0.step)⟩
     ·rw [if_neg c5] at H
      have c5b0 : (((rd_T42 l0 x5_1).f0) == x1_1) = false := beq_eq_false_iff_ne.mpr c5
      have c5b1 : (((rd_T42 l0 x5_1).f0) != x1_1) = true := bne_iff_ne.mpr c5
      obtain rfl := Option.some.inj H
      have p512 : 0 ≤ (x5_1 : Int) := of_decide_eq_true (by first | (with_reducible assumption) | assumption)
      have q512 : x5_1 < (l0.length : Int) := of_decide_eq_true (by first | (with_reducible assumption) | assumption)
      obtain ⟨ad512, e512, hx512_0, hx512_1⟩ := at_T42 HR0.out x5_1 p512 q512
      cases e512
      replace p512 := eq_true p512
      replace q512 := eq_true q512
      go_wp2
      go_ret
      exact ⟨by first | rfl | (simp; done) | (simp [*]; done), by repeat (first | exact Drawn0.refl _ | apply Drawn0.step)⟩
    ·rw [if_neg c4] at H
     exact absurd H (by simp)
   ·rw [if_neg c3] at H
    have c3b0 : decide (x5_1 < (l0.length : Int)) = false := decide_eq_false c3
    clear c3
    obtain rfl := Option.some.inj H
    go_wp2
    go_ret
    exact ⟨by first | rfl | (simp; done) | (simp [*]; done), by repeat (first | exact Drawn0.refl _ | apply Drawn0.step)⟩

end Go.Proofs.Ytpilmhjbgbpbmaa.X
