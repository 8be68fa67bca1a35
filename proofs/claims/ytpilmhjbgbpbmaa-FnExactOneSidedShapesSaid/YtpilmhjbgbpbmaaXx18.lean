-- xprint.py
import Derived.Test.YtpilmhjbgbpbmaaXx0
import Derived.Test.YtpilmhjbgbpbmaaXx8
namespace Go.Proofs.Ytpilmhjbgbpbmaa.X
open Go.RowKit Go.Proofs.YtpilmhjbgbpbmaaW.PrintWords Go.Proofs.YtpilmhjbgbpbmaaW.PrintLast Go.Proofs.YtpilmhjbgbpbmaaW.PrintMore
attribute [local go_sem] max2_int min2_int max_two min_two max_three min_three max_four min_four   -- for this text's walks alone
set_option linter.unusedVariables false
set_option linter.unusedSimpArgs false

/-! ### CommonShapesLeast: function -1, by hand -/
def minF_ (m y : List S42) : List S42 := if cfS_ y m < 0 then y else m
/-- the first least row -/
def minS_ : List (List S42) → List S42
 | [] => []
 | a :: r => r.foldl minF_ a
set_option maxHeartbeats 4000000 in
set_option maxRecDepth 100000 in
theorem min_rows (g cap : Nat) (es : List (Value × List S42)) (w0 w : World) (hB : Below w0.heap.size w0 w) (hown : w.ownsRow w0.heap.size 27 1 (.slice (some ⟨g, 0, none⟩) es.length cap) es.length (es.map Prod.fst)) (hPR : PR_ w w0.heap.size (some g) es) (hn : 0 < es.length) :
  Calls Try.prog 96 #[.slice (some ⟨g, 0, none⟩) es.length cap, .func (.func 97) #[] #[]] w fun e w' => ∃ x ∈ es, e = .returned x.1 ∧ x.2 = minS_ (es.map Prod.snd) ∧ PR_ w' w0.heap.size (some g) es ∧ Below w0.heap.size w0 w' := by
 have hu1 := Try.underlying43
 obtain ⟨ho1, hv⟩ := hown
 rcases hv with ⟨hv, _⟩ | ⟨g', cap', cur, hv, hge, hblk, hcap, hmax, hcur, htake⟩
 ·exact absurd hv (by simp)
 obtain ⟨rfl, rfl⟩ : g' = g ∧ cap' = cap := by
  injection hv with a b c
  injection a with a
  injection a with a
  exact ⟨a.symm, c.symm⟩
 have hlt : g' < w.heap.size := blk_lt hblk
 have hcell : ∀ W, w.grownBy W none → ∀ j, j < es.length → W.cell? ⟨g', j, none⟩ = some (gE_ es j).1 := by
  intro W hW j hj
  have hb := (hW.block g' hlt (by simp)).trans hblk
  refine (blk_cell hb _).trans ?_
  have e := congrArg (fun z => z[j]?) htake
  simp only [List.getElem?_take, Nat.mul_one] at e
  rw [if_pos (by omega), List.getElem?_map, gE_get es j hj, Array.getElem?_toList] at e
  exact e
 have hsl : ∀ x ∈ es, ∃ A n c, x.1 = .slice A n c := fun x hx => by
  obtain ⟨A, c, e⟩ := Kd.R_slice (hPR.own x hx)
  exact ⟨A, _, c, e⟩
 have hcmp : ∀ x ∈ es, ∀ y ∈ es, ∀ W, w.grownBy W none → Calls Try.prog 97 #[x.1, y.1] W fun e w' => e = .returned (.int .i64 (cfS_ x.2 y.2)) ∧ w.grownBy w' none := by
  intro x hx y hy W hW
  obtain ⟨A, c, ex, _, hCx⟩ := Kd.R_reads (Kd.R_step (hPR.own x hx) (fun k hk hlt => hW.block k hlt (by simp)))
  obtain ⟨B, c', ey, _, hCy⟩ := Kd.R_reads (Kd.R_step (hPR.own y hy) (fun k hk hlt => hW.block k hlt (by simp)))
  rw [ex, ey]
  refine (compareShapes_grow A c x.2 B c' y.2 W hCx hCy).mono ?_
  rintro e w' ⟨rfl, q, os, rfl⟩
  refine ⟨rfl, ⟨hW.os, hW.tape, hW.output, ?_, fun k hk hne => ?_⟩⟩
  ·have := hW.size
   unfold Go.Sort.grow; simp only [Array.size_append]; show w.heap.size ≤ W.heap.size + _; omega
  ·rw [Go.Sort.heap_grow_old _ _ (by have := hW.size; show k < W.heap.size; omega)]
   exact hW.block k hk hne
 have HCELL := Aside0.mk hcell
 have HSL := Aside0.mk hsl
 have HCMP := Aside0.mk hcmp
 have HPR := Aside0.mk hPR
 have HB := Aside0.mk hB
 have HG0 : Aside0 (w.grownBy w none) := ⟨⟨rfl, rfl, rfl, Nat.le_refl _, fun _ _ _ => rfl⟩⟩
 have hx0 := hcell w HG0.out 0 hn
 obtain ⟨A0, n0, c0, e0⟩ := hsl _ (gE_mem es 0 hn)
 rw [e0] at hx0
 have HM0 : Aside0 ((Value.slice A0 n0 c0, (gE_ es 0).2) ∈ es) := ⟨by rw [← e0]; exact gE_mem es 0 hn⟩
 have HF0 : Aside0 (((es.map Prod.snd).drop 1).foldl minF_ (gE_ es 0).2 = minS_ (es.map Prod.snd)) := ⟨by
  cases es with
  | nil => simp at hn
  | cons a r => rfl⟩
 have z1 : decide ((es.length : Int) < 1) = false := decide_eq_false (by omega)
 have z2 : decide (es.length < 1) = false := decide_eq_false (by omega)
 have z3 : decide (0 < (es.length : Int)) = true := decide_eq_true (by omega)
 have z4 : decide (0 < es.length) = true := decide_eq_true hn
 have HN := Aside0.mk hn
 simp only [maxLen] at hmax
 clear hcell hsl hcmp hPR hB hblk htake hv ho1 e0
 go_enter Try.func96, Try.ntmps96
 go_wp2_with fail
 go_loopg [5, 6] (es.length - 1) (fun gk v5 v6 wr => ∃ (j : Nat) (A : Option Addr) (n c : Nat) (l : List S42), v5 = .slice A n c ∧ v6 = .int .i64 j ∧ Aside0 ((Value.slice A n c, l) ∈ es) ∧ Aside0 (1 ≤ j ∧ gk + j = es.length) ∧ Aside0 (((es.map Prod.snd).drop j).foldl minF_ l = minS_ (es.map Prod.snd)) ∧ Aside0 (w.grownBy wr none))
 case atStart => exact ⟨1, A0, n0, c0, _, rfl, rfl, HM0, ⟨by have := HN.out; omega⟩, HF0, HG0⟩
 case round =>
  clear HM0 HF0 HG0 hx0 z1 z2 z3 z4
  obtain ⟨j, A, n, c, l, rfl, rfl, HM, HK, HF, HG⟩ := hrel
  cases gk with
  | zero =>
   have hj : j = es.length := by have := HK.out; omega
   have d1 : decide ((j : Int) < (es.length : Int)) = false := decide_eq_false (by omega)
   have d2 : decide (j < es.length) = false := decide_eq_false (by omega)
   have hf := HF.out
   rw [hj, List.drop_of_length_le (by rw [List.length_map]; exact Nat.le_refl _)] at hf
   have HF2 := Aside0.mk hf
   clear hj hf HF
   go_wp2_with fail
   go_ret
   exact ⟨_, HM.out, rfl, HF2.out, ⟨fun e he => Kd.R_step (HPR.out.own e he) (fun k _ hlt => HG.out.block k hlt (by simp)), HPR.out.apart⟩, HB.out.grown HG.out HB.out.size (fun k hk => by cases hk)⟩
  | succ gk2 =>
   have hj : j < es.length := by have := HK.out; omega
   have p1 : 0 ≤ (j : Int) := by omega
   have q1 : (j : Int) < (es.length : Int) := by omega
   have d1 : decide ((j : Int) < (es.length : Int)) = true := decide_eq_true q1
   have d2 : decide (j < es.length) = true := decide_eq_true hj
   have hx := HCELL.out wr HG.out j hj
   obtain ⟨B, n', c', eB⟩ := HSL.out _ (gE_mem es j hj)
   have HJM := Aside0.mk (gE_mem es j hj)
   have hdr : (es.map Prod.snd).drop j = (gE_ es j).2 :: (es.map Prod.snd).drop (j + 1) := by
    have e1 : (es.map Prod.snd)[j]? = some (gE_ es j).2 := by rw [List.getElem?_map, gE_get es j hj]; rfl
    have hj2 : j < (es.map Prod.snd).length := by rw [List.length_map]; exact hj
    rw [List.drop_eq_getElem_cons hj2]
    rw [List.getElem?_eq_getElem hj2] at e1
    rw [Option.some.inj e1]
   have hf := HF.out
   rw [hdr, List.foldl_cons] at hf
   have HF1 := Aside0.mk hf
   have HCJ := Aside0.mk (fun W hW => HCELL.out W hW j hj)
   clear hdr hf HF
   generalize gE_ es j = x at *
   obtain ⟨xv, xl⟩ := x
   try simp only at eB
   subst eB
   try simp only at hx
   have hc := HCMP.out _ HJM.out _ HM.out wr HG.out
   try simp only at hc
   have HC := Aside0.mk hc
   clear hc
   go_wp2_with fail
   refine HC.out.mono ?_
   rintro e w2 ⟨rfl, hg2⟩
   have HG2 := Aside0.mk hg2
   have hx2 := HCJ.out w2 hg2
   try simp only at hx2
   clear hg2 hx HC
   by_cases hlt2 : cfS_ xl l < 0
   ·have c1 : decide (cfS_ xl l < 0) = true := decide_eq_true hlt2
    have hf := HF1.out
    unfold minF_ at hf
    rw [if_pos hlt2] at hf
    have HF2 := Aside0.mk hf
    clear hf hlt2 HF1
    generalize cfS_ xl l = cc at *
    go_wp2_with fail
    go_roundg gk2
    case measure => omega
    case rel => exact ⟨j + 1, B, n', c', xl, rfl, by go_num, HJM, ⟨by have := HK.out; omega⟩, ⟨by first | exact HF2.out | (unfold minF_; exact HF2.out)⟩, HG2⟩
   ·have c1 : decide (cfS_ xl l < 0) = false := decide_eq_false hlt2
    have hf := HF1.out
    unfold minF_ at hf
    rw [if_neg hlt2] at hf
    have HF2 := Aside0.mk hf
    clear hf hlt2 HF1
    generalize cfS_ xl l = cc at *
    go_wp2_with fail
    go_roundg gk2
    case measure => omega
    case rel => exact ⟨j + 1, A, n, c, l, rfl, by go_num, HM, ⟨by have := HK.out; omega⟩, ⟨by first | exact HF2.out | (unfold minF_; exact HF2.out)⟩, HG2⟩

theorem leastOf_walk (u : Value) (o : List (List S42)) (w0 w : World) (hB : Below w0.heap.size w0 w) (hS : Kd.S (Kd.slice 42 k42) 27 w w0.heap.size (fun _ => True) u o) (h0 : 0 < o.length) :
  Calls Try.prog 61 #[u] w fun e w' => ∃ v, e = .returned v ∧ Kd.R k42 42 w' w0.heap.size (fun _ => True) v (minS_ o) ∧ Below w0.heap.size w0 w' := by
 obtain ⟨es, hes, hown, hPR⟩ := S_split hS
 have hlen : es.length = o.length := by rw [← hes, List.length_map]
 obtain ⟨g, cap, hu⟩ : ∃ g cap, u = .slice (some ⟨g, 0, none⟩) es.length cap := by
  rcases hown.2 with ⟨_, hn⟩ | ⟨g, cap, cur, hu, _⟩
  ·omega
  ·exact ⟨g, cap, hu⟩
 subst hu
 have hob : (Value.slice (some ⟨g, 0, none⟩) es.length cap).ownBlock = some g := by simp [Value.ownBlock]
 rw [hob] at hPR
 have HM := Aside0.mk (min_rows g cap es w0 w hB hown hPR (by omega))
 have HES := Aside0.mk hes
 have HSL : Aside0 (∀ x ∈ es, ∃ A n c, x.1 = .slice A n c) := ⟨fun x hx => by
  obtain ⟨A, c, e⟩ := Kd.R_slice (hPR.own x hx)
  exact ⟨A, _, c, e⟩⟩
 clear hS hB hown hPR hes hlen hob h0
 go_enter Try.func61, Try.ntmps61
 go_wp2_with fail
 refine HM.out.mono ?_
 rintro e w' ⟨x, hx, rfl, hm, hP, hb⟩
 obtain ⟨A, n, c, ex⟩ := HSL.out x hx
 have HR := Aside0.mk (Kd.R_mono (hP.own x hx) (fun _ _ => trivial))
 have hm2 := hm
 rw [HES.out] at hm2
 rw [hm2, ex] at HR
 rw [ex]
 have HB2 := Aside0.mk hb
 clear hm hm2 hP hb hx ex
 go_wp2_with fail
 go_ret
 exact ⟨_, rfl, HR.out, HB2.out⟩

end Go.Proofs.Ytpilmhjbgbpbmaa.X
