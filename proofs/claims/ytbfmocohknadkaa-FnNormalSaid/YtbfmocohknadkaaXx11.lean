-- xprint.py
import Derived.Lib.SliceRun
import Derived.Lib.Walk
import Derived.Test.YtbfmocohknadkaaXx0
import Derived.Test.YtbfmocohknadkaaXx9
namespace Go.Proofs.Ytbfmocohknadkaa.X
open Go.RowKit Go.Proofs.YtbfmocohknadkaaW.PrintWords Go.Proofs.YtbfmocohknadkaaW.PrintLast Go.Proofs.YtbfmocohknadkaaW.PrintMore
attribute [local go_sem] max2_int min2_int max_two min_two max_three min_three max_four min_four   -- for this text's walks alone
set_option linter.unusedVariables false
set_option linter.unusedSimpArgs false

/-! ### slices_Clone_Cell: function 116, by hand -/
-- IMPORT Derived.Lib.SliceRun
-- IMPORT Derived.Lib.Walk
def slices_Clone_Cell.f (l0 : List S57) : Option (List S57) := if l0.length ≤ 8796093022208 then some l0 else none
set_option maxHeartbeats 2000000 in
set_option maxRecDepth 100000 in
theorem slices_Clone_Cell.calls (A0 : Option Addr) (c0 : Nat) (l0 : List S57) (r : List S57) (w : World) (hr0 : Kd.C k57 w A0 l0.length l0) (hc0 : l0.length ≤ c0) (h : slices_Clone_Cell.f l0 = some r) :
  Calls Try.prog 116 #[.slice A0 l0.length c0] w fun e w' => ∃ v0_ : Value, e = .returned (v0_) ∧ Kd.R k57 57 w' w.heap.size (fun _ => True) v0_ r ∧ Below w.heap.size w w' := by
 have hu1 := Try.underlying30
 have q1 : ∀ (w : World) (a : Option Addr) (n c n' c' : Nat), (binOp .eql 30 (.slice a n c) (.slice none n' c')).run Try.prog w = .ok (.bool a.isNone) w := fun w a n c n' c' => Lib.run_eql_slice_nil w _ _ a n c n' c' Try.underlying30
 unfold slices_Clone_Cell.f at h
 by_cases hb : l0.length ≤ 8796093022208
 ·rw [if_pos hb] at h
  obtain rfl := Option.some.inj h
  cases A0 with
  | none =>
   have hl : l0 = [] := by
    rcases Nat.eq_zero_or_pos l0.length with e | e
    ·exact List.length_eq_zero_iff.1 e
    ·obtain ⟨ad, e1, _⟩ := hr0.2.2 e; exact absurd e1 (by simp)
   subst hl
   go_enter Try.func116, Try.ntmps116
   go_wp2
   go_ret
   exact ⟨_, rfl, Kd.R_nil _ _ _ _ _, Below.refl _ _⟩
  | some ad =>
   obtain ⟨i0, hi, hz⟩ := Option.map_eq_some_iff.1 info57
   simp only [Prod.mk.injEq] at hz
   obtain ⟨hz0, hz1, hz2⟩ := hz
   have hcell : ∀ j u, (flatC_ l0)[j]? = some u → w.cell? (ad.add j) = some u := by
    intro j u hj
    have hlt : j < l0.length * 2 := by rw [← flatC_length]; exact (List.getElem?_eq_some_iff.1 hj).1
    obtain ⟨ad', e1, hc⟩ := hr0.2.2 (by omega)
    cases e1
    have hx : l0[j / 2]? = some (l0[j / 2]'(by omega)) := List.getElem?_eq_getElem (by omega)
    obtain ⟨c, hcl, hR, hcc⟩ := hc (j / 2) _ hx
    have e := kC_M_inv (w := w) (base := 0) (ok := fun _ => True) (x := l0[j / 2]'(by omega)) (cs := c) hR
    obtain ⟨g0, g1⟩ := flatC_get l0 (j / 2) _ hx
    have h2 : j % 2 = 0 ∨ j % 2 = 1 := by omega
    have ej : j = j / 2 * 2 + j % 2 := by omega
    have hs : k57.sz = 2 := rfl
    rw [hs] at hcc
    rcases h2 with h2 | h2
    ·have : j = 2 * (j / 2) := by omega
     rw [this, g0] at hj
     rw [ej, h2]
     exact (hcc 0 _ (by rw [e]; rfl)).trans hj
    ·have : j = 2 * (j / 2) + 1 := by omega
     rw [this, g1] at hj
     rw [ej, h2]
     exact (hcc 1 _ (by rw [e]; rfl)).trans hj
   have HCL := Aside0.mk hcell
   clear hcell
   have hmax : l0.length ≤ maxLen := by simp only [maxLen]; omega
   go_enter Try.func116, Try.ntmps116
   go_wp2_with (at_builtin; refine wpList_append_own _ rfl _ _ 30 rfl w.heap.size 57 i0 (.agg #[(.int .i64 0), (.int .i64 0)]) 2 16 hu1 hi hz0 hz1 hz2 rfl (by omega) _ _ _ rfl (World.ownsRow_made w #[] 0 (Nat.le_refl _) (Nat.zero_le _) (by simp)) ad l0.length c0 (flatC_ l0) rfl ?qc1 ?qc2 ?qc3 ?qc4 ?qc5 ?qc6 ?_)
   case qc1 => exact flatC_length l0
   case qc2 =>
    intro j u hj
    exact Lib.cell?_alloc_some _ (HCL.out j u hj)
   case qc3 => exact flatC_one l0
   case qc5 => omega
   intro v' w1 hown hgrow hnil
   go_wp2
   go_ret
   refine ⟨v', rfl, ownC_R (by simpa using hown) (fun _ _ => trivial), ?_⟩
   exact ((Below.refl _ w).alloc (Nat.le_refl _) _).grown hgrow (by simp) (by intro k hk; simp [Value.ownBlock] at hk; omega)
 ·rw [if_neg hb] at h; exact absurd h (by simp)

/-! ### impl_sorted: function 87 -/
def impl_sorted.f (l0 : List (S57)) : Option ((List (S57))) := (slices_Clone_Cell.f l0).bind fun t760 => ((slices_SortFunc_Cell.f t760).bind fun t763 => (some t763))
set_option maxHeartbeats 8000000 in
set_option maxRecDepth 100000 in
theorem impl_sorted.calls (A0 : Option Addr) (c0 : Nat) (l0 : List (S57)) (r : List (S57)) (w : World) (hr0 : Kd.C k57 w A0 l0.length l0) (hc0 : l0.length ≤ c0) (h : impl_sorted.f l0 = some r) :
  Calls Try.prog 87 #[.slice A0 l0.length c0] w fun e w' => ∃ v0_ : Value, e = .returned (v0_) ∧ Kd.R k57 57 w' w.heap.size (fun _ => True) v0_ r ∧ Below w.heap.size w w' := by
 have HR0 := Aside0.mk hr0
 have HC0 := Aside0.mk hc0
 clear hr0 hc0
 have HB := Aside0.mk (Below.refl w.heap.size w)
 have H : ((slices_Clone_Cell.f l0).bind fun t760 => ((slices_SortFunc_Cell.f t760).bind fun t763 => (some t763))) = some r := h
 clear h
 replace H := Option.bind_eq_some_iff.mp H
 obtain ⟨t760, A20, H⟩ := H
 try dsimp only at H
 have A2 := Aside0.mk A20
 clear A20
 replace H := Option.bind_eq_some_iff.mp H
 obtain ⟨t763, A30, H⟩ := H
 try dsimp only at H
 have A3 := Aside0.mk A30
 clear A30
 obtain rfl := Option.some.inj H
 go_enter Try.func87, Try.ntmps87
 go_wp2_with (first | ((with_reducible refine gate_callee (f := 116) rfl ?_); refine gL_ (some 5) Try.func116 #[.slice A0 l0.length c0] ?_; (with_reducible refine (slices_Clone_Cell.calls _ _ l0 t760 _ ?side1 ?side2 A2.out).mono ?_); (case side1 => exact cS_ HR0.out); (case side2 => exact HC0.out); rintro e w4 ⟨v761, rfl, ho0, hb⟩; refine ⟨_, rfl, ?_⟩; have HO762 := Aside0.mk (Kd.R_lower ho0 (below_size bB_)); replace HB := Aside0.mk (below_step bB_ hb); (try clear hb ho0); obtain ⟨Ao5, co5, eo5⟩ := Kd.R_slice HO762.out; subst eo5) | ((with_reducible refine gate_callee (f := 117) rfl ?_); refine gL_ (some 7) Try.func117 #[.slice Ao5 t760.length co5, .func (.func 102) #[] #[]] ?_; (with_reducible refine (slices_SortFunc_Cell.calls (fun k_ => some k_ = (.slice Ao5 t760.length co5 : Value).ownBlock) (.slice Ao5 t760.length co5) t760  t763 w _ ?side1 ?side2 A3.out).mono ?_); (case side1 => repeat (first | (with_reducible first | exact HB.out | apply below_alloc | apply pw_below_drewN | apply below_drew1) | exact HB.out)); (case side2 => exact Kd.R_tight rfl HO762.out); rintro e w6 ⟨rfl, hy0, hb, hkp⟩; refine ⟨_, rfl, ?_⟩; replace HO762 := Aside0.mk (Kd.R_reok rfl hy0 (fun k_ e_ => HO762.out.1 k_ e_)); replace HB := Aside0.mk (hb); (try clear hb hkp hy0)))
 go_ret
 exact ⟨_, r2_, rS_ HO762.out, bB_⟩

end Go.Proofs.Ytbfmocohknadkaa.X
