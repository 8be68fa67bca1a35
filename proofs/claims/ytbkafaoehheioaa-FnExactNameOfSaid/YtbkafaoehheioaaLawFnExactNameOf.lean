-- xprint.py
import Derived.Test.YtbkafaoehheioaaRows
import Derived.Test.YtbkafaoehheioaaXx19
import Derived.Test.YtbkafaoehheioaaXRowKit
import Derived.Test.YtbkafaoehheioaaPureFnExactNameOf
import Derived.WalkKit
import Derived.ProofKit
import Derived.OpenShut
import Derived.ShutString
import Derived.ChangeOld
import Derived.Below
import Derived.SizedLaws
namespace Go.Proofs.Ytbkafaoehheioaa.fnExactNameOf
open Go.ChangeShapes Go.WideShapes Go.ChangeAt Go.RowKit Go.Joins
open Go.ChangeMaps (open_string shut_string)
open Go.Proofs.Ytbkafaoehheioaa.X Go.Proofs.YtbkafaoehheioaaW.PrintWords
set_option linter.unusedVariables false
theorem own : ownKnob Try.prog.godebug = none := by kernel_rfl
theorem laidOut : laidOutB Try.prog = true := by kernel_rfl
set_option maxRecDepth 100000 in
theorem lifted (os : Os) (started : os.Started) (H : Type) (enc : TypeId × Value → H) :
    ReturnsInHanded {} Try.checked os 4 .any (Rows.fnExactNameOfSpec.pre6 enc Try.prog Try.f4 Rows.fnExactNameOfRow.domain false) (Rows.fnExactNameOfSpec.post enc Try.prog Try.f4 false true false false) := by
  refine returnsInHanded_of_change_sized (C := Try.checked) own started (by kernel_rfl) Try.func4
    (ChangeSpec.witness6 (enc := enc) (C := Try.checked) false ⟨#[], #[.slice none 0 0], []⟩ 8 (by kernel_rfl) (by kernel_rfl) (by kernel_rfl) (by kernel_rfl)) ?_
  intro W base args ds gs before hval0 hW hcnd hsz0 _
  have hval : ∀ (j : Nat) t v, Try.f4.params[j]? = some t → args[j]? = some v → Value.okWide Try.prog W .any base t v := hval0
  have hW' := hW
  obtain ⟨p, q, hA0, hV, rfl, hfz, hnd⟩ := hW
  have hA : DataW.TrodAll enc Try.prog W 0 (fun _ => true) true Try.f4.params.toList args.toList ds p := hA0
  rw [Try.params4] at hA hval
  obtain ⟨v0, vs0, d0, ds0, p0, q0, hargs, rfl, rfl, h0, r0⟩ := trodAll_cons hA
  obtain ⟨rfl, rfl, rfl⟩ := trodAll_nil r0
  obtain rfl : args = #[v0] := by cases args; simp_all
  obtain ⟨rfl, rfl⟩ := trodVars_none hV
  obtain ⟨a0, len0, cap0, rfl⟩ := okWide_slice Try.underlying22 (hval 0 22 v0 rfl rfl)
  have k0 := h0
  have lt0 : ∀ x ∈ p0, x.block < W.heap.size := by obtain ⟨m, hm⟩ := k0; exact DataW.trod_lt m _ _ _ hm
  obtain ⟨z0, zl0, zc0, zm0, zw0, zr0⟩ := open_pairs Try.underlying22 Try.underlying57 (by kernel_rfl) rfl rfl (by kernel_rfl) (by kernel_rfl) Try.underlying2 Try.underlying2 h0
  obtain ⟨l0, le0⟩ : ∃ l : List S57, l = z0.map (fun x => (⟨x.1, x.2⟩ : S57)) := ⟨_, rfl⟩
  have ll0 : l0.length = len0 := by rw [le0, List.length_map, zl0]
  simp only [maxLen] at zm0
  have hC0 : Kd.C k57 W a0 l0.length l0 := by
    refine ⟨rfl, by omega, fun hn => ?_⟩
    obtain ⟨ad, e1, hcell⟩ := zr0 (by omega)
    refine ⟨ad, e1, fun j x hj => ?_⟩
    rw [le0, List.getElem?_map, Option.map_eq_some_iff] at hj
    obtain ⟨y, hy, rfl⟩ := hj
    obtain ⟨c1, c2⟩ := hcell j y hy
    refine ⟨[.int .i64 y.1, .int .i64 y.2], rfl, k57_mk W _, fun i u hu => ?_⟩
    match i, hu with
    | 0, hu => obtain rfl := Option.some.inj hu; exact c1
    | 1, hu => obtain rfl := Option.some.inj hu; exact c2
  have hw0 : ∀ x ∈ l0, (Lit.int .i64 x.f0).wf = true ∧ (Lit.int .i64 x.f1).wf = true := by
    intro x hx
    rw [le0] at hx
    obtain ⟨y, hy, rfl⟩ := List.mem_map.1 hx
    exact zw0 y hy
  have hn0 : l0.length ≤ 9223372036854775807 := by omega
  have hcp0 : l0.length ≤ cap0 := by omega
  clear le0
  subst ll0
  clear hA0 hval0 hsz0
  obtain ⟨k, h⟩ := Pure.FnExactNameOf l0 hn0 hw0
  refine (laws_FnExactNameOf.calls k _ _ l0 true W hC0 hcp0 h).mono fun e W' ⟨he, bel0⟩ => ?_
  have bel : Below W.heap.size W W' := bel0
  subst he
  exact ⟨_, rfl, _, _, _, [], _, [], hW', trodAll_mk1 (shut_bool Try.underlying4 _), (trodAll_cons_mk (Below.trod laidOut (by kernel_rfl) (of_decide_eq_true (by kernel_rfl)) k0 bel lt0) trodAll_mk0), rfl, bel.frame _, fun h => by cases h⟩
theorem over : Rows.fnExactNameOfRow.holds Try.pinned (OpenSpec.ofChange Rows.fnExactNameOfSpec) :=
  OpenClaim.holds_of_wide 4 Try.f4 rfl rfl rfl rfl rfl rfl rfl ⟨rfl, rfl, rfl, rfl, rfl⟩ rfl rfl rfl rfl rfl (by kernel_rfl) Try.func4 (by kernel_rfl)
    (of_decide_eq_true (by kernel_rfl)) (by unfold Func.isWrapper; first | (rw [if_pos (by decide +kernel)]; kernel_rfl) | (rw [if_neg (by decide +kernel)]; exact ⟨rfl, rfl⟩))
    (fun os started H enc _ => lifted os started H enc)
theorem proved : Rows.FnExactNameOfSaid := over
#print axioms proved
end Go.Proofs.Ytbkafaoehheioaa.fnExactNameOf
namespace Go.Proofs.Ytbkafaoehheioaa
/-- The row, under a short name, for the claim. -/
theorem fnExactNameOf_holds : Rows.FnExactNameOfSaid := fnExactNameOf.proved
end Go.Proofs.Ytbkafaoehheioaa
