-- xprint.py
import Derived.Test.YtbkafaoehheioaaXx0
import Derived.Test.YtbkafaoehheioaaXx3
namespace Go.Proofs.Ytbkafaoehheioaa.X
open Go.RowKit Go.Proofs.YtbkafaoehheioaaW.PrintWords Go.Proofs.YtbkafaoehheioaaW.PrintLast Go.Proofs.YtbkafaoehheioaaW.PrintMore
attribute [local go_sem] max2_int min2_int max_two min_two max_three min_three max_four min_four   -- for this text's walks alone
set_option linter.unusedVariables false
set_option linter.unusedSimpArgs false

/-! ### impl_compareShapes: function 65, by hand -/
-- COMMONS none
def impl_compareShapes.f (k : Nat) (l0 l1 : List S55) : Option Int := some (cfS_ l0 l1)
theorem impl_compareShapes.mono : ∀ a0 a1 k, LeO (impl_compareShapes.f k a0 a1) (impl_compareShapes.f (k + 1) a0 a1) := fun _ _ _ => LeO.refl _
theorem impl_compareShapes.calls (k : Nat) (A0 : Option Addr) (c0 : Nat) (l0 : List S55) (A1 : Option Addr) (c1 : Nat) (l1 : List S55) (r : Int) (w : World) (hr0 : Kd.C k55 w A0 l0.length l0) (hc0 : l0.length ≤ c0) (hr1 : Kd.C k55 w A1 l1.length l1) (hc1 : l1.length ≤ c1) (h : impl_compareShapes.f k l0 l1 = some r) :
  Calls Try.prog 65 #[.slice A0 l0.length c0, .slice A1 l1.length c1] w fun e w' => e = .returned (.int .i64 r) ∧ Below w.heap.size w w' := by
 obtain rfl := Option.some.inj h
 refine (compareShapes_grow A0 c0 l0 A1 c1 l1 w hr0 hr1).mono ?_
 rintro e w' ⟨rfl, q, os, rfl⟩
 have hg : w.grownBy (Go.Sort.grow (w.drewN q) os) none := by
  refine ⟨rfl, rfl, rfl, ?_, fun k hk _ => ?_⟩
  ·unfold Go.Sort.grow; simp only [Array.size_append]; show w.heap.size ≤ w.heap.size + _; omega
  ·exact Go.Sort.heap_grow_old _ _ hk
 exact ⟨rfl, (Below.refl w.heap.size w).grown hg (Nat.le_refl _) (fun k hk => by cases hk)⟩

end Go.Proofs.Ytbkafaoehheioaa.X
