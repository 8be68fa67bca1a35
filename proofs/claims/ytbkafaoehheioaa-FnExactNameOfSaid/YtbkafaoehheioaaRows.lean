/-
  No cell of these rows narrows 'for every input' (looked for: loops, veiled, ifaces, maps, wideKeys, modest, calm, conditions, laid).
  DERIVED. THE GIVEN ROWS OF THIS SEAT. 5 by the template 'for every input the law returns true; each argument reads behind the call as it read before'; 0 by the template 'total and deterministic' (their statements: YtbkafaoehheioaaTotals.lean).
  GIVEN WITH THE SEED: the statements are not yours to turn. If you find one false, say at which input.
  Laid BY PROGRAM, IN A SANDBOX (cutbox-rows.mjs): the forced cells as the released guide's own fill.sh prints them over the translation c312ae9c4cbe020c… (all of the seat's roots in one cut). By AI agents, Wed Nov 11 2026. No macro, syntax, notation, axiom, sorry.
-/
import Derived.Test.YtbkafaoehheioaaChecked
import GoSem.Claim
import GoSem.ClaimJoined
import GoSem.ClaimMapViews
import Derived.JoinedTies
import Derived.KernelRfl
namespace Go.Proofs.Ytbkafaoehheioaa
/- THE CELL 'sum', in the pinned program and in every row, IS THE sha256 OF THE DUMP (.gsa) THAT YtbkafaoehheioaaProg.lean LOADS. Nothing in Lean hashes anything: it is a label: what it is worth is what the hold of that sum in a sandbox is worth. -/
noncomputable def Try.pinned : Pinned := { name := "ytbkafaoehheioaa", sum := "c312ae9c4cbe020c9197fc692bf4a54df5147e45b63e97614e5404b18ff90705", checked := Try.checked }
namespace Rows
def none {H : Type} : Left H := { results := [], args := [] }

/-- 'laws.FnExactGrowShape': WHATEVER THE INPUT: true; the input reads as it did. -/
def fnExactGrowShapeSpec : ChangeSpec := { name := "fnExactGrowShape", fn := fun _ => fun
  | [d] => { results := [.lit (.bool true)], args := [d] }
  | _ => none }
def fnExactGrowShapeRow : OpenClaim := { program := "ytbkafaoehheioaa", sum := "c312ae9c4cbe020c9197fc692bf4a54df5147e45b63e97614e5404b18ff90705", func := "loop.example/g00919/laws.FnExactGrowShape", spec := "fnExactGrowShape", unfollowed := true, recurses := true, plainKeys := false, apart := false }
def FnExactGrowShapeSaid : Prop := fnExactGrowShapeRow.holds Try.pinned (OpenSpec.ofChange fnExactGrowShapeSpec)

/-- ITS FALSE NEIGHBOUR: 'it returns false'. Refute it at one input. -/
def fnExactGrowShapeWrong : ChangeSpec := { name := "fnExactGrowShape", fn := fun _ => fun
  | [d] => { results := [.lit (.bool false)], args := [d] }
  | _ => none }
def FnExactGrowShapeWrongFalsely : Prop := fnExactGrowShapeRow.holds Try.pinned (OpenSpec.ofChange fnExactGrowShapeWrong)

/-- 'laws.FnExactNameOf': WHATEVER THE INPUT: true; the input reads as it did. -/
def fnExactNameOfSpec : ChangeSpec := { name := "fnExactNameOf", fn := fun _ => fun
  | [d] => { results := [.lit (.bool true)], args := [d] }
  | _ => none }
def fnExactNameOfRow : OpenClaim := { program := "ytbkafaoehheioaa", sum := "c312ae9c4cbe020c9197fc692bf4a54df5147e45b63e97614e5404b18ff90705", func := "loop.example/g00919/laws.FnExactNameOf", spec := "fnExactNameOf", inPlace := ["internal/abi.NoEscape", "internal/bytealg.MakeNoZero"], unfollowed := true, recurses := true, plainKeys := false, apart := false }
def FnExactNameOfSaid : Prop := fnExactNameOfRow.holds Try.pinned (OpenSpec.ofChange fnExactNameOfSpec)

/-- ITS FALSE NEIGHBOUR: 'it returns false'. Refute it at one input. -/
def fnExactNameOfWrong : ChangeSpec := { name := "fnExactNameOf", fn := fun _ => fun
  | [d] => { results := [.lit (.bool false)], args := [d] }
  | _ => none }
def FnExactNameOfWrongFalsely : Prop := fnExactNameOfRow.holds Try.pinned (OpenSpec.ofChange fnExactNameOfWrong)

/-- 'laws.FnForms': WHATEVER THE INPUT: true; the input reads as it did. -/
def fnFormsSpec : ChangeSpec := { name := "fnForms", fn := fun _ => fun
  | [d] => { results := [.lit (.bool true)], args := [d] }
  | _ => none }
def fnFormsRow : OpenClaim := { program := "ytbkafaoehheioaa", sum := "c312ae9c4cbe020c9197fc692bf4a54df5147e45b63e97614e5404b18ff90705", func := "loop.example/g00919/laws.FnForms", spec := "fnForms", unfollowed := true, recurses := true, plainKeys := false, apart := false }
def FnFormsSaid : Prop := fnFormsRow.holds Try.pinned (OpenSpec.ofChange fnFormsSpec)

/-- ITS FALSE NEIGHBOUR: 'it returns false'. Refute it at one input. -/
def fnFormsWrong : ChangeSpec := { name := "fnForms", fn := fun _ => fun
  | [d] => { results := [.lit (.bool false)], args := [d] }
  | _ => none }
def FnFormsWrongFalsely : Prop := fnFormsRow.holds Try.pinned (OpenSpec.ofChange fnFormsWrong)

/-- 'laws.FnAllShapes': WHATEVER THE INPUT: true; the input reads as it did. -/
def fnAllShapesSpec : ChangeSpec := { name := "fnAllShapes", fn := fun _ => fun
  | [d] => { results := [.lit (.bool true)], args := [d] }
  | _ => none }
def fnAllShapesRow : OpenClaim := { program := "ytbkafaoehheioaa", sum := "c312ae9c4cbe020c9197fc692bf4a54df5147e45b63e97614e5404b18ff90705", func := "loop.example/g00919/laws.FnAllShapes", spec := "fnAllShapes", unfollowed := true, recurses := true, plainKeys := false, apart := false }
def FnAllShapesSaid : Prop := fnAllShapesRow.holds Try.pinned (OpenSpec.ofChange fnAllShapesSpec)

/-- ITS FALSE NEIGHBOUR: 'it returns false'. Refute it at one input. -/
def fnAllShapesWrong : ChangeSpec := { name := "fnAllShapes", fn := fun _ => fun
  | [d] => { results := [.lit (.bool false)], args := [d] }
  | _ => none }
def FnAllShapesWrongFalsely : Prop := fnAllShapesRow.holds Try.pinned (OpenSpec.ofChange fnAllShapesWrong)

/-- 'laws.FnExactRankOf': WHATEVER THE INPUT: true; the input reads as it did. -/
def fnExactRankOfSpec : ChangeSpec := { name := "fnExactRankOf", fn := fun _ => fun
  | [d] => { results := [.lit (.bool true)], args := [d] }
  | _ => none }
def fnExactRankOfRow : OpenClaim := { program := "ytbkafaoehheioaa", sum := "c312ae9c4cbe020c9197fc692bf4a54df5147e45b63e97614e5404b18ff90705", func := "loop.example/g00919/laws.FnExactRankOf", spec := "fnExactRankOf", unfollowed := true, recurses := true, plainKeys := false, apart := false }
def FnExactRankOfSaid : Prop := fnExactRankOfRow.holds Try.pinned (OpenSpec.ofChange fnExactRankOfSpec)

/-- ITS FALSE NEIGHBOUR: 'it returns false'. Refute it at one input. -/
def fnExactRankOfWrong : ChangeSpec := { name := "fnExactRankOf", fn := fun _ => fun
  | [d] => { results := [.lit (.bool false)], args := [d] }
  | _ => none }
def FnExactRankOfWrongFalsely : Prop := fnExactRankOfRow.holds Try.pinned (OpenSpec.ofChange fnExactRankOfWrong)

/- THE SECOND FORM. 'bulk': how many values and letters a reading holds, each counted each time it is reached (what is shared counts as often as it is met; a slice's spare places count too). A statement '..UptoSaid' is the law's where the arguments, and the package variables that the reading takes, are together of bulk at most 1048576: NARROWER than '..Said'. Prove '..Said' where nothing that the law and all that it calls make is longer than what came in: it says more and counts as full. Else prove '..UptoSaid'. A law counts once. -/
mutual
def uptoBulk {H : Type} : DataW H → Nat
  | .lit (.string bytes) => bytes.length + 1
  | .lit _ => 1
  | .nil => 1
  | .ptr d => uptoBulk d + 1
  | .slice elems spare => uptoBulkAll elems + uptoBulkAll spare + 1
  | .agg parts => uptoBulkAll parts + 1
  | .iface _ d => uptoBulk d + 1
  | .map entries => uptoBulkEntries entries + 1
  | .held _ => 1
def uptoBulkAll {H : Type} : List (DataW H) → Nat
  | [] => 0
  | d :: r => uptoBulk d + uptoBulkAll r
def uptoBulkEntries {H : Type} : List (Lit × DataW H) → Nat
  | [] => 0
  | x :: r => uptoBulkEntry x + uptoBulkEntries r
def uptoBulkEntry {H : Type} : Lit × DataW H → Nat
  | (.string bytes, d) => bytes.length + uptoBulk d + 1
  | (_, d) => uptoBulk d + 1
 end
def uptoSmall : (H : Type) → List (DataW H) → Bool := fun _ ds => decide (uptoBulkAll ds ≤ 1048576)
def OpenSpec.upto (s : _root_.Go.ChangeSpec) : _root_.Go.OpenSpec := { _root_.Go.OpenSpec.ofChange s with cond := some uptoSmall }

/-- 'laws.FnExactGrowShape', WHERE WHAT IT READS IS OF BULK AT MOST 1048576: true; the input reads as it did. -/
def fnExactGrowShapeUptoRow : OpenClaim := { program := "ytbkafaoehheioaa", sum := "c312ae9c4cbe020c9197fc692bf4a54df5147e45b63e97614e5404b18ff90705", func := "loop.example/g00919/laws.FnExactGrowShape", spec := "fnExactGrowShape", unfollowed := true, recurses := true, plainKeys := false, apart := false, narrowed := true }
def FnExactGrowShapeUptoSaid : Prop := fnExactGrowShapeUptoRow.holds Try.pinned (OpenSpec.upto fnExactGrowShapeSpec)

/-- 'laws.FnExactNameOf', WHERE WHAT IT READS IS OF BULK AT MOST 1048576: true; the input reads as it did. -/
def fnExactNameOfUptoRow : OpenClaim := { program := "ytbkafaoehheioaa", sum := "c312ae9c4cbe020c9197fc692bf4a54df5147e45b63e97614e5404b18ff90705", func := "loop.example/g00919/laws.FnExactNameOf", spec := "fnExactNameOf", inPlace := ["internal/abi.NoEscape", "internal/bytealg.MakeNoZero"], unfollowed := true, recurses := true, plainKeys := false, apart := false, narrowed := true }
def FnExactNameOfUptoSaid : Prop := fnExactNameOfUptoRow.holds Try.pinned (OpenSpec.upto fnExactNameOfSpec)

/-- 'laws.FnForms', WHERE WHAT IT READS IS OF BULK AT MOST 1048576: true; the input reads as it did. -/
def fnFormsUptoRow : OpenClaim := { program := "ytbkafaoehheioaa", sum := "c312ae9c4cbe020c9197fc692bf4a54df5147e45b63e97614e5404b18ff90705", func := "loop.example/g00919/laws.FnForms", spec := "fnForms", unfollowed := true, recurses := true, plainKeys := false, apart := false, narrowed := true }
def FnFormsUptoSaid : Prop := fnFormsUptoRow.holds Try.pinned (OpenSpec.upto fnFormsSpec)

/-- 'laws.FnAllShapes', WHERE WHAT IT READS IS OF BULK AT MOST 1048576: true; the input reads as it did. -/
def fnAllShapesUptoRow : OpenClaim := { program := "ytbkafaoehheioaa", sum := "c312ae9c4cbe020c9197fc692bf4a54df5147e45b63e97614e5404b18ff90705", func := "loop.example/g00919/laws.FnAllShapes", spec := "fnAllShapes", unfollowed := true, recurses := true, plainKeys := false, apart := false, narrowed := true }
def FnAllShapesUptoSaid : Prop := fnAllShapesUptoRow.holds Try.pinned (OpenSpec.upto fnAllShapesSpec)

/-- 'laws.FnExactRankOf', WHERE WHAT IT READS IS OF BULK AT MOST 1048576: true; the input reads as it did. -/
def fnExactRankOfUptoRow : OpenClaim := { program := "ytbkafaoehheioaa", sum := "c312ae9c4cbe020c9197fc692bf4a54df5147e45b63e97614e5404b18ff90705", func := "loop.example/g00919/laws.FnExactRankOf", spec := "fnExactRankOf", unfollowed := true, recurses := true, plainKeys := false, apart := false, narrowed := true }
def FnExactRankOfUptoSaid : Prop := fnExactRankOfUptoRow.holds Try.pinned (OpenSpec.upto fnExactRankOfSpec)

end Rows
end Go.Proofs.Ytbkafaoehheioaa
