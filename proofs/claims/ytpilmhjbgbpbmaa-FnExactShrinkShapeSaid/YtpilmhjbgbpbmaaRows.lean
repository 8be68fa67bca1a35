/-
  No cell of these rows narrows 'for every input' (looked for: loops, veiled, ifaces, maps, wideKeys, modest, calm, conditions, laid).
  DERIVED. THE GIVEN ROWS OF THIS SEAT. 10 by the template 'for every input the law returns true; each argument reads behind the call as it read before'; 0 by the template 'total and deterministic' (their statements: YtpilmhjbgbpbmaaTotals.lean).
  GIVEN WITH THE SEED: the statements are not yours to turn. If you find one false, say at which input.
  Laid BY PROGRAM, IN A SANDBOX (cutbox-rows.mjs): the forced cells as the released guide's own fill.sh prints them over the translation dcfe4b998d46d730… (all of the seat's roots in one cut). By AI agents, Wed Nov 11 2026. No macro, syntax, notation, axiom, sorry.
-/
import Derived.Test.YtpilmhjbgbpbmaaChecked
import GoSem.Claim
import GoSem.ClaimJoined
import GoSem.ClaimMapViews
import Derived.JoinedTies
import Derived.KernelRfl
namespace Go.Proofs.Ytpilmhjbgbpbmaa
/- THE CELL 'sum', in the pinned program and in every row, IS THE sha256 OF THE DUMP (.gsa) THAT YtpilmhjbgbpbmaaProg.lean LOADS. Nothing in Lean hashes anything: it is a label: what it is worth is what the hold of that sum in a sandbox is worth. -/
noncomputable def Try.pinned : Pinned := { name := "ytpilmhjbgbpbmaa", sum := "dcfe4b998d46d730d58d6a787cc6e2b936f03f11d5928827bbdd3042c663a5dc", checked := Try.checked }
namespace Rows
def none {H : Type} : Left H := { results := [], args := [] }

/-- 'laws.FnExactSymmetriesOf': WHATEVER THE INPUT: true; the input reads as it did. -/
def fnExactSymmetriesOfSpec : ChangeSpec := { name := "fnExactSymmetriesOf", fn := fun _ => fun
  | [d] => { results := [.lit (.bool true)], args := [d] }
  | _ => none }
def fnExactSymmetriesOfRow : OpenClaim := { program := "ytpilmhjbgbpbmaa", sum := "dcfe4b998d46d730d58d6a787cc6e2b936f03f11d5928827bbdd3042c663a5dc", func := "loop.example/g00919/laws.FnExactSymmetriesOf", spec := "fnExactSymmetriesOf", unfollowed := true, recurses := true, plainKeys := false, apart := false }
def FnExactSymmetriesOfSaid : Prop := fnExactSymmetriesOfRow.holds Try.pinned (OpenSpec.ofChange fnExactSymmetriesOfSpec)

/-- ITS FALSE NEIGHBOUR: 'it returns false'. Refute it at one input. -/
def fnExactSymmetriesOfWrong : ChangeSpec := { name := "fnExactSymmetriesOf", fn := fun _ => fun
  | [d] => { results := [.lit (.bool false)], args := [d] }
  | _ => none }
def FnExactSymmetriesOfWrongFalsely : Prop := fnExactSymmetriesOfRow.holds Try.pinned (OpenSpec.ofChange fnExactSymmetriesOfWrong)

/-- 'laws.FnExactOneSidedForm': WHATEVER THE INPUT: true; the input reads as it did. -/
def fnExactOneSidedFormSpec : ChangeSpec := { name := "fnExactOneSidedForm", fn := fun _ => fun
  | [d] => { results := [.lit (.bool true)], args := [d] }
  | _ => none }
def fnExactOneSidedFormRow : OpenClaim := { program := "ytpilmhjbgbpbmaa", sum := "dcfe4b998d46d730d58d6a787cc6e2b936f03f11d5928827bbdd3042c663a5dc", func := "loop.example/g00919/laws.FnExactOneSidedForm", spec := "fnExactOneSidedForm", unfollowed := true, recurses := true, plainKeys := false, apart := false }
def FnExactOneSidedFormSaid : Prop := fnExactOneSidedFormRow.holds Try.pinned (OpenSpec.ofChange fnExactOneSidedFormSpec)

/-- ITS FALSE NEIGHBOUR: 'it returns false'. Refute it at one input. -/
def fnExactOneSidedFormWrong : ChangeSpec := { name := "fnExactOneSidedForm", fn := fun _ => fun
  | [d] => { results := [.lit (.bool false)], args := [d] }
  | _ => none }
def FnExactOneSidedFormWrongFalsely : Prop := fnExactOneSidedFormRow.holds Try.pinned (OpenSpec.ofChange fnExactOneSidedFormWrong)

/-- 'laws.FnExactFreeForm': WHATEVER THE INPUT: true; the input reads as it did. -/
def fnExactFreeFormSpec : ChangeSpec := { name := "fnExactFreeForm", fn := fun _ => fun
  | [d] => { results := [.lit (.bool true)], args := [d] }
  | _ => none }
def fnExactFreeFormRow : OpenClaim := { program := "ytpilmhjbgbpbmaa", sum := "dcfe4b998d46d730d58d6a787cc6e2b936f03f11d5928827bbdd3042c663a5dc", func := "loop.example/g00919/laws.FnExactFreeForm", spec := "fnExactFreeForm", unfollowed := true, recurses := true, plainKeys := false, apart := false }
def FnExactFreeFormSaid : Prop := fnExactFreeFormRow.holds Try.pinned (OpenSpec.ofChange fnExactFreeFormSpec)

/-- ITS FALSE NEIGHBOUR: 'it returns false'. Refute it at one input. -/
def fnExactFreeFormWrong : ChangeSpec := { name := "fnExactFreeForm", fn := fun _ => fun
  | [d] => { results := [.lit (.bool false)], args := [d] }
  | _ => none }
def FnExactFreeFormWrongFalsely : Prop := fnExactFreeFormRow.holds Try.pinned (OpenSpec.ofChange fnExactFreeFormWrong)

/-- 'laws.FnParts': WHATEVER THE INPUT: true; the input reads as it did. -/
def fnPartsSpec : ChangeSpec := { name := "fnParts", fn := fun _ => fun
  | [d] => { results := [.lit (.bool true)], args := [d] }
  | _ => none }
def fnPartsRow : OpenClaim := { program := "ytpilmhjbgbpbmaa", sum := "dcfe4b998d46d730d58d6a787cc6e2b936f03f11d5928827bbdd3042c663a5dc", func := "loop.example/g00919/laws.FnParts", spec := "fnParts", unfollowed := true, recurses := true, plainKeys := false, apart := false }
def FnPartsSaid : Prop := fnPartsRow.holds Try.pinned (OpenSpec.ofChange fnPartsSpec)

/-- ITS FALSE NEIGHBOUR: 'it returns false'. Refute it at one input. -/
def fnPartsWrong : ChangeSpec := { name := "fnParts", fn := fun _ => fun
  | [d] => { results := [.lit (.bool false)], args := [d] }
  | _ => none }
def FnPartsWrongFalsely : Prop := fnPartsRow.holds Try.pinned (OpenSpec.ofChange fnPartsWrong)

/-- 'laws.FnExactFixedShapes': WHATEVER THE INPUT: true; the input reads as it did. -/
def fnExactFixedShapesSpec : ChangeSpec := { name := "fnExactFixedShapes", fn := fun _ => fun
  | [d] => { results := [.lit (.bool true)], args := [d] }
  | _ => none }
def fnExactFixedShapesRow : OpenClaim := { program := "ytpilmhjbgbpbmaa", sum := "dcfe4b998d46d730d58d6a787cc6e2b936f03f11d5928827bbdd3042c663a5dc", func := "loop.example/g00919/laws.FnExactFixedShapes", spec := "fnExactFixedShapes", unfollowed := true, recurses := true, plainKeys := false, apart := false }
def FnExactFixedShapesSaid : Prop := fnExactFixedShapesRow.holds Try.pinned (OpenSpec.ofChange fnExactFixedShapesSpec)

/-- ITS FALSE NEIGHBOUR: 'it returns false'. Refute it at one input. -/
def fnExactFixedShapesWrong : ChangeSpec := { name := "fnExactFixedShapes", fn := fun _ => fun
  | [d] => { results := [.lit (.bool false)], args := [d] }
  | _ => none }
def FnExactFixedShapesWrongFalsely : Prop := fnExactFixedShapesRow.holds Try.pinned (OpenSpec.ofChange fnExactFixedShapesWrong)

/-- 'laws.FnExactFormsOf': WHATEVER THE INPUT: true; the input reads as it did. -/
def fnExactFormsOfSpec : ChangeSpec := { name := "fnExactFormsOf", fn := fun _ => fun
  | [d] => { results := [.lit (.bool true)], args := [d] }
  | _ => none }
def fnExactFormsOfRow : OpenClaim := { program := "ytpilmhjbgbpbmaa", sum := "dcfe4b998d46d730d58d6a787cc6e2b936f03f11d5928827bbdd3042c663a5dc", func := "loop.example/g00919/laws.FnExactFormsOf", spec := "fnExactFormsOf", unfollowed := true, recurses := true, plainKeys := false, apart := false }
def FnExactFormsOfSaid : Prop := fnExactFormsOfRow.holds Try.pinned (OpenSpec.ofChange fnExactFormsOfSpec)

/-- ITS FALSE NEIGHBOUR: 'it returns false'. Refute it at one input. -/
def fnExactFormsOfWrong : ChangeSpec := { name := "fnExactFormsOf", fn := fun _ => fun
  | [d] => { results := [.lit (.bool false)], args := [d] }
  | _ => none }
def FnExactFormsOfWrongFalsely : Prop := fnExactFormsOfRow.holds Try.pinned (OpenSpec.ofChange fnExactFormsOfWrong)

/-- 'laws.FnExactCountShapes': WHATEVER THE INPUT: true; the input reads as it did. -/
def fnExactCountShapesSpec : ChangeSpec := { name := "fnExactCountShapes", fn := fun _ => fun
  | [d] => { results := [.lit (.bool true)], args := [d] }
  | _ => none }
def fnExactCountShapesRow : OpenClaim := { program := "ytpilmhjbgbpbmaa", sum := "dcfe4b998d46d730d58d6a787cc6e2b936f03f11d5928827bbdd3042c663a5dc", func := "loop.example/g00919/laws.FnExactCountShapes", spec := "fnExactCountShapes", unfollowed := true, recurses := true, plainKeys := false, apart := false }
def FnExactCountShapesSaid : Prop := fnExactCountShapesRow.holds Try.pinned (OpenSpec.ofChange fnExactCountShapesSpec)

/-- ITS FALSE NEIGHBOUR: 'it returns false'. Refute it at one input. -/
def fnExactCountShapesWrong : ChangeSpec := { name := "fnExactCountShapes", fn := fun _ => fun
  | [d] => { results := [.lit (.bool false)], args := [d] }
  | _ => none }
def FnExactCountShapesWrongFalsely : Prop := fnExactCountShapesRow.holds Try.pinned (OpenSpec.ofChange fnExactCountShapesWrong)

/-- 'laws.FnExactShrinkShape': WHATEVER THE INPUT: true; the input reads as it did. -/
def fnExactShrinkShapeSpec : ChangeSpec := { name := "fnExactShrinkShape", fn := fun _ => fun
  | [d] => { results := [.lit (.bool true)], args := [d] }
  | _ => none }
def fnExactShrinkShapeRow : OpenClaim := { program := "ytpilmhjbgbpbmaa", sum := "dcfe4b998d46d730d58d6a787cc6e2b936f03f11d5928827bbdd3042c663a5dc", func := "loop.example/g00919/laws.FnExactShrinkShape", spec := "fnExactShrinkShape", unfollowed := true, recurses := true, plainKeys := false, apart := false }
def FnExactShrinkShapeSaid : Prop := fnExactShrinkShapeRow.holds Try.pinned (OpenSpec.ofChange fnExactShrinkShapeSpec)

/-- ITS FALSE NEIGHBOUR: 'it returns false'. Refute it at one input. -/
def fnExactShrinkShapeWrong : ChangeSpec := { name := "fnExactShrinkShape", fn := fun _ => fun
  | [d] => { results := [.lit (.bool false)], args := [d] }
  | _ => none }
def FnExactShrinkShapeWrongFalsely : Prop := fnExactShrinkShapeRow.holds Try.pinned (OpenSpec.ofChange fnExactShrinkShapeWrong)

/-- 'laws.FnExactFreeShapes': WHATEVER THE INPUT: true; the input reads as it did. -/
def fnExactFreeShapesSpec : ChangeSpec := { name := "fnExactFreeShapes", fn := fun _ => fun
  | [d] => { results := [.lit (.bool true)], args := [d] }
  | _ => none }
def fnExactFreeShapesRow : OpenClaim := { program := "ytpilmhjbgbpbmaa", sum := "dcfe4b998d46d730d58d6a787cc6e2b936f03f11d5928827bbdd3042c663a5dc", func := "loop.example/g00919/laws.FnExactFreeShapes", spec := "fnExactFreeShapes", unfollowed := true, recurses := true, plainKeys := false, apart := false }
def FnExactFreeShapesSaid : Prop := fnExactFreeShapesRow.holds Try.pinned (OpenSpec.ofChange fnExactFreeShapesSpec)

/-- ITS FALSE NEIGHBOUR: 'it returns false'. Refute it at one input. -/
def fnExactFreeShapesWrong : ChangeSpec := { name := "fnExactFreeShapes", fn := fun _ => fun
  | [d] => { results := [.lit (.bool false)], args := [d] }
  | _ => none }
def FnExactFreeShapesWrongFalsely : Prop := fnExactFreeShapesRow.holds Try.pinned (OpenSpec.ofChange fnExactFreeShapesWrong)

/-- 'laws.FnExactOneSidedShapes': WHATEVER THE INPUT: true; the input reads as it did. -/
def fnExactOneSidedShapesSpec : ChangeSpec := { name := "fnExactOneSidedShapes", fn := fun _ => fun
  | [d] => { results := [.lit (.bool true)], args := [d] }
  | _ => none }
def fnExactOneSidedShapesRow : OpenClaim := { program := "ytpilmhjbgbpbmaa", sum := "dcfe4b998d46d730d58d6a787cc6e2b936f03f11d5928827bbdd3042c663a5dc", func := "loop.example/g00919/laws.FnExactOneSidedShapes", spec := "fnExactOneSidedShapes", unfollowed := true, recurses := true, plainKeys := false, apart := false }
def FnExactOneSidedShapesSaid : Prop := fnExactOneSidedShapesRow.holds Try.pinned (OpenSpec.ofChange fnExactOneSidedShapesSpec)

/-- ITS FALSE NEIGHBOUR: 'it returns false'. Refute it at one input. -/
def fnExactOneSidedShapesWrong : ChangeSpec := { name := "fnExactOneSidedShapes", fn := fun _ => fun
  | [d] => { results := [.lit (.bool false)], args := [d] }
  | _ => none }
def FnExactOneSidedShapesWrongFalsely : Prop := fnExactOneSidedShapesRow.holds Try.pinned (OpenSpec.ofChange fnExactOneSidedShapesWrong)

/- THE SECOND FORM. 'bulk': how many values and letters a reading holds, each counted each time it is reached (what is shared counts as often as it is met; a slice's spare places count too). A statement '..UptoSaid' is the law's where the arguments, and the package variables that the reading takes, are together of bulk at most 1048576: NARROWER than '..Said'. Prove '..Said' where nothing that the law and all that it calls make is longer than what came in: it says more and counts as full. Else prove '..UptoSaid'. A law counts once. -/
mutual
def uptoBulk {H : Type} : DataW H → Nat
  | .lit (.string bytes) => bytes.length + 1
  | .lit _ => 1
  | .nil => 1
  | .ptr d => uptoBulk d + 1
  | .slice elems spare => uptoBulkAll elems + uptoBulkAll spare + 1
  | .agg parts => uptoBulkAll parts + 1
  | .iface _ d => uptoBulk d + 1
  | .map entries => uptoBulkEntries entries + 1
  | .held _ => 1
def uptoBulkAll {H : Type} : List (DataW H) → Nat
  | [] => 0
  | d :: r => uptoBulk d + uptoBulkAll r
def uptoBulkEntries {H : Type} : List (Lit × DataW H) → Nat
  | [] => 0
  | x :: r => uptoBulkEntry x + uptoBulkEntries r
def uptoBulkEntry {H : Type} : Lit × DataW H → Nat
  | (.string bytes, d) => bytes.length + uptoBulk d + 1
  | (_, d) => uptoBulk d + 1
 end
def uptoSmall : (H : Type) → List (DataW H) → Bool := fun _ ds => decide (uptoBulkAll ds ≤ 1048576)
def OpenSpec.upto (s : _root_.Go.ChangeSpec) : _root_.Go.OpenSpec := { _root_.Go.OpenSpec.ofChange s with cond := some uptoSmall }

/-- 'laws.FnExactSymmetriesOf', WHERE WHAT IT READS IS OF BULK AT MOST 1048576: true; the input reads as it did. -/
def fnExactSymmetriesOfUptoRow : OpenClaim := { program := "ytpilmhjbgbpbmaa", sum := "dcfe4b998d46d730d58d6a787cc6e2b936f03f11d5928827bbdd3042c663a5dc", func := "loop.example/g00919/laws.FnExactSymmetriesOf", spec := "fnExactSymmetriesOf", unfollowed := true, recurses := true, plainKeys := false, apart := false, narrowed := true }
def FnExactSymmetriesOfUptoSaid : Prop := fnExactSymmetriesOfUptoRow.holds Try.pinned (OpenSpec.upto fnExactSymmetriesOfSpec)

/-- 'laws.FnExactOneSidedForm', WHERE WHAT IT READS IS OF BULK AT MOST 1048576: true; the input reads as it did. -/
def fnExactOneSidedFormUptoRow : OpenClaim := { program := "ytpilmhjbgbpbmaa", sum := "dcfe4b998d46d730d58d6a787cc6e2b936f03f11d5928827bbdd3042c663a5dc", func := "loop.example/g00919/laws.FnExactOneSidedForm", spec := "fnExactOneSidedForm", unfollowed := true, recurses := true, plainKeys := false, apart := false, narrowed := true }
def FnExactOneSidedFormUptoSaid : Prop := fnExactOneSidedFormUptoRow.holds Try.pinned (OpenSpec.upto fnExactOneSidedFormSpec)

/-- 'laws.FnExactFreeForm', WHERE WHAT IT READS IS OF BULK AT MOST 1048576: true; the input reads as it did. -/
def fnExactFreeFormUptoRow : OpenClaim := { program := "ytpilmhjbgbpbmaa", sum := "dcfe4b998d46d730d58d6a787cc6e2b936f03f11d5928827bbdd3042c663a5dc", func := "loop.example/g00919/laws.FnExactFreeForm", spec := "fnExactFreeForm", unfollowed := true, recurses := true, plainKeys := false, apart := false, narrowed := true }
def FnExactFreeFormUptoSaid : Prop := fnExactFreeFormUptoRow.holds Try.pinned (OpenSpec.upto fnExactFreeFormSpec)

/-- 'laws.FnParts', WHERE WHAT IT READS IS OF BULK AT MOST 1048576: true; the input reads as it did. -/
def fnPartsUptoRow : OpenClaim := { program := "ytpilmhjbgbpbmaa", sum := "dcfe4b998d46d730d58d6a787cc6e2b936f03f11d5928827bbdd3042c663a5dc", func := "loop.example/g00919/laws.FnParts", spec := "fnParts", unfollowed := true, recurses := true, plainKeys := false, apart := false, narrowed := true }
def FnPartsUptoSaid : Prop := fnPartsUptoRow.holds Try.pinned (OpenSpec.upto fnPartsSpec)

/-- 'laws.FnExactFixedShapes', WHERE WHAT IT READS IS OF BULK AT MOST 1048576: true; the input reads as it did. -/
def fnExactFixedShapesUptoRow : OpenClaim := { program := "ytpilmhjbgbpbmaa", sum := "dcfe4b998d46d730d58d6a787cc6e2b936f03f11d5928827bbdd3042c663a5dc", func := "loop.example/g00919/laws.FnExactFixedShapes", spec := "fnExactFixedShapes", unfollowed := true, recurses := true, plainKeys := false, apart := false, narrowed := true }
def FnExactFixedShapesUptoSaid : Prop := fnExactFixedShapesUptoRow.holds Try.pinned (OpenSpec.upto fnExactFixedShapesSpec)

/-- 'laws.FnExactFormsOf', WHERE WHAT IT READS IS OF BULK AT MOST 1048576: true; the input reads as it did. -/
def fnExactFormsOfUptoRow : OpenClaim := { program := "ytpilmhjbgbpbmaa", sum := "dcfe4b998d46d730d58d6a787cc6e2b936f03f11d5928827bbdd3042c663a5dc", func := "loop.example/g00919/laws.FnExactFormsOf", spec := "fnExactFormsOf", unfollowed := true, recurses := true, plainKeys := false, apart := false, narrowed := true }
def FnExactFormsOfUptoSaid : Prop := fnExactFormsOfUptoRow.holds Try.pinned (OpenSpec.upto fnExactFormsOfSpec)

/-- 'laws.FnExactCountShapes', WHERE WHAT IT READS IS OF BULK AT MOST 1048576: true; the input reads as it did. -/
def fnExactCountShapesUptoRow : OpenClaim := { program := "ytpilmhjbgbpbmaa", sum := "dcfe4b998d46d730d58d6a787cc6e2b936f03f11d5928827bbdd3042c663a5dc", func := "loop.example/g00919/laws.FnExactCountShapes", spec := "fnExactCountShapes", unfollowed := true, recurses := true, plainKeys := false, apart := false, narrowed := true }
def FnExactCountShapesUptoSaid : Prop := fnExactCountShapesUptoRow.holds Try.pinned (OpenSpec.upto fnExactCountShapesSpec)

/-- 'laws.FnExactShrinkShape', WHERE WHAT IT READS IS OF BULK AT MOST 1048576: true; the input reads as it did. -/
def fnExactShrinkShapeUptoRow : OpenClaim := { program := "ytpilmhjbgbpbmaa", sum := "dcfe4b998d46d730d58d6a787cc6e2b936f03f11d5928827bbdd3042c663a5dc", func := "loop.example/g00919/laws.FnExactShrinkShape", spec := "fnExactShrinkShape", unfollowed := true, recurses := true, plainKeys := false, apart := false, narrowed := true }
def FnExactShrinkShapeUptoSaid : Prop := fnExactShrinkShapeUptoRow.holds Try.pinned (OpenSpec.upto fnExactShrinkShapeSpec)

/-- 'laws.FnExactFreeShapes', WHERE WHAT IT READS IS OF BULK AT MOST 1048576: true; the input reads as it did. -/
def fnExactFreeShapesUptoRow : OpenClaim := { program := "ytpilmhjbgbpbmaa", sum := "dcfe4b998d46d730d58d6a787cc6e2b936f03f11d5928827bbdd3042c663a5dc", func := "loop.example/g00919/laws.FnExactFreeShapes", spec := "fnExactFreeShapes", unfollowed := true, recurses := true, plainKeys := false, apart := false, narrowed := true }
def FnExactFreeShapesUptoSaid : Prop := fnExactFreeShapesUptoRow.holds Try.pinned (OpenSpec.upto fnExactFreeShapesSpec)

/-- 'laws.FnExactOneSidedShapes', WHERE WHAT IT READS IS OF BULK AT MOST 1048576: true; the input reads as it did. -/
def fnExactOneSidedShapesUptoRow : OpenClaim := { program := "ytpilmhjbgbpbmaa", sum := "dcfe4b998d46d730d58d6a787cc6e2b936f03f11d5928827bbdd3042c663a5dc", func := "loop.example/g00919/laws.FnExactOneSidedShapes", spec := "fnExactOneSidedShapes", unfollowed := true, recurses := true, plainKeys := false, apart := false, narrowed := true }
def FnExactOneSidedShapesUptoSaid : Prop := fnExactOneSidedShapesUptoRow.holds Try.pinned (OpenSpec.upto fnExactOneSidedShapesSpec)

end Rows
end Go.Proofs.Ytpilmhjbgbpbmaa
