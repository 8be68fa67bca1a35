/-
  No cell of these rows narrows 'for every input' (looked for: loops, veiled, ifaces, maps, wideKeys, modest, calm, conditions, laid).
  DERIVED. THE GIVEN ROWS OF THIS SEAT. 13 by the template 'for every input the law returns true; each argument reads behind the call as it read before'; 0 by the template 'total and deterministic' (their statements: YtlhlilgienicfaaTotals.lean).
  GIVEN WITH THE SEED: the statements are not yours to turn. If you find one false, say at which input.
  Laid BY PROGRAM, IN A SANDBOX (cutbox-rows.mjs): the forced cells as the released guide's own fill.sh prints them over the translation 2a6a2be5ee2e79e2… (all of the seat's roots in one cut). By AI agents, Wed Nov 11 2026. No macro, syntax, notation, axiom, sorry.
-/
import Derived.Test.YtlhlilgienicfaaChecked
import GoSem.Claim
import GoSem.ClaimJoined
import GoSem.ClaimMapViews
import Derived.JoinedTies
import Derived.KernelRfl
namespace Go.Proofs.Ytlhlilgienicfaa
/- THE CELL 'sum', in the pinned program and in every row, IS THE sha256 OF THE DUMP (.gsa) THAT YtlhlilgienicfaaProg.lean LOADS. Nothing in Lean hashes anything: it is a label: what it is worth is what the hold of that sum in a sandbox is worth. -/
noncomputable def Try.pinned : Pinned := { name := "ytlhlilgienicfaa", sum := "2a6a2be5ee2e79e2c27ed5bdce6d93f7e244b046df5725519588b6edd63e454d", checked := Try.checked }
namespace Rows
def none {H : Type} : Left H := { results := [], args := [] }

/-- 'laws.FnExactIsShape': WHATEVER THE INPUT: true; the input reads as it did. -/
def fnExactIsShapeSpec : ChangeSpec := { name := "fnExactIsShape", fn := fun _ => fun
  | [d] => { results := [.lit (.bool true)], args := [d] }
  | _ => none }
def fnExactIsShapeRow : OpenClaim := { program := "ytlhlilgienicfaa", sum := "2a6a2be5ee2e79e2c27ed5bdce6d93f7e244b046df5725519588b6edd63e454d", func := "loop.example/g00919/laws.FnExactIsShape", spec := "fnExactIsShape", apart := false }
def FnExactIsShapeSaid : Prop := fnExactIsShapeRow.holds Try.pinned (OpenSpec.ofChange fnExactIsShapeSpec)

/-- ITS FALSE NEIGHBOUR: 'it returns false'. Refute it at one input. -/
def fnExactIsShapeWrong : ChangeSpec := { name := "fnExactIsShape", fn := fun _ => fun
  | [d] => { results := [.lit (.bool false)], args := [d] }
  | _ => none }
def FnExactIsShapeWrongFalsely : Prop := fnExactIsShapeRow.holds Try.pinned (OpenSpec.ofChange fnExactIsShapeWrong)

/-- 'laws.FnExactCompareShapes': WHATEVER THE INPUT: true; the input reads as it did. -/
def fnExactCompareShapesSpec : ChangeSpec := { name := "fnExactCompareShapes", fn := fun _ => fun
  | [d1, d2] => { results := [.lit (.bool true)], args := [d1, d2] }
  | _ => none }
def fnExactCompareShapesRow : OpenClaim := { program := "ytlhlilgienicfaa", sum := "2a6a2be5ee2e79e2c27ed5bdce6d93f7e244b046df5725519588b6edd63e454d", func := "loop.example/g00919/laws.FnExactCompareShapes", spec := "fnExactCompareShapes", unfollowed := true, recurses := true, apart := false }
def FnExactCompareShapesSaid : Prop := fnExactCompareShapesRow.holds Try.pinned (OpenSpec.ofChange fnExactCompareShapesSpec)

/-- ITS FALSE NEIGHBOUR: 'it returns false'. Refute it at one input. -/
def fnExactCompareShapesWrong : ChangeSpec := { name := "fnExactCompareShapes", fn := fun _ => fun
  | [d1, d2] => { results := [.lit (.bool false)], args := [d1, d2] }
  | _ => none }
def FnExactCompareShapesWrongFalsely : Prop := fnExactCompareShapesRow.holds Try.pinned (OpenSpec.ofChange fnExactCompareShapesWrong)

/-- 'laws.FnExactHasCell': WHATEVER THE INPUT: true; the input reads as it did. -/
def fnExactHasCellSpec : ChangeSpec := { name := "fnExactHasCell", fn := fun _ => fun
  | [d1, d2] => { results := [.lit (.bool true)], args := [d1, d2] }
  | _ => none }
def fnExactHasCellRow : OpenClaim := { program := "ytlhlilgienicfaa", sum := "2a6a2be5ee2e79e2c27ed5bdce6d93f7e244b046df5725519588b6edd63e454d", func := "loop.example/g00919/laws.FnExactHasCell", spec := "fnExactHasCell", apart := false }
def FnExactHasCellSaid : Prop := fnExactHasCellRow.holds Try.pinned (OpenSpec.ofChange fnExactHasCellSpec)

/-- ITS FALSE NEIGHBOUR: 'it returns false'. Refute it at one input. -/
def fnExactHasCellWrong : ChangeSpec := { name := "fnExactHasCell", fn := fun _ => fun
  | [d1, d2] => { results := [.lit (.bool false)], args := [d1, d2] }
  | _ => none }
def FnExactHasCellWrongFalsely : Prop := fnExactHasCellRow.holds Try.pinned (OpenSpec.ofChange fnExactHasCellWrong)

/-- 'laws.FnExactWeightOf': WHATEVER THE INPUT: true; the input reads as it did. -/
def fnExactWeightOfSpec : ChangeSpec := { name := "fnExactWeightOf", fn := fun _ => fun
  | [d] => { results := [.lit (.bool true)], args := [d] }
  | _ => none }
def fnExactWeightOfRow : OpenClaim := { program := "ytlhlilgienicfaa", sum := "2a6a2be5ee2e79e2c27ed5bdce6d93f7e244b046df5725519588b6edd63e454d", func := "loop.example/g00919/laws.FnExactWeightOf", spec := "fnExactWeightOf", apart := false }
def FnExactWeightOfSaid : Prop := fnExactWeightOfRow.holds Try.pinned (OpenSpec.ofChange fnExactWeightOfSpec)

/-- ITS FALSE NEIGHBOUR: 'it returns false'. Refute it at one input. -/
def fnExactWeightOfWrong : ChangeSpec := { name := "fnExactWeightOf", fn := fun _ => fun
  | [d] => { results := [.lit (.bool false)], args := [d] }
  | _ => none }
def FnExactWeightOfWrongFalsely : Prop := fnExactWeightOfRow.holds Try.pinned (OpenSpec.ofChange fnExactWeightOfWrong)

/-- 'laws.FnExactTouchCount': WHATEVER THE INPUT: true; the input reads as it did. -/
def fnExactTouchCountSpec : ChangeSpec := { name := "fnExactTouchCount", fn := fun _ => fun
  | [d] => { results := [.lit (.bool true)], args := [d] }
  | _ => none }
def fnExactTouchCountRow : OpenClaim := { program := "ytlhlilgienicfaa", sum := "2a6a2be5ee2e79e2c27ed5bdce6d93f7e244b046df5725519588b6edd63e454d", func := "loop.example/g00919/laws.FnExactTouchCount", spec := "fnExactTouchCount", apart := false }
def FnExactTouchCountSaid : Prop := fnExactTouchCountRow.holds Try.pinned (OpenSpec.ofChange fnExactTouchCountSpec)

/-- ITS FALSE NEIGHBOUR: 'it returns false'. Refute it at one input. -/
def fnExactTouchCountWrong : ChangeSpec := { name := "fnExactTouchCount", fn := fun _ => fun
  | [d] => { results := [.lit (.bool false)], args := [d] }
  | _ => none }
def FnExactTouchCountWrongFalsely : Prop := fnExactTouchCountRow.holds Try.pinned (OpenSpec.ofChange fnExactTouchCountWrong)

/-- 'laws.FnExactSizeOf': WHATEVER THE INPUT: true; the input reads as it did. -/
def fnExactSizeOfSpec : ChangeSpec := { name := "fnExactSizeOf", fn := fun _ => fun
  | [d] => { results := [.lit (.bool true)], args := [d] }
  | _ => none }
def fnExactSizeOfRow : OpenClaim := { program := "ytlhlilgienicfaa", sum := "2a6a2be5ee2e79e2c27ed5bdce6d93f7e244b046df5725519588b6edd63e454d", func := "loop.example/g00919/laws.FnExactSizeOf", spec := "fnExactSizeOf", apart := false }
def FnExactSizeOfSaid : Prop := fnExactSizeOfRow.holds Try.pinned (OpenSpec.ofChange fnExactSizeOfSpec)

/-- ITS FALSE NEIGHBOUR: 'it returns false'. Refute it at one input. -/
def fnExactSizeOfWrong : ChangeSpec := { name := "fnExactSizeOf", fn := fun _ => fun
  | [d] => { results := [.lit (.bool false)], args := [d] }
  | _ => none }
def FnExactSizeOfWrongFalsely : Prop := fnExactSizeOfRow.holds Try.pinned (OpenSpec.ofChange fnExactSizeOfWrong)

/-- 'laws.FnExactLongestLine': WHATEVER THE INPUT: true; the input reads as it did. -/
def fnExactLongestLineSpec : ChangeSpec := { name := "fnExactLongestLine", fn := fun _ => fun
  | [d] => { results := [.lit (.bool true)], args := [d] }
  | _ => none }
def fnExactLongestLineRow : OpenClaim := { program := "ytlhlilgienicfaa", sum := "2a6a2be5ee2e79e2c27ed5bdce6d93f7e244b046df5725519588b6edd63e454d", func := "loop.example/g00919/laws.FnExactLongestLine", spec := "fnExactLongestLine", apart := false }
def FnExactLongestLineSaid : Prop := fnExactLongestLineRow.holds Try.pinned (OpenSpec.ofChange fnExactLongestLineSpec)

/-- ITS FALSE NEIGHBOUR: 'it returns false'. Refute it at one input. -/
def fnExactLongestLineWrong : ChangeSpec := { name := "fnExactLongestLine", fn := fun _ => fun
  | [d] => { results := [.lit (.bool false)], args := [d] }
  | _ => none }
def FnExactLongestLineWrongFalsely : Prop := fnExactLongestLineRow.holds Try.pinned (OpenSpec.ofChange fnExactLongestLineWrong)

/-- 'laws.FnExactConvexityOf': WHATEVER THE INPUT: true; the input reads as it did. -/
def fnExactConvexityOfSpec : ChangeSpec := { name := "fnExactConvexityOf", fn := fun _ => fun
  | [d] => { results := [.lit (.bool true)], args := [d] }
  | _ => none }
def fnExactConvexityOfRow : OpenClaim := { program := "ytlhlilgienicfaa", sum := "2a6a2be5ee2e79e2c27ed5bdce6d93f7e244b046df5725519588b6edd63e454d", func := "loop.example/g00919/laws.FnExactConvexityOf", spec := "fnExactConvexityOf", apart := false }
def FnExactConvexityOfSaid : Prop := fnExactConvexityOfRow.holds Try.pinned (OpenSpec.ofChange fnExactConvexityOfSpec)

/-- ITS FALSE NEIGHBOUR: 'it returns false'. Refute it at one input. -/
def fnExactConvexityOfWrong : ChangeSpec := { name := "fnExactConvexityOf", fn := fun _ => fun
  | [d] => { results := [.lit (.bool false)], args := [d] }
  | _ => none }
def FnExactConvexityOfWrongFalsely : Prop := fnExactConvexityOfRow.holds Try.pinned (OpenSpec.ofChange fnExactConvexityOfWrong)

/-- 'laws.FnExactEdgeCount': WHATEVER THE INPUT: true; the input reads as it did. -/
def fnExactEdgeCountSpec : ChangeSpec := { name := "fnExactEdgeCount", fn := fun _ => fun
  | [d] => { results := [.lit (.bool true)], args := [d] }
  | _ => none }
def fnExactEdgeCountRow : OpenClaim := { program := "ytlhlilgienicfaa", sum := "2a6a2be5ee2e79e2c27ed5bdce6d93f7e244b046df5725519588b6edd63e454d", func := "loop.example/g00919/laws.FnExactEdgeCount", spec := "fnExactEdgeCount", apart := false }
def FnExactEdgeCountSaid : Prop := fnExactEdgeCountRow.holds Try.pinned (OpenSpec.ofChange fnExactEdgeCountSpec)

/-- ITS FALSE NEIGHBOUR: 'it returns false'. Refute it at one input. -/
def fnExactEdgeCountWrong : ChangeSpec := { name := "fnExactEdgeCount", fn := fun _ => fun
  | [d] => { results := [.lit (.bool false)], args := [d] }
  | _ => none }
def FnExactEdgeCountWrongFalsely : Prop := fnExactEdgeCountRow.holds Try.pinned (OpenSpec.ofChange fnExactEdgeCountWrong)

/-- 'laws.FnExactMoveShape': WHATEVER THE INPUT: true; the input reads as it did. -/
def fnExactMoveShapeSpec : ChangeSpec := { name := "fnExactMoveShape", fn := fun _ => fun
  | [d1, d2, d3] => { results := [.lit (.bool true)], args := [d1, d2, d3] }
  | _ => none }
def fnExactMoveShapeRow : OpenClaim := { program := "ytlhlilgienicfaa", sum := "2a6a2be5ee2e79e2c27ed5bdce6d93f7e244b046df5725519588b6edd63e454d", func := "loop.example/g00919/laws.FnExactMoveShape", spec := "fnExactMoveShape", apart := false }
def FnExactMoveShapeSaid : Prop := fnExactMoveShapeRow.holds Try.pinned (OpenSpec.ofChange fnExactMoveShapeSpec)

/-- ITS FALSE NEIGHBOUR: 'it returns false'. Refute it at one input. -/
def fnExactMoveShapeWrong : ChangeSpec := { name := "fnExactMoveShape", fn := fun _ => fun
  | [d1, d2, d3] => { results := [.lit (.bool false)], args := [d1, d2, d3] }
  | _ => none }
def FnExactMoveShapeWrongFalsely : Prop := fnExactMoveShapeRow.holds Try.pinned (OpenSpec.ofChange fnExactMoveShapeWrong)

/-- 'laws.FnExactNormalForm': WHATEVER THE INPUT: true; the input reads as it did. -/
def fnExactNormalFormSpec : ChangeSpec := { name := "fnExactNormalForm", fn := fun _ => fun
  | [d] => { results := [.lit (.bool true)], args := [d] }
  | _ => none }
def fnExactNormalFormRow : OpenClaim := { program := "ytlhlilgienicfaa", sum := "2a6a2be5ee2e79e2c27ed5bdce6d93f7e244b046df5725519588b6edd63e454d", func := "loop.example/g00919/laws.FnExactNormalForm", spec := "fnExactNormalForm", apart := false }
def FnExactNormalFormSaid : Prop := fnExactNormalFormRow.holds Try.pinned (OpenSpec.ofChange fnExactNormalFormSpec)

/-- ITS FALSE NEIGHBOUR: 'it returns false'. Refute it at one input. -/
def fnExactNormalFormWrong : ChangeSpec := { name := "fnExactNormalForm", fn := fun _ => fun
  | [d] => { results := [.lit (.bool false)], args := [d] }
  | _ => none }
def FnExactNormalFormWrongFalsely : Prop := fnExactNormalFormRow.holds Try.pinned (OpenSpec.ofChange fnExactNormalFormWrong)

/-- 'laws.FnExactColumnCounts': WHATEVER THE INPUT: true; the input reads as it did. -/
def fnExactColumnCountsSpec : ChangeSpec := { name := "fnExactColumnCounts", fn := fun _ => fun
  | [d] => { results := [.lit (.bool true)], args := [d] }
  | _ => none }
def fnExactColumnCountsRow : OpenClaim := { program := "ytlhlilgienicfaa", sum := "2a6a2be5ee2e79e2c27ed5bdce6d93f7e244b046df5725519588b6edd63e454d", func := "loop.example/g00919/laws.FnExactColumnCounts", spec := "fnExactColumnCounts", apart := false }
def FnExactColumnCountsSaid : Prop := fnExactColumnCountsRow.holds Try.pinned (OpenSpec.ofChange fnExactColumnCountsSpec)

/-- ITS FALSE NEIGHBOUR: 'it returns false'. Refute it at one input. -/
def fnExactColumnCountsWrong : ChangeSpec := { name := "fnExactColumnCounts", fn := fun _ => fun
  | [d] => { results := [.lit (.bool false)], args := [d] }
  | _ => none }
def FnExactColumnCountsWrongFalsely : Prop := fnExactColumnCountsRow.holds Try.pinned (OpenSpec.ofChange fnExactColumnCountsWrong)

/-- 'laws.FnExactRowCounts': WHATEVER THE INPUT: true; the input reads as it did. -/
def fnExactRowCountsSpec : ChangeSpec := { name := "fnExactRowCounts", fn := fun _ => fun
  | [d] => { results := [.lit (.bool true)], args := [d] }
  | _ => none }
def fnExactRowCountsRow : OpenClaim := { program := "ytlhlilgienicfaa", sum := "2a6a2be5ee2e79e2c27ed5bdce6d93f7e244b046df5725519588b6edd63e454d", func := "loop.example/g00919/laws.FnExactRowCounts", spec := "fnExactRowCounts", apart := false }
def FnExactRowCountsSaid : Prop := fnExactRowCountsRow.holds Try.pinned (OpenSpec.ofChange fnExactRowCountsSpec)

/-- ITS FALSE NEIGHBOUR: 'it returns false'. Refute it at one input. -/
def fnExactRowCountsWrong : ChangeSpec := { name := "fnExactRowCounts", fn := fun _ => fun
  | [d] => { results := [.lit (.bool false)], args := [d] }
  | _ => none }
def FnExactRowCountsWrongFalsely : Prop := fnExactRowCountsRow.holds Try.pinned (OpenSpec.ofChange fnExactRowCountsWrong)

/- THE SECOND FORM. 'bulk': how many values and letters a reading holds, each counted each time it is reached (what is shared counts as often as it is met; a slice's spare places count too). A statement '..UptoSaid' is the law's where the arguments, and the package variables that the reading takes, are together of bulk at most 1048576: NARROWER than '..Said'. Prove '..Said' where nothing that the law and all that it calls make is longer than what came in: it says more and counts as full. Else prove '..UptoSaid'. A law counts once. -/
mutual
def uptoBulk {H : Type} : DataW H → Nat
  | .lit (.string bytes) => bytes.length + 1
  | .lit _ => 1
  | .nil => 1
  | .ptr d => uptoBulk d + 1
  | .slice elems spare => uptoBulkAll elems + uptoBulkAll spare + 1
  | .agg parts => uptoBulkAll parts + 1
  | .iface _ d => uptoBulk d + 1
  | .map entries => uptoBulkEntries entries + 1
  | .held _ => 1
def uptoBulkAll {H : Type} : List (DataW H) → Nat
  | [] => 0
  | d :: r => uptoBulk d + uptoBulkAll r
def uptoBulkEntries {H : Type} : List (Lit × DataW H) → Nat
  | [] => 0
  | x :: r => uptoBulkEntry x + uptoBulkEntries r
def uptoBulkEntry {H : Type} : Lit × DataW H → Nat
  | (.string bytes, d) => bytes.length + uptoBulk d + 1
  | (_, d) => uptoBulk d + 1
 end
def uptoSmall : (H : Type) → List (DataW H) → Bool := fun _ ds => decide (uptoBulkAll ds ≤ 1048576)
def OpenSpec.upto (s : _root_.Go.ChangeSpec) : _root_.Go.OpenSpec := { _root_.Go.OpenSpec.ofChange s with cond := some uptoSmall }

/-- 'laws.FnExactIsShape', WHERE WHAT IT READS IS OF BULK AT MOST 1048576: true; the input reads as it did. -/
def fnExactIsShapeUptoRow : OpenClaim := { program := "ytlhlilgienicfaa", sum := "2a6a2be5ee2e79e2c27ed5bdce6d93f7e244b046df5725519588b6edd63e454d", func := "loop.example/g00919/laws.FnExactIsShape", spec := "fnExactIsShape", apart := false, narrowed := true }
def FnExactIsShapeUptoSaid : Prop := fnExactIsShapeUptoRow.holds Try.pinned (OpenSpec.upto fnExactIsShapeSpec)

/-- 'laws.FnExactCompareShapes', WHERE WHAT IT READS IS OF BULK AT MOST 1048576: true; the input reads as it did. -/
def fnExactCompareShapesUptoRow : OpenClaim := { program := "ytlhlilgienicfaa", sum := "2a6a2be5ee2e79e2c27ed5bdce6d93f7e244b046df5725519588b6edd63e454d", func := "loop.example/g00919/laws.FnExactCompareShapes", spec := "fnExactCompareShapes", unfollowed := true, recurses := true, apart := false, narrowed := true }
def FnExactCompareShapesUptoSaid : Prop := fnExactCompareShapesUptoRow.holds Try.pinned (OpenSpec.upto fnExactCompareShapesSpec)

/-- 'laws.FnExactHasCell', WHERE WHAT IT READS IS OF BULK AT MOST 1048576: true; the input reads as it did. -/
def fnExactHasCellUptoRow : OpenClaim := { program := "ytlhlilgienicfaa", sum := "2a6a2be5ee2e79e2c27ed5bdce6d93f7e244b046df5725519588b6edd63e454d", func := "loop.example/g00919/laws.FnExactHasCell", spec := "fnExactHasCell", apart := false, narrowed := true }
def FnExactHasCellUptoSaid : Prop := fnExactHasCellUptoRow.holds Try.pinned (OpenSpec.upto fnExactHasCellSpec)

/-- 'laws.FnExactWeightOf', WHERE WHAT IT READS IS OF BULK AT MOST 1048576: true; the input reads as it did. -/
def fnExactWeightOfUptoRow : OpenClaim := { program := "ytlhlilgienicfaa", sum := "2a6a2be5ee2e79e2c27ed5bdce6d93f7e244b046df5725519588b6edd63e454d", func := "loop.example/g00919/laws.FnExactWeightOf", spec := "fnExactWeightOf", apart := false, narrowed := true }
def FnExactWeightOfUptoSaid : Prop := fnExactWeightOfUptoRow.holds Try.pinned (OpenSpec.upto fnExactWeightOfSpec)

/-- 'laws.FnExactTouchCount', WHERE WHAT IT READS IS OF BULK AT MOST 1048576: true; the input reads as it did. -/
def fnExactTouchCountUptoRow : OpenClaim := { program := "ytlhlilgienicfaa", sum := "2a6a2be5ee2e79e2c27ed5bdce6d93f7e244b046df5725519588b6edd63e454d", func := "loop.example/g00919/laws.FnExactTouchCount", spec := "fnExactTouchCount", apart := false, narrowed := true }
def FnExactTouchCountUptoSaid : Prop := fnExactTouchCountUptoRow.holds Try.pinned (OpenSpec.upto fnExactTouchCountSpec)

/-- 'laws.FnExactSizeOf', WHERE WHAT IT READS IS OF BULK AT MOST 1048576: true; the input reads as it did. -/
def fnExactSizeOfUptoRow : OpenClaim := { program := "ytlhlilgienicfaa", sum := "2a6a2be5ee2e79e2c27ed5bdce6d93f7e244b046df5725519588b6edd63e454d", func := "loop.example/g00919/laws.FnExactSizeOf", spec := "fnExactSizeOf", apart := false, narrowed := true }
def FnExactSizeOfUptoSaid : Prop := fnExactSizeOfUptoRow.holds Try.pinned (OpenSpec.upto fnExactSizeOfSpec)

/-- 'laws.FnExactLongestLine', WHERE WHAT IT READS IS OF BULK AT MOST 1048576: true; the input reads as it did. -/
def fnExactLongestLineUptoRow : OpenClaim := { program := "ytlhlilgienicfaa", sum := "2a6a2be5ee2e79e2c27ed5bdce6d93f7e244b046df5725519588b6edd63e454d", func := "loop.example/g00919/laws.FnExactLongestLine", spec := "fnExactLongestLine", apart := false, narrowed := true }
def FnExactLongestLineUptoSaid : Prop := fnExactLongestLineUptoRow.holds Try.pinned (OpenSpec.upto fnExactLongestLineSpec)

/-- 'laws.FnExactConvexityOf', WHERE WHAT IT READS IS OF BULK AT MOST 1048576: true; the input reads as it did. -/
def fnExactConvexityOfUptoRow : OpenClaim := { program := "ytlhlilgienicfaa", sum := "2a6a2be5ee2e79e2c27ed5bdce6d93f7e244b046df5725519588b6edd63e454d", func := "loop.example/g00919/laws.FnExactConvexityOf", spec := "fnExactConvexityOf", apart := false, narrowed := true }
def FnExactConvexityOfUptoSaid : Prop := fnExactConvexityOfUptoRow.holds Try.pinned (OpenSpec.upto fnExactConvexityOfSpec)

/-- 'laws.FnExactEdgeCount', WHERE WHAT IT READS IS OF BULK AT MOST 1048576: true; the input reads as it did. -/
def fnExactEdgeCountUptoRow : OpenClaim := { program := "ytlhlilgienicfaa", sum := "2a6a2be5ee2e79e2c27ed5bdce6d93f7e244b046df5725519588b6edd63e454d", func := "loop.example/g00919/laws.FnExactEdgeCount", spec := "fnExactEdgeCount", apart := false, narrowed := true }
def FnExactEdgeCountUptoSaid : Prop := fnExactEdgeCountUptoRow.holds Try.pinned (OpenSpec.upto fnExactEdgeCountSpec)

/-- 'laws.FnExactMoveShape', WHERE WHAT IT READS IS OF BULK AT MOST 1048576: true; the input reads as it did. -/
def fnExactMoveShapeUptoRow : OpenClaim := { program := "ytlhlilgienicfaa", sum := "2a6a2be5ee2e79e2c27ed5bdce6d93f7e244b046df5725519588b6edd63e454d", func := "loop.example/g00919/laws.FnExactMoveShape", spec := "fnExactMoveShape", apart := false, narrowed := true }
def FnExactMoveShapeUptoSaid : Prop := fnExactMoveShapeUptoRow.holds Try.pinned (OpenSpec.upto fnExactMoveShapeSpec)

/-- 'laws.FnExactNormalForm', WHERE WHAT IT READS IS OF BULK AT MOST 1048576: true; the input reads as it did. -/
def fnExactNormalFormUptoRow : OpenClaim := { program := "ytlhlilgienicfaa", sum := "2a6a2be5ee2e79e2c27ed5bdce6d93f7e244b046df5725519588b6edd63e454d", func := "loop.example/g00919/laws.FnExactNormalForm", spec := "fnExactNormalForm", apart := false, narrowed := true }
def FnExactNormalFormUptoSaid : Prop := fnExactNormalFormUptoRow.holds Try.pinned (OpenSpec.upto fnExactNormalFormSpec)

/-- 'laws.FnExactColumnCounts', WHERE WHAT IT READS IS OF BULK AT MOST 1048576: true; the input reads as it did. -/
def fnExactColumnCountsUptoRow : OpenClaim := { program := "ytlhlilgienicfaa", sum := "2a6a2be5ee2e79e2c27ed5bdce6d93f7e244b046df5725519588b6edd63e454d", func := "loop.example/g00919/laws.FnExactColumnCounts", spec := "fnExactColumnCounts", apart := false, narrowed := true }
def FnExactColumnCountsUptoSaid : Prop := fnExactColumnCountsUptoRow.holds Try.pinned (OpenSpec.upto fnExactColumnCountsSpec)

/-- 'laws.FnExactRowCounts', WHERE WHAT IT READS IS OF BULK AT MOST 1048576: true; the input reads as it did. -/
def fnExactRowCountsUptoRow : OpenClaim := { program := "ytlhlilgienicfaa", sum := "2a6a2be5ee2e79e2c27ed5bdce6d93f7e244b046df5725519588b6edd63e454d", func := "loop.example/g00919/laws.FnExactRowCounts", spec := "fnExactRowCounts", apart := false, narrowed := true }
def FnExactRowCountsUptoSaid : Prop := fnExactRowCountsUptoRow.holds Try.pinned (OpenSpec.upto fnExactRowCountsSpec)

end Rows
end Go.Proofs.Ytlhlilgienicfaa
