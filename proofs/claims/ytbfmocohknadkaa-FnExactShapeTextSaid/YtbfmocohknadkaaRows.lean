/-
  No cell of these rows narrows 'for every input' (looked for: loops, veiled, ifaces, maps, wideKeys, modest, calm, conditions, laid).
  DERIVED. THE GIVEN ROWS OF THIS SEAT. 12 by the template 'for every input the law returns true; each argument reads behind the call as it read before'; 0 by the template 'total and deterministic' (their statements: YtbfmocohknadkaaTotals.lean).
  GIVEN WITH THE SEED: the statements are not yours to turn. If you find one false, say at which input.
  Laid BY PROGRAM, IN A SANDBOX (cutbox-rows.mjs): the forced cells as the released guide's own fill.sh prints them over the translation 4c9a08ca740a8041… (all of the seat's roots in one cut). By AI agents, Wed Nov 11 2026. No macro, syntax, notation, axiom, sorry.
-/
import Derived.Test.YtbfmocohknadkaaChecked
import GoSem.Claim
import GoSem.ClaimJoined
import GoSem.ClaimMapViews
import Derived.JoinedTies
import Derived.KernelRfl
namespace Go.Proofs.Ytbfmocohknadkaa
/- THE CELL 'sum', in the pinned program and in every row, IS THE sha256 OF THE DUMP (.gsa) THAT YtbfmocohknadkaaProg.lean LOADS. Nothing in Lean hashes anything: it is a label: what it is worth is what the hold of that sum in a sandbox is worth. -/
noncomputable def Try.pinned : Pinned := { name := "ytbfmocohknadkaa", sum := "4c9a08ca740a80411b98a76c5d2b128ed02648fca2650c4a9834e4b25900b2d0", checked := Try.checked }
namespace Rows
def none {H : Type} : Left H := { results := [], args := [] }

/-- 'laws.FnExactComposeTurns': WHATEVER THE INPUT: true; the input reads as it did. -/
def fnExactComposeTurnsSpec : ChangeSpec := { name := "fnExactComposeTurns", fn := fun _ => fun
  | [d1, d2] => { results := [.lit (.bool true)], args := [d1, d2] }
  | _ => none }
def fnExactComposeTurnsRow : OpenClaim := { program := "ytbfmocohknadkaa", sum := "4c9a08ca740a80411b98a76c5d2b128ed02648fca2650c4a9834e4b25900b2d0", func := "loop.example/g00919/laws.FnExactComposeTurns", spec := "fnExactComposeTurns", plainKeys := false, apart := false }
def FnExactComposeTurnsSaid : Prop := fnExactComposeTurnsRow.holds Try.pinned (OpenSpec.ofChange fnExactComposeTurnsSpec)

/-- ITS FALSE NEIGHBOUR: 'it returns false'. Refute it at one input. -/
def fnExactComposeTurnsWrong : ChangeSpec := { name := "fnExactComposeTurns", fn := fun _ => fun
  | [d1, d2] => { results := [.lit (.bool false)], args := [d1, d2] }
  | _ => none }
def FnExactComposeTurnsWrongFalsely : Prop := fnExactComposeTurnsRow.holds Try.pinned (OpenSpec.ofChange fnExactComposeTurnsWrong)

/-- 'laws.FnExactInverseTurn': WHATEVER THE INPUT: true; the input reads as it did. -/
def fnExactInverseTurnSpec : ChangeSpec := { name := "fnExactInverseTurn", fn := fun _ => fun
  | [d] => { results := [.lit (.bool true)], args := [d] }
  | _ => none }
def fnExactInverseTurnRow : OpenClaim := { program := "ytbfmocohknadkaa", sum := "4c9a08ca740a80411b98a76c5d2b128ed02648fca2650c4a9834e4b25900b2d0", func := "loop.example/g00919/laws.FnExactInverseTurn", spec := "fnExactInverseTurn", plainKeys := false, apart := false }
def FnExactInverseTurnSaid : Prop := fnExactInverseTurnRow.holds Try.pinned (OpenSpec.ofChange fnExactInverseTurnSpec)

/-- ITS FALSE NEIGHBOUR: 'it returns false'. Refute it at one input. -/
def fnExactInverseTurnWrong : ChangeSpec := { name := "fnExactInverseTurn", fn := fun _ => fun
  | [d] => { results := [.lit (.bool false)], args := [d] }
  | _ => none }
def FnExactInverseTurnWrongFalsely : Prop := fnExactInverseTurnRow.holds Try.pinned (OpenSpec.ofChange fnExactInverseTurnWrong)

/-- 'laws.FnExactIsConnected': WHATEVER THE INPUT: true; the input reads as it did. -/
def fnExactIsConnectedSpec : ChangeSpec := { name := "fnExactIsConnected", fn := fun _ => fun
  | [d] => { results := [.lit (.bool true)], args := [d] }
  | _ => none }
def fnExactIsConnectedRow : OpenClaim := { program := "ytbfmocohknadkaa", sum := "4c9a08ca740a80411b98a76c5d2b128ed02648fca2650c4a9834e4b25900b2d0", func := "loop.example/g00919/laws.FnExactIsConnected", spec := "fnExactIsConnected", unfollowed := true, recurses := true, plainKeys := false, apart := false }
def FnExactIsConnectedSaid : Prop := fnExactIsConnectedRow.holds Try.pinned (OpenSpec.ofChange fnExactIsConnectedSpec)

/-- ITS FALSE NEIGHBOUR: 'it returns false'. Refute it at one input. -/
def fnExactIsConnectedWrong : ChangeSpec := { name := "fnExactIsConnected", fn := fun _ => fun
  | [d] => { results := [.lit (.bool false)], args := [d] }
  | _ => none }
def FnExactIsConnectedWrongFalsely : Prop := fnExactIsConnectedRow.holds Try.pinned (OpenSpec.ofChange fnExactIsConnectedWrong)

/-- 'laws.FnExactPartsOf': WHATEVER THE INPUT: true; the input reads as it did. -/
def fnExactPartsOfSpec : ChangeSpec := { name := "fnExactPartsOf", fn := fun _ => fun
  | [d] => { results := [.lit (.bool true)], args := [d] }
  | _ => none }
def fnExactPartsOfRow : OpenClaim := { program := "ytbfmocohknadkaa", sum := "4c9a08ca740a80411b98a76c5d2b128ed02648fca2650c4a9834e4b25900b2d0", func := "loop.example/g00919/laws.FnExactPartsOf", spec := "fnExactPartsOf", unfollowed := true, recurses := true, plainKeys := false, apart := false }
def FnExactPartsOfSaid : Prop := fnExactPartsOfRow.holds Try.pinned (OpenSpec.ofChange fnExactPartsOfSpec)

/-- ITS FALSE NEIGHBOUR: 'it returns false'. Refute it at one input. -/
def fnExactPartsOfWrong : ChangeSpec := { name := "fnExactPartsOf", fn := fun _ => fun
  | [d] => { results := [.lit (.bool false)], args := [d] }
  | _ => none }
def FnExactPartsOfWrongFalsely : Prop := fnExactPartsOfRow.holds Try.pinned (OpenSpec.ofChange fnExactPartsOfWrong)

/-- 'laws.FnCounts': WHATEVER THE INPUT: true; the input reads as it did. -/
def fnCountsSpec : ChangeSpec := { name := "fnCounts", fn := fun _ => fun
  | [d] => { results := [.lit (.bool true)], args := [d] }
  | _ => none }
def fnCountsRow : OpenClaim := { program := "ytbfmocohknadkaa", sum := "4c9a08ca740a80411b98a76c5d2b128ed02648fca2650c4a9834e4b25900b2d0", func := "loop.example/g00919/laws.FnCounts", spec := "fnCounts", plainKeys := false, apart := false }
def FnCountsSaid : Prop := fnCountsRow.holds Try.pinned (OpenSpec.ofChange fnCountsSpec)

/-- ITS FALSE NEIGHBOUR: 'it returns false'. Refute it at one input. -/
def fnCountsWrong : ChangeSpec := { name := "fnCounts", fn := fun _ => fun
  | [d] => { results := [.lit (.bool false)], args := [d] }
  | _ => none }
def FnCountsWrongFalsely : Prop := fnCountsRow.holds Try.pinned (OpenSpec.ofChange fnCountsWrong)

/-- 'laws.FnExactShapeText': WHATEVER THE INPUT: true; the input reads as it did. -/
def fnExactShapeTextSpec : ChangeSpec := { name := "fnExactShapeText", fn := fun _ => fun
  | [d] => { results := [.lit (.bool true)], args := [d] }
  | _ => none }
def fnExactShapeTextRow : OpenClaim := { program := "ytbfmocohknadkaa", sum := "4c9a08ca740a80411b98a76c5d2b128ed02648fca2650c4a9834e4b25900b2d0", func := "loop.example/g00919/laws.FnExactShapeText", spec := "fnExactShapeText", inPlace := ["internal/abi.NoEscape", "internal/bytealg.MakeNoZero"], plainKeys := false, apart := false }
def FnExactShapeTextSaid : Prop := fnExactShapeTextRow.holds Try.pinned (OpenSpec.ofChange fnExactShapeTextSpec)

/-- ITS FALSE NEIGHBOUR: 'it returns false'. Refute it at one input. -/
def fnExactShapeTextWrong : ChangeSpec := { name := "fnExactShapeText", fn := fun _ => fun
  | [d] => { results := [.lit (.bool false)], args := [d] }
  | _ => none }
def FnExactShapeTextWrongFalsely : Prop := fnExactShapeTextRow.holds Try.pinned (OpenSpec.ofChange fnExactShapeTextWrong)

/-- 'laws.FnExactSortCells': WHATEVER THE INPUT: true; the input reads as it did. -/
def fnExactSortCellsSpec : ChangeSpec := { name := "fnExactSortCells", fn := fun _ => fun
  | [d] => { results := [.lit (.bool true)], args := [d] }
  | _ => none }
def fnExactSortCellsRow : OpenClaim := { program := "ytbfmocohknadkaa", sum := "4c9a08ca740a80411b98a76c5d2b128ed02648fca2650c4a9834e4b25900b2d0", func := "loop.example/g00919/laws.FnExactSortCells", spec := "fnExactSortCells", unfollowed := true, recurses := true, plainKeys := false, apart := false }
def FnExactSortCellsSaid : Prop := fnExactSortCellsRow.holds Try.pinned (OpenSpec.ofChange fnExactSortCellsSpec)

/-- ITS FALSE NEIGHBOUR: 'it returns false'. Refute it at one input. -/
def fnExactSortCellsWrong : ChangeSpec := { name := "fnExactSortCells", fn := fun _ => fun
  | [d] => { results := [.lit (.bool false)], args := [d] }
  | _ => none }
def FnExactSortCellsWrongFalsely : Prop := fnExactSortCellsRow.holds Try.pinned (OpenSpec.ofChange fnExactSortCellsWrong)

/-- 'laws.FnExactNeighboursOf': WHATEVER THE INPUT: true; the input reads as it did. -/
def fnExactNeighboursOfSpec : ChangeSpec := { name := "fnExactNeighboursOf", fn := fun _ => fun
  | [d] => { results := [.lit (.bool true)], args := [d] }
  | _ => none }
def fnExactNeighboursOfRow : OpenClaim := { program := "ytbfmocohknadkaa", sum := "4c9a08ca740a80411b98a76c5d2b128ed02648fca2650c4a9834e4b25900b2d0", func := "loop.example/g00919/laws.FnExactNeighboursOf", spec := "fnExactNeighboursOf", unfollowed := true, recurses := true, plainKeys := false, apart := false }
def FnExactNeighboursOfSaid : Prop := fnExactNeighboursOfRow.holds Try.pinned (OpenSpec.ofChange fnExactNeighboursOfSpec)

/-- ITS FALSE NEIGHBOUR: 'it returns false'. Refute it at one input. -/
def fnExactNeighboursOfWrong : ChangeSpec := { name := "fnExactNeighboursOf", fn := fun _ => fun
  | [d] => { results := [.lit (.bool false)], args := [d] }
  | _ => none }
def FnExactNeighboursOfWrongFalsely : Prop := fnExactNeighboursOfRow.holds Try.pinned (OpenSpec.ofChange fnExactNeighboursOfWrong)

/-- 'laws.FnExactJoinShapes': WHATEVER THE INPUT: true; the input reads as it did. -/
def fnExactJoinShapesSpec : ChangeSpec := { name := "fnExactJoinShapes", fn := fun _ => fun
  | [d1, d2] => { results := [.lit (.bool true)], args := [d1, d2] }
  | _ => none }
def fnExactJoinShapesRow : OpenClaim := { program := "ytbfmocohknadkaa", sum := "4c9a08ca740a80411b98a76c5d2b128ed02648fca2650c4a9834e4b25900b2d0", func := "loop.example/g00919/laws.FnExactJoinShapes", spec := "fnExactJoinShapes", unfollowed := true, recurses := true, plainKeys := false, apart := false }
def FnExactJoinShapesSaid : Prop := fnExactJoinShapesRow.holds Try.pinned (OpenSpec.ofChange fnExactJoinShapesSpec)

/-- ITS FALSE NEIGHBOUR: 'it returns false'. Refute it at one input. -/
def fnExactJoinShapesWrong : ChangeSpec := { name := "fnExactJoinShapes", fn := fun _ => fun
  | [d1, d2] => { results := [.lit (.bool false)], args := [d1, d2] }
  | _ => none }
def FnExactJoinShapesWrongFalsely : Prop := fnExactJoinShapesRow.holds Try.pinned (OpenSpec.ofChange fnExactJoinShapesWrong)

/-- 'laws.FnExactTurnShape': WHATEVER THE INPUT: true; the input reads as it did. -/
def fnExactTurnShapeSpec : ChangeSpec := { name := "fnExactTurnShape", fn := fun _ => fun
  | [d1, d2] => { results := [.lit (.bool true)], args := [d1, d2] }
  | _ => none }
def fnExactTurnShapeRow : OpenClaim := { program := "ytbfmocohknadkaa", sum := "4c9a08ca740a80411b98a76c5d2b128ed02648fca2650c4a9834e4b25900b2d0", func := "loop.example/g00919/laws.FnExactTurnShape", spec := "fnExactTurnShape", unfollowed := true, recurses := true, plainKeys := false, apart := false }
def FnExactTurnShapeSaid : Prop := fnExactTurnShapeRow.holds Try.pinned (OpenSpec.ofChange fnExactTurnShapeSpec)

/-- ITS FALSE NEIGHBOUR: 'it returns false'. Refute it at one input. -/
def fnExactTurnShapeWrong : ChangeSpec := { name := "fnExactTurnShape", fn := fun _ => fun
  | [d1, d2] => { results := [.lit (.bool false)], args := [d1, d2] }
  | _ => none }
def FnExactTurnShapeWrongFalsely : Prop := fnExactTurnShapeRow.holds Try.pinned (OpenSpec.ofChange fnExactTurnShapeWrong)

/-- 'laws.FnJoined': WHATEVER THE INPUT: true; the input reads as it did. -/
def fnJoinedSpec : ChangeSpec := { name := "fnJoined", fn := fun _ => fun
  | [d] => { results := [.lit (.bool true)], args := [d] }
  | _ => none }
def fnJoinedRow : OpenClaim := { program := "ytbfmocohknadkaa", sum := "4c9a08ca740a80411b98a76c5d2b128ed02648fca2650c4a9834e4b25900b2d0", func := "loop.example/g00919/laws.FnJoined", spec := "fnJoined", unfollowed := true, recurses := true, plainKeys := false, apart := false }
def FnJoinedSaid : Prop := fnJoinedRow.holds Try.pinned (OpenSpec.ofChange fnJoinedSpec)

/-- ITS FALSE NEIGHBOUR: 'it returns false'. Refute it at one input. -/
def fnJoinedWrong : ChangeSpec := { name := "fnJoined", fn := fun _ => fun
  | [d] => { results := [.lit (.bool false)], args := [d] }
  | _ => none }
def FnJoinedWrongFalsely : Prop := fnJoinedRow.holds Try.pinned (OpenSpec.ofChange fnJoinedWrong)

/-- 'laws.FnNormal': WHATEVER THE INPUT: true; the input reads as it did. -/
def fnNormalSpec : ChangeSpec := { name := "fnNormal", fn := fun _ => fun
  | [d] => { results := [.lit (.bool true)], args := [d] }
  | _ => none }
def fnNormalRow : OpenClaim := { program := "ytbfmocohknadkaa", sum := "4c9a08ca740a80411b98a76c5d2b128ed02648fca2650c4a9834e4b25900b2d0", func := "loop.example/g00919/laws.FnNormal", spec := "fnNormal", unfollowed := true, recurses := true, plainKeys := false, apart := false }
def FnNormalSaid : Prop := fnNormalRow.holds Try.pinned (OpenSpec.ofChange fnNormalSpec)

/-- ITS FALSE NEIGHBOUR: 'it returns false'. Refute it at one input. -/
def fnNormalWrong : ChangeSpec := { name := "fnNormal", fn := fun _ => fun
  | [d] => { results := [.lit (.bool false)], args := [d] }
  | _ => none }
def FnNormalWrongFalsely : Prop := fnNormalRow.holds Try.pinned (OpenSpec.ofChange fnNormalWrong)

/- THE SECOND FORM. 'bulk': how many values and letters a reading holds, each counted each time it is reached (what is shared counts as often as it is met; a slice's spare places count too). A statement '..UptoSaid' is the law's where the arguments, and the package variables that the reading takes, are together of bulk at most 1048576: NARROWER than '..Said'. Prove '..Said' where nothing that the law and all that it calls make is longer than what came in: it says more and counts as full. Else prove '..UptoSaid'. A law counts once. -/
mutual
def uptoBulk {H : Type} : DataW H → Nat
  | .lit (.string bytes) => bytes.length + 1
  | .lit _ => 1
  | .nil => 1
  | .ptr d => uptoBulk d + 1
  | .slice elems spare => uptoBulkAll elems + uptoBulkAll spare + 1
  | .agg parts => uptoBulkAll parts + 1
  | .iface _ d => uptoBulk d + 1
  | .map entries => uptoBulkEntries entries + 1
  | .held _ => 1
def uptoBulkAll {H : Type} : List (DataW H) → Nat
  | [] => 0
  | d :: r => uptoBulk d + uptoBulkAll r
def uptoBulkEntries {H : Type} : List (Lit × DataW H) → Nat
  | [] => 0
  | x :: r => uptoBulkEntry x + uptoBulkEntries r
def uptoBulkEntry {H : Type} : Lit × DataW H → Nat
  | (.string bytes, d) => bytes.length + uptoBulk d + 1
  | (_, d) => uptoBulk d + 1
 end
def uptoSmall : (H : Type) → List (DataW H) → Bool := fun _ ds => decide (uptoBulkAll ds ≤ 1048576)
def OpenSpec.upto (s : _root_.Go.ChangeSpec) : _root_.Go.OpenSpec := { _root_.Go.OpenSpec.ofChange s with cond := some uptoSmall }

/-- 'laws.FnExactComposeTurns', WHERE WHAT IT READS IS OF BULK AT MOST 1048576: true; the input reads as it did. -/
def fnExactComposeTurnsUptoRow : OpenClaim := { program := "ytbfmocohknadkaa", sum := "4c9a08ca740a80411b98a76c5d2b128ed02648fca2650c4a9834e4b25900b2d0", func := "loop.example/g00919/laws.FnExactComposeTurns", spec := "fnExactComposeTurns", plainKeys := false, apart := false, narrowed := true }
def FnExactComposeTurnsUptoSaid : Prop := fnExactComposeTurnsUptoRow.holds Try.pinned (OpenSpec.upto fnExactComposeTurnsSpec)

/-- 'laws.FnExactInverseTurn', WHERE WHAT IT READS IS OF BULK AT MOST 1048576: true; the input reads as it did. -/
def fnExactInverseTurnUptoRow : OpenClaim := { program := "ytbfmocohknadkaa", sum := "4c9a08ca740a80411b98a76c5d2b128ed02648fca2650c4a9834e4b25900b2d0", func := "loop.example/g00919/laws.FnExactInverseTurn", spec := "fnExactInverseTurn", plainKeys := false, apart := false, narrowed := true }
def FnExactInverseTurnUptoSaid : Prop := fnExactInverseTurnUptoRow.holds Try.pinned (OpenSpec.upto fnExactInverseTurnSpec)

/-- 'laws.FnExactIsConnected', WHERE WHAT IT READS IS OF BULK AT MOST 1048576: true; the input reads as it did. -/
def fnExactIsConnectedUptoRow : OpenClaim := { program := "ytbfmocohknadkaa", sum := "4c9a08ca740a80411b98a76c5d2b128ed02648fca2650c4a9834e4b25900b2d0", func := "loop.example/g00919/laws.FnExactIsConnected", spec := "fnExactIsConnected", unfollowed := true, recurses := true, plainKeys := false, apart := false, narrowed := true }
def FnExactIsConnectedUptoSaid : Prop := fnExactIsConnectedUptoRow.holds Try.pinned (OpenSpec.upto fnExactIsConnectedSpec)

/-- 'laws.FnExactPartsOf', WHERE WHAT IT READS IS OF BULK AT MOST 1048576: true; the input reads as it did. -/
def fnExactPartsOfUptoRow : OpenClaim := { program := "ytbfmocohknadkaa", sum := "4c9a08ca740a80411b98a76c5d2b128ed02648fca2650c4a9834e4b25900b2d0", func := "loop.example/g00919/laws.FnExactPartsOf", spec := "fnExactPartsOf", unfollowed := true, recurses := true, plainKeys := false, apart := false, narrowed := true }
def FnExactPartsOfUptoSaid : Prop := fnExactPartsOfUptoRow.holds Try.pinned (OpenSpec.upto fnExactPartsOfSpec)

/-- 'laws.FnCounts', WHERE WHAT IT READS IS OF BULK AT MOST 1048576: true; the input reads as it did. -/
def fnCountsUptoRow : OpenClaim := { program := "ytbfmocohknadkaa", sum := "4c9a08ca740a80411b98a76c5d2b128ed02648fca2650c4a9834e4b25900b2d0", func := "loop.example/g00919/laws.FnCounts", spec := "fnCounts", plainKeys := false, apart := false, narrowed := true }
def FnCountsUptoSaid : Prop := fnCountsUptoRow.holds Try.pinned (OpenSpec.upto fnCountsSpec)

/-- 'laws.FnExactShapeText', WHERE WHAT IT READS IS OF BULK AT MOST 1048576: true; the input reads as it did. -/
def fnExactShapeTextUptoRow : OpenClaim := { program := "ytbfmocohknadkaa", sum := "4c9a08ca740a80411b98a76c5d2b128ed02648fca2650c4a9834e4b25900b2d0", func := "loop.example/g00919/laws.FnExactShapeText", spec := "fnExactShapeText", inPlace := ["internal/abi.NoEscape", "internal/bytealg.MakeNoZero"], plainKeys := false, apart := false, narrowed := true }
def FnExactShapeTextUptoSaid : Prop := fnExactShapeTextUptoRow.holds Try.pinned (OpenSpec.upto fnExactShapeTextSpec)

/-- 'laws.FnExactSortCells', WHERE WHAT IT READS IS OF BULK AT MOST 1048576: true; the input reads as it did. -/
def fnExactSortCellsUptoRow : OpenClaim := { program := "ytbfmocohknadkaa", sum := "4c9a08ca740a80411b98a76c5d2b128ed02648fca2650c4a9834e4b25900b2d0", func := "loop.example/g00919/laws.FnExactSortCells", spec := "fnExactSortCells", unfollowed := true, recurses := true, plainKeys := false, apart := false, narrowed := true }
def FnExactSortCellsUptoSaid : Prop := fnExactSortCellsUptoRow.holds Try.pinned (OpenSpec.upto fnExactSortCellsSpec)

/-- 'laws.FnExactNeighboursOf', WHERE WHAT IT READS IS OF BULK AT MOST 1048576: true; the input reads as it did. -/
def fnExactNeighboursOfUptoRow : OpenClaim := { program := "ytbfmocohknadkaa", sum := "4c9a08ca740a80411b98a76c5d2b128ed02648fca2650c4a9834e4b25900b2d0", func := "loop.example/g00919/laws.FnExactNeighboursOf", spec := "fnExactNeighboursOf", unfollowed := true, recurses := true, plainKeys := false, apart := false, narrowed := true }
def FnExactNeighboursOfUptoSaid : Prop := fnExactNeighboursOfUptoRow.holds Try.pinned (OpenSpec.upto fnExactNeighboursOfSpec)

/-- 'laws.FnExactJoinShapes', WHERE WHAT IT READS IS OF BULK AT MOST 1048576: true; the input reads as it did. -/
def fnExactJoinShapesUptoRow : OpenClaim := { program := "ytbfmocohknadkaa", sum := "4c9a08ca740a80411b98a76c5d2b128ed02648fca2650c4a9834e4b25900b2d0", func := "loop.example/g00919/laws.FnExactJoinShapes", spec := "fnExactJoinShapes", unfollowed := true, recurses := true, plainKeys := false, apart := false, narrowed := true }
def FnExactJoinShapesUptoSaid : Prop := fnExactJoinShapesUptoRow.holds Try.pinned (OpenSpec.upto fnExactJoinShapesSpec)

/-- 'laws.FnExactTurnShape', WHERE WHAT IT READS IS OF BULK AT MOST 1048576: true; the input reads as it did. -/
def fnExactTurnShapeUptoRow : OpenClaim := { program := "ytbfmocohknadkaa", sum := "4c9a08ca740a80411b98a76c5d2b128ed02648fca2650c4a9834e4b25900b2d0", func := "loop.example/g00919/laws.FnExactTurnShape", spec := "fnExactTurnShape", unfollowed := true, recurses := true, plainKeys := false, apart := false, narrowed := true }
def FnExactTurnShapeUptoSaid : Prop := fnExactTurnShapeUptoRow.holds Try.pinned (OpenSpec.upto fnExactTurnShapeSpec)

/-- 'laws.FnJoined', WHERE WHAT IT READS IS OF BULK AT MOST 1048576: true; the input reads as it did. -/
def fnJoinedUptoRow : OpenClaim := { program := "ytbfmocohknadkaa", sum := "4c9a08ca740a80411b98a76c5d2b128ed02648fca2650c4a9834e4b25900b2d0", func := "loop.example/g00919/laws.FnJoined", spec := "fnJoined", unfollowed := true, recurses := true, plainKeys := false, apart := false, narrowed := true }
def FnJoinedUptoSaid : Prop := fnJoinedUptoRow.holds Try.pinned (OpenSpec.upto fnJoinedSpec)

/-- 'laws.FnNormal', WHERE WHAT IT READS IS OF BULK AT MOST 1048576: true; the input reads as it did. -/
def fnNormalUptoRow : OpenClaim := { program := "ytbfmocohknadkaa", sum := "4c9a08ca740a80411b98a76c5d2b128ed02648fca2650c4a9834e4b25900b2d0", func := "loop.example/g00919/laws.FnNormal", spec := "fnNormal", unfollowed := true, recurses := true, plainKeys := false, apart := false, narrowed := true }
def FnNormalUptoSaid : Prop := fnNormalUptoRow.holds Try.pinned (OpenSpec.upto fnNormalSpec)

end Rows
end Go.Proofs.Ytbfmocohknadkaa
