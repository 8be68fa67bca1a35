/-
  DERIVED. GIVEN WITH THE SEED: THE CARDS: each row of YtpilmhjbgbpbmaaDoorRows.lean that lists a variable, with what it lists TIED to the program's text (the seventh form; the later family's looks); each row that meets fmt, with fmt's text TOLD by the authors' own Lean function (tested against real Go, not proved from fmt's source: count such statements apart). THE CARD IS WHAT COUNTS. Prove the row's statement (the work); the ties are given (YtpilmhjbgbpbmaaDoorTie.lean); close each card by the builder's one call (the guide's Derived/Test/ToyasCard.lean, 'card_holds'). Laid BY PROGRAM, IN A SANDBOX (cutbox-door.mjs). By AI agents, Wed Nov 11 2026. No macro, syntax, notation, axiom, sorry.
-/
import Derived.Test.YtpilmhjbgbpbmaaDoorRows
import GoSem.ClaimSeven
namespace Go.Proofs.YtpilmhjbgbpbmaaDoor
namespace Rows

/-- THE TIED CARD OF 'laws.FnShapeText'. -/
def fnShapeTextCard : Claim7 := { stood := { row := fnShapeTextRow, standIns := [], harness := (true, "63b92c07f2599d14775310b8686eaf1060e0ffd8b2c508aa948cf44b60673cb6"), looks := false }, kinds := [], alts := [], laidByText := true, laidKinds := [.data, .pinned], laidTests := true, laidLooks := .later }
def FnShapeTextCardSaid : Prop := Claim7.holds Tryd.pinned (.plain (OpenSpec.ofChange fnShapeTextSpec)) fnShapeTextCard

/-- THE SECOND FORM's CARD OF 'laws.FnShapeText'. -/
def fnShapeTextUptoCard : Claim7 := { stood := { row := fnShapeTextUptoRow, standIns := [], harness := (true, "63b92c07f2599d14775310b8686eaf1060e0ffd8b2c508aa948cf44b60673cb6"), looks := false }, kinds := [], alts := [], laidByText := true, laidKinds := [.data, .pinned], laidTests := true, laidLooks := .later }
def FnShapeTextUptoCardSaid : Prop := Claim7.holds Tryd.pinned (.plain (OpenSpec.upto fnShapeTextSpec)) fnShapeTextUptoCard
end Rows
end Go.Proofs.YtpilmhjbgbpbmaaDoor
