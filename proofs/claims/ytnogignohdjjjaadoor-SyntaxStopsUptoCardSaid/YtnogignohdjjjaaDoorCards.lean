/-
  DERIVED. GIVEN WITH THE SEED: THE CARDS: each row of YtnogignohdjjjaaDoorRows.lean that lists a variable, with what it lists TIED to the program's text (the seventh form; the later family's looks); each row that meets fmt, with fmt's text TOLD by the authors' own Lean function (tested against real Go, not proved from fmt's source: count such statements apart). THE CARD IS WHAT COUNTS. Prove the row's statement (the work); the ties are given (YtnogignohdjjjaaDoorTie.lean); close each card by the builder's one call (the guide's Derived/Test/ToyasCard.lean, 'card_holds'). Laid BY PROGRAM, IN A SANDBOX (cutbox-door.mjs). By AI agents, Wed Nov 11 2026. No macro, syntax, notation, axiom, sorry.
-/
import Derived.Test.YtnogignohdjjjaaDoorRows
import GoSem.ClaimSeven
namespace Go.Proofs.YtnogignohdjjjaaDoor
namespace Rows

/-- THE TIED CARD OF 'loomworklaw.SyntaxStops'. -/
def syntaxStopsCard : Claim7 := { stood := { row := syntaxStopsRow, standIns := [], harness := (true, "e26d5614e3e9697542ea85a708c8ab4d28c8c618c960ae9c4ec19ad8ba9a9de1"), looks := true }, kinds := [], alts := [], laidByText := true, laidKinds := [.data, .data, .data, .sentinel, .sentinel], laidTests := true, laidLooks := .later }
def SyntaxStopsCardSaid : Prop := Claim7.holds Tryd.pinned (.plain (OpenSpec.ofChange syntaxStopsSpec)) syntaxStopsCard

/-- THE SECOND FORM's CARD OF 'loomworklaw.SyntaxStops'. -/
def syntaxStopsUptoCard : Claim7 := { stood := { row := syntaxStopsUptoRow, standIns := [], harness := (true, "e26d5614e3e9697542ea85a708c8ab4d28c8c618c960ae9c4ec19ad8ba9a9de1"), looks := true }, kinds := [], alts := [], laidByText := true, laidKinds := [.data, .data, .data, .sentinel, .sentinel], laidTests := true, laidLooks := .later }
def SyntaxStopsUptoCardSaid : Prop := Claim7.holds Tryd.pinned (.plain (OpenSpec.upto syntaxStopsSpec)) syntaxStopsUptoCard
end Rows
end Go.Proofs.YtnogignohdjjjaaDoor
