/-
  DERIVED. GIVEN WITH THE SEED: THE CARDS: each row of YtmlkpniimpahoaaGreatDoorRows.lean that lists a variable, with what it lists TIED to the program's text (the seventh form; the later family's looks); each row that meets fmt, with fmt's text TOLD by the authors' own Lean function (tested against real Go, not proved from fmt's source: count such statements apart). THE CARD IS WHAT COUNTS. Prove the row's statement (the work); the ties are given (YtmlkpniimpahoaaGreatDoorTie.lean); close each card by the builder's one call (the guide's Derived/Test/ToyasCard.lean, 'card_holds'). Laid BY PROGRAM, IN A SANDBOX (cutbox-door.mjs). By AI agents, Wed Nov 11 2026. No macro, syntax, notation, axiom, sorry.
-/
import Derived.Test.YtmlkpniimpahoaaGreatDoorRows
import GoSem.ClaimSeven
namespace Go.Proofs.YtmlkpniimpahoaaGreatDoor
namespace Rows

/-- THE TIED CARD OF 'loomworklaw.RenderChecks'. -/
def renderChecksCard : Claim7 := { stood := { row := renderChecksRow, standIns := [], harness := (true, "75e4755ce7dbf98fabc8ce1231fef6659c875e533adbc527db157aa19b143818"), looks := true }, kinds := [], alts := [], laidByText := true, laidKinds := [.data, .data, .data, .sentinel, .sentinel], laidTests := true, laidLooks := .later }
def RenderChecksCardSaid : Prop := Claim7.holds Tryz.pinned (.plain (OpenSpec.ofChange renderChecksSpec)) renderChecksCard

/-- THE TIED CARD OF 'loomworklaw.RenderPrints'. -/
def renderPrintsCard : Claim7 := { stood := { row := renderPrintsRow, standIns := [], harness := (true, "75e4755ce7dbf98fabc8ce1231fef6659c875e533adbc527db157aa19b143818"), looks := true }, kinds := [], alts := [], laidByText := true, laidKinds := [.data, .data, .data, .sentinel, .sentinel], laidTests := true, laidLooks := .later }
def RenderPrintsCardSaid : Prop := Claim7.holds Tryz.pinned (.plain (OpenSpec.ofChange renderPrintsSpec)) renderPrintsCard

/-- THE SECOND FORM's CARD OF 'loomworklaw.RenderChecks'. -/
def renderChecksUptoCard : Claim7 := { stood := { row := renderChecksUptoRow, standIns := [], harness := (true, "75e4755ce7dbf98fabc8ce1231fef6659c875e533adbc527db157aa19b143818"), looks := true }, kinds := [], alts := [], laidByText := true, laidKinds := [.data, .data, .data, .sentinel, .sentinel], laidTests := true, laidLooks := .later }
def RenderChecksUptoCardSaid : Prop := Claim7.holds Tryz.pinned (.plain (OpenSpec.upto renderChecksSpec)) renderChecksUptoCard

/-- THE SECOND FORM's CARD OF 'loomworklaw.RenderPrints'. -/
def renderPrintsUptoCard : Claim7 := { stood := { row := renderPrintsUptoRow, standIns := [], harness := (true, "75e4755ce7dbf98fabc8ce1231fef6659c875e533adbc527db157aa19b143818"), looks := true }, kinds := [], alts := [], laidByText := true, laidKinds := [.data, .data, .data, .sentinel, .sentinel], laidTests := true, laidLooks := .later }
def RenderPrintsUptoCardSaid : Prop := Claim7.holds Tryz.pinned (.plain (OpenSpec.upto renderPrintsSpec)) renderPrintsUptoCard
end Rows
end Go.Proofs.YtmlkpniimpahoaaGreatDoor
