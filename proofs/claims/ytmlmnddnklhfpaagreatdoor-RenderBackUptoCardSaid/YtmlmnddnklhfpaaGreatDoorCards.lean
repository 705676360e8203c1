/-
  DERIVED. GIVEN WITH THE SEED: THE CARDS: each row of YtmlmnddnklhfpaaGreatDoorRows.lean that lists a variable, with what it lists TIED to the program's text (the seventh form; the later family's looks); each row that meets fmt, with fmt's text TOLD by the authors' own Lean function (tested against real Go, not proved from fmt's source: count such statements apart). THE CARD IS WHAT COUNTS. Prove the row's statement (the work); the ties are given (YtmlmnddnklhfpaaGreatDoorTie.lean); close each card by the builder's one call (the guide's Derived/Test/ToyasCard.lean, 'card_holds'). Laid BY PROGRAM, IN A SANDBOX (cutbox-door.mjs). By AI agents, Wed Nov 11 2026. No macro, syntax, notation, axiom, sorry.
-/
import Derived.Test.YtmlmnddnklhfpaaGreatDoorRows
import GoSem.ClaimSeven
namespace Go.Proofs.YtmlmnddnklhfpaaGreatDoor
namespace Rows

/-- THE TIED CARD OF 'loomworklaw.RenderForth'. -/
def renderForthCard : Claim7 := { stood := { row := renderForthRow, standIns := [], harness := (true, "84010e3babbe4cf88167fc4ac602fc6b5449675bc964671a10cbc7d3b4199f2e"), looks := true }, kinds := [], alts := [], laidByText := true, laidKinds := [.data, .data, .data, .sentinel, .sentinel], laidTests := true, laidLooks := .later }
def RenderForthCardSaid : Prop := Claim7.holds Tryz.pinned (.plain (OpenSpec.ofChange renderForthSpec)) renderForthCard

/-- THE TIED CARD OF 'loomworklaw.RenderBack'. -/
def renderBackCard : Claim7 := { stood := { row := renderBackRow, standIns := [], harness := (true, "84010e3babbe4cf88167fc4ac602fc6b5449675bc964671a10cbc7d3b4199f2e"), looks := true }, kinds := [], alts := [], laidByText := true, laidKinds := [.data, .data, .data, .sentinel, .sentinel], laidTests := true, laidLooks := .later }
def RenderBackCardSaid : Prop := Claim7.holds Tryz.pinned (.plain (OpenSpec.ofChange renderBackSpec)) renderBackCard

/-- THE TIED CARD OF 'loomworklaw.RenderApart'. -/
def renderApartCard : Claim7 := { stood := { row := renderApartRow, standIns := [], harness := (true, "84010e3babbe4cf88167fc4ac602fc6b5449675bc964671a10cbc7d3b4199f2e"), looks := true }, kinds := [], alts := [], laidByText := true, laidKinds := [.data, .data, .data, .sentinel, .sentinel], laidTests := true, laidLooks := .later }
def RenderApartCardSaid : Prop := Claim7.holds Tryz.pinned (.plain (OpenSpec.ofChange renderApartSpec)) renderApartCard

/-- THE SECOND FORM's CARD OF 'loomworklaw.RenderForth'. -/
def renderForthUptoCard : Claim7 := { stood := { row := renderForthUptoRow, standIns := [], harness := (true, "84010e3babbe4cf88167fc4ac602fc6b5449675bc964671a10cbc7d3b4199f2e"), looks := true }, kinds := [], alts := [], laidByText := true, laidKinds := [.data, .data, .data, .sentinel, .sentinel], laidTests := true, laidLooks := .later }
def RenderForthUptoCardSaid : Prop := Claim7.holds Tryz.pinned (.plain (OpenSpec.upto renderForthSpec)) renderForthUptoCard

/-- THE SECOND FORM's CARD OF 'loomworklaw.RenderBack'. -/
def renderBackUptoCard : Claim7 := { stood := { row := renderBackUptoRow, standIns := [], harness := (true, "84010e3babbe4cf88167fc4ac602fc6b5449675bc964671a10cbc7d3b4199f2e"), looks := true }, kinds := [], alts := [], laidByText := true, laidKinds := [.data, .data, .data, .sentinel, .sentinel], laidTests := true, laidLooks := .later }
def RenderBackUptoCardSaid : Prop := Claim7.holds Tryz.pinned (.plain (OpenSpec.upto renderBackSpec)) renderBackUptoCard

/-- THE SECOND FORM's CARD OF 'loomworklaw.RenderApart'. -/
def renderApartUptoCard : Claim7 := { stood := { row := renderApartUptoRow, standIns := [], harness := (true, "84010e3babbe4cf88167fc4ac602fc6b5449675bc964671a10cbc7d3b4199f2e"), looks := true }, kinds := [], alts := [], laidByText := true, laidKinds := [.data, .data, .data, .sentinel, .sentinel], laidTests := true, laidLooks := .later }
def RenderApartUptoCardSaid : Prop := Claim7.holds Tryz.pinned (.plain (OpenSpec.upto renderApartSpec)) renderApartUptoCard
end Rows
end Go.Proofs.YtmlmnddnklhfpaaGreatDoor
