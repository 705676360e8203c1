/-
  No cell of these rows narrows 'for every input' (looked for: loops, veiled, ifaces, maps, wideKeys, modest, calm, conditions, laid).
  DERIVED. THE GIVEN ROWS OF THIS SEAT. 8 by the template 'for every input the law returns true; each argument reads behind the call as it read before'; 0 by the template 'total and deterministic' (their statements: YtbkohebnociapaaTotals.lean).
  GIVEN WITH THE SEED: the statements are not yours to turn. If you find one false, say at which input.
  Laid BY PROGRAM, IN A SANDBOX (cutbox-rows.mjs): the forced cells as the released guide's own fill.sh prints them over the translation 99caf345c63cb497… (all of the seat's roots in one cut). By AI agents, Wed Nov 11 2026. No macro, syntax, notation, axiom, sorry.
-/
import Derived.Test.YtbkohebnociapaaChecked
import GoSem.Claim
import GoSem.ClaimJoined
import GoSem.ClaimMapViews
import Derived.JoinedTies
import Derived.KernelRfl
namespace Go.Proofs.Ytbkohebnociapaa
/- THE CELL 'sum', in the pinned program and in every row, IS THE sha256 OF THE DUMP (.gsa) THAT YtbkohebnociapaaProg.lean LOADS. Nothing in Lean hashes anything: it is a label: what it is worth is what the hold of that sum in a sandbox is worth. -/
noncomputable def Try.pinned : Pinned := { name := "ytbkohebnociapaa", sum := "99caf345c63cb49730dfb158d29bc9e44f6b4ef80002c6b38ae995efc72cac38", checked := Try.checked }
namespace Rows
def none {H : Type} : Left H := { results := [], args := [] }

/-- 'loomworklaw.OrderAhead': WHATEVER THE INPUT: true; the input reads as it did. -/
def orderAheadSpec : ChangeSpec := { name := "orderAhead", fn := fun _ => fun
  | [d1, d2] => { results := [.lit (.bool true)], args := [d1, d2] }
  | _ => none }
def orderAheadRow : OpenClaim := { program := "ytbkohebnociapaa", sum := "99caf345c63cb49730dfb158d29bc9e44f6b4ef80002c6b38ae995efc72cac38", func := "loomwork/loomworklaw.OrderAhead", spec := "orderAhead", unfollowed := true, recurses := true, apart := false }
def OrderAheadSaid : Prop := orderAheadRow.holds Try.pinned (OpenSpec.ofChange orderAheadSpec)

/-- ITS FALSE NEIGHBOUR: 'it returns false'. Refute it at one input. -/
def orderAheadWrong : ChangeSpec := { name := "orderAhead", fn := fun _ => fun
  | [d1, d2] => { results := [.lit (.bool false)], args := [d1, d2] }
  | _ => none }
def OrderAheadWrongFalsely : Prop := orderAheadRow.holds Try.pinned (OpenSpec.ofChange orderAheadWrong)

/-- 'loomworklaw.BuildMakes': WHATEVER THE INPUT: true; the input reads as it did. -/
def buildMakesSpec : ChangeSpec := { name := "buildMakes", fn := fun _ => fun
  | [d1, d2] => { results := [.lit (.bool true)], args := [d1, d2] }
  | _ => none }
def buildMakesRow : OpenClaim := { program := "ytbkohebnociapaa", sum := "99caf345c63cb49730dfb158d29bc9e44f6b4ef80002c6b38ae995efc72cac38", func := "loomwork/loomworklaw.BuildMakes", spec := "buildMakes", unfollowed := true, recurses := true, apart := false }
def BuildMakesSaid : Prop := buildMakesRow.holds Try.pinned (OpenSpec.ofChange buildMakesSpec)

/-- ITS FALSE NEIGHBOUR: 'it returns false'. Refute it at one input. -/
def buildMakesWrong : ChangeSpec := { name := "buildMakes", fn := fun _ => fun
  | [d1, d2] => { results := [.lit (.bool false)], args := [d1, d2] }
  | _ => none }
def BuildMakesWrongFalsely : Prop := buildMakesRow.holds Try.pinned (OpenSpec.ofChange buildMakesWrong)

/-- 'loomworklaw.PlaceDoes': WHATEVER THE INPUT: true; the input reads as it did. -/
def placeDoesSpec : ChangeSpec := { name := "placeDoes", fn := fun _ => fun
  | [d1, d2] => { results := [.lit (.bool true)], args := [d1, d2] }
  | _ => none }
def placeDoesRow : OpenClaim := { program := "ytbkohebnociapaa", sum := "99caf345c63cb49730dfb158d29bc9e44f6b4ef80002c6b38ae995efc72cac38", func := "loomwork/loomworklaw.PlaceDoes", spec := "placeDoes", unfollowed := true, recurses := true, apart := false }
def PlaceDoesSaid : Prop := placeDoesRow.holds Try.pinned (OpenSpec.ofChange placeDoesSpec)

/-- ITS FALSE NEIGHBOUR: 'it returns false'. Refute it at one input. -/
def placeDoesWrong : ChangeSpec := { name := "placeDoes", fn := fun _ => fun
  | [d1, d2] => { results := [.lit (.bool false)], args := [d1, d2] }
  | _ => none }
def PlaceDoesWrongFalsely : Prop := placeDoesRow.holds Try.pinned (OpenSpec.ofChange placeDoesWrong)

/-- 'loomworklaw.PlaceApart': WHATEVER THE INPUT: true; the input reads as it did. -/
def placeApartSpec : ChangeSpec := { name := "placeApart", fn := fun _ => fun
  | [d] => { results := [.lit (.bool true)], args := [d] }
  | _ => none }
def placeApartRow : OpenClaim := { program := "ytbkohebnociapaa", sum := "99caf345c63cb49730dfb158d29bc9e44f6b4ef80002c6b38ae995efc72cac38", func := "loomwork/loomworklaw.PlaceApart", spec := "placeApart", unfollowed := true, recurses := true, apart := false }
def PlaceApartSaid : Prop := placeApartRow.holds Try.pinned (OpenSpec.ofChange placeApartSpec)

/-- ITS FALSE NEIGHBOUR: 'it returns false'. Refute it at one input. -/
def placeApartWrong : ChangeSpec := { name := "placeApart", fn := fun _ => fun
  | [d] => { results := [.lit (.bool false)], args := [d] }
  | _ => none }
def PlaceApartWrongFalsely : Prop := placeApartRow.holds Try.pinned (OpenSpec.ofChange placeApartWrong)

/-- 'loomworklaw.PlaceFew': WHATEVER THE INPUT: true; the input reads as it did. -/
def placeFewSpec : ChangeSpec := { name := "placeFew", fn := fun _ => fun
  | [d] => { results := [.lit (.bool true)], args := [d] }
  | _ => none }
def placeFewRow : OpenClaim := { program := "ytbkohebnociapaa", sum := "99caf345c63cb49730dfb158d29bc9e44f6b4ef80002c6b38ae995efc72cac38", func := "loomwork/loomworklaw.PlaceFew", spec := "placeFew", unfollowed := true, recurses := true, apart := false }
def PlaceFewSaid : Prop := placeFewRow.holds Try.pinned (OpenSpec.ofChange placeFewSpec)

/-- ITS FALSE NEIGHBOUR: 'it returns false'. Refute it at one input. -/
def placeFewWrong : ChangeSpec := { name := "placeFew", fn := fun _ => fun
  | [d] => { results := [.lit (.bool false)], args := [d] }
  | _ => none }
def PlaceFewWrongFalsely : Prop := placeFewRow.holds Try.pinned (OpenSpec.ofChange placeFewWrong)

/-- 'loomworklaw.MeanTurns': WHATEVER THE INPUT: true; the input reads as it did. -/
def meanTurnsSpec : ChangeSpec := { name := "meanTurns", fn := fun _ => fun
  | [d1, d2, d3] => { results := [.lit (.bool true)], args := [d1, d2, d3] }
  | _ => none }
def meanTurnsRow : OpenClaim := { program := "ytbkohebnociapaa", sum := "99caf345c63cb49730dfb158d29bc9e44f6b4ef80002c6b38ae995efc72cac38", func := "loomwork/loomworklaw.MeanTurns", spec := "meanTurns", unfollowed := true, recurses := true, apart := false }
def MeanTurnsSaid : Prop := meanTurnsRow.holds Try.pinned (OpenSpec.ofChange meanTurnsSpec)

/-- ITS FALSE NEIGHBOUR: 'it returns false'. Refute it at one input. -/
def meanTurnsWrong : ChangeSpec := { name := "meanTurns", fn := fun _ => fun
  | [d1, d2, d3] => { results := [.lit (.bool false)], args := [d1, d2, d3] }
  | _ => none }
def MeanTurnsWrongFalsely : Prop := meanTurnsRow.holds Try.pinned (OpenSpec.ofChange meanTurnsWrong)

/-- 'loomworklaw.MeanCauses': WHATEVER THE INPUT: true; the input reads as it did. -/
def meanCausesSpec : ChangeSpec := { name := "meanCauses", fn := fun _ => fun
  | [d1, d2, d3] => { results := [.lit (.bool true)], args := [d1, d2, d3] }
  | _ => none }
def meanCausesRow : OpenClaim := { program := "ytbkohebnociapaa", sum := "99caf345c63cb49730dfb158d29bc9e44f6b4ef80002c6b38ae995efc72cac38", func := "loomwork/loomworklaw.MeanCauses", spec := "meanCauses", unfollowed := true, recurses := true, apart := false }
def MeanCausesSaid : Prop := meanCausesRow.holds Try.pinned (OpenSpec.ofChange meanCausesSpec)

/-- ITS FALSE NEIGHBOUR: 'it returns false'. Refute it at one input. -/
def meanCausesWrong : ChangeSpec := { name := "meanCauses", fn := fun _ => fun
  | [d1, d2, d3] => { results := [.lit (.bool false)], args := [d1, d2, d3] }
  | _ => none }
def MeanCausesWrongFalsely : Prop := meanCausesRow.holds Try.pinned (OpenSpec.ofChange meanCausesWrong)

/-- 'loomworklaw.FuseDoes': WHATEVER THE INPUT: true; the input reads as it did. -/
def fuseDoesSpec : ChangeSpec := { name := "fuseDoes", fn := fun _ => fun
  | [d] => { results := [.lit (.bool true)], args := [d] }
  | _ => none }
def fuseDoesRow : OpenClaim := { program := "ytbkohebnociapaa", sum := "99caf345c63cb49730dfb158d29bc9e44f6b4ef80002c6b38ae995efc72cac38", func := "loomwork/loomworklaw.FuseDoes", spec := "fuseDoes", inPlace := ["slices.overlaps[loomwork/api.Push]"], unfollowed := true, recurses := true, apart := false }
def FuseDoesSaid : Prop := fuseDoesRow.holds Try.pinned (OpenSpec.ofChange fuseDoesSpec)

/-- ITS FALSE NEIGHBOUR: 'it returns false'. Refute it at one input. -/
def fuseDoesWrong : ChangeSpec := { name := "fuseDoes", fn := fun _ => fun
  | [d] => { results := [.lit (.bool false)], args := [d] }
  | _ => none }
def FuseDoesWrongFalsely : Prop := fuseDoesRow.holds Try.pinned (OpenSpec.ofChange fuseDoesWrong)

/- THE SECOND FORM. 'bulk': how many values and letters a reading holds, each counted each time it is reached (what is shared counts as often as it is met; a slice's spare places count too). A statement '..UptoSaid' is the law's where the arguments, and the package variables that the reading takes, are together of bulk at most 1048576: NARROWER than '..Said'. Prove '..Said' where nothing that the law and all that it calls make is longer than what came in: it says more and counts as full. Else prove '..UptoSaid'. A law counts once. -/
mutual
def uptoBulk {H : Type} : DataW H → Nat
  | .lit (.string bytes) => bytes.length + 1
  | .lit _ => 1
  | .nil => 1
  | .ptr d => uptoBulk d + 1
  | .slice elems spare => uptoBulkAll elems + uptoBulkAll spare + 1
  | .agg parts => uptoBulkAll parts + 1
  | .iface _ d => uptoBulk d + 1
  | .map entries => uptoBulkEntries entries + 1
  | .held _ => 1
def uptoBulkAll {H : Type} : List (DataW H) → Nat
  | [] => 0
  | d :: r => uptoBulk d + uptoBulkAll r
def uptoBulkEntries {H : Type} : List (Lit × DataW H) → Nat
  | [] => 0
  | x :: r => uptoBulkEntry x + uptoBulkEntries r
def uptoBulkEntry {H : Type} : Lit × DataW H → Nat
  | (.string bytes, d) => bytes.length + uptoBulk d + 1
  | (_, d) => uptoBulk d + 1
 end
def uptoSmall : (H : Type) → List (DataW H) → Bool := fun _ ds => decide (uptoBulkAll ds ≤ 1048576)
def OpenSpec.upto (s : _root_.Go.ChangeSpec) : _root_.Go.OpenSpec := { _root_.Go.OpenSpec.ofChange s with cond := some uptoSmall }

/-- 'loomworklaw.OrderAhead', WHERE WHAT IT READS IS OF BULK AT MOST 1048576: true; the input reads as it did. -/
def orderAheadUptoRow : OpenClaim := { program := "ytbkohebnociapaa", sum := "99caf345c63cb49730dfb158d29bc9e44f6b4ef80002c6b38ae995efc72cac38", func := "loomwork/loomworklaw.OrderAhead", spec := "orderAhead", unfollowed := true, recurses := true, apart := false, narrowed := true }
def OrderAheadUptoSaid : Prop := orderAheadUptoRow.holds Try.pinned (OpenSpec.upto orderAheadSpec)

/-- 'loomworklaw.BuildMakes', WHERE WHAT IT READS IS OF BULK AT MOST 1048576: true; the input reads as it did. -/
def buildMakesUptoRow : OpenClaim := { program := "ytbkohebnociapaa", sum := "99caf345c63cb49730dfb158d29bc9e44f6b4ef80002c6b38ae995efc72cac38", func := "loomwork/loomworklaw.BuildMakes", spec := "buildMakes", unfollowed := true, recurses := true, apart := false, narrowed := true }
def BuildMakesUptoSaid : Prop := buildMakesUptoRow.holds Try.pinned (OpenSpec.upto buildMakesSpec)

/-- 'loomworklaw.PlaceDoes', WHERE WHAT IT READS IS OF BULK AT MOST 1048576: true; the input reads as it did. -/
def placeDoesUptoRow : OpenClaim := { program := "ytbkohebnociapaa", sum := "99caf345c63cb49730dfb158d29bc9e44f6b4ef80002c6b38ae995efc72cac38", func := "loomwork/loomworklaw.PlaceDoes", spec := "placeDoes", unfollowed := true, recurses := true, apart := false, narrowed := true }
def PlaceDoesUptoSaid : Prop := placeDoesUptoRow.holds Try.pinned (OpenSpec.upto placeDoesSpec)

/-- 'loomworklaw.PlaceApart', WHERE WHAT IT READS IS OF BULK AT MOST 1048576: true; the input reads as it did. -/
def placeApartUptoRow : OpenClaim := { program := "ytbkohebnociapaa", sum := "99caf345c63cb49730dfb158d29bc9e44f6b4ef80002c6b38ae995efc72cac38", func := "loomwork/loomworklaw.PlaceApart", spec := "placeApart", unfollowed := true, recurses := true, apart := false, narrowed := true }
def PlaceApartUptoSaid : Prop := placeApartUptoRow.holds Try.pinned (OpenSpec.upto placeApartSpec)

/-- 'loomworklaw.PlaceFew', WHERE WHAT IT READS IS OF BULK AT MOST 1048576: true; the input reads as it did. -/
def placeFewUptoRow : OpenClaim := { program := "ytbkohebnociapaa", sum := "99caf345c63cb49730dfb158d29bc9e44f6b4ef80002c6b38ae995efc72cac38", func := "loomwork/loomworklaw.PlaceFew", spec := "placeFew", unfollowed := true, recurses := true, apart := false, narrowed := true }
def PlaceFewUptoSaid : Prop := placeFewUptoRow.holds Try.pinned (OpenSpec.upto placeFewSpec)

/-- 'loomworklaw.MeanTurns', WHERE WHAT IT READS IS OF BULK AT MOST 1048576: true; the input reads as it did. -/
def meanTurnsUptoRow : OpenClaim := { program := "ytbkohebnociapaa", sum := "99caf345c63cb49730dfb158d29bc9e44f6b4ef80002c6b38ae995efc72cac38", func := "loomwork/loomworklaw.MeanTurns", spec := "meanTurns", unfollowed := true, recurses := true, apart := false, narrowed := true }
def MeanTurnsUptoSaid : Prop := meanTurnsUptoRow.holds Try.pinned (OpenSpec.upto meanTurnsSpec)

/-- 'loomworklaw.MeanCauses', WHERE WHAT IT READS IS OF BULK AT MOST 1048576: true; the input reads as it did. -/
def meanCausesUptoRow : OpenClaim := { program := "ytbkohebnociapaa", sum := "99caf345c63cb49730dfb158d29bc9e44f6b4ef80002c6b38ae995efc72cac38", func := "loomwork/loomworklaw.MeanCauses", spec := "meanCauses", unfollowed := true, recurses := true, apart := false, narrowed := true }
def MeanCausesUptoSaid : Prop := meanCausesUptoRow.holds Try.pinned (OpenSpec.upto meanCausesSpec)

/-- 'loomworklaw.FuseDoes', WHERE WHAT IT READS IS OF BULK AT MOST 1048576: true; the input reads as it did. -/
def fuseDoesUptoRow : OpenClaim := { program := "ytbkohebnociapaa", sum := "99caf345c63cb49730dfb158d29bc9e44f6b4ef80002c6b38ae995efc72cac38", func := "loomwork/loomworklaw.FuseDoes", spec := "fuseDoes", inPlace := ["slices.overlaps[loomwork/api.Push]"], unfollowed := true, recurses := true, apart := false, narrowed := true }
def FuseDoesUptoSaid : Prop := fuseDoesUptoRow.holds Try.pinned (OpenSpec.upto fuseDoesSpec)

end Rows
end Go.Proofs.Ytbkohebnociapaa
