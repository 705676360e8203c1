/-
  No cell of these rows narrows 'for every input' (looked for: loops, veiled, ifaces, maps, wideKeys, modest, calm, conditions, laid).
  DERIVED. THE GIVEN ROWS OF THIS SEAT. 3 by the template 'for every input the law returns true; each argument reads behind the call as it read before'; 0 by the template 'total and deterministic' (their statements: YtphpneddmkickaaTotals.lean).
  GIVEN WITH THE SEED: the statements are not yours to turn. If you find one false, say at which input.
  Laid BY PROGRAM, IN A SANDBOX (cutbox-rows.mjs): the forced cells as the released guide's own fill.sh prints them over the translation 0640bae585211e83… (all of the seat's roots in one cut). By AI agents, Wed Nov 11 2026. No macro, syntax, notation, axiom, sorry.
-/
import Derived.Test.YtphpneddmkickaaChecked
import GoSem.Claim
import GoSem.ClaimJoined
import GoSem.ClaimMapViews
import Derived.JoinedTies
import Derived.KernelRfl
namespace Go.Proofs.Ytphpneddmkickaa
/- THE CELL 'sum', in the pinned program and in every row, IS THE sha256 OF THE DUMP (.gsa) THAT YtphpneddmkickaaProg.lean LOADS. Nothing in Lean hashes anything: it is a label: what it is worth is what the hold of that sum in a sandbox is worth. -/
noncomputable def Try.pinned : Pinned := { name := "ytphpneddmkickaa", sum := "0640bae585211e833a0698a11a08b7256c9b4f5fa9b0cf2bcef5750084b318cd", checked := Try.checked }
namespace Rows
def none {H : Type} : Left H := { results := [], args := [] }

/-- 'loomworklaw.SizeDoes': WHATEVER THE INPUT: true; the input reads as it did. -/
def sizeDoesSpec : ChangeSpec := { name := "sizeDoes", fn := fun _ => fun
  | [d1, d2, d3, d4, d5] => { results := [.lit (.bool true)], args := [d1, d2, d3, d4, d5] }
  | _ => none }
def sizeDoesRow : OpenClaim := { program := "ytphpneddmkickaa", sum := "0640bae585211e833a0698a11a08b7256c9b4f5fa9b0cf2bcef5750084b318cd", func := "loomwork/loomworklaw.SizeDoes", spec := "sizeDoes", unfollowed := true, recurses := true, apart := false }
def SizeDoesSaid : Prop := sizeDoesRow.holds Try.pinned (OpenSpec.ofChange sizeDoesSpec)

/-- ITS FALSE NEIGHBOUR: 'it returns false'. Refute it at one input. -/
def sizeDoesWrong : ChangeSpec := { name := "sizeDoes", fn := fun _ => fun
  | [d1, d2, d3, d4, d5] => { results := [.lit (.bool false)], args := [d1, d2, d3, d4, d5] }
  | _ => none }
def SizeDoesWrongFalsely : Prop := sizeDoesRow.holds Try.pinned (OpenSpec.ofChange sizeDoesWrong)

/-- 'loomworklaw.SizeMeans': WHATEVER THE INPUT: true; the input reads as it did. -/
def sizeMeansSpec : ChangeSpec := { name := "sizeMeans", fn := fun _ => fun
  | [d1, d2, d3] => { results := [.lit (.bool true)], args := [d1, d2, d3] }
  | _ => none }
def sizeMeansRow : OpenClaim := { program := "ytphpneddmkickaa", sum := "0640bae585211e833a0698a11a08b7256c9b4f5fa9b0cf2bcef5750084b318cd", func := "loomwork/loomworklaw.SizeMeans", spec := "sizeMeans", unfollowed := true, recurses := true, apart := false }
def SizeMeansSaid : Prop := sizeMeansRow.holds Try.pinned (OpenSpec.ofChange sizeMeansSpec)

/-- ITS FALSE NEIGHBOUR: 'it returns false'. Refute it at one input. -/
def sizeMeansWrong : ChangeSpec := { name := "sizeMeans", fn := fun _ => fun
  | [d1, d2, d3] => { results := [.lit (.bool false)], args := [d1, d2, d3] }
  | _ => none }
def SizeMeansWrongFalsely : Prop := sizeMeansRow.holds Try.pinned (OpenSpec.ofChange sizeMeansWrong)

/-- 'loomworklaw.SizeWith': WHATEVER THE INPUT: true; the input reads as it did. -/
def sizeWithSpec : ChangeSpec := { name := "sizeWith", fn := fun _ => fun
  | [d1, d2, d3, d4] => { results := [.lit (.bool true)], args := [d1, d2, d3, d4] }
  | _ => none }
def sizeWithRow : OpenClaim := { program := "ytphpneddmkickaa", sum := "0640bae585211e833a0698a11a08b7256c9b4f5fa9b0cf2bcef5750084b318cd", func := "loomwork/loomworklaw.SizeWith", spec := "sizeWith", unfollowed := true, recurses := true, apart := false }
def SizeWithSaid : Prop := sizeWithRow.holds Try.pinned (OpenSpec.ofChange sizeWithSpec)

/-- ITS FALSE NEIGHBOUR: 'it returns false'. Refute it at one input. -/
def sizeWithWrong : ChangeSpec := { name := "sizeWith", fn := fun _ => fun
  | [d1, d2, d3, d4] => { results := [.lit (.bool false)], args := [d1, d2, d3, d4] }
  | _ => none }
def SizeWithWrongFalsely : Prop := sizeWithRow.holds Try.pinned (OpenSpec.ofChange sizeWithWrong)

/- THE SECOND FORM. 'bulk': how many values and letters a reading holds, each counted each time it is reached (what is shared counts as often as it is met; a slice's spare places count too). A statement '..UptoSaid' is the law's where the arguments, and the package variables that the reading takes, are together of bulk at most 1048576: NARROWER than '..Said'. Prove '..Said' where nothing that the law and all that it calls make is longer than what came in: it says more and counts as full. Else prove '..UptoSaid'. A law counts once. -/
mutual
def uptoBulk {H : Type} : DataW H → Nat
  | .lit (.string bytes) => bytes.length + 1
  | .lit _ => 1
  | .nil => 1
  | .ptr d => uptoBulk d + 1
  | .slice elems spare => uptoBulkAll elems + uptoBulkAll spare + 1
  | .agg parts => uptoBulkAll parts + 1
  | .iface _ d => uptoBulk d + 1
  | .map entries => uptoBulkEntries entries + 1
  | .held _ => 1
def uptoBulkAll {H : Type} : List (DataW H) → Nat
  | [] => 0
  | d :: r => uptoBulk d + uptoBulkAll r
def uptoBulkEntries {H : Type} : List (Lit × DataW H) → Nat
  | [] => 0
  | x :: r => uptoBulkEntry x + uptoBulkEntries r
def uptoBulkEntry {H : Type} : Lit × DataW H → Nat
  | (.string bytes, d) => bytes.length + uptoBulk d + 1
  | (_, d) => uptoBulk d + 1
 end
def uptoSmall : (H : Type) → List (DataW H) → Bool := fun _ ds => decide (uptoBulkAll ds ≤ 1048576)
def OpenSpec.upto (s : _root_.Go.ChangeSpec) : _root_.Go.OpenSpec := { _root_.Go.OpenSpec.ofChange s with cond := some uptoSmall }

/-- 'loomworklaw.SizeDoes', WHERE WHAT IT READS IS OF BULK AT MOST 1048576: true; the input reads as it did. -/
def sizeDoesUptoRow : OpenClaim := { program := "ytphpneddmkickaa", sum := "0640bae585211e833a0698a11a08b7256c9b4f5fa9b0cf2bcef5750084b318cd", func := "loomwork/loomworklaw.SizeDoes", spec := "sizeDoes", unfollowed := true, recurses := true, apart := false, narrowed := true }
def SizeDoesUptoSaid : Prop := sizeDoesUptoRow.holds Try.pinned (OpenSpec.upto sizeDoesSpec)

/-- 'loomworklaw.SizeMeans', WHERE WHAT IT READS IS OF BULK AT MOST 1048576: true; the input reads as it did. -/
def sizeMeansUptoRow : OpenClaim := { program := "ytphpneddmkickaa", sum := "0640bae585211e833a0698a11a08b7256c9b4f5fa9b0cf2bcef5750084b318cd", func := "loomwork/loomworklaw.SizeMeans", spec := "sizeMeans", unfollowed := true, recurses := true, apart := false, narrowed := true }
def SizeMeansUptoSaid : Prop := sizeMeansUptoRow.holds Try.pinned (OpenSpec.upto sizeMeansSpec)

/-- 'loomworklaw.SizeWith', WHERE WHAT IT READS IS OF BULK AT MOST 1048576: true; the input reads as it did. -/
def sizeWithUptoRow : OpenClaim := { program := "ytphpneddmkickaa", sum := "0640bae585211e833a0698a11a08b7256c9b4f5fa9b0cf2bcef5750084b318cd", func := "loomwork/loomworklaw.SizeWith", spec := "sizeWith", unfollowed := true, recurses := true, apart := false, narrowed := true }
def SizeWithUptoSaid : Prop := sizeWithUptoRow.holds Try.pinned (OpenSpec.upto sizeWithSpec)

end Rows
end Go.Proofs.Ytphpneddmkickaa
