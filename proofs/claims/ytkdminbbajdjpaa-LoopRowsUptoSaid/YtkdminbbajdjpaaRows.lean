/-
  No cell of these rows narrows 'for every input' (looked for: loops, veiled, ifaces, maps, wideKeys, modest, calm, conditions, laid).
  DERIVED. THE GIVEN ROWS OF THIS SEAT. 12 by the template 'for every input the law returns true; each argument reads behind the call as it read before'; 0 by the template 'total and deterministic' (their statements: YtkdminbbajdjpaaTotals.lean).
  GIVEN WITH THE SEED: the statements are not yours to turn. If you find one false, say at which input.
  Laid BY PROGRAM, IN A SANDBOX (cutbox-rows.mjs): the forced cells as the released guide's own fill.sh prints them over the translation dd7fcfd2fe23bc9a… (all of the seat's roots in one cut). By AI agents, Wed Nov 11 2026. No macro, syntax, notation, axiom, sorry.
-/
import Derived.Test.YtkdminbbajdjpaaChecked
import GoSem.Claim
import GoSem.ClaimJoined
import GoSem.ClaimMapViews
import Derived.JoinedTies
import Derived.KernelRfl
namespace Go.Proofs.Ytkdminbbajdjpaa
/- THE CELL 'sum', in the pinned program and in every row, IS THE sha256 OF THE DUMP (.gsa) THAT YtkdminbbajdjpaaProg.lean LOADS. Nothing in Lean hashes anything: it is a label: what it is worth is what the hold of that sum in a sandbox is worth. -/
noncomputable def Try.pinned : Pinned := { name := "ytkdminbbajdjpaa", sum := "dd7fcfd2fe23bc9aa0e6515fe68b6a106f19cf16230b851d2dcb7b8631e20557", checked := Try.checked }
namespace Rows
def none {H : Type} : Left H := { results := [], args := [] }

/-- 'loomworklaw.CodeChecks': WHATEVER THE INPUT: true; the input reads as it did. -/
def codeChecksSpec : ChangeSpec := { name := "codeChecks", fn := fun _ => fun
  | [d] => { results := [.lit (.bool true)], args := [d] }
  | _ => none }
def codeChecksRow : OpenClaim := { program := "ytkdminbbajdjpaa", sum := "dd7fcfd2fe23bc9aa0e6515fe68b6a106f19cf16230b851d2dcb7b8631e20557", func := "loomwork/loomworklaw.CodeChecks", spec := "codeChecks", unfollowed := true, recurses := true, apart := false }
def CodeChecksSaid : Prop := codeChecksRow.holds Try.pinned (OpenSpec.ofChange codeChecksSpec)

/-- ITS FALSE NEIGHBOUR: 'it returns false'. Refute it at one input. -/
def codeChecksWrong : ChangeSpec := { name := "codeChecks", fn := fun _ => fun
  | [d] => { results := [.lit (.bool false)], args := [d] }
  | _ => none }
def CodeChecksWrongFalsely : Prop := codeChecksRow.holds Try.pinned (OpenSpec.ofChange codeChecksWrong)

/-- 'loomworklaw.CodeCosts': WHATEVER THE INPUT: true; the input reads as it did. -/
def codeCostsSpec : ChangeSpec := { name := "codeCosts", fn := fun _ => fun
  | [d1, d2, d3] => { results := [.lit (.bool true)], args := [d1, d2, d3] }
  | _ => none }
def codeCostsRow : OpenClaim := { program := "ytkdminbbajdjpaa", sum := "dd7fcfd2fe23bc9aa0e6515fe68b6a106f19cf16230b851d2dcb7b8631e20557", func := "loomwork/loomworklaw.CodeCosts", spec := "codeCosts", unfollowed := true, recurses := true, apart := false }
def CodeCostsSaid : Prop := codeCostsRow.holds Try.pinned (OpenSpec.ofChange codeCostsSpec)

/-- ITS FALSE NEIGHBOUR: 'it returns false'. Refute it at one input. -/
def codeCostsWrong : ChangeSpec := { name := "codeCosts", fn := fun _ => fun
  | [d1, d2, d3] => { results := [.lit (.bool false)], args := [d1, d2, d3] }
  | _ => none }
def CodeCostsWrongFalsely : Prop := codeCostsRow.holds Try.pinned (OpenSpec.ofChange codeCostsWrong)

/-- 'loomworklaw.ImageDoes': WHATEVER THE INPUT: true; the input reads as it did. -/
def imageDoesSpec : ChangeSpec := { name := "imageDoes", fn := fun _ => fun
  | [d1, d2] => { results := [.lit (.bool true)], args := [d1, d2] }
  | _ => none }
def imageDoesRow : OpenClaim := { program := "ytkdminbbajdjpaa", sum := "dd7fcfd2fe23bc9aa0e6515fe68b6a106f19cf16230b851d2dcb7b8631e20557", func := "loomwork/loomworklaw.ImageDoes", spec := "imageDoes", unfollowed := true, recurses := true, apart := false }
def ImageDoesSaid : Prop := imageDoesRow.holds Try.pinned (OpenSpec.ofChange imageDoesSpec)

/-- ITS FALSE NEIGHBOUR: 'it returns false'. Refute it at one input. -/
def imageDoesWrong : ChangeSpec := { name := "imageDoes", fn := fun _ => fun
  | [d1, d2] => { results := [.lit (.bool false)], args := [d1, d2] }
  | _ => none }
def ImageDoesWrongFalsely : Prop := imageDoesRow.holds Try.pinned (OpenSpec.ofChange imageDoesWrong)

/-- 'loomworklaw.ImageBack': WHATEVER THE INPUT: true; the input reads as it did. -/
def imageBackSpec : ChangeSpec := { name := "imageBack", fn := fun _ => fun
  | [d1, d2] => { results := [.lit (.bool true)], args := [d1, d2] }
  | _ => none }
def imageBackRow : OpenClaim := { program := "ytkdminbbajdjpaa", sum := "dd7fcfd2fe23bc9aa0e6515fe68b6a106f19cf16230b851d2dcb7b8631e20557", func := "loomwork/loomworklaw.ImageBack", spec := "imageBack", unfollowed := true, recurses := true, apart := false }
def ImageBackSaid : Prop := imageBackRow.holds Try.pinned (OpenSpec.ofChange imageBackSpec)

/-- ITS FALSE NEIGHBOUR: 'it returns false'. Refute it at one input. -/
def imageBackWrong : ChangeSpec := { name := "imageBack", fn := fun _ => fun
  | [d1, d2] => { results := [.lit (.bool false)], args := [d1, d2] }
  | _ => none }
def ImageBackWrongFalsely : Prop := imageBackRow.holds Try.pinned (OpenSpec.ofChange imageBackWrong)

/-- 'loomworklaw.ImageTorn': WHATEVER THE INPUT: true; the input reads as it did. -/
def imageTornSpec : ChangeSpec := { name := "imageTorn", fn := fun _ => fun
  | [d1, d2, d3] => { results := [.lit (.bool true)], args := [d1, d2, d3] }
  | _ => none }
def imageTornRow : OpenClaim := { program := "ytkdminbbajdjpaa", sum := "dd7fcfd2fe23bc9aa0e6515fe68b6a106f19cf16230b851d2dcb7b8631e20557", func := "loomwork/loomworklaw.ImageTorn", spec := "imageTorn", unfollowed := true, recurses := true, apart := false }
def ImageTornSaid : Prop := imageTornRow.holds Try.pinned (OpenSpec.ofChange imageTornSpec)

/-- ITS FALSE NEIGHBOUR: 'it returns false'. Refute it at one input. -/
def imageTornWrong : ChangeSpec := { name := "imageTorn", fn := fun _ => fun
  | [d1, d2, d3] => { results := [.lit (.bool false)], args := [d1, d2, d3] }
  | _ => none }
def ImageTornWrongFalsely : Prop := imageTornRow.holds Try.pinned (OpenSpec.ofChange imageTornWrong)

/-- 'loomworklaw.LoopChecks': WHATEVER THE INPUT: true; the input reads as it did. -/
def loopChecksSpec : ChangeSpec := { name := "loopChecks", fn := fun _ => fun
  | [d] => { results := [.lit (.bool true)], args := [d] }
  | _ => none }
def loopChecksRow : OpenClaim := { program := "ytkdminbbajdjpaa", sum := "dd7fcfd2fe23bc9aa0e6515fe68b6a106f19cf16230b851d2dcb7b8631e20557", func := "loomwork/loomworklaw.LoopChecks", spec := "loopChecks", apart := false }
def LoopChecksSaid : Prop := loopChecksRow.holds Try.pinned (OpenSpec.ofChange loopChecksSpec)

/-- ITS FALSE NEIGHBOUR: 'it returns false'. Refute it at one input. -/
def loopChecksWrong : ChangeSpec := { name := "loopChecks", fn := fun _ => fun
  | [d] => { results := [.lit (.bool false)], args := [d] }
  | _ => none }
def LoopChecksWrongFalsely : Prop := loopChecksRow.holds Try.pinned (OpenSpec.ofChange loopChecksWrong)

/-- 'loomworklaw.LoopRows': WHATEVER THE INPUT: true; the input reads as it did. -/
def loopRowsSpec : ChangeSpec := { name := "loopRows", fn := fun _ => fun
  | [d1, d2] => { results := [.lit (.bool true)], args := [d1, d2] }
  | _ => none }
def loopRowsRow : OpenClaim := { program := "ytkdminbbajdjpaa", sum := "dd7fcfd2fe23bc9aa0e6515fe68b6a106f19cf16230b851d2dcb7b8631e20557", func := "loomwork/loomworklaw.LoopRows", spec := "loopRows", recurses := true, apart := false }
def LoopRowsSaid : Prop := loopRowsRow.holds Try.pinned (OpenSpec.ofChange loopRowsSpec)

/-- ITS FALSE NEIGHBOUR: 'it returns false'. Refute it at one input. -/
def loopRowsWrong : ChangeSpec := { name := "loopRows", fn := fun _ => fun
  | [d1, d2] => { results := [.lit (.bool false)], args := [d1, d2] }
  | _ => none }
def LoopRowsWrongFalsely : Prop := loopRowsRow.holds Try.pinned (OpenSpec.ofChange loopRowsWrong)

/-- 'loomworklaw.VmRuns': WHATEVER THE INPUT: true; the input reads as it did. -/
def vmRunsSpec : ChangeSpec := { name := "vmRuns", fn := fun _ => fun
  | [d1, d2] => { results := [.lit (.bool true)], args := [d1, d2] }
  | _ => none }
def vmRunsRow : OpenClaim := { program := "ytkdminbbajdjpaa", sum := "dd7fcfd2fe23bc9aa0e6515fe68b6a106f19cf16230b851d2dcb7b8631e20557", func := "loomwork/loomworklaw.VmRuns", spec := "vmRuns", unfollowed := true, recurses := true, apart := false }
def VmRunsSaid : Prop := vmRunsRow.holds Try.pinned (OpenSpec.ofChange vmRunsSpec)

/-- ITS FALSE NEIGHBOUR: 'it returns false'. Refute it at one input. -/
def vmRunsWrong : ChangeSpec := { name := "vmRuns", fn := fun _ => fun
  | [d1, d2] => { results := [.lit (.bool false)], args := [d1, d2] }
  | _ => none }
def VmRunsWrongFalsely : Prop := vmRunsRow.holds Try.pinned (OpenSpec.ofChange vmRunsWrong)

/-- 'loomworklaw.VmCosts': WHATEVER THE INPUT: true; the input reads as it did. -/
def vmCostsSpec : ChangeSpec := { name := "vmCosts", fn := fun _ => fun
  | [d1, d2] => { results := [.lit (.bool true)], args := [d1, d2] }
  | _ => none }
def vmCostsRow : OpenClaim := { program := "ytkdminbbajdjpaa", sum := "dd7fcfd2fe23bc9aa0e6515fe68b6a106f19cf16230b851d2dcb7b8631e20557", func := "loomwork/loomworklaw.VmCosts", spec := "vmCosts", unfollowed := true, recurses := true, apart := false }
def VmCostsSaid : Prop := vmCostsRow.holds Try.pinned (OpenSpec.ofChange vmCostsSpec)

/-- ITS FALSE NEIGHBOUR: 'it returns false'. Refute it at one input. -/
def vmCostsWrong : ChangeSpec := { name := "vmCosts", fn := fun _ => fun
  | [d1, d2] => { results := [.lit (.bool false)], args := [d1, d2] }
  | _ => none }
def VmCostsWrongFalsely : Prop := vmCostsRow.holds Try.pinned (OpenSpec.ofChange vmCostsWrong)

/-- 'loomworklaw.SizeMeans': WHATEVER THE INPUT: true; the input reads as it did. -/
def sizeMeansSpec : ChangeSpec := { name := "sizeMeans", fn := fun _ => fun
  | [d1, d2, d3] => { results := [.lit (.bool true)], args := [d1, d2, d3] }
  | _ => none }
def sizeMeansRow : OpenClaim := { program := "ytkdminbbajdjpaa", sum := "dd7fcfd2fe23bc9aa0e6515fe68b6a106f19cf16230b851d2dcb7b8631e20557", func := "loomwork/loomworklaw.SizeMeans", spec := "sizeMeans", unfollowed := true, recurses := true, apart := false }
def SizeMeansSaid : Prop := sizeMeansRow.holds Try.pinned (OpenSpec.ofChange sizeMeansSpec)

/-- ITS FALSE NEIGHBOUR: 'it returns false'. Refute it at one input. -/
def sizeMeansWrong : ChangeSpec := { name := "sizeMeans", fn := fun _ => fun
  | [d1, d2, d3] => { results := [.lit (.bool false)], args := [d1, d2, d3] }
  | _ => none }
def SizeMeansWrongFalsely : Prop := sizeMeansRow.holds Try.pinned (OpenSpec.ofChange sizeMeansWrong)

/-- 'loomworklaw.SizeWith': WHATEVER THE INPUT: true; the input reads as it did. -/
def sizeWithSpec : ChangeSpec := { name := "sizeWith", fn := fun _ => fun
  | [d1, d2, d3, d4] => { results := [.lit (.bool true)], args := [d1, d2, d3, d4] }
  | _ => none }
def sizeWithRow : OpenClaim := { program := "ytkdminbbajdjpaa", sum := "dd7fcfd2fe23bc9aa0e6515fe68b6a106f19cf16230b851d2dcb7b8631e20557", func := "loomwork/loomworklaw.SizeWith", spec := "sizeWith", unfollowed := true, recurses := true, apart := false }
def SizeWithSaid : Prop := sizeWithRow.holds Try.pinned (OpenSpec.ofChange sizeWithSpec)

/-- ITS FALSE NEIGHBOUR: 'it returns false'. Refute it at one input. -/
def sizeWithWrong : ChangeSpec := { name := "sizeWith", fn := fun _ => fun
  | [d1, d2, d3, d4] => { results := [.lit (.bool false)], args := [d1, d2, d3, d4] }
  | _ => none }
def SizeWithWrongFalsely : Prop := sizeWithRow.holds Try.pinned (OpenSpec.ofChange sizeWithWrong)

/-- 'loomworklaw.SizeDoes': WHATEVER THE INPUT: true; the input reads as it did. -/
def sizeDoesSpec : ChangeSpec := { name := "sizeDoes", fn := fun _ => fun
  | [d1, d2, d3, d4, d5] => { results := [.lit (.bool true)], args := [d1, d2, d3, d4, d5] }
  | _ => none }
def sizeDoesRow : OpenClaim := { program := "ytkdminbbajdjpaa", sum := "dd7fcfd2fe23bc9aa0e6515fe68b6a106f19cf16230b851d2dcb7b8631e20557", func := "loomwork/loomworklaw.SizeDoes", spec := "sizeDoes", unfollowed := true, recurses := true, apart := false }
def SizeDoesSaid : Prop := sizeDoesRow.holds Try.pinned (OpenSpec.ofChange sizeDoesSpec)

/-- ITS FALSE NEIGHBOUR: 'it returns false'. Refute it at one input. -/
def sizeDoesWrong : ChangeSpec := { name := "sizeDoes", fn := fun _ => fun
  | [d1, d2, d3, d4, d5] => { results := [.lit (.bool false)], args := [d1, d2, d3, d4, d5] }
  | _ => none }
def SizeDoesWrongFalsely : Prop := sizeDoesRow.holds Try.pinned (OpenSpec.ofChange sizeDoesWrong)

/- THE SECOND FORM. 'bulk': how many values and letters a reading holds, each counted each time it is reached (what is shared counts as often as it is met; a slice's spare places count too). A statement '..UptoSaid' is the law's where the arguments, and the package variables that the reading takes, are together of bulk at most 1048576: NARROWER than '..Said'. Prove '..Said' where nothing that the law and all that it calls make is longer than what came in: it says more and counts as full. Else prove '..UptoSaid'. A law counts once. -/
mutual
def uptoBulk {H : Type} : DataW H → Nat
  | .lit (.string bytes) => bytes.length + 1
  | .lit _ => 1
  | .nil => 1
  | .ptr d => uptoBulk d + 1
  | .slice elems spare => uptoBulkAll elems + uptoBulkAll spare + 1
  | .agg parts => uptoBulkAll parts + 1
  | .iface _ d => uptoBulk d + 1
  | .map entries => uptoBulkEntries entries + 1
  | .held _ => 1
def uptoBulkAll {H : Type} : List (DataW H) → Nat
  | [] => 0
  | d :: r => uptoBulk d + uptoBulkAll r
def uptoBulkEntries {H : Type} : List (Lit × DataW H) → Nat
  | [] => 0
  | x :: r => uptoBulkEntry x + uptoBulkEntries r
def uptoBulkEntry {H : Type} : Lit × DataW H → Nat
  | (.string bytes, d) => bytes.length + uptoBulk d + 1
  | (_, d) => uptoBulk d + 1
 end
def uptoSmall : (H : Type) → List (DataW H) → Bool := fun _ ds => decide (uptoBulkAll ds ≤ 1048576)
def OpenSpec.upto (s : _root_.Go.ChangeSpec) : _root_.Go.OpenSpec := { _root_.Go.OpenSpec.ofChange s with cond := some uptoSmall }

/-- 'loomworklaw.CodeChecks', WHERE WHAT IT READS IS OF BULK AT MOST 1048576: true; the input reads as it did. -/
def codeChecksUptoRow : OpenClaim := { program := "ytkdminbbajdjpaa", sum := "dd7fcfd2fe23bc9aa0e6515fe68b6a106f19cf16230b851d2dcb7b8631e20557", func := "loomwork/loomworklaw.CodeChecks", spec := "codeChecks", unfollowed := true, recurses := true, apart := false, narrowed := true }
def CodeChecksUptoSaid : Prop := codeChecksUptoRow.holds Try.pinned (OpenSpec.upto codeChecksSpec)

/-- 'loomworklaw.CodeCosts', WHERE WHAT IT READS IS OF BULK AT MOST 1048576: true; the input reads as it did. -/
def codeCostsUptoRow : OpenClaim := { program := "ytkdminbbajdjpaa", sum := "dd7fcfd2fe23bc9aa0e6515fe68b6a106f19cf16230b851d2dcb7b8631e20557", func := "loomwork/loomworklaw.CodeCosts", spec := "codeCosts", unfollowed := true, recurses := true, apart := false, narrowed := true }
def CodeCostsUptoSaid : Prop := codeCostsUptoRow.holds Try.pinned (OpenSpec.upto codeCostsSpec)

/-- 'loomworklaw.ImageDoes', WHERE WHAT IT READS IS OF BULK AT MOST 1048576: true; the input reads as it did. -/
def imageDoesUptoRow : OpenClaim := { program := "ytkdminbbajdjpaa", sum := "dd7fcfd2fe23bc9aa0e6515fe68b6a106f19cf16230b851d2dcb7b8631e20557", func := "loomwork/loomworklaw.ImageDoes", spec := "imageDoes", unfollowed := true, recurses := true, apart := false, narrowed := true }
def ImageDoesUptoSaid : Prop := imageDoesUptoRow.holds Try.pinned (OpenSpec.upto imageDoesSpec)

/-- 'loomworklaw.ImageBack', WHERE WHAT IT READS IS OF BULK AT MOST 1048576: true; the input reads as it did. -/
def imageBackUptoRow : OpenClaim := { program := "ytkdminbbajdjpaa", sum := "dd7fcfd2fe23bc9aa0e6515fe68b6a106f19cf16230b851d2dcb7b8631e20557", func := "loomwork/loomworklaw.ImageBack", spec := "imageBack", unfollowed := true, recurses := true, apart := false, narrowed := true }
def ImageBackUptoSaid : Prop := imageBackUptoRow.holds Try.pinned (OpenSpec.upto imageBackSpec)

/-- 'loomworklaw.ImageTorn', WHERE WHAT IT READS IS OF BULK AT MOST 1048576: true; the input reads as it did. -/
def imageTornUptoRow : OpenClaim := { program := "ytkdminbbajdjpaa", sum := "dd7fcfd2fe23bc9aa0e6515fe68b6a106f19cf16230b851d2dcb7b8631e20557", func := "loomwork/loomworklaw.ImageTorn", spec := "imageTorn", unfollowed := true, recurses := true, apart := false, narrowed := true }
def ImageTornUptoSaid : Prop := imageTornUptoRow.holds Try.pinned (OpenSpec.upto imageTornSpec)

/-- 'loomworklaw.LoopChecks', WHERE WHAT IT READS IS OF BULK AT MOST 1048576: true; the input reads as it did. -/
def loopChecksUptoRow : OpenClaim := { program := "ytkdminbbajdjpaa", sum := "dd7fcfd2fe23bc9aa0e6515fe68b6a106f19cf16230b851d2dcb7b8631e20557", func := "loomwork/loomworklaw.LoopChecks", spec := "loopChecks", apart := false, narrowed := true }
def LoopChecksUptoSaid : Prop := loopChecksUptoRow.holds Try.pinned (OpenSpec.upto loopChecksSpec)

/-- 'loomworklaw.LoopRows', WHERE WHAT IT READS IS OF BULK AT MOST 1048576: true; the input reads as it did. -/
def loopRowsUptoRow : OpenClaim := { program := "ytkdminbbajdjpaa", sum := "dd7fcfd2fe23bc9aa0e6515fe68b6a106f19cf16230b851d2dcb7b8631e20557", func := "loomwork/loomworklaw.LoopRows", spec := "loopRows", recurses := true, apart := false, narrowed := true }
def LoopRowsUptoSaid : Prop := loopRowsUptoRow.holds Try.pinned (OpenSpec.upto loopRowsSpec)

/-- 'loomworklaw.VmRuns', WHERE WHAT IT READS IS OF BULK AT MOST 1048576: true; the input reads as it did. -/
def vmRunsUptoRow : OpenClaim := { program := "ytkdminbbajdjpaa", sum := "dd7fcfd2fe23bc9aa0e6515fe68b6a106f19cf16230b851d2dcb7b8631e20557", func := "loomwork/loomworklaw.VmRuns", spec := "vmRuns", unfollowed := true, recurses := true, apart := false, narrowed := true }
def VmRunsUptoSaid : Prop := vmRunsUptoRow.holds Try.pinned (OpenSpec.upto vmRunsSpec)

/-- 'loomworklaw.VmCosts', WHERE WHAT IT READS IS OF BULK AT MOST 1048576: true; the input reads as it did. -/
def vmCostsUptoRow : OpenClaim := { program := "ytkdminbbajdjpaa", sum := "dd7fcfd2fe23bc9aa0e6515fe68b6a106f19cf16230b851d2dcb7b8631e20557", func := "loomwork/loomworklaw.VmCosts", spec := "vmCosts", unfollowed := true, recurses := true, apart := false, narrowed := true }
def VmCostsUptoSaid : Prop := vmCostsUptoRow.holds Try.pinned (OpenSpec.upto vmCostsSpec)

/-- 'loomworklaw.SizeMeans', WHERE WHAT IT READS IS OF BULK AT MOST 1048576: true; the input reads as it did. -/
def sizeMeansUptoRow : OpenClaim := { program := "ytkdminbbajdjpaa", sum := "dd7fcfd2fe23bc9aa0e6515fe68b6a106f19cf16230b851d2dcb7b8631e20557", func := "loomwork/loomworklaw.SizeMeans", spec := "sizeMeans", unfollowed := true, recurses := true, apart := false, narrowed := true }
def SizeMeansUptoSaid : Prop := sizeMeansUptoRow.holds Try.pinned (OpenSpec.upto sizeMeansSpec)

/-- 'loomworklaw.SizeWith', WHERE WHAT IT READS IS OF BULK AT MOST 1048576: true; the input reads as it did. -/
def sizeWithUptoRow : OpenClaim := { program := "ytkdminbbajdjpaa", sum := "dd7fcfd2fe23bc9aa0e6515fe68b6a106f19cf16230b851d2dcb7b8631e20557", func := "loomwork/loomworklaw.SizeWith", spec := "sizeWith", unfollowed := true, recurses := true, apart := false, narrowed := true }
def SizeWithUptoSaid : Prop := sizeWithUptoRow.holds Try.pinned (OpenSpec.upto sizeWithSpec)

/-- 'loomworklaw.SizeDoes', WHERE WHAT IT READS IS OF BULK AT MOST 1048576: true; the input reads as it did. -/
def sizeDoesUptoRow : OpenClaim := { program := "ytkdminbbajdjpaa", sum := "dd7fcfd2fe23bc9aa0e6515fe68b6a106f19cf16230b851d2dcb7b8631e20557", func := "loomwork/loomworklaw.SizeDoes", spec := "sizeDoes", unfollowed := true, recurses := true, apart := false, narrowed := true }
def SizeDoesUptoSaid : Prop := sizeDoesUptoRow.holds Try.pinned (OpenSpec.upto sizeDoesSpec)

end Rows
end Go.Proofs.Ytkdminbbajdjpaa
