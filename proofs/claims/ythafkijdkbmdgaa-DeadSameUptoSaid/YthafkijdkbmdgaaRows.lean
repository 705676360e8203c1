/-
  No cell of these rows narrows 'for every input' (looked for: loops, veiled, ifaces, maps, wideKeys, modest, calm, conditions, laid).
  DERIVED. THE GIVEN ROWS OF THIS SEAT. 3 by the template 'for every input the law returns true; each argument reads behind the call as it read before'; 0 by the template 'total and deterministic' (their statements: YthafkijdkbmdgaaTotals.lean).
  GIVEN WITH THE SEED: the statements are not yours to turn. If you find one false, say at which input.
  Laid BY PROGRAM, IN A SANDBOX (cutbox-rows.mjs): the forced cells as the released guide's own fill.sh prints them over the translation 745545056c257501… (all of the seat's roots in one cut). By AI agents, Wed Nov 11 2026. No macro, syntax, notation, axiom, sorry.
-/
import Derived.Test.YthafkijdkbmdgaaChecked
import GoSem.Claim
import GoSem.ClaimJoined
import GoSem.ClaimMapViews
import Derived.JoinedTies
import Derived.KernelRfl
namespace Go.Proofs.Ythafkijdkbmdgaa
/- THE CELL 'sum', in the pinned program and in every row, IS THE sha256 OF THE DUMP (.gsa) THAT YthafkijdkbmdgaaProg.lean LOADS. Nothing in Lean hashes anything: it is a label: what it is worth is what the hold of that sum in a sandbox is worth. -/
noncomputable def Try.pinned : Pinned := { name := "ythafkijdkbmdgaa", sum := "745545056c257501dd5644a4c221ea5f851caef588a714a6c7ab9bb01ac0f075", checked := Try.checked }
namespace Rows
def none {H : Type} : Left H := { results := [], args := [] }

/-- 'loomworklaw.MeanTurns': WHATEVER THE INPUT: true; the input reads as it did. -/
def meanTurnsSpec : ChangeSpec := { name := "meanTurns", fn := fun _ => fun
  | [d1, d2, d3] => { results := [.lit (.bool true)], args := [d1, d2, d3] }
  | _ => none }
def meanTurnsRow : OpenClaim := { program := "ythafkijdkbmdgaa", sum := "745545056c257501dd5644a4c221ea5f851caef588a714a6c7ab9bb01ac0f075", func := "loomwork/loomworklaw.MeanTurns", spec := "meanTurns", unfollowed := true, recurses := true, apart := false }
def MeanTurnsSaid : Prop := meanTurnsRow.holds Try.pinned (OpenSpec.ofChange meanTurnsSpec)

/-- ITS FALSE NEIGHBOUR: 'it returns false'. Refute it at one input. -/
def meanTurnsWrong : ChangeSpec := { name := "meanTurns", fn := fun _ => fun
  | [d1, d2, d3] => { results := [.lit (.bool false)], args := [d1, d2, d3] }
  | _ => none }
def MeanTurnsWrongFalsely : Prop := meanTurnsRow.holds Try.pinned (OpenSpec.ofChange meanTurnsWrong)

/-- 'loomworklaw.MeanCauses': WHATEVER THE INPUT: true; the input reads as it did. -/
def meanCausesSpec : ChangeSpec := { name := "meanCauses", fn := fun _ => fun
  | [d1, d2, d3] => { results := [.lit (.bool true)], args := [d1, d2, d3] }
  | _ => none }
def meanCausesRow : OpenClaim := { program := "ythafkijdkbmdgaa", sum := "745545056c257501dd5644a4c221ea5f851caef588a714a6c7ab9bb01ac0f075", func := "loomwork/loomworklaw.MeanCauses", spec := "meanCauses", unfollowed := true, recurses := true, apart := false }
def MeanCausesSaid : Prop := meanCausesRow.holds Try.pinned (OpenSpec.ofChange meanCausesSpec)

/-- ITS FALSE NEIGHBOUR: 'it returns false'. Refute it at one input. -/
def meanCausesWrong : ChangeSpec := { name := "meanCauses", fn := fun _ => fun
  | [d1, d2, d3] => { results := [.lit (.bool false)], args := [d1, d2, d3] }
  | _ => none }
def MeanCausesWrongFalsely : Prop := meanCausesRow.holds Try.pinned (OpenSpec.ofChange meanCausesWrong)

/-- 'loomworklaw.DeadSame': WHATEVER THE INPUT: true; the input reads as it did. -/
def deadSameSpec : ChangeSpec := { name := "deadSame", fn := fun _ => fun
  | [d1, d2] => { results := [.lit (.bool true)], args := [d1, d2] }
  | _ => none }
def deadSameRow : OpenClaim := { program := "ythafkijdkbmdgaa", sum := "745545056c257501dd5644a4c221ea5f851caef588a714a6c7ab9bb01ac0f075", func := "loomwork/loomworklaw.DeadSame", spec := "deadSame", unfollowed := true, recurses := true, apart := false }
def DeadSameSaid : Prop := deadSameRow.holds Try.pinned (OpenSpec.ofChange deadSameSpec)

/-- ITS FALSE NEIGHBOUR: 'it returns false'. Refute it at one input. -/
def deadSameWrong : ChangeSpec := { name := "deadSame", fn := fun _ => fun
  | [d1, d2] => { results := [.lit (.bool false)], args := [d1, d2] }
  | _ => none }
def DeadSameWrongFalsely : Prop := deadSameRow.holds Try.pinned (OpenSpec.ofChange deadSameWrong)

/- THE SECOND FORM. 'bulk': how many values and letters a reading holds, each counted each time it is reached (what is shared counts as often as it is met; a slice's spare places count too). A statement '..UptoSaid' is the law's where the arguments, and the package variables that the reading takes, are together of bulk at most 1048576: NARROWER than '..Said'. Prove '..Said' where nothing that the law and all that it calls make is longer than what came in: it says more and counts as full. Else prove '..UptoSaid'. A law counts once. -/
mutual
def uptoBulk {H : Type} : DataW H → Nat
  | .lit (.string bytes) => bytes.length + 1
  | .lit _ => 1
  | .nil => 1
  | .ptr d => uptoBulk d + 1
  | .slice elems spare => uptoBulkAll elems + uptoBulkAll spare + 1
  | .agg parts => uptoBulkAll parts + 1
  | .iface _ d => uptoBulk d + 1
  | .map entries => uptoBulkEntries entries + 1
  | .held _ => 1
def uptoBulkAll {H : Type} : List (DataW H) → Nat
  | [] => 0
  | d :: r => uptoBulk d + uptoBulkAll r
def uptoBulkEntries {H : Type} : List (Lit × DataW H) → Nat
  | [] => 0
  | x :: r => uptoBulkEntry x + uptoBulkEntries r
def uptoBulkEntry {H : Type} : Lit × DataW H → Nat
  | (.string bytes, d) => bytes.length + uptoBulk d + 1
  | (_, d) => uptoBulk d + 1
 end
def uptoSmall : (H : Type) → List (DataW H) → Bool := fun _ ds => decide (uptoBulkAll ds ≤ 1048576)
def OpenSpec.upto (s : _root_.Go.ChangeSpec) : _root_.Go.OpenSpec := { _root_.Go.OpenSpec.ofChange s with cond := some uptoSmall }

/-- 'loomworklaw.MeanTurns', WHERE WHAT IT READS IS OF BULK AT MOST 1048576: true; the input reads as it did. -/
def meanTurnsUptoRow : OpenClaim := { program := "ythafkijdkbmdgaa", sum := "745545056c257501dd5644a4c221ea5f851caef588a714a6c7ab9bb01ac0f075", func := "loomwork/loomworklaw.MeanTurns", spec := "meanTurns", unfollowed := true, recurses := true, apart := false, narrowed := true }
def MeanTurnsUptoSaid : Prop := meanTurnsUptoRow.holds Try.pinned (OpenSpec.upto meanTurnsSpec)

/-- 'loomworklaw.MeanCauses', WHERE WHAT IT READS IS OF BULK AT MOST 1048576: true; the input reads as it did. -/
def meanCausesUptoRow : OpenClaim := { program := "ythafkijdkbmdgaa", sum := "745545056c257501dd5644a4c221ea5f851caef588a714a6c7ab9bb01ac0f075", func := "loomwork/loomworklaw.MeanCauses", spec := "meanCauses", unfollowed := true, recurses := true, apart := false, narrowed := true }
def MeanCausesUptoSaid : Prop := meanCausesUptoRow.holds Try.pinned (OpenSpec.upto meanCausesSpec)

/-- 'loomworklaw.DeadSame', WHERE WHAT IT READS IS OF BULK AT MOST 1048576: true; the input reads as it did. -/
def deadSameUptoRow : OpenClaim := { program := "ythafkijdkbmdgaa", sum := "745545056c257501dd5644a4c221ea5f851caef588a714a6c7ab9bb01ac0f075", func := "loomwork/loomworklaw.DeadSame", spec := "deadSame", unfollowed := true, recurses := true, apart := false, narrowed := true }
def DeadSameUptoSaid : Prop := deadSameUptoRow.holds Try.pinned (OpenSpec.upto deadSameSpec)

end Rows
end Go.Proofs.Ythafkijdkbmdgaa
