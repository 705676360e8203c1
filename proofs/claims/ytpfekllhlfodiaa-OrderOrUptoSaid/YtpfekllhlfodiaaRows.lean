/-
  No cell of these rows narrows 'for every input' (looked for: loops, veiled, ifaces, maps, wideKeys, modest, calm, conditions, laid).
  DERIVED. THE GIVEN ROWS OF THIS SEAT. 12 by the template 'for every input the law returns true; each argument reads behind the call as it read before'; 0 by the template 'total and deterministic' (their statements: YtpfekllhlfodiaaTotals.lean).
  GIVEN WITH THE SEED: the statements are not yours to turn. If you find one false, say at which input.
  Laid BY PROGRAM, IN A SANDBOX (cutbox-rows.mjs): the forced cells as the released guide's own fill.sh prints them over the translation febb7f66ee1a6bb2… (all of the seat's roots in one cut). By AI agents, Wed Nov 11 2026. No macro, syntax, notation, axiom, sorry.
-/
import Derived.Test.YtpfekllhlfodiaaChecked
import GoSem.Claim
import GoSem.ClaimJoined
import GoSem.ClaimMapViews
import Derived.JoinedTies
import Derived.KernelRfl
namespace Go.Proofs.Ytpfekllhlfodiaa
/- THE CELL 'sum', in the pinned program and in every row, IS THE sha256 OF THE DUMP (.gsa) THAT YtpfekllhlfodiaaProg.lean LOADS. Nothing in Lean hashes anything: it is a label: what it is worth is what the hold of that sum in a sandbox is worth. -/
noncomputable def Try.pinned : Pinned := { name := "ytpfekllhlfodiaa", sum := "febb7f66ee1a6bb21886b10d0a612d15dc907856d4a1f630fcdf7d48a9e7c8ab", checked := Try.checked }
namespace Rows
def none {H : Type} : Left H := { results := [], args := [] }

/-- 'loomworklaw.EmitMakes': WHATEVER THE INPUT: true; the input reads as it did. -/
def emitMakesSpec : ChangeSpec := { name := "emitMakes", fn := fun _ => fun
  | [d1, d2] => { results := [.lit (.bool true)], args := [d1, d2] }
  | _ => none }
def emitMakesRow : OpenClaim := { program := "ytpfekllhlfodiaa", sum := "febb7f66ee1a6bb21886b10d0a612d15dc907856d4a1f630fcdf7d48a9e7c8ab", func := "loomwork/loomworklaw.EmitMakes", spec := "emitMakes", unfollowed := true, recurses := true, apart := false }
def EmitMakesSaid : Prop := emitMakesRow.holds Try.pinned (OpenSpec.ofChange emitMakesSpec)

/-- ITS FALSE NEIGHBOUR: 'it returns false'. Refute it at one input. -/
def emitMakesWrong : ChangeSpec := { name := "emitMakes", fn := fun _ => fun
  | [d1, d2] => { results := [.lit (.bool false)], args := [d1, d2] }
  | _ => none }
def EmitMakesWrongFalsely : Prop := emitMakesRow.holds Try.pinned (OpenSpec.ofChange emitMakesWrong)

/-- 'loomworklaw.EmitSame': WHATEVER THE INPUT: true; the input reads as it did. -/
def emitSameSpec : ChangeSpec := { name := "emitSame", fn := fun _ => fun
  | [d1, d2] => { results := [.lit (.bool true)], args := [d1, d2] }
  | _ => none }
def emitSameRow : OpenClaim := { program := "ytpfekllhlfodiaa", sum := "febb7f66ee1a6bb21886b10d0a612d15dc907856d4a1f630fcdf7d48a9e7c8ab", func := "loomwork/loomworklaw.EmitSame", spec := "emitSame", unfollowed := true, recurses := true, apart := false }
def EmitSameSaid : Prop := emitSameRow.holds Try.pinned (OpenSpec.ofChange emitSameSpec)

/-- ITS FALSE NEIGHBOUR: 'it returns false'. Refute it at one input. -/
def emitSameWrong : ChangeSpec := { name := "emitSame", fn := fun _ => fun
  | [d1, d2] => { results := [.lit (.bool false)], args := [d1, d2] }
  | _ => none }
def EmitSameWrongFalsely : Prop := emitSameRow.holds Try.pinned (OpenSpec.ofChange emitSameWrong)

/-- 'loomworklaw.SysChecks': WHATEVER THE INPUT: true; the input reads as it did. -/
def sysChecksSpec : ChangeSpec := { name := "sysChecks", fn := fun _ => fun
  | [d] => { results := [.lit (.bool true)], args := [d] }
  | _ => none }
def sysChecksRow : OpenClaim := { program := "ytpfekllhlfodiaa", sum := "febb7f66ee1a6bb21886b10d0a612d15dc907856d4a1f630fcdf7d48a9e7c8ab", func := "loomwork/loomworklaw.SysChecks", spec := "sysChecks", unfollowed := true, recurses := true, apart := false }
def SysChecksSaid : Prop := sysChecksRow.holds Try.pinned (OpenSpec.ofChange sysChecksSpec)

/-- ITS FALSE NEIGHBOUR: 'it returns false'. Refute it at one input. -/
def sysChecksWrong : ChangeSpec := { name := "sysChecks", fn := fun _ => fun
  | [d] => { results := [.lit (.bool false)], args := [d] }
  | _ => none }
def SysChecksWrongFalsely : Prop := sysChecksRow.holds Try.pinned (OpenSpec.ofChange sysChecksWrong)

/-- 'loomworklaw.SysUses': WHATEVER THE INPUT: true; the input reads as it did. -/
def sysUsesSpec : ChangeSpec := { name := "sysUses", fn := fun _ => fun
  | [d] => { results := [.lit (.bool true)], args := [d] }
  | _ => none }
def sysUsesRow : OpenClaim := { program := "ytpfekllhlfodiaa", sum := "febb7f66ee1a6bb21886b10d0a612d15dc907856d4a1f630fcdf7d48a9e7c8ab", func := "loomwork/loomworklaw.SysUses", spec := "sysUses", unfollowed := true, recurses := true, apart := false }
def SysUsesSaid : Prop := sysUsesRow.holds Try.pinned (OpenSpec.ofChange sysUsesSpec)

/-- ITS FALSE NEIGHBOUR: 'it returns false'. Refute it at one input. -/
def sysUsesWrong : ChangeSpec := { name := "sysUses", fn := fun _ => fun
  | [d] => { results := [.lit (.bool false)], args := [d] }
  | _ => none }
def SysUsesWrongFalsely : Prop := sysUsesRow.holds Try.pinned (OpenSpec.ofChange sysUsesWrong)

/-- 'loomworklaw.SysApplies': WHATEVER THE INPUT: true; the input reads as it did. -/
def sysAppliesSpec : ChangeSpec := { name := "sysApplies", fn := fun _ => fun
  | [d1, d2, d3] => { results := [.lit (.bool true)], args := [d1, d2, d3] }
  | _ => none }
def sysAppliesRow : OpenClaim := { program := "ytpfekllhlfodiaa", sum := "febb7f66ee1a6bb21886b10d0a612d15dc907856d4a1f630fcdf7d48a9e7c8ab", func := "loomwork/loomworklaw.SysApplies", spec := "sysApplies", unfollowed := true, recurses := true, apart := false }
def SysAppliesSaid : Prop := sysAppliesRow.holds Try.pinned (OpenSpec.ofChange sysAppliesSpec)

/-- ITS FALSE NEIGHBOUR: 'it returns false'. Refute it at one input. -/
def sysAppliesWrong : ChangeSpec := { name := "sysApplies", fn := fun _ => fun
  | [d1, d2, d3] => { results := [.lit (.bool false)], args := [d1, d2, d3] }
  | _ => none }
def SysAppliesWrongFalsely : Prop := sysAppliesRow.holds Try.pinned (OpenSpec.ofChange sysAppliesWrong)

/-- 'loomworklaw.SysNumbers': WHATEVER THE INPUT: true; the input reads as it did. -/
def sysNumbersSpec : ChangeSpec := { name := "sysNumbers", fn := fun _ => fun
  | [d1, d2] => { results := [.lit (.bool true)], args := [d1, d2] }
  | _ => none }
def sysNumbersRow : OpenClaim := { program := "ytpfekllhlfodiaa", sum := "febb7f66ee1a6bb21886b10d0a612d15dc907856d4a1f630fcdf7d48a9e7c8ab", func := "loomwork/loomworklaw.SysNumbers", spec := "sysNumbers", unfollowed := true, recurses := true, apart := false }
def SysNumbersSaid : Prop := sysNumbersRow.holds Try.pinned (OpenSpec.ofChange sysNumbersSpec)

/-- ITS FALSE NEIGHBOUR: 'it returns false'. Refute it at one input. -/
def sysNumbersWrong : ChangeSpec := { name := "sysNumbers", fn := fun _ => fun
  | [d1, d2] => { results := [.lit (.bool false)], args := [d1, d2] }
  | _ => none }
def SysNumbersWrongFalsely : Prop := sysNumbersRow.holds Try.pinned (OpenSpec.ofChange sysNumbersWrong)

/-- 'loomworklaw.DeadDoes': WHATEVER THE INPUT: true; the input reads as it did. -/
def deadDoesSpec : ChangeSpec := { name := "deadDoes", fn := fun _ => fun
  | [d] => { results := [.lit (.bool true)], args := [d] }
  | _ => none }
def deadDoesRow : OpenClaim := { program := "ytpfekllhlfodiaa", sum := "febb7f66ee1a6bb21886b10d0a612d15dc907856d4a1f630fcdf7d48a9e7c8ab", func := "loomwork/loomworklaw.DeadDoes", spec := "deadDoes", unfollowed := true, recurses := true, apart := false }
def DeadDoesSaid : Prop := deadDoesRow.holds Try.pinned (OpenSpec.ofChange deadDoesSpec)

/-- ITS FALSE NEIGHBOUR: 'it returns false'. Refute it at one input. -/
def deadDoesWrong : ChangeSpec := { name := "deadDoes", fn := fun _ => fun
  | [d] => { results := [.lit (.bool false)], args := [d] }
  | _ => none }
def DeadDoesWrongFalsely : Prop := deadDoesRow.holds Try.pinned (OpenSpec.ofChange deadDoesWrong)

/-- 'loomworklaw.DeadSame': WHATEVER THE INPUT: true; the input reads as it did. -/
def deadSameSpec : ChangeSpec := { name := "deadSame", fn := fun _ => fun
  | [d1, d2] => { results := [.lit (.bool true)], args := [d1, d2] }
  | _ => none }
def deadSameRow : OpenClaim := { program := "ytpfekllhlfodiaa", sum := "febb7f66ee1a6bb21886b10d0a612d15dc907856d4a1f630fcdf7d48a9e7c8ab", func := "loomwork/loomworklaw.DeadSame", spec := "deadSame", unfollowed := true, recurses := true, apart := false }
def DeadSameSaid : Prop := deadSameRow.holds Try.pinned (OpenSpec.ofChange deadSameSpec)

/-- ITS FALSE NEIGHBOUR: 'it returns false'. Refute it at one input. -/
def deadSameWrong : ChangeSpec := { name := "deadSame", fn := fun _ => fun
  | [d1, d2] => { results := [.lit (.bool false)], args := [d1, d2] }
  | _ => none }
def DeadSameWrongFalsely : Prop := deadSameRow.holds Try.pinned (OpenSpec.ofChange deadSameWrong)

/-- 'loomworklaw.LiveDoes': WHATEVER THE INPUT: true; the input reads as it did. -/
def liveDoesSpec : ChangeSpec := { name := "liveDoes", fn := fun _ => fun
  | [d] => { results := [.lit (.bool true)], args := [d] }
  | _ => none }
def liveDoesRow : OpenClaim := { program := "ytpfekllhlfodiaa", sum := "febb7f66ee1a6bb21886b10d0a612d15dc907856d4a1f630fcdf7d48a9e7c8ab", func := "loomwork/loomworklaw.LiveDoes", spec := "liveDoes", unfollowed := true, recurses := true, apart := false }
def LiveDoesSaid : Prop := liveDoesRow.holds Try.pinned (OpenSpec.ofChange liveDoesSpec)

/-- ITS FALSE NEIGHBOUR: 'it returns false'. Refute it at one input. -/
def liveDoesWrong : ChangeSpec := { name := "liveDoes", fn := fun _ => fun
  | [d] => { results := [.lit (.bool false)], args := [d] }
  | _ => none }
def LiveDoesWrongFalsely : Prop := liveDoesRow.holds Try.pinned (OpenSpec.ofChange liveDoesWrong)

/-- 'loomworklaw.LiveHolds': WHATEVER THE INPUT: true; the input reads as it did. -/
def liveHoldsSpec : ChangeSpec := { name := "liveHolds", fn := fun _ => fun
  | [d] => { results := [.lit (.bool true)], args := [d] }
  | _ => none }
def liveHoldsRow : OpenClaim := { program := "ytpfekllhlfodiaa", sum := "febb7f66ee1a6bb21886b10d0a612d15dc907856d4a1f630fcdf7d48a9e7c8ab", func := "loomwork/loomworklaw.LiveHolds", spec := "liveHolds", unfollowed := true, recurses := true, apart := false }
def LiveHoldsSaid : Prop := liveHoldsRow.holds Try.pinned (OpenSpec.ofChange liveHoldsSpec)

/-- ITS FALSE NEIGHBOUR: 'it returns false'. Refute it at one input. -/
def liveHoldsWrong : ChangeSpec := { name := "liveHolds", fn := fun _ => fun
  | [d] => { results := [.lit (.bool false)], args := [d] }
  | _ => none }
def LiveHoldsWrongFalsely : Prop := liveHoldsRow.holds Try.pinned (OpenSpec.ofChange liveHoldsWrong)

/-- 'loomworklaw.OrderDoes': WHATEVER THE INPUT: true; the input reads as it did. -/
def orderDoesSpec : ChangeSpec := { name := "orderDoes", fn := fun _ => fun
  | [d] => { results := [.lit (.bool true)], args := [d] }
  | _ => none }
def orderDoesRow : OpenClaim := { program := "ytpfekllhlfodiaa", sum := "febb7f66ee1a6bb21886b10d0a612d15dc907856d4a1f630fcdf7d48a9e7c8ab", func := "loomwork/loomworklaw.OrderDoes", spec := "orderDoes", unfollowed := true, recurses := true, apart := false }
def OrderDoesSaid : Prop := orderDoesRow.holds Try.pinned (OpenSpec.ofChange orderDoesSpec)

/-- ITS FALSE NEIGHBOUR: 'it returns false'. Refute it at one input. -/
def orderDoesWrong : ChangeSpec := { name := "orderDoes", fn := fun _ => fun
  | [d] => { results := [.lit (.bool false)], args := [d] }
  | _ => none }
def OrderDoesWrongFalsely : Prop := orderDoesRow.holds Try.pinned (OpenSpec.ofChange orderDoesWrong)

/-- 'loomworklaw.OrderOr': WHATEVER THE INPUT: true; the input reads as it did. -/
def orderOrSpec : ChangeSpec := { name := "orderOr", fn := fun _ => fun
  | [d] => { results := [.lit (.bool true)], args := [d] }
  | _ => none }
def orderOrRow : OpenClaim := { program := "ytpfekllhlfodiaa", sum := "febb7f66ee1a6bb21886b10d0a612d15dc907856d4a1f630fcdf7d48a9e7c8ab", func := "loomwork/loomworklaw.OrderOr", spec := "orderOr", unfollowed := true, recurses := true, apart := false }
def OrderOrSaid : Prop := orderOrRow.holds Try.pinned (OpenSpec.ofChange orderOrSpec)

/-- ITS FALSE NEIGHBOUR: 'it returns false'. Refute it at one input. -/
def orderOrWrong : ChangeSpec := { name := "orderOr", fn := fun _ => fun
  | [d] => { results := [.lit (.bool false)], args := [d] }
  | _ => none }
def OrderOrWrongFalsely : Prop := orderOrRow.holds Try.pinned (OpenSpec.ofChange orderOrWrong)

/- THE SECOND FORM. 'bulk': how many values and letters a reading holds, each counted each time it is reached (what is shared counts as often as it is met; a slice's spare places count too). A statement '..UptoSaid' is the law's where the arguments, and the package variables that the reading takes, are together of bulk at most 1048576: NARROWER than '..Said'. Prove '..Said' where nothing that the law and all that it calls make is longer than what came in: it says more and counts as full. Else prove '..UptoSaid'. A law counts once. -/
mutual
def uptoBulk {H : Type} : DataW H → Nat
  | .lit (.string bytes) => bytes.length + 1
  | .lit _ => 1
  | .nil => 1
  | .ptr d => uptoBulk d + 1
  | .slice elems spare => uptoBulkAll elems + uptoBulkAll spare + 1
  | .agg parts => uptoBulkAll parts + 1
  | .iface _ d => uptoBulk d + 1
  | .map entries => uptoBulkEntries entries + 1
  | .held _ => 1
def uptoBulkAll {H : Type} : List (DataW H) → Nat
  | [] => 0
  | d :: r => uptoBulk d + uptoBulkAll r
def uptoBulkEntries {H : Type} : List (Lit × DataW H) → Nat
  | [] => 0
  | x :: r => uptoBulkEntry x + uptoBulkEntries r
def uptoBulkEntry {H : Type} : Lit × DataW H → Nat
  | (.string bytes, d) => bytes.length + uptoBulk d + 1
  | (_, d) => uptoBulk d + 1
 end
def uptoSmall : (H : Type) → List (DataW H) → Bool := fun _ ds => decide (uptoBulkAll ds ≤ 1048576)
def OpenSpec.upto (s : _root_.Go.ChangeSpec) : _root_.Go.OpenSpec := { _root_.Go.OpenSpec.ofChange s with cond := some uptoSmall }

/-- 'loomworklaw.EmitMakes', WHERE WHAT IT READS IS OF BULK AT MOST 1048576: true; the input reads as it did. -/
def emitMakesUptoRow : OpenClaim := { program := "ytpfekllhlfodiaa", sum := "febb7f66ee1a6bb21886b10d0a612d15dc907856d4a1f630fcdf7d48a9e7c8ab", func := "loomwork/loomworklaw.EmitMakes", spec := "emitMakes", unfollowed := true, recurses := true, apart := false, narrowed := true }
def EmitMakesUptoSaid : Prop := emitMakesUptoRow.holds Try.pinned (OpenSpec.upto emitMakesSpec)

/-- 'loomworklaw.EmitSame', WHERE WHAT IT READS IS OF BULK AT MOST 1048576: true; the input reads as it did. -/
def emitSameUptoRow : OpenClaim := { program := "ytpfekllhlfodiaa", sum := "febb7f66ee1a6bb21886b10d0a612d15dc907856d4a1f630fcdf7d48a9e7c8ab", func := "loomwork/loomworklaw.EmitSame", spec := "emitSame", unfollowed := true, recurses := true, apart := false, narrowed := true }
def EmitSameUptoSaid : Prop := emitSameUptoRow.holds Try.pinned (OpenSpec.upto emitSameSpec)

/-- 'loomworklaw.SysChecks', WHERE WHAT IT READS IS OF BULK AT MOST 1048576: true; the input reads as it did. -/
def sysChecksUptoRow : OpenClaim := { program := "ytpfekllhlfodiaa", sum := "febb7f66ee1a6bb21886b10d0a612d15dc907856d4a1f630fcdf7d48a9e7c8ab", func := "loomwork/loomworklaw.SysChecks", spec := "sysChecks", unfollowed := true, recurses := true, apart := false, narrowed := true }
def SysChecksUptoSaid : Prop := sysChecksUptoRow.holds Try.pinned (OpenSpec.upto sysChecksSpec)

/-- 'loomworklaw.SysUses', WHERE WHAT IT READS IS OF BULK AT MOST 1048576: true; the input reads as it did. -/
def sysUsesUptoRow : OpenClaim := { program := "ytpfekllhlfodiaa", sum := "febb7f66ee1a6bb21886b10d0a612d15dc907856d4a1f630fcdf7d48a9e7c8ab", func := "loomwork/loomworklaw.SysUses", spec := "sysUses", unfollowed := true, recurses := true, apart := false, narrowed := true }
def SysUsesUptoSaid : Prop := sysUsesUptoRow.holds Try.pinned (OpenSpec.upto sysUsesSpec)

/-- 'loomworklaw.SysApplies', WHERE WHAT IT READS IS OF BULK AT MOST 1048576: true; the input reads as it did. -/
def sysAppliesUptoRow : OpenClaim := { program := "ytpfekllhlfodiaa", sum := "febb7f66ee1a6bb21886b10d0a612d15dc907856d4a1f630fcdf7d48a9e7c8ab", func := "loomwork/loomworklaw.SysApplies", spec := "sysApplies", unfollowed := true, recurses := true, apart := false, narrowed := true }
def SysAppliesUptoSaid : Prop := sysAppliesUptoRow.holds Try.pinned (OpenSpec.upto sysAppliesSpec)

/-- 'loomworklaw.SysNumbers', WHERE WHAT IT READS IS OF BULK AT MOST 1048576: true; the input reads as it did. -/
def sysNumbersUptoRow : OpenClaim := { program := "ytpfekllhlfodiaa", sum := "febb7f66ee1a6bb21886b10d0a612d15dc907856d4a1f630fcdf7d48a9e7c8ab", func := "loomwork/loomworklaw.SysNumbers", spec := "sysNumbers", unfollowed := true, recurses := true, apart := false, narrowed := true }
def SysNumbersUptoSaid : Prop := sysNumbersUptoRow.holds Try.pinned (OpenSpec.upto sysNumbersSpec)

/-- 'loomworklaw.DeadDoes', WHERE WHAT IT READS IS OF BULK AT MOST 1048576: true; the input reads as it did. -/
def deadDoesUptoRow : OpenClaim := { program := "ytpfekllhlfodiaa", sum := "febb7f66ee1a6bb21886b10d0a612d15dc907856d4a1f630fcdf7d48a9e7c8ab", func := "loomwork/loomworklaw.DeadDoes", spec := "deadDoes", unfollowed := true, recurses := true, apart := false, narrowed := true }
def DeadDoesUptoSaid : Prop := deadDoesUptoRow.holds Try.pinned (OpenSpec.upto deadDoesSpec)

/-- 'loomworklaw.DeadSame', WHERE WHAT IT READS IS OF BULK AT MOST 1048576: true; the input reads as it did. -/
def deadSameUptoRow : OpenClaim := { program := "ytpfekllhlfodiaa", sum := "febb7f66ee1a6bb21886b10d0a612d15dc907856d4a1f630fcdf7d48a9e7c8ab", func := "loomwork/loomworklaw.DeadSame", spec := "deadSame", unfollowed := true, recurses := true, apart := false, narrowed := true }
def DeadSameUptoSaid : Prop := deadSameUptoRow.holds Try.pinned (OpenSpec.upto deadSameSpec)

/-- 'loomworklaw.LiveDoes', WHERE WHAT IT READS IS OF BULK AT MOST 1048576: true; the input reads as it did. -/
def liveDoesUptoRow : OpenClaim := { program := "ytpfekllhlfodiaa", sum := "febb7f66ee1a6bb21886b10d0a612d15dc907856d4a1f630fcdf7d48a9e7c8ab", func := "loomwork/loomworklaw.LiveDoes", spec := "liveDoes", unfollowed := true, recurses := true, apart := false, narrowed := true }
def LiveDoesUptoSaid : Prop := liveDoesUptoRow.holds Try.pinned (OpenSpec.upto liveDoesSpec)

/-- 'loomworklaw.LiveHolds', WHERE WHAT IT READS IS OF BULK AT MOST 1048576: true; the input reads as it did. -/
def liveHoldsUptoRow : OpenClaim := { program := "ytpfekllhlfodiaa", sum := "febb7f66ee1a6bb21886b10d0a612d15dc907856d4a1f630fcdf7d48a9e7c8ab", func := "loomwork/loomworklaw.LiveHolds", spec := "liveHolds", unfollowed := true, recurses := true, apart := false, narrowed := true }
def LiveHoldsUptoSaid : Prop := liveHoldsUptoRow.holds Try.pinned (OpenSpec.upto liveHoldsSpec)

/-- 'loomworklaw.OrderDoes', WHERE WHAT IT READS IS OF BULK AT MOST 1048576: true; the input reads as it did. -/
def orderDoesUptoRow : OpenClaim := { program := "ytpfekllhlfodiaa", sum := "febb7f66ee1a6bb21886b10d0a612d15dc907856d4a1f630fcdf7d48a9e7c8ab", func := "loomwork/loomworklaw.OrderDoes", spec := "orderDoes", unfollowed := true, recurses := true, apart := false, narrowed := true }
def OrderDoesUptoSaid : Prop := orderDoesUptoRow.holds Try.pinned (OpenSpec.upto orderDoesSpec)

/-- 'loomworklaw.OrderOr', WHERE WHAT IT READS IS OF BULK AT MOST 1048576: true; the input reads as it did. -/
def orderOrUptoRow : OpenClaim := { program := "ytpfekllhlfodiaa", sum := "febb7f66ee1a6bb21886b10d0a612d15dc907856d4a1f630fcdf7d48a9e7c8ab", func := "loomwork/loomworklaw.OrderOr", spec := "orderOr", unfollowed := true, recurses := true, apart := false, narrowed := true }
def OrderOrUptoSaid : Prop := orderOrUptoRow.holds Try.pinned (OpenSpec.upto orderOrSpec)

end Rows
end Go.Proofs.Ytpfekllhlfodiaa
