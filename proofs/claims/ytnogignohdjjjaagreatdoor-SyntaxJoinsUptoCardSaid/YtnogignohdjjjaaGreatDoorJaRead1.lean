/- the readings of this seat are trees of cells; printed by a program of ours -/
import Derived.Test.YtnogignohdjjjaaGreatDoorRows
import Derived.Test.YtnogignohdjjjaaGreatDoorJaData1
import Derived.Test.YtnogignohdjjjaaGreatDoorJWide1
set_option linter.all false
namespace Go.Proofs.YtnogignohdjjjaaGreatDoor
open Go Pam
theorem wa{H:Type}(d:DataW H):1≤Rows.uptoBulk d:=by
  cases d with
  |lit l=>cases l<;>simp [Rows.uptoBulk]
  |nil=>simp [Rows.uptoBulk]
  |ptr d=>simp [Rows.uptoBulk]
  |slice elems spare=>simp [Rows.uptoBulk]
  |agg parts=>simp [Rows.uptoBulk]
  |iface t d=>simp [Rows.uptoBulk]
  |map entries=>simp [Rows.uptoBulk]
  |held h=>simp [Rows.uptoBulk]
def Aq:yX:=⟨Rows.uptoBulk,Rows.uptoBulkAll,(fun _=>by simp [Rows.uptoBulk]),wa,(fun _ _=>by simp [Rows.uptoBulk]),(fun _=>by simp [Rows.uptoBulk]),(by intros;simp [Rows.uptoBulkAll]),(fun _ _=>by simp [Rows.uptoBulkAll])⟩
end Go.Proofs.YtnogignohdjjjaaGreatDoor
