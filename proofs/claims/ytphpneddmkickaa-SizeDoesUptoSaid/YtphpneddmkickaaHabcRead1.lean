/- the readings of this seat are trees of cells; printed by a program of ours -/
import Derived.Test.YtphpneddmkickaaRows
import Derived.Test.YtphpneddmkickaaHabcData1
import Derived.Test.YtphpneddmkickaaHWide1
set_option linter.all false
namespace Go.Proofs.Ytphpneddmkickaa
open Go Pam
theorem ry {H : Type} (d : DataW H) : 1 ≤ Rows.uptoBulk d := by
  cases d with
  | lit l => cases l <;> simp [Rows.uptoBulk]
  | nil => simp [Rows.uptoBulk]
  | ptr d => simp [Rows.uptoBulk]
  | slice elems spare => simp [Rows.uptoBulk]
  | agg parts => simp [Rows.uptoBulk]
  | iface t d => simp [Rows.uptoBulk]
  | map entries => simp [Rows.uptoBulk]
  | held h => simp [Rows.uptoBulk]
def gK : ti := ⟨Rows.uptoBulk, Rows.uptoBulkAll, (fun _ => by simp [Rows.uptoBulk]), ry, (fun _ _ => by simp [Rows.uptoBulk]), (fun _ => by simp [Rows.uptoBulk]), (by intros; simp [Rows.uptoBulkAll]), (fun _ _ => by simp [Rows.uptoBulkAll])⟩
set_option maxRecDepth 100000 in
theorem _root_.Pam.aa.read (W : World) : nC gK Try.prog W 39 aa.enc aa.ok aa.sz := by
  intro H en fuel cs x h
  obtain ⟨xs, n, rfl, rfl, hl, hlen, hf⟩ := DataW.trod_struct Try.underlying39 h
  match xs, hlen with
  | [x0, x1], _ =>
    obtain ⟨y0, a0, o0, s0⟩ := (jA (B := gK) Try.underlying2) H en n _ _ (hf 0 _ rfl)
    have b0 := pX (show Try.prog.cellsOf 2 = 1 by kernel_rfl) a0
    have c0 : aI (be (fun b => W.heap[b]?)) ((eK .i64) y0) (cs.take 1) := b0
    obtain ⟨y1, a1, o1, s1⟩ := (rx (B := gK) Try.underlying9) H en n _ _ (hf 1 _ rfl)
    have b1 := pX (show Try.prog.cellsOf 9 = 1 by kernel_rfl) a1
    have c1 := pz (show 1 + 1 = 2 from rfl) c0 b1
    refine ⟨⟨y0, y1⟩, pA (n := 2) (hl.trans (by kernel_rfl)) c1, ⟨o0, o1⟩, ?_⟩
    have hz : gK.b (DataW.agg (H := H) [x0.1, x1.1]) = gK.b x0.1 + gK.b x1.1 + 1 := by rw [gK.agg]; (repeat rw [gK.cons]); rw [gK.nil]; omega
    refine Nat.le_trans ?_ (Nat.le_of_eq hz.symm)
    show szI y0 + szS y1 + 1 ≤ _
    omega
end Go.Proofs.Ytphpneddmkickaa
