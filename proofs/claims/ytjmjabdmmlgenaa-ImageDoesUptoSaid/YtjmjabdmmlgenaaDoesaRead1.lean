/- the readings of this seat are trees of cells; printed by a program of ours -/
import Derived.Test.YtjmjabdmmlgenaaRows
import Derived.Test.YtjmjabdmmlgenaaDoesaData1
import Derived.Test.YtjmjabdmmlgenaaDoesWide1
set_option linter.all false
namespace Go.Proofs.Ytjmjabdmmlgenaa
open Go Pam
theorem ry {H : Type} (d : DataW H) : 1 ≤ Rows.uptoBulk d := by
  cases d with
  | lit l => cases l <;> simp [Rows.uptoBulk]
  | nil => simp [Rows.uptoBulk]
  | ptr d => simp [Rows.uptoBulk]
  | slice elems spare => simp [Rows.uptoBulk]
  | agg parts => simp [Rows.uptoBulk]
  | iface t d => simp [Rows.uptoBulk]
  | map entries => simp [Rows.uptoBulk]
  | held h => simp [Rows.uptoBulk]
def eu : tk := ⟨Rows.uptoBulk, Rows.uptoBulkAll, (fun _ => by simp [Rows.uptoBulk]), ry, (fun _ _ => by simp [Rows.uptoBulk]), (fun _ => by simp [Rows.uptoBulk]), (by intros; simp [Rows.uptoBulkAll]), (fun _ _ => by simp [Rows.uptoBulkAll])⟩
set_option maxRecDepth 100000 in
theorem _root_.Pam.ax.read (W : World) : nq eu Try.prog W 50 ax.enc ax.ok ax.sz := by
  intro H en fuel cs x h
  obtain ⟨xs, n, rfl, rfl, hl, hlen, hf⟩ := DataW.trod_struct Try.underlying50 h
  match xs, hlen with
  | [x0, x1, x2, x3, x4, x5], _ =>
    obtain ⟨y0, a0, o0, s0⟩ := (gO (B := eu) Try.underlying3) H en n _ _ (hf 0 _ rfl)
    have b0 := fS (show Try.prog.cellsOf 3 = 1 by kernel_rfl) a0
    have c0 : aF (aM (fun b => W.heap[b]?)) ((eK .i64) y0) (cs.take 1) := b0
    obtain ⟨y1, a1, o1, s1⟩ := (gO (B := eu) Try.underlying3) H en n _ _ (hf 1 _ rfl)
    have b1 := fS (show Try.prog.cellsOf 3 = 1 by kernel_rfl) a1
    have c1 := dO (show 1 + 1 = 2 from rfl) c0 b1
    obtain ⟨y2, a2, o2, s2⟩ := (gO (B := eu) Try.underlying3) H en n _ _ (hf 2 _ rfl)
    have b2 := fS (show Try.prog.cellsOf 3 = 1 by kernel_rfl) a2
    have c2 := dO (show 2 + 1 = 3 from rfl) c1 b2
    obtain ⟨y3, a3, o3, s3⟩ := (gO (B := eu) Try.underlying3) H en n _ _ (hf 3 _ rfl)
    have b3 := fS (show Try.prog.cellsOf 3 = 1 by kernel_rfl) a3
    have c3 := dO (show 3 + 1 = 4 from rfl) c2 b3
    obtain ⟨y4, a4, o4, s4⟩ := (gO (B := eu) Try.underlying3) H en n _ _ (hf 4 _ rfl)
    have b4 := fS (show Try.prog.cellsOf 3 = 1 by kernel_rfl) a4
    have c4 := dO (show 4 + 1 = 5 from rfl) c3 b4
    obtain ⟨y5, a5, o5, s5⟩ := (gO (B := eu) Try.underlying2) H en n _ _ (hf 5 _ rfl)
    have b5 := fS (show Try.prog.cellsOf 2 = 1 by kernel_rfl) a5
    have c5 := dO (show 5 + 1 = 6 from rfl) c4 b5
    refine ⟨⟨y0, y1, y2, y3, y4, y5⟩, mz (n := 6) (hl.trans (by kernel_rfl)) c5, ⟨o0, o1, o2, o3, o4, o5⟩, ?_⟩
    have hz : eu.b (DataW.agg (H := H) [x0.1, x1.1, x2.1, x3.1, x4.1, x5.1]) = eu.b x0.1 + eu.b x1.1 + eu.b x2.1 + eu.b x3.1 + eu.b x4.1 + eu.b x5.1 + 1 := by rw [eu.agg]; (repeat rw [eu.cons]); rw [eu.nil]; omega
    refine Nat.le_trans ?_ (Nat.le_of_eq hz.symm)
    show szI y0 + szI y1 + szI y2 + szI y3 + szI y4 + szI y5 + 1 ≤ _
    omega
set_option maxRecDepth 100000 in
theorem _root_.Pam.aj.read (W : World) : nq eu Try.prog W 25 aj.enc aj.ok aj.sz := by
  intro H en fuel cs x h
  obtain ⟨xs, n, rfl, rfl, hl, hlen, hf⟩ := DataW.trod_struct Try.underlying25 h
  match xs, hlen with
  | [x0, x1, x2, x3, x4, x5, x6], _ =>
    obtain ⟨y0, a0, o0, s0⟩ := (gO (B := eu) Try.underlying3) H en n _ _ (hf 0 _ rfl)
    have b0 := fS (show Try.prog.cellsOf 3 = 1 by kernel_rfl) a0
    have c0 : aF (aM (fun b => W.heap[b]?)) ((eK .i64) y0) (cs.take 1) := b0
    obtain ⟨y1, a1, o1, s1⟩ := (gO (B := eu) Try.underlying3) H en n _ _ (hf 1 _ rfl)
    have b1 := fS (show Try.prog.cellsOf 3 = 1 by kernel_rfl) a1
    have c1 := dO (show 1 + 1 = 2 from rfl) c0 b1
    obtain ⟨y2, a2, o2, s2⟩ := (gO (B := eu) Try.underlying3) H en n _ _ (hf 2 _ rfl)
    have b2 := fS (show Try.prog.cellsOf 3 = 1 by kernel_rfl) a2
    have c2 := dO (show 2 + 1 = 3 from rfl) c1 b2
    obtain ⟨y3, a3, o3, s3⟩ := (jO (B := eu) (s := 1) Try.underlying22 (by kernel_rfl) (by first | decide | exact Nat.zero_lt_succ _) (fun _ => rfl) (gO (B := eu) Try.underlying3)) H en n _ _ (hf 3 _ rfl)
    have b3 := fS (show Try.prog.cellsOf 22 = 1 by kernel_rfl) a3
    have c3 := dO (show 3 + 1 = 4 from rfl) c2 b3
    obtain ⟨y4, a4, o4, s4⟩ := (jO (B := eu) (s := 1) Try.underlying22 (by kernel_rfl) (by first | decide | exact Nat.zero_lt_succ _) (fun _ => rfl) (gO (B := eu) Try.underlying3)) H en n _ _ (hf 4 _ rfl)
    have b4 := fS (show Try.prog.cellsOf 22 = 1 by kernel_rfl) a4
    have c4 := dO (show 4 + 1 = 5 from rfl) c3 b4
    obtain ⟨y5, a5, o5, s5⟩ := (jO (B := eu) (s := 1) Try.underlying22 (by kernel_rfl) (by first | decide | exact Nat.zero_lt_succ _) (fun _ => rfl) (gO (B := eu) Try.underlying3)) H en n _ _ (hf 5 _ rfl)
    have b5 := fS (show Try.prog.cellsOf 22 = 1 by kernel_rfl) a5
    have c5 := dO (show 5 + 1 = 6 from rfl) c4 b5
    obtain ⟨y6, a6, o6, s6⟩ := (jO (B := eu) (s := 6) Try.underlying23 (by kernel_rfl) (by first | decide | exact Nat.zero_lt_succ _) (fun _ => rfl) (ax.read W)) H en n _ _ (hf 6 _ rfl)
    have b6 := fS (show Try.prog.cellsOf 23 = 1 by kernel_rfl) a6
    have c6 := dO (show 6 + 1 = 7 from rfl) c5 b6
    refine ⟨⟨y0, y1, y2, y3, y4, y5, y6⟩, mz (n := 7) (hl.trans (by kernel_rfl)) c6, ⟨o0, o1, o2, o3, o4, o5, o6⟩, ?_⟩
    have hz : eu.b (DataW.agg (H := H) [x0.1, x1.1, x2.1, x3.1, x4.1, x5.1, x6.1]) = eu.b x0.1 + eu.b x1.1 + eu.b x2.1 + eu.b x3.1 + eu.b x4.1 + eu.b x5.1 + eu.b x6.1 + 1 := by rw [eu.agg]; (repeat rw [eu.cons]); rw [eu.nil]; omega
    refine Nat.le_trans ?_ (Nat.le_of_eq hz.symm)
    show szI y0 + szI y1 + szI y2 + (szL szI) y3 + (szL szI) y4 + (szL szI) y5 + (szL ax.sz) y6 + 1 ≤ _
    omega
end Go.Proofs.Ytjmjabdmmlgenaa
