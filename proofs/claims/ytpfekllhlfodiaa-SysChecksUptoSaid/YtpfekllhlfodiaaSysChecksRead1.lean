/- the readings of this seat are trees of cells; printed by a program of ours -/
import Derived.Test.YtpfekllhlfodiaaRows
import Derived.Test.YtpfekllhlfodiaaSysChecksData1
import Derived.Test.YtpfekllhlfodiaaWide1
set_option linter.all false
namespace Go.Proofs.Ytpfekllhlfodiaa
open Go Pam
theorem bulk_one {H : Type} (d : DataW H) : 1 ≤ Rows.uptoBulk d := by
  cases d with
  | lit l => cases l <;> simp [Rows.uptoBulk]
  | nil => simp [Rows.uptoBulk]
  | ptr d => simp [Rows.uptoBulk]
  | slice elems spare => simp [Rows.uptoBulk]
  | agg parts => simp [Rows.uptoBulk]
  | iface t d => simp [Rows.uptoBulk]
  | map entries => simp [Rows.uptoBulk]
  | held h => simp [Rows.uptoBulk]
def bulk : Bulk := ⟨Rows.uptoBulk, Rows.uptoBulkAll, (fun _ => by simp [Rows.uptoBulk]), bulk_one, (fun _ _ => by simp [Rows.uptoBulk]), (fun _ => by simp [Rows.uptoBulk]), (by intros; simp [Rows.uptoBulkAll]), (fun _ _ => by simp [Rows.uptoBulkAll])⟩
set_option maxRecDepth 100000 in
theorem _root_.Pam.TVar.read (W : World) : Reads bulk Try.prog W 97 TVar.enc TVar.ok TVar.sz := by
  intro H en fuel cs x h
  obtain ⟨xs, n, rfl, rfl, hl, hlen, hf⟩ := DataW.trod_struct Try.underlying97 h
  match xs, hlen with
  | [x0, x1], _ =>
    obtain ⟨y0, a0, o0, s0⟩ := (rd_int (B := bulk) Try.underlying5) H en n _ _ (hf 0 _ rfl)
    have b0 := take_eq (show Try.prog.cellsOf 5 = 1 by kernel_rfl) a0
    have c0 : All2 (RepT (fun b => W.heap[b]?)) ((eK .u8) y0) (cs.take 1) := b0
    obtain ⟨y1, a1, o1, s1⟩ := (rd_int (B := bulk) Try.underlying3) H en n _ _ (hf 1 _ rfl)
    have b1 := take_eq (show Try.prog.cellsOf 3 = 1 by kernel_rfl) a1
    have c1 := all2_next' (show 1 + 1 = 2 from rfl) c0 b1
    refine ⟨⟨y0, y1⟩, all2_whole (n := 2) (hl.trans (by kernel_rfl)) c1, ⟨o0, o1⟩, ?_⟩
    have hz : bulk.b (DataW.agg (H := H) [x0.1, x1.1]) = bulk.b x0.1 + bulk.b x1.1 + 1 := by rw [bulk.agg]; (repeat rw [bulk.cons]); rw [bulk.nil]; omega
    refine Nat.le_trans ?_ (Nat.le_of_eq hz.symm)
    show szI y0 + szI y1 + 1 ≤ _
    omega
set_option maxRecDepth 100000 in
theorem _root_.Pam.TPush.read (W : World) : Reads bulk Try.prog W 106 TPush.enc TPush.ok TPush.sz := by
  intro H en fuel cs x h
  obtain ⟨xs, n, rfl, rfl, hl, hlen, hf⟩ := DataW.trod_struct Try.underlying106 h
  match xs, hlen with
  | [x0, x1, x2, x3], _ =>
    obtain ⟨y0, a0, o0, s0⟩ := (rd_int (B := bulk) Try.underlying3) H en n _ _ (hf 0 _ rfl)
    have b0 := take_eq (show Try.prog.cellsOf 3 = 1 by kernel_rfl) a0
    have c0 : All2 (RepT (fun b => W.heap[b]?)) ((eK .i64) y0) (cs.take 1) := b0
    obtain ⟨y1, a1, o1, s1⟩ := (rd_int (B := bulk) Try.underlying3) H en n _ _ (hf 1 _ rfl)
    have b1 := take_eq (show Try.prog.cellsOf 3 = 1 by kernel_rfl) a1
    have c1 := all2_next' (show 1 + 1 = 2 from rfl) c0 b1
    obtain ⟨y2, a2, o2, s2⟩ := (rd_int (B := bulk) Try.underlying3) H en n _ _ (hf 2 _ rfl)
    have b2 := take_eq (show Try.prog.cellsOf 3 = 1 by kernel_rfl) a2
    have c2 := all2_next' (show 2 + 1 = 3 from rfl) c1 b2
    obtain ⟨y3, a3, o3, s3⟩ := (rd_int (B := bulk) Try.underlying2) H en n _ _ (hf 3 _ rfl)
    have b3 := take_eq (show Try.prog.cellsOf 2 = 1 by kernel_rfl) a3
    have c3 := all2_next' (show 3 + 1 = 4 from rfl) c2 b3
    refine ⟨⟨y0, y1, y2, y3⟩, all2_whole (n := 4) (hl.trans (by kernel_rfl)) c3, ⟨o0, o1, o2, o3⟩, ?_⟩
    have hz : bulk.b (DataW.agg (H := H) [x0.1, x1.1, x2.1, x3.1]) = bulk.b x0.1 + bulk.b x1.1 + bulk.b x2.1 + bulk.b x3.1 + 1 := by rw [bulk.agg]; (repeat rw [bulk.cons]); rw [bulk.nil]; omega
    refine Nat.le_trans ?_ (Nat.le_of_eq hz.symm)
    show szI y0 + szI y1 + szI y2 + szI y3 + 1 ≤ _
    omega
set_option maxRecDepth 100000 in
theorem _root_.Pam.TRule.read (W : World) : Reads bulk Try.prog W 68 TRule.enc TRule.ok TRule.sz := by
  intro H en fuel cs x h
  obtain ⟨xs, n, rfl, rfl, hl, hlen, hf⟩ := DataW.trod_struct Try.underlying68 h
  match xs, hlen with
  | [x0, x1, x2, x3, x4, x5], _ =>
    obtain ⟨y0, a0, o0, s0⟩ := (rd_int (B := bulk) Try.underlying3) H en n _ _ (hf 0 _ rfl)
    have b0 := take_eq (show Try.prog.cellsOf 3 = 1 by kernel_rfl) a0
    have c0 : All2 (RepT (fun b => W.heap[b]?)) ((eK .i64) y0) (cs.take 1) := b0
    obtain ⟨y1, a1, o1, s1⟩ := (rd_int (B := bulk) Try.underlying3) H en n _ _ (hf 1 _ rfl)
    have b1 := take_eq (show Try.prog.cellsOf 3 = 1 by kernel_rfl) a1
    have c1 := all2_next' (show 1 + 1 = 2 from rfl) c0 b1
    obtain ⟨y2, a2, o2, s2⟩ := (rd_int (B := bulk) Try.underlying3) H en n _ _ (hf 2 _ rfl)
    have b2 := take_eq (show Try.prog.cellsOf 3 = 1 by kernel_rfl) a2
    have c2 := all2_next' (show 2 + 1 = 3 from rfl) c1 b2
    obtain ⟨y3, a3, o3, s3⟩ := (rd_int (B := bulk) Try.underlying2) H en n _ _ (hf 3 _ rfl)
    have b3 := take_eq (show Try.prog.cellsOf 2 = 1 by kernel_rfl) a3
    have c3 := all2_next' (show 3 + 1 = 4 from rfl) c2 b3
    obtain ⟨y4, a4, o4, s4⟩ := (rd_slice (B := bulk) (s := 1) Try.underlying22 (by kernel_rfl) (by first | decide | exact Nat.zero_lt_succ _) (fun _ => rfl) (rd_int (B := bulk) Try.underlying3)) H en n _ _ (hf 4 _ rfl)
    have b4 := take_eq (show Try.prog.cellsOf 22 = 1 by kernel_rfl) a4
    have c4 := all2_next' (show 4 + 1 = 5 from rfl) c3 b4
    obtain ⟨y5, a5, o5, s5⟩ := (rd_slice (B := bulk) (s := 4) Try.underlying66 (by kernel_rfl) (by first | decide | exact Nat.zero_lt_succ _) (fun _ => rfl) (TPush.read W)) H en n _ _ (hf 5 _ rfl)
    have b5 := take_eq (show Try.prog.cellsOf 66 = 1 by kernel_rfl) a5
    have c5 := all2_next' (show 5 + 1 = 6 from rfl) c4 b5
    refine ⟨⟨y0, y1, y2, y3, y4, y5⟩, all2_whole (n := 6) (hl.trans (by kernel_rfl)) c5, ⟨o0, o1, o2, o3, o4, o5⟩, ?_⟩
    have hz : bulk.b (DataW.agg (H := H) [x0.1, x1.1, x2.1, x3.1, x4.1, x5.1]) = bulk.b x0.1 + bulk.b x1.1 + bulk.b x2.1 + bulk.b x3.1 + bulk.b x4.1 + bulk.b x5.1 + 1 := by rw [bulk.agg]; (repeat rw [bulk.cons]); rw [bulk.nil]; omega
    refine Nat.le_trans ?_ (Nat.le_of_eq hz.symm)
    show szI y0 + szI y1 + szI y2 + szI y3 + (szL szI) y4 + (szL TPush.sz) y5 + 1 ≤ _
    omega
set_option maxRecDepth 100000 in
theorem _root_.Pam.TSystem.read (W : World) : Reads bulk Try.prog W 61 TSystem.enc TSystem.ok TSystem.sz := by
  intro H en fuel cs x h
  obtain ⟨xs, n, rfl, rfl, hl, hlen, hf⟩ := DataW.trod_struct Try.underlying61 h
  match xs, hlen with
  | [x0, x1, x2, x3], _ =>
    obtain ⟨y0, a0, o0, s0⟩ := (rd_slice (B := bulk) (s := 2) Try.underlying58 (by kernel_rfl) (by first | decide | exact Nat.zero_lt_succ _) (fun _ => rfl) (TVar.read W)) H en n _ _ (hf 0 _ rfl)
    have b0 := take_eq (show Try.prog.cellsOf 58 = 1 by kernel_rfl) a0
    have c0 : All2 (RepT (fun b => W.heap[b]?)) ((eL 2 TVar.enc) y0) (cs.take 1) := b0
    obtain ⟨y1, a1, o1, s1⟩ := (rd_slice (B := bulk) (s := 1) Try.underlying22 (by kernel_rfl) (by first | decide | exact Nat.zero_lt_succ _) (fun _ => rfl) (rd_int (B := bulk) Try.underlying3)) H en n _ _ (hf 1 _ rfl)
    have b1 := take_eq (show Try.prog.cellsOf 22 = 1 by kernel_rfl) a1
    have c1 := all2_next' (show 1 + 1 = 2 from rfl) c0 b1
    obtain ⟨y2, a2, o2, s2⟩ := (rd_slice (B := bulk) (s := 1) Try.underlying22 (by kernel_rfl) (by first | decide | exact Nat.zero_lt_succ _) (fun _ => rfl) (rd_int (B := bulk) Try.underlying3)) H en n _ _ (hf 2 _ rfl)
    have b2 := take_eq (show Try.prog.cellsOf 22 = 1 by kernel_rfl) a2
    have c2 := all2_next' (show 2 + 1 = 3 from rfl) c1 b2
    obtain ⟨y3, a3, o3, s3⟩ := (rd_slice (B := bulk) (s := 6) Try.underlying59 (by kernel_rfl) (by first | decide | exact Nat.zero_lt_succ _) (fun _ => rfl) (TRule.read W)) H en n _ _ (hf 3 _ rfl)
    have b3 := take_eq (show Try.prog.cellsOf 59 = 1 by kernel_rfl) a3
    have c3 := all2_next' (show 3 + 1 = 4 from rfl) c2 b3
    refine ⟨⟨y0, y1, y2, y3⟩, all2_whole (n := 4) (hl.trans (by kernel_rfl)) c3, ⟨o0, o1, o2, o3⟩, ?_⟩
    have hz : bulk.b (DataW.agg (H := H) [x0.1, x1.1, x2.1, x3.1]) = bulk.b x0.1 + bulk.b x1.1 + bulk.b x2.1 + bulk.b x3.1 + 1 := by rw [bulk.agg]; (repeat rw [bulk.cons]); rw [bulk.nil]; omega
    refine Nat.le_trans ?_ (Nat.le_of_eq hz.symm)
    show (szL TVar.sz) y0 + (szL szI) y1 + (szL szI) y2 + (szL TRule.sz) y3 + 1 ≤ _
    omega
end Go.Proofs.Ytpfekllhlfodiaa
