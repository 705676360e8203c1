/- the readings of this seat are trees of cells; printed by a program of ours -/
import Derived.Test.YtpfekllhlfodiaaRows
import Derived.Test.YtpfekllhlfodiaaOabcdData1
import Derived.Test.YtpfekllhlfodiaaOWide1
set_option linter.all false
namespace Go.Proofs.Ytpfekllhlfodiaa
open Go Pam
theorem zl {H : Type} (d : DataW H) : 1 ≤ Rows.uptoBulk d := by
  cases d with
  | lit l => cases l <;> simp [Rows.uptoBulk]
  | nil => simp [Rows.uptoBulk]
  | ptr d => simp [Rows.uptoBulk]
  | slice elems spare => simp [Rows.uptoBulk]
  | agg parts => simp [Rows.uptoBulk]
  | iface t d => simp [Rows.uptoBulk]
  | map entries => simp [Rows.uptoBulk]
  | held h => simp [Rows.uptoBulk]
def dh : BH := ⟨Rows.uptoBulk, Rows.uptoBulkAll, (fun _ => by simp [Rows.uptoBulk]), zl, (fun _ _ => by simp [Rows.uptoBulk]), (fun _ => by simp [Rows.uptoBulk]), (by intros; simp [Rows.uptoBulkAll]), (fun _ _ => by simp [Rows.uptoBulkAll])⟩
set_option maxRecDepth 100000 in
theorem _root_.Pam.ak.read (W : World) : qX dh Try.prog W 97 ak.enc ak.ok ak.sz := by
  intro H en fuel cs x h
  obtain ⟨xs, n, rfl, rfl, hl, hlen, hf⟩ := DataW.trod_struct Try.underlying97 h
  match xs, hlen with
  | [x0, x1], _ =>
    obtain ⟨y0, a0, o0, s0⟩ := (ks (B := dh) Try.underlying5) H en n _ _ (hf 0 _ rfl)
    have b0 := fO (show Try.prog.cellsOf 5 = 1 by kernel_rfl) a0
    have c0 : aZ (bq (fun b => W.heap[b]?)) ((eK .u8) y0) (cs.take 1) := b0
    obtain ⟨y1, a1, o1, s1⟩ := (ks (B := dh) Try.underlying3) H en n _ _ (hf 1 _ rfl)
    have b1 := fO (show Try.prog.cellsOf 3 = 1 by kernel_rfl) a1
    have c1 := d7 (show 1 + 1 = 2 from rfl) c0 b1
    refine ⟨⟨y0, y1⟩, mQ (n := 2) (hl.trans (by kernel_rfl)) c1, ⟨o0, o1⟩, ?_⟩
    have hz : dh.b (DataW.agg (H := H) [x0.1, x1.1]) = dh.b x0.1 + dh.b x1.1 + 1 := by rw [dh.agg]; (repeat rw [dh.cons]); rw [dh.nil]; omega
    refine Nat.le_trans ?_ (Nat.le_of_eq hz.symm)
    show szI y0 + szI y1 + 1 ≤ _
    omega
set_option maxRecDepth 100000 in
theorem _root_.Pam.aI.read (W : World) : qX dh Try.prog W 106 aI.enc aI.ok aI.sz := by
  intro H en fuel cs x h
  obtain ⟨xs, n, rfl, rfl, hl, hlen, hf⟩ := DataW.trod_struct Try.underlying106 h
  match xs, hlen with
  | [x0, x1, x2, x3], _ =>
    obtain ⟨y0, a0, o0, s0⟩ := (ks (B := dh) Try.underlying3) H en n _ _ (hf 0 _ rfl)
    have b0 := fO (show Try.prog.cellsOf 3 = 1 by kernel_rfl) a0
    have c0 : aZ (bq (fun b => W.heap[b]?)) ((eK .i64) y0) (cs.take 1) := b0
    obtain ⟨y1, a1, o1, s1⟩ := (ks (B := dh) Try.underlying3) H en n _ _ (hf 1 _ rfl)
    have b1 := fO (show Try.prog.cellsOf 3 = 1 by kernel_rfl) a1
    have c1 := d7 (show 1 + 1 = 2 from rfl) c0 b1
    obtain ⟨y2, a2, o2, s2⟩ := (ks (B := dh) Try.underlying3) H en n _ _ (hf 2 _ rfl)
    have b2 := fO (show Try.prog.cellsOf 3 = 1 by kernel_rfl) a2
    have c2 := d7 (show 2 + 1 = 3 from rfl) c1 b2
    obtain ⟨y3, a3, o3, s3⟩ := (ks (B := dh) Try.underlying2) H en n _ _ (hf 3 _ rfl)
    have b3 := fO (show Try.prog.cellsOf 2 = 1 by kernel_rfl) a3
    have c3 := d7 (show 3 + 1 = 4 from rfl) c2 b3
    refine ⟨⟨y0, y1, y2, y3⟩, mQ (n := 4) (hl.trans (by kernel_rfl)) c3, ⟨o0, o1, o2, o3⟩, ?_⟩
    have hz : dh.b (DataW.agg (H := H) [x0.1, x1.1, x2.1, x3.1]) = dh.b x0.1 + dh.b x1.1 + dh.b x2.1 + dh.b x3.1 + 1 := by rw [dh.agg]; (repeat rw [dh.cons]); rw [dh.nil]; omega
    refine Nat.le_trans ?_ (Nat.le_of_eq hz.symm)
    show szI y0 + szI y1 + szI y2 + szI y3 + 1 ≤ _
    omega
set_option maxRecDepth 100000 in
theorem _root_.Pam.ae.read (W : World) : qX dh Try.prog W 68 ae.enc ae.ok ae.sz := by
  intro H en fuel cs x h
  obtain ⟨xs, n, rfl, rfl, hl, hlen, hf⟩ := DataW.trod_struct Try.underlying68 h
  match xs, hlen with
  | [x0, x1, x2, x3, x4, x5], _ =>
    obtain ⟨y0, a0, o0, s0⟩ := (ks (B := dh) Try.underlying3) H en n _ _ (hf 0 _ rfl)
    have b0 := fO (show Try.prog.cellsOf 3 = 1 by kernel_rfl) a0
    have c0 : aZ (bq (fun b => W.heap[b]?)) ((eK .i64) y0) (cs.take 1) := b0
    obtain ⟨y1, a1, o1, s1⟩ := (ks (B := dh) Try.underlying3) H en n _ _ (hf 1 _ rfl)
    have b1 := fO (show Try.prog.cellsOf 3 = 1 by kernel_rfl) a1
    have c1 := d7 (show 1 + 1 = 2 from rfl) c0 b1
    obtain ⟨y2, a2, o2, s2⟩ := (ks (B := dh) Try.underlying3) H en n _ _ (hf 2 _ rfl)
    have b2 := fO (show Try.prog.cellsOf 3 = 1 by kernel_rfl) a2
    have c2 := d7 (show 2 + 1 = 3 from rfl) c1 b2
    obtain ⟨y3, a3, o3, s3⟩ := (ks (B := dh) Try.underlying2) H en n _ _ (hf 3 _ rfl)
    have b3 := fO (show Try.prog.cellsOf 2 = 1 by kernel_rfl) a3
    have c3 := d7 (show 3 + 1 = 4 from rfl) c2 b3
    obtain ⟨y4, a4, o4, s4⟩ := (nS (B := dh) (s := 1) Try.underlying22 (by kernel_rfl) (by first | decide | exact Nat.zero_lt_succ _) (fun _ => rfl) (ks (B := dh) Try.underlying3)) H en n _ _ (hf 4 _ rfl)
    have b4 := fO (show Try.prog.cellsOf 22 = 1 by kernel_rfl) a4
    have c4 := d7 (show 4 + 1 = 5 from rfl) c3 b4
    obtain ⟨y5, a5, o5, s5⟩ := (nS (B := dh) (s := 4) Try.underlying66 (by kernel_rfl) (by first | decide | exact Nat.zero_lt_succ _) (fun _ => rfl) (aI.read W)) H en n _ _ (hf 5 _ rfl)
    have b5 := fO (show Try.prog.cellsOf 66 = 1 by kernel_rfl) a5
    have c5 := d7 (show 5 + 1 = 6 from rfl) c4 b5
    refine ⟨⟨y0, y1, y2, y3, y4, y5⟩, mQ (n := 6) (hl.trans (by kernel_rfl)) c5, ⟨o0, o1, o2, o3, o4, o5⟩, ?_⟩
    have hz : dh.b (DataW.agg (H := H) [x0.1, x1.1, x2.1, x3.1, x4.1, x5.1]) = dh.b x0.1 + dh.b x1.1 + dh.b x2.1 + dh.b x3.1 + dh.b x4.1 + dh.b x5.1 + 1 := by rw [dh.agg]; (repeat rw [dh.cons]); rw [dh.nil]; omega
    refine Nat.le_trans ?_ (Nat.le_of_eq hz.symm)
    show szI y0 + szI y1 + szI y2 + szI y3 + (szL szI) y4 + (szL aI.sz) y5 + 1 ≤ _
    omega
set_option maxRecDepth 100000 in
theorem _root_.Pam.af.read (W : World) : qX dh Try.prog W 61 af.enc af.ok af.sz := by
  intro H en fuel cs x h
  obtain ⟨xs, n, rfl, rfl, hl, hlen, hf⟩ := DataW.trod_struct Try.underlying61 h
  match xs, hlen with
  | [x0, x1, x2, x3], _ =>
    obtain ⟨y0, a0, o0, s0⟩ := (nS (B := dh) (s := 2) Try.underlying58 (by kernel_rfl) (by first | decide | exact Nat.zero_lt_succ _) (fun _ => rfl) (ak.read W)) H en n _ _ (hf 0 _ rfl)
    have b0 := fO (show Try.prog.cellsOf 58 = 1 by kernel_rfl) a0
    have c0 : aZ (bq (fun b => W.heap[b]?)) ((eL 2 ak.enc) y0) (cs.take 1) := b0
    obtain ⟨y1, a1, o1, s1⟩ := (nS (B := dh) (s := 1) Try.underlying22 (by kernel_rfl) (by first | decide | exact Nat.zero_lt_succ _) (fun _ => rfl) (ks (B := dh) Try.underlying3)) H en n _ _ (hf 1 _ rfl)
    have b1 := fO (show Try.prog.cellsOf 22 = 1 by kernel_rfl) a1
    have c1 := d7 (show 1 + 1 = 2 from rfl) c0 b1
    obtain ⟨y2, a2, o2, s2⟩ := (nS (B := dh) (s := 1) Try.underlying22 (by kernel_rfl) (by first | decide | exact Nat.zero_lt_succ _) (fun _ => rfl) (ks (B := dh) Try.underlying3)) H en n _ _ (hf 2 _ rfl)
    have b2 := fO (show Try.prog.cellsOf 22 = 1 by kernel_rfl) a2
    have c2 := d7 (show 2 + 1 = 3 from rfl) c1 b2
    obtain ⟨y3, a3, o3, s3⟩ := (nS (B := dh) (s := 6) Try.underlying59 (by kernel_rfl) (by first | decide | exact Nat.zero_lt_succ _) (fun _ => rfl) (ae.read W)) H en n _ _ (hf 3 _ rfl)
    have b3 := fO (show Try.prog.cellsOf 59 = 1 by kernel_rfl) a3
    have c3 := d7 (show 3 + 1 = 4 from rfl) c2 b3
    refine ⟨⟨y0, y1, y2, y3⟩, mQ (n := 4) (hl.trans (by kernel_rfl)) c3, ⟨o0, o1, o2, o3⟩, ?_⟩
    have hz : dh.b (DataW.agg (H := H) [x0.1, x1.1, x2.1, x3.1]) = dh.b x0.1 + dh.b x1.1 + dh.b x2.1 + dh.b x3.1 + 1 := by rw [dh.agg]; (repeat rw [dh.cons]); rw [dh.nil]; omega
    refine Nat.le_trans ?_ (Nat.le_of_eq hz.symm)
    show (szL ak.sz) y0 + (szL szI) y1 + (szL szI) y2 + (szL ae.sz) y3 + 1 ≤ _
    omega
set_option maxRecDepth 100000 in
theorem _root_.Pam.aC.read (W : World) : qX dh Try.prog W 99 aC.enc aC.ok aC.sz := by
  intro H en fuel cs x h
  obtain ⟨xs, n, rfl, rfl, hl, hlen, hf⟩ := DataW.trod_struct Try.underlying99 h
  match xs, hlen with
  | [x0, x1], _ =>
    obtain ⟨y0, a0, o0, s0⟩ := (ks (B := dh) Try.underlying3) H en n _ _ (hf 0 _ rfl)
    have b0 := fO (show Try.prog.cellsOf 3 = 1 by kernel_rfl) a0
    have c0 : aZ (bq (fun b => W.heap[b]?)) ((eK .i64) y0) (cs.take 1) := b0
    obtain ⟨y1, a1, o1, s1⟩ := (ks (B := dh) Try.underlying3) H en n _ _ (hf 1 _ rfl)
    have b1 := fO (show Try.prog.cellsOf 3 = 1 by kernel_rfl) a1
    have c1 := d7 (show 1 + 1 = 2 from rfl) c0 b1
    refine ⟨⟨y0, y1⟩, mQ (n := 2) (hl.trans (by kernel_rfl)) c1, ⟨o0, o1⟩, ?_⟩
    have hz : dh.b (DataW.agg (H := H) [x0.1, x1.1]) = dh.b x0.1 + dh.b x1.1 + 1 := by rw [dh.agg]; (repeat rw [dh.cons]); rw [dh.nil]; omega
    refine Nat.le_trans ?_ (Nat.le_of_eq hz.symm)
    show szI y0 + szI y1 + 1 ≤ _
    omega
end Go.Proofs.Ytpfekllhlfodiaa
