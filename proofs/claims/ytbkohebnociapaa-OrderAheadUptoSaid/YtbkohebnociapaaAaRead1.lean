/- the readings of this seat are trees of cells; printed by a program of ours -/
import Derived.Test.YtbkohebnociapaaRows
import Derived.Test.YtbkohebnociapaaAaData1
import Derived.Test.YtbkohebnociapaaAWide1
set_option linter.all false
namespace Go.Proofs.Ytbkohebnociapaa
open Go Pam
theorem uQ {H : Type} (d : DataW H) : 1 ≤ Rows.uptoBulk d := by
  cases d with
  | lit l => cases l <;> simp [Rows.uptoBulk]
  | nil => simp [Rows.uptoBulk]
  | ptr d => simp [Rows.uptoBulk]
  | slice elems spare => simp [Rows.uptoBulk]
  | agg parts => simp [Rows.uptoBulk]
  | iface t d => simp [Rows.uptoBulk]
  | map entries => simp [Rows.uptoBulk]
  | held h => simp [Rows.uptoBulk]
def cE : xj := ⟨Rows.uptoBulk, Rows.uptoBulkAll, (fun _ => by simp [Rows.uptoBulk]), uQ, (fun _ _ => by simp [Rows.uptoBulk]), (fun _ => by simp [Rows.uptoBulk]), (by intros; simp [Rows.uptoBulkAll]), (fun _ _ => by simp [Rows.uptoBulkAll])⟩
set_option maxRecDepth 100000 in
theorem _root_.Pam.ai.read (W : World) : m9 cE Try.prog W 63 ai.enc ai.ok ai.sz := by
  intro H en fuel cs x h
  obtain ⟨xs, n, rfl, rfl, hl, hlen, hf⟩ := DataW.trod_struct Try.underlying63 h
  match xs, hlen with
  | [x0, x1], _ =>
    obtain ⟨y0, a0, o0, s0⟩ := (gf (B := cE) Try.underlying5) H en n _ _ (hf 0 _ rfl)
    have b0 := d4 (show Try.prog.cellsOf 5 = 1 by kernel_rfl) a0
    have c0 : aO (aY (fun b => W.heap[b]?)) ((eK .u8) y0) (cs.take 1) := b0
    obtain ⟨y1, a1, o1, s1⟩ := (gf (B := cE) Try.underlying3) H en n _ _ (hf 1 _ rfl)
    have b1 := d4 (show Try.prog.cellsOf 3 = 1 by kernel_rfl) a1
    have c1 := dc (show 1 + 1 = 2 from rfl) c0 b1
    refine ⟨⟨y0, y1⟩, jH (n := 2) (hl.trans (by kernel_rfl)) c1, ⟨o0, o1⟩, ?_⟩
    have hz : cE.b (DataW.agg (H := H) [x0.1, x1.1]) = cE.b x0.1 + cE.b x1.1 + 1 := by rw [cE.agg]; (repeat rw [cE.cons]); rw [cE.nil]; omega
    refine Nat.le_trans ?_ (Nat.le_of_eq hz.symm)
    show szI y0 + szI y1 + 1 ≤ _
    omega
set_option maxRecDepth 100000 in
theorem _root_.Pam.aD.read (W : World) : m9 cE Try.prog W 96 aD.enc aD.ok aD.sz := by
  intro H en fuel cs x h
  obtain ⟨xs, n, rfl, rfl, hl, hlen, hf⟩ := DataW.trod_struct Try.underlying96 h
  match xs, hlen with
  | [x0, x1, x2, x3], _ =>
    obtain ⟨y0, a0, o0, s0⟩ := (gf (B := cE) Try.underlying3) H en n _ _ (hf 0 _ rfl)
    have b0 := d4 (show Try.prog.cellsOf 3 = 1 by kernel_rfl) a0
    have c0 : aO (aY (fun b => W.heap[b]?)) ((eK .i64) y0) (cs.take 1) := b0
    obtain ⟨y1, a1, o1, s1⟩ := (gf (B := cE) Try.underlying3) H en n _ _ (hf 1 _ rfl)
    have b1 := d4 (show Try.prog.cellsOf 3 = 1 by kernel_rfl) a1
    have c1 := dc (show 1 + 1 = 2 from rfl) c0 b1
    obtain ⟨y2, a2, o2, s2⟩ := (gf (B := cE) Try.underlying3) H en n _ _ (hf 2 _ rfl)
    have b2 := d4 (show Try.prog.cellsOf 3 = 1 by kernel_rfl) a2
    have c2 := dc (show 2 + 1 = 3 from rfl) c1 b2
    obtain ⟨y3, a3, o3, s3⟩ := (gf (B := cE) Try.underlying2) H en n _ _ (hf 3 _ rfl)
    have b3 := d4 (show Try.prog.cellsOf 2 = 1 by kernel_rfl) a3
    have c3 := dc (show 3 + 1 = 4 from rfl) c2 b3
    refine ⟨⟨y0, y1, y2, y3⟩, jH (n := 4) (hl.trans (by kernel_rfl)) c3, ⟨o0, o1, o2, o3⟩, ?_⟩
    have hz : cE.b (DataW.agg (H := H) [x0.1, x1.1, x2.1, x3.1]) = cE.b x0.1 + cE.b x1.1 + cE.b x2.1 + cE.b x3.1 + 1 := by rw [cE.agg]; (repeat rw [cE.cons]); rw [cE.nil]; omega
    refine Nat.le_trans ?_ (Nat.le_of_eq hz.symm)
    show szI y0 + szI y1 + szI y2 + szI y3 + 1 ≤ _
    omega
set_option maxRecDepth 100000 in
theorem _root_.Pam.ae.read (W : World) : m9 cE Try.prog W 39 ae.enc ae.ok ae.sz := by
  intro H en fuel cs x h
  obtain ⟨xs, n, rfl, rfl, hl, hlen, hf⟩ := DataW.trod_struct Try.underlying39 h
  match xs, hlen with
  | [x0, x1, x2, x3, x4, x5], _ =>
    obtain ⟨y0, a0, o0, s0⟩ := (gf (B := cE) Try.underlying3) H en n _ _ (hf 0 _ rfl)
    have b0 := d4 (show Try.prog.cellsOf 3 = 1 by kernel_rfl) a0
    have c0 : aO (aY (fun b => W.heap[b]?)) ((eK .i64) y0) (cs.take 1) := b0
    obtain ⟨y1, a1, o1, s1⟩ := (gf (B := cE) Try.underlying3) H en n _ _ (hf 1 _ rfl)
    have b1 := d4 (show Try.prog.cellsOf 3 = 1 by kernel_rfl) a1
    have c1 := dc (show 1 + 1 = 2 from rfl) c0 b1
    obtain ⟨y2, a2, o2, s2⟩ := (gf (B := cE) Try.underlying3) H en n _ _ (hf 2 _ rfl)
    have b2 := d4 (show Try.prog.cellsOf 3 = 1 by kernel_rfl) a2
    have c2 := dc (show 2 + 1 = 3 from rfl) c1 b2
    obtain ⟨y3, a3, o3, s3⟩ := (gf (B := cE) Try.underlying2) H en n _ _ (hf 3 _ rfl)
    have b3 := d4 (show Try.prog.cellsOf 2 = 1 by kernel_rfl) a3
    have c3 := dc (show 3 + 1 = 4 from rfl) c2 b3
    obtain ⟨y4, a4, o4, s4⟩ := (i2 (B := cE) (s := 1) Try.underlying23 (by kernel_rfl) (by first | decide | exact Nat.zero_lt_succ _) (fun _ => rfl) (gf (B := cE) Try.underlying3)) H en n _ _ (hf 4 _ rfl)
    have b4 := d4 (show Try.prog.cellsOf 23 = 1 by kernel_rfl) a4
    have c4 := dc (show 4 + 1 = 5 from rfl) c3 b4
    obtain ⟨y5, a5, o5, s5⟩ := (i2 (B := cE) (s := 4) Try.underlying37 (by kernel_rfl) (by first | decide | exact Nat.zero_lt_succ _) (fun _ => rfl) (aD.read W)) H en n _ _ (hf 5 _ rfl)
    have b5 := d4 (show Try.prog.cellsOf 37 = 1 by kernel_rfl) a5
    have c5 := dc (show 5 + 1 = 6 from rfl) c4 b5
    refine ⟨⟨y0, y1, y2, y3, y4, y5⟩, jH (n := 6) (hl.trans (by kernel_rfl)) c5, ⟨o0, o1, o2, o3, o4, o5⟩, ?_⟩
    have hz : cE.b (DataW.agg (H := H) [x0.1, x1.1, x2.1, x3.1, x4.1, x5.1]) = cE.b x0.1 + cE.b x1.1 + cE.b x2.1 + cE.b x3.1 + cE.b x4.1 + cE.b x5.1 + 1 := by rw [cE.agg]; (repeat rw [cE.cons]); rw [cE.nil]; omega
    refine Nat.le_trans ?_ (Nat.le_of_eq hz.symm)
    show szI y0 + szI y1 + szI y2 + szI y3 + (szL szI) y4 + (szL aD.sz) y5 + 1 ≤ _
    omega
set_option maxRecDepth 100000 in
theorem _root_.Pam.ag.read (W : World) : m9 cE Try.prog W 26 ag.enc ag.ok ag.sz := by
  intro H en fuel cs x h
  obtain ⟨xs, n, rfl, rfl, hl, hlen, hf⟩ := DataW.trod_struct Try.underlying26 h
  match xs, hlen with
  | [x0, x1, x2, x3], _ =>
    obtain ⟨y0, a0, o0, s0⟩ := (i2 (B := cE) (s := 2) Try.underlying22 (by kernel_rfl) (by first | decide | exact Nat.zero_lt_succ _) (fun _ => rfl) (ai.read W)) H en n _ _ (hf 0 _ rfl)
    have b0 := d4 (show Try.prog.cellsOf 22 = 1 by kernel_rfl) a0
    have c0 : aO (aY (fun b => W.heap[b]?)) ((eL 2 ai.enc) y0) (cs.take 1) := b0
    obtain ⟨y1, a1, o1, s1⟩ := (i2 (B := cE) (s := 1) Try.underlying23 (by kernel_rfl) (by first | decide | exact Nat.zero_lt_succ _) (fun _ => rfl) (gf (B := cE) Try.underlying3)) H en n _ _ (hf 1 _ rfl)
    have b1 := d4 (show Try.prog.cellsOf 23 = 1 by kernel_rfl) a1
    have c1 := dc (show 1 + 1 = 2 from rfl) c0 b1
    obtain ⟨y2, a2, o2, s2⟩ := (i2 (B := cE) (s := 1) Try.underlying23 (by kernel_rfl) (by first | decide | exact Nat.zero_lt_succ _) (fun _ => rfl) (gf (B := cE) Try.underlying3)) H en n _ _ (hf 2 _ rfl)
    have b2 := d4 (show Try.prog.cellsOf 23 = 1 by kernel_rfl) a2
    have c2 := dc (show 2 + 1 = 3 from rfl) c1 b2
    obtain ⟨y3, a3, o3, s3⟩ := (i2 (B := cE) (s := 6) Try.underlying24 (by kernel_rfl) (by first | decide | exact Nat.zero_lt_succ _) (fun _ => rfl) (ae.read W)) H en n _ _ (hf 3 _ rfl)
    have b3 := d4 (show Try.prog.cellsOf 24 = 1 by kernel_rfl) a3
    have c3 := dc (show 3 + 1 = 4 from rfl) c2 b3
    refine ⟨⟨y0, y1, y2, y3⟩, jH (n := 4) (hl.trans (by kernel_rfl)) c3, ⟨o0, o1, o2, o3⟩, ?_⟩
    have hz : cE.b (DataW.agg (H := H) [x0.1, x1.1, x2.1, x3.1]) = cE.b x0.1 + cE.b x1.1 + cE.b x2.1 + cE.b x3.1 + 1 := by rw [cE.agg]; (repeat rw [cE.cons]); rw [cE.nil]; omega
    refine Nat.le_trans ?_ (Nat.le_of_eq hz.symm)
    show (szL ai.sz) y0 + (szL szI) y1 + (szL szI) y2 + (szL ae.sz) y3 + 1 ≤ _
    omega
set_option maxRecDepth 100000 in
theorem _root_.Pam.i1.read (W : World) : m9 cE Try.prog W 43 i1.enc i1.ok i1.sz := by
  intro H en fuel cs x h
  obtain ⟨xs, n, rfl, rfl, hl, hlen, hf⟩ := DataW.trod_struct Try.underlying43 h
  match xs, hlen with
  | [x0, x1, x2], _ =>
    obtain ⟨y0, a0, o0, s0⟩ := (i2 (B := cE) (s := 1) Try.underlying23 (by kernel_rfl) (by first | decide | exact Nat.zero_lt_succ _) (fun _ => rfl) (gf (B := cE) Try.underlying3)) H en n _ _ (hf 0 _ rfl)
    have b0 := d4 (show Try.prog.cellsOf 23 = 1 by kernel_rfl) a0
    have c0 : aO (aY (fun b => W.heap[b]?)) ((eL 1 (eK .i64)) y0) (cs.take 1) := b0
    obtain ⟨y1, a1, o1, s1⟩ := (i2 (B := cE) (s := 1) Try.underlying23 (by kernel_rfl) (by first | decide | exact Nat.zero_lt_succ _) (fun _ => rfl) (gf (B := cE) Try.underlying3)) H en n _ _ (hf 1 _ rfl)
    have b1 := d4 (show Try.prog.cellsOf 23 = 1 by kernel_rfl) a1
    have c1 := dc (show 1 + 1 = 2 from rfl) c0 b1
    obtain ⟨y2, a2, o2, s2⟩ := (gf (B := cE) Try.underlying3) H en n _ _ (hf 2 _ rfl)
    have b2 := d4 (show Try.prog.cellsOf 3 = 1 by kernel_rfl) a2
    have c2 := dc (show 2 + 1 = 3 from rfl) c1 b2
    refine ⟨⟨y0, y1, y2⟩, jH (n := 3) (hl.trans (by kernel_rfl)) c2, ⟨o0, o1, o2⟩, ?_⟩
    have hz : cE.b (DataW.agg (H := H) [x0.1, x1.1, x2.1]) = cE.b x0.1 + cE.b x1.1 + cE.b x2.1 + 1 := by rw [cE.agg]; (repeat rw [cE.cons]); rw [cE.nil]; omega
    refine Nat.le_trans ?_ (Nat.le_of_eq hz.symm)
    show (szL szI) y0 + (szL szI) y1 + szI y2 + 1 ≤ _
    omega
end Go.Proofs.Ytbkohebnociapaa
