/- the readings of this seat are trees of cells; printed by a program of ours -/
import Derived.Test.YtkolbkclheicbaaRows
import Derived.Test.YtkolbkclheicbaaDaData1
import Derived.Test.YtkolbkclheicbaaDWide1
set_option linter.all false
namespace Go.Proofs.Ytkolbkclheicbaa
open Go Pam
theorem tg {H : Type} (d : DataW H) : 1 ≤ Rows.uptoBulk d := by
  cases d with
  | lit l => cases l <;> simp [Rows.uptoBulk]
  | nil => simp [Rows.uptoBulk]
  | ptr d => simp [Rows.uptoBulk]
  | slice elems spare => simp [Rows.uptoBulk]
  | agg parts => simp [Rows.uptoBulk]
  | iface t d => simp [Rows.uptoBulk]
  | map entries => simp [Rows.uptoBulk]
  | held h => simp [Rows.uptoBulk]
def cW : uR := ⟨Rows.uptoBulk, Rows.uptoBulkAll, (fun _ => by simp [Rows.uptoBulk]), tg, (fun _ _ => by simp [Rows.uptoBulk]), (fun _ => by simp [Rows.uptoBulk]), (by intros; simp [Rows.uptoBulkAll]), (fun _ _ => by simp [Rows.uptoBulkAll])⟩
set_option maxRecDepth 100000 in
theorem _root_.Pam.ao.read (W : World) : mW cW Try.prog W 43 ao.enc ao.ok ao.sz := by
  intro H en fuel cs x h
  obtain ⟨xs, n, rfl, rfl, hl, hlen, hf⟩ := DataW.trod_struct Try.underlying43 h
  match xs, hlen with
  | [x0, x1], _ =>
    obtain ⟨y0, a0, o0, s0⟩ := (ik (B := cW) Try.underlying5) H en n _ _ (hf 0 _ rfl)
    have b0 := eu (show Try.prog.cellsOf 5 = 1 by kernel_rfl) a0
    have c0 : aJ (aV (fun b => W.heap[b]?)) ((eK .u8) y0) (cs.take 1) := b0
    obtain ⟨y1, a1, o1, s1⟩ := (ik (B := cW) Try.underlying3) H en n _ _ (hf 1 _ rfl)
    have b1 := eu (show Try.prog.cellsOf 3 = 1 by kernel_rfl) a1
    have c1 := dl (show 1 + 1 = 2 from rfl) c0 b1
    refine ⟨⟨y0, y1⟩, j3 (n := 2) (hl.trans (by kernel_rfl)) c1, ⟨o0, o1⟩, ?_⟩
    have hz : cW.b (DataW.agg (H := H) [x0.1, x1.1]) = cW.b x0.1 + cW.b x1.1 + 1 := by rw [cW.agg]; (repeat rw [cW.cons]); rw [cW.nil]; omega
    refine Nat.le_trans ?_ (Nat.le_of_eq hz.symm)
    show szI y0 + szI y1 + 1 ≤ _
    omega
set_option maxRecDepth 100000 in
theorem _root_.Pam.aB.read (W : World) : mW cW Try.prog W 66 aB.enc aB.ok aB.sz := by
  intro H en fuel cs x h
  obtain ⟨xs, n, rfl, rfl, hl, hlen, hf⟩ := DataW.trod_struct Try.underlying66 h
  match xs, hlen with
  | [x0, x1, x2, x3], _ =>
    obtain ⟨y0, a0, o0, s0⟩ := (ik (B := cW) Try.underlying3) H en n _ _ (hf 0 _ rfl)
    have b0 := eu (show Try.prog.cellsOf 3 = 1 by kernel_rfl) a0
    have c0 : aJ (aV (fun b => W.heap[b]?)) ((eK .i64) y0) (cs.take 1) := b0
    obtain ⟨y1, a1, o1, s1⟩ := (ik (B := cW) Try.underlying3) H en n _ _ (hf 1 _ rfl)
    have b1 := eu (show Try.prog.cellsOf 3 = 1 by kernel_rfl) a1
    have c1 := dl (show 1 + 1 = 2 from rfl) c0 b1
    obtain ⟨y2, a2, o2, s2⟩ := (ik (B := cW) Try.underlying3) H en n _ _ (hf 2 _ rfl)
    have b2 := eu (show Try.prog.cellsOf 3 = 1 by kernel_rfl) a2
    have c2 := dl (show 2 + 1 = 3 from rfl) c1 b2
    obtain ⟨y3, a3, o3, s3⟩ := (ik (B := cW) Try.underlying2) H en n _ _ (hf 3 _ rfl)
    have b3 := eu (show Try.prog.cellsOf 2 = 1 by kernel_rfl) a3
    have c3 := dl (show 3 + 1 = 4 from rfl) c2 b3
    refine ⟨⟨y0, y1, y2, y3⟩, j3 (n := 4) (hl.trans (by kernel_rfl)) c3, ⟨o0, o1, o2, o3⟩, ?_⟩
    have hz : cW.b (DataW.agg (H := H) [x0.1, x1.1, x2.1, x3.1]) = cW.b x0.1 + cW.b x1.1 + cW.b x2.1 + cW.b x3.1 + 1 := by rw [cW.agg]; (repeat rw [cW.cons]); rw [cW.nil]; omega
    refine Nat.le_trans ?_ (Nat.le_of_eq hz.symm)
    show szI y0 + szI y1 + szI y2 + szI y3 + 1 ≤ _
    omega
set_option maxRecDepth 100000 in
theorem _root_.Pam.ah.read (W : World) : mW cW Try.prog W 46 ah.enc ah.ok ah.sz := by
  intro H en fuel cs x h
  obtain ⟨xs, n, rfl, rfl, hl, hlen, hf⟩ := DataW.trod_struct Try.underlying46 h
  match xs, hlen with
  | [x0, x1, x2, x3, x4, x5], _ =>
    obtain ⟨y0, a0, o0, s0⟩ := (ik (B := cW) Try.underlying3) H en n _ _ (hf 0 _ rfl)
    have b0 := eu (show Try.prog.cellsOf 3 = 1 by kernel_rfl) a0
    have c0 : aJ (aV (fun b => W.heap[b]?)) ((eK .i64) y0) (cs.take 1) := b0
    obtain ⟨y1, a1, o1, s1⟩ := (ik (B := cW) Try.underlying3) H en n _ _ (hf 1 _ rfl)
    have b1 := eu (show Try.prog.cellsOf 3 = 1 by kernel_rfl) a1
    have c1 := dl (show 1 + 1 = 2 from rfl) c0 b1
    obtain ⟨y2, a2, o2, s2⟩ := (ik (B := cW) Try.underlying3) H en n _ _ (hf 2 _ rfl)
    have b2 := eu (show Try.prog.cellsOf 3 = 1 by kernel_rfl) a2
    have c2 := dl (show 2 + 1 = 3 from rfl) c1 b2
    obtain ⟨y3, a3, o3, s3⟩ := (ik (B := cW) Try.underlying2) H en n _ _ (hf 3 _ rfl)
    have b3 := eu (show Try.prog.cellsOf 2 = 1 by kernel_rfl) a3
    have c3 := dl (show 3 + 1 = 4 from rfl) c2 b3
    obtain ⟨y4, a4, o4, s4⟩ := (jG (B := cW) (s := 1) Try.underlying23 (by kernel_rfl) (by first | decide | exact Nat.zero_lt_succ _) (fun _ => rfl) (ik (B := cW) Try.underlying3)) H en n _ _ (hf 4 _ rfl)
    have b4 := eu (show Try.prog.cellsOf 23 = 1 by kernel_rfl) a4
    have c4 := dl (show 4 + 1 = 5 from rfl) c3 b4
    obtain ⟨y5, a5, o5, s5⟩ := (jG (B := cW) (s := 4) Try.underlying44 (by kernel_rfl) (by first | decide | exact Nat.zero_lt_succ _) (fun _ => rfl) (aB.read W)) H en n _ _ (hf 5 _ rfl)
    have b5 := eu (show Try.prog.cellsOf 44 = 1 by kernel_rfl) a5
    have c5 := dl (show 5 + 1 = 6 from rfl) c4 b5
    refine ⟨⟨y0, y1, y2, y3, y4, y5⟩, j3 (n := 6) (hl.trans (by kernel_rfl)) c5, ⟨o0, o1, o2, o3, o4, o5⟩, ?_⟩
    have hz : cW.b (DataW.agg (H := H) [x0.1, x1.1, x2.1, x3.1, x4.1, x5.1]) = cW.b x0.1 + cW.b x1.1 + cW.b x2.1 + cW.b x3.1 + cW.b x4.1 + cW.b x5.1 + 1 := by rw [cW.agg]; (repeat rw [cW.cons]); rw [cW.nil]; omega
    refine Nat.le_trans ?_ (Nat.le_of_eq hz.symm)
    show szI y0 + szI y1 + szI y2 + szI y3 + (szL szI) y4 + (szL aB.sz) y5 + 1 ≤ _
    omega
set_option maxRecDepth 100000 in
theorem _root_.Pam.af.read (W : World) : mW cW Try.prog W 26 af.enc af.ok af.sz := by
  intro H en fuel cs x h
  obtain ⟨xs, n, rfl, rfl, hl, hlen, hf⟩ := DataW.trod_struct Try.underlying26 h
  match xs, hlen with
  | [x0, x1, x2, x3], _ =>
    obtain ⟨y0, a0, o0, s0⟩ := (jG (B := cW) (s := 2) Try.underlying22 (by kernel_rfl) (by first | decide | exact Nat.zero_lt_succ _) (fun _ => rfl) (ao.read W)) H en n _ _ (hf 0 _ rfl)
    have b0 := eu (show Try.prog.cellsOf 22 = 1 by kernel_rfl) a0
    have c0 : aJ (aV (fun b => W.heap[b]?)) ((eL 2 ao.enc) y0) (cs.take 1) := b0
    obtain ⟨y1, a1, o1, s1⟩ := (jG (B := cW) (s := 1) Try.underlying23 (by kernel_rfl) (by first | decide | exact Nat.zero_lt_succ _) (fun _ => rfl) (ik (B := cW) Try.underlying3)) H en n _ _ (hf 1 _ rfl)
    have b1 := eu (show Try.prog.cellsOf 23 = 1 by kernel_rfl) a1
    have c1 := dl (show 1 + 1 = 2 from rfl) c0 b1
    obtain ⟨y2, a2, o2, s2⟩ := (jG (B := cW) (s := 1) Try.underlying23 (by kernel_rfl) (by first | decide | exact Nat.zero_lt_succ _) (fun _ => rfl) (ik (B := cW) Try.underlying3)) H en n _ _ (hf 2 _ rfl)
    have b2 := eu (show Try.prog.cellsOf 23 = 1 by kernel_rfl) a2
    have c2 := dl (show 2 + 1 = 3 from rfl) c1 b2
    obtain ⟨y3, a3, o3, s3⟩ := (jG (B := cW) (s := 6) Try.underlying24 (by kernel_rfl) (by first | decide | exact Nat.zero_lt_succ _) (fun _ => rfl) (ah.read W)) H en n _ _ (hf 3 _ rfl)
    have b3 := eu (show Try.prog.cellsOf 24 = 1 by kernel_rfl) a3
    have c3 := dl (show 3 + 1 = 4 from rfl) c2 b3
    refine ⟨⟨y0, y1, y2, y3⟩, j3 (n := 4) (hl.trans (by kernel_rfl)) c3, ⟨o0, o1, o2, o3⟩, ?_⟩
    have hz : cW.b (DataW.agg (H := H) [x0.1, x1.1, x2.1, x3.1]) = cW.b x0.1 + cW.b x1.1 + cW.b x2.1 + cW.b x3.1 + 1 := by rw [cW.agg]; (repeat rw [cW.cons]); rw [cW.nil]; omega
    refine Nat.le_trans ?_ (Nat.le_of_eq hz.symm)
    show (szL ao.sz) y0 + (szL szI) y1 + (szL szI) y2 + (szL ah.sz) y3 + 1 ≤ _
    omega
end Go.Proofs.Ytkolbkclheicbaa
