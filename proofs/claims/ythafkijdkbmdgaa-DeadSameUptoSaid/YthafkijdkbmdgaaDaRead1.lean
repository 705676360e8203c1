/- the readings of this seat are trees of cells; printed by a program of ours -/
import Derived.Test.YthafkijdkbmdgaaRows
import Derived.Test.YthafkijdkbmdgaaDaData1
import Derived.Test.YthafkijdkbmdgaaDWide1
set_option linter.all false
namespace Go.Proofs.Ythafkijdkbmdgaa
open Go Pam
theorem zB {H:Type} (d:DataW H):1 ≤ Rows.uptoBulk d:=by
  cases d with
  | lit l=>cases l <;> simp [Rows.uptoBulk]
  | nil=>simp [Rows.uptoBulk]
  | ptr d=>simp [Rows.uptoBulk]
  | slice elems spare=>simp [Rows.uptoBulk]
  | agg parts=>simp [Rows.uptoBulk]
  | iface t d=>simp [Rows.uptoBulk]
  | map entries=>simp [Rows.uptoBulk]
  | held h=>simp [Rows.uptoBulk]
def dL:BQ:=⟨Rows.uptoBulk,Rows.uptoBulkAll,(fun _=>by simp [Rows.uptoBulk]),zB,(fun _ _=>by simp [Rows.uptoBulk]),(fun _=>by simp [Rows.uptoBulk]),(by intros;simp [Rows.uptoBulkAll]),(fun _ _=>by simp [Rows.uptoBulkAll])⟩
set_option maxRecDepth 100000 in
theorem _root_.Pam.ao.read (W:World):re dL Try.prog W 50 ao.enc ao.ok ao.sz:=by
  intro H en fuel cs x h
  obtain ⟨xs,n,rfl,rfl,hl,hlen,hf⟩:=DataW.trod_struct Try.underlying50 h
  match xs,hlen with
  | [x0,x1],_ =>
    obtain ⟨y0,a0,o0,s0⟩:=(jJ (B:=dL) Try.underlying5) H en n _ _ (hf 0 _ rfl)
    have b0:=gc (show Try.prog.cellsOf 5 = 1 by kernel_rfl) a0
    have c0:aR (bl (fun b=>W.heap[b]?)) ((eK .u8) y0) (cs.take 1):=b0
    obtain ⟨y1,a1,o1,s1⟩:=(jJ (B:=dL) Try.underlying3) H en n _ _ (hf 1 _ rfl)
    have b1:=gc (show Try.prog.cellsOf 3 = 1 by kernel_rfl) a1
    have c1:=eC (show 1 + 1 = 2 from rfl) c0 b1
    refine ⟨⟨y0,y1⟩,nb (n:=2) (hl.trans (by kernel_rfl)) c1,⟨o0,o1⟩,?_⟩
    have hz:dL.b (DataW.agg (H:=H) [x0.1,x1.1]) = dL.b x0.1 + dL.b x1.1 + 1:=by rw [dL.agg];(repeat rw [dL.cons]);rw [dL.nil];omega
    refine Nat.le_trans ?_ (Nat.le_of_eq hz.symm)
    show szI y0 + szI y1 + 1 ≤ _
    omega
set_option maxRecDepth 100000 in
theorem _root_.Pam.ay.read (W:World):re dL Try.prog W 100 ay.enc ay.ok ay.sz:=by
  intro H en fuel cs x h
  obtain ⟨xs,n,rfl,rfl,hl,hlen,hf⟩:=DataW.trod_struct Try.underlying100 h
  match xs,hlen with
  | [x0,x1,x2,x3],_ =>
    obtain ⟨y0,a0,o0,s0⟩:=(jJ (B:=dL) Try.underlying3) H en n _ _ (hf 0 _ rfl)
    have b0:=gc (show Try.prog.cellsOf 3 = 1 by kernel_rfl) a0
    have c0:aR (bl (fun b=>W.heap[b]?)) ((eK .i64) y0) (cs.take 1):=b0
    obtain ⟨y1,a1,o1,s1⟩:=(jJ (B:=dL) Try.underlying3) H en n _ _ (hf 1 _ rfl)
    have b1:=gc (show Try.prog.cellsOf 3 = 1 by kernel_rfl) a1
    have c1:=eC (show 1 + 1 = 2 from rfl) c0 b1
    obtain ⟨y2,a2,o2,s2⟩:=(jJ (B:=dL) Try.underlying3) H en n _ _ (hf 2 _ rfl)
    have b2:=gc (show Try.prog.cellsOf 3 = 1 by kernel_rfl) a2
    have c2:=eC (show 2 + 1 = 3 from rfl) c1 b2
    obtain ⟨y3,a3,o3,s3⟩:=(jJ (B:=dL) Try.underlying2) H en n _ _ (hf 3 _ rfl)
    have b3:=gc (show Try.prog.cellsOf 2 = 1 by kernel_rfl) a3
    have c3:=eC (show 3 + 1 = 4 from rfl) c2 b3
    refine ⟨⟨y0,y1,y2,y3⟩,nb (n:=4) (hl.trans (by kernel_rfl)) c3,⟨o0,o1,o2,o3⟩,?_⟩
    have hz:dL.b (DataW.agg (H:=H) [x0.1,x1.1,x2.1,x3.1]) = dL.b x0.1 + dL.b x1.1 + dL.b x2.1 + dL.b x3.1 + 1:=by rw [dL.agg];(repeat rw [dL.cons]);rw [dL.nil];omega
    refine Nat.le_trans ?_ (Nat.le_of_eq hz.symm)
    show szI y0 + szI y1 + szI y2 + szI y3 + 1 ≤ _
    omega
set_option maxRecDepth 100000 in
theorem _root_.Pam.af.read (W:World):re dL Try.prog W 53 af.enc af.ok af.sz:=by
  intro H en fuel cs x h
  obtain ⟨xs,n,rfl,rfl,hl,hlen,hf⟩:=DataW.trod_struct Try.underlying53 h
  match xs,hlen with
  | [x0,x1,x2,x3,x4,x5],_ =>
    obtain ⟨y0,a0,o0,s0⟩:=(jJ (B:=dL) Try.underlying3) H en n _ _ (hf 0 _ rfl)
    have b0:=gc (show Try.prog.cellsOf 3 = 1 by kernel_rfl) a0
    have c0:aR (bl (fun b=>W.heap[b]?)) ((eK .i64) y0) (cs.take 1):=b0
    obtain ⟨y1,a1,o1,s1⟩:=(jJ (B:=dL) Try.underlying3) H en n _ _ (hf 1 _ rfl)
    have b1:=gc (show Try.prog.cellsOf 3 = 1 by kernel_rfl) a1
    have c1:=eC (show 1 + 1 = 2 from rfl) c0 b1
    obtain ⟨y2,a2,o2,s2⟩:=(jJ (B:=dL) Try.underlying3) H en n _ _ (hf 2 _ rfl)
    have b2:=gc (show Try.prog.cellsOf 3 = 1 by kernel_rfl) a2
    have c2:=eC (show 2 + 1 = 3 from rfl) c1 b2
    obtain ⟨y3,a3,o3,s3⟩:=(jJ (B:=dL) Try.underlying2) H en n _ _ (hf 3 _ rfl)
    have b3:=gc (show Try.prog.cellsOf 2 = 1 by kernel_rfl) a3
    have c3:=eC (show 3 + 1 = 4 from rfl) c2 b3
    obtain ⟨y4,a4,o4,s4⟩:=(kw (B:=dL) (s:=1) Try.underlying23 (by kernel_rfl) (by first | decide | exact Nat.zero_lt_succ _) (fun _=>rfl) (jJ (B:=dL) Try.underlying3)) H en n _ _ (hf 4 _ rfl)
    have b4:=gc (show Try.prog.cellsOf 23 = 1 by kernel_rfl) a4
    have c4:=eC (show 4 + 1 = 5 from rfl) c3 b4
    obtain ⟨y5,a5,o5,s5⟩:=(kw (B:=dL) (s:=4) Try.underlying51 (by kernel_rfl) (by first | decide | exact Nat.zero_lt_succ _) (fun _=>rfl) (ay.read W)) H en n _ _ (hf 5 _ rfl)
    have b5:=gc (show Try.prog.cellsOf 51 = 1 by kernel_rfl) a5
    have c5:=eC (show 5 + 1 = 6 from rfl) c4 b5
    refine ⟨⟨y0,y1,y2,y3,y4,y5⟩,nb (n:=6) (hl.trans (by kernel_rfl)) c5,⟨o0,o1,o2,o3,o4,o5⟩,?_⟩
    have hz:dL.b (DataW.agg (H:=H) [x0.1,x1.1,x2.1,x3.1,x4.1,x5.1]) = dL.b x0.1 + dL.b x1.1 + dL.b x2.1 + dL.b x3.1 + dL.b x4.1 + dL.b x5.1 + 1:=by rw [dL.agg];(repeat rw [dL.cons]);rw [dL.nil];omega
    refine Nat.le_trans ?_ (Nat.le_of_eq hz.symm)
    show szI y0 + szI y1 + szI y2 + szI y3 + (szL szI) y4 + (szL ay.sz) y5 + 1 ≤ _
    omega
set_option maxRecDepth 100000 in
theorem _root_.Pam.ae.read (W:World):re dL Try.prog W 26 ae.enc ae.ok ae.sz:=by
  intro H en fuel cs x h
  obtain ⟨xs,n,rfl,rfl,hl,hlen,hf⟩:=DataW.trod_struct Try.underlying26 h
  match xs,hlen with
  | [x0,x1,x2,x3],_ =>
    obtain ⟨y0,a0,o0,s0⟩:=(kw (B:=dL) (s:=2) Try.underlying22 (by kernel_rfl) (by first | decide | exact Nat.zero_lt_succ _) (fun _=>rfl) (ao.read W)) H en n _ _ (hf 0 _ rfl)
    have b0:=gc (show Try.prog.cellsOf 22 = 1 by kernel_rfl) a0
    have c0:aR (bl (fun b=>W.heap[b]?)) ((eL 2 ao.enc) y0) (cs.take 1):=b0
    obtain ⟨y1,a1,o1,s1⟩:=(kw (B:=dL) (s:=1) Try.underlying23 (by kernel_rfl) (by first | decide | exact Nat.zero_lt_succ _) (fun _=>rfl) (jJ (B:=dL) Try.underlying3)) H en n _ _ (hf 1 _ rfl)
    have b1:=gc (show Try.prog.cellsOf 23 = 1 by kernel_rfl) a1
    have c1:=eC (show 1 + 1 = 2 from rfl) c0 b1
    obtain ⟨y2,a2,o2,s2⟩:=(kw (B:=dL) (s:=1) Try.underlying23 (by kernel_rfl) (by first | decide | exact Nat.zero_lt_succ _) (fun _=>rfl) (jJ (B:=dL) Try.underlying3)) H en n _ _ (hf 2 _ rfl)
    have b2:=gc (show Try.prog.cellsOf 23 = 1 by kernel_rfl) a2
    have c2:=eC (show 2 + 1 = 3 from rfl) c1 b2
    obtain ⟨y3,a3,o3,s3⟩:=(kw (B:=dL) (s:=6) Try.underlying24 (by kernel_rfl) (by first | decide | exact Nat.zero_lt_succ _) (fun _=>rfl) (af.read W)) H en n _ _ (hf 3 _ rfl)
    have b3:=gc (show Try.prog.cellsOf 24 = 1 by kernel_rfl) a3
    have c3:=eC (show 3 + 1 = 4 from rfl) c2 b3
    refine ⟨⟨y0,y1,y2,y3⟩,nb (n:=4) (hl.trans (by kernel_rfl)) c3,⟨o0,o1,o2,o3⟩,?_⟩
    have hz:dL.b (DataW.agg (H:=H) [x0.1,x1.1,x2.1,x3.1]) = dL.b x0.1 + dL.b x1.1 + dL.b x2.1 + dL.b x3.1 + 1:=by rw [dL.agg];(repeat rw [dL.cons]);rw [dL.nil];omega
    refine Nat.le_trans ?_ (Nat.le_of_eq hz.symm)
    show (szL ao.sz) y0 + (szL szI) y1 + (szL szI) y2 + (szL af.sz) y3 + 1 ≤ _
    omega
end Go.Proofs.Ythafkijdkbmdgaa
