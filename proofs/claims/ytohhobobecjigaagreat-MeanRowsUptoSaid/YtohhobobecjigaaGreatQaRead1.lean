/- the readings of this seat are trees of cells; printed by a program of ours -/
import Derived.Test.YtohhobobecjigaaGreatRows
import Derived.Test.YtohhobobecjigaaGreatQaData1
import Derived.Test.YtohhobobecjigaaGreatQWide1
set_option linter.all false
namespace Go.Proofs.YtohhobobecjigaaGreat
open Go Pam
theorem Cz{H:Type}(d:DataW H):1≤Rows.uptoBulk d:=by
  cases d with
  |lit l=>cases l<;>simp [Rows.uptoBulk]
  |nil=>simp [Rows.uptoBulk]
  |ptr d=>simp [Rows.uptoBulk]
  |slice elems spare=>simp [Rows.uptoBulk]
  |agg parts=>simp [Rows.uptoBulk]
  |iface t d=>simp [Rows.uptoBulk]
  |map entries=>simp [Rows.uptoBulk]
  |held h=>simp [Rows.uptoBulk]
def eW:Fg:=⟨Rows.uptoBulk,Rows.uptoBulkAll,(fun _=>by simp [Rows.uptoBulk]),Cz,(fun _ _=>by simp [Rows.uptoBulk]),(fun _=>by simp [Rows.uptoBulk]),(by intros;simp [Rows.uptoBulkAll]),(fun _ _=>by simp [Rows.uptoBulkAll])⟩
set_option maxRecDepth 100000 in
theorem _root_.Pam.ap.read(W:World):ux eW Tryz.prog W 51 ap.enc ap.ok ap.sz:=by
  intro H en fuel cs x h
  obtain ⟨xs,n,rfl,rfl,hl,hlen,hf⟩:=DataW.trod_struct Tryz.underlying51 h
  match xs,hlen with
  |[x0,x1],_ =>
    obtain ⟨y0,a0,o0,s0⟩:=(lP (B:=eW) Tryz.underlying5) H en n _ _ (hf 0 _ rfl)
    have b0:=iK (show Tryz.prog.cellsOf 5=1 by kernel_rfl) a0
    have c0:aS (bm (fun b=>W.heap[b]?)) ((eK .u8) y0) (cs.take 1):=b0
    obtain ⟨y1,a1,o1,s1⟩:=(lP (B:=eW) Tryz.underlying3) H en n _ _ (hf 1 _ rfl)
    have b1:=iK (show Tryz.prog.cellsOf 3=1 by kernel_rfl) a1
    have c1:=fV (show 1+1=2 from rfl) c0 b1
    refine ⟨⟨y0,y1⟩,pU (n:=2) (hl.trans (by kernel_rfl)) c1,⟨o0,o1⟩,?_⟩
    have hz:eW.b (DataW.agg (H:=H) [x0.1,x1.1])=eW.b x0.1+eW.b x1.1+1:=by rw [eW.agg];(repeat rw [eW.cons]);rw [eW.nil];omega
    refine Nat.le_trans ?_ (Nat.le_of_eq hz.symm)
    show szI y0+szI y1+1≤_
    omega
set_option maxRecDepth 100000 in
theorem _root_.Pam.aL.read(W:World):ux eW Tryz.prog W 107 aL.enc aL.ok aL.sz:=by
  intro H en fuel cs x h
  obtain ⟨xs,n,rfl,rfl,hl,hlen,hf⟩:=DataW.trod_struct Tryz.underlying107 h
  match xs,hlen with
  |[x0,x1,x2,x3],_ =>
    obtain ⟨y0,a0,o0,s0⟩:=(lP (B:=eW) Tryz.underlying3) H en n _ _ (hf 0 _ rfl)
    have b0:=iK (show Tryz.prog.cellsOf 3=1 by kernel_rfl) a0
    have c0:aS (bm (fun b=>W.heap[b]?)) ((eK .i64) y0) (cs.take 1):=b0
    obtain ⟨y1,a1,o1,s1⟩:=(lP (B:=eW) Tryz.underlying3) H en n _ _ (hf 1 _ rfl)
    have b1:=iK (show Tryz.prog.cellsOf 3=1 by kernel_rfl) a1
    have c1:=fV (show 1+1=2 from rfl) c0 b1
    obtain ⟨y2,a2,o2,s2⟩:=(lP (B:=eW) Tryz.underlying3) H en n _ _ (hf 2 _ rfl)
    have b2:=iK (show Tryz.prog.cellsOf 3=1 by kernel_rfl) a2
    have c2:=fV (show 2+1=3 from rfl) c1 b2
    obtain ⟨y3,a3,o3,s3⟩:=(lP (B:=eW) Tryz.underlying2) H en n _ _ (hf 3 _ rfl)
    have b3:=iK (show Tryz.prog.cellsOf 2=1 by kernel_rfl) a3
    have c3:=fV (show 3+1=4 from rfl) c2 b3
    refine ⟨⟨y0,y1,y2,y3⟩,pU (n:=4) (hl.trans (by kernel_rfl)) c3,⟨o0,o1,o2,o3⟩,?_⟩
    have hz:eW.b (DataW.agg (H:=H) [x0.1,x1.1,x2.1,x3.1])=eW.b x0.1+eW.b x1.1+eW.b x2.1+eW.b x3.1+1:=by rw [eW.agg];(repeat rw [eW.cons]);rw [eW.nil];omega
    refine Nat.le_trans ?_ (Nat.le_of_eq hz.symm)
    show szI y0+szI y1+szI y2+szI y3+1≤_
    omega
set_option maxRecDepth 100000 in
theorem _root_.Pam.ae.read(W:World):ux eW Tryz.prog W 54 ae.enc ae.ok ae.sz:=by
  intro H en fuel cs x h
  obtain ⟨xs,n,rfl,rfl,hl,hlen,hf⟩:=DataW.trod_struct Tryz.underlying54 h
  match xs,hlen with
  |[x0,x1,x2,x3,x4,x5],_ =>
    obtain ⟨y0,a0,o0,s0⟩:=(lP (B:=eW) Tryz.underlying3) H en n _ _ (hf 0 _ rfl)
    have b0:=iK (show Tryz.prog.cellsOf 3=1 by kernel_rfl) a0
    have c0:aS (bm (fun b=>W.heap[b]?)) ((eK .i64) y0) (cs.take 1):=b0
    obtain ⟨y1,a1,o1,s1⟩:=(lP (B:=eW) Tryz.underlying3) H en n _ _ (hf 1 _ rfl)
    have b1:=iK (show Tryz.prog.cellsOf 3=1 by kernel_rfl) a1
    have c1:=fV (show 1+1=2 from rfl) c0 b1
    obtain ⟨y2,a2,o2,s2⟩:=(lP (B:=eW) Tryz.underlying3) H en n _ _ (hf 2 _ rfl)
    have b2:=iK (show Tryz.prog.cellsOf 3=1 by kernel_rfl) a2
    have c2:=fV (show 2+1=3 from rfl) c1 b2
    obtain ⟨y3,a3,o3,s3⟩:=(lP (B:=eW) Tryz.underlying2) H en n _ _ (hf 3 _ rfl)
    have b3:=iK (show Tryz.prog.cellsOf 2=1 by kernel_rfl) a3
    have c3:=fV (show 3+1=4 from rfl) c2 b3
    obtain ⟨y4,a4,o4,s4⟩:=(mL (B:=eW) (s:=1) Tryz.underlying23 (by kernel_rfl) (by first|decide|exact Nat.zero_lt_succ _) (fun _=>rfl) (lP (B:=eW) Tryz.underlying3)) H en n _ _ (hf 4 _ rfl)
    have b4:=iK (show Tryz.prog.cellsOf 23=1 by kernel_rfl) a4
    have c4:=fV (show 4+1=5 from rfl) c3 b4
    obtain ⟨y5,a5,o5,s5⟩:=(mL (B:=eW) (s:=4) Tryz.underlying52 (by kernel_rfl) (by first|decide|exact Nat.zero_lt_succ _) (fun _=>rfl) (aL.read W)) H en n _ _ (hf 5 _ rfl)
    have b5:=iK (show Tryz.prog.cellsOf 52=1 by kernel_rfl) a5
    have c5:=fV (show 5+1=6 from rfl) c4 b5
    refine ⟨⟨y0,y1,y2,y3,y4,y5⟩,pU (n:=6) (hl.trans (by kernel_rfl)) c5,⟨o0,o1,o2,o3,o4,o5⟩,?_⟩
    have hz:eW.b (DataW.agg (H:=H) [x0.1,x1.1,x2.1,x3.1,x4.1,x5.1])=eW.b x0.1+eW.b x1.1+eW.b x2.1+eW.b x3.1+eW.b x4.1+eW.b x5.1+1:=by rw [eW.agg];(repeat rw [eW.cons]);rw [eW.nil];omega
    refine Nat.le_trans ?_ (Nat.le_of_eq hz.symm)
    show szI y0+szI y1+szI y2+szI y3+(szL szI) y4+(szL aL.sz) y5+1≤_
    omega
set_option maxRecDepth 100000 in
theorem _root_.Pam.ab.read(W:World):ux eW Tryz.prog W 26 ab.enc ab.ok ab.sz:=by
  intro H en fuel cs x h
  obtain ⟨xs,n,rfl,rfl,hl,hlen,hf⟩:=DataW.trod_struct Tryz.underlying26 h
  match xs,hlen with
  |[x0,x1,x2,x3],_ =>
    obtain ⟨y0,a0,o0,s0⟩:=(mL (B:=eW) (s:=2) Tryz.underlying22 (by kernel_rfl) (by first|decide|exact Nat.zero_lt_succ _) (fun _=>rfl) (ap.read W)) H en n _ _ (hf 0 _ rfl)
    have b0:=iK (show Tryz.prog.cellsOf 22=1 by kernel_rfl) a0
    have c0:aS (bm (fun b=>W.heap[b]?)) ((eL 2 ap.enc) y0) (cs.take 1):=b0
    obtain ⟨y1,a1,o1,s1⟩:=(mL (B:=eW) (s:=1) Tryz.underlying23 (by kernel_rfl) (by first|decide|exact Nat.zero_lt_succ _) (fun _=>rfl) (lP (B:=eW) Tryz.underlying3)) H en n _ _ (hf 1 _ rfl)
    have b1:=iK (show Tryz.prog.cellsOf 23=1 by kernel_rfl) a1
    have c1:=fV (show 1+1=2 from rfl) c0 b1
    obtain ⟨y2,a2,o2,s2⟩:=(mL (B:=eW) (s:=1) Tryz.underlying23 (by kernel_rfl) (by first|decide|exact Nat.zero_lt_succ _) (fun _=>rfl) (lP (B:=eW) Tryz.underlying3)) H en n _ _ (hf 2 _ rfl)
    have b2:=iK (show Tryz.prog.cellsOf 23=1 by kernel_rfl) a2
    have c2:=fV (show 2+1=3 from rfl) c1 b2
    obtain ⟨y3,a3,o3,s3⟩:=(mL (B:=eW) (s:=6) Tryz.underlying24 (by kernel_rfl) (by first|decide|exact Nat.zero_lt_succ _) (fun _=>rfl) (ae.read W)) H en n _ _ (hf 3 _ rfl)
    have b3:=iK (show Tryz.prog.cellsOf 24=1 by kernel_rfl) a3
    have c3:=fV (show 3+1=4 from rfl) c2 b3
    refine ⟨⟨y0,y1,y2,y3⟩,pU (n:=4) (hl.trans (by kernel_rfl)) c3,⟨o0,o1,o2,o3⟩,?_⟩
    have hz:eW.b (DataW.agg (H:=H) [x0.1,x1.1,x2.1,x3.1])=eW.b x0.1+eW.b x1.1+eW.b x2.1+eW.b x3.1+1:=by rw [eW.agg];(repeat rw [eW.cons]);rw [eW.nil];omega
    refine Nat.le_trans ?_ (Nat.le_of_eq hz.symm)
    show (szL ap.sz) y0+(szL szI) y1+(szL szI) y2+(szL ae.sz) y3+1≤_
    omega
end Go.Proofs.YtohhobobecjigaaGreat
