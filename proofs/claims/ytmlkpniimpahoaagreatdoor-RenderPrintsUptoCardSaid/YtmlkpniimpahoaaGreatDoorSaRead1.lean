/- the readings of this seat are trees of cells; printed by a program of ours -/
import Derived.Test.YtmlkpniimpahoaaGreatDoorRows
import Derived.Test.YtmlkpniimpahoaaGreatDoorSaData1
import Derived.Test.YtmlkpniimpahoaaGreatDoorSWide1
set_option linter.all false
namespace Go.Proofs.YtmlkpniimpahoaaGreatDoor
open Go Pam
theorem DK{H:Type}(d:DataW H):1≤Rows.uptoBulk d:=by
  cases d with
  |lit l=>cases l<;>simp [Rows.uptoBulk]
  |nil=>simp [Rows.uptoBulk]
  |ptr d=>simp [Rows.uptoBulk]
  |slice elems spare=>simp [Rows.uptoBulk]
  |agg parts=>simp [Rows.uptoBulk]
  |iface t d=>simp [Rows.uptoBulk]
  |map entries=>simp [Rows.uptoBulk]
  |held h=>simp [Rows.uptoBulk]
def dw:EO:=⟨Rows.uptoBulk,Rows.uptoBulkAll,(fun _=>by simp [Rows.uptoBulk]),DK,(fun _ _=>by simp [Rows.uptoBulk]),(fun _=>by simp [Rows.uptoBulk]),(by intros;simp [Rows.uptoBulkAll]),(fun _ _=>by simp [Rows.uptoBulkAll])⟩
set_option maxRecDepth 100000 in
theorem _root_.Pam.an.read(W:World):tC dw Tryz.prog W 83 an.enc an.ok an.sz:=by
  intro H en fuel cs x h
  obtain ⟨xs,n,rfl,rfl,hl,hlen,hf⟩:=DataW.trod_struct Tryz.underlying83 h
  match xs,hlen with
  |[x0,x1],_ =>
    obtain ⟨y0,a0,o0,s0⟩:=(uV (B:=dw) Tryz.underlying2) H en n _ _ (hf 0 _ rfl)
    have b0:=fN (show Tryz.prog.cellsOf 2=1 by kernel_rfl) a0
    have c0:aW (br (fun b=>W.heap[b]?)) ((eK .i64) y0) (cs.take 1):=b0
    obtain ⟨y1,a1,o1,s1⟩:=(uW (B:=dw) Tryz.underlying9) H en n _ _ (hf 1 _ rfl)
    have b1:=fN (show Tryz.prog.cellsOf 9=1 by kernel_rfl) a1
    have c1:=eH (show 1+1=2 from rfl) c0 b1
    refine ⟨⟨y0,y1⟩,nP (n:=2) (hl.trans (by kernel_rfl)) c1,⟨o0,o1⟩,?_⟩
    have hz:dw.b (DataW.agg (H:=H) [x0.1,x1.1])=dw.b x0.1+dw.b x1.1+1:=by rw [dw.agg];(repeat rw [dw.cons]);rw [dw.nil]<;>omega
    refine Nat.le_trans ?_ (Nat.le_of_eq hz.symm)
    show szI y0+szS y1+1≤_
    omega
set_option maxRecDepth 100000 in
theorem _root_.Pam.gR.read(W:World):tC dw Tryz.prog W 67 gR.enc gR.ok gR.sz:=by
  intro H en fuel cs x h
  obtain ⟨xs,n,rfl,rfl,hl,hlen,hf⟩:=DataW.trod_struct Tryz.underlying67 h
  match xs,hlen with
  |[x0,x1],_ =>
    obtain ⟨y0,a0,o0,s0⟩:=(uV (B:=dw) Tryz.underlying5) H en n _ _ (hf 0 _ rfl)
    have b0:=fN (show Tryz.prog.cellsOf 5=1 by kernel_rfl) a0
    have c0:aW (br (fun b=>W.heap[b]?)) ((eK .u8) y0) (cs.take 1):=b0
    obtain ⟨y1,a1,o1,s1⟩:=(kP (B:=dw) (s:=2) Tryz.underlying65 (by kernel_rfl) (by first|decide|exact Nat.zero_lt_succ _) (fun _=>rfl) (an.read W)) H en n _ _ (hf 1 _ rfl)
    have b1:=fN (show Tryz.prog.cellsOf 65=1 by kernel_rfl) a1
    have c1:=eH (show 1+1=2 from rfl) c0 b1
    refine ⟨⟨y0,y1⟩,nP (n:=2) (hl.trans (by kernel_rfl)) c1,⟨o0,o1⟩,?_⟩
    have hz:dw.b (DataW.agg (H:=H) [x0.1,x1.1])=dw.b x0.1+dw.b x1.1+1:=by rw [dw.agg];(repeat rw [dw.cons]);rw [dw.nil]<;>omega
    refine Nat.le_trans ?_ (Nat.le_of_eq hz.symm)
    show szI y0+(szL an.sz) y1+1≤_
    omega
set_option maxRecDepth 100000 in
theorem _root_.Pam.ax.read(W:World):tC dw Tryz.prog W 69 ax.enc ax.ok ax.sz:=by
  intro H en fuel cs x h
  obtain ⟨xs,n,rfl,rfl,hl,hlen,hf⟩:=DataW.trod_struct Tryz.underlying69 h
  match xs,hlen with
  |[x0,x1],_ =>
    obtain ⟨y0,a0,o0,s0⟩:=(uW (B:=dw) Tryz.underlying9) H en n _ _ (hf 0 _ rfl)
    have b0:=fN (show Tryz.prog.cellsOf 9=1 by kernel_rfl) a0
    have c0:aW (br (fun b=>W.heap[b]?)) (eS y0) (cs.take 1):=b0
    obtain ⟨y1,a1,o1,s1⟩:=(gR.read W) H en n _ _ (hf 1 _ rfl)
    have b1:=fN (show Tryz.prog.cellsOf 67=2 by kernel_rfl) a1
    have c1:=eH (show 1+2=3 from rfl) c0 b1
    refine ⟨⟨y0,y1⟩,nP (n:=3) (hl.trans (by kernel_rfl)) c1,⟨o0,o1⟩,?_⟩
    have hz:dw.b (DataW.agg (H:=H) [x0.1,x1.1])=dw.b x0.1+dw.b x1.1+1:=by rw [dw.agg];(repeat rw [dw.cons]);rw [dw.nil]<;>omega
    refine Nat.le_trans ?_ (Nat.le_of_eq hz.symm)
    show szS y0+gR.sz y1+1≤_
    omega
set_option maxRecDepth 100000 in
theorem _root_.Pam.ab.readN(W:World)(H:Type)(en:TypeId×Value→H):∀ fuel,RdN dw Tryz.prog W 85 ab.enc ab.ok ab.sz H en fuel:=by
  intro fuel
  induction fuel using Nat.strongRecOn with
  |_ fuel ih =>
  intro cs x h
  obtain ⟨xs,n,rfl,rfl,hl,hlen,hf⟩:=DataW.trod_struct Tryz.underlying85 h
  match xs,hlen with
  |[x0,x1,x2,x3,x4,x5],_ =>
    obtain ⟨y0,a0,o0,s0⟩:=(uV (B:=dw) Tryz.underlying3) H en n _ _ (hf 0 _ rfl)
    have b0:=fN (show Tryz.prog.cellsOf 3=1 by kernel_rfl) a0
    have c0:aW (br (fun b=>W.heap[b]?)) ((eK .i64) y0) (cs.take 1):=b0
    obtain ⟨y1,a1,o1,s1⟩:=(uV (B:=dw) Tryz.underlying3) H en n _ _ (hf 1 _ rfl)
    have b1:=fN (show Tryz.prog.cellsOf 3=1 by kernel_rfl) a1
    have c1:=eH (show 1+1=2 from rfl) c0 b1
    obtain ⟨y2,a2,o2,s2⟩:=(uV (B:=dw) Tryz.underlying2) H en n _ _ (hf 2 _ rfl)
    have b2:=fN (show Tryz.prog.cellsOf 2=1 by kernel_rfl) a2
    have c2:=eH (show 2+1=3 from rfl) c1 b2
    obtain ⟨y3,a3,o3,s3⟩:=(uW (B:=dw) Tryz.underlying9) H en n _ _ (hf 3 _ rfl)
    have b3:=fN (show Tryz.prog.cellsOf 9=1 by kernel_rfl) a3
    have c3:=eH (show 3+1=4 from rfl) c2 b3
    obtain ⟨y4,a4,o4,s4⟩:=(kP (B:=dw) (s:=1) Tryz.underlying44 (by kernel_rfl) (by first|decide|exact Nat.zero_lt_succ _) (fun _=>rfl) (kP (B:=dw) (s:=2) Tryz.underlying65 (by kernel_rfl) (by first|decide|exact Nat.zero_lt_succ _) (fun _=>rfl) (an.read W))) H en n _ _ (hf 4 _ rfl)
    have b4:=fN (show Tryz.prog.cellsOf 44=1 by kernel_rfl) a4
    have c4:=eH (show 4+1=5 from rfl) c3 b4
    obtain ⟨y5,a5,o5,s5⟩:=(yY (B:=dw) (s:=6) Tryz.underlying45 (by kernel_rfl) (by first|decide|exact Nat.zero_lt_succ _) (fun x=>by rw [ab.enc_eq]<;>rfl) (fun m hm=>ih m (Nat.lt_succ_of_lt hm))) _ _ (hf 5 _ rfl)
    have b5:=fN (show Tryz.prog.cellsOf 45=1 by kernel_rfl) a5
    have c5:=eH (show 5+1=6 from rfl) c4 b5
    refine ⟨⟨y0,y1,y2,y3,y4,y5⟩,by rw [ab.enc_eq];exact nP (n:=6) (hl.trans (by kernel_rfl)) c5,by rw [ab.ok_eq];exact ⟨o0,o1,o2,o3,o4,o5⟩,?_⟩
    have hz:dw.b (DataW.agg (H:=H) [x0.1,x1.1,x2.1,x3.1,x4.1,x5.1])=dw.b x0.1+dw.b x1.1+dw.b x2.1+dw.b x3.1+dw.b x4.1+dw.b x5.1+1:=by rw [dw.agg];(repeat rw [dw.cons]);rw [dw.nil]<;>omega
    refine Nat.le_trans ?_ (Nat.le_of_eq hz.symm)
    rw [ab.sz_eq]
    show szI y0+szI y1+szI y2+szS y3+(szL (szL an.sz)) y4+(szL ab.sz) y5+1≤_
    omega
theorem _root_.Pam.ab.read(W:World):tC dw Tryz.prog W 85 ab.enc ab.ok ab.sz:=fun H en fuel=>ab.readN W H en fuel
set_option maxRecDepth 100000 in
theorem _root_.Pam.TEq.read(W:World):tC dw Tryz.prog W 47 TEq.enc TEq.ok TEq.sz:=by
  intro H en fuel cs x h
  obtain ⟨xs,n,rfl,rfl,hl,hlen,hf⟩:=DataW.trod_struct Tryz.underlying47 h
  match xs,hlen with
  |[x0,x1,x2,x3,x4],_ =>
    obtain ⟨y0,a0,o0,s0⟩:=(uV (B:=dw) Tryz.underlying3) H en n _ _ (hf 0 _ rfl)
    have b0:=fN (show Tryz.prog.cellsOf 3=1 by kernel_rfl) a0
    have c0:aW (br (fun b=>W.heap[b]?)) ((eK .i64) y0) (cs.take 1):=b0
    obtain ⟨y1,a1,o1,s1⟩:=(kP (B:=dw) (s:=1) Tryz.underlying37 (by kernel_rfl) (by first|decide|exact Nat.zero_lt_succ _) (fun _=>rfl) (uW (B:=dw) Tryz.underlying9)) H en n _ _ (hf 1 _ rfl)
    have b1:=fN (show Tryz.prog.cellsOf 37=1 by kernel_rfl) a1
    have c1:=eH (show 1+1=2 from rfl) c0 b1
    obtain ⟨y2,a2,o2,s2⟩:=(uW (B:=dw) Tryz.underlying9) H en n _ _ (hf 2 _ rfl)
    have b2:=fN (show Tryz.prog.cellsOf 9=1 by kernel_rfl) a2
    have c2:=eH (show 2+1=3 from rfl) c1 b2
    obtain ⟨y3,a3,o3,s3⟩:=(kP (B:=dw) (s:=1) Tryz.underlying44 (by kernel_rfl) (by first|decide|exact Nat.zero_lt_succ _) (fun _=>rfl) (kP (B:=dw) (s:=2) Tryz.underlying65 (by kernel_rfl) (by first|decide|exact Nat.zero_lt_succ _) (fun _=>rfl) (an.read W))) H en n _ _ (hf 3 _ rfl)
    have b3:=fN (show Tryz.prog.cellsOf 44=1 by kernel_rfl) a3
    have c3:=eH (show 3+1=4 from rfl) c2 b3
    obtain ⟨y4,a4,o4,s4⟩:=(kP (B:=dw) (s:=6) Tryz.underlying45 (by kernel_rfl) (by first|decide|exact Nat.zero_lt_succ _) (fun x=>by rw [ab.enc_eq]<;>rfl) (ab.read W)) H en n _ _ (hf 4 _ rfl)
    have b4:=fN (show Tryz.prog.cellsOf 45=1 by kernel_rfl) a4
    have c4:=eH (show 4+1=5 from rfl) c3 b4
    refine ⟨⟨y0,y1,y2,y3,y4⟩,nP (n:=5) (hl.trans (by kernel_rfl)) c4,⟨o0,o1,o2,o3,o4⟩,?_⟩
    have hz:dw.b (DataW.agg (H:=H) [x0.1,x1.1,x2.1,x3.1,x4.1])=dw.b x0.1+dw.b x1.1+dw.b x2.1+dw.b x3.1+dw.b x4.1+1:=by rw [dw.agg];(repeat rw [dw.cons]);rw [dw.nil]<;>omega
    refine Nat.le_trans ?_ (Nat.le_of_eq hz.symm)
    show szI y0+(szL szS) y1+szS y2+(szL (szL an.sz)) y3+(szL ab.sz) y4+1≤_
    omega
set_option maxRecDepth 100000 in
theorem _root_.Pam.aK.read(W:World):tC dw Tryz.prog W 41 aK.enc aK.ok aK.sz:=by
  intro H en fuel cs x h
  obtain ⟨xs,n,rfl,rfl,hl,hlen,hf⟩:=DataW.trod_struct Tryz.underlying41 h
  match xs,hlen with
  |[x0,x1,x2,x3,x4,x5,x6],_ =>
    obtain ⟨y0,a0,o0,s0⟩:=(uW (B:=dw) Tryz.underlying9) H en n _ _ (hf 0 _ rfl)
    have b0:=fN (show Tryz.prog.cellsOf 9=1 by kernel_rfl) a0
    have c0:aW (br (fun b=>W.heap[b]?)) (eS y0) (cs.take 1):=b0
    obtain ⟨y1,a1,o1,s1⟩:=(uV (B:=dw) Tryz.underlying3) H en n _ _ (hf 1 _ rfl)
    have b1:=fN (show Tryz.prog.cellsOf 3=1 by kernel_rfl) a1
    have c1:=eH (show 1+1=2 from rfl) c0 b1
    obtain ⟨y2,a2,o2,s2⟩:=(kP (B:=dw) (s:=1) Tryz.underlying37 (by kernel_rfl) (by first|decide|exact Nat.zero_lt_succ _) (fun _=>rfl) (uW (B:=dw) Tryz.underlying9)) H en n _ _ (hf 2 _ rfl)
    have b2:=fN (show Tryz.prog.cellsOf 37=1 by kernel_rfl) a2
    have c2:=eH (show 2+1=3 from rfl) c1 b2
    obtain ⟨y3,a3,o3,s3⟩:=(kP (B:=dw) (s:=3) Tryz.underlying38 (by kernel_rfl) (by first|decide|exact Nat.zero_lt_succ _) (fun _=>rfl) (ax.read W)) H en n _ _ (hf 3 _ rfl)
    have b3:=fN (show Tryz.prog.cellsOf 38=1 by kernel_rfl) a3
    have c3:=eH (show 3+1=4 from rfl) c2 b3
    obtain ⟨y4,a4,o4,s4⟩:=(kP (B:=dw) (s:=3) Tryz.underlying38 (by kernel_rfl) (by first|decide|exact Nat.zero_lt_succ _) (fun _=>rfl) (ax.read W)) H en n _ _ (hf 4 _ rfl)
    have b4:=fN (show Tryz.prog.cellsOf 38=1 by kernel_rfl) a4
    have c4:=eH (show 4+1=5 from rfl) c3 b4
    obtain ⟨y5,a5,o5,s5⟩:=(kP (B:=dw) (s:=3) Tryz.underlying38 (by kernel_rfl) (by first|decide|exact Nat.zero_lt_succ _) (fun _=>rfl) (ax.read W)) H en n _ _ (hf 5 _ rfl)
    have b5:=fN (show Tryz.prog.cellsOf 38=1 by kernel_rfl) a5
    have c5:=eH (show 5+1=6 from rfl) c4 b5
    obtain ⟨y6,a6,o6,s6⟩:=(kP (B:=dw) (s:=5) Tryz.underlying39 (by kernel_rfl) (by first|decide|exact Nat.zero_lt_succ _) (fun _=>rfl) (TEq.read W)) H en n _ _ (hf 6 _ rfl)
    have b6:=fN (show Tryz.prog.cellsOf 39=1 by kernel_rfl) a6
    have c6:=eH (show 6+1=7 from rfl) c5 b6
    refine ⟨⟨y0,y1,y2,y3,y4,y5,y6⟩,nP (n:=7) (hl.trans (by kernel_rfl)) c6,⟨o0,o1,o2,o3,o4,o5,o6⟩,?_⟩
    have hz:dw.b (DataW.agg (H:=H) [x0.1,x1.1,x2.1,x3.1,x4.1,x5.1,x6.1])=dw.b x0.1+dw.b x1.1+dw.b x2.1+dw.b x3.1+dw.b x4.1+dw.b x5.1+dw.b x6.1+1:=by rw [dw.agg];(repeat rw [dw.cons]);rw [dw.nil]<;>omega
    refine Nat.le_trans ?_ (Nat.le_of_eq hz.symm)
    show szS y0+szI y1+(szL szS) y2+(szL ax.sz) y3+(szL ax.sz) y4+(szL ax.sz) y5+(szL TEq.sz) y6+1≤_
    omega
set_option maxRecDepth 100000 in
theorem _root_.Pam.aB.read(W:World):tC dw Tryz.prog W 24 aB.enc aB.ok aB.sz:=by
  intro H en fuel cs x h
  obtain ⟨xs,n,rfl,rfl,hl,hlen,hf⟩:=DataW.trod_struct Tryz.underlying24 h
  match xs,hlen with
  |[x0],_ =>
    obtain ⟨y0,a0,o0,s0⟩:=(kP (B:=dw) (s:=7) Tryz.underlying22 (by kernel_rfl) (by first|decide|exact Nat.zero_lt_succ _) (fun _=>rfl) (aK.read W)) H en n _ _ (hf 0 _ rfl)
    have b0:=fN (show Tryz.prog.cellsOf 22=1 by kernel_rfl) a0
    have c0:aW (br (fun b=>W.heap[b]?)) ((eL 7 aK.enc) y0) (cs.take 1):=b0
    refine ⟨⟨y0⟩,nP (n:=1) (hl.trans (by kernel_rfl)) c0,o0,?_⟩
    have hz:dw.b (DataW.agg (H:=H) [x0.1])=dw.b x0.1+1:=by rw [dw.agg];(repeat rw [dw.cons]);rw [dw.nil]<;>omega
    refine Nat.le_trans ?_ (Nat.le_of_eq hz.symm)
    show (szL aK.sz) y0+1≤_
    omega
end Go.Proofs.YtmlkpniimpahoaaGreatDoor
