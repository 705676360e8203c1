/- the readings of this seat are trees of cells; printed by a program of ours -/
import Derived.Test.YtnogignohdjjjaaGreatDoorRows
import Derived.Test.YtnogignohdjjjaaGreatDoorAaData1
import Derived.Test.YtnogignohdjjjaaGreatDoorAWide1
set_option linter.all false
namespace Go.Proofs.YtnogignohdjjjaaGreatDoor
open Go Pam
theorem vn{H:Type}(d:DataW H):1≤Rows.uptoBulk d:=by
  cases d with
  |lit l=>cases l<;>simp [Rows.uptoBulk]
  |nil=>simp [Rows.uptoBulk]
  |ptr d=>simp [Rows.uptoBulk]
  |slice elems spare=>simp [Rows.uptoBulk]
  |agg parts=>simp [Rows.uptoBulk]
  |iface t d=>simp [Rows.uptoBulk]
  |map entries=>simp [Rows.uptoBulk]
  |held h=>simp [Rows.uptoBulk]
def cw:wn:=⟨Rows.uptoBulk,Rows.uptoBulkAll,(fun _=>by simp [Rows.uptoBulk]),vn,(fun _ _=>by simp [Rows.uptoBulk]),(fun _=>by simp [Rows.uptoBulk]),(by intros;simp [Rows.uptoBulkAll]),(fun _ _=>by simp [Rows.uptoBulkAll])⟩
set_option maxRecDepth 100000 in
theorem _root_.Pam.am.read(W:World):nd cw Tryz.prog W 104 am.enc am.ok am.sz:=by
  intro H en fuel cs x h
  obtain ⟨xs,n,rfl,rfl,hl,hlen,hf⟩:=DataW.trod_struct Tryz.underlying104 h
  match xs,hlen with
  |[x0,x1],_ =>
    obtain ⟨y0,a0,o0,s0⟩:=(oi (B:=cw) Tryz.underlying2) H en n _ _ (hf 0 _ rfl)
    have b0:=dJ (show Tryz.prog.cellsOf 2=1 by kernel_rfl) a0
    have c0:bj (bz (fun b=>W.heap[b]?)) ((eK .i64) y0) (cs.take 1):=b0
    obtain ⟨y1,a1,o1,s1⟩:=(oj (B:=cw) Tryz.underlying9) H en n _ _ (hf 1 _ rfl)
    have b1:=dJ (show Tryz.prog.cellsOf 9=1 by kernel_rfl) a1
    have c1:=cX (show 1+1=2 from rfl) c0 b1
    refine ⟨⟨y0,y1⟩,jx (n:=2) (hl.trans (by kernel_rfl)) c1,⟨o0,o1⟩,?_⟩
    have hz:cw.b (DataW.agg (H:=H) [x0.1,x1.1])=cw.b x0.1+cw.b x1.1+1:=by rw [cw.agg];(repeat rw [cw.cons]);rw [cw.nil]<;>omega
    refine Nat.le_trans ?_ (Nat.le_of_eq hz.symm)
    show szI y0+szS y1+1≤_
    omega
set_option maxRecDepth 100000 in
theorem _root_.Pam.f8.read(W:World):nd cw Tryz.prog W 94 f8.enc f8.ok f8.sz:=by
  intro H en fuel cs x h
  obtain ⟨xs,n,rfl,rfl,hl,hlen,hf⟩:=DataW.trod_struct Tryz.underlying94 h
  match xs,hlen with
  |[x0,x1],_ =>
    obtain ⟨y0,a0,o0,s0⟩:=(oi (B:=cw) Tryz.underlying5) H en n _ _ (hf 0 _ rfl)
    have b0:=dJ (show Tryz.prog.cellsOf 5=1 by kernel_rfl) a0
    have c0:bj (bz (fun b=>W.heap[b]?)) ((eK .u8) y0) (cs.take 1):=b0
    obtain ⟨y1,a1,o1,s1⟩:=(gI (B:=cw) (s:=2) Tryz.underlying92 (by kernel_rfl) (by first|decide|exact Nat.zero_lt_succ _) (fun _=>rfl) (am.read W)) H en n _ _ (hf 1 _ rfl)
    have b1:=dJ (show Tryz.prog.cellsOf 92=1 by kernel_rfl) a1
    have c1:=cX (show 1+1=2 from rfl) c0 b1
    refine ⟨⟨y0,y1⟩,jx (n:=2) (hl.trans (by kernel_rfl)) c1,⟨o0,o1⟩,?_⟩
    have hz:cw.b (DataW.agg (H:=H) [x0.1,x1.1])=cw.b x0.1+cw.b x1.1+1:=by rw [cw.agg];(repeat rw [cw.cons]);rw [cw.nil]<;>omega
    refine Nat.le_trans ?_ (Nat.le_of_eq hz.symm)
    show szI y0+(szL am.sz) y1+1≤_
    omega
set_option maxRecDepth 100000 in
theorem _root_.Pam.ay.read(W:World):nd cw Tryz.prog W 96 ay.enc ay.ok ay.sz:=by
  intro H en fuel cs x h
  obtain ⟨xs,n,rfl,rfl,hl,hlen,hf⟩:=DataW.trod_struct Tryz.underlying96 h
  match xs,hlen with
  |[x0,x1],_ =>
    obtain ⟨y0,a0,o0,s0⟩:=(oj (B:=cw) Tryz.underlying9) H en n _ _ (hf 0 _ rfl)
    have b0:=dJ (show Tryz.prog.cellsOf 9=1 by kernel_rfl) a0
    have c0:bj (bz (fun b=>W.heap[b]?)) (eS y0) (cs.take 1):=b0
    obtain ⟨y1,a1,o1,s1⟩:=(f8.read W) H en n _ _ (hf 1 _ rfl)
    have b1:=dJ (show Tryz.prog.cellsOf 94=2 by kernel_rfl) a1
    have c1:=cX (show 1+2=3 from rfl) c0 b1
    refine ⟨⟨y0,y1⟩,jx (n:=3) (hl.trans (by kernel_rfl)) c1,⟨o0,o1⟩,?_⟩
    have hz:cw.b (DataW.agg (H:=H) [x0.1,x1.1])=cw.b x0.1+cw.b x1.1+1:=by rw [cw.agg];(repeat rw [cw.cons]);rw [cw.nil]<;>omega
    refine Nat.le_trans ?_ (Nat.le_of_eq hz.symm)
    show szS y0+f8.sz y1+1≤_
    omega
set_option maxRecDepth 100000 in
theorem _root_.Pam.af.readN(W:World)(H:Type)(en:TypeId×Value→H):∀ fuel,RdN cw Tryz.prog W 49 af.enc af.ok af.sz H en fuel:=by
  intro fuel
  induction fuel using Nat.strongRecOn with
  |_ fuel ih =>
  intro cs x h
  obtain ⟨xs,n,rfl,rfl,hl,hlen,hf⟩:=DataW.trod_struct Tryz.underlying49 h
  match xs,hlen with
  |[x0,x1,x2,x3,x4,x5],_ =>
    obtain ⟨y0,a0,o0,s0⟩:=(oi (B:=cw) Tryz.underlying3) H en n _ _ (hf 0 _ rfl)
    have b0:=dJ (show Tryz.prog.cellsOf 3=1 by kernel_rfl) a0
    have c0:bj (bz (fun b=>W.heap[b]?)) ((eK .i64) y0) (cs.take 1):=b0
    obtain ⟨y1,a1,o1,s1⟩:=(oi (B:=cw) Tryz.underlying3) H en n _ _ (hf 1 _ rfl)
    have b1:=dJ (show Tryz.prog.cellsOf 3=1 by kernel_rfl) a1
    have c1:=cX (show 1+1=2 from rfl) c0 b1
    obtain ⟨y2,a2,o2,s2⟩:=(oi (B:=cw) Tryz.underlying2) H en n _ _ (hf 2 _ rfl)
    have b2:=dJ (show Tryz.prog.cellsOf 2=1 by kernel_rfl) a2
    have c2:=cX (show 2+1=3 from rfl) c1 b2
    obtain ⟨y3,a3,o3,s3⟩:=(oj (B:=cw) Tryz.underlying9) H en n _ _ (hf 3 _ rfl)
    have b3:=dJ (show Tryz.prog.cellsOf 9=1 by kernel_rfl) a3
    have c3:=cX (show 3+1=4 from rfl) c2 b3
    obtain ⟨y4,a4,o4,s4⟩:=(gI (B:=cw) (s:=1) Tryz.underlying44 (by kernel_rfl) (by first|decide|exact Nat.zero_lt_succ _) (fun _=>rfl) (gI (B:=cw) (s:=2) Tryz.underlying92 (by kernel_rfl) (by first|decide|exact Nat.zero_lt_succ _) (fun _=>rfl) (am.read W))) H en n _ _ (hf 4 _ rfl)
    have b4:=dJ (show Tryz.prog.cellsOf 44=1 by kernel_rfl) a4
    have c4:=cX (show 4+1=5 from rfl) c3 b4
    obtain ⟨y5,a5,o5,s5⟩:=(ro (B:=cw) (s:=6) Tryz.underlying45 (by kernel_rfl) (by first|decide|exact Nat.zero_lt_succ _) (fun x=>by rw [af.enc_eq]<;>rfl) (fun m hm=>ih m (Nat.lt_succ_of_lt hm))) _ _ (hf 5 _ rfl)
    have b5:=dJ (show Tryz.prog.cellsOf 45=1 by kernel_rfl) a5
    have c5:=cX (show 5+1=6 from rfl) c4 b5
    refine ⟨⟨y0,y1,y2,y3,y4,y5⟩,by rw [af.enc_eq];exact jx (n:=6) (hl.trans (by kernel_rfl)) c5,by rw [af.ok_eq];exact ⟨o0,o1,o2,o3,o4,o5⟩,?_⟩
    have hz:cw.b (DataW.agg (H:=H) [x0.1,x1.1,x2.1,x3.1,x4.1,x5.1])=cw.b x0.1+cw.b x1.1+cw.b x2.1+cw.b x3.1+cw.b x4.1+cw.b x5.1+1:=by rw [cw.agg];(repeat rw [cw.cons]);rw [cw.nil]<;>omega
    refine Nat.le_trans ?_ (Nat.le_of_eq hz.symm)
    rw [af.sz_eq]
    show szI y0+szI y1+szI y2+szS y3+(szL (szL am.sz)) y4+(szL af.sz) y5+1≤_
    omega
theorem _root_.Pam.af.read(W:World):nd cw Tryz.prog W 49 af.enc af.ok af.sz:=fun H en fuel=>af.readN W H en fuel
set_option maxRecDepth 100000 in
theorem _root_.Pam.TEq.read(W:World):nd cw Tryz.prog W 47 TEq.enc TEq.ok TEq.sz:=by
  intro H en fuel cs x h
  obtain ⟨xs,n,rfl,rfl,hl,hlen,hf⟩:=DataW.trod_struct Tryz.underlying47 h
  match xs,hlen with
  |[x0,x1,x2,x3,x4],_ =>
    obtain ⟨y0,a0,o0,s0⟩:=(oi (B:=cw) Tryz.underlying3) H en n _ _ (hf 0 _ rfl)
    have b0:=dJ (show Tryz.prog.cellsOf 3=1 by kernel_rfl) a0
    have c0:bj (bz (fun b=>W.heap[b]?)) ((eK .i64) y0) (cs.take 1):=b0
    obtain ⟨y1,a1,o1,s1⟩:=(gI (B:=cw) (s:=1) Tryz.underlying38 (by kernel_rfl) (by first|decide|exact Nat.zero_lt_succ _) (fun _=>rfl) (oj (B:=cw) Tryz.underlying9)) H en n _ _ (hf 1 _ rfl)
    have b1:=dJ (show Tryz.prog.cellsOf 38=1 by kernel_rfl) a1
    have c1:=cX (show 1+1=2 from rfl) c0 b1
    obtain ⟨y2,a2,o2,s2⟩:=(oj (B:=cw) Tryz.underlying9) H en n _ _ (hf 2 _ rfl)
    have b2:=dJ (show Tryz.prog.cellsOf 9=1 by kernel_rfl) a2
    have c2:=cX (show 2+1=3 from rfl) c1 b2
    obtain ⟨y3,a3,o3,s3⟩:=(gI (B:=cw) (s:=1) Tryz.underlying44 (by kernel_rfl) (by first|decide|exact Nat.zero_lt_succ _) (fun _=>rfl) (gI (B:=cw) (s:=2) Tryz.underlying92 (by kernel_rfl) (by first|decide|exact Nat.zero_lt_succ _) (fun _=>rfl) (am.read W))) H en n _ _ (hf 3 _ rfl)
    have b3:=dJ (show Tryz.prog.cellsOf 44=1 by kernel_rfl) a3
    have c3:=cX (show 3+1=4 from rfl) c2 b3
    obtain ⟨y4,a4,o4,s4⟩:=(gI (B:=cw) (s:=6) Tryz.underlying45 (by kernel_rfl) (by first|decide|exact Nat.zero_lt_succ _) (fun x=>by rw [af.enc_eq]<;>rfl) (af.read W)) H en n _ _ (hf 4 _ rfl)
    have b4:=dJ (show Tryz.prog.cellsOf 45=1 by kernel_rfl) a4
    have c4:=cX (show 4+1=5 from rfl) c3 b4
    refine ⟨⟨y0,y1,y2,y3,y4⟩,jx (n:=5) (hl.trans (by kernel_rfl)) c4,⟨o0,o1,o2,o3,o4⟩,?_⟩
    have hz:cw.b (DataW.agg (H:=H) [x0.1,x1.1,x2.1,x3.1,x4.1])=cw.b x0.1+cw.b x1.1+cw.b x2.1+cw.b x3.1+cw.b x4.1+1:=by rw [cw.agg];(repeat rw [cw.cons]);rw [cw.nil]<;>omega
    refine Nat.le_trans ?_ (Nat.le_of_eq hz.symm)
    show szI y0+(szL szS) y1+szS y2+(szL (szL am.sz)) y3+(szL af.sz) y4+1≤_
    omega
set_option maxRecDepth 100000 in
theorem _root_.Pam.aS.read(W:World):nd cw Tryz.prog W 42 aS.enc aS.ok aS.sz:=by
  intro H en fuel cs x h
  obtain ⟨xs,n,rfl,rfl,hl,hlen,hf⟩:=DataW.trod_struct Tryz.underlying42 h
  match xs,hlen with
  |[x0,x1,x2,x3,x4,x5,x6],_ =>
    obtain ⟨y0,a0,o0,s0⟩:=(oj (B:=cw) Tryz.underlying9) H en n _ _ (hf 0 _ rfl)
    have b0:=dJ (show Tryz.prog.cellsOf 9=1 by kernel_rfl) a0
    have c0:bj (bz (fun b=>W.heap[b]?)) (eS y0) (cs.take 1):=b0
    obtain ⟨y1,a1,o1,s1⟩:=(oi (B:=cw) Tryz.underlying3) H en n _ _ (hf 1 _ rfl)
    have b1:=dJ (show Tryz.prog.cellsOf 3=1 by kernel_rfl) a1
    have c1:=cX (show 1+1=2 from rfl) c0 b1
    obtain ⟨y2,a2,o2,s2⟩:=(gI (B:=cw) (s:=1) Tryz.underlying38 (by kernel_rfl) (by first|decide|exact Nat.zero_lt_succ _) (fun _=>rfl) (oj (B:=cw) Tryz.underlying9)) H en n _ _ (hf 2 _ rfl)
    have b2:=dJ (show Tryz.prog.cellsOf 38=1 by kernel_rfl) a2
    have c2:=cX (show 2+1=3 from rfl) c1 b2
    obtain ⟨y3,a3,o3,s3⟩:=(gI (B:=cw) (s:=3) Tryz.underlying39 (by kernel_rfl) (by first|decide|exact Nat.zero_lt_succ _) (fun _=>rfl) (ay.read W)) H en n _ _ (hf 3 _ rfl)
    have b3:=dJ (show Tryz.prog.cellsOf 39=1 by kernel_rfl) a3
    have c3:=cX (show 3+1=4 from rfl) c2 b3
    obtain ⟨y4,a4,o4,s4⟩:=(gI (B:=cw) (s:=3) Tryz.underlying39 (by kernel_rfl) (by first|decide|exact Nat.zero_lt_succ _) (fun _=>rfl) (ay.read W)) H en n _ _ (hf 4 _ rfl)
    have b4:=dJ (show Tryz.prog.cellsOf 39=1 by kernel_rfl) a4
    have c4:=cX (show 4+1=5 from rfl) c3 b4
    obtain ⟨y5,a5,o5,s5⟩:=(gI (B:=cw) (s:=3) Tryz.underlying39 (by kernel_rfl) (by first|decide|exact Nat.zero_lt_succ _) (fun _=>rfl) (ay.read W)) H en n _ _ (hf 5 _ rfl)
    have b5:=dJ (show Tryz.prog.cellsOf 39=1 by kernel_rfl) a5
    have c5:=cX (show 5+1=6 from rfl) c4 b5
    obtain ⟨y6,a6,o6,s6⟩:=(gI (B:=cw) (s:=5) Tryz.underlying40 (by kernel_rfl) (by first|decide|exact Nat.zero_lt_succ _) (fun _=>rfl) (TEq.read W)) H en n _ _ (hf 6 _ rfl)
    have b6:=dJ (show Tryz.prog.cellsOf 40=1 by kernel_rfl) a6
    have c6:=cX (show 6+1=7 from rfl) c5 b6
    refine ⟨⟨y0,y1,y2,y3,y4,y5,y6⟩,jx (n:=7) (hl.trans (by kernel_rfl)) c6,⟨o0,o1,o2,o3,o4,o5,o6⟩,?_⟩
    have hz:cw.b (DataW.agg (H:=H) [x0.1,x1.1,x2.1,x3.1,x4.1,x5.1,x6.1])=cw.b x0.1+cw.b x1.1+cw.b x2.1+cw.b x3.1+cw.b x4.1+cw.b x5.1+cw.b x6.1+1:=by rw [cw.agg];(repeat rw [cw.cons]);rw [cw.nil]<;>omega
    refine Nat.le_trans ?_ (Nat.le_of_eq hz.symm)
    show szS y0+szI y1+(szL szS) y2+(szL ay.sz) y3+(szL ay.sz) y4+(szL ay.sz) y5+(szL TEq.sz) y6+1≤_
    omega
set_option maxRecDepth 100000 in
theorem _root_.Pam.aH.read(W:World):nd cw Tryz.prog W 25 aH.enc aH.ok aH.sz:=by
  intro H en fuel cs x h
  obtain ⟨xs,n,rfl,rfl,hl,hlen,hf⟩:=DataW.trod_struct Tryz.underlying25 h
  match xs,hlen with
  |[x0],_ =>
    obtain ⟨y0,a0,o0,s0⟩:=(gI (B:=cw) (s:=7) Tryz.underlying23 (by kernel_rfl) (by first|decide|exact Nat.zero_lt_succ _) (fun _=>rfl) (aS.read W)) H en n _ _ (hf 0 _ rfl)
    have b0:=dJ (show Tryz.prog.cellsOf 23=1 by kernel_rfl) a0
    have c0:bj (bz (fun b=>W.heap[b]?)) ((eL 7 aS.enc) y0) (cs.take 1):=b0
    refine ⟨⟨y0⟩,jx (n:=1) (hl.trans (by kernel_rfl)) c0,o0,?_⟩
    have hz:cw.b (DataW.agg (H:=H) [x0.1])=cw.b x0.1+1:=by rw [cw.agg];(repeat rw [cw.cons]);rw [cw.nil]<;>omega
    refine Nat.le_trans ?_ (Nat.le_of_eq hz.symm)
    show (szL aS.sz) y0+1≤_
    omega
end Go.Proofs.YtnogignohdjjjaaGreatDoor
