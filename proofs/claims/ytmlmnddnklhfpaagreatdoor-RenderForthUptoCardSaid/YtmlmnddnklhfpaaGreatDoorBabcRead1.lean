/- the readings of this seat are trees of cells; printed by a program of ours -/
import Derived.Test.YtmlmnddnklhfpaaGreatDoorRows
import Derived.Test.YtmlmnddnklhfpaaGreatDoorBabcData1
import Derived.Test.YtmlmnddnklhfpaaGreatDoorBWide1
set_option linter.all false
namespace Go.Proofs.YtmlmnddnklhfpaaGreatDoor
open Go Pam
theorem Ei{H:Type}(d:DataW H):1≤Rows.uptoBulk d:=by
  cases d with
  |lit l=>cases l<;>simp [Rows.uptoBulk]
  |nil=>simp [Rows.uptoBulk]
  |ptr d=>simp [Rows.uptoBulk]
  |slice elems spare=>simp [Rows.uptoBulk]
  |agg parts=>simp [Rows.uptoBulk]
  |iface t d=>simp [Rows.uptoBulk]
  |map entries=>simp [Rows.uptoBulk]
  |held h=>simp [Rows.uptoBulk]
def eN:F1:=⟨Rows.uptoBulk,Rows.uptoBulkAll,(fun _=>by simp [Rows.uptoBulk]),Ei,(fun _ _=>by simp [Rows.uptoBulk]),(fun _=>by simp [Rows.uptoBulk]),(by intros;simp [Rows.uptoBulkAll]),(fun _ _=>by simp [Rows.uptoBulkAll])⟩
set_option maxRecDepth 100000 in
theorem _root_.Pam.ag.read(W:World):rU eN Tryz.prog W 89 ag.enc ag.ok ag.sz:=by
  intro H en fuel cs x h
  obtain ⟨xs,n,rfl,rfl,hl,hlen,hf⟩:=DataW.trod_struct Tryz.underlying89 h
  match xs,hlen with
  |[x0,x1],_ =>
    obtain ⟨y0,a0,o0,s0⟩:=(tO (B:=eN) Tryz.underlying2) H en n _ _ (hf 0 _ rfl)
    have b0:=gP (show Tryz.prog.cellsOf 2=1 by kernel_rfl) a0
    have c0:aZ (bY (fun b=>W.heap[b]?)) ((eK .i64) y0) (cs.take 1):=b0
    obtain ⟨y1,a1,o1,s1⟩:=(rV (B:=eN) Tryz.underlying9) H en n _ _ (hf 1 _ rfl)
    have b1:=gP (show Tryz.prog.cellsOf 9=1 by kernel_rfl) a1
    have c1:=fU (show 1+1=2 from rfl) c0 b1
    refine ⟨⟨y0,y1⟩,my (n:=2) (hl.trans (by kernel_rfl)) c1,⟨o0,o1⟩,?_⟩
    have hz:eN.b (DataW.agg (H:=H) [x0.1,x1.1])=eN.b x0.1+eN.b x1.1+1:=by rw [eN.agg];(repeat rw [eN.cons]);rw [eN.nil]<;>omega
    refine Nat.le_trans ?_ (Nat.le_of_eq hz.symm)
    show szI y0+szS y1+1≤_
    omega
set_option maxRecDepth 100000 in
theorem _root_.Pam.gu.read(W:World):rU eN Tryz.prog W 78 gu.enc gu.ok gu.sz:=by
  intro H en fuel cs x h
  obtain ⟨xs,n,rfl,rfl,hl,hlen,hf⟩:=DataW.trod_struct Tryz.underlying78 h
  match xs,hlen with
  |[x0,x1],_ =>
    obtain ⟨y0,a0,o0,s0⟩:=(tO (B:=eN) Tryz.underlying5) H en n _ _ (hf 0 _ rfl)
    have b0:=gP (show Tryz.prog.cellsOf 5=1 by kernel_rfl) a0
    have c0:aZ (bY (fun b=>W.heap[b]?)) ((eK .u8) y0) (cs.take 1):=b0
    obtain ⟨y1,a1,o1,s1⟩:=(ko (B:=eN) (s:=2) Tryz.underlying76 (by kernel_rfl) (by first|decide|exact Nat.zero_lt_succ _) (fun _=>rfl) (ag.read W)) H en n _ _ (hf 1 _ rfl)
    have b1:=gP (show Tryz.prog.cellsOf 76=1 by kernel_rfl) a1
    have c1:=fU (show 1+1=2 from rfl) c0 b1
    refine ⟨⟨y0,y1⟩,my (n:=2) (hl.trans (by kernel_rfl)) c1,⟨o0,o1⟩,?_⟩
    have hz:eN.b (DataW.agg (H:=H) [x0.1,x1.1])=eN.b x0.1+eN.b x1.1+1:=by rw [eN.agg];(repeat rw [eN.cons]);rw [eN.nil]<;>omega
    refine Nat.le_trans ?_ (Nat.le_of_eq hz.symm)
    show szI y0+(szL ag.sz) y1+1≤_
    omega
set_option maxRecDepth 100000 in
theorem _root_.Pam.aw.read(W:World):rU eN Tryz.prog W 80 aw.enc aw.ok aw.sz:=by
  intro H en fuel cs x h
  obtain ⟨xs,n,rfl,rfl,hl,hlen,hf⟩:=DataW.trod_struct Tryz.underlying80 h
  match xs,hlen with
  |[x0,x1],_ =>
    obtain ⟨y0,a0,o0,s0⟩:=(rV (B:=eN) Tryz.underlying9) H en n _ _ (hf 0 _ rfl)
    have b0:=gP (show Tryz.prog.cellsOf 9=1 by kernel_rfl) a0
    have c0:aZ (bY (fun b=>W.heap[b]?)) (eS y0) (cs.take 1):=b0
    obtain ⟨y1,a1,o1,s1⟩:=(gu.read W) H en n _ _ (hf 1 _ rfl)
    have b1:=gP (show Tryz.prog.cellsOf 78=2 by kernel_rfl) a1
    have c1:=fU (show 1+2=3 from rfl) c0 b1
    refine ⟨⟨y0,y1⟩,my (n:=3) (hl.trans (by kernel_rfl)) c1,⟨o0,o1⟩,?_⟩
    have hz:eN.b (DataW.agg (H:=H) [x0.1,x1.1])=eN.b x0.1+eN.b x1.1+1:=by rw [eN.agg];(repeat rw [eN.cons]);rw [eN.nil]<;>omega
    refine Nat.le_trans ?_ (Nat.le_of_eq hz.symm)
    show szS y0+gu.sz y1+1≤_
    omega
set_option maxRecDepth 100000 in
theorem _root_.Pam.ae.readN(W:World)(H:Type)(en:TypeId×Value→H):∀ fuel,RdN eN Tryz.prog W 91 ae.enc ae.ok ae.sz H en fuel:=by
  intro fuel
  induction fuel using Nat.strongRecOn with
  |_ fuel ih =>
  intro cs x h
  obtain ⟨xs,n,rfl,rfl,hl,hlen,hf⟩:=DataW.trod_struct Tryz.underlying91 h
  match xs,hlen with
  |[x0,x1,x2,x3,x4,x5],_ =>
    obtain ⟨y0,a0,o0,s0⟩:=(tO (B:=eN) Tryz.underlying3) H en n _ _ (hf 0 _ rfl)
    have b0:=gP (show Tryz.prog.cellsOf 3=1 by kernel_rfl) a0
    have c0:aZ (bY (fun b=>W.heap[b]?)) ((eK .i64) y0) (cs.take 1):=b0
    obtain ⟨y1,a1,o1,s1⟩:=(tO (B:=eN) Tryz.underlying3) H en n _ _ (hf 1 _ rfl)
    have b1:=gP (show Tryz.prog.cellsOf 3=1 by kernel_rfl) a1
    have c1:=fU (show 1+1=2 from rfl) c0 b1
    obtain ⟨y2,a2,o2,s2⟩:=(tO (B:=eN) Tryz.underlying2) H en n _ _ (hf 2 _ rfl)
    have b2:=gP (show Tryz.prog.cellsOf 2=1 by kernel_rfl) a2
    have c2:=fU (show 2+1=3 from rfl) c1 b2
    obtain ⟨y3,a3,o3,s3⟩:=(rV (B:=eN) Tryz.underlying9) H en n _ _ (hf 3 _ rfl)
    have b3:=gP (show Tryz.prog.cellsOf 9=1 by kernel_rfl) a3
    have c3:=fU (show 3+1=4 from rfl) c2 b3
    obtain ⟨y4,a4,o4,s4⟩:=(ko (B:=eN) (s:=1) Tryz.underlying55 (by kernel_rfl) (by first|decide|exact Nat.zero_lt_succ _) (fun _=>rfl) (ko (B:=eN) (s:=2) Tryz.underlying76 (by kernel_rfl) (by first|decide|exact Nat.zero_lt_succ _) (fun _=>rfl) (ag.read W))) H en n _ _ (hf 4 _ rfl)
    have b4:=gP (show Tryz.prog.cellsOf 55=1 by kernel_rfl) a4
    have c4:=fU (show 4+1=5 from rfl) c3 b4
    obtain ⟨y5,a5,o5,s5⟩:=(yl (B:=eN) (s:=6) Tryz.underlying56 (by kernel_rfl) (by first|decide|exact Nat.zero_lt_succ _) (fun x=>by rw [ae.enc_eq]<;>rfl) (fun m hm=>ih m (Nat.lt_succ_of_lt hm))) _ _ (hf 5 _ rfl)
    have b5:=gP (show Tryz.prog.cellsOf 56=1 by kernel_rfl) a5
    have c5:=fU (show 5+1=6 from rfl) c4 b5
    refine ⟨⟨y0,y1,y2,y3,y4,y5⟩,by rw [ae.enc_eq];exact my (n:=6) (hl.trans (by kernel_rfl)) c5,by rw [ae.ok_eq];exact ⟨o0,o1,o2,o3,o4,o5⟩,?_⟩
    have hz:eN.b (DataW.agg (H:=H) [x0.1,x1.1,x2.1,x3.1,x4.1,x5.1])=eN.b x0.1+eN.b x1.1+eN.b x2.1+eN.b x3.1+eN.b x4.1+eN.b x5.1+1:=by rw [eN.agg];(repeat rw [eN.cons]);rw [eN.nil]<;>omega
    refine Nat.le_trans ?_ (Nat.le_of_eq hz.symm)
    rw [ae.sz_eq]
    show szI y0+szI y1+szI y2+szS y3+(szL (szL ag.sz)) y4+(szL ae.sz) y5+1≤_
    omega
theorem _root_.Pam.ae.read(W:World):rU eN Tryz.prog W 91 ae.enc ae.ok ae.sz:=fun H en fuel=>ae.readN W H en fuel
set_option maxRecDepth 100000 in
theorem _root_.Pam.TEq.read(W:World):rU eN Tryz.prog W 58 TEq.enc TEq.ok TEq.sz:=by
  intro H en fuel cs x h
  obtain ⟨xs,n,rfl,rfl,hl,hlen,hf⟩:=DataW.trod_struct Tryz.underlying58 h
  match xs,hlen with
  |[x0,x1,x2,x3,x4],_ =>
    obtain ⟨y0,a0,o0,s0⟩:=(tO (B:=eN) Tryz.underlying3) H en n _ _ (hf 0 _ rfl)
    have b0:=gP (show Tryz.prog.cellsOf 3=1 by kernel_rfl) a0
    have c0:aZ (bY (fun b=>W.heap[b]?)) ((eK .i64) y0) (cs.take 1):=b0
    obtain ⟨y1,a1,o1,s1⟩:=(ko (B:=eN) (s:=1) Tryz.underlying46 (by kernel_rfl) (by first|decide|exact Nat.zero_lt_succ _) (fun _=>rfl) (rV (B:=eN) Tryz.underlying9)) H en n _ _ (hf 1 _ rfl)
    have b1:=gP (show Tryz.prog.cellsOf 46=1 by kernel_rfl) a1
    have c1:=fU (show 1+1=2 from rfl) c0 b1
    obtain ⟨y2,a2,o2,s2⟩:=(rV (B:=eN) Tryz.underlying9) H en n _ _ (hf 2 _ rfl)
    have b2:=gP (show Tryz.prog.cellsOf 9=1 by kernel_rfl) a2
    have c2:=fU (show 2+1=3 from rfl) c1 b2
    obtain ⟨y3,a3,o3,s3⟩:=(ko (B:=eN) (s:=1) Tryz.underlying55 (by kernel_rfl) (by first|decide|exact Nat.zero_lt_succ _) (fun _=>rfl) (ko (B:=eN) (s:=2) Tryz.underlying76 (by kernel_rfl) (by first|decide|exact Nat.zero_lt_succ _) (fun _=>rfl) (ag.read W))) H en n _ _ (hf 3 _ rfl)
    have b3:=gP (show Tryz.prog.cellsOf 55=1 by kernel_rfl) a3
    have c3:=fU (show 3+1=4 from rfl) c2 b3
    obtain ⟨y4,a4,o4,s4⟩:=(ko (B:=eN) (s:=6) Tryz.underlying56 (by kernel_rfl) (by first|decide|exact Nat.zero_lt_succ _) (fun x=>by rw [ae.enc_eq]<;>rfl) (ae.read W)) H en n _ _ (hf 4 _ rfl)
    have b4:=gP (show Tryz.prog.cellsOf 56=1 by kernel_rfl) a4
    have c4:=fU (show 4+1=5 from rfl) c3 b4
    refine ⟨⟨y0,y1,y2,y3,y4⟩,my (n:=5) (hl.trans (by kernel_rfl)) c4,⟨o0,o1,o2,o3,o4⟩,?_⟩
    have hz:eN.b (DataW.agg (H:=H) [x0.1,x1.1,x2.1,x3.1,x4.1])=eN.b x0.1+eN.b x1.1+eN.b x2.1+eN.b x3.1+eN.b x4.1+1:=by rw [eN.agg];(repeat rw [eN.cons]);rw [eN.nil]<;>omega
    refine Nat.le_trans ?_ (Nat.le_of_eq hz.symm)
    show szI y0+(szL szS) y1+szS y2+(szL (szL ag.sz)) y3+(szL ae.sz) y4+1≤_
    omega
set_option maxRecDepth 100000 in
theorem _root_.Pam.aE.read(W:World):rU eN Tryz.prog W 50 aE.enc aE.ok aE.sz:=by
  intro H en fuel cs x h
  obtain ⟨xs,n,rfl,rfl,hl,hlen,hf⟩:=DataW.trod_struct Tryz.underlying50 h
  match xs,hlen with
  |[x0,x1,x2,x3,x4,x5,x6],_ =>
    obtain ⟨y0,a0,o0,s0⟩:=(rV (B:=eN) Tryz.underlying9) H en n _ _ (hf 0 _ rfl)
    have b0:=gP (show Tryz.prog.cellsOf 9=1 by kernel_rfl) a0
    have c0:aZ (bY (fun b=>W.heap[b]?)) (eS y0) (cs.take 1):=b0
    obtain ⟨y1,a1,o1,s1⟩:=(tO (B:=eN) Tryz.underlying3) H en n _ _ (hf 1 _ rfl)
    have b1:=gP (show Tryz.prog.cellsOf 3=1 by kernel_rfl) a1
    have c1:=fU (show 1+1=2 from rfl) c0 b1
    obtain ⟨y2,a2,o2,s2⟩:=(ko (B:=eN) (s:=1) Tryz.underlying46 (by kernel_rfl) (by first|decide|exact Nat.zero_lt_succ _) (fun _=>rfl) (rV (B:=eN) Tryz.underlying9)) H en n _ _ (hf 2 _ rfl)
    have b2:=gP (show Tryz.prog.cellsOf 46=1 by kernel_rfl) a2
    have c2:=fU (show 2+1=3 from rfl) c1 b2
    obtain ⟨y3,a3,o3,s3⟩:=(ko (B:=eN) (s:=3) Tryz.underlying47 (by kernel_rfl) (by first|decide|exact Nat.zero_lt_succ _) (fun _=>rfl) (aw.read W)) H en n _ _ (hf 3 _ rfl)
    have b3:=gP (show Tryz.prog.cellsOf 47=1 by kernel_rfl) a3
    have c3:=fU (show 3+1=4 from rfl) c2 b3
    obtain ⟨y4,a4,o4,s4⟩:=(ko (B:=eN) (s:=3) Tryz.underlying47 (by kernel_rfl) (by first|decide|exact Nat.zero_lt_succ _) (fun _=>rfl) (aw.read W)) H en n _ _ (hf 4 _ rfl)
    have b4:=gP (show Tryz.prog.cellsOf 47=1 by kernel_rfl) a4
    have c4:=fU (show 4+1=5 from rfl) c3 b4
    obtain ⟨y5,a5,o5,s5⟩:=(ko (B:=eN) (s:=3) Tryz.underlying47 (by kernel_rfl) (by first|decide|exact Nat.zero_lt_succ _) (fun _=>rfl) (aw.read W)) H en n _ _ (hf 5 _ rfl)
    have b5:=gP (show Tryz.prog.cellsOf 47=1 by kernel_rfl) a5
    have c5:=fU (show 5+1=6 from rfl) c4 b5
    obtain ⟨y6,a6,o6,s6⟩:=(ko (B:=eN) (s:=5) Tryz.underlying48 (by kernel_rfl) (by first|decide|exact Nat.zero_lt_succ _) (fun _=>rfl) (TEq.read W)) H en n _ _ (hf 6 _ rfl)
    have b6:=gP (show Tryz.prog.cellsOf 48=1 by kernel_rfl) a6
    have c6:=fU (show 6+1=7 from rfl) c5 b6
    refine ⟨⟨y0,y1,y2,y3,y4,y5,y6⟩,my (n:=7) (hl.trans (by kernel_rfl)) c6,⟨o0,o1,o2,o3,o4,o5,o6⟩,?_⟩
    have hz:eN.b (DataW.agg (H:=H) [x0.1,x1.1,x2.1,x3.1,x4.1,x5.1,x6.1])=eN.b x0.1+eN.b x1.1+eN.b x2.1+eN.b x3.1+eN.b x4.1+eN.b x5.1+eN.b x6.1+1:=by rw [eN.agg];(repeat rw [eN.cons]);rw [eN.nil]<;>omega
    refine Nat.le_trans ?_ (Nat.le_of_eq hz.symm)
    show szS y0+szI y1+(szL szS) y2+(szL aw.sz) y3+(szL aw.sz) y4+(szL aw.sz) y5+(szL TEq.sz) y6+1≤_
    omega
set_option maxRecDepth 100000 in
theorem _root_.Pam.az.read(W:World):rU eN Tryz.prog W 25 az.enc az.ok az.sz:=by
  intro H en fuel cs x h
  obtain ⟨xs,n,rfl,rfl,hl,hlen,hf⟩:=DataW.trod_struct Tryz.underlying25 h
  match xs,hlen with
  |[x0],_ =>
    obtain ⟨y0,a0,o0,s0⟩:=(ko (B:=eN) (s:=7) Tryz.underlying23 (by kernel_rfl) (by first|decide|exact Nat.zero_lt_succ _) (fun _=>rfl) (aE.read W)) H en n _ _ (hf 0 _ rfl)
    have b0:=gP (show Tryz.prog.cellsOf 23=1 by kernel_rfl) a0
    have c0:aZ (bY (fun b=>W.heap[b]?)) ((eL 7 aE.enc) y0) (cs.take 1):=b0
    refine ⟨⟨y0⟩,my (n:=1) (hl.trans (by kernel_rfl)) c0,o0,?_⟩
    have hz:eN.b (DataW.agg (H:=H) [x0.1])=eN.b x0.1+1:=by rw [eN.agg];(repeat rw [eN.cons]);rw [eN.nil]<;>omega
    refine Nat.le_trans ?_ (Nat.le_of_eq hz.symm)
    show (szL aE.sz) y0+1≤_
    omega
end Go.Proofs.YtmlmnddnklhfpaaGreatDoor
