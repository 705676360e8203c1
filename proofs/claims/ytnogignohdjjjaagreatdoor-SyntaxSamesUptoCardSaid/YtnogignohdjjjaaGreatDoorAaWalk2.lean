/- the walk of syntax_parser_opened_7, printed by a program of ours -/
import Derived.Test.YtnogignohdjjjaaGreatDoorABase3
import Derived.Test.YtnogignohdjjjaaGreatDoorABase2
import Derived.Test.YtnogignohdjjjaaGreatDoorAaFun1
import Derived.Test.YtnogignohdjjjaaGreatDoorAaWalk1
set_option linter.all false
set_option maxRecDepth 100000
set_option maxHeartbeats 8000000
namespace Pam
open Go Go.Proofs
theorem lq(rc_syntax_parser_ahead:ae→Option ((af×(List ab)×Int×Int) ⊕ (Int×Int)))(hr_syntax_parser_ahead:∀ (p1:ae) (r:(af×(List ab)×Int×Int) ⊕ (Int×Int)),rc_syntax_parser_ahead p1=some r→cF Tryz.prog 99 [.c (.optr 0 0)] [.box [.tree 4 (p1.l.map ab.enc),.int .i64 p1.end_,.int .i64 p1.open_,.int .i64 p1.terms]] (fun p σ=>(Sum.elim (fun z=>(p=.a [.int .i64 ((z.1).op),.int .i64 ((z.1).k),.int .i64 ((z.1).n),.str ((z.1).name),.tree 1 (((z.1).s).map (eL 2 am.enc)),.tree 6 (((z.1).l).map af.enc)]∧σ=[.box [.tree 4 (z.2.1.map ab.enc),.int .i64 p1.end_,.int .i64 z.2.2.1,.int .i64 z.2.2.2]])) (fun z=>False)) r) (fun p _=>(Sum.elim (fun z=>False) (fun z=>p=.c (.ifc 50 true (nsC [(.i64,z.1),(.i64,z.2)])))) r))(p1:ae)(p2:Int)(r:(af×(List ab)×Int×Int) ⊕ (Int×Int))(hm:ij rc_syntax_parser_ahead p1 p2=some r):cF Tryz.prog 109 [.c (.optr 0 0),.c (.fn 110 [.optr 1 0,.optr 2 0])] [.box [.tree 4 (p1.l.map ab.enc),.int .i64 p1.end_,.int .i64 p1.open_,.int .i64 p1.terms],.box [.optr 0 0],.box [.int .i64 p2]] (fun p σ=>(Sum.elim (fun z=>(p=.a [.int .i64 ((z.1).op),.int .i64 ((z.1).k),.int .i64 ((z.1).n),.str ((z.1).name),.tree 1 (((z.1).s).map (eL 2 am.enc)),.tree 6 (((z.1).l).map af.enc)]∧σ=[.box [.tree 4 (z.2.1.map ab.enc),.int .i64 p1.end_,.int .i64 z.2.2.1,.int .i64 z.2.2.2],.box [.optr 0 0],.box [.int .i64 p2]])) (fun z=>False)) r) (fun p _=>(Sum.elim (fun z=>False) (fun z=>p=.c (.ifc 50 true (nsC [(.i64,z.1),(.i64,z.2)])))) r):=by
 refine aF 32 [.cell 4 49] Tryz.func109 rfl rfl rfl (by kernel_rfl) (by simp) ?_;refine bJ ?_;unfold ij at hm;refine aq [] ?_;refine aB fun k1 hk1=>?_;refine aq [6,7,8,9] ?_
 by_cases h1:p1.open_=60
 ·rw [iP h1] at hm;refine aj rfl (eQ h1) ?_;refine bB fun k kp hk hp=>?_;refine go ?_;obtain ⟨y1,hc2,hm⟩:=bd hm
  refine ap (aP 6 p1  _ hc2) [0] (by first|trivial|exact aJ rfl) (by first|trivial|(intro _;first|trivial|simp [au])|simp [au]) (by simp) (by simp) rfl rfl (by first|trivial|(simp [bX,eK,eB,eS,eL,av,ai,PV.under,CV.under,ag,OB.under,ah];done)) (by first|trivial|(simp [bX,eK,eB,eS,eL,av,ai,PV.under,CV.under,ag,OB.under,ah];done)) ?_ ?_
  rotate_left
  ·rintro p σ' hpp hpl;skip;subst hpp;refine hp _ _ _ ?_;refine cr ?_;obtain rfl:=sI hm;exact rfl
  rintro p σ' hq3 _;exact False.elim hq3
 ·rw [iN h1] at hm;refine ak rfl (nB h1) ?_;refine ar ?_;refine ax (hk1 _ _ ?_);refine aq [10,13,14,15,16,17,18,19] ?_;refine az [20,21] fun k kp hk hp=>?_;refine go ?_;obtain ⟨y2,hc4,hm⟩:=bd hm;refine RA (a8 (ae.mk p1.l p1.end_ (IntKind.wrap .i64 (p1.open_+1)) p1.terms)  _ hc4) [0] ?_;rintro p σ' ⟨rfl,rfl⟩ _;refine aa ?_;refine go ?_;refine hk _ _ ?_;clear hk hp k kp;refine az [1,22,23] fun k kp hk hp=>?_;refine go ?_;obtain ⟨y3,hc6,hm⟩:=bd hm
  refine ap (li rc_syntax_parser_ahead hr_syntax_parser_ahead p2 (ae.mk y2.2 p1.end_ (IntKind.wrap .i64 (p1.open_+1)) p1.terms)  _ hc6) [1,2,0] (by first|trivial|exact aJ rfl) (by first|trivial|(intro _;first|trivial|simp [au])|simp [au]) (by simp) (by simp) rfl rfl (by first|trivial|(simp [bX,eK,eB,eS,eL,av,ai,PV.under,CV.under,ag,OB.under,ah];done)) (by first|trivial|(simp [bX,eK,eB,eS,eL,av,ai,PV.under,CV.under,ag,OB.under,ah];done)) ?_ ?_
  rotate_left
  ·rintro p σ' hpp hpl
   rcases y3 with y4|y5
   ·exact False.elim hpp
   simp only [Sum.elim_inl,Sum.elim_inr] at hm hpp;subst hpp;refine hp _ _ _ ?_;obtain rfl:=sI hm;exact rfl
  rintro p σ' hq7 _
  rcases y3 with y6|y7
  ·skip;simp only [Sum.elim_inl,Sum.elim_inr] at hm hq7
   obtain ⟨rfl,rfl⟩:=hq7;refine aa ?_;refine go ?_;refine hk _ _ ?_;clear hk hp k kp;refine aq [0,24,25,26,27,28,29,30] ?_;refine aq [5,31] ?_;refine aA ?_
   cases hm
   exact kr 3
  ·skip;exact False.elim hq7
theorem lP(rc_syntax_parser_rank:Int→ae→Option ((af×(List ab)×Int×Int) ⊕ (Int×Int)))(rcf:ae→Option ((af×(List ab)×Int×Int) ⊕ (Int×Int)))(hr_syntax_parser_rank:∀ (p1:Int) (p2:ae) (r:(af×(List ab)×Int×Int) ⊕ (Int×Int)),rc_syntax_parser_rank p1 p2=some r→cF Tryz.prog 91 [.c (.optr 0 0),.c (.int .i64 p1)] [.box [.tree 4 (p2.l.map ab.enc),.int .i64 p2.end_,.int .i64 p2.open_,.int .i64 p2.terms]] (fun p σ=>(Sum.elim (fun z=>(p=.a [.int .i64 ((z.1).op),.int .i64 ((z.1).k),.int .i64 ((z.1).n),.str ((z.1).name),.tree 1 (((z.1).s).map (eL 2 am.enc)),.tree 6 (((z.1).l).map af.enc)]∧σ=[.box [.tree 4 (z.2.1.map ab.enc),.int .i64 p2.end_,.int .i64 z.2.2.1,.int .i64 z.2.2.2]])) (fun z=>False)) r) (fun p _=>(Sum.elim (fun z=>False) (fun z=>p=.c (.ifc 50 true (nsC [(.i64,z.1),(.i64,z.2)])))) r))(hrec:∀ (p1:ae) (r:(af×(List ab)×Int×Int) ⊕ (Int×Int)),rcf p1=some r→cF Tryz.prog 99 [.c (.optr 0 0)] [.box [.tree 4 (p1.l.map ab.enc),.int .i64 p1.end_,.int .i64 p1.open_,.int .i64 p1.terms]] (fun p σ=>(Sum.elim (fun z=>(p=.a [.int .i64 ((z.1).op),.int .i64 ((z.1).k),.int .i64 ((z.1).n),.str ((z.1).name),.tree 1 (((z.1).s).map (eL 2 am.enc)),.tree 6 (((z.1).l).map af.enc)]∧σ=[.box [.tree 4 (z.2.1.map ab.enc),.int .i64 p1.end_,.int .i64 z.2.2.1,.int .i64 z.2.2.2]])) (fun z=>False)) r) (fun p _=>(Sum.elim (fun z=>False) (fun z=>p=.c (.ifc 50 true (nsC [(.i64,z.1),(.i64,z.2)])))) r))(p1:ae)(r:(af×(List ab)×Int×Int) ⊕ (Int×Int))(hm:fV rc_syntax_parser_rank rcf p1=some r):cF Tryz.prog 99 [.c (.optr 0 0)] [.box [.tree 4 (p1.l.map ab.enc),.int .i64 p1.end_,.int .i64 p1.open_,.int .i64 p1.terms]] (fun p σ=>(Sum.elim (fun z=>(p=.a [.int .i64 ((z.1).op),.int .i64 ((z.1).k),.int .i64 ((z.1).n),.str ((z.1).name),.tree 1 (((z.1).s).map (eL 2 am.enc)),.tree 6 (((z.1).l).map af.enc)]∧σ=[.box [.tree 4 (z.2.1.map ab.enc),.int .i64 p1.end_,.int .i64 z.2.2.1,.int .i64 z.2.2.2]])) (fun z=>False)) r) (fun p _=>(Sum.elim (fun z=>False) (fun z=>p=.c (.ifc 50 true (nsC [(.i64,z.1),(.i64,z.2)])))) r):=by
 refine aF 23 [.cell 2 49] Tryz.func99 rfl rfl rfl (by kernel_rfl) (by simp) ?_;refine bJ ?_;unfold fV at hm;refine aq [0] ?_;refine aB fun k1 hk1=>?_;refine az [5,6] fun k kp hk hp=>?_;refine go ?_;refine aE (aG 3 rfl) ?_;refine gt ?_;obtain ⟨y1,hc1,hm⟩:=bd hm;refine RA (aM (lit ([([45]:List UInt8),([110,111,116]:List UInt8)]:List (List UInt8))) p1  _ hc1) [0] ?_;rintro p σ' ⟨rfl,rfl⟩ _;refine aa ?_;refine go ?_;refine hk _ _ ?_;clear hk hp k kp
 by_cases h3:y1=true
 ·rw [iP h3] at hm;refine aj rfl (h3) ?_;refine aq [7] ?_;refine bk (S:=Int) (V:=Unit) [8,9,10] (fun x2 _=>[]) (fun x2 _=>[.box [.tree 4 (p1.l.map ab.enc),.int .i64 p1.end_,.int .i64 p1.open_,.int .i64 p1.terms],.box [.optr 0 0],.box [.int .i64 0,.int .i64 0,.int .i64 0,.str [],.nils,.nils],.dead,.box [.int .i64 x2]]) (fun x2=>ed rcf p1 x2=some r) ?_ ?_
  ·skip;refine az [8,9] fun k kp hk hp=>?_
   refine go ?_;refine aE (aG 5 rfl) ?_;refine gt ?_;obtain ⟨y8,hc6,hm⟩:=bd hm;refine RA (aM (lit ([([110,111,116]:List UInt8)]:List (List UInt8))) p1  _ hc6) [0] ?_;rintro p σ' ⟨rfl,rfl⟩ _;refine aa ?_;refine go ?_;refine hk _ _ ?_;clear hk hp k kp
   by_cases h8:y8=true
   ·rw [iP h8] at hm;refine aj rfl (h8) ?_;refine d6 ?_;refine an 14 () hm ?_;exact ls
   ·rw [iN h8] at hm;refine ak rfl (fB h8) ?_;refine ar ?_;refine an 13 () hm ?_;exact ls
  ·rintro x2 _ hm;replace hm:ed rcf p1 x2=some r:=hm;refine bm ?_;unfold ed at hm;refine az [1,3,11,12,13] fun k kp hk hp=>?_;refine go ?_;obtain ⟨y3,hc4,hm⟩:=bd hm
   refine ap (lq rcf hrec p1 x2  _ hc4) [0,1,4] (by first|trivial|exact aJ rfl) (by first|trivial|(intro _;first|trivial|simp [au])|simp [au]) (by simp) (by simp) rfl rfl (by first|trivial|(simp [bX,eK,eB,eS,eL,av,ai,PV.under,CV.under,ag,OB.under,ah];done)) (by first|trivial|(simp [bX,eK,eB,eS,eL,av,ai,PV.under,CV.under,ag,OB.under,ah];done)) ?_ ?_
   rotate_left
   ·rintro p σ' hpp hpl
    rcases y3 with y4|y5
    ·exact False.elim hpp
    simp only [Sum.elim_inl,Sum.elim_inr] at hm hpp;subst hpp;refine hp _ _ _ ?_;refine cr ?_;obtain rfl:=sI hm;exact rfl
   rintro p σ' hq5 _
   rcases y3 with y6|y7
   ·skip;simp only [Sum.elim_inl,Sum.elim_inr] at hm hq5
    obtain ⟨rfl,rfl⟩:=hq5;refine aa ?_;refine go ?_;refine hk _ _ ?_;clear hk hp k kp;refine aA ?_;refine bi ?_
    cases hm
    exact kr 1
   ·skip;exact False.elim hq5
 ·rw [iN h3] at hm;refine ak rfl (fB h3) ?_;refine ar ?_;refine ax (hk1 _ _ ?_);refine az [7,14,15] fun k kp hk hp=>?_;refine go ?_;obtain ⟨y9,hc9,hm⟩:=bd hm
  refine ap (mW rc_syntax_parser_rank hr_syntax_parser_rank p1  _ hc9) [0] (by first|trivial|exact aJ rfl) (by first|trivial|(intro _;first|trivial|simp [au])|simp [au]) (by simp) (by simp) rfl rfl (by first|trivial|(simp [bX,eK,eB,eS,eL,av,ai,PV.under,CV.under,ag,OB.under,ah];done)) (by first|trivial|(simp [bX,eK,eB,eS,eL,av,ai,PV.under,CV.under,ag,OB.under,ah];done)) ?_ ?_
  rotate_left
  ·rintro p σ' hpp hpl
   rcases y9 with y10|y11
   ·exact False.elim hpp
   simp only [Sum.elim_inl,Sum.elim_inr] at hm hpp;subst hpp;refine hp _ _ _ ?_;obtain rfl:=sI hm;exact rfl
  rintro p σ' hq10 _
  rcases y9 with y12|y13
  ·skip;simp only [Sum.elim_inl,Sum.elim_inr] at hm hq10
   obtain ⟨rfl,rfl⟩:=hq10;refine aa ?_;refine go ?_;refine hk _ _ ?_;clear hk hp k kp;refine bk (S:=((List ab)×Int×Int×Int×Int×Int×(List UInt8)×(List (List am))×(List af))) (V:=Unit) [1,16,17,18,19,20,21] (fun (l14,x15,x16,x17,x18,x19,s20,l21,l22) _=>[]) (fun (l14,x15,x16,x17,x18,x19,s20,l21,l22) _=>[.box [.tree 4 (l14.map ab.enc),.int .i64 p1.end_,.int .i64 x15,.int .i64 x16],.box [.optr 0 0],.box [.int .i64 0,.int .i64 0,.int .i64 0,.str [],.nils,.nils],.dead,.box [.int .i64 x17,.int .i64 x18,.int .i64 x19,.str s20,.tree 1 (l21.map (eL 2 am.enc)),.tree 6 (l22.map af.enc)]]) (fun (l14,x15,x16,x17,x18,x19,s20,l21,l22)=>dt l14 x15 x16 x17 x18 x19 s20 l21 l22=some r) ?_ ?_
   ·skip;refine aK ?_
    obtain ⟨o1,hl1,hm1⟩:=bd hm;refine bQ (S:=((List ab)×Int×Int×Int×Int×Int×(List UInt8)×(List (List am))×(List af))) (V:=Unit) (O:=((List ab)×Int×Int×Int×Int×Int×(List UInt8)×(List (List am))×(List af)) ⊕ ((af×(List ab)×Int×Int) ⊕ (Int×Int))) [16,17,18,19,20,21] (fun (l41,x42,x43,x44,x45,x46,s47,l48,l49) _=>[]) (fun (l41,x42,x43,x44,x45,x46,s47,l48,l49) _=>[.box [.tree 4 (l41.map ab.enc),.int .i64 p1.end_,.int .i64 x42,.int .i64 x43],.box [.optr 0 0],.box [.int .i64 0,.int .i64 0,.int .i64 0,.str [],.nils,.nils],.dead,.box [.int .i64 x44,.int .i64 x45,.int .i64 x46,.str s47,.tree 1 (l48.map (eL 2 am.enc)),.tree 6 (l49.map af.enc)]]) _ _ () hl1 ?_ ?_
    ·exact ls
    ·rintro ⟨l41,x42,x43,x44,x45,x46,s47,l48,l49⟩ _ r1 hm hr1;replace hm:fw rc_syntax_parser_rank p1 l41 x42 x43 x44 x45 x46 s47 l48 l49=some r1:=hm;refine bm ?_;unfold fw at hm;refine aB fun k2 hk2=>?_;refine az [16,17] fun k kp hk hp=>?_;refine go ?_;refine aE (aG 5 rfl) ?_;refine gt ?_;obtain ⟨y50,hc11,hm⟩:=bd hm;refine RA (aM (lit ([([91]:List UInt8)]:List (List UInt8))) (ae.mk l41 p1.end_ x42 x43)  _ hc11) [0] ?_;rintro p σ' ⟨rfl,rfl⟩ _;refine aa ?_;refine go ?_;refine hk _ _ ?_;clear hk hp k kp
     by_cases h13:y50=true
     ·rw [iP h13] at hm;refine aj rfl (h13) ?_;refine ar ?_;refine ax (hk2 _ _ ?_);refine aK ?_;refine bB fun k kp hk hp=>?_;refine go ?_;obtain ⟨y51,hc14,hm⟩:=bd hm
      refine ap (lh rc_syntax_parser_rank hr_syntax_parser_rank (ae.mk l41 p1.end_ x42 x43) (af.mk x44 x45 x46 s47 l48 l49)  _ hc14) [0,1,4] (by first|trivial|exact aJ rfl) (by first|trivial|(intro _;first|trivial|simp [au])|simp [au]) (by simp) (by simp) rfl rfl (by first|trivial|(simp [bX,eK,eB,eS,eL,av,ai,PV.under,CV.under,ag,OB.under,ah];done)) (by first|trivial|(simp [bX,eK,eB,eS,eL,av,ai,PV.under,CV.under,ag,OB.under,ah];done)) ?_ ?_
      rotate_left
      ·rintro p σ' hpp hpl
       rcases y51 with y52|y53
       ·exact False.elim hpp
       simp only [Sum.elim_inl,Sum.elim_inr] at hm hpp;subst hpp;have ho16:=aD hm hr1;subst ho16;replace hm:some (.inr (y53.1,y53.2))=some r:=hm1;refine hp _ _ _ ?_;refine be ?_;refine cG ?_;refine be ?_;refine bI ?_;obtain rfl:=sI hm;exact rfl
      rintro p σ' hq15 _
      rcases y51 with y54|y55
      ·skip;simp only [Sum.elim_inl,Sum.elim_inr] at hm hq15
       obtain ⟨rfl,rfl⟩:=hq15;refine aa ?_;refine go ?_;refine hk _ _ ?_;clear hk hp k kp;refine aW ?_;refine bw (y54.2.1,y54.2.2.1,y54.2.2.2,(y54.1).op,(y54.1).k,(y54.1).n,(y54.1).name,(y54.1).s,(y54.1).l) () hm ?_;exact ls
      ·skip;exact False.elim hq15
     ·rw [iN h13] at hm;refine ak rfl (fB h13) ?_;refine cj ?_;have ho17:=aD hm hr1;subst ho17;replace hm:dt l41 x42 x43 x44 x45 x46 s47 l48 l49=some r:=hm1;refine bP (bx (aX ?_));refine an (l41,x42,x43,x44,x45,x46,s47,l48,l49) () hm ?_;exact ls
   ·rintro ⟨l14,x15,x16,x17,x18,x19,s20,l21,l22⟩ _ hm;replace hm:dt l14 x15 x16 x17 x18 x19 s20 l21 l22=some r:=hm;refine bm ?_;unfold dt at hm;refine aq [4,22] ?_;refine aA ?_
    cases hm
    exact kr 1
  ·skip;exact False.elim hq10
theorem mH(fuel:Nat)(rc_syntax_parser_rank:Int→ae→Option ((af×(List ab)×Int×Int) ⊕ (Int×Int)))(hr_syntax_parser_rank:∀ (p1:Int) (p2:ae) (r:(af×(List ab)×Int×Int) ⊕ (Int×Int)),rc_syntax_parser_rank p1 p2=some r→cF Tryz.prog 91 [.c (.optr 0 0),.c (.int .i64 p1)] [.box [.tree 4 (p2.l.map ab.enc),.int .i64 p2.end_,.int .i64 p2.open_,.int .i64 p2.terms]] (fun p σ=>(Sum.elim (fun z=>(p=.a [.int .i64 ((z.1).op),.int .i64 ((z.1).k),.int .i64 ((z.1).n),.str ((z.1).name),.tree 1 (((z.1).s).map (eL 2 am.enc)),.tree 6 (((z.1).l).map af.enc)]∧σ=[.box [.tree 4 (z.2.1.map ab.enc),.int .i64 p2.end_,.int .i64 z.2.2.1,.int .i64 z.2.2.2]])) (fun z=>False)) r) (fun p _=>(Sum.elim (fun z=>False) (fun z=>p=.c (.ifc 50 true (nsC [(.i64,z.1),(.i64,z.2)])))) r))(p1:ae)(r:(af×(List ab)×Int×Int) ⊕ (Int×Int))(hm:jh fuel rc_syntax_parser_rank p1=some r):cF Tryz.prog 99 [.c (.optr 0 0)] [.box [.tree 4 (p1.l.map ab.enc),.int .i64 p1.end_,.int .i64 p1.open_,.int .i64 p1.terms]] (fun p σ=>(Sum.elim (fun z=>(p=.a [.int .i64 ((z.1).op),.int .i64 ((z.1).k),.int .i64 ((z.1).n),.str ((z.1).name),.tree 1 (((z.1).s).map (eL 2 am.enc)),.tree 6 (((z.1).l).map af.enc)]∧σ=[.box [.tree 4 (z.2.1.map ab.enc),.int .i64 p1.end_,.int .i64 z.2.2.1,.int .i64 z.2.2.2]])) (fun z=>False)) r) (fun p _=>(Sum.elim (fun z=>False) (fun z=>p=.c (.ifc 50 true (nsC [(.i64,z.1),(.i64,z.2)])))) r):=by
  have key:∀ (n:Nat) (p1:ae) (r:(af×(List ab)×Int×Int) ⊕ (Int×Int)),dB rc_syntax_parser_rank n p1=some r→cF Tryz.prog 99 [.c (.optr 0 0)] [.box [.tree 4 (p1.l.map ab.enc),.int .i64 p1.end_,.int .i64 p1.open_,.int .i64 p1.terms]] (fun p σ=>(Sum.elim (fun z=>(p=.a [.int .i64 ((z.1).op),.int .i64 ((z.1).k),.int .i64 ((z.1).n),.str ((z.1).name),.tree 1 (((z.1).s).map (eL 2 am.enc)),.tree 6 (((z.1).l).map af.enc)]∧σ=[.box [.tree 4 (z.2.1.map ab.enc),.int .i64 p1.end_,.int .i64 z.2.2.1,.int .i64 z.2.2.2]])) (fun z=>False)) r) (fun p _=>(Sum.elim (fun z=>False) (fun z=>p=.c (.ifc 50 true (nsC [(.i64,z.1),(.i64,z.2)])))) r):=by
    intro n
    induction n with
    |zero =>
      intro p1  r hm;simp [dB] at hm
    |succ n ih =>
      intro p1  r hm;exact lP rc_syntax_parser_rank (dB rc_syntax_parser_rank n) hr_syntax_parser_rank ih p1  r hm
  exact key fuel p1  r hm
theorem kK(p1:Int)(p2:ae)(r:Int)(hm:gN p1 p2=some r):cF Tryz.prog 100 [.c (.optr 0 0),.c (.int .i64 p1)] [.box [.tree 4 (p2.l.map ab.enc),.int .i64 p2.end_,.int .i64 p2.open_,.int .i64 p2.terms]] (fun p σ=>(p=.c (.int .i64 r)∧σ=[.box [.tree 4 (p2.l.map ab.enc),.int .i64 p2.end_,.int .i64 p2.open_,.int .i64 p2.terms]])) (fun _ _=>False):=by
 refine aF 44 [.tmp 4] Tryz.func100 rfl rfl rfl (by kernel_rfl) (by simp) ?_;refine bJ ?_;unfold gN at hm;refine aq [4] ?_;refine cM [7,8,9,10,11,12] fun k kp hk hp=>?_;refine aC 5 ?_;refine go ?_;refine dI (aG 1 rfl) ?_;refine gz ?_;refine dI (aG 2 rfl) ?_;refine gz ?_;refine dI (aG 3 rfl) ?_;refine gz ?_;refine dI (aG 4 rfl) ?_;refine gz ?_;refine dI (aG 5 rfl) ?_;refine gz ?_;refine aa ?_;refine go ?_;refine hk _ _ ?_;clear hk hp k kp;refine jN [.box [.tree 4 (p2.l.map ab.enc),.int .i64 p2.end_,.int .i64 p2.open_,.int .i64 p2.terms],.dead,.dead,.dead,.dead,.dead,.arr 1 0 38 ((lit ([(lit ([([111,114]:List UInt8),([120,111,114]:List UInt8)]:List (List UInt8))),(lit ([([97,110,100]:List UInt8)]:List (List UInt8))),(lit ([([60]:List UInt8),([61,61]:List UInt8)]:List (List UInt8))),(lit ([([43]:List UInt8),([45]:List UInt8)]:List (List UInt8))),(lit ([([42]:List UInt8),([47]:List UInt8),([37]:List UInt8)]:List (List UInt8)))]:List (List (List UInt8)))).map (eL 1 eS))] ?_;refine cM [13,14,15,16,17,18] fun k kp hk hp=>?_;refine aC 5 ?_;refine go ?_;refine dI (aG 7 rfl) ?_;refine gz ?_;refine dI (aG 8 rfl) ?_;refine gz ?_;refine dI (aG 9 rfl) ?_;refine gz ?_;refine dI (aG 10 rfl) ?_;refine gz ?_;refine dI (aG 11 rfl) ?_;refine gz ?_;refine aa ?_;refine go ?_;refine hk _ _ ?_;clear hk hp k kp;refine jN [.box [.tree 4 (p2.l.map ab.enc),.int .i64 p2.end_,.int .i64 p2.open_,.int .i64 p2.terms],.dead,.dead,.dead,.dead,.dead,.arr 1 0 38 ((lit ([(lit ([([111,114]:List UInt8),([120,111,114]:List UInt8)]:List (List UInt8))),(lit ([([97,110,100]:List UInt8)]:List (List UInt8))),(lit ([([60]:List UInt8),([61,61]:List UInt8)]:List (List UInt8))),(lit ([([43]:List UInt8),([45]:List UInt8)]:List (List UInt8))),(lit ([([42]:List UInt8),([47]:List UInt8),([37]:List UInt8)]:List (List UInt8)))]:List (List (List UInt8)))).map (eL 1 eS)),.dead,.dead,.dead,.dead,.dead,.arr 1 0 134 ((lit ([(lit ([11,12]:List Int)),(lit ([10]:List Int)),(lit ([8,9]:List Int)),(lit ([1,2]:List Int)),(lit ([3,4,5]:List Int))]:List (List Int))).map (eL 1 (eK .i64)))] ?_;refine aB fun k1 hk1=>?_;obtain ⟨hg1a,hm⟩:=gd hm;refine az [19,20,21,22,23,24] fun k kp hk hp=>?_
 refine gox (em (eL 1 eS) (lit ([(lit ([([111,114]:List UInt8),([120,111,114]:List UInt8)]:List (List UInt8))),(lit ([([97,110,100]:List UInt8)]:List (List UInt8))),(lit ([([60]:List UInt8),([61,61]:List UInt8)]:List (List UInt8))),(lit ([([43]:List UInt8),([45]:List UInt8)]:List (List UInt8))),(lit ([([42]:List UInt8),([47]:List UInt8),([37]:List UInt8)]:List (List UInt8)))]:List (List (List UInt8)))) p1.toNat) ?_;obtain ⟨y1,hc2,hm⟩:=bd hm;refine RA (aM ((lit ([(lit ([([111,114]:List UInt8),([120,111,114]:List UInt8)]:List (List UInt8))),(lit ([([97,110,100]:List UInt8)]:List (List UInt8))),(lit ([([60]:List UInt8),([61,61]:List UInt8)]:List (List UInt8))),(lit ([([43]:List UInt8),([45]:List UInt8)]:List (List UInt8))),(lit ([([42]:List UInt8),([47]:List UInt8),([37]:List UInt8)]:List (List UInt8)))]:List (List (List UInt8)))).getD p1.toNat default) p2  _ hc2) [0] ?_;rintro p σ' ⟨rfl,rfl⟩ _;refine aa ?_;refine go ?_;refine hk _ _ ?_;clear hk hp k kp
 by_cases h4:y1=true
 ·rw [iP h4] at hm;refine ak rfl (by rw [show y1=true from (h4)];rfl) ?_;refine ar ?_;refine ax (hk1 _ _ ?_);obtain ⟨hg5a,hm⟩:=gd hm;refine n9 [0,1,5,6,25,26,27,28,29,30,31,32,33,34,35,36,37,38,39,40,41,42,43] (by kernel_rfl) [0,0,3,7,0,0,48,112,0,256,768,1792,3840,7936,16128,32752,65535,131071,262143] [false,false,false,false,false,false,false,false,false,false,false,false,false,false,false,false,true,true,true] (by kernel_rfl) fun k hk=>?_;refine gax (a2 (em (eL 1 (eK .i64)) (lit ([(lit ([11,12]:List Int)),(lit ([10]:List Int)),(lit ([8,9]:List Int)),(lit ([1,2]:List Int)),(lit ([3,4,5]:List Int))]:List (List Int))) p1.toNat) (a2 (em (eL 1 eS) (lit ([(lit ([([111,114]:List UInt8),([120,111,114]:List UInt8)]:List (List UInt8))),(lit ([([97,110,100]:List UInt8)]:List (List UInt8))),(lit ([([60]:List UInt8),([61,61]:List UInt8)]:List (List UInt8))),(lit ([([43]:List UInt8),([45]:List UInt8)]:List (List UInt8))),(lit ([([42]:List UInt8),([47]:List UInt8),([37]:List UInt8)]:List (List UInt8)))]:List (List (List UInt8)))) p1.toNat) (em ab.enc p2.l 0))) ?_;obtain ⟨y2,hc6,hm⟩:=bd hm;refine AP (fun _=>hN ((lit ([(lit ([([111,114]:List UInt8),([120,111,114]:List UInt8)]:List (List UInt8))),(lit ([([97,110,100]:List UInt8)]:List (List UInt8))),(lit ([([60]:List UInt8),([61,61]:List UInt8)]:List (List UInt8))),(lit ([([43]:List UInt8),([45]:List UInt8)]:List (List UInt8))),(lit ([([42]:List UInt8),([47]:List UInt8),([37]:List UInt8)]:List (List UInt8)))]:List (List (List UInt8)))).getD p1.toNat default) ((p2.l.getD 0 default).text) _ hc6) ?_;obtain ⟨hg7a,hm⟩:=gd hm
  try simp only [jp,List.length_cons,List.length_nil] at hg7a
  refine gax (em (eK .i64) ((lit ([(lit ([11,12]:List Int)),(lit ([10]:List Int)),(lit ([8,9]:List Int)),(lit ([1,2]:List Int)),(lit ([3,4,5]:List Int))]:List (List Int))).getD p1.toNat default) y2.toNat) ?_;refine hk _ _ ?_;clear hk k;refine aA ?_
  cases hm
  exact kr 1
 ·rw [iN h4] at hm;refine aj rfl (by rw [show y1=false from (fB h4)];rfl) ?_;refine aq [0,1,5,6,25] ?_;refine aA ?_;refine bi ?_
  cases hm
  exact kr 1
theorem mg(fuel:Nat)(rcf:Int→ae→Option ((af×(List ab)×Int×Int) ⊕ (Int×Int)))(hrec:∀ (p1:Int) (p2:ae) (r:(af×(List ab)×Int×Int) ⊕ (Int×Int)),rcf p1 p2=some r→cF Tryz.prog 91 [.c (.optr 0 0),.c (.int .i64 p1)] [.box [.tree 4 (p2.l.map ab.enc),.int .i64 p2.end_,.int .i64 p2.open_,.int .i64 p2.terms]] (fun p σ=>(Sum.elim (fun z=>(p=.a [.int .i64 ((z.1).op),.int .i64 ((z.1).k),.int .i64 ((z.1).n),.str ((z.1).name),.tree 1 (((z.1).s).map (eL 2 am.enc)),.tree 6 (((z.1).l).map af.enc)]∧σ=[.box [.tree 4 (z.2.1.map ab.enc),.int .i64 p2.end_,.int .i64 z.2.2.1,.int .i64 z.2.2.2]])) (fun z=>False)) r) (fun p _=>(Sum.elim (fun z=>False) (fun z=>p=.c (.ifc 50 true (nsC [(.i64,z.1),(.i64,z.2)])))) r))(p1:Int)(p2:ae)(r:(af×(List ab)×Int×Int) ⊕ (Int×Int))(hm:gr fuel rcf p1 p2=some r):cF Tryz.prog 91 [.c (.optr 0 0),.c (.int .i64 p1)] [.box [.tree 4 (p2.l.map ab.enc),.int .i64 p2.end_,.int .i64 p2.open_,.int .i64 p2.terms]] (fun p σ=>(Sum.elim (fun z=>(p=.a [.int .i64 ((z.1).op),.int .i64 ((z.1).k),.int .i64 ((z.1).n),.str ((z.1).name),.tree 1 (((z.1).s).map (eL 2 am.enc)),.tree 6 (((z.1).l).map af.enc)]∧σ=[.box [.tree 4 (z.2.1.map ab.enc),.int .i64 p2.end_,.int .i64 z.2.2.1,.int .i64 z.2.2.2]])) (fun z=>False)) r) (fun p _=>(Sum.elim (fun z=>False) (fun z=>p=.c (.ifc 50 true (nsC [(.i64,z.1),(.i64,z.2)])))) r):=by
 refine aF 38 [.cell 4 49] Tryz.func91 rfl rfl rfl (by kernel_rfl) (by simp) ?_;refine bJ ?_;unfold gr at hm;refine aq [] ?_;refine aB fun k1 hk1=>?_;refine aq [7] ?_
 by_cases h1:p1=5
 ·rw [iP h1] at hm;refine aj rfl (eQ h1) ?_;refine az [0,1,8,9,10] fun k kp hk hp=>?_;refine go ?_;obtain ⟨y1,hc2,hm⟩:=bd hm
  refine ap (mH fuel rcf hrec p2  _ hc2) [0] (by first|trivial|exact aJ rfl) (by first|trivial|(intro _;first|trivial|simp [au])|simp [au]) (by simp) (by simp) rfl rfl (by first|trivial|(simp [bX,eK,eB,eS,eL,av,ai,PV.under,CV.under,ag,OB.under,ah];done)) (by first|trivial|(simp [bX,eK,eB,eS,eL,av,ai,PV.under,CV.under,ag,OB.under,ah];done)) ?_ ?_
  rotate_left
  ·rintro p σ' hpp hpl
   rcases y1 with y2|y3
   ·exact False.elim hpp
   simp only [Sum.elim_inl,Sum.elim_inr] at hm hpp;subst hpp;refine hp _ _ _ ?_;refine cr ?_;obtain rfl:=sI hm;exact rfl
  rintro p σ' hq3 _
  rcases y1 with y4|y5
  ·skip;simp only [Sum.elim_inl,Sum.elim_inr] at hm hq3
   obtain ⟨rfl,rfl⟩:=hq3;refine aa ?_;refine go ?_;refine hk _ _ ?_;clear hk hp k kp;refine aA ?_;refine bi ?_
   cases hm
   exact kr 1
  ·skip;exact False.elim hq3
 ·rw [iN h1] at hm;refine ak rfl (nB h1) ?_;refine ar ?_;refine ax (hk1 _ _ ?_);refine az [8,11,12,13,14] fun k kp hk hp=>?_;refine go ?_;obtain ⟨y6,hc4,hm⟩:=bd hm
  refine ap (hrec (IntKind.wrap .i64 (p1+1)) p2  _ hc4) [0] (by first|trivial|exact aJ rfl) (by first|trivial|(intro _;first|trivial|simp [au])|simp [au]) (by simp) (by simp) rfl rfl (by first|trivial|(simp [bX,eK,eB,eS,eL,av,ai,PV.under,CV.under,ag,OB.under,ah];done)) (by first|trivial|(simp [bX,eK,eB,eS,eL,av,ai,PV.under,CV.under,ag,OB.under,ah];done)) ?_ ?_
  rotate_left
  ·rintro p σ' hpp hpl
   rcases y6 with y7|y8
   ·exact False.elim hpp
   simp only [Sum.elim_inl,Sum.elim_inr] at hm hpp;subst hpp;refine hp _ _ _ ?_;obtain rfl:=sI hm;exact rfl
  rintro p σ' hq5 _
  rcases y6 with y9|y10
  ·skip;simp only [Sum.elim_inl,Sum.elim_inr] at hm hq5
   obtain ⟨rfl,rfl⟩:=hq5;refine aa ?_;refine go ?_;refine hk _ _ ?_;clear hk hp k kp;refine bk (S:=((List ab)×Int×Int×Int×Int×Int×(List UInt8)×(List (List am))×(List af))) (V:=Unit) [0,1,6,15,16,17,18,19,20,21,22,23,24,25,26,27,28,29,30,31,32,33,34,35,36] (fun (l11,x12,x13,x14,x15,x16,s17,l18,l19) _=>[]) (fun (l11,x12,x13,x14,x15,x16,s17,l18,l19) _=>[.box [.tree 4 (l11.map ab.enc),.int .i64 p2.end_,.int .i64 x12,.int .i64 x13],.box [.int .i64 0,.int .i64 0,.int .i64 0,.str [],.nils,.nils],.box [.int .i64 x14,.int .i64 x15,.int .i64 x16,.str s17,.tree 1 (l18.map (eL 2 am.enc)),.tree 6 (l19.map af.enc)]]) (fun (l11,x12,x13,x14,x15,x16,s17,l18,l19)=>cY l11 x12 x13 x14 x15 x16 s17 l18 l19=some r) ?_ ?_
   ·skip;refine az [15,16,17] fun k kp hk hp=>?_
    refine go ?_;obtain ⟨y20,hc6,hm⟩:=bd hm;refine RA (kK p1 (ae.mk y9.2.1 p2.end_ y9.2.2.1 y9.2.2.2)  _ hc6) [0] ?_;rintro p σ' ⟨rfl,rfl⟩ _;refine aa ?_;refine go ?_;refine hk _ _ ?_;clear hk hp k kp;refine aK ?_;obtain ⟨o1,hl1,hm1⟩:=bd hm;refine bQ (S:=((List ab)×Int×Int×Int×Int×Int×(List UInt8)×(List (List am))×(List af)×Int)) (V:=Unit) (O:=((List ab)×Int×Int×Int×Int×Int×(List UInt8)×(List (List am))×(List af)) ⊕ ((af×(List ab)×Int×Int) ⊕ (Int×Int))) [6,18,19,20,21,22,23,24,25,26,27,28,29,30,31,32,33,34,35,36] (fun (l41,x42,x43,x44,x45,x46,s47,l48,l49,x50) _=>[(6,.c (.int .i64 x50))]) (fun (l41,x42,x43,x44,x45,x46,s47,l48,l49,x50) _=>[.box [.tree 4 (l41.map ab.enc),.int .i64 p2.end_,.int .i64 x42,.int .i64 x43],.box [.int .i64 0,.int .i64 0,.int .i64 0,.str [],.nils,.nils],.box [.int .i64 x44,.int .i64 x45,.int .i64 x46,.str s47,.tree 1 (l48.map (eL 2 am.enc)),.tree 6 (l49.map af.enc)]]) _ _ () hl1 ?_ ?_
    ·exact ls
    ·rintro ⟨l41,x42,x43,x44,x45,x46,s47,l48,l49,x50⟩ _ r1 hm hr1;replace hm:fW rcf p1 p2 l41 x42 x43 x44 x45 x46 s47 l48 l49 x50=some r1:=hm;refine bm ?_;unfold fW at hm;refine aB fun k2 hk2=>?_;refine aq [18] ?_
     by_cases h8:¬ x50=0
     ·rw [iP h8] at hm;refine aj rfl (bne_iff_ne.2 h8) ?_;refine ar ?_;refine ax (hk2 _ _ ?_);refine aB fun k3 hk3=>?_;refine aK ?_;refine az [19,23,24] fun k kp hk hp=>?_;refine go ?_;obtain ⟨y51,hc9,hm⟩:=bd hm;refine RA (a8 (ae.mk l41 p2.end_ x42 x43)  _ hc9) [0] ?_;rintro p σ' ⟨rfl,rfl⟩ _;refine aa ?_;refine go ?_;refine hk _ _ ?_;clear hk hp k kp;obtain ⟨y52,hc11,hm⟩:=bd hm
      rcases y52 with y53|y54
      ·skip;simp only [Sum.elim_inl,Sum.elim_inr] at hm
       refine tQ [6,25,26,27,28,29,30,31,32,33,34] (by kernel_rfl) [0] [0,0,0,0,0,16,56,124,254,511,1023] [false,false,false,false,false,false,false,false,false,true,true] [false,false,false,false,false,false,true,false,false,false,false] [[0],[6],[5],[],[],[],[],[],[],[],[]] [true,false,false,false,false,false,false,false,false,false,false] (by kernel_rfl) fun k hk=>?_
       refine tP (uD rfl (by first|rfl|(simp only [bR,bT,tab,bX,reduceIte,↓reduceIte,reduceCtorEq,Int.reduceToNat,Nat.reduceDiv,Nat.reduceMod,Nat.reduceLT,Nat.reduceLeDiff,Nat.reduceAdd,Nat.reduceSub,Nat.reduceMul,Nat.reduceEqDiff,Nat.reduceBEq,Nat.reduceBNe,Nat.reduceGT];done))) (by first|rfl|(simp only [bA,bT,tab,bX,reduceIte,↓reduceIte,reduceCtorEq,Int.reduceToNat,Nat.reduceDiv,Nat.reduceMod,Nat.reduceLT,Nat.reduceLeDiff,Nat.reduceAdd,Nat.reduceSub,Nat.reduceMul,Nat.reduceEqDiff,Nat.reduceBEq,Nat.reduceBNe,Nat.reduceGT];done)) (by first|trivial|exact aJ rfl) ?_
       refine gl ?_;refine rS rfl ?_;refine gp ?_
       refine dK (σ2:=[.box [.tree 4 (y53.2.1.map ab.enc),.int .i64 p2.end_,.int .i64 y53.2.2.1,.int .i64 y53.2.2.2],.box [.int .i64 0,.int .i64 0,.int .i64 0,.str [],.nils,.nils],.box [.int .i64 x44,.int .i64 x45,.int .i64 x46,.str s47,.tree 1 (l48.map (eL 2 am.enc)),.tree 6 (l49.map af.enc)]]) (res:=.a [.int .i64 ((y53.1).op),.int .i64 ((y53.1).k),.int .i64 ((y53.1).n),.str ((y53.1).name),.tree 1 (((y53.1).s).map (eL 2 am.enc)),.tree 6 (((y53.1).l).map af.enc)]) ⟨_,_,_,_,[0],hrec (IntKind.wrap .i64 (p1+1)) (ae.mk y51.2 p2.end_ x42 x43)  _ hc11,by simp,by simp,by first|rfl|(simp [PV.ren,CV.ren,CV.ren0,cS,lit];omega),rfl,by first|trivial|(simp [bX,eK,eB,eS,eL,av,ai,PV.under,CV.under,ag,OB.under,ah];done),by first|trivial|(simp [bX,eK,eB,eS,eL,av,ai,PV.under,CV.under,ag,OB.under,ah];done),fun q τ hq _=>by obtain ⟨rfl,rfl⟩:=hq;exact ⟨rfl,rfl⟩,fun _ _ h=>False.elim h⟩ (by first|trivial|exact aJ rfl) (by first|trivial|(intro _;first|trivial|simp [au])|simp [au]) ⟨rfl,by simp only [jW];and_intros<;>first|exact .inl rfl|exact .inr rfl|trivial⟩ ?_
       refine gp ?_;obtain ⟨y55,hc12,hm⟩:=bd hm
       refine lF (σ2:=[.box [.tree 4 (y53.2.1.map ab.enc),.int .i64 p2.end_,.int .i64 y53.2.2.1,.int .i64 y55.2.2.2.2.2],.box [.int .i64 0,.int .i64 0,.int .i64 0,.str [],.nils,.nils],.box [.int .i64 x44,.int .i64 x45,.int .i64 x46,.str s47,.tree 1 (l48.map (eL 2 am.enc)),.tree 6 (l49.map af.enc)],.arr 6 0 49 ((lit ([(af.mk x44 x45 x46 s47 l48 l49),(y53.1)]:List af)).map af.enc)]) (res:=.a [.int .i64 y55.1,.int .i64 y55.2.1,.int .i64 y55.2.2.1,.str y55.2.2.2.1,.tree 1 (y55.2.2.2.2.1.map (eL 2 am.enc)),.osl 3 0 0 ((lit ([(af.mk x44 x45 x46 s47 l48 l49),(y53.1)]:List af)).length)]) ⟨_,_,_,_,[0,3],ff 5 x50 0 [] (ae.mk y53.2.1 p2.end_ y53.2.2.1 y53.2.2.2) (lit ([(af.mk x44 x45 x46 s47 l48 l49),(y53.1)]:List af)) 0 _ hc12,by simp,by simp,rfl,(by first|rfl|(simp only [lit,List.map_cons,List.map_nil,bX,eK,eB,eS,eL];rfl)),by first|trivial|(simp [bX,eK,eB,eS,eL,av,ai,PV.under,CV.under,ag,OB.under,ah];done),by first|trivial|(simp [bX,eK,eB,eS,eL,av,ai,PV.under,CV.under,ag,OB.under,ah];done),fun q τ hq _=>by obtain ⟨rfl,rfl⟩:=hq;exact ⟨rfl,rfl⟩,fun _ _ h=>h.elim⟩ (by first|trivial|exact aJ rfl) (by first|trivial|(intro _;first|trivial|simp [au])|simp [au]) (by first|exact .inl rfl|exact .inr (by simp only [n8];and_intros<;>first|rfl|trivial|(simp only [lit,List.map_cons,List.map_nil,bX,eK,eB,eS,eL]))) ?_
       refine gp ?_;refine hk _ _ ?_;clear hk k;refine jN [.box [.tree 4 (y53.2.1.map ab.enc),.int .i64 p2.end_,.int .i64 y53.2.2.1,.int .i64 y55.2.2.2.2.2],.box [.int .i64 0,.int .i64 0,.int .i64 0,.str [],.nils,.nils],.box [.int .i64 y55.1,.int .i64 y55.2.1,.int .i64 y55.2.2.1,.str y55.2.2.2.1,.tree 1 (y55.2.2.2.2.1.map (eL 2 am.enc)),.osl 3 0 0 ((lit ([(af.mk x44 x45 x46 s47 l48 l49),(y53.1)]:List af)).length)],.arr 6 0 49 ((lit ([(af.mk x44 x45 x46 s47 l48 l49),(y53.1)]:List af)).map af.enc)] ?_;refine aq [35] ?_
       by_cases h13:p1=2
       ·rw [iP h13] at hm;refine aj rfl (eQ h13) ?_;refine cj ?_;have ho14:=aD hm hr1;subst ho14;replace hm:cY y53.2.1 y53.2.2.1 y55.2.2.2.2.2 y55.1 y55.2.1 y55.2.2.1 y55.2.2.2.1 y55.2.2.2.2.1 (lit ([(af.mk x44 x45 x46 s47 l48 l49),(y53.1)]:List af))=some r:=hm1;refine ve (by decide) ?_;refine bP (bx (aX ?_));refine nc (aG 3 rfl) ?_;refine gz ?_;refine an (y53.2.1,y53.2.2.1,y55.2.2.2.2.2,y55.1,y55.2.1,y55.2.2.1,y55.2.2.2.1,y55.2.2.2.2.1,(lit ([(af.mk x44 x45 x46 s47 l48 l49),(y53.1)]:List af))) () hm ?_;exact ls
       ·rw [iN h13] at hm;refine ak rfl (nB h13) ?_;refine ar ?_;refine aW ?_;refine ax (hk3 _ _ ?_);refine bB fun k kp hk hp=>?_;refine go ?_;obtain ⟨y56,hc15,hm⟩:=bd hm;refine RA (kK p1 (ae.mk y53.2.1 p2.end_ y53.2.2.1 y55.2.2.2.2.2)  _ hc15) [0] ?_;rintro p σ' ⟨rfl,rfl⟩ _;refine aa ?_;refine go ?_;refine hk _ _ ?_;clear hk hp k kp;refine vh (aG 3 rfl) ?_;refine gz ?_;refine bw (y53.2.1,y53.2.2.1,y55.2.2.2.2.2,y55.1,y55.2.1,y55.2.2.1,y55.2.2.2.1,y55.2.2.2.2.1,(lit ([(af.mk x44 x45 x46 s47 l48 l49),(y53.1)]:List af)),y56) () hm ?_;exact ls
      ·skip;simp only [Sum.elim_inl,Sum.elim_inr] at hm
       refine kJ ?_;refine nU 6 [] [false,false,false,false,false,false,false,false,false,true,true] [] _ rfl ?_;simp only [List.take_succ_cons,List.take_zero];refine ga ?_
       refine ⟨_,_,_,_,[0],hrec (IntKind.wrap .i64 (p1+1)) (ae.mk y51.2 p2.end_ x42 x43)  _ hc11,by simp,by simp,rfl,rfl,by first|trivial|(simp [bX,eK,eB,eS,eL,av,ai,PV.under,CV.under,ag,OB.under,ah];done),by first|trivial|(simp [bX,eK,eB,eS,eL,av,ai,PV.under,CV.under,ag,OB.under,ah];done),fun q τ h=>False.elim h,?_⟩
       rintro p σ' hpp hpl;simp only [Sum.elim_inl,Sum.elim_inr] at hpp;subst hpp;have ho17:=aD hm hr1;subst ho17;replace hm:some (.inr (y54.1,y54.2))=some r:=hm1;refine cr ?_;refine be ?_;refine cr ?_;refine cG ?_;refine be ?_;refine bI ?_;obtain rfl:=sI hm;exact rfl
     ·rw [iN h8] at hm;refine ak rfl (bne_eq_false_iff_eq.2 (Decidable.not_not.1 h8)) ?_;refine cj ?_;have ho18:=aD hm hr1;subst ho18;replace hm:cY l41 x42 x43 x44 x45 x46 s47 l48 l49=some r:=hm1;refine bP (bx (aX ?_));refine an (l41,x42,x43,x44,x45,x46,s47,l48,l49) () hm ?_;exact ls
   ·rintro ⟨l11,x12,x13,x14,x15,x16,s17,l18,l19⟩ _ hm;replace hm:cY l11 x12 x13 x14 x15 x16 s17 l18 l19=some r:=hm;refine bm ?_;unfold cY at hm;refine aq [5,37] ?_;refine aA ?_
    cases hm
    exact kr 1
  ·skip;exact False.elim hq5
theorem mX(fuel:Nat)(p1:Int)(p2:ae)(r:(af×(List ab)×Int×Int) ⊕ (Int×Int))(hm:jz fuel p1 p2=some r):cF Tryz.prog 91 [.c (.optr 0 0),.c (.int .i64 p1)] [.box [.tree 4 (p2.l.map ab.enc),.int .i64 p2.end_,.int .i64 p2.open_,.int .i64 p2.terms]] (fun p σ=>(Sum.elim (fun z=>(p=.a [.int .i64 ((z.1).op),.int .i64 ((z.1).k),.int .i64 ((z.1).n),.str ((z.1).name),.tree 1 (((z.1).s).map (eL 2 am.enc)),.tree 6 (((z.1).l).map af.enc)]∧σ=[.box [.tree 4 (z.2.1.map ab.enc),.int .i64 p2.end_,.int .i64 z.2.2.1,.int .i64 z.2.2.2]])) (fun z=>False)) r) (fun p _=>(Sum.elim (fun z=>False) (fun z=>p=.c (.ifc 50 true (nsC [(.i64,z.1),(.i64,z.2)])))) r):=by
  have key:∀ (n:Nat) (p1:Int) (p2:ae) (r:(af×(List ab)×Int×Int) ⊕ (Int×Int)),dV fuel n p1 p2=some r→cF Tryz.prog 91 [.c (.optr 0 0),.c (.int .i64 p1)] [.box [.tree 4 (p2.l.map ab.enc),.int .i64 p2.end_,.int .i64 p2.open_,.int .i64 p2.terms]] (fun p σ=>(Sum.elim (fun z=>(p=.a [.int .i64 ((z.1).op),.int .i64 ((z.1).k),.int .i64 ((z.1).n),.str ((z.1).name),.tree 1 (((z.1).s).map (eL 2 am.enc)),.tree 6 (((z.1).l).map af.enc)]∧σ=[.box [.tree 4 (z.2.1.map ab.enc),.int .i64 p2.end_,.int .i64 z.2.2.1,.int .i64 z.2.2.2]])) (fun z=>False)) r) (fun p _=>(Sum.elim (fun z=>False) (fun z=>p=.c (.ifc 50 true (nsC [(.i64,z.1),(.i64,z.2)])))) r):=by
    intro n
    induction n with
    |zero =>
      intro p1 p2  r hm;simp [dV] at hm
    |succ n ih =>
      intro p1 p2  r hm;exact mg fuel (dV fuel n) ih p1 p2  r hm
  exact key fuel p1 p2  r hm
theorem j6(fuel:Nat)(p1:ae)(r:(af×(List ab)×Int×Int) ⊕ (Int×Int))(hm:eT fuel p1=some r):cF Tryz.prog 76 [.c (.optr 0 0)] [.box [.tree 4 (p1.l.map ab.enc),.int .i64 p1.end_,.int .i64 p1.open_,.int .i64 p1.terms]] (fun p σ=>(Sum.elim (fun z=>(p=.a [.int .i64 ((z.1).op),.int .i64 ((z.1).k),.int .i64 ((z.1).n),.str ((z.1).name),.tree 1 (((z.1).s).map (eL 2 am.enc)),.tree 6 (((z.1).l).map af.enc)]∧σ=[.box [.tree 4 (z.2.1.map ab.enc),.int .i64 p1.end_,.int .i64 z.2.2.1,.int .i64 z.2.2.2]])) (fun z=>False)) r) (fun p _=>(Sum.elim (fun z=>False) (fun z=>p=.c (.ifc 50 true (nsC [(.i64,z.1),(.i64,z.2)])))) r):=by
 refine aF 36 [.cell 2 49] Tryz.func76 rfl rfl rfl (by kernel_rfl) (by simp) ?_;refine bJ ?_;unfold eT at hm;refine aq [] ?_;refine aq [5,6,7,8] ?_;refine bk (S:=Int) (V:=Unit) [3,9,10,11,12,13,14,15,16,17,18,19,20,21] (fun x1 _=>[(3,.c (.int .i64 x1))]) (fun x1 _=>[.box [.tree 4 (p1.l.map ab.enc),.int .i64 p1.end_,.int .i64 p1.open_,.int .i64 p1.terms],.box [.int .i64 0,.int .i64 0,.int .i64 0,.str [],.nils,.nils]]) (fun x1=>dC fuel p1 x1=some r) ?_ ?_
 ·skip;refine aq [9,10,11,12,13] ?_
  by_cases h4:(p1.l.length:Int)>0
  ·rw [iP h4] at hm;refine aj rfl (dT h4) ?_;obtain ⟨hg5a,hm⟩:=gd hm;refine wI (em ab.enc p1.l 0) ?_;refine an ((p1.l.getD 0 default).at_) () hm ?_;exact ls
  ·rw [iN h4] at hm;refine ak rfl (dF h4) ?_;refine ar ?_;refine an p1.end_ () hm ?_;exact ls
 ·rintro x1 _ hm;replace hm:dC fuel p1 x1=some r:=hm;refine bm ?_;unfold dC at hm;refine aq [22,23,24] ?_;refine az [25,26] fun k kp hk hp=>?_;refine go ?_;obtain ⟨y2,hc1,hm⟩:=bd hm
  refine ap (mX fuel 0 (ae.mk p1.l p1.end_ p1.open_ 0)  _ hc1) [0] (by first|trivial|exact aJ rfl) (by first|trivial|(intro _;first|trivial|simp [au])|simp [au]) (by simp) (by simp) rfl rfl (by first|trivial|(simp [bX,eK,eB,eS,eL,av,ai,PV.under,CV.under,ag,OB.under,ah];done)) (by first|trivial|(simp [bX,eK,eB,eS,eL,av,ai,PV.under,CV.under,ag,OB.under,ah];done)) ?_ ?_
  rotate_left
  ·rintro p σ' hpp hpl
   rcases y2 with y3|y4
   ·exact False.elim hpp
   simp only [Sum.elim_inl,Sum.elim_inr] at hm hpp;subst hpp;refine hp _ _ _ ?_;obtain rfl:=sI hm;exact rfl
  rintro p σ' hq2 _
  rcases y2 with y5|y6
  ·skip;simp only [Sum.elim_inl,Sum.elim_inr] at hm hq2
   obtain ⟨rfl,rfl⟩:=hq2;refine aa ?_;refine go ?_;refine hk _ _ ?_;clear hk hp k kp;refine aB fun k1 hk1=>?_;refine aq [0,27,28,29,30] ?_
   by_cases h3:y5.2.2.2>30
   ·rw [iP h3] at hm;refine aj rfl (dT h3) ?_;refine l6 fun k kp hk hp=>?_;refine aC 2 ?_;refine go ?_
    refine RS (pP (ns:=[(.i64,7),(.i64,x1)]) rfl (by first|rfl|(simp only [bR,bT,tab,bX,reduceIte,↓reduceIte,reduceCtorEq,Int.reduceToNat,Nat.reduceDiv,Nat.reduceMod,Nat.reduceLT,Nat.reduceLeDiff,Nat.reduceAdd,Nat.reduceSub,Nat.reduceMul,Nat.reduceEqDiff,Nat.reduceBEq,Nat.reduceBNe,Nat.reduceGT];done)) (by first|kernel_rfl|exact of_decide_eq_true (by kernel_rfl))) ?_
    simp only [bR,bT,tab,bX,reduceIte,↓reduceIte,reduceCtorEq,Int.reduceToNat,Nat.reduceDiv,Nat.reduceMod,Nat.reduceLT,Nat.reduceLeDiff,Nat.reduceAdd,Nat.reduceSub,Nat.reduceMul,Nat.reduceEqDiff,Nat.reduceBEq,Nat.reduceBNe,Nat.reduceGT]
    refine km rfl (by first|rfl|(simp only [bR,bT,tab,bX,reduceIte,↓reduceIte,reduceCtorEq,Int.reduceToNat,Nat.reduceDiv,Nat.reduceMod,Nat.reduceLT,Nat.reduceLeDiff,Nat.reduceAdd,Nat.reduceSub,Nat.reduceMul,Nat.reduceEqDiff,Nat.reduceBEq,Nat.reduceBNe,Nat.reduceGT];done)) (by first|rfl|(simp only [bR,bT,tab,bX,reduceIte,↓reduceIte,reduceCtorEq,Int.reduceToNat,Nat.reduceDiv,Nat.reduceMod,Nat.reduceLT,Nat.reduceLeDiff,Nat.reduceAdd,Nat.reduceSub,Nat.reduceMul,Nat.reduceEqDiff,Nat.reduceBEq,Nat.reduceBNe,Nat.reduceGT];done)) ?_
    refine hp _ _ _ ?_;refine cr ?_;obtain rfl:=sI hm;exact rfl
   ·rw [iN h3] at hm;refine ak rfl (dF h3) ?_;refine ar ?_;refine ax (hk1 _ _ ?_);refine aq [3,4,31,35] ?_;refine aA ?_
    cases hm
    exact kr 1
  ·skip;exact False.elim hq2
theorem mI(p1:Int)(p2:ae)(r:((List (List am))×(List ab)) ⊕ (Int×Int))(hm:ji p1 p2=some r):cF Tryz.prog 77 [.c (.optr 0 0),.c (.int .i64 p1),.c (.fn 4174 [.optr 0 0])] [.box [.tree 4 (p2.l.map ab.enc),.int .i64 p2.end_,.int .i64 p2.open_,.int .i64 p2.terms]] (fun p σ=>(Sum.elim (fun z=>(p=.c (.tree 1 (z.1.map (eL 2 am.enc)))∧σ=[.box [.tree 4 (z.2.map ab.enc),.int .i64 p2.end_,.int .i64 p2.open_,.int .i64 p2.terms]])) (fun z=>False)) r) (fun p _=>(Sum.elim (fun z=>False) (fun z=>p=.c (.ifc 50 true (nsC [(.i64,z.1),(.i64,z.2)])))) r):=by
 refine aF 23 [.tmp 6] Tryz.func77 rfl rfl rfl (by kernel_rfl) (by simp) ?_;refine bJ ?_;unfold ji at hm;refine aq [6] ?_;refine aq [] ?_;refine aK ?_;refine fT (jC 7 1 92 (by decide) rfl (Nat.le_of_ble_eq_true rfl)) ?_;refine pw ?_;obtain ⟨o1,hl1,hm1⟩:=bd hm;refine bQ (S:=((List ab)×(List (List am)))) (V:=Nat) (O:=((List (List am))×(List ab)) ⊕ (Int×Int)) [6,7,8,9,10,11,12,13,14,15,16,17,18,19,20,21,22] (fun (l13,l14) v15=>[(7,.c (.osl 1 v15 0 l14.length))]) (fun (l13,l14) v15=>[.box [.tree 4 (l13.map ab.enc),.int .i64 p2.end_,.int .i64 p2.open_,.int .i64 p2.terms],.arr 1 v15 92 (l14.map (eL 2 am.enc))]) _ _ 0 hl1 ?_ ?_
 ·exact ls
 ·rintro ⟨l13,l14⟩ v15 r1 hm hr1;replace hm:ik p1 p2 l13 l14=some r1:=hm;refine bm ?_;unfold ik at hm;refine aK ?_;refine aB fun k1 hk1=>?_;refine aq [8,9,10] ?_
  by_cases h1:(l14.length:Int)=p1
  ·rw [iP h1] at hm;refine aj rfl (eQ h1) ?_;refine bB fun k kp hk hp=>?_;refine go ?_;obtain ⟨y16,hc2,hm⟩:=bd hm
   refine ap (aP 7 (ae.mk l13 p2.end_ p2.open_ p2.terms)  _ hc2) [0] (by first|trivial|exact aJ rfl) (by first|trivial|(intro _;first|trivial|simp [au])|simp [au]) (by simp) (by simp) rfl rfl (by first|trivial|(simp [bX,eK,eB,eS,eL,av,ai,PV.under,CV.under,ag,OB.under,ah];done)) (by first|trivial|(simp [bX,eK,eB,eS,eL,av,ai,PV.under,CV.under,ag,OB.under,ah];done)) ?_ ?_
   rotate_left
   ·rintro p σ' hpp hpl;skip;subst hpp;have ho4:=aD hm hr1;subst ho4;replace hm:some (.inr (y16.1,y16.2))=some r:=hm1;refine hp _ _ _ ?_;refine cr ?_;refine be ?_;refine cG ?_;refine be ?_;obtain rfl:=sI hm;exact rfl
   rintro p σ' hq3 _;exact False.elim hq3
  ·rw [iN h1] at hm;refine ak rfl (nB h1) ?_;refine ar ?_;refine ax (hk1 _ _ ?_);refine az [11,14,15,16,17,18] fun k kp hk hp=>?_;refine go ?_;obtain ⟨y17,hc5,hm⟩:=bd hm
   refine ap (fY (ae.mk l13 p2.end_ p2.open_ p2.terms)  _ hc5) [0] (by first|trivial|exact aJ rfl) (by first|trivial|(intro _;first|trivial|simp [au])|simp [au]) (by simp) (by simp) rfl rfl (by first|trivial|(simp [bX,eK,eB,eS,eL,av,ai,PV.under,CV.under,ag,OB.under,ah];done)) (by first|trivial|(simp [bX,eK,eB,eS,eL,av,ai,PV.under,CV.under,ag,OB.under,ah];done)) ?_ ?_
   rotate_left
   ·rintro p σ' hpp hpl
    rcases y17 with y18|y19
    ·exact False.elim hpp
    simp only [Sum.elim_inl,Sum.elim_inr] at hm hpp;subst hpp;have ho7:=aD hm hr1;subst ho7;replace hm:some (.inr (y19.1,y19.2))=some r:=hm1;refine hp _ _ _ ?_;refine be ?_;refine cG ?_;refine be ?_;obtain rfl:=sI hm;exact rfl
   rintro p σ' hq6 _
   rcases y17 with y20|y21
   ·skip;simp only [Sum.elim_inl,Sum.elim_inr] at hm hq6
    obtain ⟨rfl,rfl⟩:=hq6;obtain ⟨⟨hg8ax,hg8ay⟩,hm⟩:=gd hm;refine aa ?_;refine go ?_;refine hk _ _ ?_;clear hk hp k kp;refine jN [.box [.tree 4 (y20.2.map ab.enc),.int .i64 p2.end_,.int .i64 p2.open_,.int .i64 p2.terms],.arr 1 (v15+1) 92 ((l14++(lit ([y20.1]:List (List am)))).map (eL 2 am.enc)),.arr 1 0 92 ((lit ([y20.1]:List (List am))).map (eL 2 am.enc))] ?_;refine az [19,20] fun k kp hk hp=>?_;refine go ?_;obtain ⟨y22,hc9,hm⟩:=bd hm;refine RA (ci ([44]:List UInt8) (ae.mk y20.2 p2.end_ p2.open_ p2.terms)  _ hc9) [0] ?_;rintro p σ' ⟨rfl,rfl⟩ _;refine aa ?_;refine go ?_;refine hk _ _ ?_;clear hk hp k kp
    by_cases h11:y22.1=true
    ·rw [iP h11] at hm;refine ak rfl (by rw [show y22.1=true from (h11)];rfl) ?_;refine ar ?_;refine aW ?_;refine bw (y22.2,(l14++(lit ([y20.1]:List (List am))))) (v15+1) hm ?_;exact ls
    ·rw [iN h11] at hm;refine aj rfl (by rw [show y22.1=false from (fB h11)];rfl) ?_;refine aq [0,1,2,7,21,22] ?_;refine kx (aG 1 rfl) ?_;have ho12:=aD hm hr1;subst ho12;replace hm:some (.inl ((l14++(lit ([y20.1]:List (List am)))),y22.2))=some r:=hm1;refine aA ?_;refine ao (aO (ao ?_))
     cases hm
     exact kr 1
   ·skip;exact False.elim hq6
theorem mJ(fuel:Nat)(p1:Int)(p2:ae)(r:((List af)×(List ab)×Int×Int) ⊕ (Int×Int))(hm:jj fuel p1 p2=some r):cF Tryz.prog 79 [.c (.optr 0 0),.c (.int .i64 p1),.c (.fn 4172 [.optr 0 0])] [.box [.tree 4 (p2.l.map ab.enc),.int .i64 p2.end_,.int .i64 p2.open_,.int .i64 p2.terms]] (fun p σ=>(Sum.elim (fun z=>(p=.c (.tree 6 (z.1.map af.enc))∧σ=[.box [.tree 4 (z.2.1.map ab.enc),.int .i64 p2.end_,.int .i64 z.2.2.1,.int .i64 z.2.2.2]])) (fun z=>False)) r) (fun p _=>(Sum.elim (fun z=>False) (fun z=>p=.c (.ifc 50 true (nsC [(.i64,z.1),(.i64,z.2)])))) r):=by
 refine aF 23 [.tmp 6] Tryz.func79 rfl rfl rfl (by kernel_rfl) (by simp) ?_;refine bJ ?_;unfold jj at hm;refine aq [6] ?_;refine aq [] ?_;refine aK ?_;refine fT (jC 7 6 49 (by decide) rfl (Nat.le_of_ble_eq_true rfl)) ?_;refine pw ?_;obtain ⟨o1,hl1,hm1⟩:=bd hm;refine bQ (S:=((List ab)×Int×Int×(List af))) (V:=Nat) (O:=((List af)×(List ab)×Int×Int) ⊕ (Int×Int)) [6,7,8,9,10,11,12,13,14,15,16,17,18,19,20,21,22] (fun (l17,x18,x19,l20) v21=>[(7,.c (.osl 1 v21 0 l20.length))]) (fun (l17,x18,x19,l20) v21=>[.box [.tree 4 (l17.map ab.enc),.int .i64 p2.end_,.int .i64 x18,.int .i64 x19],.arr 6 v21 49 (l20.map af.enc)]) _ _ 0 hl1 ?_ ?_
 ·exact ls
 ·rintro ⟨l17,x18,x19,l20⟩ v21 r1 hm hr1;replace hm:il fuel p1 p2 l17 x18 x19 l20=some r1:=hm;refine bm ?_;unfold il at hm;refine aK ?_;refine aB fun k1 hk1=>?_;refine aq [8,9,10] ?_
  by_cases h1:(l20.length:Int)=p1
  ·rw [iP h1] at hm;refine aj rfl (eQ h1) ?_;refine bB fun k kp hk hp=>?_;refine go ?_;obtain ⟨y22,hc2,hm⟩:=bd hm
   refine ap (aP 7 (ae.mk l17 p2.end_ x18 x19)  _ hc2) [0] (by first|trivial|exact aJ rfl) (by first|trivial|(intro _;first|trivial|simp [au])|simp [au]) (by simp) (by simp) rfl rfl (by first|trivial|(simp [bX,eK,eB,eS,eL,av,ai,PV.under,CV.under,ag,OB.under,ah];done)) (by first|trivial|(simp [bX,eK,eB,eS,eL,av,ai,PV.under,CV.under,ag,OB.under,ah];done)) ?_ ?_
   rotate_left
   ·rintro p σ' hpp hpl;skip;subst hpp;have ho4:=aD hm hr1;subst ho4;replace hm:some (.inr (y22.1,y22.2))=some r:=hm1;refine hp _ _ _ ?_;refine cr ?_;refine be ?_;refine cG ?_;refine be ?_;obtain rfl:=sI hm;exact rfl
   rintro p σ' hq3 _;exact False.elim hq3
  ·rw [iN h1] at hm;refine ak rfl (nB h1) ?_;refine ar ?_;refine ax (hk1 _ _ ?_);refine az [11,14,15,16,17,18] fun k kp hk hp=>?_;refine go ?_;obtain ⟨y23,hc5,hm⟩:=bd hm
   refine ap (j6 fuel (ae.mk l17 p2.end_ x18 x19)  _ hc5) [0] (by first|trivial|exact aJ rfl) (by first|trivial|(intro _;first|trivial|simp [au])|simp [au]) (by simp) (by simp) rfl rfl (by first|trivial|(simp [bX,eK,eB,eS,eL,av,ai,PV.under,CV.under,ag,OB.under,ah];done)) (by first|trivial|(simp [bX,eK,eB,eS,eL,av,ai,PV.under,CV.under,ag,OB.under,ah];done)) ?_ ?_
   rotate_left
   ·rintro p σ' hpp hpl
    rcases y23 with y24|y25
    ·exact False.elim hpp
    simp only [Sum.elim_inl,Sum.elim_inr] at hm hpp;subst hpp;have ho7:=aD hm hr1;subst ho7;replace hm:some (.inr (y25.1,y25.2))=some r:=hm1;refine hp _ _ _ ?_;refine be ?_;refine cG ?_;refine be ?_;obtain rfl:=sI hm;exact rfl
   rintro p σ' hq6 _
   rcases y23 with y26|y27
   ·skip;simp only [Sum.elim_inl,Sum.elim_inr] at hm hq6
    obtain ⟨rfl,rfl⟩:=hq6;obtain ⟨⟨hg8ax,hg8ay⟩,hm⟩:=gd hm;refine aa ?_;refine go ?_;refine hk _ _ ?_;clear hk hp k kp;refine jN [.box [.tree 4 (y26.2.1.map ab.enc),.int .i64 p2.end_,.int .i64 y26.2.2.1,.int .i64 y26.2.2.2],.arr 6 (v21+1) 49 ((l20++(lit ([(y26.1)]:List af))).map af.enc),.arr 6 0 49 ((lit ([(y26.1)]:List af)).map af.enc)] ?_;refine az [19,20] fun k kp hk hp=>?_;refine go ?_;obtain ⟨y28,hc9,hm⟩:=bd hm;refine RA (ci ([44]:List UInt8) (ae.mk y26.2.1 p2.end_ y26.2.2.1 y26.2.2.2)  _ hc9) [0] ?_;rintro p σ' ⟨rfl,rfl⟩ _;refine aa ?_;refine go ?_;refine hk _ _ ?_;clear hk hp k kp
    by_cases h11:y28.1=true
    ·rw [iP h11] at hm;refine ak rfl (by rw [show y28.1=true from (h11)];rfl) ?_;refine ar ?_;refine aW ?_;refine bw (y28.2,y26.2.2.1,y26.2.2.2,(l20++(lit ([(y26.1)]:List af)))) (v21+1) hm ?_;exact ls
    ·rw [iN h11] at hm;refine aj rfl (by rw [show y28.1=false from (fB h11)];rfl) ?_;refine aq [0,1,2,7,21,22] ?_;refine kx (aG 1 rfl) ?_;have ho12:=aD hm hr1;subst ho12;replace hm:some (.inl ((l20++(lit ([(y26.1)]:List af))),y28.2,y26.2.2.1,y26.2.2.2))=some r:=hm1;refine aA ?_;refine ao (aO (ao ?_))
     cases hm
     exact kr 1
   ·skip;exact False.elim hq6
theorem kL(fuel:Nat)(p1:ae)(r:(TEq×(List ab)×Int×Int) ⊕ (Int×Int))(hm:i8 fuel p1=some r):cF Tryz.prog 53 [.c (.optr 0 0)] [.box [.tree 4 (p1.l.map ab.enc),.int .i64 p1.end_,.int .i64 p1.open_,.int .i64 p1.terms]] (fun p σ=>(Sum.elim (fun z=>(p=.a [.int .i64 ((z.1).at_),.tree 1 (((z.1).names).map eS),.str ((z.1).node),.tree 1 (((z.1).s).map (eL 2 am.enc)),.tree 6 (((z.1).e).map af.enc)]∧σ=[.box [.tree 4 (z.2.1.map ab.enc),.int .i64 p1.end_,.int .i64 z.2.2.1,.int .i64 z.2.2.2]])) (fun z=>False)) r) (fun p _=>(Sum.elim (fun z=>False) (fun z=>p=.c (.ifc 50 true (nsC [(.i64,z.1),(.i64,z.2)])))) r):=by
 refine aF 67 [.cell 2 47] Tryz.func53 rfl rfl rfl (by kernel_rfl) (by simp) ?_;refine bJ ?_;unfold i8 at hm;refine aq [] ?_;obtain ⟨hg1a,hm⟩:=gd hm;refine et (em ab.enc p1.l 0) [4,5,6,7,8,9,10,11] ?_;refine az [12,13,14,15,16] fun k kp hk hp=>?_;refine go ?_;obtain ⟨y1,hc2,hm⟩:=bd hm
 refine ap (kA 30 p1  _ hc2) [0] (by first|trivial|exact aJ rfl) (by first|trivial|(intro _;first|trivial|simp [au])|simp [au]) (by simp) (by simp) rfl rfl (by first|trivial|(simp [bX,eK,eB,eS,eL,av,ai,PV.under,CV.under,ag,OB.under,ah];done)) (by first|trivial|(simp [bX,eK,eB,eS,eL,av,ai,PV.under,CV.under,ag,OB.under,ah];done)) ?_ ?_
 rotate_left
 ·rintro p σ' hpp hpl
  rcases y1 with y2|y3
  ·exact False.elim hpp
  simp only [Sum.elim_inl,Sum.elim_inr] at hm hpp;subst hpp;refine hp _ _ _ ?_;obtain rfl:=sI hm;exact rfl
 rintro p σ' hq3 _
 rcases y1 with y4|y5
 ·skip;simp only [Sum.elim_inl,Sum.elim_inr] at hm hq3
  obtain ⟨rfl,rfl⟩:=hq3;refine aa ?_;refine go ?_;refine hk _ _ ?_;clear hk hp k kp;refine az [17,18,19] fun k kp hk hp=>?_;refine go ?_;refine aE (aG 3 rfl) ?_;refine gt ?_;obtain ⟨y6,hc4,hm⟩:=bd hm
  refine ap (aQ (lit ([([61]:List UInt8)]:List (List UInt8))) (ae.mk y4.2 p1.end_ p1.open_ p1.terms)  _ hc4) [0] (by first|trivial|exact aJ rfl) (by first|trivial|(intro _;first|trivial|simp [au])|simp [au]) (by simp) (by simp) rfl rfl (by first|trivial|(simp [bX,eK,eB,eS,eL,av,ai,PV.under,CV.under,ag,OB.under,ah];done)) (by first|trivial|(simp [bX,eK,eB,eS,eL,av,ai,PV.under,CV.under,ag,OB.under,ah];done)) ?_ ?_
  rotate_left
  ·rintro p σ' hpp hpl
   rcases y6 with y7|y8
   ·exact False.elim hpp
   simp only [Sum.elim_inl,Sum.elim_inr] at hm hpp;subst hpp;refine hp _ _ _ ?_;obtain rfl:=sI hm;exact rfl
  rintro p σ' hq5 _
  rcases y6 with y9|y10
  ·skip;simp only [Sum.elim_inl,Sum.elim_inr] at hm hq5
   obtain ⟨rfl,rfl⟩:=hq5;refine aa ?_;refine go ?_;refine hk _ _ ?_;clear hk hp k kp;refine bk (S:=Unit) (V:=Unit) [20,21,22,23,24,25,26,27,28,29,30,31,32,33,34] (fun _ _=>[]) (fun _ _=>[.box [.tree 4 (y9.map ab.enc),.int .i64 p1.end_,.int .i64 p1.open_,.int .i64 p1.terms],.box [.int .i64 0,.nils,.str [],.nils,.nils],.box [.int .i64 ((p1.l.getD 0 default).at_),.tree 1 (y4.1.map eS),.str [],.nils,.nils],.dead]) (fun _=>ep fuel p1 y4 y9=some r) ?_ ?_
   ·skip;refine cM [20,21,22,23,24,25,26,27,28] fun k kp hk hp=>?_
    refine aC 5 ?_;refine go ?_
    by_cases h26:(y4.1.length:Int)=1
    ·rw [iP h26] at hm;have h26b:=eQ h26;refine aa ?_;refine gox h26b ?_;refine aE (aG 4 rfl) ?_;refine gtx h26b ?_;obtain ⟨y54,hc27,hm⟩:=bd hm;refine RA (aM (lit ([([99,97,108,108]:List UInt8)]:List (List UInt8))) (ae.mk y9 p1.end_ p1.open_ p1.terms)  _ hc27) [0] ?_;rintro p σ' ⟨rfl,rfl⟩ _;refine aa ?_;refine gox h26b ?_;refine hk _ _ ?_;clear hk hp k kp
     by_cases h29:y54=true
     ·rw [iP h29] at hm;refine ak rfl (by rw [show y54=true from (h29)];rfl) ?_;refine ar ?_;refine an () () hm ?_;exact ls
     ·rw [iN h29] at hm;refine aj rfl (by rw [show y54=false from (fB h29)];rfl) ?_;refine az [0,29,30,31,32,33] fun k kp hk hp=>?_;refine go ?_;obtain ⟨y55,hc30,hm⟩:=bd hm
      refine ap (j6 fuel (ae.mk y9 p1.end_ p1.open_ p1.terms)  _ hc30) [0] (by first|trivial|exact aJ rfl) (by first|trivial|(intro _;first|trivial|simp [au])|simp [au]) (by simp) (by simp) rfl rfl (by first|trivial|(simp [bX,eK,eB,eS,eL,av,ai,PV.under,CV.under,ag,OB.under,ah];done)) (by first|trivial|(simp [bX,eK,eB,eS,eL,av,ai,PV.under,CV.under,ag,OB.under,ah];done)) ?_ ?_
      rotate_left
      ·rintro p σ' hpp hpl
       rcases y55 with y56|y57
       ·exact False.elim hpp
       simp only [Sum.elim_inl,Sum.elim_inr] at hm hpp;subst hpp;refine hp _ _ _ ?_;refine bI ?_;obtain rfl:=sI hm;exact rfl
      rintro p σ' hq31 _
      rcases y55 with y58|y59
      ·skip;simp only [Sum.elim_inl,Sum.elim_inr] at hm hq31
       obtain ⟨rfl,rfl⟩:=hq31;refine aa ?_;refine go ?_;refine hk _ _ ?_;clear hk hp k kp;refine jN [.box [.tree 4 (y58.2.1.map ab.enc),.int .i64 p1.end_,.int .i64 y58.2.2.1,.int .i64 y58.2.2.2],.box [.int .i64 0,.nils,.str [],.nils,.nils],.box [.int .i64 ((p1.l.getD 0 default).at_),.tree 1 (y4.1.map eS),.str [],.nils,.osl 5 0 0 1],.dead,.dead,.arr 6 0 49 ((lit ([(y58.1)]:List af)).map af.enc)] ?_;refine aq [3,34] ?_
       refine fT (fG 1 [.int .i64 ((p1.l.getD 0 default).at_),.tree 1 (y4.1.map eS),.str [],.tree 1 ([].map (eL 2 am.enc)),.osl 5 0 0 1] rfl (by and_intros<;>trivial)) ?_
       refine jB rfl (by simp only [bZ,bL,reduceIte,↓reduceIte,reduceCtorEq,Int.reduceToNat,Nat.reduceDiv,Nat.reduceMod,Nat.reduceLT,Nat.reduceLeDiff,Nat.reduceAdd,Nat.reduceSub,Nat.reduceMul,Nat.reduceEqDiff,Nat.reduceBEq,Nat.reduceBNe,Nat.reduceGT];rfl) ?_;refine kx (aG 5 rfl) ?_;refine aA ?_;refine aw ?_
       cases hm
       exact kr 1
      ·skip;exact False.elim hq31
    ·rw [iN h26] at hm;have h26b:=nB h26;refine aa ?_;refine gox h26b ?_;refine hk _ _ ?_;clear hk hp k kp;refine ak rfl rfl ?_;refine ar ?_;refine an () () hm ?_;exact ls
   ·rintro _ _ hm;replace hm:ep fuel p1 y4 y9=some r:=hm;refine bm ?_;unfold ep at hm;refine az [35,36,37] fun k kp hk hp=>?_;refine go ?_;refine aE (aG 4 rfl) ?_;refine gt ?_;obtain ⟨y11,hc6,hm⟩:=bd hm
    refine ap (aQ (lit ([([99,97,108,108]:List UInt8)]:List (List UInt8))) (ae.mk y9 p1.end_ p1.open_ p1.terms)  _ hc6) [0] (by first|trivial|exact aJ rfl) (by first|trivial|(intro _;first|trivial|simp [au])|simp [au]) (by simp) (by simp) rfl rfl (by first|trivial|(simp [bX,eK,eB,eS,eL,av,ai,PV.under,CV.under,ag,OB.under,ah];done)) (by first|trivial|(simp [bX,eK,eB,eS,eL,av,ai,PV.under,CV.under,ag,OB.under,ah];done)) ?_ ?_
    rotate_left
    ·rintro p σ' hpp hpl
     rcases y11 with y12|y13
     ·exact False.elim hpp
     simp only [Sum.elim_inl,Sum.elim_inr] at hm hpp;subst hpp;refine hp _ _ _ ?_;obtain rfl:=sI hm;exact rfl
    rintro p σ' hq7 _
    rcases y11 with y14|y15
    ·skip;simp only [Sum.elim_inl,Sum.elim_inr] at hm hq7
     obtain ⟨rfl,rfl⟩:=hq7;refine aa ?_;refine go ?_;refine hk _ _ ?_;clear hk hp k kp;refine az [38,39,40] fun k kp hk hp=>?_;refine go ?_;obtain ⟨y16,hc8,hm⟩:=bd hm
     refine ap (cb (ae.mk y14 p1.end_ p1.open_ p1.terms)  _ hc8) [0] (by first|trivial|exact aJ rfl) (by first|trivial|(intro _;first|trivial|simp [au])|simp [au]) (by simp) (by simp) rfl rfl (by first|trivial|(simp [bX,eK,eB,eS,eL,av,ai,PV.under,CV.under,ag,OB.under,ah];done)) (by first|trivial|(simp [bX,eK,eB,eS,eL,av,ai,PV.under,CV.under,ag,OB.under,ah];done)) ?_ ?_
     rotate_left
     ·rintro p σ' hpp hpl
      rcases y16 with y17|y18
      ·exact False.elim hpp
      simp only [Sum.elim_inl,Sum.elim_inr] at hm hpp;subst hpp;refine hp _ _ _ ?_;obtain rfl:=sI hm;exact rfl
     rintro p σ' hq9 _
     rcases y16 with y19|y20
     ·skip;simp only [Sum.elim_inl,Sum.elim_inr] at hm hq9
      obtain ⟨rfl,rfl⟩:=hq9;refine aa ?_;refine go ?_;refine hk _ _ ?_;clear hk hp k kp;refine bk (S:=((List ab)×(List (List am)))) (V:=Unit) [41,42,43,44,45,46,47,48,49,50] (fun (l21,l22) _=>[]) (fun (l21,l22) _=>[.box [.tree 4 (l21.map ab.enc),.int .i64 p1.end_,.int .i64 p1.open_,.int .i64 p1.terms],.box [.int .i64 0,.nils,.str [],.nils,.nils],.box [.int .i64 ((p1.l.getD 0 default).at_),.tree 1 (y4.1.map eS),.str y19.1,.tree 1 (l22.map (eL 2 am.enc)),.nils],.dead,.dead]) (fun (l21,l22)=>eh fuel p1 y4 y19 l21 l22=some r) ?_ ?_
      ·skip;refine az [41] fun k kp hk hp=>?_
       refine go ?_;obtain ⟨y43,hc19,hm⟩:=bd hm;refine RA (ci ([60]:List UInt8) (ae.mk y19.2 p1.end_ p1.open_ p1.terms)  _ hc19) [0] ?_;rintro p σ' ⟨rfl,rfl⟩ _;refine aa ?_;refine go ?_;refine hk _ _ ?_;clear hk hp k kp
       by_cases h21:y43.1=true
       ·rw [iP h21] at hm;refine aj rfl (h21) ?_;refine az [42,43,44,45,46,47] fun k kp hk hp=>?_;refine go ?_;obtain ⟨y44,hc22,hm⟩:=bd hm
        refine ap (mI 3 (ae.mk y43.2 p1.end_ p1.open_ p1.terms)  _ hc22) [0] (by first|trivial|exact aJ rfl) (by first|trivial|(intro _;first|trivial|simp [au])|simp [au]) (by simp) (by simp) rfl rfl (by first|trivial|(simp [bX,eK,eB,eS,eL,av,ai,PV.under,CV.under,ag,OB.under,ah];done)) (by first|trivial|(simp [bX,eK,eB,eS,eL,av,ai,PV.under,CV.under,ag,OB.under,ah];done)) ?_ ?_
        rotate_left
        ·rintro p σ' hpp hpl
         rcases y44 with y45|y46
         ·exact False.elim hpp
         simp only [Sum.elim_inl,Sum.elim_inr] at hm hpp;subst hpp;refine hp _ _ _ ?_;refine bI ?_;obtain rfl:=sI hm;exact rfl
        rintro p σ' hq23 _
        rcases y44 with y47|y48
        ·skip;simp only [Sum.elim_inl,Sum.elim_inr] at hm hq23
         obtain ⟨rfl,rfl⟩:=hq23;refine aa ?_;refine go ?_;refine hk _ _ ?_;clear hk hp k kp;refine bB fun k kp hk hp=>?_;refine go ?_;refine aE (aG 5 rfl) ?_;refine gt ?_;obtain ⟨y49,hc24,hm⟩:=bd hm
         refine ap (aQ (lit ([([62]:List UInt8)]:List (List UInt8))) (ae.mk y47.2 p1.end_ p1.open_ p1.terms)  _ hc24) [0] (by first|trivial|exact aJ rfl) (by first|trivial|(intro _;first|trivial|simp [au])|simp [au]) (by simp) (by simp) rfl rfl (by first|trivial|(simp [bX,eK,eB,eS,eL,av,ai,PV.under,CV.under,ag,OB.under,ah];done)) (by first|trivial|(simp [bX,eK,eB,eS,eL,av,ai,PV.under,CV.under,ag,OB.under,ah];done)) ?_ ?_
         rotate_left
         ·rintro p σ' hpp hpl
          rcases y49 with y50|y51
          ·exact False.elim hpp
          simp only [Sum.elim_inl,Sum.elim_inr] at hm hpp;subst hpp;refine hp _ _ _ ?_;refine bI ?_;obtain rfl:=sI hm;exact rfl
         rintro p σ' hq25 _
         rcases y49 with y52|y53
         ·skip;simp only [Sum.elim_inl,Sum.elim_inr] at hm hq25
          obtain ⟨rfl,rfl⟩:=hq25;refine aa ?_;refine go ?_;refine hk _ _ ?_;clear hk hp k kp;refine an (y52,y47.1) () hm ?_;exact ls
         ·skip;exact False.elim hq25
        ·skip;exact False.elim hq23
       ·rw [iN h21] at hm;refine ak rfl (fB h21) ?_;refine ar ?_
        refine nc (fG 2 [.int .i64 ((p1.l.getD 0 default).at_),.tree 1 (y4.1.map eS),.str y19.1,.tree 1 [],.nils] rfl (by and_intros<;>trivial)) ?_
        refine gz ?_;refine an (y43.2,[]) () hm ?_;exact ls
      ·rintro ⟨l21,l22⟩ _ hm;replace hm:eh fuel p1 y4 y19 l21 l22=some r:=hm;refine bm ?_;unfold eh at hm;refine az [51,52,53] fun k kp hk hp=>?_;refine go ?_;refine aE (aG 5 rfl) ?_;refine gt ?_;obtain ⟨y23,hc10,hm⟩:=bd hm
       refine ap (aQ (lit ([([40]:List UInt8)]:List (List UInt8))) (ae.mk l21 p1.end_ p1.open_ p1.terms)  _ hc10) [0] (by first|trivial|exact aJ rfl) (by first|trivial|(intro _;first|trivial|simp [au])|simp [au]) (by simp) (by simp) rfl rfl (by first|trivial|(simp [bX,eK,eB,eS,eL,av,ai,PV.under,CV.under,ag,OB.under,ah];done)) (by first|trivial|(simp [bX,eK,eB,eS,eL,av,ai,PV.under,CV.under,ag,OB.under,ah];done)) ?_ ?_
       rotate_left
       ·rintro p σ' hpp hpl
        rcases y23 with y24|y25
        ·exact False.elim hpp
        simp only [Sum.elim_inl,Sum.elim_inr] at hm hpp;subst hpp;refine hp _ _ _ ?_;obtain rfl:=sI hm;exact rfl
       rintro p σ' hq11 _
       rcases y23 with y26|y27
       ·skip;simp only [Sum.elim_inl,Sum.elim_inr] at hm hq11
        obtain ⟨rfl,rfl⟩:=hq11;refine aa ?_;refine go ?_;refine hk _ _ ?_;clear hk hp k kp;refine bk (S:=((List ab)×Int×Int×(List af))) (V:=Unit) [54,55,56,57,58,59,60,61,62] (fun (l28,x29,x30,l31) _=>[]) (fun (l28,x29,x30,l31) _=>[.box [.tree 4 (l28.map ab.enc),.int .i64 p1.end_,.int .i64 x29,.int .i64 x30],.box [.int .i64 0,.nils,.str [],.nils,.nils],.box [.int .i64 ((p1.l.getD 0 default).at_),.tree 1 (y4.1.map eS),.str y19.1,.tree 1 (l22.map (eL 2 am.enc)),.tree 6 (l31.map af.enc)],.dead,.dead,.dead]) (fun (l28,x29,x30,l31)=>eg p1 y4 y19 l22 l28 x29 x30 l31=some r) ?_ ?_
        ·skip;refine az [54,55,56] fun k kp hk hp=>?_
         refine go ?_;refine aE (aG 6 rfl) ?_;refine gt ?_;obtain ⟨y37,hc14,hm⟩:=bd hm;refine RA (aM (lit ([([41]:List UInt8)]:List (List UInt8))) (ae.mk y26 p1.end_ p1.open_ p1.terms)  _ hc14) [0] ?_;rintro p σ' ⟨rfl,rfl⟩ _;refine aa ?_;refine go ?_;refine hk _ _ ?_;clear hk hp k kp
         by_cases h16:y37=true
         ·rw [iP h16] at hm;refine ak rfl (by rw [show y37=true from (h16)];rfl) ?_;refine ar ?_
          refine nc (fG 2 [.int .i64 ((p1.l.getD 0 default).at_),.tree 1 (y4.1.map eS),.str y19.1,.tree 1 (l22.map (eL 2 am.enc)),.tree 6 []] rfl (by and_intros<;>trivial)) ?_
          refine gz ?_;refine an (y26,p1.open_,p1.terms,[]) () hm ?_;exact ls
         ·rw [iN h16] at hm;refine aj rfl (by rw [show y37=false from (fB h16)];rfl) ?_;refine bB fun k kp hk hp=>?_;refine go ?_;obtain ⟨y38,hc17,hm⟩:=bd hm
          refine ap (mJ fuel 30 (ae.mk y26 p1.end_ p1.open_ p1.terms)  _ hc17) [0] (by first|trivial|exact aJ rfl) (by first|trivial|(intro _;first|trivial|simp [au])|simp [au]) (by simp) (by simp) rfl rfl (by first|trivial|(simp [bX,eK,eB,eS,eL,av,ai,PV.under,CV.under,ag,OB.under,ah];done)) (by first|trivial|(simp [bX,eK,eB,eS,eL,av,ai,PV.under,CV.under,ag,OB.under,ah];done)) ?_ ?_
          rotate_left
          ·rintro p σ' hpp hpl
           rcases y38 with y39|y40
           ·exact False.elim hpp
           simp only [Sum.elim_inl,Sum.elim_inr] at hm hpp;subst hpp;refine hp _ _ _ ?_;refine bI ?_;obtain rfl:=sI hm;exact rfl
          rintro p σ' hq18 _
          rcases y38 with y41|y42
          ·skip;simp only [Sum.elim_inl,Sum.elim_inr] at hm hq18
           obtain ⟨rfl,rfl⟩:=hq18;refine aa ?_;refine go ?_;refine hk _ _ ?_;clear hk hp k kp;refine an (y41.2.1,y41.2.2.1,y41.2.2.2,y41.1) () hm ?_;exact ls
          ·skip;exact False.elim hq18
        ·rintro ⟨l28,x29,x30,l31⟩ _ hm;replace hm:eg p1 y4 y19 l22 l28 x29 x30 l31=some r:=hm;refine bm ?_;unfold eg at hm;refine az [0,63,64,65] fun k kp hk hp=>?_;refine go ?_;refine aE (aG 6 rfl) ?_;refine gt ?_;obtain ⟨y32,hc12,hm⟩:=bd hm
         refine ap (aQ (lit ([([41]:List UInt8)]:List (List UInt8))) (ae.mk l28 p1.end_ x29 x30)  _ hc12) [0] (by first|trivial|exact aJ rfl) (by first|trivial|(intro _;first|trivial|simp [au])|simp [au]) (by simp) (by simp) rfl rfl (by first|trivial|(simp [bX,eK,eB,eS,eL,av,ai,PV.under,CV.under,ag,OB.under,ah];done)) (by first|trivial|(simp [bX,eK,eB,eS,eL,av,ai,PV.under,CV.under,ag,OB.under,ah];done)) ?_ ?_
         rotate_left
         ·rintro p σ' hpp hpl
          rcases y32 with y33|y34
          ·exact False.elim hpp
          simp only [Sum.elim_inl,Sum.elim_inr] at hm hpp;subst hpp;refine hp _ _ _ ?_;obtain rfl:=sI hm;exact rfl
         rintro p σ' hq13 _
         rcases y32 with y35|y36
         ·skip;simp only [Sum.elim_inl,Sum.elim_inr] at hm hq13
          obtain ⟨rfl,rfl⟩:=hq13;refine aa ?_;refine go ?_;refine hk _ _ ?_;clear hk hp k kp;refine aq [3,66] ?_;refine aA ?_
          cases hm
          exact kr 1
         ·skip;exact False.elim hq13
       ·skip;exact False.elim hq11
     ·skip;exact False.elim hq9
    ·skip;exact False.elim hq7
  ·skip;exact False.elim hq5
 ·skip;exact False.elim hq3
theorem j7(fuel:Nat)(p1:ae)(r:(aS×(List ab)×Int×Int) ⊕ (Int×Int))(hm:im fuel p1=some r):cF Tryz.prog 18 [.c (.optr 0 0)] [.box [.tree 4 (p1.l.map ab.enc),.int .i64 p1.end_,.int .i64 p1.open_,.int .i64 p1.terms]] (fun p σ=>(Sum.elim (fun z=>(p=.a [.str ((z.1).name),.int .i64 ((z.1).at_),.tree 1 (((z.1).sizes).map eS),.tree 3 (((z.1).in_).map ay.enc),.tree 3 (((z.1).out_).map ay.enc),.tree 3 (((z.1).local_).map ay.enc),.tree 5 (((z.1).eqs).map TEq.enc)]∧σ=[.box [.tree 4 (z.2.1.map ab.enc),.int .i64 p1.end_,.int .i64 z.2.2.1,.int .i64 z.2.2.2]])) (fun z=>False)) r) (fun p _=>(Sum.elim (fun z=>False) (fun z=>p=.c (.ifc 50 true (nsC [(.i64,z.1),(.i64,z.2)])))) r):=by
 refine aF 114 [.cell 2 42] Tryz.func18 rfl rfl rfl (by kernel_rfl) (by simp) ?_;refine bJ ?_;unfold im at hm;refine aq [] ?_;obtain ⟨hg1a,hm⟩:=gd hm;refine et (em ab.enc p1.l 0) [4,5,6,7,8,9,10,11] ?_;refine az [12,13] fun k kp hk hp=>?_;refine go ?_;obtain ⟨y1,hc2,hm⟩:=bd hm;refine RA (a8 p1  _ hc2) [0] ?_;rintro p σ' ⟨rfl,rfl⟩ _;refine aa ?_;refine go ?_;refine hk _ _ ?_;clear hk hp k kp;refine az [14,15,16] fun k kp hk hp=>?_;refine go ?_;obtain ⟨y2,hc4,hm⟩:=bd hm
 refine ap (cb (ae.mk y1.2 p1.end_ p1.open_ p1.terms)  _ hc4) [0] (by first|trivial|exact aJ rfl) (by first|trivial|(intro _;first|trivial|simp [au])|simp [au]) (by simp) (by simp) rfl rfl (by first|trivial|(simp [bX,eK,eB,eS,eL,av,ai,PV.under,CV.under,ag,OB.under,ah];done)) (by first|trivial|(simp [bX,eK,eB,eS,eL,av,ai,PV.under,CV.under,ag,OB.under,ah];done)) ?_ ?_
 rotate_left
 ·rintro p σ' hpp hpl
  rcases y2 with y3|y4
  ·exact False.elim hpp
  simp only [Sum.elim_inl,Sum.elim_inr] at hm hpp;subst hpp;refine hp _ _ _ ?_;obtain rfl:=sI hm;exact rfl
 rintro p σ' hq5 _
 rcases y2 with y5|y6
 ·skip;simp only [Sum.elim_inl,Sum.elim_inr] at hm hq5
  obtain ⟨rfl,rfl⟩:=hq5;refine aa ?_;refine go ?_;refine hk _ _ ?_;clear hk hp k kp;refine bk (S:=((List ab)×(List (List UInt8)))) (V:=Unit) [17,18,19,20,21,22,23,24,25,26] (fun (l7,l8) _=>[]) (fun (l7,l8) _=>[.box [.tree 4 (l7.map ab.enc),.int .i64 p1.end_,.int .i64 p1.open_,.int .i64 p1.terms],.box [.str [],.int .i64 0,.nils,.nils,.nils,.nils,.nils],.box [.str y5.1,.int .i64 ((p1.l.getD 0 default).at_),.tree 1 (l8.map eS),.nils,.nils,.nils,.nils]]) (fun (l7,l8)=>dH fuel p1 y5 l7 l8=some r) ?_ ?_
  ·skip;refine az [17] fun k kp hk hp=>?_
   refine go ?_;obtain ⟨y119,hc52,hm⟩:=bd hm;refine RA (ci ([60]:List UInt8) (ae.mk y5.2 p1.end_ p1.open_ p1.terms)  _ hc52) [0] ?_;rintro p σ' ⟨rfl,rfl⟩ _;refine aa ?_;refine go ?_;refine hk _ _ ?_;clear hk hp k kp
   by_cases h54:y119.1=true
   ·rw [iP h54] at hm;refine aj rfl (h54) ?_;refine az [18,19,20,21,22,23] fun k kp hk hp=>?_;refine go ?_;obtain ⟨y120,hc55,hm⟩:=bd hm
    refine ap (kA 3 (ae.mk y119.2 p1.end_ p1.open_ p1.terms)  _ hc55) [0] (by first|trivial|exact aJ rfl) (by first|trivial|(intro _;first|trivial|simp [au])|simp [au]) (by simp) (by simp) rfl rfl (by first|trivial|(simp [bX,eK,eB,eS,eL,av,ai,PV.under,CV.under,ag,OB.under,ah];done)) (by first|trivial|(simp [bX,eK,eB,eS,eL,av,ai,PV.under,CV.under,ag,OB.under,ah];done)) ?_ ?_
    rotate_left
    ·rintro p σ' hpp hpl
     rcases y120 with y121|y122
     ·exact False.elim hpp
     simp only [Sum.elim_inl,Sum.elim_inr] at hm hpp;subst hpp;refine hp _ _ _ ?_;refine bI ?_;obtain rfl:=sI hm;exact rfl
    rintro p σ' hq56 _
    rcases y120 with y123|y124
    ·skip;simp only [Sum.elim_inl,Sum.elim_inr] at hm hq56
     obtain ⟨rfl,rfl⟩:=hq56;refine aa ?_;refine go ?_;refine hk _ _ ?_;clear hk hp k kp;refine bB fun k kp hk hp=>?_;refine go ?_;refine aE (aG 3 rfl) ?_;refine gt ?_;obtain ⟨y125,hc57,hm⟩:=bd hm
     refine ap (aQ (lit ([([62]:List UInt8)]:List (List UInt8))) (ae.mk y123.2 p1.end_ p1.open_ p1.terms)  _ hc57) [0] (by first|trivial|exact aJ rfl) (by first|trivial|(intro _;first|trivial|simp [au])|simp [au]) (by simp) (by simp) rfl rfl (by first|trivial|(simp [bX,eK,eB,eS,eL,av,ai,PV.under,CV.under,ag,OB.under,ah];done)) (by first|trivial|(simp [bX,eK,eB,eS,eL,av,ai,PV.under,CV.under,ag,OB.under,ah];done)) ?_ ?_
     rotate_left
     ·rintro p σ' hpp hpl
      rcases y125 with y126|y127
      ·exact False.elim hpp
      simp only [Sum.elim_inl,Sum.elim_inr] at hm hpp;subst hpp;refine hp _ _ _ ?_;refine bI ?_;obtain rfl:=sI hm;exact rfl
     rintro p σ' hq58 _
     rcases y125 with y128|y129
     ·skip;simp only [Sum.elim_inl,Sum.elim_inr] at hm hq58
      obtain ⟨rfl,rfl⟩:=hq58;refine aa ?_;refine go ?_;refine hk _ _ ?_;clear hk hp k kp;refine an (y128,y123.1) () hm ?_;exact ls
     ·skip;exact False.elim hq58
    ·skip;exact False.elim hq56
   ·rw [iN h54] at hm;refine ak rfl (fB h54) ?_;refine ar ?_
    refine nc (fG 2 [.str y5.1,.int .i64 ((p1.l.getD 0 default).at_),.tree 1 [],.nils,.nils,.nils,.nils] rfl (by and_intros<;>trivial)) ?_
    refine gz ?_;refine an (y119.2,[]) () hm ?_;exact ls
  ·rintro ⟨l7,l8⟩ _ hm;replace hm:dH fuel p1 y5 l7 l8=some r:=hm;refine bm ?_;unfold dH at hm;refine az [27,28,29] fun k kp hk hp=>?_;refine go ?_;refine aE (aG 3 rfl) ?_;refine gt ?_;obtain ⟨y9,hc6,hm⟩:=bd hm
   refine ap (aQ (lit ([([40]:List UInt8)]:List (List UInt8))) (ae.mk l7 p1.end_ p1.open_ p1.terms)  _ hc6) [0] (by first|trivial|exact aJ rfl) (by first|trivial|(intro _;first|trivial|simp [au])|simp [au]) (by simp) (by simp) rfl rfl (by first|trivial|(simp [bX,eK,eB,eS,eL,av,ai,PV.under,CV.under,ag,OB.under,ah];done)) (by first|trivial|(simp [bX,eK,eB,eS,eL,av,ai,PV.under,CV.under,ag,OB.under,ah];done)) ?_ ?_
   rotate_left
   ·rintro p σ' hpp hpl
    rcases y9 with y10|y11
    ·exact False.elim hpp
    simp only [Sum.elim_inl,Sum.elim_inr] at hm hpp;subst hpp;refine hp _ _ _ ?_;obtain rfl:=sI hm;exact rfl
   rintro p σ' hq7 _
   rcases y9 with y12|y13
   ·skip;simp only [Sum.elim_inl,Sum.elim_inr] at hm hq7
    obtain ⟨rfl,rfl⟩:=hq7;refine aa ?_;refine go ?_;refine hk _ _ ?_;clear hk hp k kp;refine bk (S:=((List ab)×(List ay))) (V:=Unit) [30,31,32,33,34,35,36,37,38] (fun (l14,l15) _=>[]) (fun (l14,l15) _=>[.box [.tree 4 (l14.map ab.enc),.int .i64 p1.end_,.int .i64 p1.open_,.int .i64 p1.terms],.box [.str [],.int .i64 0,.nils,.nils,.nils,.nils,.nils],.box [.str y5.1,.int .i64 ((p1.l.getD 0 default).at_),.tree 1 (l8.map eS),.tree 3 (l15.map ay.enc),.nils,.nils,.nils],.dead]) (fun (l14,l15)=>dG fuel p1 y5 l8 l14 l15=some r) ?_ ?_
    ·skip;refine az [30,31,32] fun k kp hk hp=>?_
     refine go ?_;refine aE (aG 4 rfl) ?_;refine gt ?_;obtain ⟨y113,hc47,hm⟩:=bd hm;refine RA (aM (lit ([([41]:List UInt8)]:List (List UInt8))) (ae.mk y12 p1.end_ p1.open_ p1.terms)  _ hc47) [0] ?_;rintro p σ' ⟨rfl,rfl⟩ _;refine aa ?_;refine go ?_;refine hk _ _ ?_;clear hk hp k kp
     by_cases h49:y113=true
     ·rw [iP h49] at hm;refine ak rfl (by rw [show y113=true from (h49)];rfl) ?_;refine ar ?_
      refine nc (fG 2 [.str y5.1,.int .i64 ((p1.l.getD 0 default).at_),.tree 1 (l8.map eS),.tree 3 [],.nils,.nils,.nils] rfl (by and_intros<;>trivial)) ?_
      refine gz ?_;refine an (y12,[]) () hm ?_;exact ls
     ·rw [iN h49] at hm;refine aj rfl (by rw [show y113=false from (fB h49)];rfl) ?_;refine bB fun k kp hk hp=>?_;refine go ?_;obtain ⟨y114,hc50,hm⟩:=bd hm
      refine ap (jS 30 (ae.mk y12 p1.end_ p1.open_ p1.terms)  _ hc50) [0] (by first|trivial|exact aJ rfl) (by first|trivial|(intro _;first|trivial|simp [au])|simp [au]) (by simp) (by simp) rfl rfl (by first|trivial|(simp [bX,eK,eB,eS,eL,av,ai,PV.under,CV.under,ag,OB.under,ah];done)) (by first|trivial|(simp [bX,eK,eB,eS,eL,av,ai,PV.under,CV.under,ag,OB.under,ah];done)) ?_ ?_
      rotate_left
      ·rintro p σ' hpp hpl
       rcases y114 with y115|y116
       ·exact False.elim hpp
       simp only [Sum.elim_inl,Sum.elim_inr] at hm hpp;subst hpp;refine hp _ _ _ ?_;refine bI ?_;obtain rfl:=sI hm;exact rfl
      rintro p σ' hq51 _
      rcases y114 with y117|y118
      ·skip;simp only [Sum.elim_inl,Sum.elim_inr] at hm hq51
       obtain ⟨rfl,rfl⟩:=hq51;refine aa ?_;refine go ?_;refine hk _ _ ?_;clear hk hp k kp;refine an (y117.2,y117.1) () hm ?_;exact ls
      ·skip;exact False.elim hq51
    ·rintro ⟨l14,l15⟩ _ hm;replace hm:dG fuel p1 y5 l8 l14 l15=some r:=hm;refine bm ?_;unfold dG at hm;refine az [39,40,41] fun k kp hk hp=>?_;refine go ?_;refine aE (aG 4 rfl) ?_;refine gt ?_;obtain ⟨y16,hc8,hm⟩:=bd hm
     refine ap (aQ (lit ([([41]:List UInt8),([45,62]:List UInt8),([40]:List UInt8)]:List (List UInt8))) (ae.mk l14 p1.end_ p1.open_ p1.terms)  _ hc8) [0] (by first|trivial|exact aJ rfl) (by first|trivial|(intro _;first|trivial|simp [au])|simp [au]) (by simp) (by simp) rfl rfl (by first|trivial|(simp [bX,eK,eB,eS,eL,av,ai,PV.under,CV.under,ag,OB.under,ah];done)) (by first|trivial|(simp [bX,eK,eB,eS,eL,av,ai,PV.under,CV.under,ag,OB.under,ah];done)) ?_ ?_
     rotate_left
     ·rintro p σ' hpp hpl
      rcases y16 with y17|y18
      ·exact False.elim hpp
      simp only [Sum.elim_inl,Sum.elim_inr] at hm hpp;subst hpp;refine hp _ _ _ ?_;obtain rfl:=sI hm;exact rfl
     rintro p σ' hq9 _
     rcases y16 with y19|y20
     ·skip;simp only [Sum.elim_inl,Sum.elim_inr] at hm hq9
      obtain ⟨rfl,rfl⟩:=hq9;refine aa ?_;refine go ?_;refine hk _ _ ?_;clear hk hp k kp;refine az [42,43,44,45,46] fun k kp hk hp=>?_;refine go ?_;obtain ⟨y21,hc10,hm⟩:=bd hm
      refine ap (jS 30 (ae.mk y19 p1.end_ p1.open_ p1.terms)  _ hc10) [0] (by first|trivial|exact aJ rfl) (by first|trivial|(intro _;first|trivial|simp [au])|simp [au]) (by simp) (by simp) rfl rfl (by first|trivial|(simp [bX,eK,eB,eS,eL,av,ai,PV.under,CV.under,ag,OB.under,ah];done)) (by first|trivial|(simp [bX,eK,eB,eS,eL,av,ai,PV.under,CV.under,ag,OB.under,ah];done)) ?_ ?_
      rotate_left
      ·rintro p σ' hpp hpl
       rcases y21 with y22|y23
       ·exact False.elim hpp
       simp only [Sum.elim_inl,Sum.elim_inr] at hm hpp;subst hpp;refine hp _ _ _ ?_;obtain rfl:=sI hm;exact rfl
      rintro p σ' hq11 _
      rcases y21 with y24|y25
      ·skip;simp only [Sum.elim_inl,Sum.elim_inr] at hm hq11
       obtain ⟨rfl,rfl⟩:=hq11;refine aa ?_;refine go ?_;refine hk _ _ ?_;clear hk hp k kp;refine az [47,48,49] fun k kp hk hp=>?_;refine go ?_;refine aE (aG 5 rfl) ?_;refine gt ?_;obtain ⟨y26,hc12,hm⟩:=bd hm
       refine ap (aQ (lit ([([41]:List UInt8),([123]:List UInt8)]:List (List UInt8))) (ae.mk y24.2 p1.end_ p1.open_ p1.terms)  _ hc12) [0] (by first|trivial|exact aJ rfl) (by first|trivial|(intro _;first|trivial|simp [au])|simp [au]) (by simp) (by simp) rfl rfl (by first|trivial|(simp [bX,eK,eB,eS,eL,av,ai,PV.under,CV.under,ag,OB.under,ah];done)) (by first|trivial|(simp [bX,eK,eB,eS,eL,av,ai,PV.under,CV.under,ag,OB.under,ah];done)) ?_ ?_
       rotate_left
       ·rintro p σ' hpp hpl
        rcases y26 with y27|y28
        ·exact False.elim hpp
        simp only [Sum.elim_inl,Sum.elim_inr] at hm hpp;subst hpp;refine hp _ _ _ ?_;obtain rfl:=sI hm;exact rfl
       rintro p σ' hq13 _
       rcases y26 with y29|y30
       ·skip;simp only [Sum.elim_inl,Sum.elim_inr] at hm hq13
        obtain ⟨rfl,rfl⟩:=hq13;refine aa ?_;refine go ?_;refine hk _ _ ?_;clear hk hp k kp;refine kx (kd 2 5 3 96 (by decide) rfl rfl) ?_;refine kx (kd 2 6 5 47 (by decide) rfl rfl) ?_;refine bk (S:=((List ab)×Int×Int×(List ay)×(List TEq))) (V:=(Nat×Nat)) [50,51,52,53,54,55,56,57,58,59,60,61,62,63,64,65,66,67,68,69,70,71,72,73,74,75,76,77,78,79,80,81,82,83,84,85,86,87,88,89,90,91,92,93,94,95,96,97,98,99,100,101,102,103,104,105,106,107,108,109,110] (fun (l35,x36,x37,l38,l40) (v39,v41)=>[]) (fun (l35,x36,x37,l38,l40) (v39,v41)=>[.box [.tree 4 (l35.map ab.enc),.int .i64 p1.end_,.int .i64 x36,.int .i64 x37],.box [.str [],.int .i64 0,.nils,.nils,.nils,.nils,.nils],.box [.str y5.1,.int .i64 ((p1.l.getD 0 default).at_),.tree 1 (l8.map eS),.tree 3 (l15.map ay.enc),.tree 3 (y24.1.map ay.enc),.osl 6 v39 0 l38.length,.osl 7 v41 0 l40.length],.dead,.dead,.dead,.arr 3 v39 96 (l38.map ay.enc),.arr 5 v41 47 (l40.map TEq.enc)]) (fun (l35,x36,x37,l38,l40)=>dD p1 y5 l8 l15 y24 l35 x36 x37 l38 l40=some r) ?_ ?_
        ·skip;refine aK ?_
         obtain ⟨o1,hl1,hm1⟩:=bd hm;refine bQ (S:=((List ab)×Int×Int×(List ay)×(List TEq))) (V:=(Nat×Nat)) (O:=((List ab)×Int×Int×(List ay)×(List TEq)) ⊕ ((aS×(List ab)×Int×Int) ⊕ (Int×Int))) [50,51,52,53,54,55,56,57,58,59,60,61,62,63,64,65,66,67,68,69,70,71,72,73,74,75,76,77,78,79,80,81,82,83,84,85,86,87,88,89,90,91,92,93,94,95,96,97,98,99,100,101,102,103,104,105,106,107,108,109,110] (fun (l69,x70,x71,l72,l74) (v73,v75)=>[]) (fun (l69,x70,x71,l72,l74) (v73,v75)=>[.box [.tree 4 (l69.map ab.enc),.int .i64 p1.end_,.int .i64 x70,.int .i64 x71],.box [.str [],.int .i64 0,.nils,.nils,.nils,.nils,.nils],.box [.str y5.1,.int .i64 ((p1.l.getD 0 default).at_),.tree 1 (l8.map eS),.tree 3 (l15.map ay.enc),.tree 3 (y24.1.map ay.enc),.osl 6 v73 0 l72.length,.osl 7 v75 0 l74.length],.dead,.dead,.dead,.arr 3 v73 96 (l72.map ay.enc),.arr 5 v75 47 (l74.map TEq.enc)]) _ _ (0,0) hl1 ?_ ?_
         ·exact ls
         ·rintro ⟨l69,x70,x71,l72,l74⟩ ⟨v73,v75⟩ r1 hm hr1;replace hm:fX fuel p1 l69 x70 x71 l72 l74=some r1:=hm;refine bm ?_;unfold fX at hm;refine aB fun k1 hk1=>?_;refine az [50,51,52] fun k kp hk hp=>?_;refine go ?_;refine aE (aG 8 rfl) ?_;refine gt ?_;obtain ⟨y76,hc16,hm⟩:=bd hm;refine RA (aM (lit ([([125]:List UInt8)]:List (List UInt8))) (ae.mk l69 p1.end_ x70 x71)  _ hc16) [0] ?_;rintro p σ' ⟨rfl,rfl⟩ _;refine aa ?_;refine go ?_;refine hk _ _ ?_;clear hk hp k kp
          by_cases h18:y76=true
          ·rw [iP h18] at hm;refine ak rfl (by rw [show y76=true from (h18)];rfl) ?_;refine cj ?_;have ho19:=aD hm hr1;subst ho19;replace hm:dD p1 y5 l8 l15 y24 l69 x70 x71 l72 l74=some r:=hm1;refine bP (bx (aX ?_));refine an (l69,x70,x71,l72,l74) (v73,v75) hm ?_;exact ls
          ·rw [iN h18] at hm;refine aj rfl (by rw [show y76=false from (fB h18)];rfl) ?_;refine ar ?_;refine ax (hk1 _ _ ?_);refine aK ?_;refine bk (S:=((List ab)×Int×Int×(List ay)×(List TEq))) (V:=(Nat×Nat)) [53,54,55,56,57,58,59,60,61,62,63,64,65,66,67,68,69,70,71,72,73,74,75,76,77,78,79,80,81,82,83,84,85,86,87,88,89,90,91,92,93,94,95,96,97,98,99,100,101,102,103,104,105,106,107] (fun (l81,x82,x83,l84,l86) (v85,v87)=>[]) (fun (l81,x82,x83,l84,l86) (v85,v87)=>[.box [.tree 4 (l81.map ab.enc),.int .i64 p1.end_,.int .i64 x82,.int .i64 x83],.box [.str [],.int .i64 0,.nils,.nils,.nils,.nils,.nils],.box [.str y5.1,.int .i64 ((p1.l.getD 0 default).at_),.tree 1 (l8.map eS),.tree 3 (l15.map ay.enc),.tree 3 (y24.1.map ay.enc),.osl 6 v85 0 l84.length,.osl 7 v87 0 l86.length],.dead,.dead,.dead,.arr 3 v85 96 (l84.map ay.enc),.arr 5 v87 47 (l86.map TEq.enc),.dead]) (fun (l81,x82,x83,l84,l86)=>dE p1 l81 x82 x83 l84 l86=some r1) ?_ ?_
           ·skip;refine az [53,54] fun k kp hk hp=>?_
            refine go ?_;obtain ⟨y93,hc23,hm⟩:=bd hm;refine RA (ci ([118,97,114]:List UInt8) (ae.mk l69 p1.end_ x70 x71)  _ hc23) [0] ?_;rintro p σ' ⟨rfl,rfl⟩ _;refine aa ?_;refine go ?_;refine hk _ _ ?_;clear hk hp k kp
            by_cases h25:y93.1=true
            ·rw [iP h25] at hm;refine aj rfl (h25) ?_;refine aB fun k2 hk2=>?_;refine aq [55,56,57,58] ?_
             by_cases h26:(l72.length:Int)=30
             ·rw [iP h26] at hm;refine aj rfl (eQ h26) ?_;refine bB fun k kp hk hp=>?_;refine go ?_;obtain ⟨y94,hc27,hm⟩:=bd hm
              refine ap (aP 7 (ae.mk y93.2 p1.end_ x70 x71)  _ hc27) [0] (by first|trivial|exact aJ rfl) (by first|trivial|(intro _;first|trivial|simp [au])|simp [au]) (by simp) (by simp) rfl rfl (by first|trivial|(simp [bX,eK,eB,eS,eL,av,ai,PV.under,CV.under,ag,OB.under,ah];done)) (by first|trivial|(simp [bX,eK,eB,eS,eL,av,ai,PV.under,CV.under,ag,OB.under,ah];done)) ?_ ?_
              rotate_left
              ·rintro p σ' hpp hpl;skip;subst hpp;have ho29:=aD hm hr1;subst ho29;replace hm:some (.inr (y94.1,y94.2))=some r:=hm1;refine hp _ _ _ ?_;refine cr ?_;refine bI ?_;refine be ?_;refine cG ?_;refine be ?_;refine bI ?_;obtain rfl:=sI hm;exact rfl
              rintro p σ' hq28 _;exact False.elim hq28
             ·rw [iN h26] at hm;refine ak rfl (nB h26) ?_;refine ar ?_;refine ax (hk2 _ _ ?_);obtain ⟨y95,hc30,hm⟩:=bd hm
              rcases y95 with y96|y97
              ·skip;simp only [Sum.elim_inl,Sum.elim_inr] at hm
               refine oq (by kernel_rfl) [0] [0,1,0,4,12,31,63,127] [false,false,false,false,false,true,true,true] [false,false,false,true,false,false,false,false] [[3],[62],[],[],[],[],[],[]] (by kernel_rfl) fun k hk=>?_;refine gp ?_
               refine dK (σ2:=[.box [.tree 4 (y96.2.map ab.enc),.int .i64 p1.end_,.int .i64 x70,.int .i64 x71],.box [.str [],.int .i64 0,.nils,.nils,.nils,.nils,.nils],.box [.str y5.1,.int .i64 ((p1.l.getD 0 default).at_),.tree 1 (l8.map eS),.tree 3 (l15.map ay.enc),.tree 3 (y24.1.map ay.enc),.osl 6 v73 0 l72.length,.osl 7 v75 0 l74.length],.dead,.dead,.dead,.arr 3 v73 96 (l72.map ay.enc),.arr 5 v75 47 (l74.map TEq.enc),.dead]) (res:=.a [.str ((y96.1).name),.int .u8 (((y96.1).t).elem),.tree 2 ((((y96.1).t).n).map am.enc)]) ⟨_,_,_,_,[0],iI (ae.mk y93.2 p1.end_ x70 x71)  _ hc30,by simp,by simp,by first|rfl|(simp [PV.ren,CV.ren,CV.ren0,cS,lit];omega),rfl,by first|trivial|(simp [bX,eK,eB,eS,eL,av,ai,PV.under,CV.under,ag,OB.under,ah];done),by first|trivial|(simp [bX,eK,eB,eS,eL,av,ai,PV.under,CV.under,ag,OB.under,ah];done),fun q τ hq _=>by obtain ⟨rfl,rfl⟩:=hq;exact ⟨rfl,rfl⟩,fun _ _ h=>False.elim h⟩ (by first|trivial|exact aJ rfl) (by first|trivial|(intro _;first|trivial|simp [au])|simp [au]) ⟨rfl,by simp only [jW];and_intros<;>first|exact .inl rfl|exact .inr rfl|trivial⟩ ?_
               obtain ⟨⟨hg31ax,hg31ay⟩,hm⟩:=gd hm;refine gp ?_;refine hk _ _ ?_;clear hk k;refine an (y96.2,x70,x71,(l72++(lit ([(ay.mk ((y96.1).name) ((y96.1).t))]:List ay))),l74) (v73+1,v75) hm ?_;exact ls
              ·skip;simp only [Sum.elim_inl,Sum.elim_inr] at hm
               refine nU 3 [] [false,false,false,false,false,true,true,true] [] _ rfl ?_;simp only [List.take_succ_cons,List.take_zero];refine ga ?_
               refine ⟨_,_,_,_,[0],iI (ae.mk y93.2 p1.end_ x70 x71)  _ hc30,by simp,by simp,rfl,rfl,by first|trivial|(simp [bX,eK,eB,eS,eL,av,ai,PV.under,CV.under,ag,OB.under,ah];done),by first|trivial|(simp [bX,eK,eB,eS,eL,av,ai,PV.under,CV.under,ag,OB.under,ah];done),fun q τ h=>False.elim h,?_⟩
               rintro p σ' hpp hpl;simp only [Sum.elim_inl,Sum.elim_inr] at hpp;subst hpp;have ho32:=aD hm hr1;subst ho32;replace hm:some (.inr (y97.1,y97.2))=some r:=hm1;refine bI ?_;refine be ?_;refine cG ?_;refine be ?_;refine bI ?_;obtain rfl:=sI hm;exact rfl
            ·rw [iN h25] at hm;refine ak rfl (fB h25) ?_;refine bk (S:=Unit) (V:=(Nat×Nat)) [55,69,70,71,72,73,74,75,76,77,78,79,80,81,82,83,84,85,86,87,88,89,90,91,92] (fun _ (v100,v101)=>[]) (fun _ (v100,v101)=>[.box [.tree 4 (y93.2.map ab.enc),.int .i64 p1.end_,.int .i64 x70,.int .i64 x71],.box [.str [],.int .i64 0,.nils,.nils,.nils,.nils,.nils],.box [.str y5.1,.int .i64 ((p1.l.getD 0 default).at_),.tree 1 (l8.map eS),.tree 3 (l15.map ay.enc),.tree 3 (y24.1.map ay.enc),.osl 6 v100 0 l72.length,.osl 7 v101 0 l74.length],.dead,.dead,.dead,.arr 3 v100 96 (l72.map ay.enc),.arr 5 v101 47 (l74.map TEq.enc),.dead]) (fun _=>cZ fuel p1 x70 x71 l72 l74 y93=some r1) ?_ ?_
             ·skip;refine cM [55,69,70,71,72,73,74,75,76,77,78,79,80,81,82,83,84,85,86,87,88,89] fun k kp hk hp=>?_
              refine aC 7 ?_;refine go ?_
              by_cases h40:(y93.2.length:Int)>0
              ·rw [iP h40] at hm;have h40b:=dT h40;obtain ⟨hg41a,hm⟩:=gd hm;refine aC 10 ?_;refine gox (a2 (em ab.enc y93.2 0) h40b) ?_
               by_cases h42:((y93.2.getD 0 default).kind)=2
               ·rw [iP h42] at hm;have h42b:=eQ h42;refine aa ?_;refine gox (a2 h40b h42b) ?_;refine hk _ _ ?_;clear hk hp k kp
                by_cases h43:(l74.length:Int)=60
                ·rw [iP h43] at hm;refine aj rfl (eQ h43) ?_;refine bB fun k kp hk hp=>?_;refine go ?_;obtain ⟨y106,hc44,hm⟩:=bd hm
                 refine ap (aP 7 (ae.mk y93.2 p1.end_ x70 x71)  _ hc44) [0] (by first|trivial|exact aJ rfl) (by first|trivial|(intro _;first|trivial|simp [au])|simp [au]) (by simp) (by simp) rfl rfl (by first|trivial|(simp [bX,eK,eB,eS,eL,av,ai,PV.under,CV.under,ag,OB.under,ah];done)) (by first|trivial|(simp [bX,eK,eB,eS,eL,av,ai,PV.under,CV.under,ag,OB.under,ah];done)) ?_ ?_
                 rotate_left
                 ·rintro p σ' hpp hpl;skip;subst hpp;have ho46:=aD hm hr1;subst ho46;replace hm:some (.inr (y106.1,y106.2))=some r:=hm1;refine hp _ _ _ ?_;refine bI ?_;refine bI ?_;refine be ?_;refine cG ?_;refine be ?_;refine bI ?_;obtain rfl:=sI hm;exact rfl
                 rintro p σ' hq45 _;exact False.elim hq45
                ·rw [iN h43] at hm;refine ak rfl (nB h43) ?_;refine ar ?_;refine an () (v73,v75) hm ?_;exact ls
               ·rw [iN h42] at hm;have h42b:=nB h42;refine aa ?_;refine gox (a2 h40b h42b) ?_;refine hk _ _ ?_;clear hk hp k kp;refine ak rfl rfl ?_;refine ar ?_;refine an () (v73,v75) hm ?_;exact ls
              ·rw [iN h40] at hm;have h40b:=dF h40;refine aa ?_;refine gox h40b ?_;refine hk _ _ ?_;clear hk hp k kp;refine ak rfl rfl ?_;refine ar ?_;refine an () (v73,v75) hm ?_;exact ls
             ·rintro _ ⟨v100,v101⟩ hm;replace hm:cZ fuel p1 x70 x71 l72 l74 y93=some r1:=hm;refine bm ?_;unfold cZ at hm;refine aB fun k3 hk3=>?_;refine aq [93,94,95,96,97] ?_
              by_cases h33:(y93.2.length:Int)=0
              ·rw [iP h33] at hm;refine aj rfl (eQ h33) ?_;refine bB fun k kp hk hp=>?_;refine go ?_;obtain ⟨y102,hc34,hm⟩:=bd hm
               refine ap (aP 4 (ae.mk y93.2 p1.end_ x70 x71)  _ hc34) [0] (by first|trivial|exact aJ rfl) (by first|trivial|(intro _;first|trivial|simp [au])|simp [au]) (by simp) (by simp) rfl rfl (by first|trivial|(simp [bX,eK,eB,eS,eL,av,ai,PV.under,CV.under,ag,OB.under,ah];done)) (by first|trivial|(simp [bX,eK,eB,eS,eL,av,ai,PV.under,CV.under,ag,OB.under,ah];done)) ?_ ?_
               rotate_left
               ·rintro p σ' hpp hpl;skip;subst hpp;have ho36:=aD hm hr1;subst ho36;replace hm:some (.inr (y102.1,y102.2))=some r:=hm1;refine hp _ _ _ ?_;refine cr ?_;refine bI ?_;refine be ?_;refine cG ?_;refine be ?_;refine bI ?_;obtain rfl:=sI hm;exact rfl
               rintro p σ' hq35 _;exact False.elim hq35
              ·rw [iN h33] at hm;refine ak rfl (nB h33) ?_;refine ar ?_;refine ax (hk3 _ _ ?_);obtain ⟨y103,hc37,hm⟩:=bd hm
               rcases y103 with y104|y105
               ·skip;simp only [Sum.elim_inl,Sum.elim_inr] at hm
                refine oq (by kernel_rfl) [0] [0,1,0,4,12,31,63,127] [false,false,false,false,false,true,true,true] [false,false,false,true,false,false,false,false] [[3],[101],[],[],[],[],[],[]] (by kernel_rfl) fun k hk=>?_;refine gp ?_
                refine dK (σ2:=[.box [.tree 4 (y104.2.1.map ab.enc),.int .i64 p1.end_,.int .i64 y104.2.2.1,.int .i64 y104.2.2.2],.box [.str [],.int .i64 0,.nils,.nils,.nils,.nils,.nils],.box [.str y5.1,.int .i64 ((p1.l.getD 0 default).at_),.tree 1 (l8.map eS),.tree 3 (l15.map ay.enc),.tree 3 (y24.1.map ay.enc),.osl 6 v100 0 l72.length,.osl 7 v101 0 l74.length],.dead,.dead,.dead,.arr 3 v100 96 (l72.map ay.enc),.arr 5 v101 47 (l74.map TEq.enc),.dead]) (res:=.a [.int .i64 ((y104.1).at_),.tree 1 (((y104.1).names).map eS),.str ((y104.1).node),.tree 1 (((y104.1).s).map (eL 2 am.enc)),.tree 6 (((y104.1).e).map af.enc)]) ⟨_,_,_,_,[0],kL fuel (ae.mk y93.2 p1.end_ x70 x71)  _ hc37,by simp,by simp,by first|rfl|(simp [PV.ren,CV.ren,CV.ren0,cS,lit];omega),rfl,by first|trivial|(simp [bX,eK,eB,eS,eL,av,ai,PV.under,CV.under,ag,OB.under,ah];done),by first|trivial|(simp [bX,eK,eB,eS,eL,av,ai,PV.under,CV.under,ag,OB.under,ah];done),fun q τ hq _=>by obtain ⟨rfl,rfl⟩:=hq;exact ⟨rfl,rfl⟩,fun _ _ h=>False.elim h⟩ (by first|trivial|exact aJ rfl) (by first|trivial|(intro _;first|trivial|simp [au])|simp [au]) ⟨rfl,by simp only [jW];and_intros<;>first|exact .inl rfl|exact .inr rfl|trivial⟩ ?_
                obtain ⟨⟨hg38ax,hg38ay⟩,hm⟩:=gd hm;refine gp ?_;refine hk _ _ ?_;clear hk k;refine an (y104.2.1,y104.2.2.1,y104.2.2.2,l72,(l74++(lit ([(y104.1)]:List TEq)))) (v100,v101+1) hm ?_;exact ls
               ·skip;simp only [Sum.elim_inl,Sum.elim_inr] at hm
                refine nU 3 [] [false,false,false,false,false,true,true,true] [] _ rfl ?_;simp only [List.take_succ_cons,List.take_zero];refine ga ?_
                refine ⟨_,_,_,_,[0],kL fuel (ae.mk y93.2 p1.end_ x70 x71)  _ hc37,by simp,by simp,rfl,rfl,by first|trivial|(simp [bX,eK,eB,eS,eL,av,ai,PV.under,CV.under,ag,OB.under,ah];done),by first|trivial|(simp [bX,eK,eB,eS,eL,av,ai,PV.under,CV.under,ag,OB.under,ah];done),fun q τ h=>False.elim h,?_⟩
                rintro p σ' hpp hpl;simp only [Sum.elim_inl,Sum.elim_inr] at hpp;subst hpp;have ho39:=aD hm hr1;subst ho39;replace hm:some (.inr (y105.1,y105.2))=some r:=hm1;refine bI ?_;refine be ?_;refine cG ?_;refine be ?_;refine bI ?_;obtain rfl:=sI hm;exact rfl
           ·rintro ⟨l81,x82,x83,l84,l86⟩ ⟨v85,v87⟩ hm;replace hm:dE p1 l81 x82 x83 l84 l86=some r1:=hm;refine bm ?_;unfold dE at hm;refine bB fun k kp hk hp=>?_;refine go ?_;refine aE (aG 9 rfl) ?_;refine gt ?_;obtain ⟨y88,hc20,hm⟩:=bd hm
            refine ap (aQ (lit ([([59]:List UInt8)]:List (List UInt8))) (ae.mk l81 p1.end_ x82 x83)  _ hc20) [0] (by first|trivial|exact aJ rfl) (by first|trivial|(intro _;first|trivial|simp [au])|simp [au]) (by simp) (by simp) rfl rfl (by first|trivial|(simp [bX,eK,eB,eS,eL,av,ai,PV.under,CV.under,ag,OB.under,ah];done)) (by first|trivial|(simp [bX,eK,eB,eS,eL,av,ai,PV.under,CV.under,ag,OB.under,ah];done)) ?_ ?_
            rotate_left
            ·rintro p σ' hpp hpl
             rcases y88 with y89|y90
             ·exact False.elim hpp
             simp only [Sum.elim_inl,Sum.elim_inr] at hm hpp;subst hpp;have ho22:=aD hm hr1;subst ho22;replace hm:some (.inr (y90.1,y90.2))=some r:=hm1;refine hp _ _ _ ?_;refine be ?_;refine cG ?_;refine be ?_;refine bI ?_;obtain rfl:=sI hm;exact rfl
            rintro p σ' hq21 _
            rcases y88 with y91|y92
            ·skip;simp only [Sum.elim_inl,Sum.elim_inr] at hm hq21
             obtain ⟨rfl,rfl⟩:=hq21;refine aa ?_;refine go ?_;refine hk _ _ ?_;clear hk hp k kp;refine aW ?_;refine bw (y91,x82,x83,l84,l86) (v85,v87) hm ?_;exact ls
            ·skip;exact False.elim hq21
        ·rintro ⟨l35,x36,x37,l38,l40⟩ ⟨v39,v41⟩ hm;replace hm:dD p1 y5 l8 l15 y24 l35 x36 x37 l38 l40=some r:=hm;refine bm ?_;unfold dD at hm;refine az [0,111,112] fun k kp hk hp=>?_;refine go ?_;obtain ⟨y42,hc14,hm⟩:=bd hm;refine RA (a8 (ae.mk l35 p1.end_ x36 x37)  _ hc14) [0] ?_;rintro p σ' ⟨rfl,rfl⟩ _;refine aa ?_;refine go ?_;refine hk _ _ ?_;clear hk hp k kp;refine aq [3,113] ?_;refine kx (aG 6 rfl) ?_;refine kx (aG 7 rfl) ?_;refine aA ?_
         cases hm
         exact kr 1
       ·skip;exact False.elim hq13
      ·skip;exact False.elim hq11
     ·skip;exact False.elim hq9
   ·skip;exact False.elim hq7
 ·skip;exact False.elim hq5
theorem pJ(fuel:Nat)(p1:List UInt8)(r:(aH×cq))(hm:jP fuel p1=some r):b9 Tryz.prog 7 [.c (.str p1)] (.t [.a [.tree 7 (((r.1).nodes).map aS.enc)],.a [.int .i64 ((r.2).code),.int .i64 ((r.2).at_)]]):=by
 refine cF.drop (sx (hf:=Tryz.func7) 55 [.cell 2 25,.cell 3 27] 2 3 16 _ [_,_,_] rfl rfl rfl (by kernel_rfl) (by simp) rfl rfl rfl rfl rfl rfl rfl rfl (⟨⟨_,_,_,_,_,Tryz.func15,rfl,rfl,rfl,by kernel_rfl,rfl,rfl,rfl,rfl,rfl,rfl,rfl,rfl⟩,by decide,by decide,by decide,by decide,by decide⟩:Clo Tryz.prog 15 _ 18 5 2) ?_ ?_)
 ·skip;intro σ0
  refine jB (by simp only [Env.ofList,bE,Nat.reduceDiv,Nat.reduceMod,Nat.reduceLT,Nat.reduceLeDiff,Nat.reduceAdd,Nat.reduceSub,Nat.reduceMul,Nat.reduceEqDiff,Nat.reduceBEq,Nat.reduceBNe,Nat.reduceGT,Int.reduceToNat];rfl) rfl ?_;refine cM [5,6] fun k kp hk hp=>?_;refine aC 1 ?_;refine go ?_
  refine RS (tW rfl (by first|exact .inl rfl|exact .inr rfl) (by first|rfl|(simp only [bR,bT,tab,bX,reduceIte,↓reduceIte,reduceCtorEq,Int.reduceToNat,Nat.reduceDiv,Nat.reduceMod,Nat.reduceLT,Nat.reduceLeDiff,Nat.reduceAdd,Nat.reduceSub,Nat.reduceMul,Nat.reduceEqDiff,Nat.reduceBEq,Nat.reduceBNe,Nat.reduceGT];done)) (by first|kernel_rfl|exact of_decide_eq_true (by kernel_rfl))) ?_
  simp only [bR,bT,tab,bX,reduceIte,↓reduceIte,reduceCtorEq,Int.reduceToNat,Nat.reduceDiv,Nat.reduceMod,Nat.reduceLT,Nat.reduceLeDiff,Nat.reduceAdd,Nat.reduceSub,Nat.reduceMul,Nat.reduceEqDiff,Nat.reduceBEq,Nat.reduceBNe,Nat.reduceGT];refine aa ?_;refine go ?_;refine hk _ _ ?_;clear hk hp k kp;refine ak rfl rfl ?_;refine ar ?_;exact tV rfl
 refine vA ?_;refine bJ ?_;unfold jP at hm;refine d6 ?_;refine vz (vA ?_);refine bB fun k kp hk hp=>?_;refine go ?_;obtain ⟨y1,hc1,hm⟩:=bd hm;refine RP (fun _=>qZ p1 _ hc1) ?_;refine aa ?_;refine go ?_;refine hk _ _ ?_;clear hk hp k kp;refine vz (vA ?_);refine aq [6,7,8,9,10,11,12] ?_
 by_cases h2:¬ ((y1.2).code)=0
 ·rw [iP h2] at hm;refine aj rfl (bne_iff_ne.2 h2) ?_;refine mE [0,4,13,14,15] (by kernel_rfl) [0] [0,0,1,7] [false,false,false,true] [false,false,true,false] [[],[3],[],[]] (by kernel_rfl) fun k hk=>?_;refine gp ?_;refine hk _ _ ?_;clear hk k
  refine fT (fG 0 [.tree 7 ([].map aS.enc)] rfl (by and_intros<;>trivial)) ?_
  refine jB rfl (by simp only [bZ,bL,reduceIte,↓reduceIte,reduceCtorEq,Int.reduceToNat,Nat.reduceDiv,Nat.reduceMod,Nat.reduceLT,Nat.reduceLeDiff,Nat.reduceAdd,Nat.reduceSub,Nat.reduceMul,Nat.reduceEqDiff,Nat.reduceBEq,Nat.reduceBNe,Nat.reduceGT];rfl) ?_;refine aA ?_;refine yv ?_
  cases hm
  exact kr 0
 ·rw [iN h2] at hm;refine ak rfl (bne_eq_false_iff_eq.2 (Decidable.not_not.1 h2)) ?_;refine ar ?_;refine vz (yw ?_)
  refine ⟨0,1,rfl,rfl,of_decide_eq_true rfl,of_decide_eq_true rfl,of_decide_eq_true rfl,?_⟩
  refine vp ?_;refine aq [0,4,13,17,18,19,20,21] ?_;refine kx (kd 0 0 7 42 (by decide) rfl rfl) ?_;refine bk (S:=((List ab)×Int×Int×(List aS))) (V:=Nat) [5,22,23,24,25,26,27,28,29,30,31,32,33,34,35,36,37,38,39,40,41,42,43,44,45,46,47,48,49,50,51,52] (fun (l4,x5,x6,l7) v8=>[]) (fun (l4,x5,x6,l7) v8=>[.box [.osl 3 v8 0 l7.length],.box [.int .i64 ((y1.2).code),.int .i64 ((y1.2).at_)],.box [.tree 4 (l4.map ab.enc),.int .i64 (p1.length:Int),.int .i64 x5,.int .i64 x6],.arr 7 v8 42 (l7.map aS.enc)]) (fun (l4,x5,x6,l7)=>gg l4 x5 x6 l7=some r) ?_ ?_
  ·skip;refine aK ?_
   obtain ⟨o1,hl1,hm1⟩:=bd hm;refine bQ (S:=((List ab)×Int×Int×(List aS))) (V:=Nat) (O:=((List ab)×Int×Int×(List aS)) ⊕ (aH×cq)) [22,23,24,25,26,27,28,29,30,31,32,33,34,35,36,37,38,39,40,41,42,43,44,45,46,47,48,49,50,51,52] (fun (l25,x26,x27,l28) v29=>[]) (fun (l25,x26,x27,l28) v29=>[.box [.osl 3 v29 0 l28.length],.box [.int .i64 ((y1.2).code),.int .i64 ((y1.2).at_)],.box [.tree 4 (l25.map ab.enc),.int .i64 (p1.length:Int),.int .i64 x26,.int .i64 x27],.arr 7 v29 42 (l28.map aS.enc)]) _ _ 0 hl1 ?_ ?_
   ·exact ls
   ·rintro ⟨l25,x26,x27,l28⟩ v29 r1 hm hr1;replace hm:jq fuel p1 l25 x26 x27 l28=some r1:=hm;refine bm ?_;unfold jq at hm;refine bk (S:=Unit) (V:=Nat) [22,23,24,25,26,27,28,29,30,31,32,33] (fun _ v31=>[]) (fun _ v31=>[.box [.osl 3 v31 0 l28.length],.box [.int .i64 ((y1.2).code),.int .i64 ((y1.2).at_)],.box [.tree 4 (l25.map ab.enc),.int .i64 (p1.length:Int),.int .i64 x26,.int .i64 x27],.arr 7 v31 42 (l28.map aS.enc)]) (fun _=>gh fuel p1 l25 x26 x27 l28=some r1) ?_ ?_
    ·skip;refine cM [22,23,24,25,26,27,28,29,30,31,32] fun k kp hk hp=>?_
     refine aC 7 ?_;refine go ?_
     by_cases h1516:(l25.length:Int)>0
     ·rw [iP h1516] at hm;have h1516b:=dT h1516;refine aa ?_;refine gox h1516b ?_;refine hk _ _ ?_;clear hk hp k kp;refine aj rfl rfl ?_;refine ar ?_;refine an () v29 hm ?_;exact ls
     ·rw [iN h1516] at hm;have h1516b:=dF h1516;refine aa ?_;refine gox h1516b ?_;refine hk _ _ ?_;clear hk hp k kp
      by_cases h1517:(l28.length:Int)=0
      ·rw [iP h1517] at hm;refine aj rfl (eQ h1517) ?_;refine ar ?_;refine an () v29 hm ?_;exact ls
      ·rw [iN h1517] at hm;refine ak rfl (nB h1517) ?_;refine cj ?_;have ho1518:=aD hm hr1;subst ho1518;replace hm:gg l25 x26 x27 l28=some r:=hm1;refine qr (bx (aX ?_));refine an (l25,x26,x27,l28) v29 hm ?_;exact ls
    ·rintro _ v31 hm;replace hm:gh fuel p1 l25 x26 x27 l28=some r1:=hm;refine bm ?_;unfold gh at hm;refine aK ?_;refine aB fun k1 hk1=>?_;refine az [34,35,36] fun k kp hk hp=>?_;refine go ?_;refine aE (aG 4 rfl) ?_;refine gt ?_;obtain ⟨y32,hc3,hm⟩:=bd hm;refine RA (aM (lit ([([110,111,100,101]:List UInt8)]:List (List UInt8))) (ae.mk l25 (p1.length:Int) x26 x27)  _ hc3) [2] ?_;rintro p σ' ⟨rfl,rfl⟩ _;refine aa ?_;refine go ?_;refine hk _ _ ?_;clear hk hp k kp
     by_cases h5:y32=true
     ·rw [iP h5] at hm;refine ak rfl (by rw [show y32=true from (h5)];rfl) ?_;refine ar ?_;refine ax (hk1 _ _ ?_);refine aB fun k2 hk2=>?_;refine aq [37,40,41,42] ?_
      by_cases h6:(l28.length:Int)=10
      ·rw [iP h6] at hm;refine aj rfl (eQ h6) ?_;refine bB fun k kp hk hp=>?_;refine go ?_;obtain ⟨y33,hc7,hm⟩:=bd hm
       refine ap (aP 7 (ae.mk l25 (p1.length:Int) x26 x27)  _ hc7) [2] (by first|trivial|exact aJ rfl) (by first|trivial|(intro _;first|trivial|simp [au])|simp [au]) (by simp) (by simp) rfl rfl (by first|trivial|(simp [bX,eK,eB,eS,eL,av,ai,PV.under,CV.under,ag,OB.under,ah];done)) (by first|trivial|(simp [bX,eK,eB,eS,eL,av,ai,PV.under,CV.under,ag,OB.under,ah];done)) ?_ ?_
       rotate_left
       ·rintro p σ' hpp hpl
        rcases σ' with _|⟨t0_,ts0_⟩
        ·simp at hpl
        skip;subst hpp
        refine hp _ _ _ ?_;refine cr ?_;refine be ?_;refine cG ?_;refine be ?_;refine bI ?_
        try simp only [List.map_cons,cR,List.set_cons_zero,List.set_cons_succ,List.cons_append,List.nil_append]
        refine ⟨_,_,aG 3 rfl,?_⟩
        refine gz ?_
        refine ⟨[(2,.c (.optr 0 0)),(3,.c (.optr 1 0))],[.box [.tree 7 (l28.map aS.enc)],.box [.int .i64 ((y1.2).code),.int .i64 ((y1.2).at_)]],50,[(.i64,y33.1),(.i64,y33.2)],rfl,⟨by first|trivial|(simp [lB];done)|(and_intros<;>rfl),⟨_,by first|rfl|(simp only [List.map_cons,cR,List.set_cons_zero,List.set_cons_succ,List.cons_append,List.nil_append];rfl)⟩,of_decide_eq_true rfl,by first|trivial|(simp [bX,eK,eB,eS,eL,av,ai,PV.under,CV.under,ag,OB.under,ah];done),by first|trivial|(simp [kb,PV.under,CV.under];done)⟩,?_⟩
        refine jB (by simp only [Env.ofList,bE,Nat.reduceDiv,Nat.reduceMod,Nat.reduceLT,Nat.reduceLeDiff,Nat.reduceAdd,Nat.reduceSub,Nat.reduceMul,Nat.reduceEqDiff,Nat.reduceBEq,Nat.reduceBNe,Nat.reduceGT,Int.reduceToNat];rfl) rfl ?_;refine cM [5,6] fun k kp hk hp=>?_;refine aC 1 ?_;refine go ?_
        refine RS (pj rfl (by first|exact .inl rfl|exact .inr rfl) (by first|rfl|(simp only [bR,bT,tab,bX,reduceIte,↓reduceIte,reduceCtorEq,Int.reduceToNat,Nat.reduceDiv,Nat.reduceMod,Nat.reduceLT,Nat.reduceLeDiff,Nat.reduceAdd,Nat.reduceSub,Nat.reduceMul,Nat.reduceEqDiff,Nat.reduceBEq,Nat.reduceBNe,Nat.reduceGT];done)) (by first|kernel_rfl|exact of_decide_eq_true (by kernel_rfl))) ?_
        simp only [bR,bT,tab,bX,reduceIte,↓reduceIte,reduceCtorEq,Int.reduceToNat,Nat.reduceDiv,Nat.reduceMod,Nat.reduceLT,Nat.reduceLeDiff,Nat.reduceAdd,Nat.reduceSub,Nat.reduceMul,Nat.reduceEqDiff,Nat.reduceBEq,Nat.reduceBNe,Nat.reduceGT];refine aa ?_;refine go ?_;refine hk _ _ ?_;clear hk hp k kp;refine aj rfl rfl ?_;refine cM [7,8,9,10,11,12] fun k kp hk hp=>?_;refine aC 1 ?_;refine go ?_
        refine RS (ow (ns:=[(.i64,y33.1),(.i64,y33.2)]) [.int .i64 y33.1,.int .i64 y33.2] rfl rfl (by first|rfl|(simp only [bR,bT,tab,bX,reduceIte,↓reduceIte,reduceCtorEq,Int.reduceToNat,Nat.reduceDiv,Nat.reduceMod,Nat.reduceLT,Nat.reduceLeDiff,Nat.reduceAdd,Nat.reduceSub,Nat.reduceMul,Nat.reduceEqDiff,Nat.reduceBEq,Nat.reduceBNe,Nat.reduceGT];done)) (by first|kernel_rfl|exact of_decide_eq_true (by kernel_rfl))) ?_
        simp only [bR,bT,tab,bX,reduceIte,↓reduceIte,reduceCtorEq,Int.reduceToNat,Nat.reduceDiv,Nat.reduceMod,Nat.reduceLT,Nat.reduceLeDiff,Nat.reduceAdd,Nat.reduceSub,Nat.reduceMul,Nat.reduceEqDiff,Nat.reduceBEq,Nat.reduceBNe,Nat.reduceGT];refine aa ?_;refine go ?_;refine hk _ _ ?_;clear hk hp k kp;refine aB fun k503 hk503=>?_;refine aq [4,13] ?_;refine ak rfl rfl ?_;refine ar ?_;refine ax (hk503 _ _ ?_);refine oq (by kernel_rfl) [0] [0,0,1,7] [false,false,false,true] [false,false,true,false] [[],[3],[],[]] (by kernel_rfl) fun k hk=>?_;refine gp ?_;refine hk _ _ ?_;clear hk k
        refine xp (fG 0 [.tree 7 ([].map aS.enc)] rfl (by and_intros<;>trivial)) ?_
        refine gz ?_;have ho509:=aD hm hr1;subst ho509;replace hm:some ((aH.mk []),(cq.mk y33.1 y33.2))=some r:=hm1;refine tV (te (nD [] ?_));obtain rfl:=sI hm
        simp only [Env.ofList,bF,bT,tab,bX,Sum.elim_inl,Sum.elim_inr,reduceIte,↓reduceIte,reduceCtorEq,Int.reduceToNat,Nat.reduceDiv,Nat.reduceMod,Nat.reduceLT,Nat.reduceLeDiff,Nat.reduceAdd,Nat.reduceSub,Nat.reduceMul,Nat.reduceEqDiff,Nat.reduceBEq,Nat.reduceBNe,Nat.reduceGT]<;>first|done|rfl|(and_intros<;>first|rfl|omega|(simp;done))
       rintro p σ' hq8 _;exact False.elim hq8
      ·rw [iN h6] at hm;refine ak rfl (nB h6) ?_;refine ar ?_;refine ax (hk2 _ _ ?_);obtain ⟨y34,hc510,hm⟩:=bd hm
       rcases y34 with y35|y36
       ·skip;simp only [Sum.elim_inl,Sum.elim_inr] at hm
        refine oq (by kernel_rfl) [2] [0,1,0,4,12,31,63,127] [false,false,false,false,false,true,true,true] [false,false,false,true,false,false,false,false] [[2],[46],[],[],[],[],[],[]] (by kernel_rfl) fun k hk=>?_;refine gp ?_
        refine dK (σ2:=[.box [.osl 3 v31 0 l28.length],.box [.int .i64 ((y1.2).code),.int .i64 ((y1.2).at_)],.box [.tree 4 (y35.2.1.map ab.enc),.int .i64 (p1.length:Int),.int .i64 y35.2.2.1,.int .i64 y35.2.2.2],.arr 7 v31 42 (l28.map aS.enc),.dead]) (res:=.a [.str ((y35.1).name),.int .i64 ((y35.1).at_),.tree 1 (((y35.1).sizes).map eS),.tree 3 (((y35.1).in_).map ay.enc),.tree 3 (((y35.1).out_).map ay.enc),.tree 3 (((y35.1).local_).map ay.enc),.tree 5 (((y35.1).eqs).map TEq.enc)]) ⟨_,_,_,_,[2],j7 fuel (ae.mk l25 (p1.length:Int) x26 x27)  _ hc510,by simp,by simp,by first|rfl|(simp [PV.ren,CV.ren,CV.ren0,cS,lit];omega),rfl,by first|trivial|(simp [bX,eK,eB,eS,eL,av,ai,PV.under,CV.under,ag,OB.under,ah];done),by first|trivial|(simp [bX,eK,eB,eS,eL,av,ai,PV.under,CV.under,ag,OB.under,ah];done),fun q τ hq _=>by obtain ⟨rfl,rfl⟩:=hq;exact ⟨rfl,rfl⟩,fun _ _ h=>False.elim h⟩ (by first|trivial|exact aJ rfl) (by first|trivial|(intro _;first|trivial|simp [au])|simp [au]) ⟨rfl,by simp only [jW];and_intros<;>first|exact .inl rfl|exact .inr rfl|trivial⟩ ?_
        obtain ⟨⟨hg511ax,hg511ay⟩,hm⟩:=gd hm;refine gp ?_;refine hk _ _ ?_;clear hk k;refine aW ?_;refine bw (y35.2.1,y35.2.2.1,y35.2.2.2,(l28++(lit ([(y35.1)]:List aS)))) (v31+1) hm ?_;exact ls
       ·skip;simp only [Sum.elim_inl,Sum.elim_inr] at hm
        refine nU 3 [2,3] [false,false,false,false,false,true,true,true] [] _ rfl ?_;simp only [List.take_succ_cons,List.take_zero];refine ga ?_
        refine ⟨_,_,_,_,[2],j7 fuel (ae.mk l25 (p1.length:Int) x26 x27)  _ hc510,by simp,by simp,rfl,rfl,by first|trivial|(simp [bX,eK,eB,eS,eL,av,ai,PV.under,CV.under,ag,OB.under,ah];done),by first|trivial|(simp [bX,eK,eB,eS,eL,av,ai,PV.under,CV.under,ag,OB.under,ah];done),fun q τ h=>False.elim h,?_⟩
        rintro p σ' hpp hpl
        rcases σ' with _|⟨t0_,ts0_⟩
        ·simp at hpl
        simp only [Sum.elim_inl,Sum.elim_inr] at hpp;subst hpp;refine be ?_;refine cG ?_;refine be ?_;refine bI ?_
        try simp only [List.map_cons,cR,List.set_cons_zero,List.set_cons_succ,List.cons_append,List.nil_append]
        refine ⟨_,_,aG 3 rfl,?_⟩
        refine gz ?_
        refine ⟨[(2,.c (.optr 0 0)),(3,.c (.optr 1 0))],[.box [.tree 7 (l28.map aS.enc)],.box [.int .i64 ((y1.2).code),.int .i64 ((y1.2).at_)]],50,[(.i64,y36.1),(.i64,y36.2)],rfl,⟨by first|trivial|(simp [lB];done)|(and_intros<;>rfl),⟨_,by first|rfl|(simp only [List.map_cons,cR,List.set_cons_zero,List.set_cons_succ,List.cons_append,List.nil_append];rfl)⟩,of_decide_eq_true rfl,by first|trivial|(simp [bX,eK,eB,eS,eL,av,ai,PV.under,CV.under,ag,OB.under,ah];done),by first|trivial|(simp [kb,PV.under,CV.under];done)⟩,?_⟩
        refine jB (by simp only [Env.ofList,bE,Nat.reduceDiv,Nat.reduceMod,Nat.reduceLT,Nat.reduceLeDiff,Nat.reduceAdd,Nat.reduceSub,Nat.reduceMul,Nat.reduceEqDiff,Nat.reduceBEq,Nat.reduceBNe,Nat.reduceGT,Int.reduceToNat];rfl) rfl ?_;refine cM [5,6] fun k kp hk hp=>?_;refine aC 1 ?_;refine go ?_
        refine RS (pj rfl (by first|exact .inl rfl|exact .inr rfl) (by first|rfl|(simp only [bR,bT,tab,bX,reduceIte,↓reduceIte,reduceCtorEq,Int.reduceToNat,Nat.reduceDiv,Nat.reduceMod,Nat.reduceLT,Nat.reduceLeDiff,Nat.reduceAdd,Nat.reduceSub,Nat.reduceMul,Nat.reduceEqDiff,Nat.reduceBEq,Nat.reduceBNe,Nat.reduceGT];done)) (by first|kernel_rfl|exact of_decide_eq_true (by kernel_rfl))) ?_
        simp only [bR,bT,tab,bX,reduceIte,↓reduceIte,reduceCtorEq,Int.reduceToNat,Nat.reduceDiv,Nat.reduceMod,Nat.reduceLT,Nat.reduceLeDiff,Nat.reduceAdd,Nat.reduceSub,Nat.reduceMul,Nat.reduceEqDiff,Nat.reduceBEq,Nat.reduceBNe,Nat.reduceGT];refine aa ?_;refine go ?_;refine hk _ _ ?_;clear hk hp k kp;refine aj rfl rfl ?_;refine cM [7,8,9,10,11,12] fun k kp hk hp=>?_;refine aC 1 ?_;refine go ?_
        refine RS (ow (ns:=[(.i64,y36.1),(.i64,y36.2)]) [.int .i64 y36.1,.int .i64 y36.2] rfl rfl (by first|rfl|(simp only [bR,bT,tab,bX,reduceIte,↓reduceIte,reduceCtorEq,Int.reduceToNat,Nat.reduceDiv,Nat.reduceMod,Nat.reduceLT,Nat.reduceLeDiff,Nat.reduceAdd,Nat.reduceSub,Nat.reduceMul,Nat.reduceEqDiff,Nat.reduceBEq,Nat.reduceBNe,Nat.reduceGT];done)) (by first|kernel_rfl|exact of_decide_eq_true (by kernel_rfl))) ?_
        simp only [bR,bT,tab,bX,reduceIte,↓reduceIte,reduceCtorEq,Int.reduceToNat,Nat.reduceDiv,Nat.reduceMod,Nat.reduceLT,Nat.reduceLeDiff,Nat.reduceAdd,Nat.reduceSub,Nat.reduceMul,Nat.reduceEqDiff,Nat.reduceBEq,Nat.reduceBNe,Nat.reduceGT];refine aa ?_;refine go ?_;refine hk _ _ ?_;clear hk hp k kp;refine aB fun k1004 hk1004=>?_;refine aq [4,13] ?_;refine ak rfl rfl ?_;refine ar ?_;refine ax (hk1004 _ _ ?_);refine oq (by kernel_rfl) [0] [0,0,1,7] [false,false,false,true] [false,false,true,false] [[],[3],[],[]] (by kernel_rfl) fun k hk=>?_;refine gp ?_;refine hk _ _ ?_;clear hk k
        refine xp (fG 0 [.tree 7 ([].map aS.enc)] rfl (by and_intros<;>trivial)) ?_
        refine gz ?_;have ho1012:=aD hm hr1;subst ho1012;replace hm:some ((aH.mk []),(cq.mk y36.1 y36.2))=some r:=hm1;refine tV (te (nD [] ?_));obtain rfl:=sI hm
        simp only [Env.ofList,bF,bT,tab,bX,Sum.elim_inl,Sum.elim_inr,reduceIte,↓reduceIte,reduceCtorEq,Int.reduceToNat,Nat.reduceDiv,Nat.reduceMod,Nat.reduceLT,Nat.reduceLeDiff,Nat.reduceAdd,Nat.reduceSub,Nat.reduceMul,Nat.reduceEqDiff,Nat.reduceBEq,Nat.reduceBNe,Nat.reduceGT]<;>first|done|rfl|(and_intros<;>first|rfl|omega|(simp;done))
     ·rw [iN h5] at hm;refine aj rfl (by rw [show y32=false from (fB h5)];rfl) ?_;refine bB fun k kp hk hp=>?_;refine go ?_;obtain ⟨y37,hc1013,hm⟩:=bd hm
      refine ap (aP 4 (ae.mk l25 (p1.length:Int) x26 x27)  _ hc1013) [2] (by first|trivial|exact aJ rfl) (by first|trivial|(intro _;first|trivial|simp [au])|simp [au]) (by simp) (by simp) rfl rfl (by first|trivial|(simp [bX,eK,eB,eS,eL,av,ai,PV.under,CV.under,ag,OB.under,ah];done)) (by first|trivial|(simp [bX,eK,eB,eS,eL,av,ai,PV.under,CV.under,ag,OB.under,ah];done)) ?_ ?_
      rotate_left
      ·rintro p σ' hpp hpl
       rcases σ' with _|⟨t0_,ts0_⟩
       ·simp at hpl
       skip;subst hpp
       refine hp _ _ _ ?_;refine cr ?_;refine be ?_;refine cG ?_;refine be ?_;refine bI ?_
       try simp only [List.map_cons,cR,List.set_cons_zero,List.set_cons_succ,List.cons_append,List.nil_append]
       refine ⟨_,_,aG 3 rfl,?_⟩
       refine gz ?_
       refine ⟨[(2,.c (.optr 0 0)),(3,.c (.optr 1 0))],[.box [.tree 7 (l28.map aS.enc)],.box [.int .i64 ((y1.2).code),.int .i64 ((y1.2).at_)]],50,[(.i64,y37.1),(.i64,y37.2)],rfl,⟨by first|trivial|(simp [lB];done)|(and_intros<;>rfl),⟨_,by first|rfl|(simp only [List.map_cons,cR,List.set_cons_zero,List.set_cons_succ,List.cons_append,List.nil_append];rfl)⟩,of_decide_eq_true rfl,by first|trivial|(simp [bX,eK,eB,eS,eL,av,ai,PV.under,CV.under,ag,OB.under,ah];done),by first|trivial|(simp [kb,PV.under,CV.under];done)⟩,?_⟩
       refine jB (by simp only [Env.ofList,bE,Nat.reduceDiv,Nat.reduceMod,Nat.reduceLT,Nat.reduceLeDiff,Nat.reduceAdd,Nat.reduceSub,Nat.reduceMul,Nat.reduceEqDiff,Nat.reduceBEq,Nat.reduceBNe,Nat.reduceGT,Int.reduceToNat];rfl) rfl ?_;refine cM [5,6] fun k kp hk hp=>?_;refine aC 1 ?_;refine go ?_
       refine RS (pj rfl (by first|exact .inl rfl|exact .inr rfl) (by first|rfl|(simp only [bR,bT,tab,bX,reduceIte,↓reduceIte,reduceCtorEq,Int.reduceToNat,Nat.reduceDiv,Nat.reduceMod,Nat.reduceLT,Nat.reduceLeDiff,Nat.reduceAdd,Nat.reduceSub,Nat.reduceMul,Nat.reduceEqDiff,Nat.reduceBEq,Nat.reduceBNe,Nat.reduceGT];done)) (by first|kernel_rfl|exact of_decide_eq_true (by kernel_rfl))) ?_
       simp only [bR,bT,tab,bX,reduceIte,↓reduceIte,reduceCtorEq,Int.reduceToNat,Nat.reduceDiv,Nat.reduceMod,Nat.reduceLT,Nat.reduceLeDiff,Nat.reduceAdd,Nat.reduceSub,Nat.reduceMul,Nat.reduceEqDiff,Nat.reduceBEq,Nat.reduceBNe,Nat.reduceGT];refine aa ?_;refine go ?_;refine hk _ _ ?_;clear hk hp k kp;refine aj rfl rfl ?_;refine cM [7,8,9,10,11,12] fun k kp hk hp=>?_;refine aC 1 ?_;refine go ?_
       refine RS (ow (ns:=[(.i64,y37.1),(.i64,y37.2)]) [.int .i64 y37.1,.int .i64 y37.2] rfl rfl (by first|rfl|(simp only [bR,bT,tab,bX,reduceIte,↓reduceIte,reduceCtorEq,Int.reduceToNat,Nat.reduceDiv,Nat.reduceMod,Nat.reduceLT,Nat.reduceLeDiff,Nat.reduceAdd,Nat.reduceSub,Nat.reduceMul,Nat.reduceEqDiff,Nat.reduceBEq,Nat.reduceBNe,Nat.reduceGT];done)) (by first|kernel_rfl|exact of_decide_eq_true (by kernel_rfl))) ?_
       simp only [bR,bT,tab,bX,reduceIte,↓reduceIte,reduceCtorEq,Int.reduceToNat,Nat.reduceDiv,Nat.reduceMod,Nat.reduceLT,Nat.reduceLeDiff,Nat.reduceAdd,Nat.reduceSub,Nat.reduceMul,Nat.reduceEqDiff,Nat.reduceBEq,Nat.reduceBNe,Nat.reduceGT];refine aa ?_;refine go ?_;refine hk _ _ ?_;clear hk hp k kp;refine aB fun k1505 hk1505=>?_;refine aq [4,13] ?_;refine ak rfl rfl ?_;refine ar ?_;refine ax (hk1505 _ _ ?_);refine oq (by kernel_rfl) [0] [0,0,1,7] [false,false,false,true] [false,false,true,false] [[],[3],[],[]] (by kernel_rfl) fun k hk=>?_;refine gp ?_;refine hk _ _ ?_;clear hk k
       refine xp (fG 0 [.tree 7 ([].map aS.enc)] rfl (by and_intros<;>trivial)) ?_
       refine gz ?_;have ho1515:=aD hm hr1;subst ho1515;replace hm:some ((aH.mk []),(cq.mk y37.1 y37.2))=some r:=hm1;refine tV (te (nD [] ?_));obtain rfl:=sI hm
       simp only [Env.ofList,bF,bT,tab,bX,Sum.elim_inl,Sum.elim_inr,reduceIte,↓reduceIte,reduceCtorEq,Int.reduceToNat,Nat.reduceDiv,Nat.reduceMod,Nat.reduceLT,Nat.reduceLeDiff,Nat.reduceAdd,Nat.reduceSub,Nat.reduceMul,Nat.reduceEqDiff,Nat.reduceBEq,Nat.reduceBNe,Nat.reduceGT]<;>first|done|rfl|(and_intros<;>first|rfl|omega|(simp;done))
      rintro p σ' hq1014 _;exact False.elim hq1014
  ·rintro ⟨l4,x5,x6,l7⟩ v8 hm;replace hm:gg l4 x5 x6 l7=some r:=hm;refine bm ?_;unfold gg at hm;refine aq [53,54] ?_;refine kx (aG 3 rfl) ?_;refine aA ?_;refine wv ?_
   cases hm
   exact kr 0
theorem ox(fuel:Nat)(r:Bool)(hm:iq fuel  = some r):b9 Tryz.prog 6 [] (.c (.bool r)):=by
 refine aF 51 [.tmp 0] Tryz.func6 rfl rfl rfl (by kernel_rfl) (by simp) ?_;refine bJ ?_;unfold iq at hm;refine aq [0] ?_;refine az [3,4,5,6] fun k kp hk hp=>?_;refine go ?_;obtain ⟨y1,hc1,hm⟩:=bd hm;refine RP (fun _=>pJ fuel ([110,111,100,101,32,109,97,105,110,40,120,58,32,105,110,116,41,32,45,62,32,40,121,58,32,105,110,116,41,32,123,32,121,32,61,32,120,32,45,32,49,32,45,32,50,59,32,125]:List UInt8) _ hc1) ?_;refine aa ?_;refine go ?_;refine hk _ _ ?_;clear hk hp k kp;refine cM [1,2,7,8,9,10,11,12,13,14,15,16,17,18,19,20,21,22,23,24,25,26,27,28,29,30,31,32,33,34,35,36,37,38,39,40,41,42,43,44,45,46,47,48,49,50] fun k kp hk hp=>?_;refine aC 4 ?_;refine go ?_
 by_cases h2:((y1.2).code)=0
 ·rw [iP h2] at hm;have h2b:=eQ h2;refine aC 6 ?_;refine gox h2b ?_
  by_cases h3:(((y1.1).nodes).length:Int)=1
  ·rw [iP h3] at hm;have h3b:=eQ h3;obtain ⟨hg4a,hm⟩:=gd hm;refine aC 9 ?_;refine gox (a2 (em aS.enc ((y1.1).nodes) 0) (a2 h2b h3b)) ?_
   by_cases h5:(((((y1.1).nodes).getD 0 default).eqs).length:Int)=1
   ·rw [iP h5] at hm;have h5b:=eQ h5;obtain ⟨hg6a,hm⟩:=gd hm;refine aC 12 ?_;refine gox (a2 (em aS.enc ((y1.1).nodes) 0) (a2 (em TEq.enc ((((y1.1).nodes).getD 0 default).eqs) 0) (a2 h2b (a2 h3b h5b)))) ?_
    by_cases h7:(((((((y1.1).nodes).getD 0 default).eqs).getD 0 default).e).length:Int)=1
    ·rw [iP h7] at hm;have h7b:=eQ h7;obtain ⟨hg8a,hm⟩:=gd hm;refine aa ?_;refine gox (a2 (em aS.enc ((y1.1).nodes) 0) (a2 (em TEq.enc ((((y1.1).nodes).getD 0 default).eqs) 0) (a2 (em af.enc ((((((y1.1).nodes).getD 0 default).eqs).getD 0 default).e) 0) (a2 h2b (a2 h3b (a2 h5b h7b)))))) ?_;refine hk _ _ ?_;clear hk hp k kp;refine aA ?_
     cases hm
     exact kr 0
    ·rw [iN h7] at hm;have h7b:=nB h7;refine aa ?_;refine gox (a2 h2b (a2 h3b (a2 h5b h7b))) ?_;refine hk _ _ ?_;clear hk hp k kp;refine aA ?_
     cases hm
     exact kr 0
   ·rw [iN h5] at hm;have h5b:=nB h5;refine aa ?_;refine gox (a2 h2b (a2 h3b h5b)) ?_;refine hk _ _ ?_;clear hk hp k kp;refine aA ?_
    cases hm
    exact kr 0
  ·rw [iN h3] at hm;have h3b:=nB h3;refine aa ?_;refine gox (a2 h2b h3b) ?_;refine hk _ _ ?_;clear hk hp k kp;refine aA ?_
   cases hm
   exact kr 0
 ·rw [iN h2] at hm;have h2b:=nB h2;refine aa ?_;refine gox h2b ?_;refine hk _ _ ?_;clear hk hp k kp;refine aA ?_
  cases hm
  exact kr 0
theorem jc(p1 p2:List (List UInt8))(r:Bool)(hm:fF p1 p2=some r):b9 Tryz.prog 23 [.c (.tree 1 (p1.map eS)),.c (.tree 1 (p2.map eS))] (.c (.bool r)):=by
 refine aF 26 [.tmp 4] Tryz.func23 rfl rfl rfl (by kernel_rfl) (by simp) ?_;refine bJ ?_;unfold fF at hm;refine aq [4] ?_;refine aB fun k1 hk1=>?_;refine aq [6,7,8,9] ?_
 by_cases h1:¬ (p1.length:Int)=(p2.length:Int)
 ·rw [iP h1] at hm;refine aj rfl (bne_iff_ne.2 h1) ?_;refine aq [0,1,10] ?_;refine aA ?_;refine bi ?_
  cases hm
  exact kr 0
 ·rw [iN h1] at hm;refine ak rfl (bne_eq_false_iff_eq.2 (Decidable.not_not.1 h1)) ?_;refine ar ?_;refine ax (hk1 _ _ ?_);refine bk (S:=Unit) (V:=Unit) [0,1,4,5,10,11,12,13,14,15,16,17,18,19,20,21,22,23,24,25] (fun _ _=>[]) (fun _ _=>[]) (fun _=>gO=some r) ?_ ?_
  ·skip;refine aq [10] ?_
   refine aK ?_;obtain ⟨o1,hl1,hm1⟩:=bd hm;refine bQ (S:=Int) (V:=Unit) (O:=Unit ⊕ Bool) [4,5,11,12,13,14,15,16,17,18,19,20,21,22,23,24,25] (fun x3 _=>[(5,.c (.int .i64 x3))]) (fun x3 _=>[]) _ _ () hl1 ?_ ?_
   ·exact ls
   ·rintro x3 _ r1 hm hr1;replace hm:gP p1 p2 x3=some r1:=hm;refine bm ?_;unfold gP at hm;refine aB fun k2 hk2=>?_;refine aq [11,12,13] ?_
    by_cases h2:x3<(p1.length:Int)
    ·rw [iP h2] at hm;refine aj rfl (dT h2) ?_;refine ar ?_;refine ax (hk2 _ _ ?_);refine aB fun k3 hk3=>?_;refine aK ?_;obtain ⟨⟨hg3a,hg3b⟩,hm⟩:=gd hm;refine tL (a2 (em eS p1 x3.toNat) (em eS p2 x3.toNat)) [14,17,18,19,20,21,22,23,24] [0,0,3,7,0,0,48,112,255] [false,false,false,false,false,false,false,false,true] ?_
     by_cases h4:(p1.getD x3.toNat default)=(p2.getD x3.toNat default)
     ·rw [iP h4] at hm;refine ak rfl (by rw [show ((p1.getD x3.toNat default) == (p2.getD x3.toNat default))=true from (eQ h4)];rfl) ?_;refine ar ?_;refine aW ?_;refine ax (hk3 _ _ ?_);refine d6 ?_;refine bw (IntKind.wrap .i64 (x3+1)) () hm ?_;exact ls
     ·rw [iN h4] at hm;refine aj rfl (by rw [show ((p1.getD x3.toNat default) == (p2.getD x3.toNat default))=false from (nB h4)];rfl) ?_;refine aq [0,1,5,25] ?_;have ho5:=aD hm hr1;subst ho5;replace hm:some false=some r:=hm1;refine aA ?_;refine ao (bi (aO (ao (aw ?_))))
      cases hm
      exact kr 0
    ·rw [iN h2] at hm;refine ak rfl (dF h2) ?_;refine cj ?_;have ho6:=aD hm hr1;subst ho6;replace hm:gO=some r:=hm1;refine bP (bx (aX ?_));refine an () () hm ?_;exact ls
  ·rintro _ _ hm;replace hm:gO=some r:=hm;refine bm ?_;unfold gO at hm;refine aq [] ?_;refine aA ?_
   cases hm
   exact kr 0
theorem mh(p1 p2:List am)(r:Bool)(hm:iB p1 p2=some r):b9 Tryz.prog 61 [.c (.tree 2 (p1.map am.enc)),.c (.tree 2 (p2.map am.enc))] (.c (.bool r)):=by
 refine aF 26 [.tmp 4] Tryz.func61 rfl rfl rfl (by kernel_rfl) (by simp) ?_;refine bJ ?_;unfold iB at hm;refine aq [4] ?_;refine aB fun k1 hk1=>?_;refine aq [6,7,8,9] ?_
 by_cases h1:¬ (p1.length:Int)=(p2.length:Int)
 ·rw [iP h1] at hm;refine aj rfl (bne_iff_ne.2 h1) ?_;refine aq [0,1,10] ?_;refine aA ?_;refine bi ?_
  cases hm
  exact kr 0
 ·rw [iN h1] at hm;refine ak rfl (bne_eq_false_iff_eq.2 (Decidable.not_not.1 h1)) ?_;refine ar ?_;refine ax (hk1 _ _ ?_);refine bk (S:=Unit) (V:=Unit) [0,1,4,5,10,11,12,13,14,15,16,17,18,19,20,21,22,23,24,25] (fun _ _=>[]) (fun _ _=>[]) (fun _=>gQ=some r) ?_ ?_
  ·skip;refine aq [10] ?_
   refine aK ?_;obtain ⟨o1,hl1,hm1⟩:=bd hm;refine bQ (S:=Int) (V:=Unit) (O:=Unit ⊕ Bool) [4,5,11,12,13,14,15,16,17,18,19,20,21,22,23,24,25] (fun x3 _=>[(5,.c (.int .i64 x3))]) (fun x3 _=>[]) _ _ () hl1 ?_ ?_
   ·exact ls
   ·rintro x3 _ r1 hm hr1;replace hm:gR p1 p2 x3=some r1:=hm;refine bm ?_;unfold gR at hm;refine aB fun k2 hk2=>?_;refine aq [11,12,13] ?_
    by_cases h2:x3<(p1.length:Int)
    ·rw [iP h2] at hm;refine aj rfl (dT h2) ?_;refine ar ?_;refine ax (hk2 _ _ ?_);refine aB fun k3 hk3=>?_;refine aK ?_;obtain ⟨⟨hg3a,hg3b⟩,hm⟩:=gd hm;refine tL (a2 (em am.enc p1 x3.toNat) (em am.enc p2 x3.toNat)) [14,17,18,19,20,21,22,23,24] [0,0,3,7,0,0,48,112,255] [false,false,false,false,false,false,false,false,true] ?_
     by_cases h4:((p1.getD x3.toNat default).n)=((p2.getD x3.toNat default).n)∧((p1.getD x3.toNat default).name)=((p2.getD x3.toNat default).name)
     ·rw [iP h4] at hm;refine ak rfl (by rw [show ((((p1.getD x3.toNat default).n) == ((p2.getD x3.toNat default).n)) && (((p1.getD x3.toNat default).name) == ((p2.getD x3.toNat default).name)))=true from (by simpa [Bool.and_eq_true] using h4)];rfl) ?_;refine ar ?_;refine aW ?_;refine ax (hk3 _ _ ?_);refine d6 ?_;refine bw (IntKind.wrap .i64 (x3+1)) () hm ?_;exact ls
     ·rw [iN h4] at hm;refine aj rfl (by rw [show ((((p1.getD x3.toNat default).n) == ((p2.getD x3.toNat default).n)) && (((p1.getD x3.toNat default).name) == ((p2.getD x3.toNat default).name)))=false from (fB (fun hh=>h4 (by simpa [Bool.and_eq_true] using hh)))];rfl) ?_;refine aq [0,1,5,25] ?_;have ho5:=aD hm hr1;subst ho5;replace hm:some false=some r:=hm1;refine aA ?_;refine ao (bi (aO (ao (aw ?_))))
      cases hm
      exact kr 0
    ·rw [iN h2] at hm;refine ak rfl (dF h2) ?_;refine cj ?_;have ho6:=aD hm hr1;subst ho6;replace hm:gQ=some r:=hm1;refine bP (bx (aX ?_));refine an () () hm ?_;exact ls
  ·rintro _ _ hm;replace hm:gQ=some r:=hm;refine bm ?_;unfold gQ at hm;refine aq [] ?_;refine aA ?_
   cases hm
   exact kr 0
theorem fH(p1 p2:List ay)(r:Bool)(hm:dY p1 p2=some r):b9 Tryz.prog 24 [.c (.tree 3 (p1.map ay.enc)),.c (.tree 3 (p2.map ay.enc))] (.c (.bool r)):=by
 refine aF 59 [.tmp 4] Tryz.func24 rfl rfl rfl (by kernel_rfl) (by simp) ?_;refine bJ ?_;unfold dY at hm;refine aq [4] ?_;refine aB fun k1 hk1=>?_;refine aq [6,7,8,9] ?_
 by_cases h1:¬ (p1.length:Int)=(p2.length:Int)
 ·rw [iP h1] at hm;refine aj rfl (bne_iff_ne.2 h1) ?_;refine aq [0,1,10] ?_;refine aA ?_;refine bi ?_
  cases hm
  exact kr 0
 ·rw [iN h1] at hm;refine ak rfl (bne_eq_false_iff_eq.2 (Decidable.not_not.1 h1)) ?_;refine ar ?_;refine ax (hk1 _ _ ?_);refine bk (S:=Unit) (V:=Unit) [0,1,4,5,10,11,12,13,14,15,16,17,18,19,20,21,22,23,24,25,26,27,28,29,30,31,32,33,34,35,36,37,38,39,40,41,42,43,44,45,46,47,48,49,50,51,52,53,54,55,56,57,58] (fun _ _=>[]) (fun _ _=>[]) (fun _=>gS=some r) ?_ ?_
  ·skip;refine aq [10] ?_
   refine aK ?_;obtain ⟨o1,hl1,hm1⟩:=bd hm;refine bQ (S:=Int) (V:=Unit) (O:=Unit ⊕ Bool) [4,5,11,12,13,14,15,16,17,18,19,20,21,22,23,24,25,26,27,28,29,30,31,32,33,34,35,36,37,38,39,40,41,42,43,44,45,46,47,48,49,50,51,52,53,54,55,56,57,58] (fun x3 _=>[(5,.c (.int .i64 x3))]) (fun x3 _=>[]) _ _ () hl1 ?_ ?_
   ·exact ls
   ·rintro x3 _ r1 hm hr1;replace hm:gT p1 p2 x3=some r1:=hm;refine bm ?_;unfold gT at hm;refine aB fun k2 hk2=>?_;refine aq [11,12,13] ?_
    by_cases h2:x3<(p1.length:Int)
    ·rw [iP h2] at hm;refine aj rfl (dT h2) ?_;refine ar ?_;refine ax (hk2 _ _ ?_);refine aB fun k3 hk3=>?_;refine aK ?_;obtain ⟨⟨hg3a,hg3b⟩,hm⟩:=gd hm;refine pN [14,17,18,19,20,21,22,23,24,25,26,27,28,29,30,31,32,33,34,35,36,37,38,39,40,41,42,43,44,45,46,47,48,49,50,51,52,53,54,55,56,57] (by kernel_rfl) [0,0,3,7,15,0,0,96,224,480,1023,2047,4095,4095,16383,32767,65535,131071,4095,4095,790527,1839103,3936255,8130559,16777215,33554431,67108863,134217727,134217727,536870911,1073741823,2147483647,4294967295,134217727,134217727,25904021503,60263759871,128983236607,266422190079,549755813887,1099511627775,2199023255551] [false,false,false,false,false,false,false,false,false,false,true,true,false,false,false,false,false,false,false,false,false,false,false,false,true,true,true,false,false,false,false,false,false,false,false,false,false,false,false,true,true,true] (by kernel_rfl) fun k hk=>?_;refine om 12 rfl ?_;refine gax (a2 (em ay.enc p1 x3.toNat) (em ay.enc p2 x3.toNat)) ?_
     by_cases h4:((p1.getD x3.toNat default).name)=((p2.getD x3.toNat default).name)
     ·rw [iP h4] at hm;have h4b:=eQ h4
      have h4c:(!(((p1.getD x3.toNat default).name) == ((p2.getD x3.toNat default).name)))=false:=by rw [h4b];rfl
      refine om 15 rfl ?_;refine gax (a2 (em ay.enc p1 x3.toNat) (a2 (em ay.enc p2 x3.toNat) (a2 h4b h4c))) ?_
      by_cases h5:¬ (((p1.getD x3.toNat default).t).elem)=(((p2.getD x3.toNat default).t).elem)
      ·rw [iP h5] at hm;have h5b:=bne_iff_ne.2 h5;refine fI ?_;refine gax (a2 h4b (a2 h4c h5b)) ?_;refine hk _ _ ?_;clear hk k;refine aj rfl rfl ?_;refine aq [0,1,5,58] ?_;have ho6:=aD hm hr1;subst ho6;replace hm:some false=some r:=hm1;refine aA ?_;refine ao (bi (aO (ao (aw ?_))))
       cases hm
       exact kr 0
      ·rw [iN h5] at hm;have h5b:((((p1.getD x3.toNat default).t).elem) != (((p2.getD x3.toNat default).t).elem))=false:=bne_eq_false_iff_eq.2 (Decidable.not_not.1 h5);refine fI ?_;refine gax (a2 (em ay.enc p1 x3.toNat) (a2 (em ay.enc p2 x3.toNat) (a2 h4b (a2 h4c h5b)))) ?_;obtain ⟨y4,hc7,hm⟩:=bd hm;refine pat (fun _=>mh (((p1.getD x3.toNat default).t).n) (((p2.getD x3.toNat default).t).n) _ hc7) ?_;refine fI ?_;refine gax (a2 h4b (a2 h4c h5b)) ?_;refine hk _ _ ?_;clear hk k
       by_cases h8:y4=true
       ·rw [iP h8] at hm;refine ak rfl (by rw [show y4=true from (h8)];rfl) ?_;refine ar ?_;refine aW ?_;refine ax (hk3 _ _ ?_);refine d6 ?_;refine bw (IntKind.wrap .i64 (x3+1)) () hm ?_;exact ls
       ·rw [iN h8] at hm;refine aj rfl (by rw [show y4=false from (fB h8)];rfl) ?_;refine aq [0,1,5,58] ?_;have ho9:=aD hm hr1;subst ho9;replace hm:some false=some r:=hm1;refine aA ?_;refine ao (bi (aO (ao (aw ?_))))
        cases hm
        exact kr 0
     ·rw [iN h4] at hm;have h4b:=nB h4
      have h4c:(!(((p1.getD x3.toNat default).name) == ((p2.getD x3.toNat default).name)))=true:=by rw [h4b];rfl
      refine fI ?_;refine gax (a2 h4b h4c) ?_;refine hk _ _ ?_;clear hk k;refine aj rfl rfl ?_;refine aq [0,1,5,58] ?_;have ho10:=aD hm hr1;subst ho10;replace hm:some false=some r:=hm1;refine aA ?_;refine ao (bi (aO (ao (aw ?_))))
      cases hm
      exact kr 0
    ·rw [iN h2] at hm;refine ak rfl (dF h2) ?_;refine cj ?_;have ho11:=aD hm hr1;subst ho11;replace hm:gS=some r:=hm1;refine bP (bx (aX ?_));refine an () () hm ?_;exact ls
  ·rintro _ _ hm;replace hm:gS=some r:=hm;refine bm ?_;unfold gS at hm;refine aq [] ?_;refine aA ?_
   cases hm
   exact kr 0
theorem kg(p1 p2:List (List am))(r:Bool)(hm:gA p1 p2=some r):b9 Tryz.prog 25 [.c (.tree 1 (p1.map (eL 2 am.enc))),.c (.tree 1 (p2.map (eL 2 am.enc)))] (.c (.bool r)):=by
 refine aF 27 [.tmp 4] Tryz.func25 rfl rfl rfl (by kernel_rfl) (by simp) ?_;refine bJ ?_;unfold gA at hm;refine aq [4] ?_;refine aB fun k1 hk1=>?_;refine aq [6,7,8,9] ?_
 by_cases h1:¬ (p1.length:Int)=(p2.length:Int)
 ·rw [iP h1] at hm;refine aj rfl (bne_iff_ne.2 h1) ?_;refine aq [0,1,10] ?_;refine aA ?_;refine bi ?_
  cases hm
  exact kr 0
 ·rw [iN h1] at hm;refine ak rfl (bne_eq_false_iff_eq.2 (Decidable.not_not.1 h1)) ?_;refine ar ?_;refine ax (hk1 _ _ ?_);refine bk (S:=Unit) (V:=Unit) [0,1,4,5,10,11,12,13,14,15,16,17,18,19,20,21,22,23,24,25,26] (fun _ _=>[]) (fun _ _=>[]) (fun _=>gU=some r) ?_ ?_
  ·skip;refine aq [10] ?_
   refine aK ?_;obtain ⟨o1,hl1,hm1⟩:=bd hm;refine bQ (S:=Int) (V:=Unit) (O:=Unit ⊕ Bool) [4,5,11,12,13,14,15,16,17,18,19,20,21,22,23,24,25,26] (fun x3 _=>[(5,.c (.int .i64 x3))]) (fun x3 _=>[]) _ _ () hl1 ?_ ?_
   ·exact ls
   ·rintro x3 _ r1 hm hr1;replace hm:gV p1 p2 x3=some r1:=hm;refine bm ?_;unfold gV at hm;refine aB fun k2 hk2=>?_;refine aq [11,12,13] ?_
    by_cases h2:x3<(p1.length:Int)
    ·rw [iP h2] at hm;refine aj rfl (dT h2) ?_;refine ar ?_;refine ax (hk2 _ _ ?_);refine aB fun k3 hk3=>?_;refine aK ?_;obtain ⟨⟨hg3a,hg3b⟩,hm⟩:=gd hm;refine n9 [14,17,18,19,20,21,22,23,24,25] (by kernel_rfl) [0,0,3,7,0,0,48,112,255,511] [false,false,false,false,false,false,false,false,true,true] (by kernel_rfl) fun k hk=>?_;refine gax (a2 (em (eL 2 am.enc) p1 x3.toNat) (em (eL 2 am.enc) p2 x3.toNat)) ?_;obtain ⟨y4,hc4,hm⟩:=bd hm;refine AP (fun _=>mh (p1.getD x3.toNat default) (p2.getD x3.toNat default) _ hc4) ?_;refine ga ?_;refine hk _ _ ?_;clear hk k
     by_cases h5:y4=true
     ·rw [iP h5] at hm;refine ak rfl (by rw [show y4=true from (h5)];rfl) ?_;refine ar ?_;refine aW ?_;refine ax (hk3 _ _ ?_);refine d6 ?_;refine bw (IntKind.wrap .i64 (x3+1)) () hm ?_;exact ls
     ·rw [iN h5] at hm;refine aj rfl (by rw [show y4=false from (fB h5)];rfl) ?_;refine aq [0,1,5,26] ?_;have ho6:=aD hm hr1;subst ho6;replace hm:some false=some r:=hm1;refine aA ?_;refine ao (bi (aO (ao (aw ?_))))
      cases hm
      exact kr 0
    ·rw [iN h2] at hm;refine ak rfl (dF h2) ?_;refine cj ?_;have ho7:=aD hm hr1;subst ho7;replace hm:gU=some r:=hm1;refine bP (bx (aX ?_));refine an () () hm ?_;exact ls
  ·rintro _ _ hm;replace hm:gU=some r:=hm;refine bm ?_;unfold gU at hm;refine aq [] ?_;refine aA ?_
   cases hm
   exact kr 0
theorem oy(rcf:(List af)→(List af)→Option Bool)(hrec:∀ (p1:List af) (p2:List af) (r:Bool),rcf p1 p2=some r→b9 Tryz.prog 26 [.c (.tree 6 (p1.map af.enc)),.c (.tree 6 (p2.map af.enc))] (.c (.bool r)))(p1 p2:List af)(r:Bool)(hm:ir rcf p1 p2=some r):b9 Tryz.prog 26 [.c (.tree 6 (p1.map af.enc)),.c (.tree 6 (p2.map af.enc))] (.c (.bool r)):=by
 refine aF 95 [.tmp 4] Tryz.func26 rfl rfl rfl (by kernel_rfl) (by simp) ?_;refine bJ ?_;unfold ir at hm;refine aq [4] ?_;refine aB fun k1 hk1=>?_;refine aq [6,7,8,9] ?_
 by_cases h1:¬ (p1.length:Int)=(p2.length:Int)
 ·rw [iP h1] at hm;refine aj rfl (bne_iff_ne.2 h1) ?_;refine aq [0,1,10] ?_;refine aA ?_;refine bi ?_
  cases hm
  exact kr 0
 ·rw [iN h1] at hm;refine ak rfl (bne_eq_false_iff_eq.2 (Decidable.not_not.1 h1)) ?_;refine ar ?_;refine ax (hk1 _ _ ?_);refine bk (S:=Unit) (V:=Unit) [0,1,4,5,10,11,12,13,14,15,16,17,18,19,20,21,22,23,24,25,26,27,28,29,30,31,32,33,34,35,36,37,38,39,40,41,42,43,44,45,46,47,48,49,50,51,52,53,54,55,56,57,58,59,60,61,62,63,64,65,66,67,68,69,70,71,72,73,74,75,76,77,78,79,80,81,82,83,84,85,86,87,88,89,90,91,92,93,94] (fun _ _=>[]) (fun _ _=>[]) (fun _=>gW=some r) ?_ ?_
  ·skip;refine aq [10] ?_
   refine aK ?_;obtain ⟨o1,hl1,hm1⟩:=bd hm;refine bQ (S:=Int) (V:=Unit) (O:=Unit ⊕ Bool) [4,5,11,12,13,14,15,16,17,18,19,20,21,22,23,24,25,26,27,28,29,30,31,32,33,34,35,36,37,38,39,40,41,42,43,44,45,46,47,48,49,50,51,52,53,54,55,56,57,58,59,60,61,62,63,64,65,66,67,68,69,70,71,72,73,74,75,76,77,78,79,80,81,82,83,84,85,86,87,88,89,90,91,92,93,94] (fun x3 _=>[(5,.c (.int .i64 x3))]) (fun x3 _=>[]) _ _ () hl1 ?_ ?_
   ·exact ls
   ·rintro x3 _ r1 hm hr1;replace hm:gX rcf p1 p2 x3=some r1:=hm;refine bm ?_;unfold gX at hm;refine aB fun k2 hk2=>?_;refine aq [11,12,13] ?_
    by_cases h2:x3<(p1.length:Int)
    ·rw [iP h2] at hm;refine aj rfl (dT h2) ?_;refine ar ?_;refine ax (hk2 _ _ ?_);refine aB fun k3 hk3=>?_;refine aK ?_;obtain ⟨⟨hg3a,hg3b⟩,hm⟩:=gd hm;refine pN [14,17,18,19,20,21,22,23,24,25,26,27,28,29,30,31,32,33,34,35,36,37,38,39,40,41,42,43,44,45,46,47,48,49,50,51,52,53,54,55,56,57,58,59,60,61,62,63,64,65,66,67,68,69,70,71,72,73,74,75,76,77,78,79,80,81,82,83,84,85,86,87,88,89,90,91,92,93] (by kernel_rfl) [0,0,3,7,15,0,0,96,224,480,1023,2047,4095,4095,16383,32767,65535,4095,4095,397311,921599,1970175,4194303,8388607,16777215,33554431,33554431,134217727,268435455,536870911,33554431,33554431,3254779903,7549747199,16139681791,34359738367,68719476735,137438953471,274877906943,274877906943,1099511627775,2199023255551,4398046511103,274877906943,274877906943,26663156973567,61847529062399,132216273240063,281474976710655,562949953421311,1125899906842623,2251799813685247,2251799813685247,9007199254740991,18014398509481983,36028797018963967,2251799813685247,2251799813685247,218424581927469055,506654958079180799,1083115710382604287,2305843009213693951,4611686018427387903,9223372036854775807,18446744073709551615,36893488147419103231,36893488147419103231,147573952589676412927,295147905179352825855,590295810358705651711,36893488147419103231,36893488147419103231,3578668350299653013503,8301034833169298227199,17745767798908588654591,37778931862957161709567,75557863725914323419135,151115727451828646838271] [false,false,false,false,false,false,false,false,false,false,true,true,false,false,false,false,false,false,false,false,false,false,true,true,true,false,false,false,false,false,false,false,false,false,false,true,true,true,false,false,false,false,false,false,false,false,false,false,true,true,true,false,false,false,false,false,false,false,false,false,false,true,true,true,true,false,false,false,false,false,false,false,false,false,false,true,true,true] (by kernel_rfl) fun k hk=>?_;simp only [List.append];refine om 12 rfl ?_;simp (maxSteps:=3000000) only [bA,bT,tab,bX,reduceIte,↓reduceIte,reduceCtorEq,Int.reduceToNat,Nat.reduceDiv,Nat.reduceMod,Nat.reduceLT,Nat.reduceLeDiff,Nat.reduceAdd,Nat.reduceSub,Nat.reduceMul,Nat.reduceEqDiff,Nat.reduceBEq,Nat.reduceBNe,Nat.reduceGT,(a2 (em af.enc p1 x3.toNat) (em af.enc p2 x3.toNat))]
     repeat refine sd ?_
     by_cases h4:¬ ((p1.getD x3.toNat default).op)=((p2.getD x3.toNat default).op)
     ·rw [iP h4] at hm;have h4b:=bne_iff_ne.2 h4;refine fI ?_;simp (maxSteps:=3000000) only [bA,bT,tab,bX,reduceIte,↓reduceIte,reduceCtorEq,Int.reduceToNat,Nat.reduceDiv,Nat.reduceMod,Nat.reduceLT,Nat.reduceLeDiff,Nat.reduceAdd,Nat.reduceSub,Nat.reduceMul,Nat.reduceEqDiff,Nat.reduceBEq,Nat.reduceBNe,Nat.reduceGT,h4b]
      repeat refine sd ?_
      refine hk _ _ ?_;clear hk k;refine aj rfl rfl ?_;refine aq [0,1,5,94] ?_;have ho5:=aD hm hr1;subst ho5;replace hm:some false=some r:=hm1;refine aA ?_;refine ao (bi (aO (ao (aw ?_))))
      cases hm
      exact kr 0
     ·rw [iN h4] at hm;have h4b:(((p1.getD x3.toNat default).op) != ((p2.getD x3.toNat default).op))=false:=bne_eq_false_iff_eq.2 (Decidable.not_not.1 h4);refine om 13 rfl ?_;simp (maxSteps:=3000000) only [bA,bT,tab,bX,reduceIte,↓reduceIte,reduceCtorEq,Int.reduceToNat,Nat.reduceDiv,Nat.reduceMod,Nat.reduceLT,Nat.reduceLeDiff,Nat.reduceAdd,Nat.reduceSub,Nat.reduceMul,Nat.reduceEqDiff,Nat.reduceBEq,Nat.reduceBNe,Nat.reduceGT,(a2 (em af.enc p1 x3.toNat) (a2 (em af.enc p2 x3.toNat) h4b))]
      repeat refine sd ?_
      by_cases h6:¬ ((p1.getD x3.toNat default).k)=((p2.getD x3.toNat default).k)
      ·rw [iP h6] at hm;have h6b:=bne_iff_ne.2 h6;refine fI ?_;simp (maxSteps:=3000000) only [bA,bT,tab,bX,reduceIte,↓reduceIte,reduceCtorEq,Int.reduceToNat,Nat.reduceDiv,Nat.reduceMod,Nat.reduceLT,Nat.reduceLeDiff,Nat.reduceAdd,Nat.reduceSub,Nat.reduceMul,Nat.reduceEqDiff,Nat.reduceBEq,Nat.reduceBNe,Nat.reduceGT,(a2 h4b h6b)]
       repeat refine sd ?_
       refine hk _ _ ?_;clear hk k;refine aj rfl rfl ?_;refine aq [0,1,5,94] ?_;have ho7:=aD hm hr1;subst ho7;replace hm:some false=some r:=hm1;refine aA ?_;refine ao (bi (aO (ao (aw ?_))))
       cases hm
       exact kr 0
      ·rw [iN h6] at hm;have h6b:(((p1.getD x3.toNat default).k) != ((p2.getD x3.toNat default).k))=false:=bne_eq_false_iff_eq.2 (Decidable.not_not.1 h6);refine om 13 rfl ?_;simp (maxSteps:=3000000) only [bA,bT,tab,bX,reduceIte,↓reduceIte,reduceCtorEq,Int.reduceToNat,Nat.reduceDiv,Nat.reduceMod,Nat.reduceLT,Nat.reduceLeDiff,Nat.reduceAdd,Nat.reduceSub,Nat.reduceMul,Nat.reduceEqDiff,Nat.reduceBEq,Nat.reduceBNe,Nat.reduceGT,(a2 (em af.enc p1 x3.toNat) (a2 (em af.enc p2 x3.toNat) (a2 h4b h6b)))]
       repeat refine sd ?_
       by_cases h8:((p1.getD x3.toNat default).name)=((p2.getD x3.toNat default).name)
       ·rw [iP h8] at hm;have h8b:=eQ h8
        have h8c:(!(((p1.getD x3.toNat default).name) == ((p2.getD x3.toNat default).name)))=false:=by rw [h8b];rfl
        refine om 13 rfl ?_;simp (maxSteps:=3000000) only [bA,bT,tab,bX,reduceIte,↓reduceIte,reduceCtorEq,Int.reduceToNat,Nat.reduceDiv,Nat.reduceMod,Nat.reduceLT,Nat.reduceLeDiff,Nat.reduceAdd,Nat.reduceSub,Nat.reduceMul,Nat.reduceEqDiff,Nat.reduceBEq,Nat.reduceBNe,Nat.reduceGT,(a2 (em af.enc p1 x3.toNat) (a2 (em af.enc p2 x3.toNat) (a2 h4b (a2 h6b (a2 h8b h8c)))))]
        repeat refine sd ?_
        by_cases h9:¬ ((p1.getD x3.toNat default).n)=((p2.getD x3.toNat default).n)
        ·rw [iP h9] at hm;have h9b:=bne_iff_ne.2 h9;refine fI ?_;simp (maxSteps:=3000000) only [bA,bT,tab,bX,reduceIte,↓reduceIte,reduceCtorEq,Int.reduceToNat,Nat.reduceDiv,Nat.reduceMod,Nat.reduceLT,Nat.reduceLeDiff,Nat.reduceAdd,Nat.reduceSub,Nat.reduceMul,Nat.reduceEqDiff,Nat.reduceBEq,Nat.reduceBNe,Nat.reduceGT,(a2 h4b (a2 h6b (a2 h8b (a2 h8c h9b))))]
         repeat refine sd ?_
         refine hk _ _ ?_;clear hk k;refine aj rfl rfl ?_;refine aq [0,1,5,94] ?_;have ho10:=aD hm hr1;subst ho10;replace hm:some false=some r:=hm1;refine aA ?_;refine ao (bi (aO (ao (aw ?_))))
         cases hm
         exact kr 0
        ·rw [iN h9] at hm;have h9b:(((p1.getD x3.toNat default).n) != ((p2.getD x3.toNat default).n))=false:=bne_eq_false_iff_eq.2 (Decidable.not_not.1 h9);refine fI ?_;simp (maxSteps:=3000000) only [bA,bT,tab,bX,reduceIte,↓reduceIte,reduceCtorEq,Int.reduceToNat,Nat.reduceDiv,Nat.reduceMod,Nat.reduceLT,Nat.reduceLeDiff,Nat.reduceAdd,Nat.reduceSub,Nat.reduceMul,Nat.reduceEqDiff,Nat.reduceBEq,Nat.reduceBNe,Nat.reduceGT,(a2 (em af.enc p1 x3.toNat) (a2 (em af.enc p2 x3.toNat) (a2 h4b (a2 h6b (a2 h8b (a2 h8c h9b))))))]
         repeat refine sd ?_
         obtain ⟨y4,hc11,hm⟩:=bd hm;refine pat (fun _=>kg ((p1.getD x3.toNat default).s) ((p2.getD x3.toNat default).s) _ hc11) ?_
         by_cases h12:y4=true
         ·rw [iP h12] at hm;have h12b:=h12
          have h12c:(!y4)=false:=by rw [h12b];rfl
          refine fI ?_;simp (maxSteps:=3000000) only [bA,bT,tab,bX,reduceIte,↓reduceIte,reduceCtorEq,Int.reduceToNat,Nat.reduceDiv,Nat.reduceMod,Nat.reduceLT,Nat.reduceLeDiff,Nat.reduceAdd,Nat.reduceSub,Nat.reduceMul,Nat.reduceEqDiff,Nat.reduceBEq,Nat.reduceBNe,Nat.reduceGT,(a2 (em af.enc p1 x3.toNat) (a2 (em af.enc p2 x3.toNat) (a2 h4b (a2 h6b (a2 h8b (a2 h8c (a2 h9b (a2 h12b h12c))))))))]
          repeat refine sd ?_
          obtain ⟨y5,hc13,hm⟩:=bd hm;refine pat (fun _=>hrec ((p1.getD x3.toNat default).l) ((p2.getD x3.toNat default).l) _ hc13) ?_;refine fI ?_;simp (maxSteps:=3000000) only [bA,bT,tab,bX,reduceIte,↓reduceIte,reduceCtorEq,Int.reduceToNat,Nat.reduceDiv,Nat.reduceMod,Nat.reduceLT,Nat.reduceLeDiff,Nat.reduceAdd,Nat.reduceSub,Nat.reduceMul,Nat.reduceEqDiff,Nat.reduceBEq,Nat.reduceBNe,Nat.reduceGT,(a2 h4b (a2 h6b (a2 h8b (a2 h8c (a2 h9b (a2 h12b h12c))))))]
          repeat refine sd ?_
          refine hk _ _ ?_;clear hk k
          by_cases h14:y5=true
          ·rw [iP h14] at hm;refine ak rfl (by rw [show y5=true from (h14)];rfl) ?_;refine ar ?_;refine aW ?_;refine ax (hk3 _ _ ?_);refine d6 ?_;refine bw (IntKind.wrap .i64 (x3+1)) () hm ?_;exact la
          ·rw [iN h14] at hm;refine aj rfl (by rw [show y5=false from (fB h14)];rfl) ?_;refine aq [0,1,5,94] ?_;have ho15:=aD hm hr1;subst ho15;replace hm:some false=some r:=hm1;refine aA ?_;refine ao (bi (aO (ao (aw ?_))))
           cases hm
           exact kr 0
         ·rw [iN h12] at hm;have h12b:=fB h12
          have h12c:(!y4)=true:=by rw [h12b];rfl
          refine fI ?_;simp (maxSteps:=3000000) only [bA,bT,tab,bX,reduceIte,↓reduceIte,reduceCtorEq,Int.reduceToNat,Nat.reduceDiv,Nat.reduceMod,Nat.reduceLT,Nat.reduceLeDiff,Nat.reduceAdd,Nat.reduceSub,Nat.reduceMul,Nat.reduceEqDiff,Nat.reduceBEq,Nat.reduceBNe,Nat.reduceGT,(a2 h4b (a2 h6b (a2 h8b (a2 h8c (a2 h9b (a2 h12b h12c))))))]
          repeat refine sd ?_
          refine hk _ _ ?_;clear hk k;refine aj rfl rfl ?_;refine aq [0,1,5,94] ?_;have ho16:=aD hm hr1;subst ho16;replace hm:some false=some r:=hm1;refine aA ?_;refine ao (bi (aO (ao (aw ?_))))
          cases hm
          exact kr 0
       ·rw [iN h8] at hm;have h8b:=nB h8
        have h8c:(!(((p1.getD x3.toNat default).name) == ((p2.getD x3.toNat default).name)))=true:=by rw [h8b];rfl
        refine fI ?_;simp (maxSteps:=3000000) only [bA,bT,tab,bX,reduceIte,↓reduceIte,reduceCtorEq,Int.reduceToNat,Nat.reduceDiv,Nat.reduceMod,Nat.reduceLT,Nat.reduceLeDiff,Nat.reduceAdd,Nat.reduceSub,Nat.reduceMul,Nat.reduceEqDiff,Nat.reduceBEq,Nat.reduceBNe,Nat.reduceGT,(a2 h4b (a2 h6b (a2 h8b h8c)))]
        repeat refine sd ?_
        refine hk _ _ ?_;clear hk k;refine aj rfl rfl ?_;refine aq [0,1,5,94] ?_;have ho17:=aD hm hr1;subst ho17;replace hm:some false=some r:=hm1;refine aA ?_;refine ao (bi (aO (ao (aw ?_))))
        cases hm
        exact kr 0
    ·rw [iN h2] at hm;refine ak rfl (dF h2) ?_;refine cj ?_;have ho18:=aD hm hr1;subst ho18;replace hm:gW=some r:=hm1;refine bP (bx (aX ?_));refine an () () hm ?_;exact ls
  ·rintro _ _ hm;replace hm:gW=some r:=hm;refine bm ?_;unfold gW at hm;refine aq [] ?_;refine aA ?_
   cases hm
   exact kr 0
theorem mi(fuel:Nat)(p1 p2:List af)(r:Bool)(hm:kj fuel p1 p2=some r):b9 Tryz.prog 26 [.c (.tree 6 (p1.map af.enc)),.c (.tree 6 (p2.map af.enc))] (.c (.bool r)):=by
  have key:∀ (n:Nat) (p1:List af) (p2:List af) (r:Bool),fj n p1 p2=some r→b9 Tryz.prog 26 [.c (.tree 6 (p1.map af.enc)),.c (.tree 6 (p2.map af.enc))] (.c (.bool r)):=by
    intro n
    induction n with
    |zero =>
      intro p1 p2  r hm;simp [fj] at hm
    |succ n ih =>
      intro p1 p2  r hm;exact oy (fj n) ih p1 p2  r hm
  exact key fuel p1 p2  r hm
theorem oz(fuel:Nat)(p1 p2:aH)(p3 r:Bool)(hm:it fuel p1 p2 p3=some r):b9 Tryz.prog 9 [.a [.tree 7 (p1.nodes.map aS.enc)],.a [.tree 7 (p2.nodes.map aS.enc)],.c (.bool p3)] (.c (.bool r)):=by
 refine aF 149 [.tmp 6] Tryz.func9 rfl rfl rfl (by kernel_rfl) (by simp) ?_;refine bJ ?_;unfold it at hm;refine aq [0,1,6] ?_;refine aB fun k1 hk1=>?_;refine aq [13,14,15,16,17,18] ?_
 by_cases h1:¬ (p1.nodes.length:Int)=(p2.nodes.length:Int)
 ·rw [iP h1] at hm;refine aj rfl (bne_iff_ne.2 h1) ?_;refine aq [2,3,4,19] ?_;refine aA ?_;refine bi ?_
  cases hm
  exact kr 0
 ·rw [iN h1] at hm;refine ak rfl (bne_eq_false_iff_eq.2 (Decidable.not_not.1 h1)) ?_;refine ar ?_;refine ax (hk1 _ _ ?_);refine bk (S:=Unit) (V:=Unit) [2,3,4,6,7,8,9,10,11,12,19,20,21,22,23,24,25,26,27,28,29,30,31,32,33,34,35,36,37,38,39,40,41,42,43,44,45,46,47,48,49,50,51,52,53,54,55,56,57,58,59,60,61,62,63,64,65,66,67,68,69,70,71,72,73,74,75,76,77,78,79,80,81,82,83,84,85,86,87,88,89,90,91,92,93,94,95,96,97,98,99,100,101,102,103,104,105,106,107,108,109,110,111,112,113,114,115,116,117,118,119,120,121,122,123,124,125,126,127,128,129,130,131,132,133,134,135,136,137,138,139,140,141,142,143,144,145,146,147,148] (fun _ _=>[]) (fun _ _=>[.box [.tree 7 (p1.nodes.map aS.enc)],.box [.tree 7 (p2.nodes.map aS.enc)]]) (fun _=>fL=some r) ?_ ?_
  ·skip;refine aq [19] ?_
   refine aK ?_;obtain ⟨o1,hl1,hm1⟩:=bd hm;refine bQ (S:=Int) (V:=Unit) (O:=Unit ⊕ Bool) [6,7,8,9,10,11,12,20,21,22,23,24,25,26,27,28,29,30,31,32,33,34,35,36,37,38,39,40,41,42,43,44,45,46,47,48,49,50,51,52,53,54,55,56,57,58,59,60,61,62,63,64,65,66,67,68,69,70,71,72,73,74,75,76,77,78,79,80,81,82,83,84,85,86,87,88,89,90,91,92,93,94,95,96,97,98,99,100,101,102,103,104,105,106,107,108,109,110,111,112,113,114,115,116,117,118,119,120,121,122,123,124,125,126,127,128,129,130,131,132,133,134,135,136,137,138,139,140,141,142,143,144,145,146,147,148] (fun x3 _=>[(7,.c (.int .i64 x3))]) (fun x3 _=>[.box [.tree 7 (p1.nodes.map aS.enc)],.box [.tree 7 (p2.nodes.map aS.enc)]]) _ _ () hl1 ?_ ?_
   ·exact ls
   ·rintro x3 _ r1 hm hr1;replace hm:fO fuel p1 p2 p3 x3=some r1:=hm;refine bm ?_;unfold fO at hm;refine aB fun k2 hk2=>?_;refine aq [20,21,22,23] ?_
    by_cases h2:x3<(p1.nodes.length:Int)
    ·rw [iP h2] at hm;refine aj rfl (dT h2) ?_;refine ar ?_;refine ax (hk2 _ _ ?_);refine bk (S:=Unit) (V:=Unit) [6,8,9,10,11,12,24,27,28,29,30,31,32,33,34,35,36,37,38,39,40,41,42,43,44,45,46,47,48,49,50,51,52,53,54,55,56,57,58,59,60,61,62,63,64,65,66,67,68,69,70,71,72,73,74,75,76,77,78,79,80,81,82,83,84,85,86,87,88,89,90,91,92,93,94,95,96,97,98,99,100,101,102,103,104,105,106,107,108,109,110,111,112,113,114,115,116,117,118,119,120,121,122,123,124,125,126,127,128,129,130,131,132,133,134,135,136,137,138,139,140,141,142,143,144,145,146,147,148] (fun _ _=>[]) (fun _ _=>[.box [.tree 7 (p1.nodes.map aS.enc)],.box [.tree 7 (p2.nodes.map aS.enc)]]) (fun _=>fM x3=some r1) ?_ ?_
     ·skip;refine aK ?_
      obtain ⟨⟨hg3a,hg3b⟩,hm⟩:=gd hm;refine tY [24,27,28,29,30,31,32,33,34,35,36] [8,9] [0,1,0,7,15,0,32,0,224,480,0,0,3103,8191] [false,false,false,false,false,false,false,false,false,false,false,false,false,true] (by kernel_rfl) (by kernel_rfl) fun k kp hk=>?_;simp only [eY,kM,mR,ni,jO,oX,inL,List.cons_append,List.nil_append,reduceIte,↓reduceIte,Nat.reduceEqDiff,reduceCtorEq];refine gax (a2 (em aS.enc p1.nodes x3.toNat) (em aS.enc p2.nodes x3.toNat)) ?_;refine go ?_;refine hk _ _ ?_;clear hk k kp;refine bk (S:=Unit) (V:=Unit) [6,37,38,39,40,41,42,43,44,45,46,47,48,49,50,51,52,53,54,55,56,57,58,59,60,61,62,63,64,65,66,67,68,69,70,71,72,73,74,75,76,77,78,79,80,81,82,83,84,85,86,87,88,89,90,91,92] (fun _ _=>[]) (fun _ _=>[.box [.tree 7 (p1.nodes.map aS.enc)],.box [.tree 7 (p2.nodes.map aS.enc)],.box [.str ((p1.nodes.getD x3.toNat default).name),.int .i64 ((p1.nodes.getD x3.toNat default).at_),.tree 1 (((p1.nodes.getD x3.toNat default).sizes).map eS),.tree 3 (((p1.nodes.getD x3.toNat default).in_).map ay.enc),.tree 3 (((p1.nodes.getD x3.toNat default).out_).map ay.enc),.tree 3 (((p1.nodes.getD x3.toNat default).local_).map ay.enc),.tree 5 (((p1.nodes.getD x3.toNat default).eqs).map TEq.enc)],.box [.str ((p2.nodes.getD x3.toNat default).name),.int .i64 ((p2.nodes.getD x3.toNat default).at_),.tree 1 (((p2.nodes.getD x3.toNat default).sizes).map eS),.tree 3 (((p2.nodes.getD x3.toNat default).in_).map ay.enc),.tree 3 (((p2.nodes.getD x3.toNat default).out_).map ay.enc),.tree 3 (((p2.nodes.getD x3.toNat default).local_).map ay.enc),.tree 5 (((p2.nodes.getD x3.toNat default).eqs).map TEq.enc)]]) (fun _=>dl fuel p1 p2 p3 x3=some r1) ?_ ?_
      ·skip;refine cM [37,38,39,40,41,42,43,44,45,46,47,48,49,50,51,52,53,54,55,56,57,58,59,60,61,62,63,64,65,66,67,68,69,70,71,72,73,74,75,76,77,78,79,80,81,82,83,84,85,86,87,88,89,90,91] fun k kp hk hp=>?_
       refine aC 6 ?_;refine go ?_
       by_cases h41:((p1.nodes.getD x3.toNat default).name)=((p2.nodes.getD x3.toNat default).name)
       ·rw [iP h41] at hm;have h41b:=eQ h41
        have h41c:(!(((p1.nodes.getD x3.toNat default).name) == ((p2.nodes.getD x3.toNat default).name)))=false:=by rw [h41b];rfl
        by_cases h42:p3=true
        ·rw [iP h42] at hm;have h42b:=h42;refine aC 10 ?_;refine gox (a2 h41b (a2 h41c h42b)) ?_
         by_cases h43:¬ ((p1.nodes.getD x3.toNat default).at_)=((p2.nodes.getD x3.toNat default).at_)
         ·rw [iP h43] at hm;have h43b:=bne_iff_ne.2 h43;refine aa ?_;refine gox (a2 h41b (a2 h41c (a2 h42b h43b))) ?_;refine hk _ _ ?_;clear hk hp k kp;refine aj rfl rfl ?_;refine aq [2,3,4,7,8,9,92] ?_;have ho44:=aD hm hr1;subst ho44;replace hm:some false=some r:=hm1;refine aA ?_;refine aw (ao (aw (aO (ao (aw ?_)))))
          cases hm
          exact kr 0
         ·rw [iN h43] at hm;have h43b:(((p1.nodes.getD x3.toNat default).at_) != ((p2.nodes.getD x3.toNat default).at_))=false:=bne_eq_false_iff_eq.2 (Decidable.not_not.1 h43);refine aa ?_;refine gox (a2 h41b (a2 h41c (a2 h42b h43b))) ?_;obtain ⟨y14,hc45,hm⟩:=bd hm;refine RP (fun _=>jc ((p1.nodes.getD x3.toNat default).sizes) ((p2.nodes.getD x3.toNat default).sizes) _ hc45) ?_
          by_cases h46:y14=true
          ·rw [iP h46] at hm;have h46b:=h46
           have h46c:(!y14)=false:=by rw [h46b];rfl
           refine aa ?_;refine gox (a2 h41b (a2 h41c (a2 h42b (a2 h43b (a2 h46b h46c))))) ?_;obtain ⟨y15,hc47,hm⟩:=bd hm;refine RP (fun _=>fH ((p1.nodes.getD x3.toNat default).in_) ((p2.nodes.getD x3.toNat default).in_) _ hc47) ?_
           by_cases h48:y15=true
           ·rw [iP h48] at hm;have h48b:=h48
            have h48c:(!y15)=false:=by rw [h48b];rfl
            refine aa ?_;refine gox (a2 h41b (a2 h41c (a2 h42b (a2 h43b (a2 h46b (a2 h46c (a2 h48b h48c))))))) ?_;obtain ⟨y16,hc49,hm⟩:=bd hm;refine RP (fun _=>fH ((p1.nodes.getD x3.toNat default).out_) ((p2.nodes.getD x3.toNat default).out_) _ hc49) ?_
            by_cases h50:y16=true
            ·rw [iP h50] at hm;have h50b:=h50
             have h50c:(!y16)=false:=by rw [h50b];rfl
             refine aa ?_;refine gox (a2 h41b (a2 h41c (a2 h42b (a2 h43b (a2 h46b (a2 h46c (a2 h48b (a2 h48c (a2 h50b h50c))))))))) ?_;obtain ⟨y17,hc51,hm⟩:=bd hm;refine RP (fun _=>fH ((p1.nodes.getD x3.toNat default).local_) ((p2.nodes.getD x3.toNat default).local_) _ hc51) ?_
             by_cases h52:y17=true
             ·rw [iP h52] at hm;have h52b:=h52
              have h52c:(!y17)=false:=by rw [h52b];rfl
              refine aa ?_;refine gox (a2 h41b (a2 h41c (a2 h42b (a2 h43b (a2 h46b (a2 h46c (a2 h48b (a2 h48c (a2 h50b (a2 h50c (a2 h52b h52c))))))))))) ?_;refine hk _ _ ?_;clear hk hp k kp
              by_cases h53:¬ (((p1.nodes.getD x3.toNat default).eqs).length:Int)=(((p2.nodes.getD x3.toNat default).eqs).length:Int)
              ·rw [iP h53] at hm;refine aj rfl (bne_iff_ne.2 h53) ?_;refine aq [2,3,4,7,8,9,92] ?_;have ho54:=aD hm hr1;subst ho54;replace hm:some false=some r:=hm1;refine aA ?_;refine aw (ao (aw (aO (ao (aw ?_)))))
               cases hm
               exact kr 0
              ·rw [iN h53] at hm;refine ak rfl (bne_eq_false_iff_eq.2 (Decidable.not_not.1 h53)) ?_;refine ar ?_;refine an () () hm ?_;exact la
             ·rw [iN h52] at hm;have h52b:=fB h52
              have h52c:(!y17)=true:=by rw [h52b];rfl
              refine aa ?_;refine gox (a2 h41b (a2 h41c (a2 h42b (a2 h43b (a2 h46b (a2 h46c (a2 h48b (a2 h48c (a2 h50b (a2 h50c (a2 h52b h52c))))))))))) ?_;refine hk _ _ ?_;clear hk hp k kp;refine aj rfl rfl ?_;refine aq [2,3,4,7,8,9,92] ?_;have ho55:=aD hm hr1;subst ho55;replace hm:some false=some r:=hm1;refine aA ?_;refine aw (ao (aw (aO (ao (aw ?_)))))
              cases hm
              exact kr 0
            ·rw [iN h50] at hm;have h50b:=fB h50
             have h50c:(!y16)=true:=by rw [h50b];rfl
             refine aa ?_;refine gox (a2 h41b (a2 h41c (a2 h42b (a2 h43b (a2 h46b (a2 h46c (a2 h48b (a2 h48c (a2 h50b h50c))))))))) ?_;refine hk _ _ ?_;clear hk hp k kp;refine aj rfl rfl ?_;refine aq [2,3,4,7,8,9,92] ?_;have ho56:=aD hm hr1;subst ho56;replace hm:some false=some r:=hm1;refine aA ?_;refine aw (ao (aw (aO (ao (aw ?_)))))
             cases hm
             exact kr 0
           ·rw [iN h48] at hm;have h48b:=fB h48
            have h48c:(!y15)=true:=by rw [h48b];rfl
            refine aa ?_;refine gox (a2 h41b (a2 h41c (a2 h42b (a2 h43b (a2 h46b (a2 h46c (a2 h48b h48c))))))) ?_;refine hk _ _ ?_;clear hk hp k kp;refine aj rfl rfl ?_;refine aq [2,3,4,7,8,9,92] ?_;have ho57:=aD hm hr1;subst ho57;replace hm:some false=some r:=hm1;refine aA ?_;refine aw (ao (aw (aO (ao (aw ?_)))))
            cases hm
            exact kr 0
          ·rw [iN h46] at hm;have h46b:=fB h46
           have h46c:(!y14)=true:=by rw [h46b];rfl
           refine aa ?_;refine gox (a2 h41b (a2 h41c (a2 h42b (a2 h43b (a2 h46b h46c))))) ?_;refine hk _ _ ?_;clear hk hp k kp;refine aj rfl rfl ?_;refine aq [2,3,4,7,8,9,92] ?_;have ho58:=aD hm hr1;subst ho58;replace hm:some false=some r:=hm1;refine aA ?_;refine aw (ao (aw (aO (ao (aw ?_)))))
           cases hm
           exact kr 0
        ·rw [iN h42] at hm;have h42b:=fB h42;refine aa ?_;refine gox (a2 h41b (a2 h41c h42b)) ?_;obtain ⟨y18,hc59,hm⟩:=bd hm;refine RP (fun _=>jc ((p1.nodes.getD x3.toNat default).sizes) ((p2.nodes.getD x3.toNat default).sizes) _ hc59) ?_
         by_cases h60:y18=true
         ·rw [iP h60] at hm;have h60b:=h60
          have h60c:(!y18)=false:=by rw [h60b];rfl
          refine aa ?_;refine gox (a2 h41b (a2 h41c (a2 h42b (a2 h60b h60c)))) ?_;obtain ⟨y19,hc61,hm⟩:=bd hm;refine RP (fun _=>fH ((p1.nodes.getD x3.toNat default).in_) ((p2.nodes.getD x3.toNat default).in_) _ hc61) ?_
          by_cases h62:y19=true
          ·rw [iP h62] at hm;have h62b:=h62
           have h62c:(!y19)=false:=by rw [h62b];rfl
           refine aa ?_;refine gox (a2 h41b (a2 h41c (a2 h42b (a2 h60b (a2 h60c (a2 h62b h62c)))))) ?_;obtain ⟨y20,hc63,hm⟩:=bd hm;refine RP (fun _=>fH ((p1.nodes.getD x3.toNat default).out_) ((p2.nodes.getD x3.toNat default).out_) _ hc63) ?_
           by_cases h64:y20=true
           ·rw [iP h64] at hm;have h64b:=h64
            have h64c:(!y20)=false:=by rw [h64b];rfl
            refine aa ?_;refine gox (a2 h41b (a2 h41c (a2 h42b (a2 h60b (a2 h60c (a2 h62b (a2 h62c (a2 h64b h64c)))))))) ?_;obtain ⟨y21,hc65,hm⟩:=bd hm;refine RP (fun _=>fH ((p1.nodes.getD x3.toNat default).local_) ((p2.nodes.getD x3.toNat default).local_) _ hc65) ?_
            by_cases h66:y21=true
            ·rw [iP h66] at hm;have h66b:=h66
             have h66c:(!y21)=false:=by rw [h66b];rfl
             refine aa ?_;refine gox (a2 h41b (a2 h41c (a2 h42b (a2 h60b (a2 h60c (a2 h62b (a2 h62c (a2 h64b (a2 h64c (a2 h66b h66c)))))))))) ?_;refine hk _ _ ?_;clear hk hp k kp
             by_cases h67:¬ (((p1.nodes.getD x3.toNat default).eqs).length:Int)=(((p2.nodes.getD x3.toNat default).eqs).length:Int)
             ·rw [iP h67] at hm;refine aj rfl (bne_iff_ne.2 h67) ?_;refine aq [2,3,4,7,8,9,92] ?_;have ho68:=aD hm hr1;subst ho68;replace hm:some false=some r:=hm1;refine aA ?_;refine aw (ao (aw (aO (ao (aw ?_)))))
              cases hm
              exact kr 0
             ·rw [iN h67] at hm;refine ak rfl (bne_eq_false_iff_eq.2 (Decidable.not_not.1 h67)) ?_;refine ar ?_;refine an () () hm ?_;exact la
            ·rw [iN h66] at hm;have h66b:=fB h66
             have h66c:(!y21)=true:=by rw [h66b];rfl
             refine aa ?_;refine gox (a2 h41b (a2 h41c (a2 h42b (a2 h60b (a2 h60c (a2 h62b (a2 h62c (a2 h64b (a2 h64c (a2 h66b h66c)))))))))) ?_;refine hk _ _ ?_;clear hk hp k kp;refine aj rfl rfl ?_;refine aq [2,3,4,7,8,9,92] ?_;have ho69:=aD hm hr1;subst ho69;replace hm:some false=some r:=hm1;refine aA ?_;refine aw (ao (aw (aO (ao (aw ?_)))))
             cases hm
             exact kr 0
           ·rw [iN h64] at hm;have h64b:=fB h64
            have h64c:(!y20)=true:=by rw [h64b];rfl
            refine aa ?_;refine gox (a2 h41b (a2 h41c (a2 h42b (a2 h60b (a2 h60c (a2 h62b (a2 h62c (a2 h64b h64c)))))))) ?_;refine hk _ _ ?_;clear hk hp k kp;refine aj rfl rfl ?_;refine aq [2,3,4,7,8,9,92] ?_;have ho70:=aD hm hr1;subst ho70;replace hm:some false=some r:=hm1;refine aA ?_;refine aw (ao (aw (aO (ao (aw ?_)))))
            cases hm
            exact kr 0
          ·rw [iN h62] at hm;have h62b:=fB h62
           have h62c:(!y19)=true:=by rw [h62b];rfl
           refine aa ?_;refine gox (a2 h41b (a2 h41c (a2 h42b (a2 h60b (a2 h60c (a2 h62b h62c)))))) ?_;refine hk _ _ ?_;clear hk hp k kp;refine aj rfl rfl ?_;refine aq [2,3,4,7,8,9,92] ?_;have ho71:=aD hm hr1;subst ho71;replace hm:some false=some r:=hm1;refine aA ?_;refine aw (ao (aw (aO (ao (aw ?_)))))
           cases hm
           exact kr 0
         ·rw [iN h60] at hm;have h60b:=fB h60
          have h60c:(!y18)=true:=by rw [h60b];rfl
          refine aa ?_;refine gox (a2 h41b (a2 h41c (a2 h42b (a2 h60b h60c)))) ?_;refine hk _ _ ?_;clear hk hp k kp;refine aj rfl rfl ?_;refine aq [2,3,4,7,8,9,92] ?_;have ho72:=aD hm hr1;subst ho72;replace hm:some false=some r:=hm1;refine aA ?_;refine aw (ao (aw (aO (ao (aw ?_)))))
          cases hm
          exact kr 0
       ·rw [iN h41] at hm;have h41b:=nB h41
        have h41c:(!(((p1.nodes.getD x3.toNat default).name) == ((p2.nodes.getD x3.toNat default).name)))=true:=by rw [h41b];rfl
        refine aa ?_;refine gox (a2 h41b h41c) ?_;refine hk _ _ ?_;clear hk hp k kp;refine aj rfl rfl ?_;refine aq [2,3,4,7,8,9,92] ?_;have ho73:=aD hm hr1;subst ho73;replace hm:some false=some r:=hm1;refine aA ?_;refine aw (ao (aw (aO (ao (aw ?_)))))
        cases hm
        exact kr 0
      ·rintro _ _ hm;replace hm:dl fuel p1 p2 p3 x3=some r1:=hm;refine bm ?_;unfold dl at hm;refine aq [] ?_;refine aK ?_;obtain ⟨o2,hl2,hm2⟩:=bd hm;refine bQ (S:=Int) (V:=Unit) (O:=Unit ⊕ Bool) [6,10,11,12,93,94,95,96,97,98,99,100,101,102,103,104,105,106,107,108,109,110,111,112,113,114,115,116,117,118,119,120,121,122,123,124,125,126,127,128,129,130,131,132,133,134,135,136,137,138,139,140,141,142,143,144,145,146,147,148] (fun x6 _=>[(10,.c (.int .i64 x6))]) (fun x6 _=>[.box [.tree 7 (p1.nodes.map aS.enc)],.box [.tree 7 (p2.nodes.map aS.enc)],.box [.str ((p1.nodes.getD x3.toNat default).name),.int .i64 ((p1.nodes.getD x3.toNat default).at_),.tree 1 (((p1.nodes.getD x3.toNat default).sizes).map eS),.tree 3 (((p1.nodes.getD x3.toNat default).in_).map ay.enc),.tree 3 (((p1.nodes.getD x3.toNat default).out_).map ay.enc),.tree 3 (((p1.nodes.getD x3.toNat default).local_).map ay.enc),.tree 5 (((p1.nodes.getD x3.toNat default).eqs).map TEq.enc)],.box [.str ((p2.nodes.getD x3.toNat default).name),.int .i64 ((p2.nodes.getD x3.toNat default).at_),.tree 1 (((p2.nodes.getD x3.toNat default).sizes).map eS),.tree 3 (((p2.nodes.getD x3.toNat default).in_).map ay.enc),.tree 3 (((p2.nodes.getD x3.toNat default).out_).map ay.enc),.tree 3 (((p2.nodes.getD x3.toNat default).local_).map ay.enc),.tree 5 (((p2.nodes.getD x3.toNat default).eqs).map TEq.enc)]]) _ _ () hl2 ?_ ?_
       ·exact ls
       ·rintro x6 _ r2 hm hr2;replace hm:fN fuel p1 p2 p3 x3 x6=some r2:=hm;refine bm ?_;unfold fN at hm;refine aB fun k3 hk3=>?_;refine aq [93,94,95,96] ?_
        by_cases h4:x6<(((p1.nodes.getD x3.toNat default).eqs).length:Int)
        ·rw [iP h4] at hm;refine aj rfl (dT h4) ?_;refine ar ?_;refine ax (hk3 _ _ ?_);refine aB fun k4 hk4=>?_;refine aK ?_;obtain ⟨⟨hg5a,hg5b⟩,hm⟩:=gd hm;refine tY [97,100,101,102,103,104,105,106,107,108,109] [11,12] [0,1,0,7,15,0,32,0,224,480,0,0,3103,8191] [false,false,false,false,false,false,false,false,false,false,false,false,false,true] (by kernel_rfl) (by kernel_rfl) fun k kp hk=>?_;simp only [eY,kM,mR,ni,jO,oX,inL,List.cons_append,List.nil_append,reduceIte,↓reduceIte,Nat.reduceEqDiff,reduceCtorEq];refine gax (a2 (em TEq.enc ((p1.nodes.getD x3.toNat default).eqs) x6.toNat) (em TEq.enc ((p2.nodes.getD x3.toNat default).eqs) x6.toNat)) ?_;refine go ?_;refine hk _ _ ?_;clear hk k kp
         by_cases h6:p3=true
         ·rw [iP h6] at hm;have h6b:=h6;refine cM [11,12,110,111,112,113,114,115,116,117,118,119,120,121,122,123,124,125,126,127,128,129,130,131,132,133,134,135,136,137,138,139,140,141,142,143,144,145,146,147] fun k kp hk hp=>?_;refine aC 9 ?_;refine gox h6b ?_
          by_cases h7:¬ ((((p1.nodes.getD x3.toNat default).eqs).getD x6.toNat default).at_)=((((p2.nodes.getD x3.toNat default).eqs).getD x6.toNat default).at_)
          ·rw [iP h7] at hm;have h7b:=bne_iff_ne.2 h7;refine aa ?_;refine gox (a2 h6b h7b) ?_;refine hk _ _ ?_;clear hk hp k kp;refine aj rfl rfl ?_;refine aq [2,3,4,7,8,9,10,148] ?_;have ho8:=aD hm hr2;subst ho8;replace hm:some (.inr (.inr false))=some r1:=hm2;have ho9:=aD hm hr1;subst ho9;replace hm:some false=some r:=hm1;refine aA ?_;refine ao (bi (aO (ao (ao (aw (aO (ao (aw ?_))))))))
           cases hm
           exact kr 0
          ·rw [iN h7] at hm;have h7b:(((((p1.nodes.getD x3.toNat default).eqs).getD x6.toNat default).at_) != ((((p2.nodes.getD x3.toNat default).eqs).getD x6.toNat default).at_))=false:=bne_eq_false_iff_eq.2 (Decidable.not_not.1 h7);refine aC 7 ?_;refine gox (a2 h6b h7b) ?_
           by_cases h10:((((p1.nodes.getD x3.toNat default).eqs).getD x6.toNat default).node)=((((p2.nodes.getD x3.toNat default).eqs).getD x6.toNat default).node)
           ·rw [iP h10] at hm;have h10b:=eQ h10
            have h10c:(!(((((p1.nodes.getD x3.toNat default).eqs).getD x6.toNat default).node) == ((((p2.nodes.getD x3.toNat default).eqs).getD x6.toNat default).node)))=false:=by rw [h10b];rfl
            refine aa ?_;refine gox (a2 h6b (a2 h7b (a2 h10b h10c))) ?_;obtain ⟨y7,hc11,hm⟩:=bd hm;refine RP (fun _=>jc ((((p1.nodes.getD x3.toNat default).eqs).getD x6.toNat default).names) ((((p2.nodes.getD x3.toNat default).eqs).getD x6.toNat default).names) _ hc11) ?_
            by_cases h12:y7=true
            ·rw [iP h12] at hm;have h12b:=h12
             have h12c:(!y7)=false:=by rw [h12b];rfl
             refine aa ?_;refine gox (a2 h6b (a2 h7b (a2 h10b (a2 h10c (a2 h12b h12c))))) ?_;obtain ⟨y8,hc13,hm⟩:=bd hm;refine RP (fun _=>kg ((((p1.nodes.getD x3.toNat default).eqs).getD x6.toNat default).s) ((((p2.nodes.getD x3.toNat default).eqs).getD x6.toNat default).s) _ hc13) ?_
             by_cases h14:y8=true
             ·rw [iP h14] at hm;have h14b:=h14
              have h14c:(!y8)=false:=by rw [h14b];rfl
              refine aa ?_;refine gox (a2 h6b (a2 h7b (a2 h10b (a2 h10c (a2 h12b (a2 h12c (a2 h14b h14c))))))) ?_;obtain ⟨y9,hc15,hm⟩:=bd hm;refine RP (fun _=>mi fuel ((((p1.nodes.getD x3.toNat default).eqs).getD x6.toNat default).e) ((((p2.nodes.getD x3.toNat default).eqs).getD x6.toNat default).e) _ hc15) ?_;refine aa ?_;refine gox (a2 h6b (a2 h7b (a2 h10b (a2 h10c (a2 h12b (a2 h12c (a2 h14b h14c))))))) ?_;refine hk _ _ ?_;clear hk hp k kp
              by_cases h16:y9=true
              ·rw [iP h16] at hm;refine ak rfl (by rw [show y9=true from (h16)];rfl) ?_;refine ar ?_;refine aW ?_;refine ax (hk4 _ _ ?_);refine d6 ?_;refine bw (IntKind.wrap .i64 (x6+1)) () hm ?_;exact la
              ·rw [iN h16] at hm;refine aj rfl (by rw [show y9=false from (fB h16)];rfl) ?_;refine aq [2,3,4,7,8,9,10,148] ?_;have ho17:=aD hm hr2;subst ho17;replace hm:some (.inr (.inr false))=some r1:=hm2;have ho18:=aD hm hr1;subst ho18;replace hm:some false=some r:=hm1;refine aA ?_;refine ao (bi (aO (ao (ao (aw (aO (ao (aw ?_))))))))
               cases hm
               exact kr 0
             ·rw [iN h14] at hm;have h14b:=fB h14
              have h14c:(!y8)=true:=by rw [h14b];rfl
              refine aa ?_;refine gox (a2 h6b (a2 h7b (a2 h10b (a2 h10c (a2 h12b (a2 h12c (a2 h14b h14c))))))) ?_;refine hk _ _ ?_;clear hk hp k kp;refine aj rfl rfl ?_;refine aq [2,3,4,7,8,9,10,148] ?_;have ho19:=aD hm hr2;subst ho19;replace hm:some (.inr (.inr false))=some r1:=hm2;have ho20:=aD hm hr1;subst ho20;replace hm:some false=some r:=hm1;refine aA ?_;refine ao (bi (aO (ao (ao (aw (aO (ao (aw ?_))))))))
              cases hm
              exact kr 0
            ·rw [iN h12] at hm;have h12b:=fB h12
             have h12c:(!y7)=true:=by rw [h12b];rfl
             refine aa ?_;refine gox (a2 h6b (a2 h7b (a2 h10b (a2 h10c (a2 h12b h12c))))) ?_;refine hk _ _ ?_;clear hk hp k kp;refine aj rfl rfl ?_;refine aq [2,3,4,7,8,9,10,148] ?_;have ho21:=aD hm hr2;subst ho21;replace hm:some (.inr (.inr false))=some r1:=hm2;have ho22:=aD hm hr1;subst ho22;replace hm:some false=some r:=hm1;refine aA ?_;refine ao (bi (aO (ao (ao (aw (aO (ao (aw ?_))))))))
             cases hm
             exact kr 0
           ·rw [iN h10] at hm;have h10b:=nB h10
            have h10c:(!(((((p1.nodes.getD x3.toNat default).eqs).getD x6.toNat default).node) == ((((p2.nodes.getD x3.toNat default).eqs).getD x6.toNat default).node)))=true:=by rw [h10b];rfl
            refine aa ?_;refine gox (a2 h6b (a2 h7b (a2 h10b h10c))) ?_;refine hk _ _ ?_;clear hk hp k kp;refine aj rfl rfl ?_;refine aq [2,3,4,7,8,9,10,148] ?_;have ho23:=aD hm hr2;subst ho23;replace hm:some (.inr (.inr false))=some r1:=hm2;have ho24:=aD hm hr1;subst ho24;replace hm:some false=some r:=hm1;refine aA ?_;refine ao (bi (aO (ao (ao (aw (aO (ao (aw ?_))))))))
            cases hm
            exact kr 0
         ·rw [iN h6] at hm;have h6b:=fB h6;refine cM [11,12,110,111,112,113,114,115,116,117,118,119,120,121,122,123,124,125,126,127,128,129,130,131,132,133,134,135,136,137,138,139,140,141,142,143,144,145,146,147] fun k kp hk hp=>?_;refine aC 16 ?_;refine gox h6b ?_
          by_cases h25:((((p1.nodes.getD x3.toNat default).eqs).getD x6.toNat default).node)=((((p2.nodes.getD x3.toNat default).eqs).getD x6.toNat default).node)
          ·rw [iP h25] at hm;have h25b:=eQ h25
           have h25c:(!(((((p1.nodes.getD x3.toNat default).eqs).getD x6.toNat default).node) == ((((p2.nodes.getD x3.toNat default).eqs).getD x6.toNat default).node)))=false:=by rw [h25b];rfl
           refine aa ?_;refine gox (a2 h6b (a2 h25b h25c)) ?_;obtain ⟨y10,hc26,hm⟩:=bd hm;refine RP (fun _=>jc ((((p1.nodes.getD x3.toNat default).eqs).getD x6.toNat default).names) ((((p2.nodes.getD x3.toNat default).eqs).getD x6.toNat default).names) _ hc26) ?_
           by_cases h27:y10=true
           ·rw [iP h27] at hm;have h27b:=h27
            have h27c:(!y10)=false:=by rw [h27b];rfl
            refine aa ?_;refine gox (a2 h6b (a2 h25b (a2 h25c (a2 h27b h27c)))) ?_;obtain ⟨y11,hc28,hm⟩:=bd hm;refine RP (fun _=>kg ((((p1.nodes.getD x3.toNat default).eqs).getD x6.toNat default).s) ((((p2.nodes.getD x3.toNat default).eqs).getD x6.toNat default).s) _ hc28) ?_
            by_cases h29:y11=true
            ·rw [iP h29] at hm;have h29b:=h29
             have h29c:(!y11)=false:=by rw [h29b];rfl
             refine aa ?_;refine gox (a2 h6b (a2 h25b (a2 h25c (a2 h27b (a2 h27c (a2 h29b h29c)))))) ?_;obtain ⟨y12,hc30,hm⟩:=bd hm;refine RP (fun _=>mi fuel ((((p1.nodes.getD x3.toNat default).eqs).getD x6.toNat default).e) ((((p2.nodes.getD x3.toNat default).eqs).getD x6.toNat default).e) _ hc30) ?_;refine aa ?_;refine gox (a2 h6b (a2 h25b (a2 h25c (a2 h27b (a2 h27c (a2 h29b h29c)))))) ?_;refine hk _ _ ?_;clear hk hp k kp
             by_cases h31:y12=true
             ·rw [iP h31] at hm;refine ak rfl (by rw [show y12=true from (h31)];rfl) ?_;refine ar ?_;refine aW ?_;refine ax (hk4 _ _ ?_);refine d6 ?_;refine bw (IntKind.wrap .i64 (x6+1)) () hm ?_;exact la
             ·rw [iN h31] at hm;refine aj rfl (by rw [show y12=false from (fB h31)];rfl) ?_;refine aq [2,3,4,7,8,9,10,148] ?_;have ho32:=aD hm hr2;subst ho32;replace hm:some (.inr (.inr false))=some r1:=hm2;have ho33:=aD hm hr1;subst ho33;replace hm:some false=some r:=hm1;refine aA ?_;refine ao (bi (aO (ao (ao (aw (aO (ao (aw ?_))))))))
              cases hm
              exact kr 0
            ·rw [iN h29] at hm;have h29b:=fB h29
             have h29c:(!y11)=true:=by rw [h29b];rfl
             refine aa ?_;refine gox (a2 h6b (a2 h25b (a2 h25c (a2 h27b (a2 h27c (a2 h29b h29c)))))) ?_;refine hk _ _ ?_;clear hk hp k kp;refine aj rfl rfl ?_;refine aq [2,3,4,7,8,9,10,148] ?_;have ho34:=aD hm hr2;subst ho34;replace hm:some (.inr (.inr false))=some r1:=hm2;have ho35:=aD hm hr1;subst ho35;replace hm:some false=some r:=hm1;refine aA ?_;refine ao (bi (aO (ao (ao (aw (aO (ao (aw ?_))))))))
             cases hm
             exact kr 0
           ·rw [iN h27] at hm;have h27b:=fB h27
            have h27c:(!y10)=true:=by rw [h27b];rfl
            refine aa ?_;refine gox (a2 h6b (a2 h25b (a2 h25c (a2 h27b h27c)))) ?_;refine hk _ _ ?_;clear hk hp k kp;refine aj rfl rfl ?_;refine aq [2,3,4,7,8,9,10,148] ?_;have ho36:=aD hm hr2;subst ho36;replace hm:some (.inr (.inr false))=some r1:=hm2;have ho37:=aD hm hr1;subst ho37;replace hm:some false=some r:=hm1;refine aA ?_;refine ao (bi (aO (ao (ao (aw (aO (ao (aw ?_))))))))
            cases hm
            exact kr 0
          ·rw [iN h25] at hm;have h25b:=nB h25
           have h25c:(!(((((p1.nodes.getD x3.toNat default).eqs).getD x6.toNat default).node) == ((((p2.nodes.getD x3.toNat default).eqs).getD x6.toNat default).node)))=true:=by rw [h25b];rfl
           refine aa ?_;refine gox (a2 h6b (a2 h25b h25c)) ?_;refine hk _ _ ?_;clear hk hp k kp;refine aj rfl rfl ?_;refine aq [2,3,4,7,8,9,10,148] ?_;have ho38:=aD hm hr2;subst ho38;replace hm:some (.inr (.inr false))=some r1:=hm2;have ho39:=aD hm hr1;subst ho39;replace hm:some false=some r:=hm1;refine aA ?_;refine ao (bi (aO (ao (ao (aw (aO (ao (aw ?_))))))))
           cases hm
           exact kr 0
        ·rw [iN h4] at hm;refine ak rfl (dF h4) ?_;refine cj ?_;have ho40:=aD hm hr2;subst ho40;replace hm:fM x3=some r1:=hm2;refine bP (bx (aX (aW ?_)));refine an () () hm ?_;exact ls
     ·rintro _ _ hm;replace hm:fM x3=some r1:=hm;refine bm ?_;unfold fM at hm;refine d6 ?_;refine bw (IntKind.wrap .i64 (x3+1)) () hm ?_;exact ls
    ·rw [iN h2] at hm;refine ak rfl (dF h2) ?_;refine cj ?_;have ho74:=aD hm hr1;subst ho74;replace hm:fL=some r:=hm1;refine bP (bx (aX ?_));refine an () () hm ?_;exact ls
  ·rintro _ _ hm;replace hm:fL=some r:=hm;refine bm ?_;unfold fL at hm;refine aq [] ?_;refine aA ?_
   cases hm
   exact kr 0
theorem lI(p1:List (List UInt8))(p2 r:Int)(hm:gY p1 p2=some r):b9 Tryz.prog 27 [.c (.tree 1 (p1.map eS)),.c (.int .i64 p2)] (.c (.int .i64 r)):=by
 refine aF 25 [.tmp 4] Tryz.func27 rfl rfl rfl (by kernel_rfl) (by simp) ?_;refine bJ ?_;unfold gY at hm;refine aq [4] ?_;refine aB fun k1 hk1=>?_;refine aq [6,7] ?_
 by_cases h1:(p1.length:Int)>2000
 ·rw [iP h1] at hm;refine aj rfl (dT h1) ?_;refine aq [0,1,8] ?_;refine aA ?_;refine bi ?_
  cases hm
  exact kr 0
 ·rw [iN h1] at hm;refine ak rfl (dF h1) ?_;refine ar ?_;refine ax (hk1 _ _ ?_);refine bk (S:=Unit) (V:=Unit) [4,5,8,9,10,11,12,13,14,15,16,17,18,19,20] (fun _ _=>[]) (fun _ _=>[]) (fun _=>gu p1 p2=some r) ?_ ?_
  ·skip;refine aq [8] ?_
   refine aK ?_;obtain ⟨o1,hl1,hm1⟩:=bd hm;refine bQ (S:=Int) (V:=Unit) (O:=Unit ⊕ Int) [4,5,9,10,11,12,13,14,15,16,17,18,19,20] (fun x3 _=>[(5,.c (.int .i64 x3))]) (fun x3 _=>[]) _ _ () hl1 ?_ ?_
   ·exact ls
   ·rintro x3 _ r1 hm hr1;replace hm:c7 p1 x3=some r1:=hm;refine bm ?_;unfold c7 at hm;refine aB fun k2 hk2=>?_;refine aq [9,10,11] ?_
    by_cases h2:x3<(p1.length:Int)
    ·rw [iP h2] at hm;refine aj rfl (dT h2) ?_;refine ar ?_;refine ax (hk2 _ _ ?_);refine aB fun k3 hk3=>?_;refine aK ?_;obtain ⟨hg3a,hm⟩:=gd hm;refine et (em eS p1 x3.toNat) [12,15,16,17,18,19] ?_
     by_cases h4:((p1.getD x3.toNat default).length:Int)>100
     ·rw [iP h4] at hm;refine aj rfl (dT h4) ?_;refine aq [0,1,5,20] ?_;have ho5:=aD hm hr1;subst ho5;replace hm:some (-1)=some r:=hm1;refine aA ?_;refine ao (bi (aO (ao (aw ?_))))
      cases hm
      exact kr 0
     ·rw [iN h4] at hm;refine ak rfl (dF h4) ?_;refine ar ?_;refine aW ?_;refine ax (hk3 _ _ ?_);refine d6 ?_;refine bw (IntKind.wrap .i64 (x3+1)) () hm ?_;exact ls
    ·rw [iN h2] at hm;refine ak rfl (dF h2) ?_;refine cj ?_;have ho6:=aD hm hr1;subst ho6;replace hm:gu p1 p2=some r:=hm1;refine bP (bx (aX ?_));refine an () () hm ?_;exact ls
  ·rintro _ _ hm;replace hm:gu p1 p2=some r:=hm;refine bm ?_;unfold gu at hm;refine aq [0,1,21,22,23,24] ?_;refine aA ?_
   cases hm
   exact kr 0
theorem jT(p1:List (List am))(p2 r:Int)(hm:fP p1 p2=some r):b9 Tryz.prog 29 [.c (.tree 1 (p1.map (eL 2 am.enc))),.c (.int .i64 p2)] (.c (.int .i64 r)):=by
 refine aF 54 [.tmp 4] Tryz.func29 rfl rfl rfl (by kernel_rfl) (by simp) ?_;refine bJ ?_;unfold fP at hm;refine aq [4] ?_;refine aq [7,8,9,10] ?_;refine bk (S:=Int) (V:=Unit) [0,1,4,5,6,11,12,13,14,15,16,17,18,19,20,21,22,23,24,25,26,27,28,29,30,31,32,33,34,35,36,37,38,39,40,41,42,43,44,45,46,47,48,49,50,51,52] (fun x1 _=>[(1,.c (.int .i64 x1))]) (fun x1 _=>[]) (fun x1=>fc x1=some r) ?_ ?_
 ·skip;refine aq [] ?_
  refine aK ?_;obtain ⟨o1,hl1,hm1⟩:=bd hm;refine bQ (S:=(Int×Int)) (V:=Unit) (O:=Int ⊕ Int) [1,4,5,6,11,12,13,14,15,16,17,18,19,20,21,22,23,24,25,26,27,28,29,30,31,32,33,34,35,36,37,38,39,40,41,42,43,44,45,46,47,48,49,50,51,52] (fun (x6,x7) _=>[(1,.c (.int .i64 x6)),(5,.c (.int .i64 x7))]) (fun (x6,x7) _=>[]) _ _ () hl1 ?_ ?_
  ·exact ls
  ·rintro ⟨x6,x7⟩ _ r1 hm hr1;replace hm:da p1 x6 x7=some r1:=hm;refine bm ?_;unfold da at hm;refine aB fun k1 hk1=>?_;refine cM [11,12,13,14,15,16,17] fun k kp hk hp=>?_;refine aC 5 ?_;refine go ?_
   by_cases h1:x7<(p1.length:Int)
   ·rw [iP h1] at hm;have h1b:=dT h1;refine aa ?_;refine gox h1b ?_;refine hk _ _ ?_;clear hk hp k kp
    by_cases h2:x6≥0
    ·rw [iP h2] at hm;refine aj rfl (dT h2) ?_;refine ar ?_;refine ax (hk1 _ _ ?_);refine bk (S:=Unit) (V:=Unit) [1,4,6,18,21,22,23,24,25,26,27,28,29,30,31,32,33,34,35,36,37,38,39,40,41,42,43,44,45,46,47,48,49,50,51,52] (fun _ _=>[(1,.c (.int .i64 (IntKind.wrap .i64 (x6 - ((p1.getD x7.toNat default).length:Int)))))]) (fun _ _=>[]) (fun _=>gv p1 x6 x7=some r1) ?_ ?_
     ·skip;refine aK ?_
      refine aB fun k2 hk2=>?_;obtain ⟨hg3a,hm⟩:=gd hm;refine et (em (eL 2 am.enc) p1 x7.toNat) [18,21,22,23,24,25] ?_
      by_cases h4:((p1.getD x7.toNat default).length:Int)>2000
      ·rw [iP h4] at hm;refine aj rfl (dT h4) ?_;refine aq [0,1,5,26] ?_;have ho5:=aD hm hr1;subst ho5;replace hm:some (-1)=some r:=hm1;refine aA ?_;refine bi (ao (aw (aO (ao (aw ?_)))))
       cases hm
       exact kr 0
      ·rw [iN h4] at hm;refine ak rfl (dF h4) ?_;refine ar ?_;refine ax (hk2 _ _ ?_);refine et (em (eL 2 am.enc) p1 x7.toNat) [26,27,28,29,30,31,32,33] ?_;refine aq [] ?_;refine aK ?_;obtain ⟨o2,hl2,hm2⟩:=bd hm;refine bQ (S:=Int) (V:=Unit) (O:=Unit ⊕ Int) [4,6,34,35,36,37,38,39,40,41,42,43,44,45,46,47,48,49,50,51,52] (fun x10 _=>[(6,.c (.int .i64 x10))]) (fun x10 _=>[]) _ _ () hl2 ?_ ?_
       ·exact ls
       ·rintro x10 _ r2 hm hr2;replace hm:c8 p1 x7 x10=some r2:=hm;refine bm ?_;unfold c8 at hm;refine aB fun k3 hk3=>?_;refine et (em (eL 2 am.enc) p1 x7.toNat) [34,35,36,37,38,39] ?_
        by_cases h6:x10<((p1.getD x7.toNat default).length:Int)
        ·rw [iP h6] at hm;refine aj rfl (dT h6) ?_;refine ar ?_;refine ax (hk3 _ _ ?_);refine aB fun k4 hk4=>?_;refine aK ?_;obtain ⟨hg7a,hm⟩:=gd hm;refine et (a2 (em (eL 2 am.enc) p1 x7.toNat) (em am.enc (p1.getD x7.toNat default) x10.toNat)) [40,43,44,45,46,47,48,49,50,51] ?_
         by_cases h8:((((p1.getD x7.toNat default).getD x10.toNat default).name).length:Int)>100
         ·rw [iP h8] at hm;refine aj rfl (dT h8) ?_;refine aq [0,1,5,6,52] ?_;have ho9:=aD hm hr2;subst ho9;replace hm:some (.inr (.inr (-1)))=some r1:=hm2;have ho10:=aD hm hr1;subst ho10;replace hm:some (-1)=some r:=hm1;refine aA ?_;refine ao (bi (aO (ao (ao (aw (aO (ao (aw ?_))))))))
          cases hm
          exact kr 0
         ·rw [iN h8] at hm;refine ak rfl (dF h8) ?_;refine ar ?_;refine aW ?_;refine ax (hk4 _ _ ?_);refine d6 ?_;refine bw (IntKind.wrap .i64 (x10+1)) () hm ?_;exact ls
        ·rw [iN h6] at hm;refine ak rfl (dF h6) ?_;refine cj ?_;have ho11:=aD hm hr2;subst ho11;replace hm:gv p1 x6 x7=some r1:=hm2;refine bP (bx (aX (aW ?_)));refine an () () hm ?_;exact ls
     ·rintro _ _ hm;replace hm:gv p1 x6 x7=some r1:=hm;refine bm ?_;unfold gv at hm;refine d6 ?_;refine bw ((IntKind.wrap .i64 (x6 - ((p1.getD x7.toNat default).length:Int))),(IntKind.wrap .i64 (x7+1))) () hm ?_;exact ls
    ·rw [iN h2] at hm;refine ak rfl (dF h2) ?_;refine cj ?_;have ho12:=aD hm hr1;subst ho12;replace hm:fc x6=some r:=hm1;refine bP (bx (aX ?_));refine an x6 () hm ?_;exact ls
   ·rw [iN h1] at hm;have h1b:=dF h1;refine aa ?_;refine gox h1b ?_;refine hk _ _ ?_;clear hk hp k kp;refine ak rfl rfl ?_;refine cj ?_;have ho13:=aD hm hr1;subst ho13;replace hm:fc x6=some r:=hm1;refine bP (bx (aX ?_));refine an x6 () hm ?_;exact ls
 ·rintro x1 _ hm;replace hm:fc x1=some r:=hm;refine bm ?_;unfold fc at hm;refine aq [1,53] ?_;refine aA ?_
  cases hm
  exact kr 0
theorem jU(p1:List ay)(p2 r:Int)(hm:fQ p1 p2=some r):b9 Tryz.prog 28 [.c (.tree 3 (p1.map ay.enc)),.c (.int .i64 p2)] (.c (.int .i64 r)):=by
 refine aF 37 [.tmp 4] Tryz.func28 rfl rfl rfl (by kernel_rfl) (by simp) ?_;refine bJ ?_;unfold fQ at hm;refine aq [4] ?_;refine aq [6,7,8,9] ?_;refine bk (S:=Int) (V:=Unit) [0,1,4,5,10,11,12,13,14,15,16,17,18,19,20,21,22,23,24,25,26,27,28,29,30,31,32,33,34,35] (fun x1 _=>[(1,.c (.int .i64 x1))]) (fun x1 _=>[]) (fun x1=>fd x1=some r) ?_ ?_
 ·skip;refine aq [] ?_
  refine aK ?_;obtain ⟨o1,hl1,hm1⟩:=bd hm;refine bQ (S:=(Int×Int)) (V:=Unit) (O:=Int ⊕ Int) [1,4,5,10,11,12,13,14,15,16,17,18,19,20,21,22,23,24,25,26,27,28,29,30,31,32,33,34,35] (fun (x6,x7) _=>[(1,.c (.int .i64 x6)),(5,.c (.int .i64 x7))]) (fun (x6,x7) _=>[]) _ _ () hl1 ?_ ?_
  ·exact ls
  ·rintro ⟨x6,x7⟩ _ r1 hm hr1;replace hm:db p1 x6 x7=some r1:=hm;refine bm ?_;unfold db at hm;refine aB fun k1 hk1=>?_;refine cM [10,11,12,13,14,15,16] fun k kp hk hp=>?_;refine aC 5 ?_;refine go ?_
   by_cases h1:x7<(p1.length:Int)
   ·rw [iP h1] at hm;have h1b:=dT h1;refine aa ?_;refine gox h1b ?_;refine hk _ _ ?_;clear hk hp k kp
    by_cases h2:x6≥0
    ·rw [iP h2] at hm;refine aj rfl (dT h2) ?_;refine ar ?_;refine ax (hk1 _ _ ?_);refine aB fun k2 hk2=>?_;refine aK ?_;refine aB fun k3 hk3=>?_;obtain ⟨hg3a,hm⟩:=gd hm;refine et (em ay.enc p1 x7.toNat) [17,20,21,22,23,24,25] ?_
     by_cases h4:(((p1.getD x7.toNat default).name).length:Int)>100
     ·rw [iP h4] at hm;refine aj rfl (dT h4) ?_;refine aq [0,1,5,26] ?_;have ho5:=aD hm hr1;subst ho5;replace hm:some (-1)=some r:=hm1;refine aA ?_;refine bi (ao (bi (aO (ao (aw ?_)))))
      cases hm
      exact kr 0
     ·rw [iN h4] at hm;refine ak rfl (dF h4) ?_;refine ar ?_;refine ax (hk3 _ _ ?_);refine bB fun k kp hk hp=>?_;refine gox (em ay.enc p1 x7.toNat) ?_;refine aE (aG 0 rfl) ?_;refine gtx (em ay.enc p1 x7.toNat) ?_;obtain ⟨y8,hc6,hm⟩:=bd hm;refine RP (fun _=>jT (lit ([((p1.getD x7.toNat default).t).n]:List (List am))) x6 _ hc6) ?_;refine aa ?_;refine go ?_;refine hk _ _ ?_;clear hk hp k kp;refine aW ?_;refine ax (hk2 _ _ ?_);refine d6 ?_;refine bw (y8,(IntKind.wrap .i64 (x7+1))) () hm ?_;exact ls
    ·rw [iN h2] at hm;refine ak rfl (dF h2) ?_;refine cj ?_;have ho7:=aD hm hr1;subst ho7;replace hm:fd x6=some r:=hm1;refine bP (bx (aX ?_));refine an x6 () hm ?_;exact ls
   ·rw [iN h1] at hm;have h1b:=dF h1;refine aa ?_;refine gox h1b ?_;refine hk _ _ ?_;clear hk hp k kp;refine ak rfl rfl ?_;refine cj ?_;have ho8:=aD hm hr1;subst ho8;replace hm:fd x6=some r:=hm1;refine bP (bx (aX ?_));refine an x6 () hm ?_;exact ls
 ·rintro x1 _ hm;replace hm:fd x1=some r:=hm;refine bm ?_;unfold fd at hm;refine aq [1,36] ?_;refine aA ?_
  cases hm
  exact kr 0
theorem nM(rcf:(List af)→Int→Option Int)(hrec:∀ (p1:List af) (p2:Int) (r:Int),rcf p1 p2=some r→b9 Tryz.prog 30 [.c (.tree 6 (p1.map af.enc)),.c (.int .i64 p2)] (.c (.int .i64 r)))(p1:List af)(p2 r:Int)(hm:gZ rcf p1 p2=some r):b9 Tryz.prog 30 [.c (.tree 6 (p1.map af.enc)),.c (.int .i64 p2)] (.c (.int .i64 r)):=by
 refine aF 44 [.tmp 4] Tryz.func30 rfl rfl rfl (by kernel_rfl) (by simp) ?_;refine bJ ?_;unfold gZ at hm;refine aq [4] ?_;refine aq [6,7,8,9] ?_;refine bk (S:=Int) (V:=Unit) [0,1,4,5,10,11,12,13,14,15,16,17,18,19,20,21,22,23,24,25,26,27,28,29,30,31,32,33,34,35,36,37,38,39,40,41,42] (fun x1 _=>[(1,.c (.int .i64 x1))]) (fun x1 _=>[]) (fun x1=>fe x1=some r) ?_ ?_
 ·skip;refine aq [] ?_
  refine aK ?_;obtain ⟨o1,hl1,hm1⟩:=bd hm;refine bQ (S:=(Int×Int)) (V:=Unit) (O:=Int ⊕ Int) [1,4,5,10,11,12,13,14,15,16,17,18,19,20,21,22,23,24,25,26,27,28,29,30,31,32,33,34,35,36,37,38,39,40,41,42] (fun (x6,x7) _=>[(1,.c (.int .i64 x6)),(5,.c (.int .i64 x7))]) (fun (x6,x7) _=>[]) _ _ () hl1 ?_ ?_
  ·exact ls
  ·rintro ⟨x6,x7⟩ _ r1 hm hr1;replace hm:dd rcf p1 x6 x7=some r1:=hm;refine bm ?_;unfold dd at hm;refine aB fun k1 hk1=>?_;refine cM [10,11,12,13,14,15,16] fun k kp hk hp=>?_;refine aC 5 ?_;refine go ?_
   by_cases h1:x7<(p1.length:Int)
   ·rw [iP h1] at hm;have h1b:=dT h1;refine aa ?_;refine gox h1b ?_;refine hk _ _ ?_;clear hk hp k kp
    by_cases h2:x6≥0
    ·rw [iP h2] at hm;refine aj rfl (dT h2) ?_;refine ar ?_;refine ax (hk1 _ _ ?_);refine aB fun k2 hk2=>?_;refine aK ?_;refine aB fun k3 hk3=>?_;obtain ⟨hg3a,hm⟩:=gd hm;refine et (em af.enc p1 x7.toNat) [17,20,21,22,23,24,25] ?_
     by_cases h4:(((p1.getD x7.toNat default).name).length:Int)>100
     ·rw [iP h4] at hm;refine aj rfl (dT h4) ?_;refine aq [0,1,5,26] ?_;have ho5:=aD hm hr1;subst ho5;replace hm:some (-1)=some r:=hm1;refine aA ?_;refine bi (ao (bi (aO (ao (aw ?_)))))
      cases hm
      exact kr 0
     ·rw [iN h4] at hm;refine ak rfl (dF h4) ?_;refine ar ?_;refine ax (hk3 _ _ ?_);refine az [26,27,28,29,30,31,32,33] fun k kp hk hp=>?_;refine gox (em af.enc p1 x7.toNat) ?_;obtain ⟨y8,hc6,hm⟩:=bd hm;refine RP (fun _=>jT ((p1.getD x7.toNat default).s) x6 _ hc6) ?_;refine aa ?_;refine go ?_;refine hk _ _ ?_;clear hk hp k kp;refine aq [34] ?_
      by_cases h7:y8≥0
      ·rw [iP h7] at hm;refine aj rfl (dT h7) ?_;refine bB fun k kp hk hp=>?_;refine gox (em af.enc p1 x7.toNat) ?_;obtain ⟨y9,hc8,hm⟩:=bd hm;refine RP (fun _=>hrec ((p1.getD x7.toNat default).l) y8 _ hc8) ?_;refine aa ?_;refine go ?_;refine hk _ _ ?_;clear hk hp k kp;refine aW ?_;refine ax (hk2 _ _ ?_);refine d6 ?_;refine bw (y9,(IntKind.wrap .i64 (x7+1))) () hm ?_;exact ls
      ·rw [iN h7] at hm;refine ak rfl (dF h7) ?_;refine ar ?_;refine aW ?_;refine ax (hk2 _ _ ?_);refine d6 ?_;refine bw (y8,(IntKind.wrap .i64 (x7+1))) () hm ?_;exact ls
    ·rw [iN h2] at hm;refine ak rfl (dF h2) ?_;refine cj ?_;have ho9:=aD hm hr1;subst ho9;replace hm:fe x6=some r:=hm1;refine bP (bx (aX ?_));refine an x6 () hm ?_;exact ls
   ·rw [iN h1] at hm;have h1b:=dF h1;refine aa ?_;refine gox h1b ?_;refine hk _ _ ?_;clear hk hp k kp;refine ak rfl rfl ?_;refine cj ?_;have ho10:=aD hm hr1;subst ho10;replace hm:fe x6=some r:=hm1;refine bP (bx (aX ?_));refine an x6 () hm ?_;exact ls
 ·rintro x1 _ hm;replace hm:fe x1=some r:=hm;refine bm ?_;unfold fe at hm;refine aq [1,43] ?_;refine aA ?_
  cases hm
  exact kr 0
theorem oY(fuel:Nat)(p1:List af)(p2 r:Int)(hm:lc fuel p1 p2=some r):b9 Tryz.prog 30 [.c (.tree 6 (p1.map af.enc)),.c (.int .i64 p2)] (.c (.int .i64 r)):=by
  have key:∀ (n:Nat) (p1:List af) (p2:Int) (r:Int),cV n p1 p2=some r→b9 Tryz.prog 30 [.c (.tree 6 (p1.map af.enc)),.c (.int .i64 p2)] (.c (.int .i64 r)):=by
    intro n
    induction n with
    |zero =>
      intro p1 p2  r hm;simp [cV] at hm
    |succ n ih =>
      intro p1 p2  r hm;exact nM (cV n) ih p1 p2  r hm
  exact key fuel p1 p2  r hm
theorem oZ(fuel:Nat)(p1:aH)(r:Bool)(hm:kT fuel p1=some r):b9 Tryz.prog 10 [.a [.tree 7 (p1.nodes.map aS.enc)]] (.c (.bool r)):=by
 refine aF 92 [.tmp 2] Tryz.func10 rfl rfl rfl (by kernel_rfl) (by simp) ?_;refine bJ ?_;unfold kT at hm;refine aq [0,2] ?_;refine aB fun k1 hk1=>?_;refine aq [8,9,10] ?_
 by_cases h1:(p1.nodes.length:Int)>100
 ·rw [iP h1] at hm;refine aj rfl (dT h1) ?_;refine aq [1,11] ?_;refine aA ?_;refine bi ?_
  cases hm
  exact kr 0
 ·rw [iN h1] at hm;refine ak rfl (dF h1) ?_;refine ar ?_;refine ax (hk1 _ _ ?_);refine aq [11] ?_;refine bk (S:=Int) (V:=Unit) [1,2,3,4,5,6,7,12,13,14,15,16,17,18,19,20,21,22,23,24,25,26,27,28,29,30,31,32,33,34,35,36,37,38,39,40,41,42,43,44,45,46,47,48,49,50,51,52,53,54,55,56,57,58,59,60,61,62,63,64,65,66,67,68,69,70,71,72,73,74,75,76,77,78,79,80,81,82,83,84,85,86,87,88,89] (fun x1 _=>[(3,.c (.int .i64 x1))]) (fun x1 _=>[.box [.tree 7 (p1.nodes.map aS.enc)]]) (fun x1=>ja x1=some r) ?_ ?_
  ·skip;refine aq [] ?_
   refine aK ?_;obtain ⟨o1,hl1,hm1⟩:=bd hm;refine bQ (S:=(Int×Int)) (V:=Unit) (O:=Int ⊕ Bool) [2,3,4,5,6,7,12,13,14,15,16,17,18,19,20,21,22,23,24,25,26,27,28,29,30,31,32,33,34,35,36,37,38,39,40,41,42,43,44,45,46,47,48,49,50,51,52,53,54,55,56,57,58,59,60,61,62,63,64,65,66,67,68,69,70,71,72,73,74,75,76,77,78,79,80,81,82,83,84,85,86,87,88,89] (fun (x6,x7) _=>[(3,.c (.int .i64 x6)),(4,.c (.int .i64 x7))]) (fun (x6,x7) _=>[.box [.tree 7 (p1.nodes.map aS.enc)]]) _ _ () hl1 ?_ ?_
   ·exact ls
   ·rintro ⟨x6,x7⟩ _ r1 hm hr1;replace hm:fC fuel p1 x6 x7=some r1:=hm;refine bm ?_;unfold fC at hm;refine aB fun k2 hk2=>?_;refine cM [12,13,14,15,16,17,18,19] fun k kp hk hp=>?_;refine aC 6 ?_;refine go ?_
    by_cases h2:x7<(p1.nodes.length:Int)
    ·rw [iP h2] at hm;have h2b:=dT h2;refine aa ?_;refine gox h2b ?_;refine hk _ _ ?_;clear hk hp k kp
     by_cases h3:x6≥0
     ·rw [iP h3] at hm;refine aj rfl (dT h3) ?_;refine ar ?_;refine ax (hk2 _ _ ?_);refine bk (S:=Int) (V:=Unit) [2,3,5,6,7,20,23,24,25,26,27,28,29,30,31,32,33,34,35,36,37,38,39,40,41,42,43,44,45,46,47,48,49,50,51,52,53,54,55,56,57,58,59,60,61,62,63,64,65,66,67,68,69,70,71,72,73,74,75,76,77,78,79,80,81,82,83,84,85,86,87,88,89] (fun x8 _=>[(3,.c (.int .i64 x8))]) (fun x8 _=>[.box [.tree 7 (p1.nodes.map aS.enc)]]) (fun x8=>jb x7 x8=some r1) ?_ ?_
      ·skip;refine aK ?_
       obtain ⟨hg4a,hm⟩:=gd hm;refine et (em aS.enc p1.nodes x7.toNat) [20,23,24,25,26,27] ?_;refine aB fun k3 hk3=>?_;refine cM [28,29,30,31,32,33,34,35,36] fun k kp hk hp=>?_;refine aC 5 ?_;refine go ?_
       by_cases h5:(((p1.nodes.getD x7.toNat default).name).length:Int)>100
       ·rw [iP h5] at hm;have h5b:=dT h5;refine aa ?_;refine gox h5b ?_;refine hk _ _ ?_;clear hk hp k kp;refine aj rfl rfl ?_;refine aq [1,3,4,5,37] ?_;have ho6:=aD hm hr1;subst ho6;replace hm:some true=some r:=hm1;refine aA ?_;refine bi (ao (aw (aO (ao (aw ?_)))))
        cases hm
        exact kr 0
       ·rw [iN h5] at hm;have h5b:=dF h5;refine aa ?_;refine gox h5b ?_;refine hk _ _ ?_;clear hk hp k kp
        by_cases h7:(((p1.nodes.getD x7.toNat default).eqs).length:Int)>1000
        ·rw [iP h7] at hm;refine aj rfl (dT h7) ?_;refine aq [1,3,4,5,37] ?_;have ho8:=aD hm hr1;subst ho8;replace hm:some true=some r:=hm1;refine aA ?_;refine bi (ao (aw (aO (ao (aw ?_)))))
         cases hm
         exact kr 0
        ·rw [iN h7] at hm;refine ak rfl (dF h7) ?_;refine ar ?_;refine ax (hk3 _ _ ?_);refine az [37,38,39,40,41] fun k kp hk hp=>?_;refine go ?_;obtain ⟨y9,hc9,hm⟩:=bd hm;refine RP (fun _=>lI ((p1.nodes.getD x7.toNat default).sizes) x6 _ hc9) ?_;refine aa ?_;refine go ?_;refine hk _ _ ?_;clear hk hp k kp;refine az [42,43,44,45] fun k kp hk hp=>?_;refine go ?_;obtain ⟨y10,hc10,hm⟩:=bd hm;refine RP (fun _=>jU ((p1.nodes.getD x7.toNat default).in_) y9 _ hc10) ?_;refine aa ?_;refine go ?_;refine hk _ _ ?_;clear hk hp k kp;refine az [46,47,48,49] fun k kp hk hp=>?_;refine go ?_;obtain ⟨y11,hc11,hm⟩:=bd hm;refine RP (fun _=>jU ((p1.nodes.getD x7.toNat default).out_) y10 _ hc11) ?_;refine aa ?_;refine go ?_;refine hk _ _ ?_;clear hk hp k kp;refine az [50,51,52,53] fun k kp hk hp=>?_;refine go ?_;obtain ⟨y12,hc12,hm⟩:=bd hm;refine RP (fun _=>jU ((p1.nodes.getD x7.toNat default).local_) y11 _ hc12) ?_;refine aa ?_;refine go ?_;refine hk _ _ ?_;clear hk hp k kp;refine aq [] ?_;refine aK ?_;obtain ⟨o2,hl2,hm2⟩:=bd hm;refine bQ (S:=(Int×Int)) (V:=Unit) (O:=Int ⊕ Bool) [2,3,6,7,54,55,56,57,58,59,60,61,62,63,64,65,66,67,68,69,70,71,72,73,74,75,76,77,78,79,80,81,82,83,84,85,86,87,88,89] (fun (x17,x18) _=>[(3,.c (.int .i64 x17)),(6,.c (.int .i64 x18))]) (fun (x17,x18) _=>[.box [.tree 7 (p1.nodes.map aS.enc)],.box [.str ((p1.nodes.getD x7.toNat default).name),.int .i64 ((p1.nodes.getD x7.toNat default).at_),.tree 1 (((p1.nodes.getD x7.toNat default).sizes).map eS),.tree 3 (((p1.nodes.getD x7.toNat default).in_).map ay.enc),.tree 3 (((p1.nodes.getD x7.toNat default).out_).map ay.enc),.tree 3 (((p1.nodes.getD x7.toNat default).local_).map ay.enc),.tree 5 (((p1.nodes.getD x7.toNat default).eqs).map TEq.enc)]]) _ _ () hl2 ?_ ?_
         ·exact ls
         ·rintro ⟨x17,x18⟩ _ r2 hm hr2;replace hm:fA fuel p1 x7 x17 x18=some r2:=hm;refine bm ?_;unfold fA at hm;refine aB fun k4 hk4=>?_;refine cM [54,55,56,57,58,59,60,61] fun k kp hk hp=>?_;refine aC 6 ?_;refine go ?_
          by_cases h13:x18<(((p1.nodes.getD x7.toNat default).eqs).length:Int)
          ·rw [iP h13] at hm;have h13b:=dT h13;refine aa ?_;refine gox h13b ?_;refine hk _ _ ?_;clear hk hp k kp
           by_cases h14:x17≥0
           ·rw [iP h14] at hm;refine aj rfl (dT h14) ?_;refine ar ?_;refine ax (hk4 _ _ ?_);refine aB fun k5 hk5=>?_;refine aK ?_;obtain ⟨hg15a,hm⟩:=gd hm;refine et (em TEq.enc ((p1.nodes.getD x7.toNat default).eqs) x18.toNat) [62,65,66,67,68,69] ?_;refine aB fun k6 hk6=>?_;refine aq [70,71,72] ?_
            by_cases h16:(((((p1.nodes.getD x7.toNat default).eqs).getD x18.toNat default).node).length:Int)>100
            ·rw [iP h16] at hm;refine aj rfl (dT h16) ?_;refine aq [1,3,4,5,6,7,73] ?_;have ho17:=aD hm hr2;subst ho17;replace hm:some (.inr (.inr true))=some r1:=hm2;have ho18:=aD hm hr1;subst ho18;replace hm:some true=some r:=hm1;refine aA ?_;refine bi (ao (bi (aO (ao (ao (aw (aO (ao (aw ?_)))))))))
             cases hm
             exact kr 0
            ·rw [iN h16] at hm;refine ak rfl (dF h16) ?_;refine ar ?_;refine ax (hk6 _ _ ?_);refine az [73,74,75,76,77] fun k kp hk hp=>?_;refine go ?_;obtain ⟨y19,hc19,hm⟩:=bd hm;refine RP (fun _=>lI ((((p1.nodes.getD x7.toNat default).eqs).getD x18.toNat default).names) x17 _ hc19) ?_;refine aa ?_;refine go ?_;refine hk _ _ ?_;clear hk hp k kp;refine bk (S:=Int) (V:=Unit) [3,78,79,80,81,82,83] (fun x20 _=>[(3,.c (.int .i64 x20))]) (fun x20 _=>[.box [.tree 7 (p1.nodes.map aS.enc)],.box [.str ((p1.nodes.getD x7.toNat default).name),.int .i64 ((p1.nodes.getD x7.toNat default).at_),.tree 1 (((p1.nodes.getD x7.toNat default).sizes).map eS),.tree 3 (((p1.nodes.getD x7.toNat default).in_).map ay.enc),.tree 3 (((p1.nodes.getD x7.toNat default).out_).map ay.enc),.tree 3 (((p1.nodes.getD x7.toNat default).local_).map ay.enc),.tree 5 (((p1.nodes.getD x7.toNat default).eqs).map TEq.enc)],.box [.int .i64 ((((p1.nodes.getD x7.toNat default).eqs).getD x18.toNat default).at_),.tree 1 (((((p1.nodes.getD x7.toNat default).eqs).getD x18.toNat default).names).map eS),.str ((((p1.nodes.getD x7.toNat default).eqs).getD x18.toNat default).node),.tree 1 (((((p1.nodes.getD x7.toNat default).eqs).getD x18.toNat default).s).map (eL 2 am.enc)),.tree 6 (((((p1.nodes.getD x7.toNat default).eqs).getD x18.toNat default).e).map af.enc)]]) (fun x20=>io fuel p1 x7 x18 x20=some r2) ?_ ?_
             ·skip;refine aq [78] ?_
              by_cases h22:y19≥0
              ·rw [iP h22] at hm;refine aj rfl (dT h22) ?_;refine bB fun k kp hk hp=>?_;refine go ?_;obtain ⟨y22,hc23,hm⟩:=bd hm;refine RP (fun _=>jT ((((p1.nodes.getD x7.toNat default).eqs).getD x18.toNat default).s) y19 _ hc23) ?_;refine aa ?_;refine go ?_;refine hk _ _ ?_;clear hk hp k kp;refine an y22 () hm ?_;exact ls
              ·rw [iN h22] at hm;refine ak rfl (dF h22) ?_;refine ar ?_;refine an y19 () hm ?_;exact ls
             ·rintro x20 _ hm;replace hm:io fuel p1 x7 x18 x20=some r2:=hm;refine bm ?_;unfold io at hm;refine aq [84] ?_
              by_cases h20:x20≥0
              ·rw [iP h20] at hm;refine aj rfl (dT h20) ?_;refine bB fun k kp hk hp=>?_;refine go ?_;obtain ⟨y21,hc21,hm⟩:=bd hm;refine RP (fun _=>oY fuel ((((p1.nodes.getD x7.toNat default).eqs).getD x18.toNat default).e) x20 _ hc21) ?_;refine aa ?_;refine go ?_;refine hk _ _ ?_;clear hk hp k kp;refine aW ?_;refine ax (hk5 _ _ ?_);refine d6 ?_;refine bw (y21,(IntKind.wrap .i64 (x18+1))) () hm ?_;exact ls
              ·rw [iN h20] at hm;refine ak rfl (dF h20) ?_;refine ar ?_;refine aW ?_;refine ax (hk5 _ _ ?_);refine d6 ?_;refine bw (x20,(IntKind.wrap .i64 (x18+1))) () hm ?_;exact ls
           ·rw [iN h14] at hm;refine ak rfl (dF h14) ?_;refine cj ?_;have ho24:=aD hm hr2;subst ho24;replace hm:jb x7 x17=some r1:=hm2;refine bP (bx (aX (aW ?_)));refine an x17 () hm ?_;exact ls
          ·rw [iN h13] at hm;have h13b:=dF h13;refine aa ?_;refine gox h13b ?_;refine hk _ _ ?_;clear hk hp k kp;refine ak rfl rfl ?_;refine cj ?_;have ho25:=aD hm hr2;subst ho25;replace hm:jb x7 x17=some r1:=hm2;refine bP (bx (aX (aW ?_)));refine an x17 () hm ?_;exact ls
      ·rintro x8 _ hm;replace hm:jb x7 x8=some r1:=hm;refine bm ?_;unfold jb at hm;refine d6 ?_;refine bw (x8,(IntKind.wrap .i64 (x7+1))) () hm ?_;exact ls
     ·rw [iN h3] at hm;refine ak rfl (dF h3) ?_;refine cj ?_;have ho26:=aD hm hr1;subst ho26;replace hm:ja x6=some r:=hm1;refine bP (bx (aX ?_));refine an x6 () hm ?_;exact ls
    ·rw [iN h2] at hm;have h2b:=dF h2;refine aa ?_;refine gox h2b ?_;refine hk _ _ ?_;clear hk hp k kp;refine ak rfl rfl ?_;refine cj ?_;have ho27:=aD hm hr1;subst ho27;replace hm:ja x6=some r:=hm1;refine bP (bx (aX ?_));refine an x6 () hm ?_;exact ls
  ·rintro x1 _ hm;replace hm:ja x1=some r:=hm;refine bm ?_;unfold ja at hm;refine aq [3,90,91] ?_;refine aA ?_
   cases hm
   exact kr 0
theorem hO(p1 p2:List (List UInt8))(r:Bool)(hm:cD p1 p2=some r):b9 Tryz.prog 62 [.c (.tree 1 (p1.map eS)),.c (.tree 1 (p2.map eS))] (.c (.bool r)):=by
 refine aF 26 [.tmp 4] Tryz.func62 rfl rfl rfl (by kernel_rfl) (by simp) ?_;refine bJ ?_;unfold cD at hm;refine aq [4] ?_;refine aB fun k1 hk1=>?_;refine aq [6,7,8,9] ?_
 by_cases h1:¬ (p1.length:Int)=(p2.length:Int)
 ·rw [iP h1] at hm;refine aj rfl (bne_iff_ne.2 h1) ?_;refine aq [0,1,10] ?_;refine aA ?_;refine bi ?_
  cases hm
  exact kr 0
 ·rw [iN h1] at hm;refine ak rfl (bne_eq_false_iff_eq.2 (Decidable.not_not.1 h1)) ?_;refine ar ?_;refine ax (hk1 _ _ ?_);refine bk (S:=Unit) (V:=Unit) [0,1,4,5,10,11,12,13,14,15,16,17,18,19,20,21,22,23,24,25] (fun _ _=>[]) (fun _ _=>[]) (fun _=>cJ=some r) ?_ ?_
  ·skip;refine aq [10,11] ?_
   refine aK ?_;obtain ⟨o1,hl1,hm1⟩:=bd hm;refine bQ (S:=Int) (V:=Unit) (O:=Unit ⊕ Bool) [4,5,13,14,15,16,17,18,19,20,21,22,23,24,25] (fun x3 _=>[(13,.c (.int .i64 x3))]) (fun x3 _=>[]) _ _ () hl1 ?_ ?_
   ·exact ls
   ·rintro x3 _ r1 hm hr1;replace hm:cK p1 p2 x3=some r1:=hm;refine bm ?_;unfold cK at hm;refine aq [] ?_;refine aB fun k2 hk2=>?_
    by_cases h2:x3<(p1.length:Int)
    ·rw [iP h2] at hm;refine aj rfl (dT h2) ?_;refine ar ?_;refine ax (hk2 _ _ ?_);refine aB fun k3 hk3=>?_;refine aK ?_;refine aq [14,15] ?_;obtain ⟨⟨hg3a,hg3b⟩,hm⟩:=gd hm;refine tL (a2 (em eS p1 x3.toNat) (em eS p2 x3.toNat)) [5,16,17,18,19,20,21,22,23] [0,0,3,7,0,0,48,112,255] [false,false,false,false,false,false,false,false,true] ?_
     by_cases h4:(p1.getD x3.toNat default)=(p2.getD x3.toNat default)
     ·rw [iP h4] at hm;refine ak rfl (by rw [show ((p1.getD x3.toNat default) == (p2.getD x3.toNat default))=true from (eQ h4)];rfl) ?_;refine ar ?_;refine aW ?_;refine ax (hk3 _ _ ?_);refine d6 ?_;refine bw (IntKind.wrap .i64 (x3+1)) () hm ?_;exact ls
     ·rw [iN h4] at hm;refine aj rfl (by rw [show ((p1.getD x3.toNat default) == (p2.getD x3.toNat default))=false from (nB h4)];rfl) ?_;refine aq [0,1,12,13,24] ?_;have ho5:=aD hm hr1;subst ho5;replace hm:some false=some r:=hm1;refine aA ?_;refine ao (bi (aO (ao (aw ?_))))
      cases hm
      exact kr 0
    ·rw [iN h2] at hm;refine ak rfl (dF h2) ?_;refine cj ?_;have ho6:=aD hm hr1;subst ho6;replace hm:cJ=some r:=hm1;refine bP (bx (aX ?_));refine an () () hm ?_;exact ls
  ·rintro _ _ hm;replace hm:cJ=some r:=hm;refine bm ?_;unfold cJ at hm;refine aq [] ?_;refine aA ?_
   cases hm
   exact kr 0
theorem jG(p1 p2:List am)(r:Bool)(hm:cE p1 p2=some r):b9 Tryz.prog 95 [.c (.tree 2 (p1.map am.enc)),.c (.tree 2 (p2.map am.enc))] (.c (.bool r)):=by
 refine aF 26 [.tmp 4] Tryz.func95 rfl rfl rfl (by kernel_rfl) (by simp) ?_;refine bJ ?_;unfold cE at hm;refine aq [4] ?_;refine aB fun k1 hk1=>?_;refine aq [6,7,8,9] ?_
 by_cases h1:¬ (p1.length:Int)=(p2.length:Int)
 ·rw [iP h1] at hm;refine aj rfl (bne_iff_ne.2 h1) ?_;refine aq [0,1,10] ?_;refine aA ?_;refine bi ?_
  cases hm
  exact kr 0
 ·rw [iN h1] at hm;refine ak rfl (bne_eq_false_iff_eq.2 (Decidable.not_not.1 h1)) ?_;refine ar ?_;refine ax (hk1 _ _ ?_);refine bk (S:=Unit) (V:=Unit) [0,1,4,5,10,11,12,13,14,15,16,17,18,19,20,21,22,23,24,25] (fun _ _=>[]) (fun _ _=>[]) (fun _=>co=some r) ?_ ?_
  ·skip;refine aq [10,11] ?_
   refine aK ?_;obtain ⟨o1,hl1,hm1⟩:=bd hm;refine bQ (S:=Int) (V:=Unit) (O:=Unit ⊕ Bool) [4,5,13,14,15,16,17,18,19,20,21,22,23,24,25] (fun x3 _=>[(13,.c (.int .i64 x3))]) (fun x3 _=>[]) _ _ () hl1 ?_ ?_
   ·exact ls
   ·rintro x3 _ r1 hm hr1;replace hm:cp p1 p2 x3=some r1:=hm;refine bm ?_;unfold cp at hm;refine aq [] ?_;refine aB fun k2 hk2=>?_
    by_cases h2:x3<(p1.length:Int)
    ·rw [iP h2] at hm;refine aj rfl (dT h2) ?_;refine ar ?_;refine ax (hk2 _ _ ?_);refine aB fun k3 hk3=>?_;refine aK ?_;refine aq [14,15] ?_;obtain ⟨⟨hg3a,hg3b⟩,hm⟩:=gd hm;refine tL (a2 (em am.enc p1 x3.toNat) (em am.enc p2 x3.toNat)) [5,16,17,18,19,20,21,22,23] [0,0,3,7,0,0,48,112,255] [false,false,false,false,false,false,false,false,true] ?_
     by_cases h4:((p1.getD x3.toNat default).n)=((p2.getD x3.toNat default).n)∧((p1.getD x3.toNat default).name)=((p2.getD x3.toNat default).name)
     ·rw [iP h4] at hm;refine ak rfl (by rw [show ((((p1.getD x3.toNat default).n) == ((p2.getD x3.toNat default).n)) && (((p1.getD x3.toNat default).name) == ((p2.getD x3.toNat default).name)))=true from (by simpa [Bool.and_eq_true] using h4)];rfl) ?_;refine ar ?_;refine aW ?_;refine ax (hk3 _ _ ?_);refine d6 ?_;refine bw (IntKind.wrap .i64 (x3+1)) () hm ?_;exact ls
     ·rw [iN h4] at hm;refine aj rfl (by rw [show ((((p1.getD x3.toNat default).n) == ((p2.getD x3.toNat default).n)) && (((p1.getD x3.toNat default).name) == ((p2.getD x3.toNat default).name)))=false from (fB (fun hh=>h4 (by simpa [Bool.and_eq_true] using hh)))];rfl) ?_;refine aq [0,1,12,13,24] ?_;have ho5:=aD hm hr1;subst ho5;replace hm:some false=some r:=hm1;refine aA ?_;refine ao (bi (aO (ao (aw ?_))))
      cases hm
      exact kr 0
    ·rw [iN h2] at hm;refine ak rfl (dF h2) ?_;refine cj ?_;have ho6:=aD hm hr1;subst ho6;replace hm:co=some r:=hm1;refine bP (bx (aX ?_));refine an () () hm ?_;exact ls
  ·rintro _ _ hm;replace hm:co=some r:=hm;refine bm ?_;unfold co at hm;refine aq [] ?_;refine aA ?_
   cases hm
   exact kr 0
theorem lj(p1 p2:List am)(r:Bool)(hm:gi p1 p2=some r):b9 Tryz.prog 86 [.c (.tree 2 (p1.map am.enc)),.c (.tree 2 (p2.map am.enc))] (.c (.bool r)):=by
 refine aF 8 [.tmp 4] Tryz.func86 rfl rfl rfl (by kernel_rfl) (by simp) ?_;refine bJ ?_;unfold gi at hm;refine aq [4] ?_;refine az [0,1,5,6,7] fun k kp hk hp=>?_;refine go ?_;obtain ⟨y1,hc1,hm⟩:=bd hm;refine RP (fun _=>jG p1 p2 _ hc1) ?_;refine aa ?_;refine go ?_;refine hk _ _ ?_;clear hk hp k kp;refine aA ?_
 cases hm
 exact kr 0
theorem oA(p1 p2:f8)(r:Bool)(hm:jr p1 p2=some r):b9 Tryz.prog 84 [.a [.int .u8 p1.elem,.tree 2 (p1.n.map am.enc)],.a [.int .u8 p2.elem,.tree 2 (p2.n.map am.enc)]] (.c (.bool r)):=by
 refine aF 17 [.tmp 4] Tryz.func84 rfl rfl rfl (by kernel_rfl) (by simp) ?_;refine bJ ?_;unfold jr at hm;refine aq [0,1,4] ?_;refine cM [2,3,5,6,7,8,9,10,11,12,13,14,15,16] fun k kp hk hp=>?_;refine aC 6 ?_;refine go ?_
 by_cases h1:p1.elem=p2.elem
 ·rw [iP h1] at hm;have h1b:=eQ h1;refine aa ?_;refine gox h1b ?_;obtain ⟨y1,hc2,hm⟩:=bd hm;refine RP (fun _=>lj p1.n p2.n _ hc2) ?_;refine aa ?_;refine gox h1b ?_;refine hk _ _ ?_;clear hk hp k kp;refine aA ?_
  cases hm
  exact kr 0
 ·rw [iN h1] at hm;have h1b:=nB h1;refine aa ?_;refine gox h1b ?_;refine hk _ _ ?_;clear hk hp k kp;refine aA ?_
  cases hm
  exact kr 0
theorem oB(p1 p2:ay)(r:Bool)(hm:iu p1 p2=some r):b9 Tryz.prog 64 [.a [.str p1.name,.int .u8 p1.t.elem,.tree 2 (p1.t.n.map am.enc)],.a [.str p2.name,.int .u8 p2.t.elem,.tree 2 (p2.t.n.map am.enc)]] (.c (.bool r)):=by
 refine aF 17 [.tmp 4] Tryz.func64 rfl rfl rfl (by kernel_rfl) (by simp) ?_;refine bJ ?_;unfold iu at hm;refine aq [0,1,4] ?_;refine cM [2,3,5,6,7,8,9,10,11,12,13,14,15,16] fun k kp hk hp=>?_;refine aC 6 ?_;refine go ?_
 by_cases h1:p1.name=p2.name
 ·rw [iP h1] at hm;have h1b:=eQ h1;refine aa ?_;refine gox h1b ?_;obtain ⟨y1,hc2,hm⟩:=bd hm;refine RP (fun _=>oA p1.t p2.t _ hc2) ?_;refine aa ?_;refine gox h1b ?_;refine hk _ _ ?_;clear hk hp k kp;refine aA ?_
  cases hm
  exact kr 0
 ·rw [iN h1] at hm;have h1b:=nB h1;refine aa ?_;refine gox h1b ?_;refine hk _ _ ?_;clear hk hp k kp;refine aA ?_
  cases hm
  exact kr 0
theorem bY(p1 p2:List ay)(r:Bool)(hm:aV p1 p2=some r):b9 Tryz.prog 63 [.c (.tree 3 (p1.map ay.enc)),.c (.tree 3 (p2.map ay.enc)),.c (.fn 64 [])] (.c (.bool r)):=by
 refine aF 32 [.tmp 6] Tryz.func63 rfl rfl rfl (by kernel_rfl) (by simp) ?_;refine bJ ?_;unfold aV at hm;refine aq [6] ?_;refine aB fun k1 hk1=>?_;refine aq [10,11,12,13] ?_
 by_cases h1:¬ (p1.length:Int)=(p2.length:Int)
 ·rw [iP h1] at hm;refine aj rfl (bne_iff_ne.2 h1) ?_;refine aq [0,1,2,14] ?_;refine aA ?_;refine bi ?_
  cases hm
  exact kr 0
 ·rw [iN h1] at hm;refine ak rfl (bne_eq_false_iff_eq.2 (Decidable.not_not.1 h1)) ?_;refine ar ?_;refine ax (hk1 _ _ ?_);refine bk (S:=Unit) (V:=Unit) [0,1,2,6,7,8,9,14,15,16,17,18,19,20,21,22,23,24,25,26,27,28,29,30,31] (fun _ _=>[]) (fun _ _=>[]) (fun _=>bn=some r) ?_ ?_
  ·skip;refine aq [0,14] ?_
   refine aK ?_;obtain ⟨o1,hl1,hm1⟩:=bd hm;refine bQ (S:=Int) (V:=Unit) (O:=Unit ⊕ Bool) [6,7,8,9,17,18,19,20,21,22,23,24,25,26,27,28,29,30,31] (fun x3 _=>[(17,.c (.int .i64 x3))]) (fun x3 _=>[]) _ _ () hl1 ?_ ?_
   ·exact ls
   ·rintro x3 _ r1 hm hr1;replace hm:bo p1 p2 x3=some r1:=hm;refine bm ?_;unfold bo at hm;refine aq [] ?_;refine aB fun k2 hk2=>?_
    by_cases h2:x3<(p1.length:Int)
    ·rw [iP h2] at hm;refine aj rfl (dT h2) ?_;refine ar ?_;refine ax (hk2 _ _ ?_);refine aB fun k3 hk3=>?_;refine aK ?_;obtain ⟨hg3a,hm⟩:=gd hm;refine et (em ay.enc p1 x3.toNat) [18,19,20,21] ?_;obtain ⟨hg4a,hm⟩:=gd hm;refine et (em ay.enc p2 x3.toNat) [7,22,23,24,25] ?_;refine az [8,9,26,27,28,29] fun k kp hk hp=>?_;refine go ?_;obtain ⟨y4,hc5,hm⟩:=bd hm;refine RP (fun _=>oB (ay.mk ((p1.getD x3.toNat default).name) ((p1.getD x3.toNat default).t)) (ay.mk ((p2.getD x3.toNat default).name) ((p2.getD x3.toNat default).t)) _ hc5) ?_;refine aa ?_;refine go ?_;refine hk _ _ ?_;clear hk hp k kp
     by_cases h6:y4=true
     ·rw [iP h6] at hm;refine ak rfl (by rw [show y4=true from (h6)];rfl) ?_;refine ar ?_;refine aW ?_;refine ax (hk3 _ _ ?_);refine d6 ?_;refine bw (IntKind.wrap .i64 (x3+1)) () hm ?_;exact ls
     ·rw [iN h6] at hm;refine aj rfl (by rw [show y4=false from (fB h6)];rfl) ?_;refine aq [1,2,15,16,17,30] ?_;have ho7:=aD hm hr1;subst ho7;replace hm:some false=some r:=hm1;refine aA ?_;refine ao (bi (aO (ao (aw ?_))))
      cases hm
      exact kr 0
    ·rw [iN h2] at hm;refine ak rfl (dF h2) ?_;refine cj ?_;have ho8:=aD hm hr1;subst ho8;replace hm:bn=some r:=hm1;refine bP (bx (aX ?_));refine an () () hm ?_;exact ls
  ·rintro _ _ hm;replace hm:bn=some r:=hm;refine bm ?_;unfold bn at hm;refine aq [] ?_;refine aA ?_
   cases hm
   exact kr 0
theorem cQ(p1 p2:List (List am))(r:Bool)(hm:bl p1 p2=some r):b9 Tryz.prog 85 [.c (.tree 1 (p1.map (eL 2 am.enc))),.c (.tree 1 (p2.map (eL 2 am.enc))),.c (.fn 86 [])] (.c (.bool r)):=by
 refine aF 32 [.tmp 6] Tryz.func85 rfl rfl rfl (by kernel_rfl) (by simp) ?_;refine bJ ?_;unfold bl at hm;refine aq [6] ?_;refine aB fun k1 hk1=>?_;refine aq [10,11,12,13] ?_
 by_cases h1:¬ (p1.length:Int)=(p2.length:Int)
 ·rw [iP h1] at hm;refine aj rfl (bne_iff_ne.2 h1) ?_;refine aq [0,1,2,14] ?_;refine aA ?_;refine bi ?_
  cases hm
  exact kr 0
 ·rw [iN h1] at hm;refine ak rfl (bne_eq_false_iff_eq.2 (Decidable.not_not.1 h1)) ?_;refine ar ?_;refine ax (hk1 _ _ ?_);refine bk (S:=Unit) (V:=Unit) [0,1,2,6,7,8,9,14,15,16,17,18,19,20,21,22,23,24,25,26,27,28,29,30,31] (fun _ _=>[]) (fun _ _=>[]) (fun _=>bp=some r) ?_ ?_
  ·skip;refine aq [0,14] ?_
   refine aK ?_;obtain ⟨o1,hl1,hm1⟩:=bd hm;refine bQ (S:=Int) (V:=Unit) (O:=Unit ⊕ Bool) [6,7,8,9,17,18,19,20,21,22,23,24,25,26,27,28,29,30,31] (fun x3 _=>[(17,.c (.int .i64 x3))]) (fun x3 _=>[]) _ _ () hl1 ?_ ?_
   ·exact ls
   ·rintro x3 _ r1 hm hr1;replace hm:bq p1 p2 x3=some r1:=hm;refine bm ?_;unfold bq at hm;refine aq [] ?_;refine aB fun k2 hk2=>?_
    by_cases h2:x3<(p1.length:Int)
    ·rw [iP h2] at hm;refine aj rfl (dT h2) ?_;refine ar ?_;refine ax (hk2 _ _ ?_);refine aB fun k3 hk3=>?_;refine aK ?_;obtain ⟨hg3a,hm⟩:=gd hm;refine et (em (eL 2 am.enc) p1 x3.toNat) [18,19,20,21] ?_;obtain ⟨hg4a,hm⟩:=gd hm;refine et (em (eL 2 am.enc) p2 x3.toNat) [7,22,23,24,25] ?_;refine az [8,9,26,27,28,29] fun k kp hk hp=>?_;refine go ?_;obtain ⟨y4,hc5,hm⟩:=bd hm;refine RP (fun _=>lj (p1.getD x3.toNat default) (p2.getD x3.toNat default) _ hc5) ?_;refine aa ?_;refine go ?_;refine hk _ _ ?_;clear hk hp k kp
     by_cases h6:y4=true
     ·rw [iP h6] at hm;refine ak rfl (by rw [show y4=true from (h6)];rfl) ?_;refine ar ?_;refine aW ?_;refine ax (hk3 _ _ ?_);refine d6 ?_;refine bw (IntKind.wrap .i64 (x3+1)) () hm ?_;exact ls
     ·rw [iN h6] at hm;refine aj rfl (by rw [show y4=false from (fB h6)];rfl) ?_;refine aq [1,2,15,16,17,30] ?_;have ho7:=aD hm hr1;subst ho7;replace hm:some false=some r:=hm1;refine aA ?_;refine ao (bi (aO (ao (aw ?_))))
      cases hm
      exact kr 0
    ·rw [iN h2] at hm;refine ak rfl (dF h2) ?_;refine cj ?_;have ho8:=aD hm hr1;subst ho8;replace hm:bp=some r:=hm1;refine bP (bx (aX ?_));refine an () () hm ?_;exact ls
  ·rintro _ _ hm;replace hm:bp=some r:=hm;refine bm ?_;unfold bp at hm;refine aq [] ?_;refine aA ?_
   cases hm
   exact kr 0
theorem oC(rc_slices_EqualFunc_api_Expr_api_Expr_api_Expr_api_Expr:(List af)→(List af)→Option Bool)(hr_slices_EqualFunc_api_Expr_api_Expr_api_Expr_api_Expr:∀ (p1:List af) (p2:List af) (r:Bool),rc_slices_EqualFunc_api_Expr_api_Expr_api_Expr_api_Expr p1 p2=some r→b9 Tryz.prog 87 [.c (.tree 6 (p1.map af.enc)),.c (.tree 6 (p2.map af.enc)),.c (.fn 88 [])] (.c (.bool r)))(p1 p2:af)(r:Bool)(hm:js rc_slices_EqualFunc_api_Expr_api_Expr_api_Expr_api_Expr p1 p2=some r):b9 Tryz.prog 88 [.a [.int .i64 p1.op,.int .i64 p1.k,.int .i64 p1.n,.str p1.name,.tree 1 (p1.s.map (eL 2 am.enc)),.tree 6 (p1.l.map af.enc)],.a [.int .i64 p2.op,.int .i64 p2.k,.int .i64 p2.n,.str p2.name,.tree 1 (p2.s.map (eL 2 am.enc)),.tree 6 (p2.l.map af.enc)]] (.c (.bool r)):=by
 refine aF 45 [.tmp 4] Tryz.func88 rfl rfl rfl (by kernel_rfl) (by simp) ?_;refine bJ ?_;unfold js at hm;refine aq [0,1,4] ?_;refine cM [2,3,5,6,7,8,9,10,11,12,13,14,15,16,17,18,19,20,21,22,23,24,25,26,27,28,29,30,31,32,33,34,35,36,37,38,39,40,41,42,43,44] fun k kp hk hp=>?_;refine aC 6 ?_;refine go ?_
 by_cases h1:p1.op=p2.op
 ·rw [iP h1] at hm;have h1b:=eQ h1;refine aC 7 ?_;refine gox h1b ?_
  by_cases h2:p1.k=p2.k
  ·rw [iP h2] at hm;have h2b:=eQ h2;refine aC 7 ?_;refine gox (a2 h1b h2b) ?_
   by_cases h3:p1.n=p2.n
   ·rw [iP h3] at hm;have h3b:=eQ h3;refine aC 7 ?_;refine gox (a2 h1b (a2 h2b h3b)) ?_
    by_cases h4:p1.name=p2.name
    ·rw [iP h4] at hm;have h4b:=eQ h4;refine aa ?_;refine gox (a2 h1b (a2 h2b (a2 h3b h4b))) ?_;obtain ⟨y1,hc5,hm⟩:=bd hm;refine RP (fun _=>cQ p1.s p2.s _ hc5) ?_
     by_cases h6:y1=true
     ·rw [iP h6] at hm;have h6b:=h6;refine aa ?_;refine gox (a2 h1b (a2 h2b (a2 h3b (a2 h4b h6b)))) ?_;obtain ⟨y2,hc7,hm⟩:=bd hm;refine RP (fun _=>hr_slices_EqualFunc_api_Expr_api_Expr_api_Expr_api_Expr p1.l p2.l _ hc7) ?_;refine aa ?_;refine gox (a2 h1b (a2 h2b (a2 h3b (a2 h4b h6b)))) ?_;refine hk _ _ ?_;clear hk hp k kp;refine aA ?_
      cases hm
      exact kr 0
     ·rw [iN h6] at hm;have h6b:=fB h6;refine aa ?_;refine gox (a2 h1b (a2 h2b (a2 h3b (a2 h4b h6b)))) ?_;refine hk _ _ ?_;clear hk hp k kp;refine aA ?_
      cases hm
      exact kr 0
    ·rw [iN h4] at hm;have h4b:=nB h4;refine aa ?_;refine gox (a2 h1b (a2 h2b (a2 h3b h4b))) ?_;refine hk _ _ ?_;clear hk hp k kp;refine aA ?_
     cases hm
     exact kr 0
   ·rw [iN h3] at hm;have h3b:=nB h3;refine aa ?_;refine gox (a2 h1b (a2 h2b h3b)) ?_;refine hk _ _ ?_;clear hk hp k kp;refine aA ?_
    cases hm
    exact kr 0
  ·rw [iN h2] at hm;have h2b:=nB h2;refine aa ?_;refine gox (a2 h1b h2b) ?_;refine hk _ _ ?_;clear hk hp k kp;refine aA ?_
   cases hm
   exact kr 0
 ·rw [iN h1] at hm;have h1b:=nB h1;refine aa ?_;refine gox h1b ?_;refine hk _ _ ?_;clear hk hp k kp;refine aA ?_
  cases hm
  exact kr 0
theorem eZ(rcf:(List af)→(List af)→Option Bool)(hrec:∀ (p1:List af) (p2:List af) (r:Bool),rcf p1 p2=some r→b9 Tryz.prog 87 [.c (.tree 6 (p1.map af.enc)),.c (.tree 6 (p2.map af.enc)),.c (.fn 88 [])] (.c (.bool r)))(p1 p2:List af)(r:Bool)(hm:bu rcf p1 p2=some r):b9 Tryz.prog 87 [.c (.tree 6 (p1.map af.enc)),.c (.tree 6 (p2.map af.enc)),.c (.fn 88 [])] (.c (.bool r)):=by
 refine aF 32 [.tmp 6] Tryz.func87 rfl rfl rfl (by kernel_rfl) (by simp) ?_;refine bJ ?_;unfold bu at hm;refine aq [6] ?_;refine aB fun k1 hk1=>?_;refine aq [10,11,12,13] ?_
 by_cases h1:¬ (p1.length:Int)=(p2.length:Int)
 ·rw [iP h1] at hm;refine aj rfl (bne_iff_ne.2 h1) ?_;refine aq [0,1,2,14] ?_;refine aA ?_;refine bi ?_
  cases hm
  exact kr 0
 ·rw [iN h1] at hm;refine ak rfl (bne_eq_false_iff_eq.2 (Decidable.not_not.1 h1)) ?_;refine ar ?_;refine ax (hk1 _ _ ?_);refine bk (S:=Unit) (V:=Unit) [0,1,2,6,7,8,9,14,15,16,17,18,19,20,21,22,23,24,25,26,27,28,29,30,31] (fun _ _=>[]) (fun _ _=>[]) (fun _=>br=some r) ?_ ?_
  ·skip;refine aq [0,14] ?_
   refine aK ?_;obtain ⟨o1,hl1,hm1⟩:=bd hm;refine bQ (S:=Int) (V:=Unit) (O:=Unit ⊕ Bool) [6,7,8,9,17,18,19,20,21,22,23,24,25,26,27,28,29,30,31] (fun x3 _=>[(17,.c (.int .i64 x3))]) (fun x3 _=>[]) _ _ () hl1 ?_ ?_
   ·exact ls
   ·rintro x3 _ r1 hm hr1;replace hm:bt rcf p1 p2 x3=some r1:=hm;refine bm ?_;unfold bt at hm;refine aq [] ?_;refine aB fun k2 hk2=>?_
    by_cases h2:x3<(p1.length:Int)
    ·rw [iP h2] at hm;refine aj rfl (dT h2) ?_;refine ar ?_;refine ax (hk2 _ _ ?_);refine aB fun k3 hk3=>?_;refine aK ?_;obtain ⟨hg3a,hm⟩:=gd hm;refine et (em af.enc p1 x3.toNat) [18,19,20,21] ?_;obtain ⟨hg4a,hm⟩:=gd hm;refine et (em af.enc p2 x3.toNat) [7,22,23,24,25] ?_;refine az [8,9,26,27,28,29] fun k kp hk hp=>?_;refine go ?_;obtain ⟨y4,hc5,hm⟩:=bd hm;refine RP (fun _=>oC rcf hrec (p1.getD x3.toNat default) (p2.getD x3.toNat default) _ hc5) ?_;refine aa ?_;refine go ?_;refine hk _ _ ?_;clear hk hp k kp
     by_cases h6:y4=true
     ·rw [iP h6] at hm;refine ak rfl (by rw [show y4=true from (h6)];rfl) ?_;refine ar ?_;refine aW ?_;refine ax (hk3 _ _ ?_);refine d6 ?_;refine bw (IntKind.wrap .i64 (x3+1)) () hm ?_;exact ls
     ·rw [iN h6] at hm;refine aj rfl (by rw [show y4=false from (fB h6)];rfl) ?_;refine aq [1,2,15,16,17,30] ?_;have ho7:=aD hm hr1;subst ho7;replace hm:some false=some r:=hm1;refine aA ?_;refine ao (bi (aO (ao (aw ?_))))
      cases hm
      exact kr 0
    ·rw [iN h2] at hm;refine ak rfl (dF h2) ?_;refine cj ?_;have ho8:=aD hm hr1;subst ho8;replace hm:br=some r:=hm1;refine bP (bx (aX ?_));refine an () () hm ?_;exact ls
  ·rintro _ _ hm;replace hm:br=some r:=hm;refine bm ?_;unfold br at hm;refine aq [] ?_;refine aA ?_
   cases hm
   exact kr 0
theorem e9(fuel:Nat)(p1 p2:List af)(r:Bool)(hm:cg fuel p1 p2=some r):b9 Tryz.prog 87 [.c (.tree 6 (p1.map af.enc)),.c (.tree 6 (p2.map af.enc)),.c (.fn 88 [])] (.c (.bool r)):=by
  have key:∀ (n:Nat) (p1:List af) (p2:List af) (r:Bool),aR n p1 p2=some r→b9 Tryz.prog 87 [.c (.tree 6 (p1.map af.enc)),.c (.tree 6 (p2.map af.enc)),.c (.fn 88 [])] (.c (.bool r)):=by
    intro n
    induction n with
    |zero =>
      intro p1 p2  r hm;simp [aR] at hm
    |succ n ih =>
      intro p1 p2  r hm;exact eZ (aR n) ih p1 p2  r hm
  exact key fuel p1 p2  r hm
theorem pk(fuel:Nat)(p1 p2:TEq)(r:Bool)(hm:jo fuel p1 p2=some r):b9 Tryz.prog 66 [.a [.int .i64 p1.at_,.tree 1 (p1.names.map eS),.str p1.node,.tree 1 (p1.s.map (eL 2 am.enc)),.tree 6 (p1.e.map af.enc)],.a [.int .i64 p2.at_,.tree 1 (p2.names.map eS),.str p2.node,.tree 1 (p2.s.map (eL 2 am.enc)),.tree 6 (p2.e.map af.enc)]] (.c (.bool r)):=by
 refine aF 31 [.tmp 4] Tryz.func66 rfl rfl rfl (by kernel_rfl) (by simp) ?_;refine bJ ?_;unfold jo at hm;refine aq [0,1,4] ?_;refine az [2,3,5,6,7,8,9,10,11,12,13,14,15,16,17,18,19,20,21,22,23,24,25,26,27,28,29,30] fun k kp hk hp=>?_;refine go ?_;obtain ⟨y1,hc1,hm⟩:=bd hm;refine RP (fun _=>hO p1.names p2.names _ hc1) ?_
 by_cases h2:y1=true
 ·rw [iP h2] at hm;have h2b:=h2;refine aC 8 ?_;refine gox h2b ?_
  by_cases h3:p1.node=p2.node
  ·rw [iP h3] at hm;have h3b:=eQ h3;refine aa ?_;refine gox (a2 h2b h3b) ?_;obtain ⟨y2,hc4,hm⟩:=bd hm;refine RP (fun _=>cQ p1.s p2.s _ hc4) ?_
   by_cases h5:y2=true
   ·rw [iP h5] at hm;have h5b:=h5;refine aa ?_;refine gox (a2 h2b (a2 h3b h5b)) ?_;obtain ⟨y3,hc6,hm⟩:=bd hm;refine RP (fun _=>e9 fuel p1.e p2.e _ hc6) ?_;refine aa ?_;refine gox (a2 h2b (a2 h3b h5b)) ?_;refine hk _ _ ?_;clear hk hp k kp;refine aA ?_
    cases hm
    exact kr 0
   ·rw [iN h5] at hm;have h5b:=fB h5;refine aa ?_;refine gox (a2 h2b (a2 h3b h5b)) ?_;refine hk _ _ ?_;clear hk hp k kp;refine aA ?_
    cases hm
    exact kr 0
  ·rw [iN h3] at hm;have h3b:=nB h3;refine aa ?_;refine gox (a2 h2b h3b) ?_;refine hk _ _ ?_;clear hk hp k kp;refine aA ?_
   cases hm
   exact kr 0
 ·rw [iN h2] at hm;have h2b:=fB h2;refine aa ?_;refine gox h2b ?_;refine hk _ _ ?_;clear hk hp k kp;refine aA ?_
  cases hm
  exact kr 0
theorem gw(fuel:Nat)(p1 p2:List TEq)(r:Bool)(hm:bN fuel p1 p2=some r):b9 Tryz.prog 65 [.c (.tree 5 (p1.map TEq.enc)),.c (.tree 5 (p2.map TEq.enc)),.c (.fn 66 [])] (.c (.bool r)):=by
 refine aF 32 [.tmp 6] Tryz.func65 rfl rfl rfl (by kernel_rfl) (by simp) ?_;refine bJ ?_;unfold bN at hm;refine aq [6] ?_;refine aB fun k1 hk1=>?_;refine aq [10,11,12,13] ?_
 by_cases h1:¬ (p1.length:Int)=(p2.length:Int)
 ·rw [iP h1] at hm;refine aj rfl (bne_iff_ne.2 h1) ?_;refine aq [0,1,2,14] ?_;refine aA ?_;refine bi ?_
  cases hm
  exact kr 0
 ·rw [iN h1] at hm;refine ak rfl (bne_eq_false_iff_eq.2 (Decidable.not_not.1 h1)) ?_;refine ar ?_;refine ax (hk1 _ _ ?_);refine bk (S:=Unit) (V:=Unit) [0,1,2,6,7,8,9,14,15,16,17,18,19,20,21,22,23,24,25,26,27,28,29,30,31] (fun _ _=>[]) (fun _ _=>[]) (fun _=>bD=some r) ?_ ?_
  ·skip;refine aq [0,14] ?_
   refine aK ?_;obtain ⟨o1,hl1,hm1⟩:=bd hm;refine bQ (S:=Int) (V:=Unit) (O:=Unit ⊕ Bool) [6,7,8,9,17,18,19,20,21,22,23,24,25,26,27,28,29,30,31] (fun x3 _=>[(17,.c (.int .i64 x3))]) (fun x3 _=>[]) _ _ () hl1 ?_ ?_
   ·exact ls
   ·rintro x3 _ r1 hm hr1;replace hm:bG fuel p1 p2 x3=some r1:=hm;refine bm ?_;unfold bG at hm;refine aq [] ?_;refine aB fun k2 hk2=>?_
    by_cases h2:x3<(p1.length:Int)
    ·rw [iP h2] at hm;refine aj rfl (dT h2) ?_;refine ar ?_;refine ax (hk2 _ _ ?_);refine aB fun k3 hk3=>?_;refine aK ?_;obtain ⟨hg3a,hm⟩:=gd hm;refine et (em TEq.enc p1 x3.toNat) [18,19,20,21] ?_;obtain ⟨hg4a,hm⟩:=gd hm;refine et (em TEq.enc p2 x3.toNat) [7,22,23,24,25] ?_;refine az [8,9,26,27,28,29] fun k kp hk hp=>?_;refine go ?_;obtain ⟨y4,hc5,hm⟩:=bd hm;refine RP (fun _=>pk fuel (p1.getD x3.toNat default) (p2.getD x3.toNat default) _ hc5) ?_;refine aa ?_;refine go ?_;refine hk _ _ ?_;clear hk hp k kp
     by_cases h6:y4=true
     ·rw [iP h6] at hm;refine ak rfl (by rw [show y4=true from (h6)];rfl) ?_;refine ar ?_;refine aW ?_;refine ax (hk3 _ _ ?_);refine d6 ?_;refine bw (IntKind.wrap .i64 (x3+1)) () hm ?_;exact ls
     ·rw [iN h6] at hm;refine aj rfl (by rw [show y4=false from (fB h6)];rfl) ?_;refine aq [1,2,15,16,17,30] ?_;have ho7:=aD hm hr1;subst ho7;replace hm:some false=some r:=hm1;refine aA ?_;refine ao (bi (aO (ao (aw ?_))))
      cases hm
      exact kr 0
    ·rw [iN h2] at hm;refine ak rfl (dF h2) ?_;refine cj ?_;have ho8:=aD hm hr1;subst ho8;replace hm:bD=some r:=hm1;refine bP (bx (aX ?_));refine an () () hm ?_;exact ls
  ·rintro _ _ hm;replace hm:bD=some r:=hm;refine bm ?_;unfold bD at hm;refine aq [] ?_;refine aA ?_
   cases hm
   exact kr 0
theorem oD(fuel:Nat)(p1 p2:aS)(r:Bool)(hm:iv fuel p1 p2=some r):b9 Tryz.prog 32 [.a [.str p1.name,.int .i64 p1.at_,.tree 1 (p1.sizes.map eS),.tree 3 (p1.in_.map ay.enc),.tree 3 (p1.out_.map ay.enc),.tree 3 (p1.local_.map ay.enc),.tree 5 (p1.eqs.map TEq.enc)],.a [.str p2.name,.int .i64 p2.at_,.tree 1 (p2.sizes.map eS),.tree 3 (p2.in_.map ay.enc),.tree 3 (p2.out_.map ay.enc),.tree 3 (p2.local_.map ay.enc),.tree 5 (p2.eqs.map TEq.enc)]] (.c (.bool r)):=by
 refine aF 45 [.tmp 4] Tryz.func32 rfl rfl rfl (by kernel_rfl) (by simp) ?_;refine bJ ?_;unfold iv at hm;refine aq [0,1,4] ?_;refine cM [2,3,5,6,7,8,9,10,11,12,13,14,15,16,17,18,19,20,21,22,23,24,25,26,27,28,29,30,31,32,33,34,35,36,37,38,39,40,41,42,43,44] fun k kp hk hp=>?_;refine aC 6 ?_;refine go ?_
 by_cases h1:p1.name=p2.name
 ·rw [iP h1] at hm;have h1b:=eQ h1;refine aa ?_;refine gox h1b ?_;obtain ⟨y1,hc2,hm⟩:=bd hm;refine RP (fun _=>hO p1.sizes p2.sizes _ hc2) ?_
  by_cases h3:y1=true
  ·rw [iP h3] at hm;have h3b:=h3;refine aa ?_;refine gox (a2 h1b h3b) ?_;obtain ⟨y2,hc4,hm⟩:=bd hm;refine RP (fun _=>bY p1.in_ p2.in_ _ hc4) ?_
   by_cases h5:y2=true
   ·rw [iP h5] at hm;have h5b:=h5;refine aa ?_;refine gox (a2 h1b (a2 h3b h5b)) ?_;obtain ⟨y3,hc6,hm⟩:=bd hm;refine RP (fun _=>bY p1.out_ p2.out_ _ hc6) ?_
    by_cases h7:y3=true
    ·rw [iP h7] at hm;have h7b:=h7;refine aa ?_;refine gox (a2 h1b (a2 h3b (a2 h5b h7b))) ?_;obtain ⟨y4,hc8,hm⟩:=bd hm;refine RP (fun _=>bY p1.local_ p2.local_ _ hc8) ?_
     by_cases h9:y4=true
     ·rw [iP h9] at hm;have h9b:=h9;refine aa ?_;refine gox (a2 h1b (a2 h3b (a2 h5b (a2 h7b h9b)))) ?_;obtain ⟨y5,hc10,hm⟩:=bd hm;refine RP (fun _=>gw fuel p1.eqs p2.eqs _ hc10) ?_;refine aa ?_;refine gox (a2 h1b (a2 h3b (a2 h5b (a2 h7b h9b)))) ?_;refine hk _ _ ?_;clear hk hp k kp;refine aA ?_
      cases hm
      exact kr 0
     ·rw [iN h9] at hm;have h9b:=fB h9;refine aa ?_;refine gox (a2 h1b (a2 h3b (a2 h5b (a2 h7b h9b)))) ?_;refine hk _ _ ?_;clear hk hp k kp;refine aA ?_
      cases hm
      exact kr 0
    ·rw [iN h7] at hm;have h7b:=fB h7;refine aa ?_;refine gox (a2 h1b (a2 h3b (a2 h5b h7b))) ?_;refine hk _ _ ?_;clear hk hp k kp;refine aA ?_
     cases hm
     exact kr 0
   ·rw [iN h5] at hm;have h5b:=fB h5;refine aa ?_;refine gox (a2 h1b (a2 h3b h5b)) ?_;refine hk _ _ ?_;clear hk hp k kp;refine aA ?_
    cases hm
    exact kr 0
  ·rw [iN h3] at hm;have h3b:=fB h3;refine aa ?_;refine gox (a2 h1b h3b) ?_;refine hk _ _ ?_;clear hk hp k kp;refine aA ?_
   cases hm
   exact kr 0
 ·rw [iN h1] at hm;have h1b:=nB h1;refine aa ?_;refine gox h1b ?_;refine hk _ _ ?_;clear hk hp k kp;refine aA ?_
  cases hm
  exact kr 0
theorem fa(fuel:Nat)(p1 p2:List aS)(r:Bool)(hm:bO fuel p1 p2=some r):b9 Tryz.prog 31 [.c (.tree 7 (p1.map aS.enc)),.c (.tree 7 (p2.map aS.enc)),.c (.fn 32 [])] (.c (.bool r)):=by
 refine aF 32 [.tmp 6] Tryz.func31 rfl rfl rfl (by kernel_rfl) (by simp) ?_;refine bJ ?_;unfold bO at hm;refine aq [6] ?_;refine aB fun k1 hk1=>?_;refine aq [10,11,12,13] ?_
 by_cases h1:¬ (p1.length:Int)=(p2.length:Int)
 ·rw [iP h1] at hm;refine aj rfl (bne_iff_ne.2 h1) ?_;refine aq [0,1,2,14] ?_;refine aA ?_;refine bi ?_
  cases hm
  exact kr 0
 ·rw [iN h1] at hm;refine ak rfl (bne_eq_false_iff_eq.2 (Decidable.not_not.1 h1)) ?_;refine ar ?_;refine ax (hk1 _ _ ?_);refine bk (S:=Unit) (V:=Unit) [0,1,2,6,7,8,9,14,15,16,17,18,19,20,21,22,23,24,25,26,27,28,29,30,31] (fun _ _=>[]) (fun _ _=>[]) (fun _=>bf=some r) ?_ ?_
  ·skip;refine aq [0,14] ?_
   refine aK ?_;obtain ⟨o1,hl1,hm1⟩:=bd hm;refine bQ (S:=Int) (V:=Unit) (O:=Unit ⊕ Bool) [6,7,8,9,17,18,19,20,21,22,23,24,25,26,27,28,29,30,31] (fun x3 _=>[(17,.c (.int .i64 x3))]) (fun x3 _=>[]) _ _ () hl1 ?_ ?_
   ·exact ls
   ·rintro x3 _ r1 hm hr1;replace hm:aL fuel p1 p2 x3=some r1:=hm;refine bm ?_;unfold aL at hm;refine aq [] ?_;refine aB fun k2 hk2=>?_
    by_cases h2:x3<(p1.length:Int)
    ·rw [iP h2] at hm;refine aj rfl (dT h2) ?_;refine ar ?_;refine ax (hk2 _ _ ?_);refine aB fun k3 hk3=>?_;refine aK ?_;obtain ⟨hg3a,hm⟩:=gd hm;refine et (em aS.enc p1 x3.toNat) [18,19,20,21] ?_;obtain ⟨hg4a,hm⟩:=gd hm;refine et (em aS.enc p2 x3.toNat) [7,22,23,24,25] ?_;refine az [8,9,26,27,28,29] fun k kp hk hp=>?_;refine go ?_;obtain ⟨y4,hc5,hm⟩:=bd hm;refine RP (fun _=>oD fuel (p1.getD x3.toNat default) (p2.getD x3.toNat default) _ hc5) ?_;refine aa ?_;refine go ?_;refine hk _ _ ?_;clear hk hp k kp
     by_cases h6:y4=true
     ·rw [iP h6] at hm;refine ak rfl (by rw [show y4=true from (h6)];rfl) ?_;refine ar ?_;refine aW ?_;refine ax (hk3 _ _ ?_);refine d6 ?_;refine bw (IntKind.wrap .i64 (x3+1)) () hm ?_;exact ls
     ·rw [iN h6] at hm;refine aj rfl (by rw [show y4=false from (fB h6)];rfl) ?_;refine aq [1,2,15,16,17,30] ?_;have ho7:=aD hm hr1;subst ho7;replace hm:some false=some r:=hm1;refine aA ?_;refine ao (bi (aO (ao (aw ?_))))
      cases hm
      exact kr 0
    ·rw [iN h2] at hm;refine ak rfl (dF h2) ?_;refine cj ?_;have ho8:=aD hm hr1;subst ho8;replace hm:bf=some r:=hm1;refine bP (bx (aX ?_));refine an () () hm ?_;exact ls
  ·rintro _ _ hm;replace hm:bf=some r:=hm;refine bm ?_;unfold bf at hm;refine aq [] ?_;refine aA ?_
   cases hm
   exact kr 0
theorem nn(fuel:Nat)(p1 p2:aH)(r:Bool)(hm:jD fuel p1 p2=some r):b9 Tryz.prog 11 [.a [.tree 7 (p1.nodes.map aS.enc)],.a [.tree 7 (p2.nodes.map aS.enc)]] (.c (.bool r)):=by
 refine aF 10 [.tmp 4] Tryz.func11 rfl rfl rfl (by kernel_rfl) (by simp) ?_;refine bJ ?_;unfold jD at hm;refine aq [0,1,4] ?_;refine az [2,3,5,6,7,8,9] fun k kp hk hp=>?_;refine go ?_;obtain ⟨y1,hc1,hm⟩:=bd hm;refine RP (fun _=>fa fuel p1.nodes p2.nodes _ hc1) ?_;refine aa ?_;refine go ?_;refine hk _ _ ?_;clear hk hp k kp;refine aA ?_
 cases hm
 exact kr 0
theorem mj(p1:List (List UInt8))(r:(List (List UInt8)))(hm:iC p1=some r):b9 Tryz.prog 33 [.c (.tree 1 (p1.map eS))] (.c (.tree 1 (r.map eS))):=by
 refine aF 7 [.tmp 2] Tryz.func33 rfl rfl rfl (by kernel_rfl) (by simp) ?_;refine bJ ?_;unfold iC at hm;refine aq [2] ?_;refine aq [] ?_;obtain ⟨⟨hg1ax,hg1ay⟩,hm⟩:=gd hm;refine aq [0,3,4,5,6] ?_;refine jN [.arr 1 0 9 (p1.map eS)] ?_;refine kx (aG 0 rfl) ?_;refine aA ?_
 cases hm
 exact kr 0
theorem kh(p1:List ay)(r:(List ay))(hm:gB p1=some r):b9 Tryz.prog 34 [.c (.tree 3 (p1.map ay.enc))] (.c (.tree 3 (r.map ay.enc))):=by
 refine aF 29 [.tmp 2] Tryz.func34 rfl rfl rfl (by kernel_rfl) (by simp) ?_;refine bJ ?_;unfold gB at hm;refine aq [2] ?_;refine aq [] ?_;refine fT (jC 3 3 96 (by decide) rfl (Nat.le_of_ble_eq_true rfl)) ?_;refine pw ?_;refine bk (S:=(List ay)) (V:=Nat) [0,3,4,5,6,7,8,9,10,11,12,13,14,15,16,17,18,19,20,21,22,23,24,25,26,27] (fun l3 v4=>[(3,.c (.osl 0 v4 0 l3.length))]) (fun l3 v4=>[.arr 3 v4 96 (l3.map ay.enc)]) (fun l3=>hI l3=some r) ?_ ?_
 ·skip;refine aq [] ?_
  refine aK ?_;obtain ⟨o1,hl1,hm1⟩:=bd hm;refine bQ (S:=((List ay)×Int)) (V:=Nat) (O:=(List ay)) [3,4,5,6,7,8,9,10,11,12,13,14,15,16,17,18,19,20,21,22,23,24,25,26,27] (fun (l17,x19) v18=>[(3,.c (.osl 0 v18 0 l17.length)),(4,.c (.int .i64 x19))]) (fun (l17,x19) v18=>[.arr 3 v18 96 (l17.map ay.enc)]) _ _ 0 hl1 ?_ ?_
  ·exact ls
  ·rintro ⟨l17,x19⟩ v18 r1 hm hr1;replace hm:eU p1 l17 x19=some r1:=hm;refine bm ?_;unfold eU at hm;refine aB fun k1 hk1=>?_;refine aq [7,8,9] ?_
   by_cases h1:x19<(p1.length:Int)
   ·rw [iP h1] at hm;refine aj rfl (dT h1) ?_;refine ar ?_;refine ax (hk1 _ _ ?_);refine aB fun k2 hk2=>?_;refine aK ?_;obtain ⟨hg2a,hm⟩:=gd hm;refine et (em ay.enc p1 x19.toNat) [10,13,14,15,16] ?_;refine aq [] ?_;obtain ⟨⟨hg3ax,hg3ay⟩,hm⟩:=gd hm;refine aq [6,17,18,19,20,21,22,23] ?_;refine jN [.arr 3 v18 96 (l17.map ay.enc),.box [.str ((p1.getD x19.toNat default).name),.int .u8 (((p1.getD x19.toNat default).t).elem),.osl 2 0 0 ((((p1.getD x19.toNat default).t).n).length)],.arr 2 0 104 ((((p1.getD x19.toNat default).t).n).map am.enc)] ?_;refine kx (aG 2 rfl) ?_;obtain ⟨⟨hg4ax,hg4ay⟩,hm⟩:=gd hm;refine d6 ?_;refine aW ?_;refine ax (hk2 _ _ ?_);refine d6 ?_;refine bw ((l17++(lit ([(ay.mk ((p1.getD x19.toNat default).name) ((p1.getD x19.toNat default).t))]:List ay))),(IntKind.wrap .i64 (x19+1))) (v18+1) hm ?_;exact ls
   ·rw [iN h1] at hm;refine ak rfl (dF h1) ?_;refine cj ?_;have ho5:=aD hm hr1;subst ho5;replace hm:hI l17=some r:=hm1;refine bP (bx (aX ?_));refine an l17 v18 hm ?_;exact ls
 ·rintro l3 v4 hm;replace hm:hI l3=some r:=hm;refine bm ?_;unfold hI at hm;refine aq [3,28] ?_;refine kx (aG 0 rfl) ?_;refine aA ?_
  cases hm
  exact kr 0
theorem ml(p1:List (List am))(r:(List (List am)))(hm:iD p1=some r):b9 Tryz.prog 35 [.c (.tree 1 (p1.map (eL 2 am.enc)))] (.c (.tree 1 (r.map (eL 2 am.enc)))):=by
 refine aF 22 [.tmp 2] Tryz.func35 rfl rfl rfl (by kernel_rfl) (by simp) ?_;refine bJ ?_;unfold iD at hm;refine aq [2] ?_;refine aq [] ?_;refine fT (jC 3 1 92 (by decide) rfl (Nat.le_of_ble_eq_true rfl)) ?_;refine pw ?_;refine bk (S:=(List (List am))) (V:=Nat) [0,3,4,5,6,7,8,9,10,11,12,13,14,15,16,17,18,19,20] (fun l3 v4=>[(3,.c (.osl 0 v4 0 l3.length))]) (fun l3 v4=>[.arr 1 v4 92 (l3.map (eL 2 am.enc))]) (fun l3=>hK l3=some r) ?_ ?_
 ·skip;refine aq [] ?_
  refine aK ?_;obtain ⟨o1,hl1,hm1⟩:=bd hm;refine bQ (S:=((List (List am))×Int)) (V:=Nat) (O:=(List (List am))) [3,4,5,6,7,8,9,10,11,12,13,14,15,16,17,18,19,20] (fun (l17,x19) v18=>[(3,.c (.osl 0 v18 0 l17.length)),(4,.c (.int .i64 x19))]) (fun (l17,x19) v18=>[.arr 1 v18 92 (l17.map (eL 2 am.enc))]) _ _ 0 hl1 ?_ ?_
  ·exact ls
  ·rintro ⟨l17,x19⟩ v18 r1 hm hr1;replace hm:eV p1 l17 x19=some r1:=hm;refine bm ?_;unfold eV at hm;refine aB fun k1 hk1=>?_;refine aq [6,7,8] ?_
   by_cases h1:x19<(p1.length:Int)
   ·rw [iP h1] at hm;refine aj rfl (dT h1) ?_;refine ar ?_;refine ax (hk1 _ _ ?_);refine aB fun k2 hk2=>?_;refine aK ?_;refine aq [9] ?_;obtain ⟨⟨hg2a,⟨hg2bx,hg2by⟩⟩,hm⟩:=gd hm;refine l6 fun k kp hk hp=>?_;refine aC 7 ?_;refine gox (em (eL 2 am.enc) p1 x19.toNat) ?_;refine dI (aG 1 rfl) ?_;refine gz ?_;obtain ⟨⟨hg3ax,hg3ay⟩,hm⟩:=gd hm;refine aa ?_;refine go ?_;refine hk _ _ ?_;clear hk hp k kp;refine aW ?_;refine ax (hk2 _ _ ?_);refine d6 ?_;refine bw ((l17++(lit ([(p1.getD x19.toNat default)]:List (List am)))),(IntKind.wrap .i64 (x19+1))) (v18+1) hm ?_;exact ls
   ·rw [iN h1] at hm;refine ak rfl (dF h1) ?_;refine cj ?_;have ho4:=aD hm hr1;subst ho4;replace hm:hK l17=some r:=hm1;refine bP (bx (aX ?_));refine an l17 v18 hm ?_;exact ls
 ·rintro l3 v4 hm;replace hm:hK l3=some r:=hm;refine bm ?_;unfold hK at hm;refine aq [3,21] ?_;refine kx (aG 0 rfl) ?_;refine aA ?_
  cases hm
  exact kr 0
theorem oE(rcf:(List af)→Option (List af))(hrec:∀ (p1:List af) (r:(List af)),rcf p1=some r→b9 Tryz.prog 36 [.c (.tree 6 (p1.map af.enc))] (.c (.tree 6 (r.map af.enc))))(p1:List af)(r:(List af))(hm:iw rcf p1=some r):b9 Tryz.prog 36 [.c (.tree 6 (p1.map af.enc))] (.c (.tree 6 (r.map af.enc))):=by
 refine aF 29 [.tmp 2] Tryz.func36 rfl rfl rfl (by kernel_rfl) (by simp) ?_;refine bJ ?_;unfold iw at hm;refine aq [2] ?_;refine aq [] ?_;refine fT (jC 3 6 49 (by decide) rfl (Nat.le_of_ble_eq_true rfl)) ?_;refine pw ?_;refine bk (S:=(List af)) (V:=Nat) [0,3,4,5,6,7,8,9,10,11,12,13,14,15,16,17,18,19,20,21,22,23,24,25,26,27] (fun l3 v4=>[(3,.c (.osl 0 v4 0 l3.length))]) (fun l3 v4=>[.arr 6 v4 49 (l3.map af.enc)]) (fun l3=>hL l3=some r) ?_ ?_
 ·skip;refine aq [] ?_
  refine aK ?_;obtain ⟨o1,hl1,hm1⟩:=bd hm;refine bQ (S:=((List af)×Int)) (V:=Nat) (O:=(List af)) [3,4,5,6,7,8,9,10,11,12,13,14,15,16,17,18,19,20,21,22,23,24,25,26,27] (fun (l17,x19) v18=>[(3,.c (.osl 0 v18 0 l17.length)),(4,.c (.int .i64 x19))]) (fun (l17,x19) v18=>[.arr 6 v18 49 (l17.map af.enc)]) _ _ 0 hl1 ?_ ?_
  ·exact ls
  ·rintro ⟨l17,x19⟩ v18 r1 hm hr1;replace hm:eW rcf p1 l17 x19=some r1:=hm;refine bm ?_;unfold eW at hm;refine aB fun k1 hk1=>?_;refine aq [6,7,8] ?_
   by_cases h1:x19<(p1.length:Int)
   ·rw [iP h1] at hm;refine aj rfl (dT h1) ?_;refine ar ?_;refine ax (hk1 _ _ ?_);refine aB fun k2 hk2=>?_;refine aK ?_;obtain ⟨hg2a,hm⟩:=gd hm;refine et (em af.enc p1 x19.toNat) [9,12,13,14,15] ?_;refine az [16,17,18,19] fun k kp hk hp=>?_;refine go ?_;obtain ⟨y20,hc3,hm⟩:=bd hm;refine RP (fun _=>ml ((p1.getD x19.toNat default).s) _ hc3) ?_;refine aa ?_;refine go ?_;refine hk _ _ ?_;clear hk hp k kp;refine az [20,21,22,23] fun k kp hk hp=>?_;refine go ?_;obtain ⟨y21,hc4,hm⟩:=bd hm;refine RP (fun _=>hrec ((p1.getD x19.toNat default).l) _ hc4) ?_;refine aa ?_;refine go ?_;refine hk _ _ ?_;clear hk hp k kp;obtain ⟨⟨hg5ax,hg5ay⟩,hm⟩:=gd hm;refine d6 ?_;refine aW ?_;refine ax (hk2 _ _ ?_);refine d6 ?_;refine bw ((l17++(lit ([(af.mk ((p1.getD x19.toNat default).op) ((p1.getD x19.toNat default).k) ((p1.getD x19.toNat default).n) ((p1.getD x19.toNat default).name) y20 y21)]:List af))),(IntKind.wrap .i64 (x19+1))) (v18+1) hm ?_;exact ls
   ·rw [iN h1] at hm;refine ak rfl (dF h1) ?_;refine cj ?_;have ho6:=aD hm hr1;subst ho6;replace hm:hL l17=some r:=hm1;refine bP (bx (aX ?_));refine an l17 v18 hm ?_;exact ls
 ·rintro l3 v4 hm;replace hm:hL l3=some r:=hm;refine bm ?_;unfold hL at hm;refine aq [3,28] ?_;refine kx (aG 0 rfl) ?_;refine aA ?_
  cases hm
  exact kr 0
theorem pm(fuel:Nat)(p1:List af)(r:(List af))(hm:lN fuel p1=some r):b9 Tryz.prog 36 [.c (.tree 6 (p1.map af.enc))] (.c (.tree 6 (r.map af.enc))):=by
  have key:∀ (n:Nat) (p1:List af) (r:(List af)),dM n p1=some r→b9 Tryz.prog 36 [.c (.tree 6 (p1.map af.enc))] (.c (.tree 6 (r.map af.enc))):=by
    intro n
    induction n with
    |zero =>
      intro p1  r hm;simp [dM] at hm
    |succ n ih =>
      intro p1  r hm;exact oE (dM n) ih p1  r hm
  exact key fuel p1  r hm
theorem oF(fuel:Nat)(p1 r:aH)(hm:ix fuel p1=some r):b9 Tryz.prog 12 [.a [.tree 7 (p1.nodes.map aS.enc)]] (.a [.tree 7 (((r).nodes).map aS.enc)]):=by
 refine aF 74 [.cell 2 25] Tryz.func12 rfl rfl rfl (by kernel_rfl) (by simp) ?_;refine bJ ?_;unfold ix at hm;refine aq [0] ?_;refine aq [] ?_;refine kx (kd 2 0 7 42 (by decide) rfl rfl) ?_;refine bk (S:=(List aS)) (V:=Nat) [1,4,5,6,7,8,9,10,11,12,13,14,15,16,17,18,19,20,21,22,23,24,25,26,27,28,29,30,31,32,33,34,35,36,37,38,39,40,41,42,43,44,45,46,47,48,49,50,51,52,53,54,55,56,57,58,59,60,61,62,63,64,65,66,67,68,69,70,71,72] (fun l3 v4=>[]) (fun l3 v4=>[.box [.tree 7 (p1.nodes.map aS.enc)],.box [.nils],.box [.osl 3 v4 0 l3.length],.arr 7 v4 42 (l3.map aS.enc)]) (fun l3=>fR l3=some r) ?_ ?_
 ·skip;refine aq [] ?_
  refine aK ?_;obtain ⟨o1,hl1,hm1⟩:=bd hm;refine bQ (S:=((List aS)×Int)) (V:=Nat) (O:=(List aS)) [4,5,6,7,8,9,10,11,12,13,14,15,16,17,18,19,20,21,22,23,24,25,26,27,28,29,30,31,32,33,34,35,36,37,38,39,40,41,42,43,44,45,46,47,48,49,50,51,52,53,54,55,56,57,58,59,60,61,62,63,64,65,66,67,68,69,70,71,72] (fun (l17,x19) v18=>[(4,.c (.int .i64 x19))]) (fun (l17,x19) v18=>[.box [.tree 7 (p1.nodes.map aS.enc)],.box [.nils],.box [.osl 3 v18 0 l17.length],.arr 7 v18 42 (l17.map aS.enc)]) _ _ 0 hl1 ?_ ?_
  ·exact ls
  ·rintro ⟨l17,x19⟩ v18 r1 hm hr1;replace hm:dQ fuel p1 l17 x19=some r1:=hm;refine bm ?_;unfold dQ at hm;refine aB fun k1 hk1=>?_;refine aq [9,10,11,12] ?_
   by_cases h1:x19<(p1.nodes.length:Int)
   ·rw [iP h1] at hm;refine aj rfl (dT h1) ?_;refine ar ?_;refine ax (hk1 _ _ ?_);refine bk (S:=(List aS)) (V:=Nat) [5,6,7,8,13,16,17,18,19,20,21,22,23,24,25,26,27,28,29,30,31,32,33,34,35,36,37,38,39,40,41,42,43,44,45,46,47,48,49,50,51,52,53,54,55,56,57,58,59,60,61,62,63,64,65,66,67,68,69,70,71,72] (fun l22 v23=>[]) (fun l22 v23=>[.box [.tree 7 (p1.nodes.map aS.enc)],.box [.nils],.box [.osl 3 v23 0 l22.length],.arr 7 v23 42 (l22.map aS.enc)]) (fun l22=>fS x19 l22=some r1) ?_ ?_
    ·skip;refine aK ?_
     obtain ⟨hg2a,hm⟩:=gd hm;refine et (em aS.enc p1.nodes x19.toNat) [13,16,17,18,19,20] ?_;refine n9 [21,22,23,24,25,26,27,28,29,30,31,32,33,34,35,36] (by kernel_rfl) [0,1,3,0,8,31,0,64,255,0,512,2047,1759,8191,16383,32767,65535,131071,262143,524287] [false,false,false,false,false,false,false,false,false,false,false,false,false,true,true,true,true,true,true,true] (by kernel_rfl) fun k hk=>?_;refine ga ?_;obtain ⟨y24,hc3,hm⟩:=bd hm;refine AP (fun _=>mj ((p1.nodes.getD x19.toNat default).sizes) _ hc3) ?_;refine ga ?_;obtain ⟨y25,hc4,hm⟩:=bd hm;refine AP (fun _=>kh ((p1.nodes.getD x19.toNat default).in_) _ hc4) ?_;refine ga ?_;obtain ⟨y26,hc5,hm⟩:=bd hm;refine AP (fun _=>kh ((p1.nodes.getD x19.toNat default).out_) _ hc5) ?_;refine ga ?_;obtain ⟨y27,hc6,hm⟩:=bd hm;refine AP (fun _=>kh ((p1.nodes.getD x19.toNat default).local_) _ hc6) ?_;refine ga ?_;refine hk _ _ ?_;clear hk k;refine aq [] ?_;refine fT (jC 6 5 47 (by decide) rfl (Nat.le_of_ble_eq_true rfl)) ?_;refine pw ?_;refine bk (S:=(List TEq)) (V:=(Nat×Nat)) [6,7,8,37,38,39,40,41,42,43,44,45,46,47,48,49,50,51,52,53,54,55,56,57,58,59,60,61,62,63,64] (fun l32 (v31,v33)=>[(6,.c (.osl 5 v33 0 l32.length))]) (fun l32 (v31,v33)=>[.box [.tree 7 (p1.nodes.map aS.enc)],.box [.nils],.box [.osl 3 v31 0 l17.length],.arr 7 v31 42 (l17.map aS.enc),.box [.str ((p1.nodes.getD x19.toNat default).name),.int .i64 ((p1.nodes.getD x19.toNat default).at_),.tree 1 (y24.map eS),.tree 3 (y25.map ay.enc),.tree 3 (y26.map ay.enc),.tree 3 (y27.map ay.enc),.tree 5 (((p1.nodes.getD x19.toNat default).eqs).map TEq.enc)],.arr 5 v33 47 (l32.map TEq.enc)]) (fun l32=>eX p1 l17 x19 y24 y25 y26 y27 l32=some r1) ?_ ?_
     ·skip;refine aq [] ?_
      refine aK ?_;obtain ⟨o2,hl2,hm2⟩:=bd hm;refine bQ (S:=((List TEq)×Int)) (V:=(Nat×Nat)) (O:=(List TEq)) [6,7,8,37,38,39,40,41,42,43,44,45,46,47,48,49,50,51,52,53,54,55,56,57,58,59,60,61,62,63,64] (fun (l54,x56) (v53,v55)=>[(6,.c (.osl 5 v55 0 l54.length)),(7,.c (.int .i64 x56))]) (fun (l54,x56) (v53,v55)=>[.box [.tree 7 (p1.nodes.map aS.enc)],.box [.nils],.box [.osl 3 v53 0 l17.length],.arr 7 v53 42 (l17.map aS.enc),.box [.str ((p1.nodes.getD x19.toNat default).name),.int .i64 ((p1.nodes.getD x19.toNat default).at_),.tree 1 (y24.map eS),.tree 3 (y25.map ay.enc),.tree 3 (y26.map ay.enc),.tree 3 (y27.map ay.enc),.tree 5 (((p1.nodes.getD x19.toNat default).eqs).map TEq.enc)],.arr 5 v55 47 (l54.map TEq.enc)]) _ _ (v18,0) hl2 ?_ ?_
      ·exact ls
      ·rintro ⟨l54,x56⟩ ⟨v53,v55⟩ r2 hm hr2;replace hm:dP fuel p1 x19 l54 x56=some r2:=hm;refine bm ?_;unfold dP at hm;refine aB fun k2 hk2=>?_;refine aq [37,38,39,40] ?_
       by_cases h8:x56<(((p1.nodes.getD x19.toNat default).eqs).length:Int)
       ·rw [iP h8] at hm;refine aj rfl (dT h8) ?_;refine ar ?_;refine ax (hk2 _ _ ?_);refine aB fun k3 hk3=>?_;refine aK ?_;obtain ⟨hg9a,hm⟩:=gd hm;refine et (em TEq.enc ((p1.nodes.getD x19.toNat default).eqs) x56.toNat) [41,44,45,46,47,48] ?_;refine n9 [49,50,51,52,53,54,55,56,57,58,59,60] (by kernel_rfl) [0,1,3,0,8,31,0,64,255,223,1023,2047,4095,8191,16383] [false,false,false,false,false,false,false,false,false,false,true,true,true,true,true] (by kernel_rfl) fun k hk=>?_;refine ga ?_;obtain ⟨y57,hc10,hm⟩:=bd hm;refine AP (fun _=>mj ((((p1.nodes.getD x19.toNat default).eqs).getD x56.toNat default).names) _ hc10) ?_;refine ga ?_;obtain ⟨y58,hc11,hm⟩:=bd hm;refine AP (fun _=>ml ((((p1.nodes.getD x19.toNat default).eqs).getD x56.toNat default).s) _ hc11) ?_;refine ga ?_;obtain ⟨y59,hc12,hm⟩:=bd hm;refine AP (fun _=>pm fuel ((((p1.nodes.getD x19.toNat default).eqs).getD x56.toNat default).e) _ hc12) ?_;refine ga ?_;refine hk _ _ ?_;clear hk k;obtain ⟨⟨hg13ax,hg13ay⟩,hm⟩:=gd hm;refine d6 ?_;refine aW ?_;refine ax (hk3 _ _ ?_);refine d6 ?_;refine bw ((l54++(lit ([(TEq.mk ((((p1.nodes.getD x19.toNat default).eqs).getD x56.toNat default).at_) y57 ((((p1.nodes.getD x19.toNat default).eqs).getD x56.toNat default).node) y58 y59)]:List TEq))),(IntKind.wrap .i64 (x56+1))) (v53,v55+1) hm ?_;exact ls
       ·rw [iN h8] at hm;refine ak rfl (dF h8) ?_;refine cj ?_;have ho14:=aD hm hr2;subst ho14;replace hm:eX p1 l17 x19 y24 y25 y26 y27 l54=some r1:=hm2;refine bP (bx (aX ?_));refine an l54 (v53,v55) hm ?_;exact ls
     ·rintro l32 ⟨v31,v33⟩ hm;replace hm:eX p1 l17 x19 y24 y25 y26 y27 l32=some r1:=hm;refine bm ?_;unfold eX at hm;refine aq [6,65,66] ?_;refine kx (aG 5 rfl) ?_;obtain ⟨⟨hg7ax,hg7ay⟩,hm⟩:=gd hm;refine d6 ?_;refine aW ?_;refine an (l17++(lit ([(aS.mk ((p1.nodes.getD x19.toNat default).name) ((p1.nodes.getD x19.toNat default).at_) y24 y25 y26 y27 l32)]:List aS))) (v31+1) hm ?_;exact ls
    ·rintro l22 v23 hm;replace hm:fS x19 l22=some r1:=hm;refine bm ?_;unfold fS at hm;refine d6 ?_;refine bw (l22,(IntKind.wrap .i64 (x19+1))) v23 hm ?_;exact ls
   ·rw [iN h1] at hm;refine ak rfl (dF h1) ?_;refine cj ?_;have ho15:=aD hm hr1;subst ho15;replace hm:fR l17=some r:=hm1;refine bP (bx (aX ?_));refine an l17 v18 hm ?_;exact ls
 ·rintro l3 v4 hm;replace hm:fR l3=some r:=hm;refine bm ?_;unfold fR at hm;refine aq [3,73] ?_;refine kx (aG 3 rfl) ?_;refine aA ?_
  cases hm
  exact kr 0
theorem oG(fuel:Nat)(p1 p2:aH)(r:Bool)(hm:jt fuel p1 p2=some r):b9 Tryz.prog 4 [.a [.tree 7 (p1.nodes.map aS.enc)],.a [.tree 7 (p2.nodes.map aS.enc)]] (.c (.bool r)):=by
 refine aF 26 [.tmp 4] Tryz.func4 rfl rfl rfl (by kernel_rfl) (by simp) ?_;refine bJ ?_;unfold jt at hm;refine aq [0,1,4] ?_;refine aB fun k1 hk1=>?_;refine az [5] fun k kp hk hp=>?_;refine go ?_;obtain ⟨y1,hc1,hm⟩:=bd hm;refine RP (fun _=>ox fuel  _ hc1) ?_;refine aa ?_;refine go ?_;refine hk _ _ ?_;clear hk hp k kp
 by_cases h2:y1=true
 ·rw [iP h2] at hm;refine ak rfl (by rw [show y1=true from (h2)];rfl) ?_;refine ar ?_;refine ax (hk1 _ _ ?_);refine aB fun k2 hk2=>?_;refine az [6,7,8,9,10,11] fun k kp hk hp=>?_;refine go ?_;obtain ⟨y2,hc3,hm⟩:=bd hm;refine RP (fun _=>oZ fuel p1 _ hc3) ?_
  by_cases h4:y2=true
  ·rw [iP h4] at hm;have h4b:=h4;refine aa ?_;refine gox h4b ?_;refine hk _ _ ?_;clear hk hp k kp;refine aj rfl rfl ?_;refine aq [2,3,12] ?_;refine aA ?_;refine bi ?_
   cases hm
   exact kr 0
  ·rw [iN h4] at hm;have h4b:=fB h4;refine aa ?_;refine gox h4b ?_;obtain ⟨y3,hc5,hm⟩:=bd hm;refine RP (fun _=>oZ fuel p2 _ hc5) ?_;refine aa ?_;refine gox h4b ?_;refine hk _ _ ?_;clear hk hp k kp
   by_cases h6:y3=true
   ·rw [iP h6] at hm;refine aj rfl (h6) ?_;refine aq [2,3,12] ?_;refine aA ?_;refine bi ?_
    cases hm
    exact kr 0
   ·rw [iN h6] at hm;refine ak rfl (fB h6) ?_;refine ar ?_;refine ax (hk2 _ _ ?_);refine pN [2,3,12,13,14,15,16,17,18,19,20,21,22,23,24,25] (by kernel_rfl) [0,0,3,0,0,31,63,127,255,255,767,2047,4095,8191] [false,false,false,false,false,true,true,true,false,false,false,true,true,true] (by kernel_rfl) fun k hk=>?_;refine fI ?_;refine ga ?_;obtain ⟨y4,hc7,hm⟩:=bd hm;refine pat (fun _=>nn fuel p1 p2 _ hc7) ?_;refine fI ?_;refine ga ?_;obtain ⟨y5,hc8,hm⟩:=bd hm;refine pat (fun _=>oz fuel p1 p2 false _ hc8) ?_
    by_cases h9:y4=y5
    ·rw [iP h9] at hm;have h9b:=eQ h9;refine fI ?_;refine gax h9b ?_;obtain ⟨y6,hc10,hm⟩:=bd hm;refine pat (fun _=>oF fuel p1 _ hc10) ?_;refine fI ?_;refine gax h9b ?_;obtain ⟨y7,hc11,hm⟩:=bd hm;refine pat (fun _=>nn fuel p1 (y6) _ hc11) ?_;refine fI ?_;refine gax h9b ?_;refine hk _ _ ?_;clear hk k;refine aA ?_
     cases hm
     exact kr 0
    ·rw [iN h9] at hm;have h9b:=nB h9;refine fI ?_;refine gax h9b ?_;refine hk _ _ ?_;clear hk k;refine aA ?_
     cases hm
     exact kr 0
 ·rw [iN h2] at hm;refine aj rfl (by rw [show y1=false from (fB h2)];rfl) ?_;refine aq [2,3,6] ?_;refine aA ?_;refine bi ?_
  cases hm
  exact kr 0
end Pam
