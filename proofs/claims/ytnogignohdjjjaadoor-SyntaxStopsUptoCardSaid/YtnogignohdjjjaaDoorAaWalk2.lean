/- the walk of syntax_parser_opened_7, printed by a program of ours -/
import Derived.Test.YtnogignohdjjjaaDoorABase3
import Derived.Test.YtnogignohdjjjaaDoorABase2
import Derived.Test.YtnogignohdjjjaaDoorAaFun1
import Derived.Test.YtnogignohdjjjaaDoorAaWalk1
set_option linter.all false
set_option maxRecDepth 100000
set_option maxHeartbeats 8000000
namespace Pam
open Go Go.Proofs
theorem jh(rc_syntax_parser_ahead:ae→Option ((ai×(List aa)×Int×Int) ⊕ (Int×Int)))(hr_syntax_parser_ahead:∀ (p1:ae) (r:(ai×(List aa)×Int×Int) ⊕ (Int×Int)),rc_syntax_parser_ahead p1=some r→ck Tryd.prog 49 [.c (.optr 0 0)] [.box [.tree 4 (p1.l.map aa.enc),.int .i64 p1.end_,.int .i64 p1.open_,.int .i64 p1.terms]] (fun p σ=>(Sum.elim (fun z=>(p=.a [.int .i64 ((z.1).op),.int .i64 ((z.1).k),.int .i64 ((z.1).n),.str ((z.1).name),.tree 1 (((z.1).s).map (eL 2 aw.enc)),.tree 6 (((z.1).l).map ai.enc)]∧σ=[.box [.tree 4 (z.2.1.map aa.enc),.int .i64 p1.end_,.int .i64 z.2.2.1,.int .i64 z.2.2.2]])) (fun z=>False)) r) (fun p _=>(Sum.elim (fun z=>False) (fun z=>p=.c (.ifc 48 true (nsC [(.i64,z.1),(.i64,z.2)])))) r))(p1:ae)(p2:Int)(r:(ai×(List aa)×Int×Int) ⊕ (Int×Int))(hm:e8 rc_syntax_parser_ahead p1 p2=some r):ck Tryd.prog 57 [.c (.optr 0 0),.c (.fn 58 [.optr 1 0,.optr 2 0])] [.box [.tree 4 (p1.l.map aa.enc),.int .i64 p1.end_,.int .i64 p1.open_,.int .i64 p1.terms],.box [.optr 0 0],.box [.int .i64 p2]] (fun p σ=>(Sum.elim (fun z=>(p=.a [.int .i64 ((z.1).op),.int .i64 ((z.1).k),.int .i64 ((z.1).n),.str ((z.1).name),.tree 1 (((z.1).s).map (eL 2 aw.enc)),.tree 6 (((z.1).l).map ai.enc)]∧σ=[.box [.tree 4 (z.2.1.map aa.enc),.int .i64 p1.end_,.int .i64 z.2.2.1,.int .i64 z.2.2.2],.box [.optr 0 0],.box [.int .i64 p2]])) (fun z=>False)) r) (fun p _=>(Sum.elim (fun z=>False) (fun z=>p=.c (.ifc 48 true (nsC [(.i64,z.1),(.i64,z.2)])))) r):=by
 refine aN 32 [.cell 4 47] Tryd.func57 rfl rfl rfl (by kernel_rfl) (by simp) ?_;refine bJ ?_;unfold e8 at hm;refine ax [] ?_;refine aR fun k1 hk1=>?_;refine ax [6,7,8,9] ?_
 by_cases h1:p1.open_=60
 ·rw [iP h1] at hm;refine aj rfl (eQ h1) ?_;refine bf fun k kp hk hp=>?_;refine go ?_;obtain ⟨y1,hc2,hm⟩:=bd hm
  refine am (aI 6 p1  _ hc2) [0] (by first|trivial|exact aA rfl) (by first|trivial|(intro _;first|trivial|simp [an])|simp [an]) (by simp) (by simp) rfl rfl (by first|trivial|(simp [bX,eK,eB,eS,eL,ar,ah,PV.under,CV.under,af,OB.under,ag];done)) (by first|trivial|(simp [bX,eK,eB,eS,eL,ar,ah,PV.under,CV.under,af,OB.under,ag];done)) ?_ ?_
  rotate_left
  ·rintro p σ' hpp hpl;skip;subst hpp;refine hp _ _ _ ?_;refine bN ?_;obtain rfl:=sI hm;exact rfl
  rintro p σ' hq3 _;exact False.elim hq3
 ·rw [iN h1] at hm;refine ak rfl (nB h1) ?_;refine av ?_;refine aL (hk1 _ _ ?_);refine ax [10,13,14,15,16,17,18,19] ?_;refine au [20,21] fun k kp hk hp=>?_;refine go ?_;obtain ⟨y2,hc4,hm⟩:=bd hm;refine RA (aO (ae.mk p1.l p1.end_ (IntKind.wrap .i64 (p1.open_+1)) p1.terms)  _ hc4) [0] ?_;rintro p σ' ⟨rfl,rfl⟩ _;refine ab ?_;refine go ?_;refine hk _ _ ?_;clear hk hp k kp;refine au [1,22,23] fun k kp hk hp=>?_;refine go ?_;obtain ⟨y3,hc6,hm⟩:=bd hm
  refine am (jd rc_syntax_parser_ahead hr_syntax_parser_ahead p2 (ae.mk y2.2 p1.end_ (IntKind.wrap .i64 (p1.open_+1)) p1.terms)  _ hc6) [1,2,0] (by first|trivial|exact aA rfl) (by first|trivial|(intro _;first|trivial|simp [an])|simp [an]) (by simp) (by simp) rfl rfl (by first|trivial|(simp [bX,eK,eB,eS,eL,ar,ah,PV.under,CV.under,af,OB.under,ag];done)) (by first|trivial|(simp [bX,eK,eB,eS,eL,ar,ah,PV.under,CV.under,af,OB.under,ag];done)) ?_ ?_
  rotate_left
  ·rintro p σ' hpp hpl
   rcases y3 with y4|y5
   ·exact False.elim hpp
   simp only [Sum.elim_inl,Sum.elim_inr] at hm hpp;subst hpp;refine hp _ _ _ ?_;obtain rfl:=sI hm;exact rfl
  rintro p σ' hq7 _
  rcases y3 with y6|y7
  ·skip;simp only [Sum.elim_inl,Sum.elim_inr] at hm hq7
   obtain ⟨rfl,rfl⟩:=hq7;refine ab ?_;refine go ?_;refine hk _ _ ?_;clear hk hp k kp;refine ax [0,24,25,26,27,28,29,30] ?_;refine ax [5,31] ?_;refine aM ?_
   cases hm
   exact kr 3
  ·skip;exact False.elim hq7
theorem jB(rc_syntax_parser_rank:Int→ae→Option ((ai×(List aa)×Int×Int) ⊕ (Int×Int)))(rcf:ae→Option ((ai×(List aa)×Int×Int) ⊕ (Int×Int)))(hr_syntax_parser_rank:∀ (p1:Int) (p2:ae) (r:(ai×(List aa)×Int×Int) ⊕ (Int×Int)),rc_syntax_parser_rank p1 p2=some r→ck Tryd.prog 44 [.c (.optr 0 0),.c (.int .i64 p1)] [.box [.tree 4 (p2.l.map aa.enc),.int .i64 p2.end_,.int .i64 p2.open_,.int .i64 p2.terms]] (fun p σ=>(Sum.elim (fun z=>(p=.a [.int .i64 ((z.1).op),.int .i64 ((z.1).k),.int .i64 ((z.1).n),.str ((z.1).name),.tree 1 (((z.1).s).map (eL 2 aw.enc)),.tree 6 (((z.1).l).map ai.enc)]∧σ=[.box [.tree 4 (z.2.1.map aa.enc),.int .i64 p2.end_,.int .i64 z.2.2.1,.int .i64 z.2.2.2]])) (fun z=>False)) r) (fun p _=>(Sum.elim (fun z=>False) (fun z=>p=.c (.ifc 48 true (nsC [(.i64,z.1),(.i64,z.2)])))) r))(hrec:∀ (p1:ae) (r:(ai×(List aa)×Int×Int) ⊕ (Int×Int)),rcf p1=some r→ck Tryd.prog 49 [.c (.optr 0 0)] [.box [.tree 4 (p1.l.map aa.enc),.int .i64 p1.end_,.int .i64 p1.open_,.int .i64 p1.terms]] (fun p σ=>(Sum.elim (fun z=>(p=.a [.int .i64 ((z.1).op),.int .i64 ((z.1).k),.int .i64 ((z.1).n),.str ((z.1).name),.tree 1 (((z.1).s).map (eL 2 aw.enc)),.tree 6 (((z.1).l).map ai.enc)]∧σ=[.box [.tree 4 (z.2.1.map aa.enc),.int .i64 p1.end_,.int .i64 z.2.2.1,.int .i64 z.2.2.2]])) (fun z=>False)) r) (fun p _=>(Sum.elim (fun z=>False) (fun z=>p=.c (.ifc 48 true (nsC [(.i64,z.1),(.i64,z.2)])))) r))(p1:ae)(r:(ai×(List aa)×Int×Int) ⊕ (Int×Int))(hm:cK rc_syntax_parser_rank rcf p1=some r):ck Tryd.prog 49 [.c (.optr 0 0)] [.box [.tree 4 (p1.l.map aa.enc),.int .i64 p1.end_,.int .i64 p1.open_,.int .i64 p1.terms]] (fun p σ=>(Sum.elim (fun z=>(p=.a [.int .i64 ((z.1).op),.int .i64 ((z.1).k),.int .i64 ((z.1).n),.str ((z.1).name),.tree 1 (((z.1).s).map (eL 2 aw.enc)),.tree 6 (((z.1).l).map ai.enc)]∧σ=[.box [.tree 4 (z.2.1.map aa.enc),.int .i64 p1.end_,.int .i64 z.2.2.1,.int .i64 z.2.2.2]])) (fun z=>False)) r) (fun p _=>(Sum.elim (fun z=>False) (fun z=>p=.c (.ifc 48 true (nsC [(.i64,z.1),(.i64,z.2)])))) r):=by
 refine aN 23 [.cell 2 47] Tryd.func49 rfl rfl rfl (by kernel_rfl) (by simp) ?_;refine bJ ?_;unfold cK at hm;refine ax [0] ?_;refine aR fun k1 hk1=>?_;refine au [5,6] fun k kp hk hp=>?_;refine go ?_;refine ay (aB 3 rfl) ?_;refine gt ?_;obtain ⟨y1,hc1,hm⟩:=bd hm;refine RA (aD (lit ([([45]:List UInt8),([110,111,116]:List UInt8)]:List (List UInt8))) p1  _ hc1) [0] ?_;rintro p σ' ⟨rfl,rfl⟩ _;refine ab ?_;refine go ?_;refine hk _ _ ?_;clear hk hp k kp
 by_cases h3:y1=true
 ·rw [iP h3] at hm;refine aj rfl (h3) ?_;refine ax [7] ?_;refine bk (S:=Int) (V:=Unit) [8,9,10] (fun x2 _=>[]) (fun x2 _=>[.box [.tree 4 (p1.l.map aa.enc),.int .i64 p1.end_,.int .i64 p1.open_,.int .i64 p1.terms],.box [.optr 0 0],.box [.int .i64 0,.int .i64 0,.int .i64 0,.str [],.nils,.nils],.dead,.box [.int .i64 x2]]) (fun x2=>cx rcf p1 x2=some r) ?_ ?_
  ·skip;refine au [8,9] fun k kp hk hp=>?_
   refine go ?_;refine ay (aB 5 rfl) ?_;refine gt ?_;obtain ⟨y8,hc6,hm⟩:=bd hm;refine RA (aD (lit ([([110,111,116]:List UInt8)]:List (List UInt8))) p1  _ hc6) [0] ?_;rintro p σ' ⟨rfl,rfl⟩ _;refine ab ?_;refine go ?_;refine hk _ _ ?_;clear hk hp k kp
   by_cases h8:y8=true
   ·rw [iP h8] at hm;refine aj rfl (h8) ?_;refine cB ?_;refine ao 14 () hm ?_;exact ls
   ·rw [iN h8] at hm;refine ak rfl (fB h8) ?_;refine av ?_;refine ao 13 () hm ?_;exact ls
  ·rintro x2 _ hm;replace hm:cx rcf p1 x2=some r:=hm;refine bw ?_;unfold cx at hm;refine au [1,3,11,12,13] fun k kp hk hp=>?_;refine go ?_;obtain ⟨y3,hc4,hm⟩:=bd hm
   refine am (jh rcf hrec p1 x2  _ hc4) [0,1,4] (by first|trivial|exact aA rfl) (by first|trivial|(intro _;first|trivial|simp [an])|simp [an]) (by simp) (by simp) rfl rfl (by first|trivial|(simp [bX,eK,eB,eS,eL,ar,ah,PV.under,CV.under,af,OB.under,ag];done)) (by first|trivial|(simp [bX,eK,eB,eS,eL,ar,ah,PV.under,CV.under,af,OB.under,ag];done)) ?_ ?_
   rotate_left
   ·rintro p σ' hpp hpl
    rcases y3 with y4|y5
    ·exact False.elim hpp
    simp only [Sum.elim_inl,Sum.elim_inr] at hm hpp;subst hpp;refine hp _ _ _ ?_;refine bN ?_;obtain rfl:=sI hm;exact rfl
   rintro p σ' hq5 _
   rcases y3 with y6|y7
   ·skip;simp only [Sum.elim_inl,Sum.elim_inr] at hm hq5
    obtain ⟨rfl,rfl⟩:=hq5;refine ab ?_;refine go ?_;refine hk _ _ ?_;clear hk hp k kp;refine aM ?_;refine cX ?_
    cases hm
    exact kr 1
   ·skip;exact False.elim hq5
 ·rw [iN h3] at hm;refine ak rfl (fB h3) ?_;refine av ?_;refine aL (hk1 _ _ ?_);refine au [7,14,15] fun k kp hk hp=>?_;refine go ?_;obtain ⟨y9,hc9,hm⟩:=bd hm
  refine am (kK rc_syntax_parser_rank hr_syntax_parser_rank p1  _ hc9) [0] (by first|trivial|exact aA rfl) (by first|trivial|(intro _;first|trivial|simp [an])|simp [an]) (by simp) (by simp) rfl rfl (by first|trivial|(simp [bX,eK,eB,eS,eL,ar,ah,PV.under,CV.under,af,OB.under,ag];done)) (by first|trivial|(simp [bX,eK,eB,eS,eL,ar,ah,PV.under,CV.under,af,OB.under,ag];done)) ?_ ?_
  rotate_left
  ·rintro p σ' hpp hpl
   rcases y9 with y10|y11
   ·exact False.elim hpp
   simp only [Sum.elim_inl,Sum.elim_inr] at hm hpp;subst hpp;refine hp _ _ _ ?_;obtain rfl:=sI hm;exact rfl
  rintro p σ' hq10 _
  rcases y9 with y12|y13
  ·skip;simp only [Sum.elim_inl,Sum.elim_inr] at hm hq10
   obtain ⟨rfl,rfl⟩:=hq10;refine ab ?_;refine go ?_;refine hk _ _ ?_;clear hk hp k kp;refine bk (S:=((List aa)×Int×Int×Int×Int×Int×(List UInt8)×(List (List aw))×(List ai))) (V:=Unit) [1,16,17,18,19,20,21] (fun (l14,x15,x16,x17,x18,x19,s20,l21,l22) _=>[]) (fun (l14,x15,x16,x17,x18,x19,s20,l21,l22) _=>[.box [.tree 4 (l14.map aa.enc),.int .i64 p1.end_,.int .i64 x15,.int .i64 x16],.box [.optr 0 0],.box [.int .i64 0,.int .i64 0,.int .i64 0,.str [],.nils,.nils],.dead,.box [.int .i64 x17,.int .i64 x18,.int .i64 x19,.str s20,.tree 1 (l21.map (eL 2 aw.enc)),.tree 6 (l22.map ai.enc)]]) (fun (l14,x15,x16,x17,x18,x19,s20,l21,l22)=>c7 l14 x15 x16 x17 x18 x19 s20 l21 l22=some r) ?_ ?_
   ·skip;refine aY ?_
    obtain ⟨o1,hl1,hm1⟩:=bd hm;refine dB (S:=((List aa)×Int×Int×Int×Int×Int×(List UInt8)×(List (List aw))×(List ai))) (V:=Unit) (O:=((List aa)×Int×Int×Int×Int×Int×(List UInt8)×(List (List aw))×(List ai)) ⊕ ((ai×(List aa)×Int×Int) ⊕ (Int×Int))) [16,17,18,19,20,21] (fun (l41,x42,x43,x44,x45,x46,s47,l48,l49) _=>[]) (fun (l41,x42,x43,x44,x45,x46,s47,l48,l49) _=>[.box [.tree 4 (l41.map aa.enc),.int .i64 p1.end_,.int .i64 x42,.int .i64 x43],.box [.optr 0 0],.box [.int .i64 0,.int .i64 0,.int .i64 0,.str [],.nils,.nils],.dead,.box [.int .i64 x44,.int .i64 x45,.int .i64 x46,.str s47,.tree 1 (l48.map (eL 2 aw.enc)),.tree 6 (l49.map ai.enc)]]) _ _ () hl1 ?_ ?_
    ·exact ls
    ·rintro ⟨l41,x42,x43,x44,x45,x46,s47,l48,l49⟩ _ r1 hm hr1;replace hm:c8 rc_syntax_parser_rank p1 l41 x42 x43 x44 x45 x46 s47 l48 l49=some r1:=hm;refine bw ?_;unfold c8 at hm;refine aR fun k2 hk2=>?_;refine au [16,17] fun k kp hk hp=>?_;refine go ?_;refine ay (aB 5 rfl) ?_;refine gt ?_;obtain ⟨y50,hc11,hm⟩:=bd hm;refine RA (aD (lit ([([91]:List UInt8)]:List (List UInt8))) (ae.mk l41 p1.end_ x42 x43)  _ hc11) [0] ?_;rintro p σ' ⟨rfl,rfl⟩ _;refine ab ?_;refine go ?_;refine hk _ _ ?_;clear hk hp k kp
     by_cases h13:y50=true
     ·rw [iP h13] at hm;refine aj rfl (h13) ?_;refine av ?_;refine aL (hk2 _ _ ?_);refine aY ?_;refine bf fun k kp hk hp=>?_;refine go ?_;obtain ⟨y51,hc14,hm⟩:=bd hm
      refine am (jc rc_syntax_parser_rank hr_syntax_parser_rank (ae.mk l41 p1.end_ x42 x43) (ai.mk x44 x45 x46 s47 l48 l49)  _ hc14) [0,1,4] (by first|trivial|exact aA rfl) (by first|trivial|(intro _;first|trivial|simp [an])|simp [an]) (by simp) (by simp) rfl rfl (by first|trivial|(simp [bX,eK,eB,eS,eL,ar,ah,PV.under,CV.under,af,OB.under,ag];done)) (by first|trivial|(simp [bX,eK,eB,eS,eL,ar,ah,PV.under,CV.under,af,OB.under,ag];done)) ?_ ?_
      rotate_left
      ·rintro p σ' hpp hpl
       rcases y51 with y52|y53
       ·exact False.elim hpp
       simp only [Sum.elim_inl,Sum.elim_inr] at hm hpp;subst hpp;have ho16:=a8 hm hr1;subst ho16;replace hm:some (.inr (y53.1,y53.2))=some r:=hm1;refine hp _ _ _ ?_;refine aP ?_;refine cm ?_;refine aP ?_;refine be ?_;obtain rfl:=sI hm;exact rfl
      rintro p σ' hq15 _
      rcases y51 with y54|y55
      ·skip;simp only [Sum.elim_inl,Sum.elim_inr] at hm hq15
       obtain ⟨rfl,rfl⟩:=hq15;refine ab ?_;refine go ?_;refine hk _ _ ?_;clear hk hp k kp;refine ap ?_;refine aH (y54.2.1,y54.2.2.1,y54.2.2.2,(y54.1).op,(y54.1).k,(y54.1).n,(y54.1).name,(y54.1).s,(y54.1).l) () hm ?_;exact ls
      ·skip;exact False.elim hq15
     ·rw [iN h13] at hm;refine ak rfl (fB h13) ?_;refine e7 ?_;have ho17:=a8 hm hr1;subst ho17;replace hm:c7 l41 x42 x43 x44 x45 x46 s47 l48 l49=some r:=hm1;refine eC (cM (bx ?_));refine ao (l41,x42,x43,x44,x45,x46,s47,l48,l49) () hm ?_;exact ls
   ·rintro ⟨l14,x15,x16,x17,x18,x19,s20,l21,l22⟩ _ hm;replace hm:c7 l14 x15 x16 x17 x18 x19 s20 l21 l22=some r:=hm;refine bw ?_;unfold c7 at hm;refine ax [4,22] ?_;refine aM ?_
    cases hm
    exact kr 1
  ·skip;exact False.elim hq10
theorem ku(fuel:Nat)(rc_syntax_parser_rank:Int→ae→Option ((ai×(List aa)×Int×Int) ⊕ (Int×Int)))(hr_syntax_parser_rank:∀ (p1:Int) (p2:ae) (r:(ai×(List aa)×Int×Int) ⊕ (Int×Int)),rc_syntax_parser_rank p1 p2=some r→ck Tryd.prog 44 [.c (.optr 0 0),.c (.int .i64 p1)] [.box [.tree 4 (p2.l.map aa.enc),.int .i64 p2.end_,.int .i64 p2.open_,.int .i64 p2.terms]] (fun p σ=>(Sum.elim (fun z=>(p=.a [.int .i64 ((z.1).op),.int .i64 ((z.1).k),.int .i64 ((z.1).n),.str ((z.1).name),.tree 1 (((z.1).s).map (eL 2 aw.enc)),.tree 6 (((z.1).l).map ai.enc)]∧σ=[.box [.tree 4 (z.2.1.map aa.enc),.int .i64 p2.end_,.int .i64 z.2.2.1,.int .i64 z.2.2.2]])) (fun z=>False)) r) (fun p _=>(Sum.elim (fun z=>False) (fun z=>p=.c (.ifc 48 true (nsC [(.i64,z.1),(.i64,z.2)])))) r))(p1:ae)(r:(ai×(List aa)×Int×Int) ⊕ (Int×Int))(hm:gE fuel rc_syntax_parser_rank p1=some r):ck Tryd.prog 49 [.c (.optr 0 0)] [.box [.tree 4 (p1.l.map aa.enc),.int .i64 p1.end_,.int .i64 p1.open_,.int .i64 p1.terms]] (fun p σ=>(Sum.elim (fun z=>(p=.a [.int .i64 ((z.1).op),.int .i64 ((z.1).k),.int .i64 ((z.1).n),.str ((z.1).name),.tree 1 (((z.1).s).map (eL 2 aw.enc)),.tree 6 (((z.1).l).map ai.enc)]∧σ=[.box [.tree 4 (z.2.1.map aa.enc),.int .i64 p1.end_,.int .i64 z.2.2.1,.int .i64 z.2.2.2]])) (fun z=>False)) r) (fun p _=>(Sum.elim (fun z=>False) (fun z=>p=.c (.ifc 48 true (nsC [(.i64,z.1),(.i64,z.2)])))) r):=by
  have key:∀ (n:Nat) (p1:ae) (r:(ai×(List aa)×Int×Int) ⊕ (Int×Int)),b9 rc_syntax_parser_rank n p1=some r→ck Tryd.prog 49 [.c (.optr 0 0)] [.box [.tree 4 (p1.l.map aa.enc),.int .i64 p1.end_,.int .i64 p1.open_,.int .i64 p1.terms]] (fun p σ=>(Sum.elim (fun z=>(p=.a [.int .i64 ((z.1).op),.int .i64 ((z.1).k),.int .i64 ((z.1).n),.str ((z.1).name),.tree 1 (((z.1).s).map (eL 2 aw.enc)),.tree 6 (((z.1).l).map ai.enc)]∧σ=[.box [.tree 4 (z.2.1.map aa.enc),.int .i64 p1.end_,.int .i64 z.2.2.1,.int .i64 z.2.2.2]])) (fun z=>False)) r) (fun p _=>(Sum.elim (fun z=>False) (fun z=>p=.c (.ifc 48 true (nsC [(.i64,z.1),(.i64,z.2)])))) r):=by
    intro n
    induction n with
    |zero =>
      intro p1  r hm;simp [b9] at hm
    |succ n ih =>
      intro p1  r hm;exact jB rc_syntax_parser_rank (b9 rc_syntax_parser_rank n) hr_syntax_parser_rank ih p1  r hm
  exact key fuel p1  r hm
theorem iH(p1:Int)(p2:ae)(r:Int)(hm:ez p1 p2=some r):ck Tryd.prog 50 [.c (.optr 0 0),.c (.int .i64 p1)] [.box [.tree 4 (p2.l.map aa.enc),.int .i64 p2.end_,.int .i64 p2.open_,.int .i64 p2.terms]] (fun p σ=>(p=.c (.int .i64 r)∧σ=[.box [.tree 4 (p2.l.map aa.enc),.int .i64 p2.end_,.int .i64 p2.open_,.int .i64 p2.terms]])) (fun _ _=>False):=by
 refine aN 44 [.tmp 4] Tryd.func50 rfl rfl rfl (by kernel_rfl) (by simp) ?_;refine bJ ?_;unfold ez at hm;refine ax [4] ?_;refine cR [7,8,9,10,11,12] fun k kp hk hp=>?_;refine aq 5 ?_;refine go ?_;refine dC (aB 1 rfl) ?_;refine gz ?_;refine dC (aB 2 rfl) ?_;refine gz ?_;refine dC (aB 3 rfl) ?_;refine gz ?_;refine dC (aB 4 rfl) ?_;refine gz ?_;refine dC (aB 5 rfl) ?_;refine gz ?_;refine ab ?_;refine go ?_;refine hk _ _ ?_;clear hk hp k kp;refine bU [.box [.tree 4 (p2.l.map aa.enc),.int .i64 p2.end_,.int .i64 p2.open_,.int .i64 p2.terms],.dead,.dead,.dead,.dead,.dead,.arr 1 0 37 ((lit ([(lit ([([111,114]:List UInt8),([120,111,114]:List UInt8)]:List (List UInt8))),(lit ([([97,110,100]:List UInt8)]:List (List UInt8))),(lit ([([60]:List UInt8),([61,61]:List UInt8)]:List (List UInt8))),(lit ([([43]:List UInt8),([45]:List UInt8)]:List (List UInt8))),(lit ([([42]:List UInt8),([47]:List UInt8),([37]:List UInt8)]:List (List UInt8)))]:List (List (List UInt8)))).map (eL 1 eS))] ?_;refine cR [13,14,15,16,17,18] fun k kp hk hp=>?_;refine aq 5 ?_;refine go ?_;refine dC (aB 7 rfl) ?_;refine gz ?_;refine dC (aB 8 rfl) ?_;refine gz ?_;refine dC (aB 9 rfl) ?_;refine gz ?_;refine dC (aB 10 rfl) ?_;refine gz ?_;refine dC (aB 11 rfl) ?_;refine gz ?_;refine ab ?_;refine go ?_;refine hk _ _ ?_;clear hk hp k kp;refine bU [.box [.tree 4 (p2.l.map aa.enc),.int .i64 p2.end_,.int .i64 p2.open_,.int .i64 p2.terms],.dead,.dead,.dead,.dead,.dead,.arr 1 0 37 ((lit ([(lit ([([111,114]:List UInt8),([120,111,114]:List UInt8)]:List (List UInt8))),(lit ([([97,110,100]:List UInt8)]:List (List UInt8))),(lit ([([60]:List UInt8),([61,61]:List UInt8)]:List (List UInt8))),(lit ([([43]:List UInt8),([45]:List UInt8)]:List (List UInt8))),(lit ([([42]:List UInt8),([47]:List UInt8),([37]:List UInt8)]:List (List UInt8)))]:List (List (List UInt8)))).map (eL 1 eS)),.dead,.dead,.dead,.dead,.dead,.arr 1 0 109 ((lit ([(lit ([11,12]:List Int)),(lit ([10]:List Int)),(lit ([8,9]:List Int)),(lit ([1,2]:List Int)),(lit ([3,4,5]:List Int))]:List (List Int))).map (eL 1 (eK .i64)))] ?_;refine aR fun k1 hk1=>?_;obtain ⟨hg1a,hm⟩:=gd hm;refine au [19,20,21,22,23,24] fun k kp hk hp=>?_
 refine gox (em (eL 1 eS) (lit ([(lit ([([111,114]:List UInt8),([120,111,114]:List UInt8)]:List (List UInt8))),(lit ([([97,110,100]:List UInt8)]:List (List UInt8))),(lit ([([60]:List UInt8),([61,61]:List UInt8)]:List (List UInt8))),(lit ([([43]:List UInt8),([45]:List UInt8)]:List (List UInt8))),(lit ([([42]:List UInt8),([47]:List UInt8),([37]:List UInt8)]:List (List UInt8)))]:List (List (List UInt8)))) p1.toNat) ?_;obtain ⟨y1,hc2,hm⟩:=bd hm;refine RA (aD ((lit ([(lit ([([111,114]:List UInt8),([120,111,114]:List UInt8)]:List (List UInt8))),(lit ([([97,110,100]:List UInt8)]:List (List UInt8))),(lit ([([60]:List UInt8),([61,61]:List UInt8)]:List (List UInt8))),(lit ([([43]:List UInt8),([45]:List UInt8)]:List (List UInt8))),(lit ([([42]:List UInt8),([47]:List UInt8),([37]:List UInt8)]:List (List UInt8)))]:List (List (List UInt8)))).getD p1.toNat default) p2  _ hc2) [0] ?_;rintro p σ' ⟨rfl,rfl⟩ _;refine ab ?_;refine go ?_;refine hk _ _ ?_;clear hk hp k kp
 by_cases h4:y1=true
 ·rw [iP h4] at hm;refine ak rfl (by rw [show y1=true from (h4)];rfl) ?_;refine av ?_;refine aL (hk1 _ _ ?_);obtain ⟨hg5a,hm⟩:=gd hm;refine qe [0,1,5,6,25,26,27,28,29,30,31,32,33,34,35,36,37,38,39,40,41,42,43] (by kernel_rfl) [0,0,3,7,0,0,48,112,0,256,768,1792,3840,7936,16128,32752,65535,131071,262143] [false,false,false,false,false,false,false,false,false,false,false,false,false,false,false,false,true,true,true] (by kernel_rfl) fun k hk=>?_;refine gax (a2 (em (eL 1 (eK .i64)) (lit ([(lit ([11,12]:List Int)),(lit ([10]:List Int)),(lit ([8,9]:List Int)),(lit ([1,2]:List Int)),(lit ([3,4,5]:List Int))]:List (List Int))) p1.toNat) (a2 (em (eL 1 eS) (lit ([(lit ([([111,114]:List UInt8),([120,111,114]:List UInt8)]:List (List UInt8))),(lit ([([97,110,100]:List UInt8)]:List (List UInt8))),(lit ([([60]:List UInt8),([61,61]:List UInt8)]:List (List UInt8))),(lit ([([43]:List UInt8),([45]:List UInt8)]:List (List UInt8))),(lit ([([42]:List UInt8),([47]:List UInt8),([37]:List UInt8)]:List (List UInt8)))]:List (List (List UInt8)))) p1.toNat) (em aa.enc p2.l 0))) ?_;obtain ⟨y2,hc6,hm⟩:=bd hm;refine AP (fun _=>fQ ((lit ([(lit ([([111,114]:List UInt8),([120,111,114]:List UInt8)]:List (List UInt8))),(lit ([([97,110,100]:List UInt8)]:List (List UInt8))),(lit ([([60]:List UInt8),([61,61]:List UInt8)]:List (List UInt8))),(lit ([([43]:List UInt8),([45]:List UInt8)]:List (List UInt8))),(lit ([([42]:List UInt8),([47]:List UInt8),([37]:List UInt8)]:List (List UInt8)))]:List (List (List UInt8)))).getD p1.toNat default) ((p2.l.getD 0 default).text) _ hc6) ?_;obtain ⟨hg7a,hm⟩:=gd hm
  try simp only [fG,List.length_cons,List.length_nil] at hg7a
  refine gax (em (eK .i64) ((lit ([(lit ([11,12]:List Int)),(lit ([10]:List Int)),(lit ([8,9]:List Int)),(lit ([1,2]:List Int)),(lit ([3,4,5]:List Int))]:List (List Int))).getD p1.toNat default) y2.toNat) ?_;refine hk _ _ ?_;clear hk k;refine aM ?_
  cases hm
  exact kr 1
 ·rw [iN h4] at hm;refine aj rfl (by rw [show y1=false from (fB h4)];rfl) ?_;refine ax [0,1,5,6,25] ?_;refine aM ?_;refine cX ?_
  cases hm
  exact kr 1
theorem jW(fuel:Nat)(rcf:Int→ae→Option ((ai×(List aa)×Int×Int) ⊕ (Int×Int)))(hrec:∀ (p1:Int) (p2:ae) (r:(ai×(List aa)×Int×Int) ⊕ (Int×Int)),rcf p1 p2=some r→ck Tryd.prog 44 [.c (.optr 0 0),.c (.int .i64 p1)] [.box [.tree 4 (p2.l.map aa.enc),.int .i64 p2.end_,.int .i64 p2.open_,.int .i64 p2.terms]] (fun p σ=>(Sum.elim (fun z=>(p=.a [.int .i64 ((z.1).op),.int .i64 ((z.1).k),.int .i64 ((z.1).n),.str ((z.1).name),.tree 1 (((z.1).s).map (eL 2 aw.enc)),.tree 6 (((z.1).l).map ai.enc)]∧σ=[.box [.tree 4 (z.2.1.map aa.enc),.int .i64 p2.end_,.int .i64 z.2.2.1,.int .i64 z.2.2.2]])) (fun z=>False)) r) (fun p _=>(Sum.elim (fun z=>False) (fun z=>p=.c (.ifc 48 true (nsC [(.i64,z.1),(.i64,z.2)])))) r))(p1:Int)(p2:ae)(r:(ai×(List aa)×Int×Int) ⊕ (Int×Int))(hm:cV fuel rcf p1 p2=some r):ck Tryd.prog 44 [.c (.optr 0 0),.c (.int .i64 p1)] [.box [.tree 4 (p2.l.map aa.enc),.int .i64 p2.end_,.int .i64 p2.open_,.int .i64 p2.terms]] (fun p σ=>(Sum.elim (fun z=>(p=.a [.int .i64 ((z.1).op),.int .i64 ((z.1).k),.int .i64 ((z.1).n),.str ((z.1).name),.tree 1 (((z.1).s).map (eL 2 aw.enc)),.tree 6 (((z.1).l).map ai.enc)]∧σ=[.box [.tree 4 (z.2.1.map aa.enc),.int .i64 p2.end_,.int .i64 z.2.2.1,.int .i64 z.2.2.2]])) (fun z=>False)) r) (fun p _=>(Sum.elim (fun z=>False) (fun z=>p=.c (.ifc 48 true (nsC [(.i64,z.1),(.i64,z.2)])))) r):=by
 refine aN 38 [.cell 4 47] Tryd.func44 rfl rfl rfl (by kernel_rfl) (by simp) ?_;refine bJ ?_;unfold cV at hm;refine ax [] ?_;refine aR fun k1 hk1=>?_;refine ax [7] ?_
 by_cases h1:p1=5
 ·rw [iP h1] at hm;refine aj rfl (eQ h1) ?_;refine au [0,1,8,9,10] fun k kp hk hp=>?_;refine go ?_;obtain ⟨y1,hc2,hm⟩:=bd hm
  refine am (ku fuel rcf hrec p2  _ hc2) [0] (by first|trivial|exact aA rfl) (by first|trivial|(intro _;first|trivial|simp [an])|simp [an]) (by simp) (by simp) rfl rfl (by first|trivial|(simp [bX,eK,eB,eS,eL,ar,ah,PV.under,CV.under,af,OB.under,ag];done)) (by first|trivial|(simp [bX,eK,eB,eS,eL,ar,ah,PV.under,CV.under,af,OB.under,ag];done)) ?_ ?_
  rotate_left
  ·rintro p σ' hpp hpl
   rcases y1 with y2|y3
   ·exact False.elim hpp
   simp only [Sum.elim_inl,Sum.elim_inr] at hm hpp;subst hpp;refine hp _ _ _ ?_;refine bN ?_;obtain rfl:=sI hm;exact rfl
  rintro p σ' hq3 _
  rcases y1 with y4|y5
  ·skip;simp only [Sum.elim_inl,Sum.elim_inr] at hm hq3
   obtain ⟨rfl,rfl⟩:=hq3;refine ab ?_;refine go ?_;refine hk _ _ ?_;clear hk hp k kp;refine aM ?_;refine cX ?_
   cases hm
   exact kr 1
  ·skip;exact False.elim hq3
 ·rw [iN h1] at hm;refine ak rfl (nB h1) ?_;refine av ?_;refine aL (hk1 _ _ ?_);refine au [8,11,12,13,14] fun k kp hk hp=>?_;refine go ?_;obtain ⟨y6,hc4,hm⟩:=bd hm
  refine am (hrec (IntKind.wrap .i64 (p1+1)) p2  _ hc4) [0] (by first|trivial|exact aA rfl) (by first|trivial|(intro _;first|trivial|simp [an])|simp [an]) (by simp) (by simp) rfl rfl (by first|trivial|(simp [bX,eK,eB,eS,eL,ar,ah,PV.under,CV.under,af,OB.under,ag];done)) (by first|trivial|(simp [bX,eK,eB,eS,eL,ar,ah,PV.under,CV.under,af,OB.under,ag];done)) ?_ ?_
  rotate_left
  ·rintro p σ' hpp hpl
   rcases y6 with y7|y8
   ·exact False.elim hpp
   simp only [Sum.elim_inl,Sum.elim_inr] at hm hpp;subst hpp;refine hp _ _ _ ?_;obtain rfl:=sI hm;exact rfl
  rintro p σ' hq5 _
  rcases y6 with y9|y10
  ·skip;simp only [Sum.elim_inl,Sum.elim_inr] at hm hq5
   obtain ⟨rfl,rfl⟩:=hq5;refine ab ?_;refine go ?_;refine hk _ _ ?_;clear hk hp k kp;refine bk (S:=((List aa)×Int×Int×Int×Int×Int×(List UInt8)×(List (List aw))×(List ai))) (V:=Unit) [0,1,6,15,16,17,18,19,20,21,22,23,24,25,26,27,28,29,30,31,32,33,34,35,36] (fun (l11,x12,x13,x14,x15,x16,s17,l18,l19) _=>[]) (fun (l11,x12,x13,x14,x15,x16,s17,l18,l19) _=>[.box [.tree 4 (l11.map aa.enc),.int .i64 p2.end_,.int .i64 x12,.int .i64 x13],.box [.int .i64 0,.int .i64 0,.int .i64 0,.str [],.nils,.nils],.box [.int .i64 x14,.int .i64 x15,.int .i64 x16,.str s17,.tree 1 (l18.map (eL 2 aw.enc)),.tree 6 (l19.map ai.enc)]]) (fun (l11,x12,x13,x14,x15,x16,s17,l18,l19)=>cL l11 x12 x13 x14 x15 x16 s17 l18 l19=some r) ?_ ?_
   ·skip;refine au [15,16,17] fun k kp hk hp=>?_
    refine go ?_;obtain ⟨y20,hc6,hm⟩:=bd hm;refine RA (iH p1 (ae.mk y9.2.1 p2.end_ y9.2.2.1 y9.2.2.2)  _ hc6) [0] ?_;rintro p σ' ⟨rfl,rfl⟩ _;refine ab ?_;refine go ?_;refine hk _ _ ?_;clear hk hp k kp;refine aY ?_;obtain ⟨o1,hl1,hm1⟩:=bd hm;refine dB (S:=((List aa)×Int×Int×Int×Int×Int×(List UInt8)×(List (List aw))×(List ai)×Int)) (V:=Unit) (O:=((List aa)×Int×Int×Int×Int×Int×(List UInt8)×(List (List aw))×(List ai)) ⊕ ((ai×(List aa)×Int×Int) ⊕ (Int×Int))) [6,18,19,20,21,22,23,24,25,26,27,28,29,30,31,32,33,34,35,36] (fun (l41,x42,x43,x44,x45,x46,s47,l48,l49,x50) _=>[(6,.c (.int .i64 x50))]) (fun (l41,x42,x43,x44,x45,x46,s47,l48,l49,x50) _=>[.box [.tree 4 (l41.map aa.enc),.int .i64 p2.end_,.int .i64 x42,.int .i64 x43],.box [.int .i64 0,.int .i64 0,.int .i64 0,.str [],.nils,.nils],.box [.int .i64 x44,.int .i64 x45,.int .i64 x46,.str s47,.tree 1 (l48.map (eL 2 aw.enc)),.tree 6 (l49.map ai.enc)]]) _ _ () hl1 ?_ ?_
    ·exact ls
    ·rintro ⟨l41,x42,x43,x44,x45,x46,s47,l48,l49,x50⟩ _ r1 hm hr1;replace hm:dj rcf p1 p2 l41 x42 x43 x44 x45 x46 s47 l48 l49 x50=some r1:=hm;refine bw ?_;unfold dj at hm;refine aR fun k2 hk2=>?_;refine ax [18] ?_
     by_cases h8:¬ x50=0
     ·rw [iP h8] at hm;refine aj rfl (bne_iff_ne.2 h8) ?_;refine av ?_;refine aL (hk2 _ _ ?_);refine aR fun k3 hk3=>?_;refine aY ?_;refine au [19,23,24] fun k kp hk hp=>?_;refine go ?_;obtain ⟨y51,hc9,hm⟩:=bd hm;refine RA (aO (ae.mk l41 p2.end_ x42 x43)  _ hc9) [0] ?_;rintro p σ' ⟨rfl,rfl⟩ _;refine ab ?_;refine go ?_;refine hk _ _ ?_;clear hk hp k kp;obtain ⟨y52,hc11,hm⟩:=bd hm
      rcases y52 with y53|y54
      ·skip;simp only [Sum.elim_inl,Sum.elim_inr] at hm
       refine qQ [6,25,26,27,28,29,30,31,32,33,34] (by kernel_rfl) [0] [0,0,0,0,0,16,56,124,254,511,1023] [false,false,false,false,false,false,false,false,false,true,true] [false,false,false,false,false,false,true,false,false,false,false] [[0],[6],[5],[],[],[],[],[],[],[],[]] [true,false,false,false,false,false,false,false,false,false,false] (by kernel_rfl) fun k hk=>?_
       refine qP (rK rfl (by first|rfl|(simp only [bR,bT,tab,bX,reduceIte,↓reduceIte,reduceCtorEq,Int.reduceToNat,Nat.reduceDiv,Nat.reduceMod,Nat.reduceLT,Nat.reduceLeDiff,Nat.reduceAdd,Nat.reduceSub,Nat.reduceMul,Nat.reduceEqDiff,Nat.reduceBEq,Nat.reduceBNe,Nat.reduceGT];done))) (by first|rfl|(simp only [bA,bT,tab,bX,reduceIte,↓reduceIte,reduceCtorEq,Int.reduceToNat,Nat.reduceDiv,Nat.reduceMod,Nat.reduceLT,Nat.reduceLeDiff,Nat.reduceAdd,Nat.reduceSub,Nat.reduceMul,Nat.reduceEqDiff,Nat.reduceBEq,Nat.reduceBNe,Nat.reduceGT];done)) (by first|trivial|exact aA rfl) ?_
       refine gl ?_;refine o5 rfl ?_;refine gp ?_
       refine dm (σ2:=[.box [.tree 4 (y53.2.1.map aa.enc),.int .i64 p2.end_,.int .i64 y53.2.2.1,.int .i64 y53.2.2.2],.box [.int .i64 0,.int .i64 0,.int .i64 0,.str [],.nils,.nils],.box [.int .i64 x44,.int .i64 x45,.int .i64 x46,.str s47,.tree 1 (l48.map (eL 2 aw.enc)),.tree 6 (l49.map ai.enc)]]) (res:=.a [.int .i64 ((y53.1).op),.int .i64 ((y53.1).k),.int .i64 ((y53.1).n),.str ((y53.1).name),.tree 1 (((y53.1).s).map (eL 2 aw.enc)),.tree 6 (((y53.1).l).map ai.enc)]) ⟨_,_,_,_,[0],hrec (IntKind.wrap .i64 (p1+1)) (ae.mk y51.2 p2.end_ x42 x43)  _ hc11,by simp,by simp,by first|rfl|(simp [PV.ren,CV.ren,CV.ren0,cz,lit];omega),rfl,by first|trivial|(simp [bX,eK,eB,eS,eL,ar,ah,PV.under,CV.under,af,OB.under,ag];done),by first|trivial|(simp [bX,eK,eB,eS,eL,ar,ah,PV.under,CV.under,af,OB.under,ag];done),fun q τ hq _=>by obtain ⟨rfl,rfl⟩:=hq;exact ⟨rfl,rfl⟩,fun _ _ h=>False.elim h⟩ (by first|trivial|exact aA rfl) (by first|trivial|(intro _;first|trivial|simp [an])|simp [an]) ⟨rfl,by simp only [hP];and_intros<;>first|exact .inl rfl|exact .inr rfl|trivial⟩ ?_
       refine gp ?_;obtain ⟨y55,hc12,hm⟩:=bd hm
       refine jr (σ2:=[.box [.tree 4 (y53.2.1.map aa.enc),.int .i64 p2.end_,.int .i64 y53.2.2.1,.int .i64 y55.2.2.2.2.2],.box [.int .i64 0,.int .i64 0,.int .i64 0,.str [],.nils,.nils],.box [.int .i64 x44,.int .i64 x45,.int .i64 x46,.str s47,.tree 1 (l48.map (eL 2 aw.enc)),.tree 6 (l49.map ai.enc)],.arr 6 0 47 ((lit ([(ai.mk x44 x45 x46 s47 l48 l49),(y53.1)]:List ai)).map ai.enc)]) (res:=.a [.int .i64 y55.1,.int .i64 y55.2.1,.int .i64 y55.2.2.1,.str y55.2.2.2.1,.tree 1 (y55.2.2.2.2.1.map (eL 2 aw.enc)),.osl 3 0 0 ((lit ([(ai.mk x44 x45 x46 s47 l48 l49),(y53.1)]:List ai)).length)]) ⟨_,_,_,_,[0,3],eN 5 x50 0 [] (ae.mk y53.2.1 p2.end_ y53.2.2.1 y53.2.2.2) (lit ([(ai.mk x44 x45 x46 s47 l48 l49),(y53.1)]:List ai)) 0 _ hc12,by simp,by simp,rfl,(by first|rfl|(simp only [lit,List.map_cons,List.map_nil,bX,eK,eB,eS,eL];rfl)),by first|trivial|(simp [bX,eK,eB,eS,eL,ar,ah,PV.under,CV.under,af,OB.under,ag];done),by first|trivial|(simp [bX,eK,eB,eS,eL,ar,ah,PV.under,CV.under,af,OB.under,ag];done),fun q τ hq _=>by obtain ⟨rfl,rfl⟩:=hq;exact ⟨rfl,rfl⟩,fun _ _ h=>h.elim⟩ (by first|trivial|exact aA rfl) (by first|trivial|(intro _;first|trivial|simp [an])|simp [an]) (by first|exact .inl rfl|exact .inr (by simp only [lR];and_intros<;>first|rfl|trivial|(simp only [lit,List.map_cons,List.map_nil,bX,eK,eB,eS,eL]))) ?_
       refine gp ?_;refine hk _ _ ?_;clear hk k;refine bU [.box [.tree 4 (y53.2.1.map aa.enc),.int .i64 p2.end_,.int .i64 y53.2.2.1,.int .i64 y55.2.2.2.2.2],.box [.int .i64 0,.int .i64 0,.int .i64 0,.str [],.nils,.nils],.box [.int .i64 y55.1,.int .i64 y55.2.1,.int .i64 y55.2.2.1,.str y55.2.2.2.1,.tree 1 (y55.2.2.2.2.1.map (eL 2 aw.enc)),.osl 3 0 0 ((lit ([(ai.mk x44 x45 x46 s47 l48 l49),(y53.1)]:List ai)).length)],.arr 6 0 47 ((lit ([(ai.mk x44 x45 x46 s47 l48 l49),(y53.1)]:List ai)).map ai.enc)] ?_;refine ax [35] ?_
       by_cases h13:p1=2
       ·rw [iP h13] at hm;refine aj rfl (eQ h13) ?_;refine e7 ?_;have ho14:=a8 hm hr1;subst ho14;replace hm:cL y53.2.1 y53.2.2.1 y55.2.2.2.2.2 y55.1 y55.2.1 y55.2.2.1 y55.2.2.2.1 y55.2.2.2.2.1 (lit ([(ai.mk x44 x45 x46 s47 l48 l49),(y53.1)]:List ai))=some r:=hm1;refine si (by decide) ?_;refine eC (cM (bx ?_));refine kU (aB 3 rfl) ?_;refine gz ?_;refine ao (y53.2.1,y53.2.2.1,y55.2.2.2.2.2,y55.1,y55.2.1,y55.2.2.1,y55.2.2.2.1,y55.2.2.2.2.1,(lit ([(ai.mk x44 x45 x46 s47 l48 l49),(y53.1)]:List ai))) () hm ?_;exact ls
       ·rw [iN h13] at hm;refine ak rfl (nB h13) ?_;refine av ?_;refine ap ?_;refine aL (hk3 _ _ ?_);refine bf fun k kp hk hp=>?_;refine go ?_;obtain ⟨y56,hc15,hm⟩:=bd hm;refine RA (iH p1 (ae.mk y53.2.1 p2.end_ y53.2.2.1 y55.2.2.2.2.2)  _ hc15) [0] ?_;rintro p σ' ⟨rfl,rfl⟩ _;refine ab ?_;refine go ?_;refine hk _ _ ?_;clear hk hp k kp;refine sn (aB 3 rfl) ?_;refine gz ?_;refine aH (y53.2.1,y53.2.2.1,y55.2.2.2.2.2,y55.1,y55.2.1,y55.2.2.1,y55.2.2.2.1,y55.2.2.2.2.1,(lit ([(ai.mk x44 x45 x46 s47 l48 l49),(y53.1)]:List ai)),y56) () hm ?_;exact ls
      ·skip;simp only [Sum.elim_inl,Sum.elim_inr] at hm
       refine iU ?_;refine lH 6 [] [false,false,false,false,false,false,false,false,false,true,true] [] _ rfl ?_;simp only [List.take_succ_cons,List.take_zero];refine ga ?_
       refine ⟨_,_,_,_,[0],hrec (IntKind.wrap .i64 (p1+1)) (ae.mk y51.2 p2.end_ x42 x43)  _ hc11,by simp,by simp,rfl,rfl,by first|trivial|(simp [bX,eK,eB,eS,eL,ar,ah,PV.under,CV.under,af,OB.under,ag];done),by first|trivial|(simp [bX,eK,eB,eS,eL,ar,ah,PV.under,CV.under,af,OB.under,ag];done),fun q τ h=>False.elim h,?_⟩
       rintro p σ' hpp hpl;simp only [Sum.elim_inl,Sum.elim_inr] at hpp;subst hpp;have ho17:=a8 hm hr1;subst ho17;replace hm:some (.inr (y54.1,y54.2))=some r:=hm1;refine bN ?_;refine aP ?_;refine bN ?_;refine cm ?_;refine aP ?_;refine be ?_;obtain rfl:=sI hm;exact rfl
     ·rw [iN h8] at hm;refine ak rfl (bne_eq_false_iff_eq.2 (Decidable.not_not.1 h8)) ?_;refine e7 ?_;have ho18:=a8 hm hr1;subst ho18;replace hm:cL l41 x42 x43 x44 x45 x46 s47 l48 l49=some r:=hm1;refine eC (cM (bx ?_));refine ao (l41,x42,x43,x44,x45,x46,s47,l48,l49) () hm ?_;exact ls
   ·rintro ⟨l11,x12,x13,x14,x15,x16,s17,l18,l19⟩ _ hm;replace hm:cL l11 x12 x13 x14 x15 x16 s17 l18 l19=some r:=hm;refine bw ?_;unfold cL at hm;refine ax [5,37] ?_;refine aM ?_
    cases hm
    exact kr 1
  ·skip;exact False.elim hq5
theorem kL(fuel:Nat)(p1:Int)(p2:ae)(r:(ai×(List aa)×Int×Int) ⊕ (Int×Int))(hm:gL fuel p1 p2=some r):ck Tryd.prog 44 [.c (.optr 0 0),.c (.int .i64 p1)] [.box [.tree 4 (p2.l.map aa.enc),.int .i64 p2.end_,.int .i64 p2.open_,.int .i64 p2.terms]] (fun p σ=>(Sum.elim (fun z=>(p=.a [.int .i64 ((z.1).op),.int .i64 ((z.1).k),.int .i64 ((z.1).n),.str ((z.1).name),.tree 1 (((z.1).s).map (eL 2 aw.enc)),.tree 6 (((z.1).l).map ai.enc)]∧σ=[.box [.tree 4 (z.2.1.map aa.enc),.int .i64 p2.end_,.int .i64 z.2.2.1,.int .i64 z.2.2.2]])) (fun z=>False)) r) (fun p _=>(Sum.elim (fun z=>False) (fun z=>p=.c (.ifc 48 true (nsC [(.i64,z.1),(.i64,z.2)])))) r):=by
  have key:∀ (n:Nat) (p1:Int) (p2:ae) (r:(ai×(List aa)×Int×Int) ⊕ (Int×Int)),cp fuel n p1 p2=some r→ck Tryd.prog 44 [.c (.optr 0 0),.c (.int .i64 p1)] [.box [.tree 4 (p2.l.map aa.enc),.int .i64 p2.end_,.int .i64 p2.open_,.int .i64 p2.terms]] (fun p σ=>(Sum.elim (fun z=>(p=.a [.int .i64 ((z.1).op),.int .i64 ((z.1).k),.int .i64 ((z.1).n),.str ((z.1).name),.tree 1 (((z.1).s).map (eL 2 aw.enc)),.tree 6 (((z.1).l).map ai.enc)]∧σ=[.box [.tree 4 (z.2.1.map aa.enc),.int .i64 p2.end_,.int .i64 z.2.2.1,.int .i64 z.2.2.2]])) (fun z=>False)) r) (fun p _=>(Sum.elim (fun z=>False) (fun z=>p=.c (.ifc 48 true (nsC [(.i64,z.1),(.i64,z.2)])))) r):=by
    intro n
    induction n with
    |zero =>
      intro p1 p2  r hm;simp [cp] at hm
    |succ n ih =>
      intro p1 p2  r hm;exact jW fuel (cp fuel n) ih p1 p2  r hm
  exact key fuel p1 p2  r hm
theorem ia(fuel:Nat)(p1:ae)(r:(ai×(List aa)×Int×Int) ⊕ (Int×Int))(hm:cW fuel p1=some r):ck Tryd.prog 38 [.c (.optr 0 0)] [.box [.tree 4 (p1.l.map aa.enc),.int .i64 p1.end_,.int .i64 p1.open_,.int .i64 p1.terms]] (fun p σ=>(Sum.elim (fun z=>(p=.a [.int .i64 ((z.1).op),.int .i64 ((z.1).k),.int .i64 ((z.1).n),.str ((z.1).name),.tree 1 (((z.1).s).map (eL 2 aw.enc)),.tree 6 (((z.1).l).map ai.enc)]∧σ=[.box [.tree 4 (z.2.1.map aa.enc),.int .i64 p1.end_,.int .i64 z.2.2.1,.int .i64 z.2.2.2]])) (fun z=>False)) r) (fun p _=>(Sum.elim (fun z=>False) (fun z=>p=.c (.ifc 48 true (nsC [(.i64,z.1),(.i64,z.2)])))) r):=by
 refine aN 36 [.cell 2 47] Tryd.func38 rfl rfl rfl (by kernel_rfl) (by simp) ?_;refine bJ ?_;unfold cW at hm;refine ax [] ?_;refine ax [5,6,7,8] ?_;refine bk (S:=Int) (V:=Unit) [3,9,10,11,12,13,14,15,16,17,18,19,20,21] (fun x1 _=>[(3,.c (.int .i64 x1))]) (fun x1 _=>[.box [.tree 4 (p1.l.map aa.enc),.int .i64 p1.end_,.int .i64 p1.open_,.int .i64 p1.terms],.box [.int .i64 0,.int .i64 0,.int .i64 0,.str [],.nils,.nils]]) (fun x1=>ca fuel p1 x1=some r) ?_ ?_
 ·skip;refine ax [9,10,11,12,13] ?_
  by_cases h4:(p1.l.length:Int)>0
  ·rw [iP h4] at hm;refine aj rfl (dT h4) ?_;obtain ⟨hg5a,hm⟩:=gd hm;refine tP (em aa.enc p1.l 0) ?_;refine ao ((p1.l.getD 0 default).at_) () hm ?_;exact ls
  ·rw [iN h4] at hm;refine ak rfl (dF h4) ?_;refine av ?_;refine ao p1.end_ () hm ?_;exact ls
 ·rintro x1 _ hm;replace hm:ca fuel p1 x1=some r:=hm;refine bw ?_;unfold ca at hm;refine ax [22,23,24] ?_;refine au [25,26] fun k kp hk hp=>?_;refine go ?_;obtain ⟨y2,hc1,hm⟩:=bd hm
  refine am (kL fuel 0 (ae.mk p1.l p1.end_ p1.open_ 0)  _ hc1) [0] (by first|trivial|exact aA rfl) (by first|trivial|(intro _;first|trivial|simp [an])|simp [an]) (by simp) (by simp) rfl rfl (by first|trivial|(simp [bX,eK,eB,eS,eL,ar,ah,PV.under,CV.under,af,OB.under,ag];done)) (by first|trivial|(simp [bX,eK,eB,eS,eL,ar,ah,PV.under,CV.under,af,OB.under,ag];done)) ?_ ?_
  rotate_left
  ·rintro p σ' hpp hpl
   rcases y2 with y3|y4
   ·exact False.elim hpp
   simp only [Sum.elim_inl,Sum.elim_inr] at hm hpp;subst hpp;refine hp _ _ _ ?_;obtain rfl:=sI hm;exact rfl
  rintro p σ' hq2 _
  rcases y2 with y5|y6
  ·skip;simp only [Sum.elim_inl,Sum.elim_inr] at hm hq2
   obtain ⟨rfl,rfl⟩:=hq2;refine ab ?_;refine go ?_;refine hk _ _ ?_;clear hk hp k kp;refine aR fun k1 hk1=>?_;refine ax [0,27,28,29,30] ?_
   by_cases h3:y5.2.2.2>30
   ·rw [iP h3] at hm;refine aj rfl (dT h3) ?_;refine ll fun k kp hk hp=>?_;refine aq 2 ?_;refine go ?_
    refine RS (m6 (ns:=[(.i64,7),(.i64,x1)]) rfl (by first|rfl|(simp only [bR,bT,tab,bX,reduceIte,↓reduceIte,reduceCtorEq,Int.reduceToNat,Nat.reduceDiv,Nat.reduceMod,Nat.reduceLT,Nat.reduceLeDiff,Nat.reduceAdd,Nat.reduceSub,Nat.reduceMul,Nat.reduceEqDiff,Nat.reduceBEq,Nat.reduceBNe,Nat.reduceGT];done)) (by first|kernel_rfl|exact of_decide_eq_true (by kernel_rfl))) ?_
    simp only [bR,bT,tab,bX,reduceIte,↓reduceIte,reduceCtorEq,Int.reduceToNat,Nat.reduceDiv,Nat.reduceMod,Nat.reduceLT,Nat.reduceLeDiff,Nat.reduceAdd,Nat.reduceSub,Nat.reduceMul,Nat.reduceEqDiff,Nat.reduceBEq,Nat.reduceBNe,Nat.reduceGT]
    refine ip rfl (by first|rfl|(simp only [bR,bT,tab,bX,reduceIte,↓reduceIte,reduceCtorEq,Int.reduceToNat,Nat.reduceDiv,Nat.reduceMod,Nat.reduceLT,Nat.reduceLeDiff,Nat.reduceAdd,Nat.reduceSub,Nat.reduceMul,Nat.reduceEqDiff,Nat.reduceBEq,Nat.reduceBNe,Nat.reduceGT];done)) (by first|rfl|(simp only [bR,bT,tab,bX,reduceIte,↓reduceIte,reduceCtorEq,Int.reduceToNat,Nat.reduceDiv,Nat.reduceMod,Nat.reduceLT,Nat.reduceLeDiff,Nat.reduceAdd,Nat.reduceSub,Nat.reduceMul,Nat.reduceEqDiff,Nat.reduceBEq,Nat.reduceBNe,Nat.reduceGT];done)) ?_
    refine hp _ _ _ ?_;refine bN ?_;obtain rfl:=sI hm;exact rfl
   ·rw [iN h3] at hm;refine ak rfl (dF h3) ?_;refine av ?_;refine aL (hk1 _ _ ?_);refine ax [3,4,31,35] ?_;refine aM ?_
    cases hm
    exact kr 1
  ·skip;exact False.elim hq2
theorem kv(p1:Int)(p2:ae)(r:((List (List aw))×(List aa)) ⊕ (Int×Int))(hm:eX p1 p2=some r):ck Tryd.prog 39 [.c (.optr 0 0),.c (.int .i64 p1),.c (.fn 4136 [.optr 0 0])] [.box [.tree 4 (p2.l.map aa.enc),.int .i64 p2.end_,.int .i64 p2.open_,.int .i64 p2.terms]] (fun p σ=>(Sum.elim (fun z=>(p=.c (.tree 1 (z.1.map (eL 2 aw.enc)))∧σ=[.box [.tree 4 (z.2.map aa.enc),.int .i64 p2.end_,.int .i64 p2.open_,.int .i64 p2.terms]])) (fun z=>False)) r) (fun p _=>(Sum.elim (fun z=>False) (fun z=>p=.c (.ifc 48 true (nsC [(.i64,z.1),(.i64,z.2)])))) r):=by
 refine aN 23 [.tmp 6] Tryd.func39 rfl rfl rfl (by kernel_rfl) (by simp) ?_;refine bJ ?_;unfold eX at hm;refine ax [6] ?_;refine ax [] ?_;refine aY ?_;refine eI (jO 7 1 72 (by decide) rfl (Nat.le_of_ble_eq_true rfl)) ?_;refine pB ?_;obtain ⟨o1,hl1,hm1⟩:=bd hm;refine dB (S:=((List aa)×(List (List aw)))) (V:=Nat) (O:=((List (List aw))×(List aa)) ⊕ (Int×Int)) [6,7,8,9,10,11,12,13,14,15,16,17,18,19,20,21,22] (fun (l13,l14) v15=>[(7,.c (.osl 1 v15 0 l14.length))]) (fun (l13,l14) v15=>[.box [.tree 4 (l13.map aa.enc),.int .i64 p2.end_,.int .i64 p2.open_,.int .i64 p2.terms],.arr 1 v15 72 (l14.map (eL 2 aw.enc))]) _ _ 0 hl1 ?_ ?_
 ·exact ls
 ·rintro ⟨l13,l14⟩ v15 r1 hm hr1;replace hm:dO p1 p2 l13 l14=some r1:=hm;refine bw ?_;unfold dO at hm;refine aY ?_;refine aR fun k1 hk1=>?_;refine ax [8,9,10] ?_
  by_cases h1:(l14.length:Int)=p1
  ·rw [iP h1] at hm;refine aj rfl (eQ h1) ?_;refine bf fun k kp hk hp=>?_;refine go ?_;obtain ⟨y16,hc2,hm⟩:=bd hm
   refine am (aI 7 (ae.mk l13 p2.end_ p2.open_ p2.terms)  _ hc2) [0] (by first|trivial|exact aA rfl) (by first|trivial|(intro _;first|trivial|simp [an])|simp [an]) (by simp) (by simp) rfl rfl (by first|trivial|(simp [bX,eK,eB,eS,eL,ar,ah,PV.under,CV.under,af,OB.under,ag];done)) (by first|trivial|(simp [bX,eK,eB,eS,eL,ar,ah,PV.under,CV.under,af,OB.under,ag];done)) ?_ ?_
   rotate_left
   ·rintro p σ' hpp hpl;skip;subst hpp;have ho4:=a8 hm hr1;subst ho4;replace hm:some (.inr (y16.1,y16.2))=some r:=hm1;refine hp _ _ _ ?_;refine bN ?_;refine aP ?_;refine cm ?_;refine aP ?_;obtain rfl:=sI hm;exact rfl
   rintro p σ' hq3 _;exact False.elim hq3
  ·rw [iN h1] at hm;refine ak rfl (nB h1) ?_;refine av ?_;refine aL (hk1 _ _ ?_);refine au [11,14,15,16,17,18] fun k kp hk hp=>?_;refine go ?_;obtain ⟨y17,hc5,hm⟩:=bd hm
   refine am (fe (ae.mk l13 p2.end_ p2.open_ p2.terms)  _ hc5) [0] (by first|trivial|exact aA rfl) (by first|trivial|(intro _;first|trivial|simp [an])|simp [an]) (by simp) (by simp) rfl rfl (by first|trivial|(simp [bX,eK,eB,eS,eL,ar,ah,PV.under,CV.under,af,OB.under,ag];done)) (by first|trivial|(simp [bX,eK,eB,eS,eL,ar,ah,PV.under,CV.under,af,OB.under,ag];done)) ?_ ?_
   rotate_left
   ·rintro p σ' hpp hpl
    rcases y17 with y18|y19
    ·exact False.elim hpp
    simp only [Sum.elim_inl,Sum.elim_inr] at hm hpp;subst hpp;have ho7:=a8 hm hr1;subst ho7;replace hm:some (.inr (y19.1,y19.2))=some r:=hm1;refine hp _ _ _ ?_;refine aP ?_;refine cm ?_;refine aP ?_;obtain rfl:=sI hm;exact rfl
   rintro p σ' hq6 _
   rcases y17 with y20|y21
   ·skip;simp only [Sum.elim_inl,Sum.elim_inr] at hm hq6
    obtain ⟨rfl,rfl⟩:=hq6;obtain ⟨⟨hg8ax,hg8ay⟩,hm⟩:=gd hm;refine ab ?_;refine go ?_;refine hk _ _ ?_;clear hk hp k kp;refine bU [.box [.tree 4 (y20.2.map aa.enc),.int .i64 p2.end_,.int .i64 p2.open_,.int .i64 p2.terms],.arr 1 (v15+1) 72 ((l14++(lit ([y20.1]:List (List aw)))).map (eL 2 aw.enc)),.arr 1 0 72 ((lit ([y20.1]:List (List aw))).map (eL 2 aw.enc))] ?_;refine au [19,20] fun k kp hk hp=>?_;refine go ?_;obtain ⟨y22,hc9,hm⟩:=bd hm;refine RA (bB ([44]:List UInt8) (ae.mk y20.2 p2.end_ p2.open_ p2.terms)  _ hc9) [0] ?_;rintro p σ' ⟨rfl,rfl⟩ _;refine ab ?_;refine go ?_;refine hk _ _ ?_;clear hk hp k kp
    by_cases h11:y22.1=true
    ·rw [iP h11] at hm;refine ak rfl (by rw [show y22.1=true from (h11)];rfl) ?_;refine av ?_;refine ap ?_;refine aH (y22.2,(l14++(lit ([y20.1]:List (List aw))))) (v15+1) hm ?_;exact ls
    ·rw [iN h11] at hm;refine aj rfl (by rw [show y22.1=false from (fB h11)];rfl) ?_;refine ax [0,1,2,7,21,22] ?_;refine kj (aB 1 rfl) ?_;have ho12:=a8 hm hr1;subst ho12;replace hm:some (.inl ((l14++(lit ([y20.1]:List (List aw)))),y22.2))=some r:=hm1;refine aM ?_;refine aT (eV (aT ?_))
     cases hm
     exact kr 1
   ·skip;exact False.elim hq6
theorem kw(fuel:Nat)(p1:Int)(p2:ae)(r:((List ai)×(List aa)×Int×Int) ⊕ (Int×Int))(hm:eY fuel p1 p2=some r):ck Tryd.prog 41 [.c (.optr 0 0),.c (.int .i64 p1),.c (.fn 4134 [.optr 0 0])] [.box [.tree 4 (p2.l.map aa.enc),.int .i64 p2.end_,.int .i64 p2.open_,.int .i64 p2.terms]] (fun p σ=>(Sum.elim (fun z=>(p=.c (.tree 6 (z.1.map ai.enc))∧σ=[.box [.tree 4 (z.2.1.map aa.enc),.int .i64 p2.end_,.int .i64 z.2.2.1,.int .i64 z.2.2.2]])) (fun z=>False)) r) (fun p _=>(Sum.elim (fun z=>False) (fun z=>p=.c (.ifc 48 true (nsC [(.i64,z.1),(.i64,z.2)])))) r):=by
 refine aN 23 [.tmp 6] Tryd.func41 rfl rfl rfl (by kernel_rfl) (by simp) ?_;refine bJ ?_;unfold eY at hm;refine ax [6] ?_;refine ax [] ?_;refine aY ?_;refine eI (jO 7 6 47 (by decide) rfl (Nat.le_of_ble_eq_true rfl)) ?_;refine pB ?_;obtain ⟨o1,hl1,hm1⟩:=bd hm;refine dB (S:=((List aa)×Int×Int×(List ai))) (V:=Nat) (O:=((List ai)×(List aa)×Int×Int) ⊕ (Int×Int)) [6,7,8,9,10,11,12,13,14,15,16,17,18,19,20,21,22] (fun (l17,x18,x19,l20) v21=>[(7,.c (.osl 1 v21 0 l20.length))]) (fun (l17,x18,x19,l20) v21=>[.box [.tree 4 (l17.map aa.enc),.int .i64 p2.end_,.int .i64 x18,.int .i64 x19],.arr 6 v21 47 (l20.map ai.enc)]) _ _ 0 hl1 ?_ ?_
 ·exact ls
 ·rintro ⟨l17,x18,x19,l20⟩ v21 r1 hm hr1;replace hm:dP fuel p1 p2 l17 x18 x19 l20=some r1:=hm;refine bw ?_;unfold dP at hm;refine aY ?_;refine aR fun k1 hk1=>?_;refine ax [8,9,10] ?_
  by_cases h1:(l20.length:Int)=p1
  ·rw [iP h1] at hm;refine aj rfl (eQ h1) ?_;refine bf fun k kp hk hp=>?_;refine go ?_;obtain ⟨y22,hc2,hm⟩:=bd hm
   refine am (aI 7 (ae.mk l17 p2.end_ x18 x19)  _ hc2) [0] (by first|trivial|exact aA rfl) (by first|trivial|(intro _;first|trivial|simp [an])|simp [an]) (by simp) (by simp) rfl rfl (by first|trivial|(simp [bX,eK,eB,eS,eL,ar,ah,PV.under,CV.under,af,OB.under,ag];done)) (by first|trivial|(simp [bX,eK,eB,eS,eL,ar,ah,PV.under,CV.under,af,OB.under,ag];done)) ?_ ?_
   rotate_left
   ·rintro p σ' hpp hpl;skip;subst hpp;have ho4:=a8 hm hr1;subst ho4;replace hm:some (.inr (y22.1,y22.2))=some r:=hm1;refine hp _ _ _ ?_;refine bN ?_;refine aP ?_;refine cm ?_;refine aP ?_;obtain rfl:=sI hm;exact rfl
   rintro p σ' hq3 _;exact False.elim hq3
  ·rw [iN h1] at hm;refine ak rfl (nB h1) ?_;refine av ?_;refine aL (hk1 _ _ ?_);refine au [11,14,15,16,17,18] fun k kp hk hp=>?_;refine go ?_;obtain ⟨y23,hc5,hm⟩:=bd hm
   refine am (ia fuel (ae.mk l17 p2.end_ x18 x19)  _ hc5) [0] (by first|trivial|exact aA rfl) (by first|trivial|(intro _;first|trivial|simp [an])|simp [an]) (by simp) (by simp) rfl rfl (by first|trivial|(simp [bX,eK,eB,eS,eL,ar,ah,PV.under,CV.under,af,OB.under,ag];done)) (by first|trivial|(simp [bX,eK,eB,eS,eL,ar,ah,PV.under,CV.under,af,OB.under,ag];done)) ?_ ?_
   rotate_left
   ·rintro p σ' hpp hpl
    rcases y23 with y24|y25
    ·exact False.elim hpp
    simp only [Sum.elim_inl,Sum.elim_inr] at hm hpp;subst hpp;have ho7:=a8 hm hr1;subst ho7;replace hm:some (.inr (y25.1,y25.2))=some r:=hm1;refine hp _ _ _ ?_;refine aP ?_;refine cm ?_;refine aP ?_;obtain rfl:=sI hm;exact rfl
   rintro p σ' hq6 _
   rcases y23 with y26|y27
   ·skip;simp only [Sum.elim_inl,Sum.elim_inr] at hm hq6
    obtain ⟨rfl,rfl⟩:=hq6;obtain ⟨⟨hg8ax,hg8ay⟩,hm⟩:=gd hm;refine ab ?_;refine go ?_;refine hk _ _ ?_;clear hk hp k kp;refine bU [.box [.tree 4 (y26.2.1.map aa.enc),.int .i64 p2.end_,.int .i64 y26.2.2.1,.int .i64 y26.2.2.2],.arr 6 (v21+1) 47 ((l20++(lit ([(y26.1)]:List ai))).map ai.enc),.arr 6 0 47 ((lit ([(y26.1)]:List ai)).map ai.enc)] ?_;refine au [19,20] fun k kp hk hp=>?_;refine go ?_;obtain ⟨y28,hc9,hm⟩:=bd hm;refine RA (bB ([44]:List UInt8) (ae.mk y26.2.1 p2.end_ y26.2.2.1 y26.2.2.2)  _ hc9) [0] ?_;rintro p σ' ⟨rfl,rfl⟩ _;refine ab ?_;refine go ?_;refine hk _ _ ?_;clear hk hp k kp
    by_cases h11:y28.1=true
    ·rw [iP h11] at hm;refine ak rfl (by rw [show y28.1=true from (h11)];rfl) ?_;refine av ?_;refine ap ?_;refine aH (y28.2,y26.2.2.1,y26.2.2.2,(l20++(lit ([(y26.1)]:List ai)))) (v21+1) hm ?_;exact ls
    ·rw [iN h11] at hm;refine aj rfl (by rw [show y28.1=false from (fB h11)];rfl) ?_;refine ax [0,1,2,7,21,22] ?_;refine kj (aB 1 rfl) ?_;have ho12:=a8 hm hr1;subst ho12;replace hm:some (.inl ((l20++(lit ([(y26.1)]:List ai))),y28.2,y26.2.2.1,y26.2.2.2))=some r:=hm1;refine aM ?_;refine aT (eV (aT ?_))
     cases hm
     exact kr 1
   ·skip;exact False.elim hq6
theorem iI(fuel:Nat)(p1:ae)(r:(TEq×(List aa)×Int×Int) ⊕ (Int×Int))(hm:fb fuel p1=some r):ck Tryd.prog 28 [.c (.optr 0 0)] [.box [.tree 4 (p1.l.map aa.enc),.int .i64 p1.end_,.int .i64 p1.open_,.int .i64 p1.terms]] (fun p σ=>(Sum.elim (fun z=>(p=.a [.int .i64 ((z.1).at_),.tree 1 (((z.1).names).map eS),.str ((z.1).node),.tree 1 (((z.1).s).map (eL 2 aw.enc)),.tree 6 (((z.1).e).map ai.enc)]∧σ=[.box [.tree 4 (z.2.1.map aa.enc),.int .i64 p1.end_,.int .i64 z.2.2.1,.int .i64 z.2.2.2]])) (fun z=>False)) r) (fun p _=>(Sum.elim (fun z=>False) (fun z=>p=.c (.ifc 48 true (nsC [(.i64,z.1),(.i64,z.2)])))) r):=by
 refine aN 67 [.cell 2 45] Tryd.func28 rfl rfl rfl (by kernel_rfl) (by simp) ?_;refine bJ ?_;unfold fb at hm;refine ax [] ?_;obtain ⟨hg1a,hm⟩:=gd hm;refine gG (em aa.enc p1.l 0) [4,5,6,7,8,9,10,11] ?_;refine au [12,13,14,15,16] fun k kp hk hp=>?_;refine go ?_;obtain ⟨y1,hc2,hm⟩:=bd hm
 refine am (iy 30 p1  _ hc2) [0] (by first|trivial|exact aA rfl) (by first|trivial|(intro _;first|trivial|simp [an])|simp [an]) (by simp) (by simp) rfl rfl (by first|trivial|(simp [bX,eK,eB,eS,eL,ar,ah,PV.under,CV.under,af,OB.under,ag];done)) (by first|trivial|(simp [bX,eK,eB,eS,eL,ar,ah,PV.under,CV.under,af,OB.under,ag];done)) ?_ ?_
 rotate_left
 ·rintro p σ' hpp hpl
  rcases y1 with y2|y3
  ·exact False.elim hpp
  simp only [Sum.elim_inl,Sum.elim_inr] at hm hpp;subst hpp;refine hp _ _ _ ?_;obtain rfl:=sI hm;exact rfl
 rintro p σ' hq3 _
 rcases y1 with y4|y5
 ·skip;simp only [Sum.elim_inl,Sum.elim_inr] at hm hq3
  obtain ⟨rfl,rfl⟩:=hq3;refine ab ?_;refine go ?_;refine hk _ _ ?_;clear hk hp k kp;refine au [17,18,19] fun k kp hk hp=>?_;refine go ?_;refine ay (aB 3 rfl) ?_;refine gt ?_;obtain ⟨y6,hc4,hm⟩:=bd hm
  refine am (aJ (lit ([([61]:List UInt8)]:List (List UInt8))) (ae.mk y4.2 p1.end_ p1.open_ p1.terms)  _ hc4) [0] (by first|trivial|exact aA rfl) (by first|trivial|(intro _;first|trivial|simp [an])|simp [an]) (by simp) (by simp) rfl rfl (by first|trivial|(simp [bX,eK,eB,eS,eL,ar,ah,PV.under,CV.under,af,OB.under,ag];done)) (by first|trivial|(simp [bX,eK,eB,eS,eL,ar,ah,PV.under,CV.under,af,OB.under,ag];done)) ?_ ?_
  rotate_left
  ·rintro p σ' hpp hpl
   rcases y6 with y7|y8
   ·exact False.elim hpp
   simp only [Sum.elim_inl,Sum.elim_inr] at hm hpp;subst hpp;refine hp _ _ _ ?_;obtain rfl:=sI hm;exact rfl
  rintro p σ' hq5 _
  rcases y6 with y9|y10
  ·skip;simp only [Sum.elim_inl,Sum.elim_inr] at hm hq5
   obtain ⟨rfl,rfl⟩:=hq5;refine ab ?_;refine go ?_;refine hk _ _ ?_;clear hk hp k kp;refine bk (S:=Unit) (V:=Unit) [20,21,22,23,24,25,26,27,28,29,30,31,32,33,34] (fun _ _=>[]) (fun _ _=>[.box [.tree 4 (y9.map aa.enc),.int .i64 p1.end_,.int .i64 p1.open_,.int .i64 p1.terms],.box [.int .i64 0,.nils,.str [],.nils,.nils],.box [.int .i64 ((p1.l.getD 0 default).at_),.tree 1 (y4.1.map eS),.str [],.nils,.nils],.dead]) (fun _=>cF fuel p1 y4 y9=some r) ?_ ?_
   ·skip;refine cR [20,21,22,23,24,25,26,27,28] fun k kp hk hp=>?_
    refine aq 5 ?_;refine go ?_
    by_cases h26:(y4.1.length:Int)=1
    ·rw [iP h26] at hm;have h26b:=eQ h26;refine ab ?_;refine gox h26b ?_;refine ay (aB 4 rfl) ?_;refine gtx h26b ?_;obtain ⟨y54,hc27,hm⟩:=bd hm;refine RA (aD (lit ([([99,97,108,108]:List UInt8)]:List (List UInt8))) (ae.mk y9 p1.end_ p1.open_ p1.terms)  _ hc27) [0] ?_;rintro p σ' ⟨rfl,rfl⟩ _;refine ab ?_;refine gox h26b ?_;refine hk _ _ ?_;clear hk hp k kp
     by_cases h29:y54=true
     ·rw [iP h29] at hm;refine ak rfl (by rw [show y54=true from (h29)];rfl) ?_;refine av ?_;refine ao () () hm ?_;exact ls
     ·rw [iN h29] at hm;refine aj rfl (by rw [show y54=false from (fB h29)];rfl) ?_;refine au [0,29,30,31,32,33] fun k kp hk hp=>?_;refine go ?_;obtain ⟨y55,hc30,hm⟩:=bd hm
      refine am (ia fuel (ae.mk y9 p1.end_ p1.open_ p1.terms)  _ hc30) [0] (by first|trivial|exact aA rfl) (by first|trivial|(intro _;first|trivial|simp [an])|simp [an]) (by simp) (by simp) rfl rfl (by first|trivial|(simp [bX,eK,eB,eS,eL,ar,ah,PV.under,CV.under,af,OB.under,ag];done)) (by first|trivial|(simp [bX,eK,eB,eS,eL,ar,ah,PV.under,CV.under,af,OB.under,ag];done)) ?_ ?_
      rotate_left
      ·rintro p σ' hpp hpl
       rcases y55 with y56|y57
       ·exact False.elim hpp
       simp only [Sum.elim_inl,Sum.elim_inr] at hm hpp;subst hpp;refine hp _ _ _ ?_;refine be ?_;obtain rfl:=sI hm;exact rfl
      rintro p σ' hq31 _
      rcases y55 with y58|y59
      ·skip;simp only [Sum.elim_inl,Sum.elim_inr] at hm hq31
       obtain ⟨rfl,rfl⟩:=hq31;refine ab ?_;refine go ?_;refine hk _ _ ?_;clear hk hp k kp;refine bU [.box [.tree 4 (y58.2.1.map aa.enc),.int .i64 p1.end_,.int .i64 y58.2.2.1,.int .i64 y58.2.2.2],.box [.int .i64 0,.nils,.str [],.nils,.nils],.box [.int .i64 ((p1.l.getD 0 default).at_),.tree 1 (y4.1.map eS),.str [],.nils,.osl 5 0 0 1],.dead,.dead,.arr 6 0 47 ((lit ([(y58.1)]:List ai)).map ai.enc)] ?_;refine ax [3,34] ?_
       refine eI (fa 1 [.int .i64 ((p1.l.getD 0 default).at_),.tree 1 (y4.1.map eS),.str [],.tree 1 ([].map (eL 2 aw.enc)),.osl 5 0 0 1] rfl (by and_intros<;>trivial)) ?_
       refine gg rfl (by simp only [bZ,bL,reduceIte,↓reduceIte,reduceCtorEq,Int.reduceToNat,Nat.reduceDiv,Nat.reduceMod,Nat.reduceLT,Nat.reduceLeDiff,Nat.reduceAdd,Nat.reduceSub,Nat.reduceMul,Nat.reduceEqDiff,Nat.reduceBEq,Nat.reduceBNe,Nat.reduceGT];rfl) ?_;refine kj (aB 5 rfl) ?_;refine aM ?_;refine bn ?_
       cases hm
       exact kr 1
      ·skip;exact False.elim hq31
    ·rw [iN h26] at hm;have h26b:=nB h26;refine ab ?_;refine gox h26b ?_;refine hk _ _ ?_;clear hk hp k kp;refine ak rfl rfl ?_;refine av ?_;refine ao () () hm ?_;exact ls
   ·rintro _ _ hm;replace hm:cF fuel p1 y4 y9=some r:=hm;refine bw ?_;unfold cF at hm;refine au [35,36,37] fun k kp hk hp=>?_;refine go ?_;refine ay (aB 4 rfl) ?_;refine gt ?_;obtain ⟨y11,hc6,hm⟩:=bd hm
    refine am (aJ (lit ([([99,97,108,108]:List UInt8)]:List (List UInt8))) (ae.mk y9 p1.end_ p1.open_ p1.terms)  _ hc6) [0] (by first|trivial|exact aA rfl) (by first|trivial|(intro _;first|trivial|simp [an])|simp [an]) (by simp) (by simp) rfl rfl (by first|trivial|(simp [bX,eK,eB,eS,eL,ar,ah,PV.under,CV.under,af,OB.under,ag];done)) (by first|trivial|(simp [bX,eK,eB,eS,eL,ar,ah,PV.under,CV.under,af,OB.under,ag];done)) ?_ ?_
    rotate_left
    ·rintro p σ' hpp hpl
     rcases y11 with y12|y13
     ·exact False.elim hpp
     simp only [Sum.elim_inl,Sum.elim_inr] at hm hpp;subst hpp;refine hp _ _ _ ?_;obtain rfl:=sI hm;exact rfl
    rintro p σ' hq7 _
    rcases y11 with y14|y15
    ·skip;simp only [Sum.elim_inl,Sum.elim_inr] at hm hq7
     obtain ⟨rfl,rfl⟩:=hq7;refine ab ?_;refine go ?_;refine hk _ _ ?_;clear hk hp k kp;refine au [38,39,40] fun k kp hk hp=>?_;refine go ?_;obtain ⟨y16,hc8,hm⟩:=bd hm
     refine am (bt (ae.mk y14 p1.end_ p1.open_ p1.terms)  _ hc8) [0] (by first|trivial|exact aA rfl) (by first|trivial|(intro _;first|trivial|simp [an])|simp [an]) (by simp) (by simp) rfl rfl (by first|trivial|(simp [bX,eK,eB,eS,eL,ar,ah,PV.under,CV.under,af,OB.under,ag];done)) (by first|trivial|(simp [bX,eK,eB,eS,eL,ar,ah,PV.under,CV.under,af,OB.under,ag];done)) ?_ ?_
     rotate_left
     ·rintro p σ' hpp hpl
      rcases y16 with y17|y18
      ·exact False.elim hpp
      simp only [Sum.elim_inl,Sum.elim_inr] at hm hpp;subst hpp;refine hp _ _ _ ?_;obtain rfl:=sI hm;exact rfl
     rintro p σ' hq9 _
     rcases y16 with y19|y20
     ·skip;simp only [Sum.elim_inl,Sum.elim_inr] at hm hq9
      obtain ⟨rfl,rfl⟩:=hq9;refine ab ?_;refine go ?_;refine hk _ _ ?_;clear hk hp k kp;refine bk (S:=((List aa)×(List (List aw)))) (V:=Unit) [41,42,43,44,45,46,47,48,49,50] (fun (l21,l22) _=>[]) (fun (l21,l22) _=>[.box [.tree 4 (l21.map aa.enc),.int .i64 p1.end_,.int .i64 p1.open_,.int .i64 p1.terms],.box [.int .i64 0,.nils,.str [],.nils,.nils],.box [.int .i64 ((p1.l.getD 0 default).at_),.tree 1 (y4.1.map eS),.str y19.1,.tree 1 (l22.map (eL 2 aw.enc)),.nils],.dead,.dead]) (fun (l21,l22)=>cE fuel p1 y4 y19 l21 l22=some r) ?_ ?_
      ·skip;refine au [41] fun k kp hk hp=>?_
       refine go ?_;obtain ⟨y43,hc19,hm⟩:=bd hm;refine RA (bB ([60]:List UInt8) (ae.mk y19.2 p1.end_ p1.open_ p1.terms)  _ hc19) [0] ?_;rintro p σ' ⟨rfl,rfl⟩ _;refine ab ?_;refine go ?_;refine hk _ _ ?_;clear hk hp k kp
       by_cases h21:y43.1=true
       ·rw [iP h21] at hm;refine aj rfl (h21) ?_;refine au [42,43,44,45,46,47] fun k kp hk hp=>?_;refine go ?_;obtain ⟨y44,hc22,hm⟩:=bd hm
        refine am (kv 3 (ae.mk y43.2 p1.end_ p1.open_ p1.terms)  _ hc22) [0] (by first|trivial|exact aA rfl) (by first|trivial|(intro _;first|trivial|simp [an])|simp [an]) (by simp) (by simp) rfl rfl (by first|trivial|(simp [bX,eK,eB,eS,eL,ar,ah,PV.under,CV.under,af,OB.under,ag];done)) (by first|trivial|(simp [bX,eK,eB,eS,eL,ar,ah,PV.under,CV.under,af,OB.under,ag];done)) ?_ ?_
        rotate_left
        ·rintro p σ' hpp hpl
         rcases y44 with y45|y46
         ·exact False.elim hpp
         simp only [Sum.elim_inl,Sum.elim_inr] at hm hpp;subst hpp;refine hp _ _ _ ?_;refine be ?_;obtain rfl:=sI hm;exact rfl
        rintro p σ' hq23 _
        rcases y44 with y47|y48
        ·skip;simp only [Sum.elim_inl,Sum.elim_inr] at hm hq23
         obtain ⟨rfl,rfl⟩:=hq23;refine ab ?_;refine go ?_;refine hk _ _ ?_;clear hk hp k kp;refine bf fun k kp hk hp=>?_;refine go ?_;refine ay (aB 5 rfl) ?_;refine gt ?_;obtain ⟨y49,hc24,hm⟩:=bd hm
         refine am (aJ (lit ([([62]:List UInt8)]:List (List UInt8))) (ae.mk y47.2 p1.end_ p1.open_ p1.terms)  _ hc24) [0] (by first|trivial|exact aA rfl) (by first|trivial|(intro _;first|trivial|simp [an])|simp [an]) (by simp) (by simp) rfl rfl (by first|trivial|(simp [bX,eK,eB,eS,eL,ar,ah,PV.under,CV.under,af,OB.under,ag];done)) (by first|trivial|(simp [bX,eK,eB,eS,eL,ar,ah,PV.under,CV.under,af,OB.under,ag];done)) ?_ ?_
         rotate_left
         ·rintro p σ' hpp hpl
          rcases y49 with y50|y51
          ·exact False.elim hpp
          simp only [Sum.elim_inl,Sum.elim_inr] at hm hpp;subst hpp;refine hp _ _ _ ?_;refine be ?_;obtain rfl:=sI hm;exact rfl
         rintro p σ' hq25 _
         rcases y49 with y52|y53
         ·skip;simp only [Sum.elim_inl,Sum.elim_inr] at hm hq25
          obtain ⟨rfl,rfl⟩:=hq25;refine ab ?_;refine go ?_;refine hk _ _ ?_;clear hk hp k kp;refine ao (y52,y47.1) () hm ?_;exact ls
         ·skip;exact False.elim hq25
        ·skip;exact False.elim hq23
       ·rw [iN h21] at hm;refine ak rfl (fB h21) ?_;refine av ?_
        refine kU (fa 2 [.int .i64 ((p1.l.getD 0 default).at_),.tree 1 (y4.1.map eS),.str y19.1,.tree 1 [],.nils] rfl (by and_intros<;>trivial)) ?_
        refine gz ?_;refine ao (y43.2,[]) () hm ?_;exact ls
      ·rintro ⟨l21,l22⟩ _ hm;replace hm:cE fuel p1 y4 y19 l21 l22=some r:=hm;refine bw ?_;unfold cE at hm;refine au [51,52,53] fun k kp hk hp=>?_;refine go ?_;refine ay (aB 5 rfl) ?_;refine gt ?_;obtain ⟨y23,hc10,hm⟩:=bd hm
       refine am (aJ (lit ([([40]:List UInt8)]:List (List UInt8))) (ae.mk l21 p1.end_ p1.open_ p1.terms)  _ hc10) [0] (by first|trivial|exact aA rfl) (by first|trivial|(intro _;first|trivial|simp [an])|simp [an]) (by simp) (by simp) rfl rfl (by first|trivial|(simp [bX,eK,eB,eS,eL,ar,ah,PV.under,CV.under,af,OB.under,ag];done)) (by first|trivial|(simp [bX,eK,eB,eS,eL,ar,ah,PV.under,CV.under,af,OB.under,ag];done)) ?_ ?_
       rotate_left
       ·rintro p σ' hpp hpl
        rcases y23 with y24|y25
        ·exact False.elim hpp
        simp only [Sum.elim_inl,Sum.elim_inr] at hm hpp;subst hpp;refine hp _ _ _ ?_;obtain rfl:=sI hm;exact rfl
       rintro p σ' hq11 _
       rcases y23 with y26|y27
       ·skip;simp only [Sum.elim_inl,Sum.elim_inr] at hm hq11
        obtain ⟨rfl,rfl⟩:=hq11;refine ab ?_;refine go ?_;refine hk _ _ ?_;clear hk hp k kp;refine bk (S:=((List aa)×Int×Int×(List ai))) (V:=Unit) [54,55,56,57,58,59,60,61,62] (fun (l28,x29,x30,l31) _=>[]) (fun (l28,x29,x30,l31) _=>[.box [.tree 4 (l28.map aa.enc),.int .i64 p1.end_,.int .i64 x29,.int .i64 x30],.box [.int .i64 0,.nils,.str [],.nils,.nils],.box [.int .i64 ((p1.l.getD 0 default).at_),.tree 1 (y4.1.map eS),.str y19.1,.tree 1 (l22.map (eL 2 aw.enc)),.tree 6 (l31.map ai.enc)],.dead,.dead,.dead]) (fun (l28,x29,x30,l31)=>cD p1 y4 y19 l22 l28 x29 x30 l31=some r) ?_ ?_
        ·skip;refine au [54,55,56] fun k kp hk hp=>?_
         refine go ?_;refine ay (aB 6 rfl) ?_;refine gt ?_;obtain ⟨y37,hc14,hm⟩:=bd hm;refine RA (aD (lit ([([41]:List UInt8)]:List (List UInt8))) (ae.mk y26 p1.end_ p1.open_ p1.terms)  _ hc14) [0] ?_;rintro p σ' ⟨rfl,rfl⟩ _;refine ab ?_;refine go ?_;refine hk _ _ ?_;clear hk hp k kp
         by_cases h16:y37=true
         ·rw [iP h16] at hm;refine ak rfl (by rw [show y37=true from (h16)];rfl) ?_;refine av ?_
          refine kU (fa 2 [.int .i64 ((p1.l.getD 0 default).at_),.tree 1 (y4.1.map eS),.str y19.1,.tree 1 (l22.map (eL 2 aw.enc)),.tree 6 []] rfl (by and_intros<;>trivial)) ?_
          refine gz ?_;refine ao (y26,p1.open_,p1.terms,[]) () hm ?_;exact ls
         ·rw [iN h16] at hm;refine aj rfl (by rw [show y37=false from (fB h16)];rfl) ?_;refine bf fun k kp hk hp=>?_;refine go ?_;obtain ⟨y38,hc17,hm⟩:=bd hm
          refine am (kw fuel 30 (ae.mk y26 p1.end_ p1.open_ p1.terms)  _ hc17) [0] (by first|trivial|exact aA rfl) (by first|trivial|(intro _;first|trivial|simp [an])|simp [an]) (by simp) (by simp) rfl rfl (by first|trivial|(simp [bX,eK,eB,eS,eL,ar,ah,PV.under,CV.under,af,OB.under,ag];done)) (by first|trivial|(simp [bX,eK,eB,eS,eL,ar,ah,PV.under,CV.under,af,OB.under,ag];done)) ?_ ?_
          rotate_left
          ·rintro p σ' hpp hpl
           rcases y38 with y39|y40
           ·exact False.elim hpp
           simp only [Sum.elim_inl,Sum.elim_inr] at hm hpp;subst hpp;refine hp _ _ _ ?_;refine be ?_;obtain rfl:=sI hm;exact rfl
          rintro p σ' hq18 _
          rcases y38 with y41|y42
          ·skip;simp only [Sum.elim_inl,Sum.elim_inr] at hm hq18
           obtain ⟨rfl,rfl⟩:=hq18;refine ab ?_;refine go ?_;refine hk _ _ ?_;clear hk hp k kp;refine ao (y41.2.1,y41.2.2.1,y41.2.2.2,y41.1) () hm ?_;exact ls
          ·skip;exact False.elim hq18
        ·rintro ⟨l28,x29,x30,l31⟩ _ hm;replace hm:cD p1 y4 y19 l22 l28 x29 x30 l31=some r:=hm;refine bw ?_;unfold cD at hm;refine au [0,63,64,65] fun k kp hk hp=>?_;refine go ?_;refine ay (aB 6 rfl) ?_;refine gt ?_;obtain ⟨y32,hc12,hm⟩:=bd hm
         refine am (aJ (lit ([([41]:List UInt8)]:List (List UInt8))) (ae.mk l28 p1.end_ x29 x30)  _ hc12) [0] (by first|trivial|exact aA rfl) (by first|trivial|(intro _;first|trivial|simp [an])|simp [an]) (by simp) (by simp) rfl rfl (by first|trivial|(simp [bX,eK,eB,eS,eL,ar,ah,PV.under,CV.under,af,OB.under,ag];done)) (by first|trivial|(simp [bX,eK,eB,eS,eL,ar,ah,PV.under,CV.under,af,OB.under,ag];done)) ?_ ?_
         rotate_left
         ·rintro p σ' hpp hpl
          rcases y32 with y33|y34
          ·exact False.elim hpp
          simp only [Sum.elim_inl,Sum.elim_inr] at hm hpp;subst hpp;refine hp _ _ _ ?_;obtain rfl:=sI hm;exact rfl
         rintro p σ' hq13 _
         rcases y32 with y35|y36
         ·skip;simp only [Sum.elim_inl,Sum.elim_inr] at hm hq13
          obtain ⟨rfl,rfl⟩:=hq13;refine ab ?_;refine go ?_;refine hk _ _ ?_;clear hk hp k kp;refine ax [3,66] ?_;refine aM ?_
          cases hm
          exact kr 1
         ·skip;exact False.elim hq13
       ·skip;exact False.elim hq11
     ·skip;exact False.elim hq9
    ·skip;exact False.elim hq7
  ·skip;exact False.elim hq5
 ·skip;exact False.elim hq3
theorem ib(fuel:Nat)(p1:ae)(r:(cC×(List aa)×Int×Int) ⊕ (Int×Int))(hm:eA fuel p1=some r):ck Tryd.prog 11 [.c (.optr 0 0)] [.box [.tree 4 (p1.l.map aa.enc),.int .i64 p1.end_,.int .i64 p1.open_,.int .i64 p1.terms]] (fun p σ=>(Sum.elim (fun z=>(p=.a [.str ((z.1).name),.int .i64 ((z.1).at_),.tree 1 (((z.1).sizes).map eS),.tree 3 (((z.1).in_).map aX.enc),.tree 3 (((z.1).out_).map aX.enc),.tree 3 (((z.1).local_).map aX.enc),.tree 5 (((z.1).eqs).map TEq.enc)]∧σ=[.box [.tree 4 (z.2.1.map aa.enc),.int .i64 p1.end_,.int .i64 z.2.2.1,.int .i64 z.2.2.2]])) (fun z=>False)) r) (fun p _=>(Sum.elim (fun z=>False) (fun z=>p=.c (.ifc 48 true (nsC [(.i64,z.1),(.i64,z.2)])))) r):=by
 refine aN 114 [.cell 2 41] Tryd.func11 rfl rfl rfl (by kernel_rfl) (by simp) ?_;refine bJ ?_;unfold eA at hm;refine ax [] ?_;obtain ⟨hg1a,hm⟩:=gd hm;refine gG (em aa.enc p1.l 0) [4,5,6,7,8,9,10,11] ?_;refine au [12,13] fun k kp hk hp=>?_;refine go ?_;obtain ⟨y1,hc2,hm⟩:=bd hm;refine RA (aO p1  _ hc2) [0] ?_;rintro p σ' ⟨rfl,rfl⟩ _;refine ab ?_;refine go ?_;refine hk _ _ ?_;clear hk hp k kp;refine au [14,15,16] fun k kp hk hp=>?_;refine go ?_;obtain ⟨y2,hc4,hm⟩:=bd hm
 refine am (bt (ae.mk y1.2 p1.end_ p1.open_ p1.terms)  _ hc4) [0] (by first|trivial|exact aA rfl) (by first|trivial|(intro _;first|trivial|simp [an])|simp [an]) (by simp) (by simp) rfl rfl (by first|trivial|(simp [bX,eK,eB,eS,eL,ar,ah,PV.under,CV.under,af,OB.under,ag];done)) (by first|trivial|(simp [bX,eK,eB,eS,eL,ar,ah,PV.under,CV.under,af,OB.under,ag];done)) ?_ ?_
 rotate_left
 ·rintro p σ' hpp hpl
  rcases y2 with y3|y4
  ·exact False.elim hpp
  simp only [Sum.elim_inl,Sum.elim_inr] at hm hpp;subst hpp;refine hp _ _ _ ?_;obtain rfl:=sI hm;exact rfl
 rintro p σ' hq5 _
 rcases y2 with y5|y6
 ·skip;simp only [Sum.elim_inl,Sum.elim_inr] at hm hq5
  obtain ⟨rfl,rfl⟩:=hq5;refine ab ?_;refine go ?_;refine hk _ _ ?_;clear hk hp k kp;refine bk (S:=((List aa)×(List (List UInt8)))) (V:=Unit) [17,18,19,20,21,22,23,24,25,26] (fun (l7,l8) _=>[]) (fun (l7,l8) _=>[.box [.tree 4 (l7.map aa.enc),.int .i64 p1.end_,.int .i64 p1.open_,.int .i64 p1.terms],.box [.str [],.int .i64 0,.nils,.nils,.nils,.nils,.nils],.box [.str y5.1,.int .i64 ((p1.l.getD 0 default).at_),.tree 1 (l8.map eS),.nils,.nils,.nils,.nils]]) (fun (l7,l8)=>cg fuel p1 y5 l7 l8=some r) ?_ ?_
  ·skip;refine au [17] fun k kp hk hp=>?_
   refine go ?_;obtain ⟨y119,hc52,hm⟩:=bd hm;refine RA (bB ([60]:List UInt8) (ae.mk y5.2 p1.end_ p1.open_ p1.terms)  _ hc52) [0] ?_;rintro p σ' ⟨rfl,rfl⟩ _;refine ab ?_;refine go ?_;refine hk _ _ ?_;clear hk hp k kp
   by_cases h54:y119.1=true
   ·rw [iP h54] at hm;refine aj rfl (h54) ?_;refine au [18,19,20,21,22,23] fun k kp hk hp=>?_;refine go ?_;obtain ⟨y120,hc55,hm⟩:=bd hm
    refine am (iy 3 (ae.mk y119.2 p1.end_ p1.open_ p1.terms)  _ hc55) [0] (by first|trivial|exact aA rfl) (by first|trivial|(intro _;first|trivial|simp [an])|simp [an]) (by simp) (by simp) rfl rfl (by first|trivial|(simp [bX,eK,eB,eS,eL,ar,ah,PV.under,CV.under,af,OB.under,ag];done)) (by first|trivial|(simp [bX,eK,eB,eS,eL,ar,ah,PV.under,CV.under,af,OB.under,ag];done)) ?_ ?_
    rotate_left
    ·rintro p σ' hpp hpl
     rcases y120 with y121|y122
     ·exact False.elim hpp
     simp only [Sum.elim_inl,Sum.elim_inr] at hm hpp;subst hpp;refine hp _ _ _ ?_;refine be ?_;obtain rfl:=sI hm;exact rfl
    rintro p σ' hq56 _
    rcases y120 with y123|y124
    ·skip;simp only [Sum.elim_inl,Sum.elim_inr] at hm hq56
     obtain ⟨rfl,rfl⟩:=hq56;refine ab ?_;refine go ?_;refine hk _ _ ?_;clear hk hp k kp;refine bf fun k kp hk hp=>?_;refine go ?_;refine ay (aB 3 rfl) ?_;refine gt ?_;obtain ⟨y125,hc57,hm⟩:=bd hm
     refine am (aJ (lit ([([62]:List UInt8)]:List (List UInt8))) (ae.mk y123.2 p1.end_ p1.open_ p1.terms)  _ hc57) [0] (by first|trivial|exact aA rfl) (by first|trivial|(intro _;first|trivial|simp [an])|simp [an]) (by simp) (by simp) rfl rfl (by first|trivial|(simp [bX,eK,eB,eS,eL,ar,ah,PV.under,CV.under,af,OB.under,ag];done)) (by first|trivial|(simp [bX,eK,eB,eS,eL,ar,ah,PV.under,CV.under,af,OB.under,ag];done)) ?_ ?_
     rotate_left
     ·rintro p σ' hpp hpl
      rcases y125 with y126|y127
      ·exact False.elim hpp
      simp only [Sum.elim_inl,Sum.elim_inr] at hm hpp;subst hpp;refine hp _ _ _ ?_;refine be ?_;obtain rfl:=sI hm;exact rfl
     rintro p σ' hq58 _
     rcases y125 with y128|y129
     ·skip;simp only [Sum.elim_inl,Sum.elim_inr] at hm hq58
      obtain ⟨rfl,rfl⟩:=hq58;refine ab ?_;refine go ?_;refine hk _ _ ?_;clear hk hp k kp;refine ao (y128,y123.1) () hm ?_;exact ls
     ·skip;exact False.elim hq58
    ·skip;exact False.elim hq56
   ·rw [iN h54] at hm;refine ak rfl (fB h54) ?_;refine av ?_
    refine kU (fa 2 [.str y5.1,.int .i64 ((p1.l.getD 0 default).at_),.tree 1 [],.nils,.nils,.nils,.nils] rfl (by and_intros<;>trivial)) ?_
    refine gz ?_;refine ao (y119.2,[]) () hm ?_;exact ls
  ·rintro ⟨l7,l8⟩ _ hm;replace hm:cg fuel p1 y5 l7 l8=some r:=hm;refine bw ?_;unfold cg at hm;refine au [27,28,29] fun k kp hk hp=>?_;refine go ?_;refine ay (aB 3 rfl) ?_;refine gt ?_;obtain ⟨y9,hc6,hm⟩:=bd hm
   refine am (aJ (lit ([([40]:List UInt8)]:List (List UInt8))) (ae.mk l7 p1.end_ p1.open_ p1.terms)  _ hc6) [0] (by first|trivial|exact aA rfl) (by first|trivial|(intro _;first|trivial|simp [an])|simp [an]) (by simp) (by simp) rfl rfl (by first|trivial|(simp [bX,eK,eB,eS,eL,ar,ah,PV.under,CV.under,af,OB.under,ag];done)) (by first|trivial|(simp [bX,eK,eB,eS,eL,ar,ah,PV.under,CV.under,af,OB.under,ag];done)) ?_ ?_
   rotate_left
   ·rintro p σ' hpp hpl
    rcases y9 with y10|y11
    ·exact False.elim hpp
    simp only [Sum.elim_inl,Sum.elim_inr] at hm hpp;subst hpp;refine hp _ _ _ ?_;obtain rfl:=sI hm;exact rfl
   rintro p σ' hq7 _
   rcases y9 with y12|y13
   ·skip;simp only [Sum.elim_inl,Sum.elim_inr] at hm hq7
    obtain ⟨rfl,rfl⟩:=hq7;refine ab ?_;refine go ?_;refine hk _ _ ?_;clear hk hp k kp;refine bk (S:=((List aa)×(List aX))) (V:=Unit) [30,31,32,33,34,35,36,37,38] (fun (l14,l15) _=>[]) (fun (l14,l15) _=>[.box [.tree 4 (l14.map aa.enc),.int .i64 p1.end_,.int .i64 p1.open_,.int .i64 p1.terms],.box [.str [],.int .i64 0,.nils,.nils,.nils,.nils,.nils],.box [.str y5.1,.int .i64 ((p1.l.getD 0 default).at_),.tree 1 (l8.map eS),.tree 3 (l15.map aX.enc),.nils,.nils,.nils],.dead]) (fun (l14,l15)=>ce fuel p1 y5 l8 l14 l15=some r) ?_ ?_
    ·skip;refine au [30,31,32] fun k kp hk hp=>?_
     refine go ?_;refine ay (aB 4 rfl) ?_;refine gt ?_;obtain ⟨y113,hc47,hm⟩:=bd hm;refine RA (aD (lit ([([41]:List UInt8)]:List (List UInt8))) (ae.mk y12 p1.end_ p1.open_ p1.terms)  _ hc47) [0] ?_;rintro p σ' ⟨rfl,rfl⟩ _;refine ab ?_;refine go ?_;refine hk _ _ ?_;clear hk hp k kp
     by_cases h49:y113=true
     ·rw [iP h49] at hm;refine ak rfl (by rw [show y113=true from (h49)];rfl) ?_;refine av ?_
      refine kU (fa 2 [.str y5.1,.int .i64 ((p1.l.getD 0 default).at_),.tree 1 (l8.map eS),.tree 3 [],.nils,.nils,.nils] rfl (by and_intros<;>trivial)) ?_
      refine gz ?_;refine ao (y12,[]) () hm ?_;exact ls
     ·rw [iN h49] at hm;refine aj rfl (by rw [show y113=false from (fB h49)];rfl) ?_;refine bf fun k kp hk hp=>?_;refine go ?_;obtain ⟨y114,hc50,hm⟩:=bd hm
      refine am (hM 30 (ae.mk y12 p1.end_ p1.open_ p1.terms)  _ hc50) [0] (by first|trivial|exact aA rfl) (by first|trivial|(intro _;first|trivial|simp [an])|simp [an]) (by simp) (by simp) rfl rfl (by first|trivial|(simp [bX,eK,eB,eS,eL,ar,ah,PV.under,CV.under,af,OB.under,ag];done)) (by first|trivial|(simp [bX,eK,eB,eS,eL,ar,ah,PV.under,CV.under,af,OB.under,ag];done)) ?_ ?_
      rotate_left
      ·rintro p σ' hpp hpl
       rcases y114 with y115|y116
       ·exact False.elim hpp
       simp only [Sum.elim_inl,Sum.elim_inr] at hm hpp;subst hpp;refine hp _ _ _ ?_;refine be ?_;obtain rfl:=sI hm;exact rfl
      rintro p σ' hq51 _
      rcases y114 with y117|y118
      ·skip;simp only [Sum.elim_inl,Sum.elim_inr] at hm hq51
       obtain ⟨rfl,rfl⟩:=hq51;refine ab ?_;refine go ?_;refine hk _ _ ?_;clear hk hp k kp;refine ao (y117.2,y117.1) () hm ?_;exact ls
      ·skip;exact False.elim hq51
    ·rintro ⟨l14,l15⟩ _ hm;replace hm:ce fuel p1 y5 l8 l14 l15=some r:=hm;refine bw ?_;unfold ce at hm;refine au [39,40,41] fun k kp hk hp=>?_;refine go ?_;refine ay (aB 4 rfl) ?_;refine gt ?_;obtain ⟨y16,hc8,hm⟩:=bd hm
     refine am (aJ (lit ([([41]:List UInt8),([45,62]:List UInt8),([40]:List UInt8)]:List (List UInt8))) (ae.mk l14 p1.end_ p1.open_ p1.terms)  _ hc8) [0] (by first|trivial|exact aA rfl) (by first|trivial|(intro _;first|trivial|simp [an])|simp [an]) (by simp) (by simp) rfl rfl (by first|trivial|(simp [bX,eK,eB,eS,eL,ar,ah,PV.under,CV.under,af,OB.under,ag];done)) (by first|trivial|(simp [bX,eK,eB,eS,eL,ar,ah,PV.under,CV.under,af,OB.under,ag];done)) ?_ ?_
     rotate_left
     ·rintro p σ' hpp hpl
      rcases y16 with y17|y18
      ·exact False.elim hpp
      simp only [Sum.elim_inl,Sum.elim_inr] at hm hpp;subst hpp;refine hp _ _ _ ?_;obtain rfl:=sI hm;exact rfl
     rintro p σ' hq9 _
     rcases y16 with y19|y20
     ·skip;simp only [Sum.elim_inl,Sum.elim_inr] at hm hq9
      obtain ⟨rfl,rfl⟩:=hq9;refine ab ?_;refine go ?_;refine hk _ _ ?_;clear hk hp k kp;refine au [42,43,44,45,46] fun k kp hk hp=>?_;refine go ?_;obtain ⟨y21,hc10,hm⟩:=bd hm
      refine am (hM 30 (ae.mk y19 p1.end_ p1.open_ p1.terms)  _ hc10) [0] (by first|trivial|exact aA rfl) (by first|trivial|(intro _;first|trivial|simp [an])|simp [an]) (by simp) (by simp) rfl rfl (by first|trivial|(simp [bX,eK,eB,eS,eL,ar,ah,PV.under,CV.under,af,OB.under,ag];done)) (by first|trivial|(simp [bX,eK,eB,eS,eL,ar,ah,PV.under,CV.under,af,OB.under,ag];done)) ?_ ?_
      rotate_left
      ·rintro p σ' hpp hpl
       rcases y21 with y22|y23
       ·exact False.elim hpp
       simp only [Sum.elim_inl,Sum.elim_inr] at hm hpp;subst hpp;refine hp _ _ _ ?_;obtain rfl:=sI hm;exact rfl
      rintro p σ' hq11 _
      rcases y21 with y24|y25
      ·skip;simp only [Sum.elim_inl,Sum.elim_inr] at hm hq11
       obtain ⟨rfl,rfl⟩:=hq11;refine ab ?_;refine go ?_;refine hk _ _ ?_;clear hk hp k kp;refine au [47,48,49] fun k kp hk hp=>?_;refine go ?_;refine ay (aB 5 rfl) ?_;refine gt ?_;obtain ⟨y26,hc12,hm⟩:=bd hm
       refine am (aJ (lit ([([41]:List UInt8),([123]:List UInt8)]:List (List UInt8))) (ae.mk y24.2 p1.end_ p1.open_ p1.terms)  _ hc12) [0] (by first|trivial|exact aA rfl) (by first|trivial|(intro _;first|trivial|simp [an])|simp [an]) (by simp) (by simp) rfl rfl (by first|trivial|(simp [bX,eK,eB,eS,eL,ar,ah,PV.under,CV.under,af,OB.under,ag];done)) (by first|trivial|(simp [bX,eK,eB,eS,eL,ar,ah,PV.under,CV.under,af,OB.under,ag];done)) ?_ ?_
       rotate_left
       ·rintro p σ' hpp hpl
        rcases y26 with y27|y28
        ·exact False.elim hpp
        simp only [Sum.elim_inl,Sum.elim_inr] at hm hpp;subst hpp;refine hp _ _ _ ?_;obtain rfl:=sI hm;exact rfl
       rintro p σ' hq13 _
       rcases y26 with y29|y30
       ·skip;simp only [Sum.elim_inl,Sum.elim_inr] at hm hq13
        obtain ⟨rfl,rfl⟩:=hq13;refine ab ?_;refine go ?_;refine hk _ _ ?_;clear hk hp k kp;refine kj (i6 2 5 3 76 (by decide) rfl rfl) ?_;refine kj (i6 2 6 5 45 (by decide) rfl rfl) ?_;refine bk (S:=((List aa)×Int×Int×(List aX)×(List TEq))) (V:=(Nat×Nat)) [50,51,52,53,54,55,56,57,58,59,60,61,62,63,64,65,66,67,68,69,70,71,72,73,74,75,76,77,78,79,80,81,82,83,84,85,86,87,88,89,90,91,92,93,94,95,96,97,98,99,100,101,102,103,104,105,106,107,108,109,110] (fun (l35,x36,x37,l38,l40) (v39,v41)=>[]) (fun (l35,x36,x37,l38,l40) (v39,v41)=>[.box [.tree 4 (l35.map aa.enc),.int .i64 p1.end_,.int .i64 x36,.int .i64 x37],.box [.str [],.int .i64 0,.nils,.nils,.nils,.nils,.nils],.box [.str y5.1,.int .i64 ((p1.l.getD 0 default).at_),.tree 1 (l8.map eS),.tree 3 (l15.map aX.enc),.tree 3 (y24.1.map aX.enc),.osl 6 v39 0 l38.length,.osl 7 v41 0 l40.length],.dead,.dead,.dead,.arr 3 v39 76 (l38.map aX.enc),.arr 5 v41 45 (l40.map TEq.enc)]) (fun (l35,x36,x37,l38,l40)=>cb p1 y5 l8 l15 y24 l35 x36 x37 l38 l40=some r) ?_ ?_
        ·skip;refine aY ?_
         obtain ⟨o1,hl1,hm1⟩:=bd hm;refine dB (S:=((List aa)×Int×Int×(List aX)×(List TEq))) (V:=(Nat×Nat)) (O:=((List aa)×Int×Int×(List aX)×(List TEq)) ⊕ ((cC×(List aa)×Int×Int) ⊕ (Int×Int))) [50,51,52,53,54,55,56,57,58,59,60,61,62,63,64,65,66,67,68,69,70,71,72,73,74,75,76,77,78,79,80,81,82,83,84,85,86,87,88,89,90,91,92,93,94,95,96,97,98,99,100,101,102,103,104,105,106,107,108,109,110] (fun (l69,x70,x71,l72,l74) (v73,v75)=>[]) (fun (l69,x70,x71,l72,l74) (v73,v75)=>[.box [.tree 4 (l69.map aa.enc),.int .i64 p1.end_,.int .i64 x70,.int .i64 x71],.box [.str [],.int .i64 0,.nils,.nils,.nils,.nils,.nils],.box [.str y5.1,.int .i64 ((p1.l.getD 0 default).at_),.tree 1 (l8.map eS),.tree 3 (l15.map aX.enc),.tree 3 (y24.1.map aX.enc),.osl 6 v73 0 l72.length,.osl 7 v75 0 l74.length],.dead,.dead,.dead,.arr 3 v73 76 (l72.map aX.enc),.arr 5 v75 45 (l74.map TEq.enc)]) _ _ (0,0) hl1 ?_ ?_
         ·exact ls
         ·rintro ⟨l69,x70,x71,l72,l74⟩ ⟨v73,v75⟩ r1 hm hr1;replace hm:dk fuel p1 l69 x70 x71 l72 l74=some r1:=hm;refine bw ?_;unfold dk at hm;refine aR fun k1 hk1=>?_;refine au [50,51,52] fun k kp hk hp=>?_;refine go ?_;refine ay (aB 8 rfl) ?_;refine gt ?_;obtain ⟨y76,hc16,hm⟩:=bd hm;refine RA (aD (lit ([([125]:List UInt8)]:List (List UInt8))) (ae.mk l69 p1.end_ x70 x71)  _ hc16) [0] ?_;rintro p σ' ⟨rfl,rfl⟩ _;refine ab ?_;refine go ?_;refine hk _ _ ?_;clear hk hp k kp
          by_cases h18:y76=true
          ·rw [iP h18] at hm;refine ak rfl (by rw [show y76=true from (h18)];rfl) ?_;refine e7 ?_;have ho19:=a8 hm hr1;subst ho19;replace hm:cb p1 y5 l8 l15 y24 l69 x70 x71 l72 l74=some r:=hm1;refine eC (cM (bx ?_));refine ao (l69,x70,x71,l72,l74) (v73,v75) hm ?_;exact ls
          ·rw [iN h18] at hm;refine aj rfl (by rw [show y76=false from (fB h18)];rfl) ?_;refine av ?_;refine aL (hk1 _ _ ?_);refine aY ?_;refine bk (S:=((List aa)×Int×Int×(List aX)×(List TEq))) (V:=(Nat×Nat)) [53,54,55,56,57,58,59,60,61,62,63,64,65,66,67,68,69,70,71,72,73,74,75,76,77,78,79,80,81,82,83,84,85,86,87,88,89,90,91,92,93,94,95,96,97,98,99,100,101,102,103,104,105,106,107] (fun (l81,x82,x83,l84,l86) (v85,v87)=>[]) (fun (l81,x82,x83,l84,l86) (v85,v87)=>[.box [.tree 4 (l81.map aa.enc),.int .i64 p1.end_,.int .i64 x82,.int .i64 x83],.box [.str [],.int .i64 0,.nils,.nils,.nils,.nils,.nils],.box [.str y5.1,.int .i64 ((p1.l.getD 0 default).at_),.tree 1 (l8.map eS),.tree 3 (l15.map aX.enc),.tree 3 (y24.1.map aX.enc),.osl 6 v85 0 l84.length,.osl 7 v87 0 l86.length],.dead,.dead,.dead,.arr 3 v85 76 (l84.map aX.enc),.arr 5 v87 45 (l86.map TEq.enc),.dead]) (fun (l81,x82,x83,l84,l86)=>cd p1 l81 x82 x83 l84 l86=some r1) ?_ ?_
           ·skip;refine au [53,54] fun k kp hk hp=>?_
            refine go ?_;obtain ⟨y93,hc23,hm⟩:=bd hm;refine RA (bB ([118,97,114]:List UInt8) (ae.mk l69 p1.end_ x70 x71)  _ hc23) [0] ?_;rintro p σ' ⟨rfl,rfl⟩ _;refine ab ?_;refine go ?_;refine hk _ _ ?_;clear hk hp k kp
            by_cases h25:y93.1=true
            ·rw [iP h25] at hm;refine aj rfl (h25) ?_;refine aR fun k2 hk2=>?_;refine ax [55,56,57,58] ?_
             by_cases h26:(l72.length:Int)=30
             ·rw [iP h26] at hm;refine aj rfl (eQ h26) ?_;refine bf fun k kp hk hp=>?_;refine go ?_;obtain ⟨y94,hc27,hm⟩:=bd hm
              refine am (aI 7 (ae.mk y93.2 p1.end_ x70 x71)  _ hc27) [0] (by first|trivial|exact aA rfl) (by first|trivial|(intro _;first|trivial|simp [an])|simp [an]) (by simp) (by simp) rfl rfl (by first|trivial|(simp [bX,eK,eB,eS,eL,ar,ah,PV.under,CV.under,af,OB.under,ag];done)) (by first|trivial|(simp [bX,eK,eB,eS,eL,ar,ah,PV.under,CV.under,af,OB.under,ag];done)) ?_ ?_
              rotate_left
              ·rintro p σ' hpp hpl;skip;subst hpp;have ho29:=a8 hm hr1;subst ho29;replace hm:some (.inr (y94.1,y94.2))=some r:=hm1;refine hp _ _ _ ?_;refine bN ?_;refine be ?_;refine aP ?_;refine cm ?_;refine aP ?_;refine be ?_;obtain rfl:=sI hm;exact rfl
              rintro p σ' hq28 _;exact False.elim hq28
             ·rw [iN h26] at hm;refine ak rfl (nB h26) ?_;refine av ?_;refine aL (hk2 _ _ ?_);obtain ⟨y95,hc30,hm⟩:=bd hm
              rcases y95 with y96|y97
              ·skip;simp only [Sum.elim_inl,Sum.elim_inr] at hm
               refine lV (by kernel_rfl) [0] [0,1,0,4,12,31,63,127] [false,false,false,false,false,true,true,true] [false,false,false,true,false,false,false,false] [[3],[62],[],[],[],[],[],[]] (by kernel_rfl) fun k hk=>?_;refine gp ?_
               refine dm (σ2:=[.box [.tree 4 (y96.2.map aa.enc),.int .i64 p1.end_,.int .i64 x70,.int .i64 x71],.box [.str [],.int .i64 0,.nils,.nils,.nils,.nils,.nils],.box [.str y5.1,.int .i64 ((p1.l.getD 0 default).at_),.tree 1 (l8.map eS),.tree 3 (l15.map aX.enc),.tree 3 (y24.1.map aX.enc),.osl 6 v73 0 l72.length,.osl 7 v75 0 l74.length],.dead,.dead,.dead,.arr 3 v73 76 (l72.map aX.enc),.arr 5 v75 45 (l74.map TEq.enc),.dead]) (res:=.a [.str ((y96.1).name),.int .u8 (((y96.1).t).elem),.tree 2 ((((y96.1).t).n).map aw.enc)]) ⟨_,_,_,_,[0],f8 (ae.mk y93.2 p1.end_ x70 x71)  _ hc30,by simp,by simp,by first|rfl|(simp [PV.ren,CV.ren,CV.ren0,cz,lit];omega),rfl,by first|trivial|(simp [bX,eK,eB,eS,eL,ar,ah,PV.under,CV.under,af,OB.under,ag];done),by first|trivial|(simp [bX,eK,eB,eS,eL,ar,ah,PV.under,CV.under,af,OB.under,ag];done),fun q τ hq _=>by obtain ⟨rfl,rfl⟩:=hq;exact ⟨rfl,rfl⟩,fun _ _ h=>False.elim h⟩ (by first|trivial|exact aA rfl) (by first|trivial|(intro _;first|trivial|simp [an])|simp [an]) ⟨rfl,by simp only [hP];and_intros<;>first|exact .inl rfl|exact .inr rfl|trivial⟩ ?_
               obtain ⟨⟨hg31ax,hg31ay⟩,hm⟩:=gd hm;refine gp ?_;refine hk _ _ ?_;clear hk k;refine ao (y96.2,x70,x71,(l72++(lit ([(aX.mk ((y96.1).name) ((y96.1).t))]:List aX))),l74) (v73+1,v75) hm ?_;exact ls
              ·skip;simp only [Sum.elim_inl,Sum.elim_inr] at hm
               refine lH 3 [] [false,false,false,false,false,true,true,true] [] _ rfl ?_;simp only [List.take_succ_cons,List.take_zero];refine ga ?_
               refine ⟨_,_,_,_,[0],f8 (ae.mk y93.2 p1.end_ x70 x71)  _ hc30,by simp,by simp,rfl,rfl,by first|trivial|(simp [bX,eK,eB,eS,eL,ar,ah,PV.under,CV.under,af,OB.under,ag];done),by first|trivial|(simp [bX,eK,eB,eS,eL,ar,ah,PV.under,CV.under,af,OB.under,ag];done),fun q τ h=>False.elim h,?_⟩
               rintro p σ' hpp hpl;simp only [Sum.elim_inl,Sum.elim_inr] at hpp;subst hpp;have ho32:=a8 hm hr1;subst ho32;replace hm:some (.inr (y97.1,y97.2))=some r:=hm1;refine be ?_;refine aP ?_;refine cm ?_;refine aP ?_;refine be ?_;obtain rfl:=sI hm;exact rfl
            ·rw [iN h25] at hm;refine ak rfl (fB h25) ?_;refine bk (S:=Unit) (V:=(Nat×Nat)) [55,69,70,71,72,73,74,75,76,77,78,79,80,81,82,83,84,85,86,87,88,89,90,91,92] (fun _ (v100,v101)=>[]) (fun _ (v100,v101)=>[.box [.tree 4 (y93.2.map aa.enc),.int .i64 p1.end_,.int .i64 x70,.int .i64 x71],.box [.str [],.int .i64 0,.nils,.nils,.nils,.nils,.nils],.box [.str y5.1,.int .i64 ((p1.l.getD 0 default).at_),.tree 1 (l8.map eS),.tree 3 (l15.map aX.enc),.tree 3 (y24.1.map aX.enc),.osl 6 v100 0 l72.length,.osl 7 v101 0 l74.length],.dead,.dead,.dead,.arr 3 v100 76 (l72.map aX.enc),.arr 5 v101 45 (l74.map TEq.enc),.dead]) (fun _=>bG fuel p1 x70 x71 l72 l74 y93=some r1) ?_ ?_
             ·skip;refine cR [55,69,70,71,72,73,74,75,76,77,78,79,80,81,82,83,84,85,86,87,88,89] fun k kp hk hp=>?_
              refine aq 7 ?_;refine go ?_
              by_cases h40:(y93.2.length:Int)>0
              ·rw [iP h40] at hm;have h40b:=dT h40;obtain ⟨hg41a,hm⟩:=gd hm;refine aq 10 ?_;refine gox (a2 (em aa.enc y93.2 0) h40b) ?_
               by_cases h42:((y93.2.getD 0 default).kind)=2
               ·rw [iP h42] at hm;have h42b:=eQ h42;refine ab ?_;refine gox (a2 h40b h42b) ?_;refine hk _ _ ?_;clear hk hp k kp
                by_cases h43:(l74.length:Int)=60
                ·rw [iP h43] at hm;refine aj rfl (eQ h43) ?_;refine bf fun k kp hk hp=>?_;refine go ?_;obtain ⟨y106,hc44,hm⟩:=bd hm
                 refine am (aI 7 (ae.mk y93.2 p1.end_ x70 x71)  _ hc44) [0] (by first|trivial|exact aA rfl) (by first|trivial|(intro _;first|trivial|simp [an])|simp [an]) (by simp) (by simp) rfl rfl (by first|trivial|(simp [bX,eK,eB,eS,eL,ar,ah,PV.under,CV.under,af,OB.under,ag];done)) (by first|trivial|(simp [bX,eK,eB,eS,eL,ar,ah,PV.under,CV.under,af,OB.under,ag];done)) ?_ ?_
                 rotate_left
                 ·rintro p σ' hpp hpl;skip;subst hpp;have ho46:=a8 hm hr1;subst ho46;replace hm:some (.inr (y106.1,y106.2))=some r:=hm1;refine hp _ _ _ ?_;refine be ?_;refine be ?_;refine aP ?_;refine cm ?_;refine aP ?_;refine be ?_;obtain rfl:=sI hm;exact rfl
                 rintro p σ' hq45 _;exact False.elim hq45
                ·rw [iN h43] at hm;refine ak rfl (nB h43) ?_;refine av ?_;refine ao () (v73,v75) hm ?_;exact ls
               ·rw [iN h42] at hm;have h42b:=nB h42;refine ab ?_;refine gox (a2 h40b h42b) ?_;refine hk _ _ ?_;clear hk hp k kp;refine ak rfl rfl ?_;refine av ?_;refine ao () (v73,v75) hm ?_;exact ls
              ·rw [iN h40] at hm;have h40b:=dF h40;refine ab ?_;refine gox h40b ?_;refine hk _ _ ?_;clear hk hp k kp;refine ak rfl rfl ?_;refine av ?_;refine ao () (v73,v75) hm ?_;exact ls
             ·rintro _ ⟨v100,v101⟩ hm;replace hm:bG fuel p1 x70 x71 l72 l74 y93=some r1:=hm;refine bw ?_;unfold bG at hm;refine aR fun k3 hk3=>?_;refine ax [93,94,95,96,97] ?_
              by_cases h33:(y93.2.length:Int)=0
              ·rw [iP h33] at hm;refine aj rfl (eQ h33) ?_;refine bf fun k kp hk hp=>?_;refine go ?_;obtain ⟨y102,hc34,hm⟩:=bd hm
               refine am (aI 4 (ae.mk y93.2 p1.end_ x70 x71)  _ hc34) [0] (by first|trivial|exact aA rfl) (by first|trivial|(intro _;first|trivial|simp [an])|simp [an]) (by simp) (by simp) rfl rfl (by first|trivial|(simp [bX,eK,eB,eS,eL,ar,ah,PV.under,CV.under,af,OB.under,ag];done)) (by first|trivial|(simp [bX,eK,eB,eS,eL,ar,ah,PV.under,CV.under,af,OB.under,ag];done)) ?_ ?_
               rotate_left
               ·rintro p σ' hpp hpl;skip;subst hpp;have ho36:=a8 hm hr1;subst ho36;replace hm:some (.inr (y102.1,y102.2))=some r:=hm1;refine hp _ _ _ ?_;refine bN ?_;refine be ?_;refine aP ?_;refine cm ?_;refine aP ?_;refine be ?_;obtain rfl:=sI hm;exact rfl
               rintro p σ' hq35 _;exact False.elim hq35
              ·rw [iN h33] at hm;refine ak rfl (nB h33) ?_;refine av ?_;refine aL (hk3 _ _ ?_);obtain ⟨y103,hc37,hm⟩:=bd hm
               rcases y103 with y104|y105
               ·skip;simp only [Sum.elim_inl,Sum.elim_inr] at hm
                refine lV (by kernel_rfl) [0] [0,1,0,4,12,31,63,127] [false,false,false,false,false,true,true,true] [false,false,false,true,false,false,false,false] [[3],[101],[],[],[],[],[],[]] (by kernel_rfl) fun k hk=>?_;refine gp ?_
                refine dm (σ2:=[.box [.tree 4 (y104.2.1.map aa.enc),.int .i64 p1.end_,.int .i64 y104.2.2.1,.int .i64 y104.2.2.2],.box [.str [],.int .i64 0,.nils,.nils,.nils,.nils,.nils],.box [.str y5.1,.int .i64 ((p1.l.getD 0 default).at_),.tree 1 (l8.map eS),.tree 3 (l15.map aX.enc),.tree 3 (y24.1.map aX.enc),.osl 6 v100 0 l72.length,.osl 7 v101 0 l74.length],.dead,.dead,.dead,.arr 3 v100 76 (l72.map aX.enc),.arr 5 v101 45 (l74.map TEq.enc),.dead]) (res:=.a [.int .i64 ((y104.1).at_),.tree 1 (((y104.1).names).map eS),.str ((y104.1).node),.tree 1 (((y104.1).s).map (eL 2 aw.enc)),.tree 6 (((y104.1).e).map ai.enc)]) ⟨_,_,_,_,[0],iI fuel (ae.mk y93.2 p1.end_ x70 x71)  _ hc37,by simp,by simp,by first|rfl|(simp [PV.ren,CV.ren,CV.ren0,cz,lit];omega),rfl,by first|trivial|(simp [bX,eK,eB,eS,eL,ar,ah,PV.under,CV.under,af,OB.under,ag];done),by first|trivial|(simp [bX,eK,eB,eS,eL,ar,ah,PV.under,CV.under,af,OB.under,ag];done),fun q τ hq _=>by obtain ⟨rfl,rfl⟩:=hq;exact ⟨rfl,rfl⟩,fun _ _ h=>False.elim h⟩ (by first|trivial|exact aA rfl) (by first|trivial|(intro _;first|trivial|simp [an])|simp [an]) ⟨rfl,by simp only [hP];and_intros<;>first|exact .inl rfl|exact .inr rfl|trivial⟩ ?_
                obtain ⟨⟨hg38ax,hg38ay⟩,hm⟩:=gd hm;refine gp ?_;refine hk _ _ ?_;clear hk k;refine ao (y104.2.1,y104.2.2.1,y104.2.2.2,l72,(l74++(lit ([(y104.1)]:List TEq)))) (v100,v101+1) hm ?_;exact ls
               ·skip;simp only [Sum.elim_inl,Sum.elim_inr] at hm
                refine lH 3 [] [false,false,false,false,false,true,true,true] [] _ rfl ?_;simp only [List.take_succ_cons,List.take_zero];refine ga ?_
                refine ⟨_,_,_,_,[0],iI fuel (ae.mk y93.2 p1.end_ x70 x71)  _ hc37,by simp,by simp,rfl,rfl,by first|trivial|(simp [bX,eK,eB,eS,eL,ar,ah,PV.under,CV.under,af,OB.under,ag];done),by first|trivial|(simp [bX,eK,eB,eS,eL,ar,ah,PV.under,CV.under,af,OB.under,ag];done),fun q τ h=>False.elim h,?_⟩
                rintro p σ' hpp hpl;simp only [Sum.elim_inl,Sum.elim_inr] at hpp;subst hpp;have ho39:=a8 hm hr1;subst ho39;replace hm:some (.inr (y105.1,y105.2))=some r:=hm1;refine be ?_;refine aP ?_;refine cm ?_;refine aP ?_;refine be ?_;obtain rfl:=sI hm;exact rfl
           ·rintro ⟨l81,x82,x83,l84,l86⟩ ⟨v85,v87⟩ hm;replace hm:cd p1 l81 x82 x83 l84 l86=some r1:=hm;refine bw ?_;unfold cd at hm;refine bf fun k kp hk hp=>?_;refine go ?_;refine ay (aB 9 rfl) ?_;refine gt ?_;obtain ⟨y88,hc20,hm⟩:=bd hm
            refine am (aJ (lit ([([59]:List UInt8)]:List (List UInt8))) (ae.mk l81 p1.end_ x82 x83)  _ hc20) [0] (by first|trivial|exact aA rfl) (by first|trivial|(intro _;first|trivial|simp [an])|simp [an]) (by simp) (by simp) rfl rfl (by first|trivial|(simp [bX,eK,eB,eS,eL,ar,ah,PV.under,CV.under,af,OB.under,ag];done)) (by first|trivial|(simp [bX,eK,eB,eS,eL,ar,ah,PV.under,CV.under,af,OB.under,ag];done)) ?_ ?_
            rotate_left
            ·rintro p σ' hpp hpl
             rcases y88 with y89|y90
             ·exact False.elim hpp
             simp only [Sum.elim_inl,Sum.elim_inr] at hm hpp;subst hpp;have ho22:=a8 hm hr1;subst ho22;replace hm:some (.inr (y90.1,y90.2))=some r:=hm1;refine hp _ _ _ ?_;refine aP ?_;refine cm ?_;refine aP ?_;refine be ?_;obtain rfl:=sI hm;exact rfl
            rintro p σ' hq21 _
            rcases y88 with y91|y92
            ·skip;simp only [Sum.elim_inl,Sum.elim_inr] at hm hq21
             obtain ⟨rfl,rfl⟩:=hq21;refine ab ?_;refine go ?_;refine hk _ _ ?_;clear hk hp k kp;refine ap ?_;refine aH (y91,x82,x83,l84,l86) (v85,v87) hm ?_;exact ls
            ·skip;exact False.elim hq21
        ·rintro ⟨l35,x36,x37,l38,l40⟩ ⟨v39,v41⟩ hm;replace hm:cb p1 y5 l8 l15 y24 l35 x36 x37 l38 l40=some r:=hm;refine bw ?_;unfold cb at hm;refine au [0,111,112] fun k kp hk hp=>?_;refine go ?_;obtain ⟨y42,hc14,hm⟩:=bd hm;refine RA (aO (ae.mk l35 p1.end_ x36 x37)  _ hc14) [0] ?_;rintro p σ' ⟨rfl,rfl⟩ _;refine ab ?_;refine go ?_;refine hk _ _ ?_;clear hk hp k kp;refine ax [3,113] ?_;refine kj (aB 6 rfl) ?_;refine kj (aB 7 rfl) ?_;refine aM ?_
         cases hm
         exact kr 1
       ·skip;exact False.elim hq13
      ·skip;exact False.elim hq11
     ·skip;exact False.elim hq9
   ·skip;exact False.elim hq7
 ·skip;exact False.elim hq5
theorem iD(fuel:Nat)(p1:List UInt8)(r:(cN×bl))(hm:e9 fuel p1=some r):eU Tryd.prog 5 [.c (.str p1)] (.t [.a [.tree 7 (((r.1).nodes).map cC.enc)],.a [.int .i64 ((r.2).code),.int .i64 ((r.2).at_)]]):=by
 refine ck.drop (pI (hf:=Tryd.func5) 55 [.cell 2 25,.cell 3 27] 2 3 16 _ [_,_,_] rfl rfl rfl (by kernel_rfl) (by simp) rfl rfl rfl rfl rfl rfl rfl rfl (⟨⟨_,_,_,_,_,Tryd.func8,rfl,rfl,rfl,by kernel_rfl,rfl,rfl,rfl,rfl,rfl,rfl,rfl,rfl⟩,by decide,by decide,by decide,by decide,by decide⟩:Clo Tryd.prog 8 _ 18 5 2) ?_ ?_)
 ·skip;intro σ0
  refine gg (by simp only [Env.ofList,bE,Nat.reduceDiv,Nat.reduceMod,Nat.reduceLT,Nat.reduceLeDiff,Nat.reduceAdd,Nat.reduceSub,Nat.reduceMul,Nat.reduceEqDiff,Nat.reduceBEq,Nat.reduceBNe,Nat.reduceGT,Int.reduceToNat];rfl) rfl ?_;refine cR [5,6] fun k kp hk hp=>?_;refine aq 1 ?_;refine go ?_
  refine RS (qX rfl (by first|exact .inl rfl|exact .inr rfl) (by first|rfl|(simp only [bR,bT,tab,bX,reduceIte,↓reduceIte,reduceCtorEq,Int.reduceToNat,Nat.reduceDiv,Nat.reduceMod,Nat.reduceLT,Nat.reduceLeDiff,Nat.reduceAdd,Nat.reduceSub,Nat.reduceMul,Nat.reduceEqDiff,Nat.reduceBEq,Nat.reduceBNe,Nat.reduceGT];done)) (by first|kernel_rfl|exact of_decide_eq_true (by kernel_rfl))) ?_
  simp only [bR,bT,tab,bX,reduceIte,↓reduceIte,reduceCtorEq,Int.reduceToNat,Nat.reduceDiv,Nat.reduceMod,Nat.reduceLT,Nat.reduceLeDiff,Nat.reduceAdd,Nat.reduceSub,Nat.reduceMul,Nat.reduceEqDiff,Nat.reduceBEq,Nat.reduceBNe,Nat.reduceGT];refine ab ?_;refine go ?_;refine hk _ _ ?_;clear hk hp k kp;refine ak rfl rfl ?_;refine av ?_;exact qW rfl
 refine sG ?_;refine bJ ?_;unfold e9 at hm;refine cB ?_;refine sF (sG ?_);refine bf fun k kp hk hp=>?_;refine go ?_;obtain ⟨y1,hc1,hm⟩:=bd hm;refine RP (fun _=>oe p1 _ hc1) ?_;refine ab ?_;refine go ?_;refine hk _ _ ?_;clear hk hp k kp;refine sF (sG ?_);refine ax [6,7,8,9,10,11,12] ?_
 by_cases h2:¬ ((y1.2).code)=0
 ·rw [iP h2] at hm;refine aj rfl (bne_iff_ne.2 h2) ?_;refine km [0,4,13,14,15] (by kernel_rfl) [0] [0,0,1,7] [false,false,false,true] [false,false,true,false] [[],[3],[],[]] (by kernel_rfl) fun k hk=>?_;refine gp ?_;refine hk _ _ ?_;clear hk k
  refine eI (fa 0 [.tree 7 ([].map cC.enc)] rfl (by and_intros<;>trivial)) ?_
  refine gg rfl (by simp only [bZ,bL,reduceIte,↓reduceIte,reduceCtorEq,Int.reduceToNat,Nat.reduceDiv,Nat.reduceMod,Nat.reduceLT,Nat.reduceLeDiff,Nat.reduceAdd,Nat.reduceSub,Nat.reduceMul,Nat.reduceEqDiff,Nat.reduceBEq,Nat.reduceBNe,Nat.reduceGT];rfl) ?_;refine aM ?_;refine vF ?_
  cases hm
  exact kr 0
 ·rw [iN h2] at hm;refine ak rfl (bne_eq_false_iff_eq.2 (Decidable.not_not.1 h2)) ?_;refine av ?_;refine sF (vG ?_)
  refine ⟨0,1,rfl,rfl,of_decide_eq_true rfl,of_decide_eq_true rfl,of_decide_eq_true rfl,?_⟩
  refine mP ?_;refine ax [0,4,13,17,18,19,20,21] ?_;refine kj (i6 0 0 7 41 (by decide) rfl rfl) ?_;refine bk (S:=((List aa)×Int×Int×(List cC))) (V:=Nat) [5,22,23,24,25,26,27,28,29,30,31,32,33,34,35,36,37,38,39,40,41,42,43,44,45,46,47,48,49,50,51,52] (fun (l4,x5,x6,l7) v8=>[]) (fun (l4,x5,x6,l7) v8=>[.box [.osl 3 v8 0 l7.length],.box [.int .i64 ((y1.2).code),.int .i64 ((y1.2).at_)],.box [.tree 4 (l4.map aa.enc),.int .i64 (p1.length:Int),.int .i64 x5,.int .i64 x6],.arr 7 v8 41 (l7.map cC.enc)]) (fun (l4,x5,x6,l7)=>fm l4 x5 x6 l7=some r) ?_ ?_
  ·skip;refine aY ?_
   obtain ⟨o1,hl1,hm1⟩:=bd hm;refine dB (S:=((List aa)×Int×Int×(List cC))) (V:=Nat) (O:=((List aa)×Int×Int×(List cC)) ⊕ (cN×bl)) [22,23,24,25,26,27,28,29,30,31,32,33,34,35,36,37,38,39,40,41,42,43,44,45,46,47,48,49,50,51,52] (fun (l25,x26,x27,l28) v29=>[]) (fun (l25,x26,x27,l28) v29=>[.box [.osl 3 v29 0 l28.length],.box [.int .i64 ((y1.2).code),.int .i64 ((y1.2).at_)],.box [.tree 4 (l25.map aa.enc),.int .i64 (p1.length:Int),.int .i64 x26,.int .i64 x27],.arr 7 v29 41 (l28.map cC.enc)]) _ _ 0 hl1 ?_ ?_
   ·exact ls
   ·rintro ⟨l25,x26,x27,l28⟩ v29 r1 hm hr1;replace hm:fo fuel p1 l25 x26 x27 l28=some r1:=hm;refine bw ?_;unfold fo at hm;refine bk (S:=Unit) (V:=Nat) [22,23,24,25,26,27,28,29,30,31,32,33] (fun _ v31=>[]) (fun _ v31=>[.box [.osl 3 v31 0 l28.length],.box [.int .i64 ((y1.2).code),.int .i64 ((y1.2).at_)],.box [.tree 4 (l25.map aa.enc),.int .i64 (p1.length:Int),.int .i64 x26,.int .i64 x27],.arr 7 v31 41 (l28.map cC.enc)]) (fun _=>dU fuel p1 l25 x26 x27 l28=some r1) ?_ ?_
    ·skip;refine cR [22,23,24,25,26,27,28,29,30,31,32] fun k kp hk hp=>?_
     refine aq 7 ?_;refine go ?_
     by_cases h1516:(l25.length:Int)>0
     ·rw [iP h1516] at hm;have h1516b:=dT h1516;refine ab ?_;refine gox h1516b ?_;refine hk _ _ ?_;clear hk hp k kp;refine aj rfl rfl ?_;refine av ?_;refine ao () v29 hm ?_;exact ls
     ·rw [iN h1516] at hm;have h1516b:=dF h1516;refine ab ?_;refine gox h1516b ?_;refine hk _ _ ?_;clear hk hp k kp
      by_cases h1517:(l28.length:Int)=0
      ·rw [iP h1517] at hm;refine aj rfl (eQ h1517) ?_;refine av ?_;refine ao () v29 hm ?_;exact ls
      ·rw [iN h1517] at hm;refine ak rfl (nB h1517) ?_;refine e7 ?_;have ho1518:=a8 hm hr1;subst ho1518;replace hm:fm l25 x26 x27 l28=some r:=hm1;refine nE (cM (bx ?_));refine ao (l25,x26,x27,l28) v29 hm ?_;exact ls
    ·rintro _ v31 hm;replace hm:dU fuel p1 l25 x26 x27 l28=some r1:=hm;refine bw ?_;unfold dU at hm;refine aY ?_;refine aR fun k1 hk1=>?_;refine au [34,35,36] fun k kp hk hp=>?_;refine go ?_;refine ay (aB 4 rfl) ?_;refine gt ?_;obtain ⟨y32,hc3,hm⟩:=bd hm;refine RA (aD (lit ([([110,111,100,101]:List UInt8)]:List (List UInt8))) (ae.mk l25 (p1.length:Int) x26 x27)  _ hc3) [2] ?_;rintro p σ' ⟨rfl,rfl⟩ _;refine ab ?_;refine go ?_;refine hk _ _ ?_;clear hk hp k kp
     by_cases h5:y32=true
     ·rw [iP h5] at hm;refine ak rfl (by rw [show y32=true from (h5)];rfl) ?_;refine av ?_;refine aL (hk1 _ _ ?_);refine aR fun k2 hk2=>?_;refine ax [37,40,41,42] ?_
      by_cases h6:(l28.length:Int)=10
      ·rw [iP h6] at hm;refine aj rfl (eQ h6) ?_;refine bf fun k kp hk hp=>?_;refine go ?_;obtain ⟨y33,hc7,hm⟩:=bd hm
       refine am (aI 7 (ae.mk l25 (p1.length:Int) x26 x27)  _ hc7) [2] (by first|trivial|exact aA rfl) (by first|trivial|(intro _;first|trivial|simp [an])|simp [an]) (by simp) (by simp) rfl rfl (by first|trivial|(simp [bX,eK,eB,eS,eL,ar,ah,PV.under,CV.under,af,OB.under,ag];done)) (by first|trivial|(simp [bX,eK,eB,eS,eL,ar,ah,PV.under,CV.under,af,OB.under,ag];done)) ?_ ?_
       rotate_left
       ·rintro p σ' hpp hpl
        rcases σ' with _|⟨t0_,ts0_⟩
        ·simp at hpl
        skip;subst hpp
        refine hp _ _ _ ?_;refine bN ?_;refine aP ?_;refine cm ?_;refine aP ?_;refine be ?_
        try simp only [List.map_cons,cy,List.set_cons_zero,List.set_cons_succ,List.cons_append,List.nil_append]
        refine ⟨_,_,aB 3 rfl,?_⟩
        refine gz ?_
        refine ⟨[(2,.c (.optr 0 0)),(3,.c (.optr 1 0))],[.box [.tree 7 (l28.map cC.enc)],.box [.int .i64 ((y1.2).code),.int .i64 ((y1.2).at_)]],48,[(.i64,y33.1),(.i64,y33.2)],rfl,⟨by first|trivial|(simp [jo];done)|(and_intros<;>rfl),⟨_,by first|rfl|(simp only [List.map_cons,cy,List.set_cons_zero,List.set_cons_succ,List.cons_append,List.nil_append];rfl)⟩,of_decide_eq_true rfl,by first|trivial|(simp [bX,eK,eB,eS,eL,ar,ah,PV.under,CV.under,af,OB.under,ag];done),by first|trivial|(simp [ii,PV.under,CV.under];done)⟩,?_⟩
        refine gg (by simp only [Env.ofList,bE,Nat.reduceDiv,Nat.reduceMod,Nat.reduceLT,Nat.reduceLeDiff,Nat.reduceAdd,Nat.reduceSub,Nat.reduceMul,Nat.reduceEqDiff,Nat.reduceBEq,Nat.reduceBNe,Nat.reduceGT,Int.reduceToNat];rfl) rfl ?_;refine cR [5,6] fun k kp hk hp=>?_;refine aq 1 ?_;refine go ?_
        refine RS (mD rfl (by first|exact .inl rfl|exact .inr rfl) (by first|rfl|(simp only [bR,bT,tab,bX,reduceIte,↓reduceIte,reduceCtorEq,Int.reduceToNat,Nat.reduceDiv,Nat.reduceMod,Nat.reduceLT,Nat.reduceLeDiff,Nat.reduceAdd,Nat.reduceSub,Nat.reduceMul,Nat.reduceEqDiff,Nat.reduceBEq,Nat.reduceBNe,Nat.reduceGT];done)) (by first|kernel_rfl|exact of_decide_eq_true (by kernel_rfl))) ?_
        simp only [bR,bT,tab,bX,reduceIte,↓reduceIte,reduceCtorEq,Int.reduceToNat,Nat.reduceDiv,Nat.reduceMod,Nat.reduceLT,Nat.reduceLeDiff,Nat.reduceAdd,Nat.reduceSub,Nat.reduceMul,Nat.reduceEqDiff,Nat.reduceBEq,Nat.reduceBNe,Nat.reduceGT];refine ab ?_;refine go ?_;refine hk _ _ ?_;clear hk hp k kp;refine aj rfl rfl ?_;refine cR [7,8,9,10,11,12] fun k kp hk hp=>?_;refine aq 1 ?_;refine go ?_
        refine RS (lY (ns:=[(.i64,y33.1),(.i64,y33.2)]) [.int .i64 y33.1,.int .i64 y33.2] rfl rfl (by first|rfl|(simp only [bR,bT,tab,bX,reduceIte,↓reduceIte,reduceCtorEq,Int.reduceToNat,Nat.reduceDiv,Nat.reduceMod,Nat.reduceLT,Nat.reduceLeDiff,Nat.reduceAdd,Nat.reduceSub,Nat.reduceMul,Nat.reduceEqDiff,Nat.reduceBEq,Nat.reduceBNe,Nat.reduceGT];done)) (by first|kernel_rfl|exact of_decide_eq_true (by kernel_rfl))) ?_
        simp only [bR,bT,tab,bX,reduceIte,↓reduceIte,reduceCtorEq,Int.reduceToNat,Nat.reduceDiv,Nat.reduceMod,Nat.reduceLT,Nat.reduceLeDiff,Nat.reduceAdd,Nat.reduceSub,Nat.reduceMul,Nat.reduceEqDiff,Nat.reduceBEq,Nat.reduceBNe,Nat.reduceGT];refine ab ?_;refine go ?_;refine hk _ _ ?_;clear hk hp k kp;refine aR fun k503 hk503=>?_;refine ax [4,13] ?_;refine ak rfl rfl ?_;refine av ?_;refine aL (hk503 _ _ ?_);refine lV (by kernel_rfl) [0] [0,0,1,7] [false,false,false,true] [false,false,true,false] [[],[3],[],[]] (by kernel_rfl) fun k hk=>?_;refine gp ?_;refine hk _ _ ?_;clear hk k
        refine uy (fa 0 [.tree 7 ([].map cC.enc)] rfl (by and_intros<;>trivial)) ?_
        refine gz ?_;have ho509:=a8 hm hr1;subst ho509;replace hm:some ((cN.mk []),(bl.mk y33.1 y33.2))=some r:=hm1;refine qW (ql (lj [] ?_));obtain rfl:=sI hm
        simp only [Env.ofList,bF,bT,tab,bX,Sum.elim_inl,Sum.elim_inr,reduceIte,↓reduceIte,reduceCtorEq,Int.reduceToNat,Nat.reduceDiv,Nat.reduceMod,Nat.reduceLT,Nat.reduceLeDiff,Nat.reduceAdd,Nat.reduceSub,Nat.reduceMul,Nat.reduceEqDiff,Nat.reduceBEq,Nat.reduceBNe,Nat.reduceGT]<;>first|done|rfl|(and_intros<;>first|rfl|omega|(simp;done))
       rintro p σ' hq8 _;exact False.elim hq8
      ·rw [iN h6] at hm;refine ak rfl (nB h6) ?_;refine av ?_;refine aL (hk2 _ _ ?_);obtain ⟨y34,hc510,hm⟩:=bd hm
       rcases y34 with y35|y36
       ·skip;simp only [Sum.elim_inl,Sum.elim_inr] at hm
        refine lV (by kernel_rfl) [2] [0,1,0,4,12,31,63,127] [false,false,false,false,false,true,true,true] [false,false,false,true,false,false,false,false] [[2],[46],[],[],[],[],[],[]] (by kernel_rfl) fun k hk=>?_;refine gp ?_
        refine dm (σ2:=[.box [.osl 3 v31 0 l28.length],.box [.int .i64 ((y1.2).code),.int .i64 ((y1.2).at_)],.box [.tree 4 (y35.2.1.map aa.enc),.int .i64 (p1.length:Int),.int .i64 y35.2.2.1,.int .i64 y35.2.2.2],.arr 7 v31 41 (l28.map cC.enc),.dead]) (res:=.a [.str ((y35.1).name),.int .i64 ((y35.1).at_),.tree 1 (((y35.1).sizes).map eS),.tree 3 (((y35.1).in_).map aX.enc),.tree 3 (((y35.1).out_).map aX.enc),.tree 3 (((y35.1).local_).map aX.enc),.tree 5 (((y35.1).eqs).map TEq.enc)]) ⟨_,_,_,_,[2],ib fuel (ae.mk l25 (p1.length:Int) x26 x27)  _ hc510,by simp,by simp,by first|rfl|(simp [PV.ren,CV.ren,CV.ren0,cz,lit];omega),rfl,by first|trivial|(simp [bX,eK,eB,eS,eL,ar,ah,PV.under,CV.under,af,OB.under,ag];done),by first|trivial|(simp [bX,eK,eB,eS,eL,ar,ah,PV.under,CV.under,af,OB.under,ag];done),fun q τ hq _=>by obtain ⟨rfl,rfl⟩:=hq;exact ⟨rfl,rfl⟩,fun _ _ h=>False.elim h⟩ (by first|trivial|exact aA rfl) (by first|trivial|(intro _;first|trivial|simp [an])|simp [an]) ⟨rfl,by simp only [hP];and_intros<;>first|exact .inl rfl|exact .inr rfl|trivial⟩ ?_
        obtain ⟨⟨hg511ax,hg511ay⟩,hm⟩:=gd hm;refine gp ?_;refine hk _ _ ?_;clear hk k;refine ap ?_;refine aH (y35.2.1,y35.2.2.1,y35.2.2.2,(l28++(lit ([(y35.1)]:List cC)))) (v31+1) hm ?_;exact ls
       ·skip;simp only [Sum.elim_inl,Sum.elim_inr] at hm
        refine lH 3 [2,3] [false,false,false,false,false,true,true,true] [] _ rfl ?_;simp only [List.take_succ_cons,List.take_zero];refine ga ?_
        refine ⟨_,_,_,_,[2],ib fuel (ae.mk l25 (p1.length:Int) x26 x27)  _ hc510,by simp,by simp,rfl,rfl,by first|trivial|(simp [bX,eK,eB,eS,eL,ar,ah,PV.under,CV.under,af,OB.under,ag];done),by first|trivial|(simp [bX,eK,eB,eS,eL,ar,ah,PV.under,CV.under,af,OB.under,ag];done),fun q τ h=>False.elim h,?_⟩
        rintro p σ' hpp hpl
        rcases σ' with _|⟨t0_,ts0_⟩
        ·simp at hpl
        simp only [Sum.elim_inl,Sum.elim_inr] at hpp;subst hpp;refine aP ?_;refine cm ?_;refine aP ?_;refine be ?_
        try simp only [List.map_cons,cy,List.set_cons_zero,List.set_cons_succ,List.cons_append,List.nil_append]
        refine ⟨_,_,aB 3 rfl,?_⟩
        refine gz ?_
        refine ⟨[(2,.c (.optr 0 0)),(3,.c (.optr 1 0))],[.box [.tree 7 (l28.map cC.enc)],.box [.int .i64 ((y1.2).code),.int .i64 ((y1.2).at_)]],48,[(.i64,y36.1),(.i64,y36.2)],rfl,⟨by first|trivial|(simp [jo];done)|(and_intros<;>rfl),⟨_,by first|rfl|(simp only [List.map_cons,cy,List.set_cons_zero,List.set_cons_succ,List.cons_append,List.nil_append];rfl)⟩,of_decide_eq_true rfl,by first|trivial|(simp [bX,eK,eB,eS,eL,ar,ah,PV.under,CV.under,af,OB.under,ag];done),by first|trivial|(simp [ii,PV.under,CV.under];done)⟩,?_⟩
        refine gg (by simp only [Env.ofList,bE,Nat.reduceDiv,Nat.reduceMod,Nat.reduceLT,Nat.reduceLeDiff,Nat.reduceAdd,Nat.reduceSub,Nat.reduceMul,Nat.reduceEqDiff,Nat.reduceBEq,Nat.reduceBNe,Nat.reduceGT,Int.reduceToNat];rfl) rfl ?_;refine cR [5,6] fun k kp hk hp=>?_;refine aq 1 ?_;refine go ?_
        refine RS (mD rfl (by first|exact .inl rfl|exact .inr rfl) (by first|rfl|(simp only [bR,bT,tab,bX,reduceIte,↓reduceIte,reduceCtorEq,Int.reduceToNat,Nat.reduceDiv,Nat.reduceMod,Nat.reduceLT,Nat.reduceLeDiff,Nat.reduceAdd,Nat.reduceSub,Nat.reduceMul,Nat.reduceEqDiff,Nat.reduceBEq,Nat.reduceBNe,Nat.reduceGT];done)) (by first|kernel_rfl|exact of_decide_eq_true (by kernel_rfl))) ?_
        simp only [bR,bT,tab,bX,reduceIte,↓reduceIte,reduceCtorEq,Int.reduceToNat,Nat.reduceDiv,Nat.reduceMod,Nat.reduceLT,Nat.reduceLeDiff,Nat.reduceAdd,Nat.reduceSub,Nat.reduceMul,Nat.reduceEqDiff,Nat.reduceBEq,Nat.reduceBNe,Nat.reduceGT];refine ab ?_;refine go ?_;refine hk _ _ ?_;clear hk hp k kp;refine aj rfl rfl ?_;refine cR [7,8,9,10,11,12] fun k kp hk hp=>?_;refine aq 1 ?_;refine go ?_
        refine RS (lY (ns:=[(.i64,y36.1),(.i64,y36.2)]) [.int .i64 y36.1,.int .i64 y36.2] rfl rfl (by first|rfl|(simp only [bR,bT,tab,bX,reduceIte,↓reduceIte,reduceCtorEq,Int.reduceToNat,Nat.reduceDiv,Nat.reduceMod,Nat.reduceLT,Nat.reduceLeDiff,Nat.reduceAdd,Nat.reduceSub,Nat.reduceMul,Nat.reduceEqDiff,Nat.reduceBEq,Nat.reduceBNe,Nat.reduceGT];done)) (by first|kernel_rfl|exact of_decide_eq_true (by kernel_rfl))) ?_
        simp only [bR,bT,tab,bX,reduceIte,↓reduceIte,reduceCtorEq,Int.reduceToNat,Nat.reduceDiv,Nat.reduceMod,Nat.reduceLT,Nat.reduceLeDiff,Nat.reduceAdd,Nat.reduceSub,Nat.reduceMul,Nat.reduceEqDiff,Nat.reduceBEq,Nat.reduceBNe,Nat.reduceGT];refine ab ?_;refine go ?_;refine hk _ _ ?_;clear hk hp k kp;refine aR fun k1004 hk1004=>?_;refine ax [4,13] ?_;refine ak rfl rfl ?_;refine av ?_;refine aL (hk1004 _ _ ?_);refine lV (by kernel_rfl) [0] [0,0,1,7] [false,false,false,true] [false,false,true,false] [[],[3],[],[]] (by kernel_rfl) fun k hk=>?_;refine gp ?_;refine hk _ _ ?_;clear hk k
        refine uy (fa 0 [.tree 7 ([].map cC.enc)] rfl (by and_intros<;>trivial)) ?_
        refine gz ?_;have ho1012:=a8 hm hr1;subst ho1012;replace hm:some ((cN.mk []),(bl.mk y36.1 y36.2))=some r:=hm1;refine qW (ql (lj [] ?_));obtain rfl:=sI hm
        simp only [Env.ofList,bF,bT,tab,bX,Sum.elim_inl,Sum.elim_inr,reduceIte,↓reduceIte,reduceCtorEq,Int.reduceToNat,Nat.reduceDiv,Nat.reduceMod,Nat.reduceLT,Nat.reduceLeDiff,Nat.reduceAdd,Nat.reduceSub,Nat.reduceMul,Nat.reduceEqDiff,Nat.reduceBEq,Nat.reduceBNe,Nat.reduceGT]<;>first|done|rfl|(and_intros<;>first|rfl|omega|(simp;done))
     ·rw [iN h5] at hm;refine aj rfl (by rw [show y32=false from (fB h5)];rfl) ?_;refine bf fun k kp hk hp=>?_;refine go ?_;obtain ⟨y37,hc1013,hm⟩:=bd hm
      refine am (aI 4 (ae.mk l25 (p1.length:Int) x26 x27)  _ hc1013) [2] (by first|trivial|exact aA rfl) (by first|trivial|(intro _;first|trivial|simp [an])|simp [an]) (by simp) (by simp) rfl rfl (by first|trivial|(simp [bX,eK,eB,eS,eL,ar,ah,PV.under,CV.under,af,OB.under,ag];done)) (by first|trivial|(simp [bX,eK,eB,eS,eL,ar,ah,PV.under,CV.under,af,OB.under,ag];done)) ?_ ?_
      rotate_left
      ·rintro p σ' hpp hpl
       rcases σ' with _|⟨t0_,ts0_⟩
       ·simp at hpl
       skip;subst hpp
       refine hp _ _ _ ?_;refine bN ?_;refine aP ?_;refine cm ?_;refine aP ?_;refine be ?_
       try simp only [List.map_cons,cy,List.set_cons_zero,List.set_cons_succ,List.cons_append,List.nil_append]
       refine ⟨_,_,aB 3 rfl,?_⟩
       refine gz ?_
       refine ⟨[(2,.c (.optr 0 0)),(3,.c (.optr 1 0))],[.box [.tree 7 (l28.map cC.enc)],.box [.int .i64 ((y1.2).code),.int .i64 ((y1.2).at_)]],48,[(.i64,y37.1),(.i64,y37.2)],rfl,⟨by first|trivial|(simp [jo];done)|(and_intros<;>rfl),⟨_,by first|rfl|(simp only [List.map_cons,cy,List.set_cons_zero,List.set_cons_succ,List.cons_append,List.nil_append];rfl)⟩,of_decide_eq_true rfl,by first|trivial|(simp [bX,eK,eB,eS,eL,ar,ah,PV.under,CV.under,af,OB.under,ag];done),by first|trivial|(simp [ii,PV.under,CV.under];done)⟩,?_⟩
       refine gg (by simp only [Env.ofList,bE,Nat.reduceDiv,Nat.reduceMod,Nat.reduceLT,Nat.reduceLeDiff,Nat.reduceAdd,Nat.reduceSub,Nat.reduceMul,Nat.reduceEqDiff,Nat.reduceBEq,Nat.reduceBNe,Nat.reduceGT,Int.reduceToNat];rfl) rfl ?_;refine cR [5,6] fun k kp hk hp=>?_;refine aq 1 ?_;refine go ?_
       refine RS (mD rfl (by first|exact .inl rfl|exact .inr rfl) (by first|rfl|(simp only [bR,bT,tab,bX,reduceIte,↓reduceIte,reduceCtorEq,Int.reduceToNat,Nat.reduceDiv,Nat.reduceMod,Nat.reduceLT,Nat.reduceLeDiff,Nat.reduceAdd,Nat.reduceSub,Nat.reduceMul,Nat.reduceEqDiff,Nat.reduceBEq,Nat.reduceBNe,Nat.reduceGT];done)) (by first|kernel_rfl|exact of_decide_eq_true (by kernel_rfl))) ?_
       simp only [bR,bT,tab,bX,reduceIte,↓reduceIte,reduceCtorEq,Int.reduceToNat,Nat.reduceDiv,Nat.reduceMod,Nat.reduceLT,Nat.reduceLeDiff,Nat.reduceAdd,Nat.reduceSub,Nat.reduceMul,Nat.reduceEqDiff,Nat.reduceBEq,Nat.reduceBNe,Nat.reduceGT];refine ab ?_;refine go ?_;refine hk _ _ ?_;clear hk hp k kp;refine aj rfl rfl ?_;refine cR [7,8,9,10,11,12] fun k kp hk hp=>?_;refine aq 1 ?_;refine go ?_
       refine RS (lY (ns:=[(.i64,y37.1),(.i64,y37.2)]) [.int .i64 y37.1,.int .i64 y37.2] rfl rfl (by first|rfl|(simp only [bR,bT,tab,bX,reduceIte,↓reduceIte,reduceCtorEq,Int.reduceToNat,Nat.reduceDiv,Nat.reduceMod,Nat.reduceLT,Nat.reduceLeDiff,Nat.reduceAdd,Nat.reduceSub,Nat.reduceMul,Nat.reduceEqDiff,Nat.reduceBEq,Nat.reduceBNe,Nat.reduceGT];done)) (by first|kernel_rfl|exact of_decide_eq_true (by kernel_rfl))) ?_
       simp only [bR,bT,tab,bX,reduceIte,↓reduceIte,reduceCtorEq,Int.reduceToNat,Nat.reduceDiv,Nat.reduceMod,Nat.reduceLT,Nat.reduceLeDiff,Nat.reduceAdd,Nat.reduceSub,Nat.reduceMul,Nat.reduceEqDiff,Nat.reduceBEq,Nat.reduceBNe,Nat.reduceGT];refine ab ?_;refine go ?_;refine hk _ _ ?_;clear hk hp k kp;refine aR fun k1505 hk1505=>?_;refine ax [4,13] ?_;refine ak rfl rfl ?_;refine av ?_;refine aL (hk1505 _ _ ?_);refine lV (by kernel_rfl) [0] [0,0,1,7] [false,false,false,true] [false,false,true,false] [[],[3],[],[]] (by kernel_rfl) fun k hk=>?_;refine gp ?_;refine hk _ _ ?_;clear hk k
       refine uy (fa 0 [.tree 7 ([].map cC.enc)] rfl (by and_intros<;>trivial)) ?_
       refine gz ?_;have ho1515:=a8 hm hr1;subst ho1515;replace hm:some ((cN.mk []),(bl.mk y37.1 y37.2))=some r:=hm1;refine qW (ql (lj [] ?_));obtain rfl:=sI hm
       simp only [Env.ofList,bF,bT,tab,bX,Sum.elim_inl,Sum.elim_inr,reduceIte,↓reduceIte,reduceCtorEq,Int.reduceToNat,Nat.reduceDiv,Nat.reduceMod,Nat.reduceLT,Nat.reduceLeDiff,Nat.reduceAdd,Nat.reduceSub,Nat.reduceMul,Nat.reduceEqDiff,Nat.reduceBEq,Nat.reduceBNe,Nat.reduceGT]<;>first|done|rfl|(and_intros<;>first|rfl|omega|(simp;done))
      rintro p σ' hq1014 _;exact False.elim hq1014
  ·rintro ⟨l4,x5,x6,l7⟩ v8 hm;replace hm:fm l4 x5 x6 l7=some r:=hm;refine bw ?_;unfold fm at hm;refine ax [53,54] ?_;refine kj (aB 3 rfl) ?_;refine aM ?_;refine tp ?_
   cases hm
   exact kr 0
theorem lZ(fuel:Nat)(r:Bool)(hm:fW fuel  = some r):eU Tryd.prog 4 [] (.c (.bool r)):=by
 refine aN 51 [.tmp 0] Tryd.func4 rfl rfl rfl (by kernel_rfl) (by simp) ?_;refine bJ ?_;unfold fW at hm;refine ax [0] ?_;refine au [3,4,5,6] fun k kp hk hp=>?_;refine go ?_;obtain ⟨y1,hc1,hm⟩:=bd hm;refine RP (fun _=>iD fuel ([110,111,100,101,32,109,97,105,110,40,120,58,32,105,110,116,41,32,45,62,32,40,121,58,32,105,110,116,41,32,123,32,121,32,61,32,120,32,45,32,49,32,45,32,50,59,32,125]:List UInt8) _ hc1) ?_;refine ab ?_;refine go ?_;refine hk _ _ ?_;clear hk hp k kp;refine cR [1,2,7,8,9,10,11,12,13,14,15,16,17,18,19,20,21,22,23,24,25,26,27,28,29,30,31,32,33,34,35,36,37,38,39,40,41,42,43,44,45,46,47,48,49,50] fun k kp hk hp=>?_;refine aq 4 ?_;refine go ?_
 by_cases h2:((y1.2).code)=0
 ·rw [iP h2] at hm;have h2b:=eQ h2;refine aq 6 ?_;refine gox h2b ?_
  by_cases h3:(((y1.1).nodes).length:Int)=1
  ·rw [iP h3] at hm;have h3b:=eQ h3;obtain ⟨hg4a,hm⟩:=gd hm;refine aq 9 ?_;refine gox (a2 (em cC.enc ((y1.1).nodes) 0) (a2 h2b h3b)) ?_
   by_cases h5:(((((y1.1).nodes).getD 0 default).eqs).length:Int)=1
   ·rw [iP h5] at hm;have h5b:=eQ h5;obtain ⟨hg6a,hm⟩:=gd hm;refine aq 12 ?_;refine gox (a2 (em cC.enc ((y1.1).nodes) 0) (a2 (em TEq.enc ((((y1.1).nodes).getD 0 default).eqs) 0) (a2 h2b (a2 h3b h5b)))) ?_
    by_cases h7:(((((((y1.1).nodes).getD 0 default).eqs).getD 0 default).e).length:Int)=1
    ·rw [iP h7] at hm;have h7b:=eQ h7;obtain ⟨hg8a,hm⟩:=gd hm;refine ab ?_;refine gox (a2 (em cC.enc ((y1.1).nodes) 0) (a2 (em TEq.enc ((((y1.1).nodes).getD 0 default).eqs) 0) (a2 (em ai.enc ((((((y1.1).nodes).getD 0 default).eqs).getD 0 default).e) 0) (a2 h2b (a2 h3b (a2 h5b h7b)))))) ?_;refine hk _ _ ?_;clear hk hp k kp;refine aM ?_
     cases hm
     exact kr 0
    ·rw [iN h7] at hm;have h7b:=nB h7;refine ab ?_;refine gox (a2 h2b (a2 h3b (a2 h5b h7b))) ?_;refine hk _ _ ?_;clear hk hp k kp;refine aM ?_
     cases hm
     exact kr 0
   ·rw [iN h5] at hm;have h5b:=nB h5;refine ab ?_;refine gox (a2 h2b (a2 h3b h5b)) ?_;refine hk _ _ ?_;clear hk hp k kp;refine aM ?_
    cases hm
    exact kr 0
  ·rw [iN h3] at hm;have h3b:=nB h3;refine ab ?_;refine gox (a2 h2b h3b) ?_;refine hk _ _ ?_;clear hk hp k kp;refine aM ?_
   cases hm
   exact kr 0
 ·rw [iN h2] at hm;have h2b:=nB h2;refine ab ?_;refine gox h2b ?_;refine hk _ _ ?_;clear hk hp k kp;refine aM ?_
  cases hm
  exact kr 0
theorem kZ(p1 p2:Int)(r:bl)(hm:mQ p1 p2=some r):eU Tryd.prog 12 [.c (.int .i64 p1),.c (.int .i64 p2)] (.a [.int .i64 ((r).code),.int .i64 ((r).at_)]):=by
 refine aN 8 [.cell 4 27] Tryd.func12 rfl rfl rfl (by kernel_rfl) (by simp) ?_;refine bJ ?_;unfold mQ at hm;refine ax [] ?_;refine ax [0,1,5,6,7] ?_;refine aM ?_
 cases hm
 exact kr 0
theorem mt(p1:Int)(r:Bool)(hm:jP p1=some r):eU Tryd.prog 13 [.c (.int .u8 p1)] (.c (.bool r)):=by
 refine aN 9 [.tmp 2] Tryd.func13 rfl rfl rfl (by kernel_rfl) (by simp) ?_;refine bJ ?_;unfold jP at hm;refine ax [2] ?_
 by_cases h1:p1≥97
 ·rw [iP h1] at hm;have h1b:=dT h1;refine gG h1b [0,3,4,5,6,7,8] ?_;refine aM ?_
  cases hm
  exact kr 0
 ·rw [iN h1] at hm;have h1b:=dF h1;refine gG h1b [0,3,4,5,6,7,8] ?_;refine aM ?_
  cases hm
  exact kr 0
theorem kx(p1:Int)(r:Bool)(hm:iQ p1=some r):eU Tryd.prog 16 [.c (.int .u8 p1)] (.c (.bool r)):=by
 refine aN 9 [.tmp 2] Tryd.func16 rfl rfl rfl (by kernel_rfl) (by simp) ?_;refine bJ ?_;unfold iQ at hm;refine ax [2] ?_
 by_cases h1:p1≥48
 ·rw [iP h1] at hm;have h1b:=dT h1;refine gG h1b [0,3,4,5,6,7,8] ?_;refine aM ?_
  cases hm
  exact kr 0
 ·rw [iN h1] at hm;have h1b:=dF h1;refine gG h1b [0,3,4,5,6,7,8] ?_;refine aM ?_
  cases hm
  exact kr 0
theorem mR(p1:List UInt8)(p2 r:Int)(hm:jQ p1 p2=some r):eU Tryd.prog 14 [.c (.str p1),.c (.int .i64 p2)] (.c (.int .i64 r)):=by
 refine aN 24 [.tmp 4] Tryd.func14 rfl rfl rfl (by kernel_rfl) (by simp) ?_;refine bJ ?_;unfold jQ at hm;refine ax [4] ?_;refine bk (S:=Int) (V:=Unit) [0,1,5,6,7,8,9,10,11,12,13,14,15,16,17,18,19,20,21,22] (fun x1 _=>[(1,.c (.int .i64 x1))]) (fun x1 _=>[]) (fun x1=>gQ x1=some r) ?_ ?_
 ·skip;refine aY ?_
  obtain ⟨o1,hl1,hm1⟩:=bd hm;refine dB (S:=Int) (V:=Unit) (O:=Int) [1,5,6,7,8,9,10,11,12,13,14,15,16,17,18,19,20,21,22] (fun x4 _=>[(1,.c (.int .i64 x4))]) (fun x4 _=>[]) _ _ () hl1 ?_ ?_
  ·exact ls
  ·rintro x4 _ r1 hm hr1;replace hm:gn p1 x4=some r1:=hm;refine bw ?_;unfold gn at hm;refine aR fun k1 hk1=>?_;refine cR [5,6,7,8,9,10,11,12,13,14,15,16,17,18,19] fun k kp hk hp=>?_;refine aq 5 ?_;refine go ?_
   by_cases h1:x4<(p1.length:Int)
   ·rw [iP h1] at hm;have h1b:=dT h1;obtain ⟨hg2a,hm⟩:=gd hm;refine ab ?_;refine gox h1b ?_;obtain ⟨y5,hc3,hm⟩:=bd hm;refine RP (fun _=>mt ((p1.getD x4.toNat 0).toNat:Int) _ hc3) ?_
    by_cases h4:y5=true
    ·rw [iP h4] at hm;have h4b:=h4;refine ab ?_;refine gox (a2 h1b h4b) ?_;refine hk _ _ ?_;clear hk hp k kp;refine aj rfl rfl ?_;refine av ?_;refine aL (hk1 _ _ ?_);refine aY ?_;refine cB ?_;refine ap ?_;refine aH (IntKind.wrap .i64 (x4+1)) () hm ?_;exact la
    ·rw [iN h4] at hm;have h4b:=fB h4;refine ab ?_;refine gox (a2 h1b h4b) ?_;obtain ⟨y6,hc5,hm⟩:=bd hm;refine RP (fun _=>kx ((p1.getD x4.toNat 0).toNat:Int) _ hc5) ?_;refine ab ?_;refine gox (a2 h1b h4b) ?_;refine hk _ _ ?_;clear hk hp k kp
     by_cases h6:y6=true
     ·rw [iP h6] at hm;refine aj rfl (h6) ?_;refine av ?_;refine aL (hk1 _ _ ?_);refine aY ?_;refine cB ?_;refine ap ?_;refine aH (IntKind.wrap .i64 (x4+1)) () hm ?_;exact la
     ·rw [iN h6] at hm;refine ak rfl (fB h6) ?_;refine e7 ?_;have ho7:=a8 hm hr1;subst ho7;replace hm:gQ x4=some r:=hm1;refine eC (cM (bx ?_));refine ao x4 () hm ?_;exact la
   ·rw [iN h1] at hm;have h1b:=dF h1;refine ab ?_;refine gox h1b ?_;refine hk _ _ ?_;clear hk hp k kp;refine ak rfl rfl ?_;refine e7 ?_;have ho8:=a8 hm hr1;subst ho8;replace hm:gQ x4=some r:=hm1;refine eC (cM (bx ?_));refine ao x4 () hm ?_;exact ls
 ·rintro x1 _ hm;replace hm:gQ x1=some r:=hm;refine bw ?_;unfold gQ at hm;refine ax [1,23] ?_;refine aM ?_
  cases hm
  exact kr 0
theorem oh(p1:List UInt8)(r:Bool)(hm:i8 p1=some r):eU Tryd.prog 15 [.c (.str p1)] (.c (.bool r)):=by
  refine aN 18 [.tmp 2] Tryd.func15 rfl rfl rfl (by kernel_rfl) (by simp) ?_;refine gg (by simp only [fJ,Env.ofList,List.length_nil,List.length_cons,bE,Nat.reduceDiv,Nat.reduceMod,Nat.reduceLT,Nat.reduceLeDiff,Nat.reduceAdd,Nat.reduceSub,Nat.reduceMul,Nat.reduceEqDiff,Nat.reduceBEq,Nat.reduceBNe,Nat.reduceGT,Int.reduceToNat];rfl) rfl ?_;unfold i8 at hm;refine au [2] fun k kp hk hp=>?_;simp only [bR,bT,tab,bX,reduceIte,↓reduceIte,reduceCtorEq,Int.reduceToNat,Nat.reduceDiv,Nat.reduceMod,Nat.reduceLT,Nat.reduceLeDiff,Nat.reduceAdd,Nat.reduceSub,Nat.reduceMul,Nat.reduceEqDiff,Nat.reduceBEq,Nat.reduceBNe,Nat.reduceGT]
  repeat refine ⟨by first|omega|assumption|decide|exact aU fun _=>rfl|(intro _;omega)|rfl|exact fun e=>absurd (List.map_eq_nil_iff.1 e) (by assumption)|(and_intros<;>first|omega|assumption|decide|exact aU fun _=>rfl),?_⟩
  refine hk _ _ ?_;clear hk hp k kp;refine au [5] fun k kp hk hp=>?_;simp only [bR,bT,tab,bX,reduceIte,↓reduceIte,reduceCtorEq,Int.reduceToNat,Nat.reduceDiv,Nat.reduceMod,Nat.reduceLT,Nat.reduceLeDiff,Nat.reduceAdd,Nat.reduceSub,Nat.reduceMul,Nat.reduceEqDiff,Nat.reduceBEq,Nat.reduceBNe,Nat.reduceGT,List.replicate,List.foldr]
  repeat refine ⟨by first|omega|assumption|decide|exact aU fun _=>rfl|(intro _;omega)|rfl|exact fun e=>absurd (List.map_eq_nil_iff.1 e) (by assumption)|(and_intros<;>first|omega|assumption|decide|exact aU fun _=>rfl),?_⟩
  refine hk _ _ ?_;clear hk hp k kp
  refine gg rfl (show _=[.arr 1 0 9 ((lit ([([97,100,100]:List UInt8),([97,110,100]:List UInt8),([98,111,111,108]:List UInt8),([99,97,108,108]:List UInt8),([99,97,116]:List UInt8),([100,105,118]:List UInt8),([101,108,115,101]:List UInt8),([101,113]:List UInt8),([102,97,108,115,101]:List UInt8),([102,105,108,108]:List UInt8),([102,111,108,100]:List UInt8),([105,102]:List UInt8),([105,110,116]:List UInt8),([108,101,115,115]:List UInt8),([109,97,112]:List UInt8),([109,97,120]:List UInt8),([109,105,110]:List UInt8),([109,111,100]:List UInt8),([109,117,108]:List UInt8),([110,101,103]:List UInt8),([110,111,100,101]:List UInt8),([110,111,116]:List UInt8),([111,114]:List UInt8),([112,114,101]:List UInt8),([115,99,97,110]:List UInt8),([115,108,105,99,101]:List UInt8),([115,117,98]:List UInt8),([116,104,101,110]:List UInt8),([116,114,117,101]:List UInt8),([118,97,114]:List UInt8),([119,105,116,104]:List UInt8),([120,111,114]:List UInt8)]:List (List UInt8))).map eS)] from by first|rfl|(simp only [List.take_of_length_le,List.length_map,List.length_append,List.length_cons,List.length_nil,List.length_replicate,List.length_set,List.map_append,List.map_cons,List.map_nil,List.map_replicate,List.map_set,Nat.le_refl,Nat.zero_add,List.nil_append,List.set_cons_zero,List.set_cons_succ,bX,eK,eB,eS,eL];done)|(simp only [List.take_of_length_le,List.length_map,List.length_append,List.length_cons,List.length_nil,List.length_replicate,List.length_set,List.map_append,List.map_cons,List.map_nil,List.map_replicate,List.map_set,Nat.le_refl,Nat.zero_add,List.nil_append,List.set_cons_zero,List.set_cons_succ,bX,eK,eB,eS,eL];rfl)|(simp;done)|(simp only [lit,List.map_append,List.map_cons,List.map_nil,List.map_set,List.map_replicate,List.nil_append,bX,eK,eB,eS,eL];done)) ?_
  refine bk (S:=Unit) (V:=Unit) [0,2,3,4,6,7,8,9,10,11,12,13,14,15,16,17] (fun _ _=>[]) (fun _ _=>[.arr 1 0 9 ((lit ([([97,100,100]:List UInt8),([97,110,100]:List UInt8),([98,111,111,108]:List UInt8),([99,97,108,108]:List UInt8),([99,97,116]:List UInt8),([100,105,118]:List UInt8),([101,108,115,101]:List UInt8),([101,113]:List UInt8),([102,97,108,115,101]:List UInt8),([102,105,108,108]:List UInt8),([102,111,108,100]:List UInt8),([105,102]:List UInt8),([105,110,116]:List UInt8),([108,101,115,115]:List UInt8),([109,97,112]:List UInt8),([109,97,120]:List UInt8),([109,105,110]:List UInt8),([109,111,100]:List UInt8),([109,117,108]:List UInt8),([110,101,103]:List UInt8),([110,111,100,101]:List UInt8),([110,111,116]:List UInt8),([111,114]:List UInt8),([112,114,101]:List UInt8),([115,99,97,110]:List UInt8),([115,108,105,99,101]:List UInt8),([115,117,98]:List UInt8),([116,104,101,110]:List UInt8),([116,114,117,101]:List UInt8),([118,97,114]:List UInt8),([119,105,116,104]:List UInt8),([120,111,114]:List UInt8)]:List (List UInt8))).map eS)]) (fun _=>fZ=some r) ?_ ?_
  · skip
    refine au [] fun k kp hk hp=>?_;simp only [bR,bT,tab,bX,reduceIte,↓reduceIte,reduceCtorEq,Int.reduceToNat,Nat.reduceDiv,Nat.reduceMod,Nat.reduceLT,Nat.reduceLeDiff,Nat.reduceAdd,Nat.reduceSub,Nat.reduceMul,Nat.reduceEqDiff,Nat.reduceBEq,Nat.reduceBNe,Nat.reduceGT]
    repeat refine ⟨by first|omega|assumption|decide|exact aU fun _=>rfl|(intro _;omega)|rfl|exact fun e=>absurd (List.map_eq_nil_iff.1 e) (by assumption)|(and_intros<;>first|omega|assumption|decide|exact aU fun _=>rfl),?_⟩
    refine hk _ _ ?_;clear hk hp k kp;refine aY ?_;obtain ⟨o1,hl1,hm1⟩:=bd hm;refine dB (S:=Int) (V:=Unit) (O:=Unit ⊕ Bool) [2,3,4,6,7,8,9,10,11,12,13,14,15,16,17] (fun x3 _=>[(3,.c (.osl 0 0 0 32)),(4,.c (.int .i64 x3))]) (fun x3 _=>[.arr 1 0 9 ((lit ([([97,100,100]:List UInt8),([97,110,100]:List UInt8),([98,111,111,108]:List UInt8),([99,97,108,108]:List UInt8),([99,97,116]:List UInt8),([100,105,118]:List UInt8),([101,108,115,101]:List UInt8),([101,113]:List UInt8),([102,97,108,115,101]:List UInt8),([102,105,108,108]:List UInt8),([102,111,108,100]:List UInt8),([105,102]:List UInt8),([105,110,116]:List UInt8),([108,101,115,115]:List UInt8),([109,97,112]:List UInt8),([109,97,120]:List UInt8),([109,105,110]:List UInt8),([109,111,100]:List UInt8),([109,117,108]:List UInt8),([110,101,103]:List UInt8),([110,111,100,101]:List UInt8),([110,111,116]:List UInt8),([111,114]:List UInt8),([112,114,101]:List UInt8),([115,99,97,110]:List UInt8),([115,108,105,99,101]:List UInt8),([115,117,98]:List UInt8),([116,104,101,110]:List UInt8),([116,114,117,101]:List UInt8),([118,97,114]:List UInt8),([119,105,116,104]:List UInt8),([120,111,114]:List UInt8)]:List (List UInt8))).map eS)]) _ _ () hl1 ?_ ?_
    · simp only [bS,bX,reduceIte,↓reduceIte,reduceCtorEq,Int.reduceToNat,Nat.reduceDiv,Nat.reduceMod,Nat.reduceLT,Nat.reduceLeDiff,Nat.reduceAdd,Nat.reduceSub,Nat.reduceMul,Nat.reduceEqDiff,Nat.reduceBEq,Nat.reduceBNe,Nat.reduceGT]<;>first|done|(and_intros<;>first|rfl|(simp;done)|omega|(simp [lit,bX,eK,eB,eS,eL];done)|(simp only [fG,List.length_cons,List.length_nil,List.length_append,List.length_set,List.length_replicate,List.length_map,List.length_take,List.length_drop];omega))
    · rintro x3 _ r1 hm hr1
      replace hm:fD p1 x3=some r1:=hm
      refine gg (by simp only [bE,Nat.reduceDiv,Nat.reduceMod,Nat.reduceLT,Nat.reduceLeDiff,Nat.reduceAdd,Nat.reduceSub,Nat.reduceMul,Nat.reduceEqDiff,Nat.reduceBEq,Nat.reduceBNe,Nat.reduceGT,Int.reduceToNat];rfl) (by first|(dsimp only;rfl)|rfl) ?_
      unfold fD at hm;refine aR fun k1 hk1=>?_;refine au [6,7,8] fun k kp hk hp=>?_;simp only [bR,bT,tab,bX,reduceIte,↓reduceIte,reduceCtorEq,Int.reduceToNat,Nat.reduceDiv,Nat.reduceMod,Nat.reduceLT,Nat.reduceLeDiff,Nat.reduceAdd,Nat.reduceSub,Nat.reduceMul,Nat.reduceEqDiff,Nat.reduceBEq,Nat.reduceBNe,Nat.reduceGT]
      repeat refine ⟨by first|omega|assumption|decide|exact aU fun _=>rfl|(intro _;omega)|rfl|exact fun e=>absurd (List.map_eq_nil_iff.1 e) (by assumption)|(and_intros<;>first|omega|assumption|decide|exact aU fun _=>rfl),?_⟩
      refine hk _ _ ?_;clear hk hp k kp
      by_cases h1:x3<(32:Int)
      · rw [iP h1] at hm
        refine aj rfl (dT h1) ?_;refine av ?_;refine aL (hk1 _ _ ?_);refine aR fun k2 hk2=>?_;refine aY ?_;obtain ⟨hg2a,hm⟩:=gd hm;refine au [9,12,13,14,15,16] fun k kp hk hp=>?_
        simp only [bR,bT,tab,bX,reduceIte,↓reduceIte,reduceCtorEq,Int.reduceToNat,Nat.reduceDiv,Nat.reduceMod,Nat.reduceLT,Nat.reduceLeDiff,Nat.reduceAdd,Nat.reduceSub,Nat.reduceMul,Nat.reduceEqDiff,Nat.reduceBEq,Nat.reduceBNe,Nat.reduceGT,qH eS (lit ([([97,100,100]:List UInt8),([97,110,100]:List UInt8),([98,111,111,108]:List UInt8),([99,97,108,108]:List UInt8),([99,97,116]:List UInt8),([100,105,118]:List UInt8),([101,108,115,101]:List UInt8),([101,113]:List UInt8),([102,97,108,115,101]:List UInt8),([102,105,108,108]:List UInt8),([102,111,108,100]:List UInt8),([105,102]:List UInt8),([105,110,116]:List UInt8),([108,101,115,115]:List UInt8),([109,97,112]:List UInt8),([109,97,120]:List UInt8),([109,105,110]:List UInt8),([109,111,100]:List UInt8),([109,117,108]:List UInt8),([110,101,103]:List UInt8),([110,111,100,101]:List UInt8),([110,111,116]:List UInt8),([111,114]:List UInt8),([112,114,101]:List UInt8),([115,99,97,110]:List UInt8),([115,108,105,99,101]:List UInt8),([115,117,98]:List UInt8),([116,104,101,110]:List UInt8),([116,114,117,101]:List UInt8),([118,97,114]:List UInt8),([119,105,116,104]:List UInt8),([120,111,114]:List UInt8)]:List (List UInt8))) x3.toNat (by first|omega|(simp only [fG,List.length_cons,List.length_nil,List.length_append,List.length_set,List.length_replicate,List.length_map,List.length_take,List.length_drop];omega))]
        repeat refine ⟨by first|omega|assumption|decide|exact aU fun _=>rfl|(intro _;omega)|rfl|exact fun e=>absurd (List.map_eq_nil_iff.1 e) (by assumption)|(and_intros<;>first|omega|assumption|decide|exact aU fun _=>rfl),?_⟩
        refine hk _ _ ?_;clear hk hp k kp
        by_cases h3:((lit ([([97,100,100]:List UInt8),([97,110,100]:List UInt8),([98,111,111,108]:List UInt8),([99,97,108,108]:List UInt8),([99,97,116]:List UInt8),([100,105,118]:List UInt8),([101,108,115,101]:List UInt8),([101,113]:List UInt8),([102,97,108,115,101]:List UInt8),([102,105,108,108]:List UInt8),([102,111,108,100]:List UInt8),([105,102]:List UInt8),([105,110,116]:List UInt8),([108,101,115,115]:List UInt8),([109,97,112]:List UInt8),([109,97,120]:List UInt8),([109,105,110]:List UInt8),([109,111,100]:List UInt8),([109,117,108]:List UInt8),([110,101,103]:List UInt8),([110,111,100,101]:List UInt8),([110,111,116]:List UInt8),([111,114]:List UInt8),([112,114,101]:List UInt8),([115,99,97,110]:List UInt8),([115,108,105,99,101]:List UInt8),([115,117,98]:List UInt8),([116,104,101,110]:List UInt8),([116,114,117,101]:List UInt8),([118,97,114]:List UInt8),([119,105,116,104]:List UInt8),([120,111,114]:List UInt8)]:List (List UInt8))).getD x3.toNat default)=p1
        · rw [iP h3] at hm
          refine aj rfl (eQ h3) ?_;refine au [0,3,4,17] fun k kp hk hp=>?_;simp only [bR,bT,tab,bX,reduceIte,↓reduceIte,reduceCtorEq,Int.reduceToNat,Nat.reduceDiv,Nat.reduceMod,Nat.reduceLT,Nat.reduceLeDiff,Nat.reduceAdd,Nat.reduceSub,Nat.reduceMul,Nat.reduceEqDiff,Nat.reduceBEq,Nat.reduceBNe,Nat.reduceGT]
          repeat refine ⟨by first|omega|assumption|decide|exact aU fun _=>rfl|(intro _;omega)|rfl|exact fun e=>absurd (List.map_eq_nil_iff.1 e) (by assumption)|(and_intros<;>first|omega|assumption|decide|exact aU fun _=>rfl),?_⟩
          refine hk _ _ ?_;clear hk hp k kp;have ho4:=a8 hm hr1;subst ho4;replace hm:some true=some r:=hm1;refine aM ?_;refine aT (cX (eV (aT (bn ?_))))
          cases hm
          exact kr 0
        · rw [iN h3] at hm
          refine ak rfl (nB h3) ?_;refine av ?_;refine ap ?_;refine aL (hk2 _ _ ?_);refine bf fun k kp hk hp=>?_;simp only [bR,bT,tab,bX,reduceIte,↓reduceIte,reduceCtorEq,Int.reduceToNat,Nat.reduceDiv,Nat.reduceMod,Nat.reduceLT,Nat.reduceLeDiff,Nat.reduceAdd,Nat.reduceSub,Nat.reduceMul,Nat.reduceEqDiff,Nat.reduceBEq,Nat.reduceBNe,Nat.reduceGT]
          repeat refine ⟨by first|omega|assumption|decide|exact aU fun _=>rfl|(intro _;omega)|rfl|exact fun e=>absurd (List.map_eq_nil_iff.1 e) (by assumption)|(and_intros<;>first|omega|assumption|decide|exact aU fun _=>rfl),?_⟩
          refine hk _ _ ?_;clear hk hp k kp;refine aH (IntKind.wrap .i64 (x3+1)) () hm ?_
          simp only [bS,bX,reduceIte,↓reduceIte,reduceCtorEq,Int.reduceToNat,Nat.reduceDiv,Nat.reduceMod,Nat.reduceLT,Nat.reduceLeDiff,Nat.reduceAdd,Nat.reduceSub,Nat.reduceMul,Nat.reduceEqDiff,Nat.reduceBEq,Nat.reduceBNe,Nat.reduceGT]<;>first|done|(and_intros<;>first|rfl|(simp;done)|omega|(simp [lit,bX,eK,eB,eS,eL];done)|(simp only [fG,List.length_cons,List.length_nil,List.length_append,List.length_set,List.length_replicate,List.length_map,List.length_take,List.length_drop];omega))
      · rw [iN h1] at hm
        refine ak rfl (dF h1) ?_;refine e7 ?_;have ho5:=a8 hm hr1;subst ho5;replace hm:fZ=some r:=hm1;refine eC (cM (bx ?_));refine ao () () hm ?_
        simp only [bS,bX,reduceIte,↓reduceIte,reduceCtorEq,Int.reduceToNat,Nat.reduceDiv,Nat.reduceMod,Nat.reduceLT,Nat.reduceLeDiff,Nat.reduceAdd,Nat.reduceSub,Nat.reduceMul,Nat.reduceEqDiff,Nat.reduceBEq,Nat.reduceBNe,Nat.reduceGT]<;>first|done|(and_intros<;>first|rfl|(simp;done)|omega|(simp [lit,bX,eK,eB,eS,eL];done)|(simp only [fG,List.length_cons,List.length_nil,List.length_append,List.length_set,List.length_replicate,List.length_map,List.length_take,List.length_drop];omega))
  · rintro _ _ hm
    replace hm:fZ=some r:=hm
    refine gg (by simp only [bE,Nat.reduceDiv,Nat.reduceMod,Nat.reduceLT,Nat.reduceLeDiff,Nat.reduceAdd,Nat.reduceSub,Nat.reduceMul,Nat.reduceEqDiff,Nat.reduceBEq,Nat.reduceBNe,Nat.reduceGT,Int.reduceToNat];rfl) (by first|(dsimp only;rfl)|rfl) ?_
    unfold fZ at hm;refine au [] fun k kp hk hp=>?_;simp only [bR,bT,tab,bX,reduceIte,↓reduceIte,reduceCtorEq,Int.reduceToNat,Nat.reduceDiv,Nat.reduceMod,Nat.reduceLT,Nat.reduceLeDiff,Nat.reduceAdd,Nat.reduceSub,Nat.reduceMul,Nat.reduceEqDiff,Nat.reduceBEq,Nat.reduceBNe,Nat.reduceGT]
    repeat refine ⟨by first|omega|assumption|decide|exact aU fun _=>rfl|(intro _;omega)|rfl|exact fun e=>absurd (List.map_eq_nil_iff.1 e) (by assumption)|(and_intros<;>first|omega|assumption|decide|exact aU fun _=>rfl),?_⟩
    refine hk _ _ ?_;clear hk hp k kp;refine aM ?_
    cases hm
    exact kr 0
theorem qo(p1:List UInt8)(r:Int)(hm:mr p1=some r):eU Tryd.prog 17 [.c (.str p1)] (.c (.int .i64 r)):=by
 refine aN 38 [.tmp 2] Tryd.func17 rfl rfl rfl (by kernel_rfl) (by simp) ?_;refine bJ ?_;unfold mr at hm;refine ax [2] ?_;refine bk (S:=Unit) (V:=Unit) [2,5,6,7,8,9,10,11,12,13,14,15,16,17] (fun _ _=>[]) (fun _ _=>[]) (fun _=>gM p1=some r) ?_ ?_
 ·skip;refine cR [5,6,7,8,9,10,11,12,13,14,15,16] fun k kp hk hp=>?_
  refine aq 4 ?_;refine go ?_
  by_cases h7:(p1.length:Int)>18
  ·rw [iP h7] at hm;have h7b:=dT h7;refine ab ?_;refine gox h7b ?_;refine hk _ _ ?_;clear hk hp k kp;refine aj rfl rfl ?_;refine ax [0,17] ?_;refine aM ?_;refine bn ?_
   cases hm
   exact kr 0
  ·rw [iN h7] at hm;have h7b:=dF h7;refine aq 4 ?_;refine gox h7b ?_
   by_cases h8:(p1.length:Int)>1
   ·rw [iP h8] at hm;have h8b:=dT h8;obtain ⟨hg9a,hm⟩:=gd hm;refine ab ?_;refine gox (a2 h7b h8b) ?_;refine hk _ _ ?_;clear hk hp k kp
    by_cases h10:((p1.getD 0 0).toNat:Int)=48
    ·rw [iP h10] at hm;refine aj rfl (eQ h10) ?_;refine ax [0,17] ?_;refine aM ?_;refine bn ?_
     cases hm
     exact kr 0
    ·rw [iN h10] at hm;refine ak rfl (nB h10) ?_;refine av ?_;refine ao () () hm ?_;exact ls
   ·rw [iN h8] at hm;have h8b:=dF h8;refine ab ?_;refine gox (a2 h7b h8b) ?_;refine hk _ _ ?_;clear hk hp k kp;refine ak rfl rfl ?_;refine av ?_;refine ao () () hm ?_;exact ls
 ·rintro _ _ hm;replace hm:gM p1=some r:=hm;refine bw ?_;unfold gM at hm;refine ax [] ?_;refine bk (S:=Int) (V:=Unit) [0,2,3,4,18,19,20,21,22,23,24,25,26,27,28,29,30,31,32,33,34,35,36] (fun x1 _=>[(3,.c (.int .i64 x1))]) (fun x1 _=>[]) (fun x1=>im x1=some r) ?_ ?_
  ·skip;refine ax [] ?_
   refine aY ?_;obtain ⟨o1,hl1,hm1⟩:=bd hm;refine dB (S:=(Int×Int)) (V:=Unit) (O:=Int ⊕ Int) [2,3,4,18,19,20,21,22,23,24,25,26,27,28,29,30,31,32,33,34,35,36] (fun (x6,x7) _=>[(3,.c (.int .i64 x6)),(4,.c (.int .i64 x7))]) (fun (x6,x7) _=>[]) _ _ () hl1 ?_ ?_
   ·exact ls
   ·rintro ⟨x6,x7⟩ _ r1 hm hr1;replace hm:fE p1 x6 x7=some r1:=hm;refine bw ?_;unfold fE at hm;refine aR fun k1 hk1=>?_;refine ax [18,19,20] ?_
    by_cases h1:x7<(p1.length:Int)
    ·rw [iP h1] at hm;refine aj rfl (dT h1) ?_;refine av ?_;refine aL (hk1 _ _ ?_);refine aR fun k2 hk2=>?_;refine aY ?_;refine aR fun k3 hk3=>?_;obtain ⟨hg2a,hm⟩:=gd hm;refine au [21,24,25,26,27] fun k kp hk hp=>?_;refine go ?_;obtain ⟨y8,hc3,hm⟩:=bd hm;refine RP (fun _=>kx ((p1.getD x7.toNat 0).toNat:Int) _ hc3) ?_;refine ab ?_;refine go ?_;refine hk _ _ ?_;clear hk hp k kp
     by_cases h4:y8=true
     ·rw [iP h4] at hm;refine ak rfl (by rw [show y8=true from (h4)];rfl) ?_;refine av ?_;refine aL (hk3 _ _ ?_);refine cB ?_;refine ap ?_;refine aL (hk2 _ _ ?_);refine cB ?_;refine aH ((IntKind.wrap .i64 ((IntKind.wrap .i64 (10 * x6))+(IntKind.wrap .i64 (IntKind.wrap .u8 (((p1.getD x7.toNat 0).toNat:Int) - 48))))),(IntKind.wrap .i64 (x7+1))) () hm ?_;exact ls
     ·rw [iN h4] at hm;refine aj rfl (by rw [show y8=false from (fB h4)];rfl) ?_;refine ax [0,3,4,28] ?_;have ho5:=a8 hm hr1;subst ho5;replace hm:some (-1)=some r:=hm1;refine aM ?_;refine cX (aT (cX (eV (aT (bn ?_)))))
      cases hm
      exact kr 0
    ·rw [iN h1] at hm;refine ak rfl (dF h1) ?_;refine e7 ?_;have ho6:=a8 hm hr1;subst ho6;replace hm:im x6=some r:=hm1;refine eC (cM (bx ?_));refine ao x6 () hm ?_;exact ls
  ·rintro x1 _ hm;replace hm:im x1=some r:=hm;refine bw ?_;unfold im at hm;refine ax [3,37] ?_;refine aM ?_
   cases hm
   exact kr 0
theorem pJ(p1:List UInt8)(r:((List aa)×bl))(hm:kV p1=some r):eU Tryd.prog 6 [.c (.str p1)] (.t [.c (.tree 4 (r.1.map aa.enc)),.a [.int .i64 ((r.2).code),.int .i64 ((r.2).at_)]]):=by
 refine aN 229 [.tmp 2,.cell 3 27] Tryd.func6 rfl rfl rfl (by kernel_rfl) (by simp) ?_;refine bJ ?_;unfold kV at hm;refine ax [2] ?_;refine aR fun k1 hk1=>?_;refine ax [11,12] ?_
 by_cases h1:(p1.length:Int)>12000
 ·rw [iP h1] at hm;refine aj rfl (dT h1) ?_;refine au [0,13,14] fun k kp hk hp=>?_;refine go ?_;obtain ⟨y1,hc2,hm⟩:=bd hm;refine RP (fun _=>kZ 7 12000 _ hc2) ?_;refine ab ?_;refine go ?_;refine hk _ _ ?_;clear hk hp k kp
  refine eI (fL 2 (.c (.tree 4 (([]:List _).map aa.enc))) rfl (by and_intros<;>trivial)) ?_
  refine mP ?_;refine aM ?_;refine cX ?_
  cases hm
  exact kr 0
 ·rw [iN h1] at hm;refine ak rfl (dF h1) ?_;refine av ?_;refine aL (hk1 _ _ ?_);refine ax [13] ?_;refine ax [] ?_;refine eI (jO 4 4 35 (by decide) rfl (Nat.le_of_ble_eq_true rfl)) ?_;refine pB ?_;refine bk (S:=(List aa)) (V:=Nat) [0,2,4,5,6,7,8,9,10,15,16,17,18,19,20,21,22,23,24,25,26,27,28,29,30,31,32,33,34,35,36,37,38,39,40,41,42,43,44,45,46,47,48,49,50,51,52,53,54,55,56,57,58,59,60,61,62,63,64,65,66,67,68,69,70,71,72,73,74,75,76,77,78,79,80,81,82,83,84,85,86,87,88,89,90,91,92,93,94,95,96,97,98,99,100,101,102,103,104,105,106,107,108,109,110,111,112,113,114,115,116,117,118,119,120,121,122,123,124,125,126,127,128,129,130,131,132,133,134,135,136,137,138,139,140,141,142,143,144,145,146,147,148,149,150,151,152,153,154,155,156,157,158,159,160,161,162,163,164,165,166,167,168,169,170,171,172,173,174,175,176,177,178,179,180,181,182,183,184,185,186,187,188,189,190,191,192,193,194,195,196,197,198,199,200,201,202,203,204,205,206,207,208,209,210,211,212,213,214,215,216,217,218,219,220,221,222,223,224,225,226] (fun l4 v5=>[(4,.c (.osl 1 v5 0 l4.length))]) (fun l4 v5=>[.box [.int .i64 0,.int .i64 0],.arr 4 v5 35 (l4.map aa.enc)]) (fun l4=>iw l4=some r) ?_ ?_
  ·skip;refine aY ?_
   obtain ⟨o1,hl1,hm1⟩:=bd hm;refine dB (S:=((List aa)×Int)) (V:=Nat) (O:=(List aa) ⊕ ((List aa)×bl)) [2,4,5,6,7,8,9,10,15,16,17,18,19,20,21,22,23,24,25,26,27,28,29,30,31,32,33,34,35,36,37,38,39,40,41,42,43,44,45,46,47,48,49,50,51,52,53,54,55,56,57,58,59,60,61,62,63,64,65,66,67,68,69,70,71,72,73,74,75,76,77,78,79,80,81,82,83,84,85,86,87,88,89,90,91,92,93,94,95,96,97,98,99,100,101,102,103,104,105,106,107,108,109,110,111,112,113,114,115,116,117,118,119,120,121,122,123,124,125,126,127,128,129,130,131,132,133,134,135,136,137,138,139,140,141,142,143,144,145,146,147,148,149,150,151,152,153,154,155,156,157,158,159,160,161,162,163,164,165,166,167,168,169,170,171,172,173,174,175,176,177,178,179,180,181,182,183,184,185,186,187,188,189,190,191,192,193,194,195,196,197,198,199,200,201,202,203,204,205,206,207,208,209,210,211,212,213,214,215,216,217,218,219,220,221,222,223,224,225,226] (fun (l18,x20) v19=>[(4,.c (.osl 1 v19 0 l18.length)),(5,.c (.int .i64 x20))]) (fun (l18,x20) v19=>[.box [.int .i64 0,.int .i64 0],.arr 4 v19 35 (l18.map aa.enc)]) _ _ 0 hl1 ?_ ?_
   ·exact ls
   ·rintro ⟨l18,x20⟩ v19 r1 hm hr1;replace hm:dV p1 l18 x20=some r1:=hm;refine bw ?_;unfold dV at hm;refine aR fun k2 hk2=>?_;refine ax [15,16,17] ?_
    by_cases h3:x20<(p1.length:Int)
    ·rw [iP h3] at hm;refine aj rfl (dT h3) ?_;refine av ?_;refine aL (hk2 _ _ ?_);refine aY ?_;obtain ⟨hg4a,hm⟩:=gd hm;refine ax [18,19,20,21] ?_;refine aY ?_
     by_cases h5:((p1.getD x20.toNat 0).toNat:Int)=32
     ·rw [iP h5] at hm;have h5b:=eQ h5;refine gG h5b [25,26,27,28,29,30,31,32,33,34,35,36,37,38] ?_;refine aj rfl rfl ?_;refine cB ?_;refine ap (ap ?_);refine aH (l18,(IntKind.wrap .i64 (x20+1))) v19 hm ?_;exact ls
     ·rw [iN h5] at hm;have h5b:=nB h5;refine cR [25,26,27,28,29,30,31,32,33,34,35,36,37,38] fun k kp hk hp=>?_;refine aq 7 ?_;refine gox h5b ?_
      by_cases h6:((p1.getD x20.toNat 0).toNat:Int)=9
      ·rw [iP h6] at hm;have h6b:=eQ h6;refine ab ?_;refine gox (a2 h5b h6b) ?_;refine hk _ _ ?_;clear hk hp k kp;refine aj rfl rfl ?_;refine cB ?_;refine ap (ap ?_);refine aH (l18,(IntKind.wrap .i64 (x20+1))) v19 hm ?_;exact ls
      ·rw [iN h6] at hm;have h6b:=nB h6;refine aq 4 ?_;refine gox (a2 h5b h6b) ?_
       by_cases h7:((p1.getD x20.toNat 0).toNat:Int)=10
       ·rw [iP h7] at hm;have h7b:=eQ h7;refine ab ?_;refine gox (a2 h5b (a2 h6b h7b)) ?_;refine hk _ _ ?_;clear hk hp k kp;refine aj rfl rfl ?_;refine cB ?_;refine ap (ap ?_);refine aH (l18,(IntKind.wrap .i64 (x20+1))) v19 hm ?_;exact ls
       ·rw [iN h7] at hm;have h7b:=nB h7;refine ab ?_;refine gox (a2 h5b (a2 h6b h7b)) ?_;refine hk _ _ ?_;clear hk hp k kp
        by_cases h8:((p1.getD x20.toNat 0).toNat:Int)=13
        ·rw [iP h8] at hm;refine aj rfl (eQ h8) ?_;refine cB ?_;refine ap (ap ?_);refine aH (l18,(IntKind.wrap .i64 (x20+1))) v19 hm ?_;exact ls
        ·rw [iN h8] at hm;refine ak rfl (nB h8) ?_;refine ax [24,42,43] ?_
         by_cases h9:((p1.getD x20.toNat 0).toNat:Int)=35
         ·rw [iP h9] at hm;refine aj rfl (eQ h9) ?_;refine aY ?_;obtain ⟨o2,hl2,hm2⟩:=bd hm;refine dB (S:=Int) (V:=Nat) (O:=((List aa)×Int)) [4,5,6,41,44,45,46,47,48,49,50,51,52,53,54,55] (fun x31 v30=>[(4,.c (.osl 1 v30 0 l18.length)),(5,.c (.int .i64 x31))]) (fun x31 v30=>[.box [.int .i64 0,.int .i64 0],.arr 4 v30 35 (l18.map aa.enc)]) _ _ v19 hl2 ?_ ?_
          ·exact ls
          ·rintro x31 v30 r2 hm hr2;replace hm:fP p1 l18 x31=some r2:=hm;refine bw ?_;unfold fP at hm;refine aR fun k3 hk3=>?_;refine cR [44,45,46,47,48,49,50,51,52] fun k kp hk hp=>?_;refine aq 5 ?_;refine go ?_
           by_cases h10:x31<(p1.length:Int)
           ·rw [iP h10] at hm;have h10b:=dT h10;obtain ⟨hg11a,hm⟩:=gd hm;refine ab ?_;refine gox h10b ?_;refine hk _ _ ?_;clear hk hp k kp
            by_cases h12:¬ ((p1.getD x31.toNat 0).toNat:Int)=10
            ·rw [iP h12] at hm;refine aj rfl (bne_iff_ne.2 h12) ?_;refine av ?_;refine aL (hk3 _ _ ?_);refine aY ?_;refine cB ?_;refine ap ?_;refine aH (IntKind.wrap .i64 (x31+1)) v30 hm ?_;exact ls
            ·rw [iN h12] at hm;refine ak rfl (bne_eq_false_iff_eq.2 (Decidable.not_not.1 h12)) ?_;refine e7 ?_;have ho13:=a8 hm hr2;subst ho13;replace hm:some (.inl (l18,x31))=some r1:=hm2;refine eC (cM (bx (ap (ap ?_))));refine aH (l18,x31) v30 hm ?_;exact ls
           ·rw [iN h10] at hm;have h10b:=dF h10;refine ab ?_;refine gox h10b ?_;refine hk _ _ ?_;clear hk hp k kp;refine ak rfl rfl ?_;refine e7 ?_;have ho14:=a8 hm hr2;subst ho14;replace hm:some (.inl (l18,x31))=some r1:=hm2;refine eC (cM (bx (ap (ap ?_))));refine aH (l18,x31) v30 hm ?_;exact ls
         ·rw [iN h9] at hm;refine ak rfl (nB h9) ?_;refine au [41,57,58] fun k kp hk hp=>?_;refine go ?_;obtain ⟨y34,hc15,hm⟩:=bd hm;refine RP (fun _=>mt ((p1.getD x20.toNat 0).toNat:Int) _ hc15) ?_;refine ab ?_;refine go ?_;refine hk _ _ ?_;clear hk hp k kp
          by_cases h16:y34=true
          ·rw [iP h16] at hm;refine aj rfl (h16) ?_;refine au [6,56,59,60,61] fun k kp hk hp=>?_;refine go ?_;obtain ⟨y35,hc17,hm⟩:=bd hm;refine RP (fun _=>mR p1 x20 _ hc17) ?_;refine ab ?_;refine go ?_;refine hk _ _ ?_;clear hk hp k kp;refine ax [] ?_;refine bk (S:=Int) (V:=Nat) [2,4,8,62,63,64,65,66,67,68,69,70,71,72] (fun x38 v37=>[(4,.c (.osl 1 v37 0 l18.length)),(8,.c (.int .i64 x38))]) (fun x38 v37=>[.box [.int .i64 0,.int .i64 0],.arr 4 v37 35 (l18.map aa.enc)]) (fun x38=>gq p1 l18 x20 y35 x38=some r1) ?_ ?_
           ·skip;obtain ⟨hg19a,hm⟩:=gd hm
            refine au [62,63,64,65] fun k kp hk hp=>?_;refine go ?_;obtain ⟨y39,hc20,hm⟩:=bd hm;refine RP (fun _=>oh ((p1.take y35.toNat).drop x20.toNat) _ hc20) ?_;refine ab ?_;refine go ?_;refine hk _ _ ?_;clear hk hp k kp
            by_cases h21:y39=true
            ·rw [iP h21] at hm;refine aj rfl (h21) ?_;refine cB ?_;refine ao 1 v19 hm ?_;exact ls
            ·rw [iN h21] at hm;refine ak rfl (fB h21) ?_;refine ax [66,67,68,69] ?_
             by_cases h22:(IntKind.wrap .i64 (y35 - x20))>12
             ·rw [iP h22] at hm;refine aj rfl (dT h22) ?_;refine au [0,4,5,7,8,70,71,72] fun k kp hk hp=>?_;refine go ?_;obtain ⟨y40,hc23,hm⟩:=bd hm;refine RP (fun _=>kZ 3 x20 _ hc23) ?_;refine ab ?_;refine go ?_;refine hk _ _ ?_;clear hk hp k kp
              refine eI (fL 2 (.c (.tree 4 (([]:List _).map aa.enc))) rfl (by and_intros<;>trivial)) ?_
              refine mP ?_;have ho24:=a8 hm hr1;subst ho24;replace hm:some ([],(y40))=some r:=hm1;refine aM ?_;refine bn (aT (aT (eV (aT (bn ?_)))))
              cases hm
              exact kr 0
             ·rw [iN h22] at hm;refine ak rfl (dF h22) ?_;refine av ?_;refine ao 2 v19 hm ?_;exact ls
           ·rintro x38 v37 hm;replace hm:gq p1 l18 x20 y35 x38=some r1:=hm;refine bw ?_;unfold gq at hm;obtain ⟨⟨hg18a,⟨hg18bx,hg18by⟩⟩,hm⟩:=gd hm;refine ax [5,8,73,74,75,76,77,78,79,80,81,82] ?_;refine bU [.box [.int .i64 0,.int .i64 0],.arr 4 (v37+1) 35 ((l18++(lit ([(aa.mk x38 x20 ((p1.take y35.toNat).drop x20.toNat) 0)]:List aa))).map aa.enc),.arr 4 0 35 ((lit ([(aa.mk x38 x20 ((p1.take y35.toNat).drop x20.toNat) 0)]:List aa)).map aa.enc)] ?_;refine cB ?_;refine ap (ap ?_);refine aH ((l18++(lit ([(aa.mk x38 x20 ((p1.take y35.toNat).drop x20.toNat) 0)]:List aa))),y35) (v37+1) hm ?_;exact ls
          ·rw [iN h16] at hm;refine ak rfl (fB h16) ?_;refine au [56,85,86] fun k kp hk hp=>?_;refine go ?_;obtain ⟨y41,hc25,hm⟩:=bd hm;refine RP (fun _=>kx ((p1.getD x20.toNat 0).toNat:Int) _ hc25) ?_;refine ab ?_;refine go ?_;refine hk _ _ ?_;clear hk hp k kp
           by_cases h26:y41=true
           ·rw [iP h26] at hm;refine aj rfl (h26) ?_;refine au [6,84,87,88,89] fun k kp hk hp=>?_;refine go ?_;obtain ⟨y42,hc27,hm⟩:=bd hm;refine RP (fun _=>mR p1 x20 _ hc27) ?_;refine ab ?_;refine go ?_;refine hk _ _ ?_;clear hk hp k kp;obtain ⟨hg28a,hm⟩:=gd hm;refine au [90,91,92,93,94] fun k kp hk hp=>?_;refine go ?_;obtain ⟨y43,hc29,hm⟩:=bd hm;refine RP (fun _=>qo ((p1.take y42.toNat).drop x20.toNat) _ hc29) ?_;refine ab ?_;refine go ?_;refine hk _ _ ?_;clear hk hp k kp;refine aR fun k4 hk4=>?_;refine ax [95] ?_
            by_cases h30:y43<0
            ·rw [iP h30] at hm;refine aj rfl (dT h30) ?_;refine au [0,4,5,9,10,96,97,98] fun k kp hk hp=>?_;refine go ?_;obtain ⟨y44,hc31,hm⟩:=bd hm;refine RP (fun _=>kZ 2 x20 _ hc31) ?_;refine ab ?_;refine go ?_;refine hk _ _ ?_;clear hk hp k kp
             refine eI (fL 2 (.c (.tree 4 (([]:List _).map aa.enc))) rfl (by and_intros<;>trivial)) ?_
             refine mP ?_;have ho32:=a8 hm hr1;subst ho32;replace hm:some ([],(y44))=some r:=hm1;refine aM ?_;refine cX (aT (aT (eV (aT (bn ?_)))))
             cases hm
             exact kr 0
            ·rw [iN h30] at hm;refine ak rfl (dF h30) ?_;refine av ?_;refine aL (hk4 _ _ ?_);obtain ⟨⟨hg33ax,hg33ay⟩,hm⟩:=gd hm;refine ax [5,10,96,99,100,101,102,103,104,105,106,107,108] ?_;refine bU [.box [.int .i64 0,.int .i64 0],.arr 4 (v19+1) 35 ((l18++(lit ([(aa.mk 3 x20 ((p1.take y42.toNat).drop x20.toNat) y43)]:List aa))).map aa.enc),.arr 4 0 35 ((lit ([(aa.mk 3 x20 ((p1.take y42.toNat).drop x20.toNat) y43)]:List aa)).map aa.enc)] ?_;refine cB ?_;refine ap (ap ?_);refine aH ((l18++(lit ([(aa.mk 3 x20 ((p1.take y42.toNat).drop x20.toNat) y43)]:List aa))),y42) (v19+1) hm ?_;exact ls
           ·rw [iN h26] at hm;refine ak rfl (fB h26) ?_;refine cR [84,111,112,113,114,115,116,117,118,119,120,121,122,123,124,125,126,127,128,129,130,131] fun k kp hk hp=>?_;refine aq 6 ?_;refine go ?_
            by_cases h34:(IntKind.wrap .i64 (x20+1))<(p1.length:Int)
            ·rw [iP h34] at hm;have h34b:=dT h34;obtain ⟨hg35a,hm⟩:=gd hm;refine aq 7 ?_;refine gox h34b ?_
             by_cases h36:((p1.take ((IntKind.wrap .i64 (x20+2)).toNat)).drop x20.toNat)=([61,61]:List UInt8)
             ·rw [iP h36] at hm;have h36b:=eQ h36;refine ab ?_;refine gox (a2 h34b h36b) ?_;refine hk _ _ ?_;clear hk hp k kp;refine aj rfl rfl ?_;obtain ⟨⟨hg37ax,hg37ay⟩,hm⟩:=gd hm;refine ax [6,110,132,133,134,135,136,137,138,139,140,141] ?_;refine bU [.box [.int .i64 0,.int .i64 0],.arr 4 (v19+1) 35 ((l18++(lit ([(aa.mk 4 x20 ((p1.take ((IntKind.wrap .i64 (x20+2)).toNat)).drop x20.toNat) 0)]:List aa))).map aa.enc),.arr 4 0 35 ((lit ([(aa.mk 4 x20 ((p1.take ((IntKind.wrap .i64 (x20+2)).toNat)).drop x20.toNat) 0)]:List aa)).map aa.enc)] ?_;refine cB ?_;refine ap (ap ?_);refine aH ((l18++(lit ([(aa.mk 4 x20 ((p1.take ((IntKind.wrap .i64 (x20+2)).toNat)).drop x20.toNat) 0)]:List aa))),(IntKind.wrap .i64 (x20+2))) (v19+1) hm ?_;exact ls
             ·rw [iN h36] at hm;have h36b:=nB h36;refine ab ?_;refine gox (a2 h34b h36b) ?_;refine hk _ _ ?_;clear hk hp k kp
              by_cases h38:((p1.take ((IntKind.wrap .i64 (x20+2)).toNat)).drop x20.toNat)=([45,62]:List UInt8)
              ·rw [iP h38] at hm;refine aj rfl (eQ h38) ?_;obtain ⟨⟨hg39ax,hg39ay⟩,hm⟩:=gd hm;refine ax [6,110,132,133,134,135,136,137,138,139,140,141] ?_;refine bU [.box [.int .i64 0,.int .i64 0],.arr 4 (v19+1) 35 ((l18++(lit ([(aa.mk 4 x20 ((p1.take ((IntKind.wrap .i64 (x20+2)).toNat)).drop x20.toNat) 0)]:List aa))).map aa.enc),.arr 4 0 35 ((lit ([(aa.mk 4 x20 ((p1.take ((IntKind.wrap .i64 (x20+2)).toNat)).drop x20.toNat) 0)]:List aa)).map aa.enc)] ?_;refine cB ?_;refine ap (ap ?_);refine aH ((l18++(lit ([(aa.mk 4 x20 ((p1.take ((IntKind.wrap .i64 (x20+2)).toNat)).drop x20.toNat) 0)]:List aa))),(IntKind.wrap .i64 (x20+2))) (v19+1) hm ?_;exact ls
              ·rw [iN h38] at hm;refine ak rfl (nB h38) ?_
               by_cases h40:((p1.getD x20.toNat 0).toNat:Int)=40
               ·rw [iP h40] at hm;have h40b:=eQ h40;refine au [6,110,145,146,147,148,149,150,151,152,153,154,155,156,157,158,159,160,161,162,163,164,165,166,167,168,169,170,171,172,173,174,175,176,177,178,179,180,181,182,183,184,185,186,187,188,189,190,191,192,193,194,195,196,197,198,199,200,201,202,203,204,205,206,207,208,209,210,211,212,213,214] fun k kp hk hp=>?_;simp only [List.append];refine gox h40b ?_;refine hk _ _ ?_;clear hk hp k kp;refine aj rfl rfl ?_;obtain ⟨⟨hg41a,⟨hg41bx,hg41by⟩⟩,hm⟩:=gd hm;refine ax [144,215,216,217,218,219,220,221,222,223,224] ?_;refine bU [.box [.int .i64 0,.int .i64 0],.arr 4 (v19+1) 35 ((l18++(lit ([(aa.mk 4 x20 ((p1.take ((IntKind.wrap .i64 (x20+1)).toNat)).drop x20.toNat) 0)]:List aa))).map aa.enc),.arr 4 0 35 ((lit ([(aa.mk 4 x20 ((p1.take ((IntKind.wrap .i64 (x20+1)).toNat)).drop x20.toNat) 0)]:List aa)).map aa.enc)] ?_;refine cB ?_;refine ap (ap ?_);refine aH ((l18++(lit ([(aa.mk 4 x20 ((p1.take ((IntKind.wrap .i64 (x20+1)).toNat)).drop x20.toNat) 0)]:List aa))),(IntKind.wrap .i64 (x20+1))) (v19+1) hm ?_;exact ls
               ·rw [iN h40] at hm;have h40b:=nB h40;refine cR [6,110,145,146,147,148,149,150,151,152,153,154,155,156,157,158,159,160,161,162,163,164,165,166,167,168,169,170,171,172,173,174,175,176,177,178,179,180,181,182,183,184,185,186,187,188,189,190,191,192,193,194,195,196,197,198,199,200,201,202,203,204,205,206,207,208,209,210,211,212,213,214] fun k kp hk hp=>?_;simp only [List.append];refine aq 7 ?_;refine gox h40b ?_
                by_cases h42:((p1.getD x20.toNat 0).toNat:Int)=41
                ·rw [iP h42] at hm;have h42b:=eQ h42;refine ab ?_;refine gox (a2 h40b h42b) ?_;refine hk _ _ ?_;clear hk hp k kp;refine aj rfl rfl ?_;obtain ⟨⟨hg43a,⟨hg43bx,hg43by⟩⟩,hm⟩:=gd hm;refine ax [144,215,216,217,218,219,220,221,222,223,224] ?_;refine bU [.box [.int .i64 0,.int .i64 0],.arr 4 (v19+1) 35 ((l18++(lit ([(aa.mk 4 x20 ((p1.take ((IntKind.wrap .i64 (x20+1)).toNat)).drop x20.toNat) 0)]:List aa))).map aa.enc),.arr 4 0 35 ((lit ([(aa.mk 4 x20 ((p1.take ((IntKind.wrap .i64 (x20+1)).toNat)).drop x20.toNat) 0)]:List aa)).map aa.enc)] ?_;refine cB ?_;refine ap (ap ?_);refine aH ((l18++(lit ([(aa.mk 4 x20 ((p1.take ((IntKind.wrap .i64 (x20+1)).toNat)).drop x20.toNat) 0)]:List aa))),(IntKind.wrap .i64 (x20+1))) (v19+1) hm ?_;exact ls
                ·rw [iN h42] at hm;have h42b:=nB h42;refine aq 4 ?_;refine gox (a2 h40b h42b) ?_
                 by_cases h44:((p1.getD x20.toNat 0).toNat:Int)=123
                 ·rw [iP h44] at hm;have h44b:=eQ h44;refine ab ?_;refine gox (a2 h40b (a2 h42b h44b)) ?_;refine hk _ _ ?_;clear hk hp k kp;refine aj rfl rfl ?_;obtain ⟨⟨hg45a,⟨hg45bx,hg45by⟩⟩,hm⟩:=gd hm;refine ax [144,215,216,217,218,219,220,221,222,223,224] ?_;refine bU [.box [.int .i64 0,.int .i64 0],.arr 4 (v19+1) 35 ((l18++(lit ([(aa.mk 4 x20 ((p1.take ((IntKind.wrap .i64 (x20+1)).toNat)).drop x20.toNat) 0)]:List aa))).map aa.enc),.arr 4 0 35 ((lit ([(aa.mk 4 x20 ((p1.take ((IntKind.wrap .i64 (x20+1)).toNat)).drop x20.toNat) 0)]:List aa)).map aa.enc)] ?_;refine cB ?_;refine ap (ap ?_);refine aH ((l18++(lit ([(aa.mk 4 x20 ((p1.take ((IntKind.wrap .i64 (x20+1)).toNat)).drop x20.toNat) 0)]:List aa))),(IntKind.wrap .i64 (x20+1))) (v19+1) hm ?_;exact ls
                 ·rw [iN h44] at hm;have h44b:=nB h44;refine aq 4 ?_;refine gox (a2 h40b (a2 h42b h44b)) ?_
                  by_cases h46:((p1.getD x20.toNat 0).toNat:Int)=125
                  ·rw [iP h46] at hm;have h46b:=eQ h46;refine ab ?_;refine gox (a2 h40b (a2 h42b (a2 h44b h46b))) ?_;refine hk _ _ ?_;clear hk hp k kp;refine aj rfl rfl ?_;obtain ⟨⟨hg47a,⟨hg47bx,hg47by⟩⟩,hm⟩:=gd hm;refine ax [144,215,216,217,218,219,220,221,222,223,224] ?_;refine bU [.box [.int .i64 0,.int .i64 0],.arr 4 (v19+1) 35 ((l18++(lit ([(aa.mk 4 x20 ((p1.take ((IntKind.wrap .i64 (x20+1)).toNat)).drop x20.toNat) 0)]:List aa))).map aa.enc),.arr 4 0 35 ((lit ([(aa.mk 4 x20 ((p1.take ((IntKind.wrap .i64 (x20+1)).toNat)).drop x20.toNat) 0)]:List aa)).map aa.enc)] ?_;refine cB ?_;refine ap (ap ?_);refine aH ((l18++(lit ([(aa.mk 4 x20 ((p1.take ((IntKind.wrap .i64 (x20+1)).toNat)).drop x20.toNat) 0)]:List aa))),(IntKind.wrap .i64 (x20+1))) (v19+1) hm ?_;exact ls
                  ·rw [iN h46] at hm;have h46b:=nB h46;refine aq 4 ?_;refine gox (a2 h40b (a2 h42b (a2 h44b h46b))) ?_
                   by_cases h48:((p1.getD x20.toNat 0).toNat:Int)=91
                   ·rw [iP h48] at hm;have h48b:=eQ h48;refine ab ?_;refine gox (a2 h40b (a2 h42b (a2 h44b (a2 h46b h48b)))) ?_;refine hk _ _ ?_;clear hk hp k kp;refine aj rfl rfl ?_;obtain ⟨⟨hg49a,⟨hg49bx,hg49by⟩⟩,hm⟩:=gd hm;refine ax [144,215,216,217,218,219,220,221,222,223,224] ?_;refine bU [.box [.int .i64 0,.int .i64 0],.arr 4 (v19+1) 35 ((l18++(lit ([(aa.mk 4 x20 ((p1.take ((IntKind.wrap .i64 (x20+1)).toNat)).drop x20.toNat) 0)]:List aa))).map aa.enc),.arr 4 0 35 ((lit ([(aa.mk 4 x20 ((p1.take ((IntKind.wrap .i64 (x20+1)).toNat)).drop x20.toNat) 0)]:List aa)).map aa.enc)] ?_;refine cB ?_;refine ap (ap ?_);refine aH ((l18++(lit ([(aa.mk 4 x20 ((p1.take ((IntKind.wrap .i64 (x20+1)).toNat)).drop x20.toNat) 0)]:List aa))),(IntKind.wrap .i64 (x20+1))) (v19+1) hm ?_;exact ls
                   ·rw [iN h48] at hm;have h48b:=nB h48;refine aq 4 ?_;refine gox (a2 h40b (a2 h42b (a2 h44b (a2 h46b h48b)))) ?_
                    by_cases h50:((p1.getD x20.toNat 0).toNat:Int)=93
                    ·rw [iP h50] at hm;have h50b:=eQ h50;refine ab ?_;refine gox (a2 h40b (a2 h42b (a2 h44b (a2 h46b (a2 h48b h50b))))) ?_;refine hk _ _ ?_;clear hk hp k kp;refine aj rfl rfl ?_;obtain ⟨⟨hg51a,⟨hg51bx,hg51by⟩⟩,hm⟩:=gd hm;refine ax [144,215,216,217,218,219,220,221,222,223,224] ?_;refine bU [.box [.int .i64 0,.int .i64 0],.arr 4 (v19+1) 35 ((l18++(lit ([(aa.mk 4 x20 ((p1.take ((IntKind.wrap .i64 (x20+1)).toNat)).drop x20.toNat) 0)]:List aa))).map aa.enc),.arr 4 0 35 ((lit ([(aa.mk 4 x20 ((p1.take ((IntKind.wrap .i64 (x20+1)).toNat)).drop x20.toNat) 0)]:List aa)).map aa.enc)] ?_;refine cB ?_;refine ap (ap ?_);refine aH ((l18++(lit ([(aa.mk 4 x20 ((p1.take ((IntKind.wrap .i64 (x20+1)).toNat)).drop x20.toNat) 0)]:List aa))),(IntKind.wrap .i64 (x20+1))) (v19+1) hm ?_;exact ls
                    ·rw [iN h50] at hm;have h50b:=nB h50;refine aq 4 ?_;refine gox (a2 h40b (a2 h42b (a2 h44b (a2 h46b (a2 h48b h50b))))) ?_
                     by_cases h52:((p1.getD x20.toNat 0).toNat:Int)=60
                     ·rw [iP h52] at hm;have h52b:=eQ h52;refine ab ?_;refine gox (a2 h40b (a2 h42b (a2 h44b (a2 h46b (a2 h48b (a2 h50b h52b)))))) ?_;refine hk _ _ ?_;clear hk hp k kp;refine aj rfl rfl ?_;obtain ⟨⟨hg53a,⟨hg53bx,hg53by⟩⟩,hm⟩:=gd hm;refine ax [144,215,216,217,218,219,220,221,222,223,224] ?_;refine bU [.box [.int .i64 0,.int .i64 0],.arr 4 (v19+1) 35 ((l18++(lit ([(aa.mk 4 x20 ((p1.take ((IntKind.wrap .i64 (x20+1)).toNat)).drop x20.toNat) 0)]:List aa))).map aa.enc),.arr 4 0 35 ((lit ([(aa.mk 4 x20 ((p1.take ((IntKind.wrap .i64 (x20+1)).toNat)).drop x20.toNat) 0)]:List aa)).map aa.enc)] ?_;refine cB ?_;refine ap (ap ?_);refine aH ((l18++(lit ([(aa.mk 4 x20 ((p1.take ((IntKind.wrap .i64 (x20+1)).toNat)).drop x20.toNat) 0)]:List aa))),(IntKind.wrap .i64 (x20+1))) (v19+1) hm ?_;exact ls
                     ·rw [iN h52] at hm;have h52b:=nB h52;refine aq 4 ?_;refine gox (a2 h40b (a2 h42b (a2 h44b (a2 h46b (a2 h48b (a2 h50b h52b)))))) ?_
                      by_cases h54:((p1.getD x20.toNat 0).toNat:Int)=62
                      ·rw [iP h54] at hm;have h54b:=eQ h54;refine ab ?_;refine gox (a2 h40b (a2 h42b (a2 h44b (a2 h46b (a2 h48b (a2 h50b (a2 h52b h54b))))))) ?_;refine hk _ _ ?_;clear hk hp k kp;refine aj rfl rfl ?_;obtain ⟨⟨hg55a,⟨hg55bx,hg55by⟩⟩,hm⟩:=gd hm;refine ax [144,215,216,217,218,219,220,221,222,223,224] ?_;refine bU [.box [.int .i64 0,.int .i64 0],.arr 4 (v19+1) 35 ((l18++(lit ([(aa.mk 4 x20 ((p1.take ((IntKind.wrap .i64 (x20+1)).toNat)).drop x20.toNat) 0)]:List aa))).map aa.enc),.arr 4 0 35 ((lit ([(aa.mk 4 x20 ((p1.take ((IntKind.wrap .i64 (x20+1)).toNat)).drop x20.toNat) 0)]:List aa)).map aa.enc)] ?_;refine cB ?_;refine ap (ap ?_);refine aH ((l18++(lit ([(aa.mk 4 x20 ((p1.take ((IntKind.wrap .i64 (x20+1)).toNat)).drop x20.toNat) 0)]:List aa))),(IntKind.wrap .i64 (x20+1))) (v19+1) hm ?_;exact ls
                      ·rw [iN h54] at hm;have h54b:=nB h54;refine aq 4 ?_;refine gox (a2 h40b (a2 h42b (a2 h44b (a2 h46b (a2 h48b (a2 h50b (a2 h52b h54b))))))) ?_
                       by_cases h56:((p1.getD x20.toNat 0).toNat:Int)=44
                       ·rw [iP h56] at hm;have h56b:=eQ h56;refine ab ?_;refine gox (a2 h40b (a2 h42b (a2 h44b (a2 h46b (a2 h48b (a2 h50b (a2 h52b (a2 h54b h56b)))))))) ?_;refine hk _ _ ?_;clear hk hp k kp;refine aj rfl rfl ?_;obtain ⟨⟨hg57a,⟨hg57bx,hg57by⟩⟩,hm⟩:=gd hm;refine ax [144,215,216,217,218,219,220,221,222,223,224] ?_;refine bU [.box [.int .i64 0,.int .i64 0],.arr 4 (v19+1) 35 ((l18++(lit ([(aa.mk 4 x20 ((p1.take ((IntKind.wrap .i64 (x20+1)).toNat)).drop x20.toNat) 0)]:List aa))).map aa.enc),.arr 4 0 35 ((lit ([(aa.mk 4 x20 ((p1.take ((IntKind.wrap .i64 (x20+1)).toNat)).drop x20.toNat) 0)]:List aa)).map aa.enc)] ?_;refine cB ?_;refine ap (ap ?_);refine aH ((l18++(lit ([(aa.mk 4 x20 ((p1.take ((IntKind.wrap .i64 (x20+1)).toNat)).drop x20.toNat) 0)]:List aa))),(IntKind.wrap .i64 (x20+1))) (v19+1) hm ?_;exact ls
                       ·rw [iN h56] at hm;have h56b:=nB h56;refine aq 4 ?_;refine gox (a2 h40b (a2 h42b (a2 h44b (a2 h46b (a2 h48b (a2 h50b (a2 h52b (a2 h54b h56b)))))))) ?_
                        by_cases h58:((p1.getD x20.toNat 0).toNat:Int)=59
                        ·rw [iP h58] at hm;have h58b:=eQ h58;refine ab ?_;refine gox (a2 h40b (a2 h42b (a2 h44b (a2 h46b (a2 h48b (a2 h50b (a2 h52b (a2 h54b (a2 h56b h58b))))))))) ?_;refine hk _ _ ?_;clear hk hp k kp;refine aj rfl rfl ?_;obtain ⟨⟨hg59a,⟨hg59bx,hg59by⟩⟩,hm⟩:=gd hm;refine ax [144,215,216,217,218,219,220,221,222,223,224] ?_;refine bU [.box [.int .i64 0,.int .i64 0],.arr 4 (v19+1) 35 ((l18++(lit ([(aa.mk 4 x20 ((p1.take ((IntKind.wrap .i64 (x20+1)).toNat)).drop x20.toNat) 0)]:List aa))).map aa.enc),.arr 4 0 35 ((lit ([(aa.mk 4 x20 ((p1.take ((IntKind.wrap .i64 (x20+1)).toNat)).drop x20.toNat) 0)]:List aa)).map aa.enc)] ?_;refine cB ?_;refine ap (ap ?_);refine aH ((l18++(lit ([(aa.mk 4 x20 ((p1.take ((IntKind.wrap .i64 (x20+1)).toNat)).drop x20.toNat) 0)]:List aa))),(IntKind.wrap .i64 (x20+1))) (v19+1) hm ?_;exact ls
                        ·rw [iN h58] at hm;have h58b:=nB h58;refine aq 4 ?_;refine gox (a2 h40b (a2 h42b (a2 h44b (a2 h46b (a2 h48b (a2 h50b (a2 h52b (a2 h54b (a2 h56b h58b))))))))) ?_
                         by_cases h60:((p1.getD x20.toNat 0).toNat:Int)=58
                         ·rw [iP h60] at hm;have h60b:=eQ h60;refine ab ?_;refine gox (a2 h40b (a2 h42b (a2 h44b (a2 h46b (a2 h48b (a2 h50b (a2 h52b (a2 h54b (a2 h56b (a2 h58b h60b)))))))))) ?_;refine hk _ _ ?_;clear hk hp k kp;refine aj rfl rfl ?_;obtain ⟨⟨hg61a,⟨hg61bx,hg61by⟩⟩,hm⟩:=gd hm;refine ax [144,215,216,217,218,219,220,221,222,223,224] ?_;refine bU [.box [.int .i64 0,.int .i64 0],.arr 4 (v19+1) 35 ((l18++(lit ([(aa.mk 4 x20 ((p1.take ((IntKind.wrap .i64 (x20+1)).toNat)).drop x20.toNat) 0)]:List aa))).map aa.enc),.arr 4 0 35 ((lit ([(aa.mk 4 x20 ((p1.take ((IntKind.wrap .i64 (x20+1)).toNat)).drop x20.toNat) 0)]:List aa)).map aa.enc)] ?_;refine cB ?_;refine ap (ap ?_);refine aH ((l18++(lit ([(aa.mk 4 x20 ((p1.take ((IntKind.wrap .i64 (x20+1)).toNat)).drop x20.toNat) 0)]:List aa))),(IntKind.wrap .i64 (x20+1))) (v19+1) hm ?_;exact ls
                         ·rw [iN h60] at hm;have h60b:=nB h60;refine aq 4 ?_;refine gox (a2 h40b (a2 h42b (a2 h44b (a2 h46b (a2 h48b (a2 h50b (a2 h52b (a2 h54b (a2 h56b (a2 h58b h60b)))))))))) ?_
                          by_cases h62:((p1.getD x20.toNat 0).toNat:Int)=43
                          ·rw [iP h62] at hm;have h62b:=eQ h62;refine ab ?_;refine gox (a2 h40b (a2 h42b (a2 h44b (a2 h46b (a2 h48b (a2 h50b (a2 h52b (a2 h54b (a2 h56b (a2 h58b (a2 h60b h62b))))))))))) ?_;refine hk _ _ ?_;clear hk hp k kp;refine aj rfl rfl ?_;obtain ⟨⟨hg63a,⟨hg63bx,hg63by⟩⟩,hm⟩:=gd hm;refine ax [144,215,216,217,218,219,220,221,222,223,224] ?_;refine bU [.box [.int .i64 0,.int .i64 0],.arr 4 (v19+1) 35 ((l18++(lit ([(aa.mk 4 x20 ((p1.take ((IntKind.wrap .i64 (x20+1)).toNat)).drop x20.toNat) 0)]:List aa))).map aa.enc),.arr 4 0 35 ((lit ([(aa.mk 4 x20 ((p1.take ((IntKind.wrap .i64 (x20+1)).toNat)).drop x20.toNat) 0)]:List aa)).map aa.enc)] ?_;refine cB ?_;refine ap (ap ?_);refine aH ((l18++(lit ([(aa.mk 4 x20 ((p1.take ((IntKind.wrap .i64 (x20+1)).toNat)).drop x20.toNat) 0)]:List aa))),(IntKind.wrap .i64 (x20+1))) (v19+1) hm ?_;exact ls
                          ·rw [iN h62] at hm;have h62b:=nB h62;refine aq 4 ?_;refine gox (a2 h40b (a2 h42b (a2 h44b (a2 h46b (a2 h48b (a2 h50b (a2 h52b (a2 h54b (a2 h56b (a2 h58b (a2 h60b h62b))))))))))) ?_
                           by_cases h64:((p1.getD x20.toNat 0).toNat:Int)=45
                           ·rw [iP h64] at hm;have h64b:=eQ h64;refine ab ?_;refine gox (a2 h40b (a2 h42b (a2 h44b (a2 h46b (a2 h48b (a2 h50b (a2 h52b (a2 h54b (a2 h56b (a2 h58b (a2 h60b (a2 h62b h64b)))))))))))) ?_;refine hk _ _ ?_;clear hk hp k kp;refine aj rfl rfl ?_;obtain ⟨⟨hg65a,⟨hg65bx,hg65by⟩⟩,hm⟩:=gd hm;refine ax [144,215,216,217,218,219,220,221,222,223,224] ?_;refine bU [.box [.int .i64 0,.int .i64 0],.arr 4 (v19+1) 35 ((l18++(lit ([(aa.mk 4 x20 ((p1.take ((IntKind.wrap .i64 (x20+1)).toNat)).drop x20.toNat) 0)]:List aa))).map aa.enc),.arr 4 0 35 ((lit ([(aa.mk 4 x20 ((p1.take ((IntKind.wrap .i64 (x20+1)).toNat)).drop x20.toNat) 0)]:List aa)).map aa.enc)] ?_;refine cB ?_;refine ap (ap ?_);refine aH ((l18++(lit ([(aa.mk 4 x20 ((p1.take ((IntKind.wrap .i64 (x20+1)).toNat)).drop x20.toNat) 0)]:List aa))),(IntKind.wrap .i64 (x20+1))) (v19+1) hm ?_;exact ls
                           ·rw [iN h64] at hm;have h64b:=nB h64;refine aq 4 ?_;refine gox (a2 h40b (a2 h42b (a2 h44b (a2 h46b (a2 h48b (a2 h50b (a2 h52b (a2 h54b (a2 h56b (a2 h58b (a2 h60b (a2 h62b h64b)))))))))))) ?_
                            by_cases h66:((p1.getD x20.toNat 0).toNat:Int)=42
                            ·rw [iP h66] at hm;have h66b:=eQ h66;refine ab ?_;refine gox (a2 h40b (a2 h42b (a2 h44b (a2 h46b (a2 h48b (a2 h50b (a2 h52b (a2 h54b (a2 h56b (a2 h58b (a2 h60b (a2 h62b (a2 h64b h66b))))))))))))) ?_;refine hk _ _ ?_;clear hk hp k kp;refine aj rfl rfl ?_;obtain ⟨⟨hg67a,⟨hg67bx,hg67by⟩⟩,hm⟩:=gd hm;refine ax [144,215,216,217,218,219,220,221,222,223,224] ?_;refine bU [.box [.int .i64 0,.int .i64 0],.arr 4 (v19+1) 35 ((l18++(lit ([(aa.mk 4 x20 ((p1.take ((IntKind.wrap .i64 (x20+1)).toNat)).drop x20.toNat) 0)]:List aa))).map aa.enc),.arr 4 0 35 ((lit ([(aa.mk 4 x20 ((p1.take ((IntKind.wrap .i64 (x20+1)).toNat)).drop x20.toNat) 0)]:List aa)).map aa.enc)] ?_;refine cB ?_;refine ap (ap ?_);refine aH ((l18++(lit ([(aa.mk 4 x20 ((p1.take ((IntKind.wrap .i64 (x20+1)).toNat)).drop x20.toNat) 0)]:List aa))),(IntKind.wrap .i64 (x20+1))) (v19+1) hm ?_;exact ls
                            ·rw [iN h66] at hm;have h66b:=nB h66;refine aq 4 ?_;refine gox (a2 h40b (a2 h42b (a2 h44b (a2 h46b (a2 h48b (a2 h50b (a2 h52b (a2 h54b (a2 h56b (a2 h58b (a2 h60b (a2 h62b (a2 h64b h66b))))))))))))) ?_
                             by_cases h68:((p1.getD x20.toNat 0).toNat:Int)=47
                             ·rw [iP h68] at hm;have h68b:=eQ h68;refine ab ?_;refine gox (a2 h40b (a2 h42b (a2 h44b (a2 h46b (a2 h48b (a2 h50b (a2 h52b (a2 h54b (a2 h56b (a2 h58b (a2 h60b (a2 h62b (a2 h64b (a2 h66b h68b)))))))))))))) ?_;refine hk _ _ ?_;clear hk hp k kp;refine aj rfl rfl ?_;obtain ⟨⟨hg69a,⟨hg69bx,hg69by⟩⟩,hm⟩:=gd hm;refine ax [144,215,216,217,218,219,220,221,222,223,224] ?_;refine bU [.box [.int .i64 0,.int .i64 0],.arr 4 (v19+1) 35 ((l18++(lit ([(aa.mk 4 x20 ((p1.take ((IntKind.wrap .i64 (x20+1)).toNat)).drop x20.toNat) 0)]:List aa))).map aa.enc),.arr 4 0 35 ((lit ([(aa.mk 4 x20 ((p1.take ((IntKind.wrap .i64 (x20+1)).toNat)).drop x20.toNat) 0)]:List aa)).map aa.enc)] ?_;refine cB ?_;refine ap (ap ?_);refine aH ((l18++(lit ([(aa.mk 4 x20 ((p1.take ((IntKind.wrap .i64 (x20+1)).toNat)).drop x20.toNat) 0)]:List aa))),(IntKind.wrap .i64 (x20+1))) (v19+1) hm ?_;exact ls
                             ·rw [iN h68] at hm;have h68b:=nB h68;refine aq 4 ?_;refine gox (a2 h40b (a2 h42b (a2 h44b (a2 h46b (a2 h48b (a2 h50b (a2 h52b (a2 h54b (a2 h56b (a2 h58b (a2 h60b (a2 h62b (a2 h64b (a2 h66b h68b)))))))))))))) ?_
                              by_cases h70:((p1.getD x20.toNat 0).toNat:Int)=37
                              ·rw [iP h70] at hm;have h70b:=eQ h70;refine ab ?_;refine gox (a2 h40b (a2 h42b (a2 h44b (a2 h46b (a2 h48b (a2 h50b (a2 h52b (a2 h54b (a2 h56b (a2 h58b (a2 h60b (a2 h62b (a2 h64b (a2 h66b (a2 h68b h70b))))))))))))))) ?_;refine hk _ _ ?_;clear hk hp k kp;refine aj rfl rfl ?_;obtain ⟨⟨hg71a,⟨hg71bx,hg71by⟩⟩,hm⟩:=gd hm;refine ax [144,215,216,217,218,219,220,221,222,223,224] ?_;refine bU [.box [.int .i64 0,.int .i64 0],.arr 4 (v19+1) 35 ((l18++(lit ([(aa.mk 4 x20 ((p1.take ((IntKind.wrap .i64 (x20+1)).toNat)).drop x20.toNat) 0)]:List aa))).map aa.enc),.arr 4 0 35 ((lit ([(aa.mk 4 x20 ((p1.take ((IntKind.wrap .i64 (x20+1)).toNat)).drop x20.toNat) 0)]:List aa)).map aa.enc)] ?_;refine cB ?_;refine ap (ap ?_);refine aH ((l18++(lit ([(aa.mk 4 x20 ((p1.take ((IntKind.wrap .i64 (x20+1)).toNat)).drop x20.toNat) 0)]:List aa))),(IntKind.wrap .i64 (x20+1))) (v19+1) hm ?_;exact ls
                              ·rw [iN h70] at hm;have h70b:=nB h70;refine aq 4 ?_;refine gox (a2 h40b (a2 h42b (a2 h44b (a2 h46b (a2 h48b (a2 h50b (a2 h52b (a2 h54b (a2 h56b (a2 h58b (a2 h60b (a2 h62b (a2 h64b (a2 h66b (a2 h68b h70b))))))))))))))) ?_
                               by_cases h72:((p1.getD x20.toNat 0).toNat:Int)=61
                               ·rw [iP h72] at hm;have h72b:=eQ h72;refine ab ?_;refine gox (a2 h40b (a2 h42b (a2 h44b (a2 h46b (a2 h48b (a2 h50b (a2 h52b (a2 h54b (a2 h56b (a2 h58b (a2 h60b (a2 h62b (a2 h64b (a2 h66b (a2 h68b (a2 h70b h72b)))))))))))))))) ?_;refine hk _ _ ?_;clear hk hp k kp;refine aj rfl rfl ?_;obtain ⟨⟨hg73a,⟨hg73bx,hg73by⟩⟩,hm⟩:=gd hm;refine ax [144,215,216,217,218,219,220,221,222,223,224] ?_;refine bU [.box [.int .i64 0,.int .i64 0],.arr 4 (v19+1) 35 ((l18++(lit ([(aa.mk 4 x20 ((p1.take ((IntKind.wrap .i64 (x20+1)).toNat)).drop x20.toNat) 0)]:List aa))).map aa.enc),.arr 4 0 35 ((lit ([(aa.mk 4 x20 ((p1.take ((IntKind.wrap .i64 (x20+1)).toNat)).drop x20.toNat) 0)]:List aa)).map aa.enc)] ?_;refine cB ?_;refine ap (ap ?_);refine aH ((l18++(lit ([(aa.mk 4 x20 ((p1.take ((IntKind.wrap .i64 (x20+1)).toNat)).drop x20.toNat) 0)]:List aa))),(IntKind.wrap .i64 (x20+1))) (v19+1) hm ?_;exact ls
                               ·rw [iN h72] at hm;have h72b:=nB h72;refine ab ?_;refine gox (a2 h40b (a2 h42b (a2 h44b (a2 h46b (a2 h48b (a2 h50b (a2 h52b (a2 h54b (a2 h56b (a2 h58b (a2 h60b (a2 h62b (a2 h64b (a2 h66b (a2 h68b (a2 h70b h72b)))))))))))))))) ?_;refine hk _ _ ?_;clear hk hp k kp
                                by_cases h74:((p1.getD x20.toNat 0).toNat:Int)=94
                                ·rw [iP h74] at hm;refine aj rfl (eQ h74) ?_;obtain ⟨⟨hg75a,⟨hg75bx,hg75by⟩⟩,hm⟩:=gd hm;refine ax [144,215,216,217,218,219,220,221,222,223,224] ?_;refine bU [.box [.int .i64 0,.int .i64 0],.arr 4 (v19+1) 35 ((l18++(lit ([(aa.mk 4 x20 ((p1.take ((IntKind.wrap .i64 (x20+1)).toNat)).drop x20.toNat) 0)]:List aa))).map aa.enc),.arr 4 0 35 ((lit ([(aa.mk 4 x20 ((p1.take ((IntKind.wrap .i64 (x20+1)).toNat)).drop x20.toNat) 0)]:List aa)).map aa.enc)] ?_;refine cB ?_;refine ap (ap ?_);refine aH ((l18++(lit ([(aa.mk 4 x20 ((p1.take ((IntKind.wrap .i64 (x20+1)).toNat)).drop x20.toNat) 0)]:List aa))),(IntKind.wrap .i64 (x20+1))) (v19+1) hm ?_;exact ls
                                ·rw [iN h74] at hm;refine ak rfl (nB h74) ?_;refine au [0,4,5,22,23,144] fun k kp hk hp=>?_;refine go ?_;obtain ⟨y45,hc76,hm⟩:=bd hm;refine RP (fun _=>kZ 1 x20 _ hc76) ?_;refine ab ?_;refine go ?_;refine hk _ _ ?_;clear hk hp k kp
                                 refine eI (fL 2 (.c (.tree 4 (([]:List _).map aa.enc))) rfl (by and_intros<;>trivial)) ?_
                                 refine mP ?_;have ho77:=a8 hm hr1;subst ho77;replace hm:some ([],(y45))=some r:=hm1;refine aM ?_;refine aT (aT (eV (aT (bn ?_))))
                                 cases hm
                                 exact kr 0
            ·rw [iN h34] at hm;have h34b:=dF h34;refine ab ?_;refine gox h34b ?_;refine hk _ _ ?_;clear hk hp k kp;refine ak rfl rfl ?_
             by_cases h78:((p1.getD x20.toNat 0).toNat:Int)=40
             ·rw [iP h78] at hm;have h78b:=eQ h78;refine au [6,110,145,146,147,148,149,150,151,152,153,154,155,156,157,158,159,160,161,162,163,164,165,166,167,168,169,170,171,172,173,174,175,176,177,178,179,180,181,182,183,184,185,186,187,188,189,190,191,192,193,194,195,196,197,198,199,200,201,202,203,204,205,206,207,208,209,210,211,212,213,214] fun k kp hk hp=>?_;simp only [List.append];refine gox h78b ?_;refine hk _ _ ?_;clear hk hp k kp;refine aj rfl rfl ?_;obtain ⟨⟨hg79a,⟨hg79bx,hg79by⟩⟩,hm⟩:=gd hm;refine ax [144,215,216,217,218,219,220,221,222,223,224] ?_;refine bU [.box [.int .i64 0,.int .i64 0],.arr 4 (v19+1) 35 ((l18++(lit ([(aa.mk 4 x20 ((p1.take ((IntKind.wrap .i64 (x20+1)).toNat)).drop x20.toNat) 0)]:List aa))).map aa.enc),.arr 4 0 35 ((lit ([(aa.mk 4 x20 ((p1.take ((IntKind.wrap .i64 (x20+1)).toNat)).drop x20.toNat) 0)]:List aa)).map aa.enc)] ?_;refine cB ?_;refine ap (ap ?_);refine aH ((l18++(lit ([(aa.mk 4 x20 ((p1.take ((IntKind.wrap .i64 (x20+1)).toNat)).drop x20.toNat) 0)]:List aa))),(IntKind.wrap .i64 (x20+1))) (v19+1) hm ?_;exact ls
             ·rw [iN h78] at hm;have h78b:=nB h78;refine cR [6,110,145,146,147,148,149,150,151,152,153,154,155,156,157,158,159,160,161,162,163,164,165,166,167,168,169,170,171,172,173,174,175,176,177,178,179,180,181,182,183,184,185,186,187,188,189,190,191,192,193,194,195,196,197,198,199,200,201,202,203,204,205,206,207,208,209,210,211,212,213,214] fun k kp hk hp=>?_;simp only [List.append];refine aq 7 ?_;refine gox h78b ?_
              by_cases h80:((p1.getD x20.toNat 0).toNat:Int)=41
              ·rw [iP h80] at hm;have h80b:=eQ h80;refine ab ?_;refine gox (a2 h78b h80b) ?_;refine hk _ _ ?_;clear hk hp k kp;refine aj rfl rfl ?_;obtain ⟨⟨hg81a,⟨hg81bx,hg81by⟩⟩,hm⟩:=gd hm;refine ax [144,215,216,217,218,219,220,221,222,223,224] ?_;refine bU [.box [.int .i64 0,.int .i64 0],.arr 4 (v19+1) 35 ((l18++(lit ([(aa.mk 4 x20 ((p1.take ((IntKind.wrap .i64 (x20+1)).toNat)).drop x20.toNat) 0)]:List aa))).map aa.enc),.arr 4 0 35 ((lit ([(aa.mk 4 x20 ((p1.take ((IntKind.wrap .i64 (x20+1)).toNat)).drop x20.toNat) 0)]:List aa)).map aa.enc)] ?_;refine cB ?_;refine ap (ap ?_);refine aH ((l18++(lit ([(aa.mk 4 x20 ((p1.take ((IntKind.wrap .i64 (x20+1)).toNat)).drop x20.toNat) 0)]:List aa))),(IntKind.wrap .i64 (x20+1))) (v19+1) hm ?_;exact ls
              ·rw [iN h80] at hm;have h80b:=nB h80;refine aq 4 ?_;refine gox (a2 h78b h80b) ?_
               by_cases h82:((p1.getD x20.toNat 0).toNat:Int)=123
               ·rw [iP h82] at hm;have h82b:=eQ h82;refine ab ?_;refine gox (a2 h78b (a2 h80b h82b)) ?_;refine hk _ _ ?_;clear hk hp k kp;refine aj rfl rfl ?_;obtain ⟨⟨hg83a,⟨hg83bx,hg83by⟩⟩,hm⟩:=gd hm;refine ax [144,215,216,217,218,219,220,221,222,223,224] ?_;refine bU [.box [.int .i64 0,.int .i64 0],.arr 4 (v19+1) 35 ((l18++(lit ([(aa.mk 4 x20 ((p1.take ((IntKind.wrap .i64 (x20+1)).toNat)).drop x20.toNat) 0)]:List aa))).map aa.enc),.arr 4 0 35 ((lit ([(aa.mk 4 x20 ((p1.take ((IntKind.wrap .i64 (x20+1)).toNat)).drop x20.toNat) 0)]:List aa)).map aa.enc)] ?_;refine cB ?_;refine ap (ap ?_);refine aH ((l18++(lit ([(aa.mk 4 x20 ((p1.take ((IntKind.wrap .i64 (x20+1)).toNat)).drop x20.toNat) 0)]:List aa))),(IntKind.wrap .i64 (x20+1))) (v19+1) hm ?_;exact ls
               ·rw [iN h82] at hm;have h82b:=nB h82;refine aq 4 ?_;refine gox (a2 h78b (a2 h80b h82b)) ?_
                by_cases h84:((p1.getD x20.toNat 0).toNat:Int)=125
                ·rw [iP h84] at hm;have h84b:=eQ h84;refine ab ?_;refine gox (a2 h78b (a2 h80b (a2 h82b h84b))) ?_;refine hk _ _ ?_;clear hk hp k kp;refine aj rfl rfl ?_;obtain ⟨⟨hg85a,⟨hg85bx,hg85by⟩⟩,hm⟩:=gd hm;refine ax [144,215,216,217,218,219,220,221,222,223,224] ?_;refine bU [.box [.int .i64 0,.int .i64 0],.arr 4 (v19+1) 35 ((l18++(lit ([(aa.mk 4 x20 ((p1.take ((IntKind.wrap .i64 (x20+1)).toNat)).drop x20.toNat) 0)]:List aa))).map aa.enc),.arr 4 0 35 ((lit ([(aa.mk 4 x20 ((p1.take ((IntKind.wrap .i64 (x20+1)).toNat)).drop x20.toNat) 0)]:List aa)).map aa.enc)] ?_;refine cB ?_;refine ap (ap ?_);refine aH ((l18++(lit ([(aa.mk 4 x20 ((p1.take ((IntKind.wrap .i64 (x20+1)).toNat)).drop x20.toNat) 0)]:List aa))),(IntKind.wrap .i64 (x20+1))) (v19+1) hm ?_;exact ls
                ·rw [iN h84] at hm;have h84b:=nB h84;refine aq 4 ?_;refine gox (a2 h78b (a2 h80b (a2 h82b h84b))) ?_
                 by_cases h86:((p1.getD x20.toNat 0).toNat:Int)=91
                 ·rw [iP h86] at hm;have h86b:=eQ h86;refine ab ?_;refine gox (a2 h78b (a2 h80b (a2 h82b (a2 h84b h86b)))) ?_;refine hk _ _ ?_;clear hk hp k kp;refine aj rfl rfl ?_;obtain ⟨⟨hg87a,⟨hg87bx,hg87by⟩⟩,hm⟩:=gd hm;refine ax [144,215,216,217,218,219,220,221,222,223,224] ?_;refine bU [.box [.int .i64 0,.int .i64 0],.arr 4 (v19+1) 35 ((l18++(lit ([(aa.mk 4 x20 ((p1.take ((IntKind.wrap .i64 (x20+1)).toNat)).drop x20.toNat) 0)]:List aa))).map aa.enc),.arr 4 0 35 ((lit ([(aa.mk 4 x20 ((p1.take ((IntKind.wrap .i64 (x20+1)).toNat)).drop x20.toNat) 0)]:List aa)).map aa.enc)] ?_;refine cB ?_;refine ap (ap ?_);refine aH ((l18++(lit ([(aa.mk 4 x20 ((p1.take ((IntKind.wrap .i64 (x20+1)).toNat)).drop x20.toNat) 0)]:List aa))),(IntKind.wrap .i64 (x20+1))) (v19+1) hm ?_;exact ls
                 ·rw [iN h86] at hm;have h86b:=nB h86;refine aq 4 ?_;refine gox (a2 h78b (a2 h80b (a2 h82b (a2 h84b h86b)))) ?_
                  by_cases h88:((p1.getD x20.toNat 0).toNat:Int)=93
                  ·rw [iP h88] at hm;have h88b:=eQ h88;refine ab ?_;refine gox (a2 h78b (a2 h80b (a2 h82b (a2 h84b (a2 h86b h88b))))) ?_;refine hk _ _ ?_;clear hk hp k kp;refine aj rfl rfl ?_;obtain ⟨⟨hg89a,⟨hg89bx,hg89by⟩⟩,hm⟩:=gd hm;refine ax [144,215,216,217,218,219,220,221,222,223,224] ?_;refine bU [.box [.int .i64 0,.int .i64 0],.arr 4 (v19+1) 35 ((l18++(lit ([(aa.mk 4 x20 ((p1.take ((IntKind.wrap .i64 (x20+1)).toNat)).drop x20.toNat) 0)]:List aa))).map aa.enc),.arr 4 0 35 ((lit ([(aa.mk 4 x20 ((p1.take ((IntKind.wrap .i64 (x20+1)).toNat)).drop x20.toNat) 0)]:List aa)).map aa.enc)] ?_;refine cB ?_;refine ap (ap ?_);refine aH ((l18++(lit ([(aa.mk 4 x20 ((p1.take ((IntKind.wrap .i64 (x20+1)).toNat)).drop x20.toNat) 0)]:List aa))),(IntKind.wrap .i64 (x20+1))) (v19+1) hm ?_;exact ls
                  ·rw [iN h88] at hm;have h88b:=nB h88;refine aq 4 ?_;refine gox (a2 h78b (a2 h80b (a2 h82b (a2 h84b (a2 h86b h88b))))) ?_
                   by_cases h90:((p1.getD x20.toNat 0).toNat:Int)=60
                   ·rw [iP h90] at hm;have h90b:=eQ h90;refine ab ?_;refine gox (a2 h78b (a2 h80b (a2 h82b (a2 h84b (a2 h86b (a2 h88b h90b)))))) ?_;refine hk _ _ ?_;clear hk hp k kp;refine aj rfl rfl ?_;obtain ⟨⟨hg91a,⟨hg91bx,hg91by⟩⟩,hm⟩:=gd hm;refine ax [144,215,216,217,218,219,220,221,222,223,224] ?_;refine bU [.box [.int .i64 0,.int .i64 0],.arr 4 (v19+1) 35 ((l18++(lit ([(aa.mk 4 x20 ((p1.take ((IntKind.wrap .i64 (x20+1)).toNat)).drop x20.toNat) 0)]:List aa))).map aa.enc),.arr 4 0 35 ((lit ([(aa.mk 4 x20 ((p1.take ((IntKind.wrap .i64 (x20+1)).toNat)).drop x20.toNat) 0)]:List aa)).map aa.enc)] ?_;refine cB ?_;refine ap (ap ?_);refine aH ((l18++(lit ([(aa.mk 4 x20 ((p1.take ((IntKind.wrap .i64 (x20+1)).toNat)).drop x20.toNat) 0)]:List aa))),(IntKind.wrap .i64 (x20+1))) (v19+1) hm ?_;exact ls
                   ·rw [iN h90] at hm;have h90b:=nB h90;refine aq 4 ?_;refine gox (a2 h78b (a2 h80b (a2 h82b (a2 h84b (a2 h86b (a2 h88b h90b)))))) ?_
                    by_cases h92:((p1.getD x20.toNat 0).toNat:Int)=62
                    ·rw [iP h92] at hm;have h92b:=eQ h92;refine ab ?_;refine gox (a2 h78b (a2 h80b (a2 h82b (a2 h84b (a2 h86b (a2 h88b (a2 h90b h92b))))))) ?_;refine hk _ _ ?_;clear hk hp k kp;refine aj rfl rfl ?_;obtain ⟨⟨hg93a,⟨hg93bx,hg93by⟩⟩,hm⟩:=gd hm;refine ax [144,215,216,217,218,219,220,221,222,223,224] ?_;refine bU [.box [.int .i64 0,.int .i64 0],.arr 4 (v19+1) 35 ((l18++(lit ([(aa.mk 4 x20 ((p1.take ((IntKind.wrap .i64 (x20+1)).toNat)).drop x20.toNat) 0)]:List aa))).map aa.enc),.arr 4 0 35 ((lit ([(aa.mk 4 x20 ((p1.take ((IntKind.wrap .i64 (x20+1)).toNat)).drop x20.toNat) 0)]:List aa)).map aa.enc)] ?_;refine cB ?_;refine ap (ap ?_);refine aH ((l18++(lit ([(aa.mk 4 x20 ((p1.take ((IntKind.wrap .i64 (x20+1)).toNat)).drop x20.toNat) 0)]:List aa))),(IntKind.wrap .i64 (x20+1))) (v19+1) hm ?_;exact ls
                    ·rw [iN h92] at hm;have h92b:=nB h92;refine aq 4 ?_;refine gox (a2 h78b (a2 h80b (a2 h82b (a2 h84b (a2 h86b (a2 h88b (a2 h90b h92b))))))) ?_
                     by_cases h94:((p1.getD x20.toNat 0).toNat:Int)=44
                     ·rw [iP h94] at hm;have h94b:=eQ h94;refine ab ?_;refine gox (a2 h78b (a2 h80b (a2 h82b (a2 h84b (a2 h86b (a2 h88b (a2 h90b (a2 h92b h94b)))))))) ?_;refine hk _ _ ?_;clear hk hp k kp;refine aj rfl rfl ?_;obtain ⟨⟨hg95a,⟨hg95bx,hg95by⟩⟩,hm⟩:=gd hm;refine ax [144,215,216,217,218,219,220,221,222,223,224] ?_;refine bU [.box [.int .i64 0,.int .i64 0],.arr 4 (v19+1) 35 ((l18++(lit ([(aa.mk 4 x20 ((p1.take ((IntKind.wrap .i64 (x20+1)).toNat)).drop x20.toNat) 0)]:List aa))).map aa.enc),.arr 4 0 35 ((lit ([(aa.mk 4 x20 ((p1.take ((IntKind.wrap .i64 (x20+1)).toNat)).drop x20.toNat) 0)]:List aa)).map aa.enc)] ?_;refine cB ?_;refine ap (ap ?_);refine aH ((l18++(lit ([(aa.mk 4 x20 ((p1.take ((IntKind.wrap .i64 (x20+1)).toNat)).drop x20.toNat) 0)]:List aa))),(IntKind.wrap .i64 (x20+1))) (v19+1) hm ?_;exact ls
                     ·rw [iN h94] at hm;have h94b:=nB h94;refine aq 4 ?_;refine gox (a2 h78b (a2 h80b (a2 h82b (a2 h84b (a2 h86b (a2 h88b (a2 h90b (a2 h92b h94b)))))))) ?_
                      by_cases h96:((p1.getD x20.toNat 0).toNat:Int)=59
                      ·rw [iP h96] at hm;have h96b:=eQ h96;refine ab ?_;refine gox (a2 h78b (a2 h80b (a2 h82b (a2 h84b (a2 h86b (a2 h88b (a2 h90b (a2 h92b (a2 h94b h96b))))))))) ?_;refine hk _ _ ?_;clear hk hp k kp;refine aj rfl rfl ?_;obtain ⟨⟨hg97a,⟨hg97bx,hg97by⟩⟩,hm⟩:=gd hm;refine ax [144,215,216,217,218,219,220,221,222,223,224] ?_;refine bU [.box [.int .i64 0,.int .i64 0],.arr 4 (v19+1) 35 ((l18++(lit ([(aa.mk 4 x20 ((p1.take ((IntKind.wrap .i64 (x20+1)).toNat)).drop x20.toNat) 0)]:List aa))).map aa.enc),.arr 4 0 35 ((lit ([(aa.mk 4 x20 ((p1.take ((IntKind.wrap .i64 (x20+1)).toNat)).drop x20.toNat) 0)]:List aa)).map aa.enc)] ?_;refine cB ?_;refine ap (ap ?_);refine aH ((l18++(lit ([(aa.mk 4 x20 ((p1.take ((IntKind.wrap .i64 (x20+1)).toNat)).drop x20.toNat) 0)]:List aa))),(IntKind.wrap .i64 (x20+1))) (v19+1) hm ?_;exact ls
                      ·rw [iN h96] at hm;have h96b:=nB h96;refine aq 4 ?_;refine gox (a2 h78b (a2 h80b (a2 h82b (a2 h84b (a2 h86b (a2 h88b (a2 h90b (a2 h92b (a2 h94b h96b))))))))) ?_
                       by_cases h98:((p1.getD x20.toNat 0).toNat:Int)=58
                       ·rw [iP h98] at hm;have h98b:=eQ h98;refine ab ?_;refine gox (a2 h78b (a2 h80b (a2 h82b (a2 h84b (a2 h86b (a2 h88b (a2 h90b (a2 h92b (a2 h94b (a2 h96b h98b)))))))))) ?_;refine hk _ _ ?_;clear hk hp k kp;refine aj rfl rfl ?_;obtain ⟨⟨hg99a,⟨hg99bx,hg99by⟩⟩,hm⟩:=gd hm;refine ax [144,215,216,217,218,219,220,221,222,223,224] ?_;refine bU [.box [.int .i64 0,.int .i64 0],.arr 4 (v19+1) 35 ((l18++(lit ([(aa.mk 4 x20 ((p1.take ((IntKind.wrap .i64 (x20+1)).toNat)).drop x20.toNat) 0)]:List aa))).map aa.enc),.arr 4 0 35 ((lit ([(aa.mk 4 x20 ((p1.take ((IntKind.wrap .i64 (x20+1)).toNat)).drop x20.toNat) 0)]:List aa)).map aa.enc)] ?_;refine cB ?_;refine ap (ap ?_);refine aH ((l18++(lit ([(aa.mk 4 x20 ((p1.take ((IntKind.wrap .i64 (x20+1)).toNat)).drop x20.toNat) 0)]:List aa))),(IntKind.wrap .i64 (x20+1))) (v19+1) hm ?_;exact ls
                       ·rw [iN h98] at hm;have h98b:=nB h98;refine aq 4 ?_;refine gox (a2 h78b (a2 h80b (a2 h82b (a2 h84b (a2 h86b (a2 h88b (a2 h90b (a2 h92b (a2 h94b (a2 h96b h98b)))))))))) ?_
                        by_cases h100:((p1.getD x20.toNat 0).toNat:Int)=43
                        ·rw [iP h100] at hm;have h100b:=eQ h100;refine ab ?_;refine gox (a2 h78b (a2 h80b (a2 h82b (a2 h84b (a2 h86b (a2 h88b (a2 h90b (a2 h92b (a2 h94b (a2 h96b (a2 h98b h100b))))))))))) ?_;refine hk _ _ ?_;clear hk hp k kp;refine aj rfl rfl ?_;obtain ⟨⟨hg101a,⟨hg101bx,hg101by⟩⟩,hm⟩:=gd hm;refine ax [144,215,216,217,218,219,220,221,222,223,224] ?_;refine bU [.box [.int .i64 0,.int .i64 0],.arr 4 (v19+1) 35 ((l18++(lit ([(aa.mk 4 x20 ((p1.take ((IntKind.wrap .i64 (x20+1)).toNat)).drop x20.toNat) 0)]:List aa))).map aa.enc),.arr 4 0 35 ((lit ([(aa.mk 4 x20 ((p1.take ((IntKind.wrap .i64 (x20+1)).toNat)).drop x20.toNat) 0)]:List aa)).map aa.enc)] ?_;refine cB ?_;refine ap (ap ?_);refine aH ((l18++(lit ([(aa.mk 4 x20 ((p1.take ((IntKind.wrap .i64 (x20+1)).toNat)).drop x20.toNat) 0)]:List aa))),(IntKind.wrap .i64 (x20+1))) (v19+1) hm ?_;exact ls
                        ·rw [iN h100] at hm;have h100b:=nB h100;refine aq 4 ?_;refine gox (a2 h78b (a2 h80b (a2 h82b (a2 h84b (a2 h86b (a2 h88b (a2 h90b (a2 h92b (a2 h94b (a2 h96b (a2 h98b h100b))))))))))) ?_
                         by_cases h102:((p1.getD x20.toNat 0).toNat:Int)=45
                         ·rw [iP h102] at hm;have h102b:=eQ h102;refine ab ?_;refine gox (a2 h78b (a2 h80b (a2 h82b (a2 h84b (a2 h86b (a2 h88b (a2 h90b (a2 h92b (a2 h94b (a2 h96b (a2 h98b (a2 h100b h102b)))))))))))) ?_;refine hk _ _ ?_;clear hk hp k kp;refine aj rfl rfl ?_;obtain ⟨⟨hg103a,⟨hg103bx,hg103by⟩⟩,hm⟩:=gd hm;refine ax [144,215,216,217,218,219,220,221,222,223,224] ?_;refine bU [.box [.int .i64 0,.int .i64 0],.arr 4 (v19+1) 35 ((l18++(lit ([(aa.mk 4 x20 ((p1.take ((IntKind.wrap .i64 (x20+1)).toNat)).drop x20.toNat) 0)]:List aa))).map aa.enc),.arr 4 0 35 ((lit ([(aa.mk 4 x20 ((p1.take ((IntKind.wrap .i64 (x20+1)).toNat)).drop x20.toNat) 0)]:List aa)).map aa.enc)] ?_;refine cB ?_;refine ap (ap ?_);refine aH ((l18++(lit ([(aa.mk 4 x20 ((p1.take ((IntKind.wrap .i64 (x20+1)).toNat)).drop x20.toNat) 0)]:List aa))),(IntKind.wrap .i64 (x20+1))) (v19+1) hm ?_;exact ls
                         ·rw [iN h102] at hm;have h102b:=nB h102;refine aq 4 ?_;refine gox (a2 h78b (a2 h80b (a2 h82b (a2 h84b (a2 h86b (a2 h88b (a2 h90b (a2 h92b (a2 h94b (a2 h96b (a2 h98b (a2 h100b h102b)))))))))))) ?_
                          by_cases h104:((p1.getD x20.toNat 0).toNat:Int)=42
                          ·rw [iP h104] at hm;have h104b:=eQ h104;refine ab ?_;refine gox (a2 h78b (a2 h80b (a2 h82b (a2 h84b (a2 h86b (a2 h88b (a2 h90b (a2 h92b (a2 h94b (a2 h96b (a2 h98b (a2 h100b (a2 h102b h104b))))))))))))) ?_;refine hk _ _ ?_;clear hk hp k kp;refine aj rfl rfl ?_;obtain ⟨⟨hg105a,⟨hg105bx,hg105by⟩⟩,hm⟩:=gd hm;refine ax [144,215,216,217,218,219,220,221,222,223,224] ?_;refine bU [.box [.int .i64 0,.int .i64 0],.arr 4 (v19+1) 35 ((l18++(lit ([(aa.mk 4 x20 ((p1.take ((IntKind.wrap .i64 (x20+1)).toNat)).drop x20.toNat) 0)]:List aa))).map aa.enc),.arr 4 0 35 ((lit ([(aa.mk 4 x20 ((p1.take ((IntKind.wrap .i64 (x20+1)).toNat)).drop x20.toNat) 0)]:List aa)).map aa.enc)] ?_;refine cB ?_;refine ap (ap ?_);refine aH ((l18++(lit ([(aa.mk 4 x20 ((p1.take ((IntKind.wrap .i64 (x20+1)).toNat)).drop x20.toNat) 0)]:List aa))),(IntKind.wrap .i64 (x20+1))) (v19+1) hm ?_;exact ls
                          ·rw [iN h104] at hm;have h104b:=nB h104;refine aq 4 ?_;refine gox (a2 h78b (a2 h80b (a2 h82b (a2 h84b (a2 h86b (a2 h88b (a2 h90b (a2 h92b (a2 h94b (a2 h96b (a2 h98b (a2 h100b (a2 h102b h104b))))))))))))) ?_
                           by_cases h106:((p1.getD x20.toNat 0).toNat:Int)=47
                           ·rw [iP h106] at hm;have h106b:=eQ h106;refine ab ?_;refine gox (a2 h78b (a2 h80b (a2 h82b (a2 h84b (a2 h86b (a2 h88b (a2 h90b (a2 h92b (a2 h94b (a2 h96b (a2 h98b (a2 h100b (a2 h102b (a2 h104b h106b)))))))))))))) ?_;refine hk _ _ ?_;clear hk hp k kp;refine aj rfl rfl ?_;obtain ⟨⟨hg107a,⟨hg107bx,hg107by⟩⟩,hm⟩:=gd hm;refine ax [144,215,216,217,218,219,220,221,222,223,224] ?_;refine bU [.box [.int .i64 0,.int .i64 0],.arr 4 (v19+1) 35 ((l18++(lit ([(aa.mk 4 x20 ((p1.take ((IntKind.wrap .i64 (x20+1)).toNat)).drop x20.toNat) 0)]:List aa))).map aa.enc),.arr 4 0 35 ((lit ([(aa.mk 4 x20 ((p1.take ((IntKind.wrap .i64 (x20+1)).toNat)).drop x20.toNat) 0)]:List aa)).map aa.enc)] ?_;refine cB ?_;refine ap (ap ?_);refine aH ((l18++(lit ([(aa.mk 4 x20 ((p1.take ((IntKind.wrap .i64 (x20+1)).toNat)).drop x20.toNat) 0)]:List aa))),(IntKind.wrap .i64 (x20+1))) (v19+1) hm ?_;exact ls
                           ·rw [iN h106] at hm;have h106b:=nB h106;refine aq 4 ?_;refine gox (a2 h78b (a2 h80b (a2 h82b (a2 h84b (a2 h86b (a2 h88b (a2 h90b (a2 h92b (a2 h94b (a2 h96b (a2 h98b (a2 h100b (a2 h102b (a2 h104b h106b)))))))))))))) ?_
                            by_cases h108:((p1.getD x20.toNat 0).toNat:Int)=37
                            ·rw [iP h108] at hm;have h108b:=eQ h108;refine ab ?_;refine gox (a2 h78b (a2 h80b (a2 h82b (a2 h84b (a2 h86b (a2 h88b (a2 h90b (a2 h92b (a2 h94b (a2 h96b (a2 h98b (a2 h100b (a2 h102b (a2 h104b (a2 h106b h108b))))))))))))))) ?_;refine hk _ _ ?_;clear hk hp k kp;refine aj rfl rfl ?_;obtain ⟨⟨hg109a,⟨hg109bx,hg109by⟩⟩,hm⟩:=gd hm;refine ax [144,215,216,217,218,219,220,221,222,223,224] ?_;refine bU [.box [.int .i64 0,.int .i64 0],.arr 4 (v19+1) 35 ((l18++(lit ([(aa.mk 4 x20 ((p1.take ((IntKind.wrap .i64 (x20+1)).toNat)).drop x20.toNat) 0)]:List aa))).map aa.enc),.arr 4 0 35 ((lit ([(aa.mk 4 x20 ((p1.take ((IntKind.wrap .i64 (x20+1)).toNat)).drop x20.toNat) 0)]:List aa)).map aa.enc)] ?_;refine cB ?_;refine ap (ap ?_);refine aH ((l18++(lit ([(aa.mk 4 x20 ((p1.take ((IntKind.wrap .i64 (x20+1)).toNat)).drop x20.toNat) 0)]:List aa))),(IntKind.wrap .i64 (x20+1))) (v19+1) hm ?_;exact ls
                            ·rw [iN h108] at hm;have h108b:=nB h108;refine aq 4 ?_;refine gox (a2 h78b (a2 h80b (a2 h82b (a2 h84b (a2 h86b (a2 h88b (a2 h90b (a2 h92b (a2 h94b (a2 h96b (a2 h98b (a2 h100b (a2 h102b (a2 h104b (a2 h106b h108b))))))))))))))) ?_
                             by_cases h110:((p1.getD x20.toNat 0).toNat:Int)=61
                             ·rw [iP h110] at hm;have h110b:=eQ h110;refine ab ?_;refine gox (a2 h78b (a2 h80b (a2 h82b (a2 h84b (a2 h86b (a2 h88b (a2 h90b (a2 h92b (a2 h94b (a2 h96b (a2 h98b (a2 h100b (a2 h102b (a2 h104b (a2 h106b (a2 h108b h110b)))))))))))))))) ?_;refine hk _ _ ?_;clear hk hp k kp;refine aj rfl rfl ?_;obtain ⟨⟨hg111a,⟨hg111bx,hg111by⟩⟩,hm⟩:=gd hm;refine ax [144,215,216,217,218,219,220,221,222,223,224] ?_;refine bU [.box [.int .i64 0,.int .i64 0],.arr 4 (v19+1) 35 ((l18++(lit ([(aa.mk 4 x20 ((p1.take ((IntKind.wrap .i64 (x20+1)).toNat)).drop x20.toNat) 0)]:List aa))).map aa.enc),.arr 4 0 35 ((lit ([(aa.mk 4 x20 ((p1.take ((IntKind.wrap .i64 (x20+1)).toNat)).drop x20.toNat) 0)]:List aa)).map aa.enc)] ?_;refine cB ?_;refine ap (ap ?_);refine aH ((l18++(lit ([(aa.mk 4 x20 ((p1.take ((IntKind.wrap .i64 (x20+1)).toNat)).drop x20.toNat) 0)]:List aa))),(IntKind.wrap .i64 (x20+1))) (v19+1) hm ?_;exact ls
                             ·rw [iN h110] at hm;have h110b:=nB h110;refine ab ?_;refine gox (a2 h78b (a2 h80b (a2 h82b (a2 h84b (a2 h86b (a2 h88b (a2 h90b (a2 h92b (a2 h94b (a2 h96b (a2 h98b (a2 h100b (a2 h102b (a2 h104b (a2 h106b (a2 h108b h110b)))))))))))))))) ?_;refine hk _ _ ?_;clear hk hp k kp
                              by_cases h112:((p1.getD x20.toNat 0).toNat:Int)=94
                              ·rw [iP h112] at hm;refine aj rfl (eQ h112) ?_;obtain ⟨⟨hg113a,⟨hg113bx,hg113by⟩⟩,hm⟩:=gd hm;refine ax [144,215,216,217,218,219,220,221,222,223,224] ?_;refine bU [.box [.int .i64 0,.int .i64 0],.arr 4 (v19+1) 35 ((l18++(lit ([(aa.mk 4 x20 ((p1.take ((IntKind.wrap .i64 (x20+1)).toNat)).drop x20.toNat) 0)]:List aa))).map aa.enc),.arr 4 0 35 ((lit ([(aa.mk 4 x20 ((p1.take ((IntKind.wrap .i64 (x20+1)).toNat)).drop x20.toNat) 0)]:List aa)).map aa.enc)] ?_;refine cB ?_;refine ap (ap ?_);refine aH ((l18++(lit ([(aa.mk 4 x20 ((p1.take ((IntKind.wrap .i64 (x20+1)).toNat)).drop x20.toNat) 0)]:List aa))),(IntKind.wrap .i64 (x20+1))) (v19+1) hm ?_;exact ls
                              ·rw [iN h112] at hm;refine ak rfl (nB h112) ?_;refine au [0,4,5,22,23,144] fun k kp hk hp=>?_;refine go ?_;obtain ⟨y46,hc114,hm⟩:=bd hm;refine RP (fun _=>kZ 1 x20 _ hc114) ?_;refine ab ?_;refine go ?_;refine hk _ _ ?_;clear hk hp k kp
                               refine eI (fL 2 (.c (.tree 4 (([]:List _).map aa.enc))) rfl (by and_intros<;>trivial)) ?_
                               refine mP ?_;have ho115:=a8 hm hr1;subst ho115;replace hm:some ([],(y46))=some r:=hm1;refine aM ?_;refine aT (aT (eV (aT (bn ?_))))
                               cases hm
                               exact kr 0
    ·rw [iN h3] at hm;refine ak rfl (dF h3) ?_;refine e7 ?_;have ho116:=a8 hm hr1;subst ho116;replace hm:iw l18=some r:=hm1;refine eC (cM (bx ?_));refine ao l18 v19 hm ?_;exact ls
  ·rintro l4 v5 hm;replace hm:iw l4=some r:=hm;refine bw ?_;unfold iw at hm;refine ax [4,227,228] ?_;refine kj (aB 1 rfl) ?_;refine aM ?_
   cases hm
   exact kr 0
theorem l0(fuel:Nat)(p1:List UInt8)(p2:Int)(r:Bool)(hm:fX fuel p1 p2=some r):eU Tryd.prog 3 [.c (.str p1),.c (.int .i64 p2)] (.c (.bool r)):=by
 refine aN 80 [.tmp 4] Tryd.func3 rfl rfl rfl (by kernel_rfl) (by simp) ?_;refine bJ ?_;unfold fX at hm;refine ax [4] ?_;refine aR fun k1 hk1=>?_;refine au [12] fun k kp hk hp=>?_;refine go ?_;obtain ⟨y1,hc1,hm⟩:=bd hm;refine RP (fun _=>lZ fuel  _ hc1) ?_;refine ab ?_;refine go ?_;refine hk _ _ ?_;clear hk hp k kp
 by_cases h2:y1=true
 ·rw [iP h2] at hm;refine ak rfl (by rw [show y1=true from (h2)];rfl) ?_;refine av ?_;refine aL (hk1 _ _ ?_);refine aR fun k2 hk2=>?_;refine cR [13,14,15,16,17,18,19,20] fun k kp hk hp=>?_;refine aq 4 ?_;refine go ?_
  by_cases h3:(p1.length:Int)=0
  ·rw [iP h3] at hm;have h3b:=eQ h3;refine ab ?_;refine gox h3b ?_;refine hk _ _ ?_;clear hk hp k kp;refine aj rfl rfl ?_;refine ax [0,1,21] ?_;refine aM ?_;refine cX ?_
   cases hm
   exact kr 0
  ·rw [iN h3] at hm;have h3b:=nB h3;refine ab ?_;refine gox h3b ?_;refine hk _ _ ?_;clear hk hp k kp
   by_cases h4:(p1.length:Int)>6000
   ·rw [iP h4] at hm;refine aj rfl (dT h4) ?_;refine ax [0,1,21] ?_;refine aM ?_;refine cX ?_
    cases hm
    exact kr 0
   ·rw [iN h4] at hm;refine ak rfl (dF h4) ?_;refine av ?_;refine aL (hk2 _ _ ?_);refine au [21,22,23,24,25,26] fun k kp hk hp=>?_;refine go ?_;obtain ⟨y2,hc5,hm⟩:=bd hm;refine RP (fun _=>iD fuel p1 _ hc5) ?_;refine ab ?_;refine go ?_;refine hk _ _ ?_;clear hk hp k kp;refine aR fun k3 hk3=>?_;refine ax [6,27,28] ?_
    by_cases h6:¬ ((y2.2).code)=0
    ·rw [iP h6] at hm;refine aj rfl (bne_iff_ne.2 h6) ?_;refine ax [0,1,5,29] ?_;refine aM ?_;refine cX ?_
     cases hm
     exact kr 0
    ·rw [iN h6] at hm;refine ak rfl (bne_eq_false_iff_eq.2 (Decidable.not_not.1 h6)) ?_;refine av ?_;refine aL (hk3 _ _ ?_);refine au [8,29,30,31,32,33,34] fun k kp hk hp=>?_;refine go ?_;obtain ⟨y3,hc7,hm⟩:=bd hm;refine RP (fun _=>pJ p1 _ hc7) ?_;refine ab ?_;refine go ?_;refine hk _ _ ?_;clear hk hp k kp;obtain ⟨⟨hg8a,hg8b⟩,hm⟩:=gd hm;refine gG (em aa.enc y3.1 ((IntKind.wrap .i64 ((y3.1.length:Int) - 1)).toNat)) [1,7,35,36,37,38,39,40,41,42,43,44,45,46,47] ?_;obtain ⟨hg9a,hm⟩:=gd hm;refine au [0,48,49,50,51,52,53,54] fun k kp hk hp=>?_;refine go ?_;obtain ⟨y4,hc10,hm⟩:=bd hm;refine RP (fun _=>iD fuel (p1.take ((IntKind.wrap .i64 ((IntKind.wrap .u64 p2).tmod (IntKind.wrap .u64 (IntKind.wrap .i64 (((y3.1.getD ((IntKind.wrap .i64 ((y3.1.length:Int) - 1)).toNat) default).at_)+1))))).toNat)) _ hc10) ?_;refine ab ?_;refine go ?_;refine hk _ _ ?_;clear hk hp k kp;refine aR fun k4 hk4=>?_;refine ax [55,56] ?_
     by_cases h11:¬ ((y4.2).code)=0
     ·rw [iP h11] at hm;refine aj rfl (bne_iff_ne.2 h11) ?_;refine cR [5,9,10,11,57,58,59,60,61,62,63,64,65,66,67,68,69,70,71,72] fun k kp hk hp=>?_;refine aq 4 ?_;refine go ?_
      by_cases h12:((y4.2).at_)≥0
      ·rw [iP h12] at hm;have h12b:=dT h12;refine aq 6 ?_;refine gox h12b ?_
       by_cases h13:((y4.2).at_)≤(IntKind.wrap .i64 ((IntKind.wrap .u64 p2).tmod (IntKind.wrap .u64 (IntKind.wrap .i64 (((y3.1.getD ((IntKind.wrap .i64 ((y3.1.length:Int) - 1)).toNat) default).at_)+1)))))
       ·rw [iP h13] at hm;have h13b:=dT h13;refine ab ?_;refine gox (a2 h12b h13b) ?_;refine hk _ _ ?_;clear hk hp k kp;refine aM ?_;refine cX ?_
        cases hm
        exact kr 0
       ·rw [iN h13] at hm;have h13b:=dF h13;refine ab ?_;refine gox (a2 h12b h13b) ?_;refine hk _ _ ?_;clear hk hp k kp;refine aM ?_;refine cX ?_
        cases hm
        exact kr 0
      ·rw [iN h12] at hm;have h12b:=dF h12;refine ab ?_;refine gox h12b ?_;refine hk _ _ ?_;clear hk hp k kp;refine aM ?_;refine cX ?_
       cases hm
       exact kr 0
     ·rw [iN h11] at hm;refine ak rfl (bne_eq_false_iff_eq.2 (Decidable.not_not.1 h11)) ?_;refine av ?_;refine aL (hk4 _ _ ?_);refine ax [5,9,10,11,57,73,74,75,76,77,78,79] ?_;refine aM ?_
      cases hm
      exact kr 0
 ·rw [iN h2] at hm;refine aj rfl (by rw [show y1=false from (fB h2)];rfl) ?_;refine ax [0,1,13] ?_;refine aM ?_;refine cX ?_
  cases hm
  exact kr 0
end Pam
