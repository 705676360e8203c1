/- what token_scanner_blank computes, read off the program by a program of ours -/
import Derived.Test.YtnogignohdjjjaaGreatDoorAaData1
import Derived.Test.YtnogignohdjjjaaGreatDoorABase3
set_option linter.all false
namespace Pam
open Go
noncomputable def cN(x5:Int)(b7:Bool):Option ((Int×Bool) ⊕ Int) :=
  some (.inl ((IntKind.wrap .i64 (x5+1)),b7))
noncomputable def cx(p1:List UInt8)(x5:Int)(b6 b8:Bool):Option ((Int×Bool) ⊕ Int) :=
  if b8=true then (cN x5 b6) else (if ((p1.getD x5.toNat 0).toNat:Int)=35 then (cN x5 true) else (some (.inr x5)))
noncomputable def bV(p1:List UInt8)(x5:Int)(b6:Bool):Option ((Int×Bool) ⊕ Int) :=
  if x5<(p1.length:Int) then (if (0≤x5∧x5<(p1.length:Int)) then (if ((p1.getD x5.toNat 0).toNat:Int)=10 then (cN x5 false) else (if b6=true then (cx p1 x5 b6 b6) else (if ((p1.getD x5.toNat 0).toNat:Int)=32 then (cx p1 x5 b6 (((p1.getD x5.toNat 0).toNat:Int) == 32)) else (if ((p1.getD x5.toNat 0).toNat:Int)=9 then (cx p1 x5 b6 (((p1.getD x5.toNat 0).toNat:Int) == 9)) else (cx p1 x5 b6 (((p1.getD x5.toNat 0).toNat:Int) == 13)))))) else none) else (some (.inr x5))
noncomputable def ef(p1:List UInt8)(p2:Int)(p3:List ab):Option Int :=
  (cT (fun (x5,b6)=>bV p1 x5 b6) (p2,false)).bind (fun z9=>some z9)
noncomputable def iZ(p1:Int):Option Bool :=
  if p1≥97 then (some (decide (p1≤122))) else (some false)
noncomputable def iS(p1:Int):Option Bool :=
  if p1≥48 then (some (decide (p1≤57))) else (some false)
noncomputable def di(p1:List UInt8)(p2 x1:Int):Option ((List UInt8)×Int) :=
  if (0≤p2∧p2≤x1∧x1≤(p1.length:Int)) then (some (((p1.take x1.toNat).drop p2.toNat),x1)) else none
noncomputable def dR(x4:Int):Option (Int ⊕ Int) :=
  some (.inl (IntKind.wrap .i64 (x4+1)))
noncomputable def dj(p1:List UInt8)(x4:Int):Option (Int ⊕ Int) :=
  if x4<(p1.length:Int) then (if (0≤x4∧x4<(p1.length:Int)) then ((iZ ((p1.getD x4.toNat 0).toNat:Int)).bind fun y5=>if y5=true then (dR x4) else ((iS ((p1.getD x4.toNat 0).toNat:Int)).bind fun y6=>if y6=true then (dR x4) else (some (.inr x4)))) else none) else (some (.inr x4))
noncomputable def dy(p1:List UInt8)(p2:Int)(p3:List ab):Option ((List UInt8)×Int) :=
  (cT (fun x4=>dj p1 x4) p2).bind (fun z7=>di p1 p2 z7)
noncomputable def aT(b1:Bool):Option Bool :=
  if b1=true then (some true) else (some false)
noncomputable def ke(p1:List UInt8):Option Bool :=
  if p1=([97,100,100]:List UInt8) then (aT (p1 == ([97,100,100]:List UInt8))) else (if p1=([97,110,100]:List UInt8) then (aT (p1 == ([97,110,100]:List UInt8))) else (if p1=([98,111,111,108]:List UInt8) then (aT (p1 == ([98,111,111,108]:List UInt8))) else (if p1=([99,97,108,108]:List UInt8) then (aT (p1 == ([99,97,108,108]:List UInt8))) else (if p1=([99,97,116]:List UInt8) then (aT (p1 == ([99,97,116]:List UInt8))) else (if p1=([100,105,118]:List UInt8) then (aT (p1 == ([100,105,118]:List UInt8))) else (if p1=([101,108,115,101]:List UInt8) then (aT (p1 == ([101,108,115,101]:List UInt8))) else (if p1=([101,113]:List UInt8) then (aT (p1 == ([101,113]:List UInt8))) else (if p1=([102,97,108,115,101]:List UInt8) then (aT (p1 == ([102,97,108,115,101]:List UInt8))) else (if p1=([102,105,108,108]:List UInt8) then (aT (p1 == ([102,105,108,108]:List UInt8))) else (if p1=([102,111,108,100]:List UInt8) then (aT (p1 == ([102,111,108,100]:List UInt8))) else (if p1=([105,102]:List UInt8) then (aT (p1 == ([105,102]:List UInt8))) else (if p1=([105,110,116]:List UInt8) then (aT (p1 == ([105,110,116]:List UInt8))) else (if p1=([108,101,115,115]:List UInt8) then (aT (p1 == ([108,101,115,115]:List UInt8))) else (if p1=([109,97,112]:List UInt8) then (aT (p1 == ([109,97,112]:List UInt8))) else (if p1=([109,97,120]:List UInt8) then (aT (p1 == ([109,97,120]:List UInt8))) else (if p1=([109,105,110]:List UInt8) then (aT (p1 == ([109,105,110]:List UInt8))) else (if p1=([109,111,100]:List UInt8) then (aT (p1 == ([109,111,100]:List UInt8))) else (if p1=([109,117,108]:List UInt8) then (aT (p1 == ([109,117,108]:List UInt8))) else (if p1=([110,101,103]:List UInt8) then (aT (p1 == ([110,101,103]:List UInt8))) else (if p1=([110,111,100,101]:List UInt8) then (aT (p1 == ([110,111,100,101]:List UInt8))) else (if p1=([110,111,116]:List UInt8) then (aT (p1 == ([110,111,116]:List UInt8))) else (if p1=([111,114]:List UInt8) then (aT (p1 == ([111,114]:List UInt8))) else (if p1=([112,114,101]:List UInt8) then (aT (p1 == ([112,114,101]:List UInt8))) else (if p1=([115,99,97,110]:List UInt8) then (aT (p1 == ([115,99,97,110]:List UInt8))) else (if p1=([115,108,105,99,101]:List UInt8) then (aT (p1 == ([115,108,105,99,101]:List UInt8))) else (if p1=([115,117,98]:List UInt8) then (aT (p1 == ([115,117,98]:List UInt8))) else (if p1=([116,104,101,110]:List UInt8) then (aT (p1 == ([116,104,101,110]:List UInt8))) else (if p1=([116,114,117,101]:List UInt8) then (aT (p1 == ([116,114,117,101]:List UInt8))) else (if p1=([118,97,114]:List UInt8) then (aT (p1 == ([118,97,114]:List UInt8))) else (if p1=([119,105,116,104]:List UInt8) then (aT (p1 == ([119,105,116,104]:List UInt8))) else (aT (p1 == ([120,111,114]:List UInt8)))))))))))))))))))))))))))))))))
noncomputable def i6(p1:List UInt8)(p2 p3:Int):Option Int :=
  if p2=10∧p3=64 then sv p1 else none
noncomputable def gf(p1:List UInt8):Option (Int×Bool) :=
  (i6 p1 10 64).bind fun y1=>some (y1,true)
noncomputable def eu(p1:List UInt8)(x4:Int):Option (Int ⊕ (Unit ⊕ (Int×Bool))) :=
  if x4<(p1.length:Int) then (if (0≤x4∧x4<(p1.length:Int)) then ((iS ((p1.getD x4.toNat 0).toNat:Int)).bind fun y5=>if y5=true then (some (.inl (IntKind.wrap .i64 (x4+1)))) else (some (.inr (.inr (0,false))))) else none) else (some (.inr (.inl ())))
noncomputable def fh(p1:List UInt8):Option (Int×Bool) :=
  (cT (fun x4=>eu p1 x4) 0).bind (Sum.elim (fun _=>gf p1) (fun z6=>some z6))
noncomputable def i7(p1:List UInt8):Option (Int×Bool) :=
  if (p1.length:Int)>18 then (some (0,false)) else (if (p1.length:Int)>1 then (if (0≤0∧0<(p1.length:Int)) then (if ((p1.getD 0 0).toNat:Int)=48 then (some (0,false)) else (fh p1)) else none) else (fh p1))
noncomputable def dp(p1 p2:List UInt8):Option Bool :=
  if (p1.length:Int)≥(p2.length:Int) then (if (0≤(p2.length:Int)∧(p2.length:Int)≤(p1.length:Int)) then (some ((p1.take p2.length) == p2)) else none) else (some false)
noncomputable def d7(p1 p2:List UInt8):Option Bool :=
  (dp p1 p2).bind fun y1=>some y1
noncomputable def aI(p1:List UInt8)(p2:Int)(b1:Bool):Option (List UInt8) :=
  if b1=true then (if (0≤(IntKind.wrap .i32 ((p1.getD p2.toNat 0).toNat:Int))∧(IntKind.wrap .i32 ((p1.getD p2.toNat 0).toNat:Int))<128) then (some ([UInt8.ofNat ((IntKind.wrap .i32 ((p1.getD p2.toNat 0).toNat:Int)).toNat)]:List UInt8)) else none) else (some ([]:List UInt8))
noncomputable def dz(p1:List UInt8)(p2:Int):Option (List UInt8) :=
  if (0≤p2∧p2<(p1.length:Int)) then (if ((p1.getD p2.toNat 0).toNat:Int)=40 then (aI p1 p2 (((p1.getD p2.toNat 0).toNat:Int) == 40)) else (if ((p1.getD p2.toNat 0).toNat:Int)=41 then (aI p1 p2 (((p1.getD p2.toNat 0).toNat:Int) == 41)) else (if ((p1.getD p2.toNat 0).toNat:Int)=123 then (aI p1 p2 (((p1.getD p2.toNat 0).toNat:Int) == 123)) else (if ((p1.getD p2.toNat 0).toNat:Int)=125 then (aI p1 p2 (((p1.getD p2.toNat 0).toNat:Int) == 125)) else (if ((p1.getD p2.toNat 0).toNat:Int)=91 then (aI p1 p2 (((p1.getD p2.toNat 0).toNat:Int) == 91)) else (if ((p1.getD p2.toNat 0).toNat:Int)=93 then (aI p1 p2 (((p1.getD p2.toNat 0).toNat:Int) == 93)) else (if ((p1.getD p2.toNat 0).toNat:Int)=60 then (aI p1 p2 (((p1.getD p2.toNat 0).toNat:Int) == 60)) else (if ((p1.getD p2.toNat 0).toNat:Int)=62 then (aI p1 p2 (((p1.getD p2.toNat 0).toNat:Int) == 62)) else (if ((p1.getD p2.toNat 0).toNat:Int)=44 then (aI p1 p2 (((p1.getD p2.toNat 0).toNat:Int) == 44)) else (if ((p1.getD p2.toNat 0).toNat:Int)=59 then (aI p1 p2 (((p1.getD p2.toNat 0).toNat:Int) == 59)) else (if ((p1.getD p2.toNat 0).toNat:Int)=58 then (aI p1 p2 (((p1.getD p2.toNat 0).toNat:Int) == 58)) else (if ((p1.getD p2.toNat 0).toNat:Int)=43 then (aI p1 p2 (((p1.getD p2.toNat 0).toNat:Int) == 43)) else (if ((p1.getD p2.toNat 0).toNat:Int)=45 then (aI p1 p2 (((p1.getD p2.toNat 0).toNat:Int) == 45)) else (if ((p1.getD p2.toNat 0).toNat:Int)=42 then (aI p1 p2 (((p1.getD p2.toNat 0).toNat:Int) == 42)) else (if ((p1.getD p2.toNat 0).toNat:Int)=47 then (aI p1 p2 (((p1.getD p2.toNat 0).toNat:Int) == 47)) else (if ((p1.getD p2.toNat 0).toNat:Int)=37 then (aI p1 p2 (((p1.getD p2.toNat 0).toNat:Int) == 37)) else (if ((p1.getD p2.toNat 0).toNat:Int)=61 then (aI p1 p2 (((p1.getD p2.toNat 0).toNat:Int) == 61)) else (aI p1 p2 (((p1.getD p2.toNat 0).toNat:Int) == 94))))))))))))))))))) else none
noncomputable def cm(p1:List UInt8)(p2 x4:Int):Option (Int ⊕ (Unit ⊕ (List UInt8))) :=
  if x4<(2:Int) then (if (0≤x4∧x4<(2:Int)) then (if (0≤p2∧p2≤(p1.length:Int)) then ((d7 (p1.drop p2.toNat) ((lit ([([61,61]:List UInt8),([45,62]:List UInt8)]:List (List UInt8))).getD x4.toNat default)).bind fun y5=>if y5=true then (some (.inr (.inr ((lit ([([61,61]:List UInt8),([45,62]:List UInt8)]:List (List UInt8))).getD x4.toNat default)))) else (some (.inl (IntKind.wrap .i64 (x4+1))))) else none) else none) else (some (.inr (.inl ())))
noncomputable def eO(p1:List UInt8)(p2:Int)(p3:List ab):Option (List UInt8) :=
  (cT (fun x4=>cm p1 p2 x4) 0).bind (Sum.elim (fun _=>dz p1 p2) (fun z6=>some z6))
noncomputable def bK(p2:Int)(p3:List ab)(x1 x2:Int)(s3:List UInt8)(x4:Int):Option (Int×Int×(List ab)) :=
  if kF (p3.length+1) 40 then (some (0,x1,(p3++(lit ([(ab.mk x2 p2 s3 x4)]:List ab))))) else none
noncomputable def d8(p1:List UInt8)(p2:Int)(p3:List ab):Option (Int×Int×(List ab)) :=
  if (0≤p2∧p2<(p1.length:Int)) then ((iZ ((p1.getD p2.toNat 0).toNat:Int)).bind fun y5=>if y5=true then ((dy p1 p2 p3).bind fun y6=>(ke y6.1).bind fun y7=>if y7=true then (bK p2 p3 y6.2 1 y6.1 0) else (if (y6.1.length:Int)>12 then (some (3,y6.2,p3)) else (bK p2 p3 y6.2 2 y6.1 0))) else ((iS ((p1.getD p2.toNat 0).toNat:Int)).bind fun y8=>if y8=true then ((dy p1 p2 p3).bind fun y9=>(i7 y9.1).bind fun y10=>if y10.2=true then (bK p2 p3 y9.2 3 y9.1 y10.1) else (some (2,y9.2,p3))) else ((eO p1 p2 p3).bind fun y11=>if y11=([]:List UInt8) then (some (1,p2,p3)) else (bK p2 p3 (IntKind.wrap .i64 (p2+(y11.length:Int))) 4 y11 0)))) else none
noncomputable def jn(x3:Int)(l4:List ab):Option ((List ab)×cq) :=
  some (l4,(cq.mk 0 0))
noncomputable def dX(p1:List UInt8)(x19:Int)(l20:List ab):Option ((Int×(List ab)) ⊕ ((Int×(List ab)) ⊕ ((List ab)×cq))) :=
  if x19<(p1.length:Int) then ((d8 p1 x19 l20).bind fun y22=>if ¬ y22.1=0 then (some (.inr (.inr ([],(cq.mk y22.1 x19))))) else ((ef p1 y22.2.1 y22.2.2).bind fun y24=>some (.inl (y24,y22.2.2)))) else (some (.inr (.inl (x19,l20))))
noncomputable def kf(p1:List UInt8):Option ((List ab)×cq) :=
  if (p1.length:Int)>12000 then (some ([],(cq.mk 7 12000))) else ((ef p1 0 []).bind fun y6=>(cT (fun (x19,l20)=>dX p1 x19 l20) (y6,[])).bind (Sum.elim (fun (z25,z26)=>jn z25 z26) (fun z27=>some z27)))
noncomputable def cn:Option Int :=
  some (-1)
noncomputable def cH(p1:List (List UInt8))(p2:List UInt8)(x3:Int):Option (Int ⊕ (Unit ⊕ Int)) :=
  if x3<(p1.length:Int) then (if (0≤x3∧x3<(p1.length:Int)) then (if p2=(p1.getD x3.toNat default) then (some (.inr (.inr x3))) else (some (.inl (IntKind.wrap .i64 (x3+1))))) else none) else (some (.inr (.inl ())))
noncomputable def cC(p1:List (List UInt8))(p2:List UInt8):Option Int :=
  (cT (fun x3=>cH p1 p2 x3) 0).bind (Sum.elim (fun _=>cn) (fun z4=>some z4))
noncomputable def cI(p1:List (List UInt8))(p2:List UInt8):Option Bool :=
  (cC p1 p2).bind fun y1=>some (decide (y1≥0))
noncomputable def aN(p1:List (List UInt8))(p2:ae):Option Bool :=
  if (p2.l.length:Int)>0 then (if (0≤0∧0<(p2.l.length:Int)) then (if ¬ ((p2.l.getD 0 default).kind)=2 then ((cI p1 ((p2.l.getD 0 default).text)).bind fun y1=>some y1) else (some false)) else none) else (some false)
noncomputable def aY(p1:Int)(p2:ae):Option (Int×Int) :=
  if (p2.l.length:Int)>0 then (if (0≤0∧0<(p2.l.length:Int)) then (some (p1,(p2.l.getD 0 default).at_)) else none) else (if p1=4 then (some (5,p2.end_)) else (some (p1,p2.end_)))
noncomputable def aZ(p1:ae):Option (ab×(List ab)) :=
  if (0≤0∧0<(p1.l.length:Int)) then (if (0≤1∧1≤(p1.l.length:Int)) then (some ((p1.l.getD 0 default),(p1.l.drop 1))) else none) else none
noncomputable def eP(p1:Int)(p2:ae):Option ((ab×(List ab)) ⊕ (Int×Int)) :=
  if (p2.l.length:Int)=0 then ((aY 4 p2).bind fun y1=>some (.inr (y1.1,y1.2))) else (if (0≤0∧0<(p2.l.length:Int)) then (if ¬ ((p2.l.getD 0 default).kind)=p1 then ((aY 4 p2).bind fun y2=>some (.inr (y2.1,y2.2))) else ((aZ p2).bind fun y3=>some (.inl ((y3.1),y3.2)))) else none)
noncomputable def cd(p1:ae):Option (((List UInt8)×(List ab)) ⊕ (Int×Int)) :=
  (eP 2 p1).bind fun y1=>Sum.elim (fun y4=>some (.inl ((y4.1).text,y4.2))) (fun y5=>some (.inr (y5.1,y5.2))) y1
noncomputable def ca(p1:List UInt8)(p2:ae):Option (Bool×(List ab)) :=
  (aN (lit ([p1]:List (List UInt8))) p2).bind fun y1=>if y1=true then ((aZ p2).bind fun y2=>some (y1,y2.2)) else (some (y1,p2.l))
noncomputable def gn(p1:Int)(p2:ae)(l13:List ab)(l14:List (List UInt8)):Option (((List ab)×(List (List UInt8))) ⊕ (((List (List UInt8))×(List ab)) ⊕ (Int×Int))) :=
  if (l14.length:Int)=p1 then ((aY 7 (ae.mk l13 p2.end_ p2.open_ p2.terms)).bind fun y16=>some (.inr (.inr (y16.1,y16.2)))) else ((cd (ae.mk l13 p2.end_ p2.open_ p2.terms)).bind fun y17=>Sum.elim (fun y20=>if kF (l14.length+1) 16 then ((ca ([44]:List UInt8) (ae.mk y20.2 p2.end_ p2.open_ p2.terms)).bind fun y22=>if y22.1=true then (some (.inl (y22.2,(l14++(lit ([y20.1]:List (List UInt8))))))) else (some (.inr (.inl ((l14++(lit ([y20.1]:List (List UInt8)))),y22.2))))) else none) (fun y21=>some (.inr (.inr (y21.1,y21.2)))) y17)
noncomputable def gq(p1:Int)(p2:ae):Option (((List (List UInt8))×(List ab)) ⊕ (Int×Int)) :=
  (cT (fun (l13,l14)=>gn p1 p2 l13 l14) (p2.l,[])).bind (fun z23=>some z23)
noncomputable def fU(p1:List (List UInt8))(p2:ae)(l5:List ab)(x6:Int):Option (((List ab)×Int) ⊕ ((List ab) ⊕ (Int×Int))) :=
  if x6<(p1.length:Int) then (if (0≤x6∧x6<(p1.length:Int)) then ((aN (lit ([(p1.getD x6.toNat default)]:List (List UInt8))) (ae.mk l5 p2.end_ p2.open_ p2.terms)).bind fun y7=>if y7=true then ((aZ (ae.mk l5 p2.end_ p2.open_ p2.terms)).bind fun y8=>some (.inl (y8.2,(IntKind.wrap .i64 (x6+1))))) else ((aY 4 (ae.mk l5 p2.end_ p2.open_ p2.terms)).bind fun y9=>some (.inr (.inr (y9.1,y9.2))))) else none) else (some (.inr (.inl l5)))
noncomputable def aU(p1:List (List UInt8))(p2:ae):Option ((List ab) ⊕ (Int×Int)) :=
  (cT (fun (l5,x6)=>fU p1 p2 l5 x6) (p2.l,0)).bind (fun z10=>some z10)
noncomputable def eD(p1:Int)(p2:ae):Option ((am×(List ab)) ⊕ (Int×Int)) :=
  (eP 3 p2).bind fun y1=>Sum.elim (fun y4=>(ca ([42]:List UInt8) (ae.mk y4.2 p2.end_ p2.open_ p2.terms)).bind fun y6=>if y6.1=true then ((cd (ae.mk y6.2 p2.end_ p2.open_ p2.terms)).bind fun y7=>Sum.elim (fun y10=>some (.inl ((am.mk (IntKind.wrap .i64 (p1 * ((y4.1).n))) y10.1),y10.2))) (fun y11=>some (.inr (y11.1,y11.2))) y7) else (some (.inl ((am.mk (IntKind.wrap .i64 (p1 * ((y4.1).n))) []),y6.2)))) (fun y5=>some (.inr (y5.1,y5.2))) y1
noncomputable def ia(p1:Int)(p2:ae):Option ((am×(List ab)) ⊕ (Int×Int)) :=
  if (p2.l.length:Int)>0 then (if (0≤0∧0<(p2.l.length:Int)) then (if ((p2.l.getD 0 default).kind)=2 then ((cd p2).bind fun y12=>Sum.elim (fun y15=>some (.inl ((am.mk p1 y15.1),y15.2))) (fun y16=>some (.inr (y16.1,y16.2))) y12) else (eD p1 p2)) else none) else (eD p1 p2)
noncomputable def eE(l10:List ab)(l11:List am):Option (((List am)×(List ab)) ⊕ (Int×Int)) :=
  some (.inl (l11,l10))
noncomputable def eF(p1:ae)(l26:List am)(l31:List ab)(x33:Int):Option (((List ab)×(List am)) ⊕ (((List ab)×(List am)) ⊕ (((List am)×(List ab)) ⊕ (Int×Int)))) :=
  (ia x33 (ae.mk l31 p1.end_ p1.open_ p1.terms)).bind fun y34=>Sum.elim (fun y37=>if kF (l26.length+1) 24 then (some (.inl (y37.2,(l26++(lit ([(y37.1)]:List am)))))) else none) (fun y38=>some (.inr (.inr (.inr (y38.1,y38.2))))) y34
noncomputable def iG(p1:ae)(l25:List ab)(l26:List am):Option (((List ab)×(List am)) ⊕ (((List ab)×(List am)) ⊕ (((List am)×(List ab)) ⊕ (Int×Int)))) :=
  (aN (lit ([([43]:List UInt8),([45]:List UInt8)]:List (List UInt8))) (ae.mk l25 p1.end_ p1.open_ p1.terms)).bind fun y28=>if y28=true then (if (l26.length:Int)=30 then ((aY 7 (ae.mk l25 p1.end_ p1.open_ p1.terms)).bind fun y29=>some (.inr (.inr (.inr (y29.1,y29.2))))) else ((aZ (ae.mk l25 p1.end_ p1.open_ p1.terms)).bind fun y39=>if ((y39.1).text)=([45]:List UInt8) then (eF p1 l26 y39.2 (-1)) else (eF p1 l26 y39.2 1))) else (some (.inr (.inl (l25,l26))))
noncomputable def eG(p1:ae)(l1:List ab)(x2:Int):Option (((List am)×(List ab)) ⊕ (Int×Int)) :=
  (ia x2 (ae.mk l1 p1.end_ p1.open_ p1.terms)).bind fun y3=>Sum.elim (fun y6=>(cT (fun (l25,l26)=>iG p1 l25 l26) (y6.2,(lit ([(y6.1)]:List am)))).bind (Sum.elim (fun (z40,z41)=>eE z40 z41) (fun z42=>some z42))) (fun y7=>some (.inr (y7.1,y7.2))) y3
noncomputable def fJ(p1:ae):Option (((List am)×(List ab)) ⊕ (Int×Int)) :=
  (ca ([45]:List UInt8) p1).bind fun y43=>if y43.1=true then (eG p1 y43.2 (-1)) else (eG p1 y43.2 1)
noncomputable def iO(p1:ae):Option ((f8×(List ab)) ⊕ (Int×Int)) :=
  (aN (lit ([([105,110,116]:List UInt8),([98,111,111,108]:List UInt8)]:List (List UInt8))) p1).bind fun y1=>if y1=true then ((aZ p1).bind fun y2=>if (0≤0∧0<(((y2.1).text).length:Int)) then ((ca ([94]:List UInt8) (ae.mk y2.2 p1.end_ p1.open_ p1.terms)).bind fun y3=>if y3.1=true then ((fJ (ae.mk y3.2 p1.end_ p1.open_ p1.terms)).bind fun y4=>Sum.elim (fun y7=>some (.inl ((f8.mk ((((y2.1).text).getD 0 0).toNat:Int) y7.1),y7.2))) (fun y8=>some (.inr (y8.1,y8.2))) y4) else (some (.inl ((f8.mk ((((y2.1).text).getD 0 0).toNat:Int) []),y3.2)))) else none) else ((aY 4 p1).bind fun y9=>some (.inr (y9.1,y9.2)))
noncomputable def fK(p1:ae):Option ((ay×(List ab)) ⊕ (Int×Int)) :=
  (cd p1).bind fun y1=>Sum.elim (fun y4=>(aU (lit ([([58]:List UInt8)]:List (List UInt8))) (ae.mk y4.2 p1.end_ p1.open_ p1.terms)).bind fun y6=>Sum.elim (fun y9=>(iO (ae.mk y9 p1.end_ p1.open_ p1.terms)).bind fun y11=>Sum.elim (fun y14=>some (.inl ((ay.mk y4.1 (y14.1)),y14.2))) (fun y15=>some (.inr (y15.1,y15.2))) y11) (fun y10=>some (.inr (y10.1,y10.2))) y6) (fun y5=>some (.inr (y5.1,y5.2))) y1
noncomputable def fv(p1:Int)(p2:ae)(l13:List ab)(l14:List ay):Option (((List ab)×(List ay)) ⊕ (((List ay)×(List ab)) ⊕ (Int×Int))) :=
  if (l14.length:Int)=p1 then ((aY 7 (ae.mk l13 p2.end_ p2.open_ p2.terms)).bind fun y16=>some (.inr (.inr (y16.1,y16.2)))) else ((fK (ae.mk l13 p2.end_ p2.open_ p2.terms)).bind fun y17=>Sum.elim (fun y20=>if kF (l14.length+1) 48 then ((ca ([44]:List UInt8) (ae.mk y20.2 p2.end_ p2.open_ p2.terms)).bind fun y22=>if y22.1=true then (some (.inl (y22.2,(l14++(lit ([(ay.mk ((y20.1).name) ((y20.1).t))]:List ay)))))) else (some (.inr (.inl ((l14++(lit ([(ay.mk ((y20.1).name) ((y20.1).t))]:List ay))),y22.2))))) else none) (fun y21=>some (.inr (.inr (y21.1,y21.2)))) y17)
noncomputable def fq(p1:Int)(p2:ae):Option (((List ay)×(List ab)) ⊕ (Int×Int)) :=
  (cT (fun (l13,l14)=>fv p1 p2 l13 l14) (p2.l,[])).bind (fun z23=>some z23)
noncomputable def dk(p1 p2 p3:Int)(p4:List UInt8)(p5:ae)(p6:List af):Option (Int×Int×Int×(List UInt8)×(List (List am))×Int) :=
  some (p1,p2,p3,p4,[],(IntKind.wrap .i64 (p5.terms+1)))
noncomputable def eR(p1 p2 p3:Int)(p4:List UInt8)(p5:ae):Option (af×Int) :=
  some ((af.mk p1 p2 p3 p4 [] []),(IntKind.wrap .i64 (p5.terms+1)))
noncomputable def dS(p1:af)(p2:ae):Option (af×Int) :=
  some (p1,(IntKind.wrap .i64 (p2.terms+1)))
noncomputable def iT(rc_syntax_parser_rank:Int→ae→Option ((af×(List ab)×Int×Int) ⊕ (Int×Int)))(p1:ae):Option ((af×(List ab)×Int×Int) ⊕ (Int×Int)) :=
  (rc_syntax_parser_rank 0 p1).bind fun y1=>Sum.elim (fun y4=>(aU (lit ([([41]:List UInt8)]:List (List UInt8))) (ae.mk y4.2.1 p1.end_ y4.2.2.1 y4.2.2.2)).bind fun y6=>Sum.elim (fun y9=>some (.inl ((y4.1),y9,y4.2.2.1,y4.2.2.2))) (fun y10=>some (.inr (y10.1,y10.2))) y6) (fun y5=>some (.inr (y5.1,y5.2))) y1
noncomputable def dq(rc_syntax_parser_rank:Int→ae→Option ((af×(List ab)×Int×Int) ⊕ (Int×Int)))(p1:ae):Option ((af×(List ab)×Int×Int) ⊕ (Int×Int)) :=
  if p1.open_=60 then ((aY 6 p1).bind fun y1=>some (.inr (y1.1,y1.2))) else ((aZ (ae.mk p1.l p1.end_ (IntKind.wrap .i64 (p1.open_+1)) p1.terms)).bind fun y2=>(iT rc_syntax_parser_rank (ae.mk y2.2 p1.end_ (IntKind.wrap .i64 (p1.open_+1)) p1.terms)).bind fun y3=>Sum.elim (fun y6=>some (.inl ((y6.1),y6.2.1,(IntKind.wrap .i64 (y6.2.2.1 - 1)),y6.2.2.2))) (fun y7=>some (.inr (y7.1,y7.2))) y3)
noncomputable def iU(rc_syntax_parser_rank:Int→ae→Option ((af×(List ab)×Int×Int) ⊕ (Int×Int)))(p1:ae):Option ((af×(List ab)×Int×Int) ⊕ (Int×Int)) :=
  (rc_syntax_parser_rank 0 p1).bind fun y1=>Sum.elim (fun y4=>(aU (lit ([([116,104,101,110]:List UInt8)]:List (List UInt8))) (ae.mk y4.2.1 p1.end_ y4.2.2.1 y4.2.2.2)).bind fun y6=>Sum.elim (fun y9=>(rc_syntax_parser_rank 0 (ae.mk y9 p1.end_ y4.2.2.1 y4.2.2.2)).bind fun y11=>Sum.elim (fun y14=>(aU (lit ([([101,108,115,101]:List UInt8)]:List (List UInt8))) (ae.mk y14.2.1 p1.end_ y14.2.2.1 y14.2.2.2)).bind fun y16=>Sum.elim (fun y19=>(rc_syntax_parser_rank 0 (ae.mk y19 p1.end_ y14.2.2.1 y14.2.2.2)).bind fun y21=>Sum.elim (fun y22=>(dk 6 0 0 [] (ae.mk y22.2.1 p1.end_ y22.2.2.1 y22.2.2.2) (lit ([(y4.1),(y14.1),(y22.1)]:List af))).bind fun y24=>some (.inl ((af.mk y24.1 y24.2.1 y24.2.2.1 y24.2.2.2.1 y24.2.2.2.2.1 (lit ([(y4.1),(y14.1),(y22.1)]:List af))),y22.2.1,y22.2.2.1,y24.2.2.2.2.2))) (fun y23=>some (.inr (y23.1,y23.2))) y21) (fun y20=>some (.inr (y20.1,y20.2))) y16) (fun y15=>some (.inr (y15.1,y15.2))) y11) (fun y10=>some (.inr (y10.1,y10.2))) y6) (fun y5=>some (.inr (y5.1,y5.2))) y1
noncomputable def dr(rc_syntax_parser_rank:Int→ae→Option ((af×(List ab)×Int×Int) ⊕ (Int×Int)))(p1:ae):Option ((af×(List ab)×Int×Int) ⊕ (Int×Int)) :=
  if p1.open_=60 then ((aY 6 p1).bind fun y1=>some (.inr (y1.1,y1.2))) else ((aZ (ae.mk p1.l p1.end_ (IntKind.wrap .i64 (p1.open_+1)) p1.terms)).bind fun y2=>(iU rc_syntax_parser_rank (ae.mk y2.2 p1.end_ (IntKind.wrap .i64 (p1.open_+1)) p1.terms)).bind fun y3=>Sum.elim (fun y6=>some (.inl ((y6.1),y6.2.1,(IntKind.wrap .i64 (y6.2.2.1 - 1)),y6.2.2.2))) (fun y7=>some (.inr (y7.1,y7.2))) y3)
noncomputable def ib(p1:ae):Option (List UInt8) :=
  if (p1.l.length:Int)=0 then (some ([]:List UInt8)) else (if (0≤0∧0<(p1.l.length:Int)) then (if ¬ ((p1.l.getD 0 default).kind)=1 then (some ([]:List UInt8)) else (some ((p1.l.getD 0 default).text))) else none)
noncomputable def cz:Option Int :=
  some (-1)
noncomputable def ez(p1:List UInt8)(p2:List (List UInt8))(x3:Int):Option (Int ⊕ (Unit ⊕ Int)) :=
  if x3<(p2.length:Int) then (if (0≤x3∧x3<(p2.length:Int)) then (if p1=(p2.getD x3.toNat default) then (some (.inr (.inr x3))) else (some (.inl (IntKind.wrap .i64 (x3+1))))) else none) else (some (.inr (.inl ())))
noncomputable def dL(p1:List UInt8)(p2:List (List UInt8)):Option Int :=
  (cT (fun x3=>ez p1 p2 x3) 0).bind (Sum.elim (fun _=>cz) (fun z4=>some z4))
noncomputable def ie(p1:ae):Option ((Int×(List ab)) ⊕ (Int×Int)) :=
  (ib p1).bind fun y1=>(dL y1 (lit ([([]:List UInt8),([97,100,100]:List UInt8),([115,117,98]:List UInt8),([109,117,108]:List UInt8),([100,105,118]:List UInt8),([109,111,100]:List UInt8),([109,105,110]:List UInt8),([109,97,120]:List UInt8),([108,101,115,115]:List UInt8),([101,113]:List UInt8),([97,110,100]:List UInt8),([111,114]:List UInt8),([120,111,114]:List UInt8),([110,101,103]:List UInt8),([110,111,116]:List UInt8)]:List (List UInt8)))).bind fun y2=>if y2<1 then ((aY 4 p1).bind fun y3=>some (.inr (y3.1,y3.2))) else ((aZ p1).bind fun y4=>some (.inl (y2,y4.2)))
noncomputable def d9(l9:List ab)(x10 x11:Int)(l12:List af):Option (((List af)×(List ab)×Int×Int) ⊕ (Int×Int)) :=
  some (.inl (l12,l9,x10,x11))
noncomputable def ig(rc_syntax_parser_rank:Int→ae→Option ((af×(List ab)×Int×Int) ⊕ (Int×Int)))(p2:ae)(x6:Int)(l30:List ab)(x31 x32:Int)(l33:List af):Option (((List ab)×Int×Int×(List af)) ⊕ (((List ab)×Int×Int×(List af)) ⊕ (((List af)×(List ab)×Int×Int) ⊕ (Int×Int)))) :=
  if (l33.length:Int)<x6 then ((aU (lit ([([44]:List UInt8)]:List (List UInt8))) (ae.mk l30 p2.end_ x31 x32)).bind fun y35=>Sum.elim (fun y38=>(rc_syntax_parser_rank 0 (ae.mk y38 p2.end_ x31 x32)).bind fun y40=>Sum.elim (fun y43=>if kF (l33.length+1) 88 then (some (.inl (y43.2.1,y43.2.2.1,y43.2.2.2,(l33++(lit ([(y43.1)]:List af)))))) else none) (fun y44=>some (.inr (.inr (.inr (y44.1,y44.2))))) y40) (fun y39=>some (.inr (.inr (.inr (y39.1,y39.2))))) y35) else (some (.inr (.inl (l30,x31,x32,l33))))
noncomputable def cO(rc_syntax_parser_rank:Int→ae→Option ((af×(List ab)×Int×Int) ⊕ (Int×Int)))(p2:ae)(y4:(af×(List ab)×Int×Int))(x6:Int):Option (((List af)×(List ab)×Int×Int) ⊕ (Int×Int)) :=
  (cT (fun (l30,x31,x32,l33)=>ig rc_syntax_parser_rank p2 x6 l30 x31 x32 l33) (y4.2.1,y4.2.2.1,y4.2.2.2,(lit ([(y4.1)]:List af)))).bind (Sum.elim (fun (z45,z46,z47,z48)=>d9 z45 z46 z47 z48) (fun z49=>some z49))
noncomputable def jg(rc_syntax_parser_rank:Int→ae→Option ((af×(List ab)×Int×Int) ⊕ (Int×Int)))(p1:Int)(p2:ae):Option (((List af)×(List ab)×Int×Int) ⊕ (Int×Int)) :=
  (rc_syntax_parser_rank 0 p2).bind fun y1=>Sum.elim (fun y4=>if (((10,1):Int×Int) :: ([]:List (Int×Int))).length<1000000 then (if (((13,1):Int×Int) :: (((10,1):Int×Int) :: ([]:List (Int×Int)))).length<1000000 then (if (((7,1):Int×Int) :: (((13,1):Int×Int) :: (((10,1):Int×Int) :: ([]:List (Int×Int))))).length<1000000 then (if (-9223372036854775808≤p1∧p1≤9223372036854775807) then (if ((nK (((12,3):Int×Int) :: (((7,1):Int×Int) :: (((13,1):Int×Int) :: (((10,1):Int×Int) :: ([]:List (Int×Int)))))) p1).getD 0)=0 then (cO rc_syntax_parser_rank p2 y4 2) else (if p1=7 then ((aN (lit ([([44]:List UInt8)]:List (List UInt8))) (ae.mk y4.2.1 p2.end_ y4.2.2.1 y4.2.2.2)).bind fun y50=>if y50=true then (cO rc_syntax_parser_rank p2 y4 2) else (cO rc_syntax_parser_rank p2 y4 ((nK (((12,3):Int×Int) :: (((7,1):Int×Int) :: (((13,1):Int×Int) :: (((10,1):Int×Int) :: ([]:List (Int×Int)))))) p1).getD 0))) else (cO rc_syntax_parser_rank p2 y4 ((nK (((12,3):Int×Int) :: (((7,1):Int×Int) :: (((13,1):Int×Int) :: (((10,1):Int×Int) :: ([]:List (Int×Int)))))) p1).getD 0)))) else none) else none) else none) else none) (fun y5=>some (.inr (y5.1,y5.2))) y1
noncomputable def iV(p1 p2 p3:Int)(p4:List UInt8)(p5:List af)(p6:ae)(p7:List (List am)):Option (Int×Int×Int×(List UInt8)×(List af)×Int) :=
  some (p1,p2,p3,p4,p5,(IntKind.wrap .i64 (p6.terms+1)))
noncomputable def dU(p2 p4:Int)(p5:List UInt8)(p7:ae)(x6:Int)(y11:((List af)×(List ab)×Int×Int))(l15:List ab)(l16:List (List am)):Option ((Int×Int×Int×(List UInt8)×(List af)×Int×(List af)×(List ab)×Int×Int×(List (List am))) ⊕ (Int×Int)) :=
  (aU (lit ([([41]:List UInt8)]:List (List UInt8))) (ae.mk l15 p7.end_ y11.2.2.1 y11.2.2.2)).bind fun y18=>Sum.elim (fun y21=>(iV p2 x6 p4 p5 y11.1 (ae.mk y21 p7.end_ y11.2.2.1 y11.2.2.2) l16).bind fun y23=>some (.inl (y23.1,y23.2.1,y23.2.2.1,y23.2.2.2.1,y23.2.2.2.2.1,x6,y11.1,y21,y11.2.2.1,y23.2.2.2.2.2,l16))) (fun y22=>some (.inr (y22.1,y22.2))) y18
noncomputable def gJ(p1:Int)(p7:ae)(y11:((List af)×(List ab)×Int×Int))(l38:List ab)(l39:List (List am))(x41:Int):Option (((List ab)×(List (List am))×Int) ⊕ (((List ab)×(List (List am))) ⊕ ((Int×Int×Int×(List UInt8)×(List af)×Int×(List af)×(List ab)×Int×Int×(List (List am))) ⊕ (Int×Int)))) :=
  if x41<((nK (((13,2):Int×Int) :: (((10,1):Int×Int) :: ([]:List (Int×Int)))) p1).getD 0) then ((aU (lit ([([44]:List UInt8)]:List (List UInt8))) (ae.mk l38 p7.end_ y11.2.2.1 y11.2.2.2)).bind fun y42=>Sum.elim (fun y45=>(fJ (ae.mk y45 p7.end_ y11.2.2.1 y11.2.2.2)).bind fun y47=>Sum.elim (fun y48=>if kF (l39.length+1) 24 then (some (.inl (y48.2,(l39++(lit ([y48.1]:List (List am)))),(IntKind.wrap .i64 (x41+1))))) else none) (fun y49=>some (.inr (.inr (.inr (y49.1,y49.2))))) y47) (fun y46=>some (.inr (.inr (.inr (y46.1,y46.2))))) y42) else (some (.inr (.inl (l38,l39))))
noncomputable def de(rc_syntax_parser_rank:Int→ae→Option ((af×(List ab)×Int×Int) ⊕ (Int×Int)))(p1 p2 p4:Int)(p5:List UInt8)(p7:ae)(p8:List (List am))(x6:Int)(l7:List ab):Option ((Int×Int×Int×(List UInt8)×(List af)×Int×(List af)×(List ab)×Int×Int×(List (List am))) ⊕ (Int×Int)) :=
  (jg rc_syntax_parser_rank p1 (ae.mk l7 p7.end_ p7.open_ p7.terms)).bind fun y8=>Sum.elim (fun y11=>if (((10,1):Int×Int) :: ([]:List (Int×Int))).length<1000000 then (if (-9223372036854775808≤p1∧p1≤9223372036854775807) then ((cT (fun (l38,l39,x41)=>gJ p1 p7 y11 l38 l39 x41) (y11.2.1,p8,0)).bind (Sum.elim (fun (z50,z51)=>dU p2 p4 p5 p7 x6 y11 z50 z51) (fun z52=>some z52))) else none) else none) (fun y12=>some (.inr (y12.1,y12.2))) y8
noncomputable def iW(rc_syntax_parser_rank:Int→ae→Option ((af×(List ab)×Int×Int) ⊕ (Int×Int)))(p1 p2 p3 p4:Int)(p5:List UInt8)(p6:List af)(p7:ae)(p8:List (List am)):Option ((Int×Int×Int×(List UInt8)×(List af)×Int×(List af)×(List ab)×Int×Int×(List (List am))) ⊕ (Int×Int)) :=
  (aU (lit ([([40]:List UInt8)]:List (List UInt8))) p7).bind fun y1=>Sum.elim (fun y4=>if p1≤9 then (if p1≥7 then ((ie (ae.mk y4 p7.end_ p7.open_ p7.terms)).bind fun y53=>Sum.elim (fun y56=>(aU (lit ([([44]:List UInt8)]:List (List UInt8))) (ae.mk y56.2 p7.end_ p7.open_ p7.terms)).bind fun y58=>Sum.elim (fun y61=>de rc_syntax_parser_rank p1 p2 p4 p5 p7 p8 y56.1 y61) (fun y62=>some (.inr (y62.1,y62.2))) y58) (fun y57=>some (.inr (y57.1,y57.2))) y53) else (de rc_syntax_parser_rank p1 p2 p4 p5 p7 p8 p3 y4)) else (de rc_syntax_parser_rank p1 p2 p4 p5 p7 p8 p3 y4)) (fun y5=>some (.inr (y5.1,y5.2))) y1
noncomputable def gK(rc_syntax_parser_rank:Int→ae→Option ((af×(List ab)×Int×Int) ⊕ (Int×Int)))(p1:ae)(p2 p3 p4 p5:Int)(p6:List UInt8)(p7:List af)(p8:List (List am)):Option ((Int×Int×Int×(List UInt8)×(List af)×(List ab)×Int×Int×Int×(List af)×(List (List am))) ⊕ (Int×Int)) :=
  if p1.open_=60 then ((aY 6 p1).bind fun y1=>some (.inr (y1.1,y1.2))) else ((aZ (ae.mk p1.l p1.end_ (IntKind.wrap .i64 (p1.open_+1)) p1.terms)).bind fun y2=>(iW rc_syntax_parser_rank p2 p3 p4 p5 p6 p7 (ae.mk y2.2 p1.end_ (IntKind.wrap .i64 (p1.open_+1)) p1.terms) p8).bind fun y3=>Sum.elim (fun y6=>some (.inl (y6.1,y6.2.1,y6.2.2.1,y6.2.2.2.1,y6.2.2.2.2.1,y6.2.2.2.2.2.2.2.1,(IntKind.wrap .i64 (y6.2.2.2.2.2.2.2.2.1 - 1)),y6.2.2.2.2.2.2.2.2.2.1,y6.2.2.2.2.2.1,y6.2.2.2.2.2.2.1,y6.2.2.2.2.2.2.2.2.2.2))) (fun y7=>some (.inr (y7.1,y7.2))) y3)
noncomputable def dA(rc_syntax_parser_rank:Int→ae→Option ((af×(List ab)×Int×Int) ⊕ (Int×Int)))(p1:ae)(y2 x4:Int):Option ((af×(List ab)×Int×Int) ⊕ (Int×Int)) :=
  (gK rc_syntax_parser_rank p1 ((lit ([7,8,9,10,12,13,14,15,5,5]:List Int)).getD y2.toNat default) ((lit ([7,8,9,10,12,13,14,15,5,5]:List Int)).getD y2.toNat default) x4 0 [] [] []).bind fun y5=>Sum.elim (fun y8=>some (.inl ((af.mk y8.1 y8.2.1 y8.2.2.1 y8.2.2.2.1 y8.2.2.2.2.2.2.2.2.2.2 y8.2.2.2.2.1),y8.2.2.2.2.2.1,y8.2.2.2.2.2.2.1,y8.2.2.2.2.2.2.2.1))) (fun y9=>some (.inr (y9.1,y9.2))) y5
noncomputable def jy(rc_syntax_parser_rank:Int→ae→Option ((af×(List ab)×Int×Int) ⊕ (Int×Int)))(p1:ae):Option ((af×(List ab)×Int×Int) ⊕ (Int×Int)) :=
  (ib p1).bind fun y1=>(dL y1 (lit ([([109,97,112]:List UInt8),([102,111,108,100]:List UInt8),([115,99,97,110]:List UInt8),([102,105,108,108]:List UInt8),([119,105,116,104]:List UInt8),([115,108,105,99,101]:List UInt8),([99,97,116]:List UInt8),([112,114,101]:List UInt8),([109,105,110]:List UInt8),([109,97,120]:List UInt8)]:List (List UInt8)))).bind fun y2=>if y2<0 then ((aY 4 p1).bind fun y3=>some (.inr (y3.1,y3.2))) else (if (0≤y2∧y2<(10:Int)) then (if y2=8 then (dA rc_syntax_parser_rank p1 y2 6) else (if y2=9 then (dA rc_syntax_parser_rank p1 y2 7) else (dA rc_syntax_parser_rank p1 y2 0))) else none)
noncomputable def cA(rc_syntax_parser_rank:Int→ae→Option ((af×(List ab)×Int×Int) ⊕ (Int×Int)))(p1:ae):Option ((af×(List ab)×Int×Int) ⊕ (Int×Int)) :=
  (jy rc_syntax_parser_rank p1).bind fun y1=>Sum.elim (fun y4=>some (.inl ((y4.1),y4.2.1,y4.2.2.1,y4.2.2.2))) (fun y5=>some (.inr (y5.1,y5.2))) y1
noncomputable def eH(p1:ae)(l13:List ab)(x14:Int):Option ((af×(List ab)×Int×Int) ⊕ (Int×Int)) :=
  (dS (af.mk 2 0 x14 [] [] []) (ae.mk l13 p1.end_ p1.open_ p1.terms)).bind fun y15=>some (.inl ((y15.1),l13,p1.open_,y15.2))
noncomputable def eI(p1:ae)(l30:List ab)(x31:Int):Option ((af×(List ab)×Int×Int) ⊕ (Int×Int)) :=
  (dS (af.mk 2 0 x31 [] [] []) (ae.mk l30 p1.end_ p1.open_ p1.terms)).bind fun y32=>some (.inl ((y32.1),l30,p1.open_,y32.2))
noncomputable def eJ(p1:ae)(l51:List ab)(x52:Int):Option ((af×(List ab)×Int×Int) ⊕ (Int×Int)) :=
  (dS (af.mk 2 0 x52 [] [] []) (ae.mk l51 p1.end_ p1.open_ p1.terms)).bind fun y53=>some (.inl ((y53.1),l51,p1.open_,y53.2))
noncomputable def eM(p1:ae)(l68:List ab)(x69:Int):Option ((af×(List ab)×Int×Int) ⊕ (Int×Int)) :=
  (dS (af.mk 2 0 x69 [] [] []) (ae.mk l68 p1.end_ p1.open_ p1.terms)).bind fun y70=>some (.inl ((y70.1),l68,p1.open_,y70.2))
noncomputable def ii(rc_syntax_parser_rank:Int→ae→Option ((af×(List ab)×Int×Int) ⊕ (Int×Int)))(p1:ae):Option ((af×(List ab)×Int×Int) ⊕ (Int×Int)) :=
  if (p1.l.length:Int)>0 then (if (0≤0∧0<(p1.l.length:Int)) then (if ((p1.l.getD 0 default).kind)=3 then ((aZ p1).bind fun y6=>(eR 1 0 ((y6.1).n) [] (ae.mk y6.2 p1.end_ p1.open_ p1.terms)).bind fun y7=>some (.inl ((y7.1),y6.2,p1.open_,y7.2))) else (if (p1.l.length:Int)>0 then (if ((p1.l.getD 0 default).kind)=2 then ((cd p1).bind fun y8=>Sum.elim (fun y9=>(eR 3 0 0 y9.1 (ae.mk y9.2 p1.end_ p1.open_ p1.terms)).bind fun y11=>some (.inl ((y11.1),y9.2,p1.open_,y11.2))) (fun y10=>some (.inr (y10.1,y10.2))) y8) else ((aN (lit ([([116,114,117,101]:List UInt8),([102,97,108,115,101]:List UInt8)]:List (List UInt8))) p1).bind fun y12=>if y12=true then ((aZ p1).bind fun y16=>if ((y16.1).text)=([116,114,117,101]:List UInt8) then (eH p1 y16.2 1) else (eH p1 y16.2 0)) else ((aN (lit ([([40]:List UInt8)]:List (List UInt8))) p1).bind fun y17=>if y17=true then ((dq rc_syntax_parser_rank p1).bind fun y18=>Sum.elim (fun y21=>some (.inl ((y21.1),y21.2.1,y21.2.2.1,y21.2.2.2))) (fun y22=>some (.inr (y22.1,y22.2))) y18) else ((aN (lit ([([105,102]:List UInt8)]:List (List UInt8))) p1).bind fun y23=>if y23=true then ((dr rc_syntax_parser_rank p1).bind fun y24=>Sum.elim (fun y27=>some (.inl ((y27.1),y27.2.1,y27.2.2.1,y27.2.2.2))) (fun y28=>some (.inr (y28.1,y28.2))) y24) else (cA rc_syntax_parser_rank p1))))) else ((aN (lit ([([116,114,117,101]:List UInt8),([102,97,108,115,101]:List UInt8)]:List (List UInt8))) p1).bind fun y29=>if y29=true then ((aZ p1).bind fun y33=>if ((y33.1).text)=([116,114,117,101]:List UInt8) then (eI p1 y33.2 1) else (eI p1 y33.2 0)) else ((aN (lit ([([40]:List UInt8)]:List (List UInt8))) p1).bind fun y34=>if y34=true then ((dq rc_syntax_parser_rank p1).bind fun y35=>Sum.elim (fun y38=>some (.inl ((y38.1),y38.2.1,y38.2.2.1,y38.2.2.2))) (fun y39=>some (.inr (y39.1,y39.2))) y35) else ((aN (lit ([([105,102]:List UInt8)]:List (List UInt8))) p1).bind fun y40=>if y40=true then ((dr rc_syntax_parser_rank p1).bind fun y41=>Sum.elim (fun y44=>some (.inl ((y44.1),y44.2.1,y44.2.2.1,y44.2.2.2))) (fun y45=>some (.inr (y45.1,y45.2))) y41) else (cA rc_syntax_parser_rank p1)))))) else none) else (if (p1.l.length:Int)>0 then (if (0≤0∧0<(p1.l.length:Int)) then (if ((p1.l.getD 0 default).kind)=2 then ((cd p1).bind fun y46=>Sum.elim (fun y47=>(eR 3 0 0 y47.1 (ae.mk y47.2 p1.end_ p1.open_ p1.terms)).bind fun y49=>some (.inl ((y49.1),y47.2,p1.open_,y49.2))) (fun y48=>some (.inr (y48.1,y48.2))) y46) else ((aN (lit ([([116,114,117,101]:List UInt8),([102,97,108,115,101]:List UInt8)]:List (List UInt8))) p1).bind fun y50=>if y50=true then ((aZ p1).bind fun y54=>if ((y54.1).text)=([116,114,117,101]:List UInt8) then (eJ p1 y54.2 1) else (eJ p1 y54.2 0)) else ((aN (lit ([([40]:List UInt8)]:List (List UInt8))) p1).bind fun y55=>if y55=true then ((dq rc_syntax_parser_rank p1).bind fun y56=>Sum.elim (fun y59=>some (.inl ((y59.1),y59.2.1,y59.2.2.1,y59.2.2.2))) (fun y60=>some (.inr (y60.1,y60.2))) y56) else ((aN (lit ([([105,102]:List UInt8)]:List (List UInt8))) p1).bind fun y61=>if y61=true then ((dr rc_syntax_parser_rank p1).bind fun y62=>Sum.elim (fun y65=>some (.inl ((y65.1),y65.2.1,y65.2.2.1,y65.2.2.2))) (fun y66=>some (.inr (y66.1,y66.2))) y62) else (cA rc_syntax_parser_rank p1))))) else none) else ((aN (lit ([([116,114,117,101]:List UInt8),([102,97,108,115,101]:List UInt8)]:List (List UInt8))) p1).bind fun y67=>if y67=true then ((aZ p1).bind fun y71=>if ((y71.1).text)=([116,114,117,101]:List UInt8) then (eM p1 y71.2 1) else (eM p1 y71.2 0)) else ((aN (lit ([([40]:List UInt8)]:List (List UInt8))) p1).bind fun y72=>if y72=true then ((dq rc_syntax_parser_rank p1).bind fun y73=>Sum.elim (fun y76=>some (.inl ((y76.1),y76.2.1,y76.2.2.1,y76.2.2.2))) (fun y77=>some (.inr (y77.1,y77.2))) y73) else ((aN (lit ([([105,102]:List UInt8)]:List (List UInt8))) p1).bind fun y78=>if y78=true then ((dr rc_syntax_parser_rank p1).bind fun y79=>Sum.elim (fun y82=>some (.inl ((y82.1),y82.2.1,y82.2.2.1,y82.2.2.2))) (fun y83=>some (.inr (y83.1,y83.2))) y79) else (cA rc_syntax_parser_rank p1)))))
noncomputable def iH(rc_syntax_parser_rank:Int→ae→Option ((af×(List ab)×Int×Int) ⊕ (Int×Int)))(p1:af)(p2:ae):Option ((af×(List ab)×Int×Int) ⊕ (Int×Int)) :=
  (rc_syntax_parser_rank 0 p2).bind fun y1=>Sum.elim (fun y4=>(aU (lit ([([58]:List UInt8)]:List (List UInt8))) (ae.mk y4.2.1 p2.end_ y4.2.2.1 y4.2.2.2)).bind fun y6=>Sum.elim (fun y9=>(rc_syntax_parser_rank 0 (ae.mk y9 p2.end_ y4.2.2.1 y4.2.2.2)).bind fun y11=>Sum.elim (fun y12=>(dk 11 0 0 [] (ae.mk y12.2.1 p2.end_ y12.2.2.1 y12.2.2.2) (lit ([p1,(y4.1),(y12.1)]:List af))).bind fun y14=>(aU (lit ([([93]:List UInt8)]:List (List UInt8))) (ae.mk y12.2.1 p2.end_ y12.2.2.1 y14.2.2.2.2.2)).bind fun y15=>Sum.elim (fun y18=>some (.inl ((af.mk y14.1 y14.2.1 y14.2.2.1 y14.2.2.2.1 y14.2.2.2.2.1 (lit ([p1,(y4.1),(y12.1)]:List af))),y18,y12.2.2.1,y14.2.2.2.2.2))) (fun y19=>some (.inr (y19.1,y19.2))) y15) (fun y13=>some (.inr (y13.1,y13.2))) y11) (fun y10=>some (.inr (y10.1,y10.2))) y6) (fun y5=>some (.inr (y5.1,y5.2))) y1
noncomputable def gL(rc_syntax_parser_rank:Int→ae→Option ((af×(List ab)×Int×Int) ⊕ (Int×Int)))(p1:ae)(p2:af):Option ((af×(List ab)×Int×Int) ⊕ (Int×Int)) :=
  if p1.open_=60 then ((aY 6 p1).bind fun y1=>some (.inr (y1.1,y1.2))) else ((aZ (ae.mk p1.l p1.end_ (IntKind.wrap .i64 (p1.open_+1)) p1.terms)).bind fun y2=>(iH rc_syntax_parser_rank p2 (ae.mk y2.2 p1.end_ (IntKind.wrap .i64 (p1.open_+1)) p1.terms)).bind fun y3=>Sum.elim (fun y6=>some (.inl ((y6.1),y6.2.1,(IntKind.wrap .i64 (y6.2.2.1 - 1)),y6.2.2.2))) (fun y7=>some (.inr (y7.1,y7.2))) y3)
noncomputable def gM(rc_syntax_parser_ahead:ae→Option ((af×(List ab)×Int×Int) ⊕ (Int×Int)))(p1:Int)(p2:ae):Option ((af×(List ab)×Int×Int) ⊕ (Int×Int)) :=
  (rc_syntax_parser_ahead p2).bind fun y1=>Sum.elim (fun y2=>(dk 4 p1 0 [] (ae.mk y2.2.1 p2.end_ y2.2.2.1 y2.2.2.2) (lit ([(y2.1)]:List af))).bind fun y4=>some (.inl ((af.mk y4.1 y4.2.1 y4.2.2.1 y4.2.2.2.1 y4.2.2.2.2.1 (lit ([(y2.1)]:List af))),y2.2.1,y2.2.2.1,y4.2.2.2.2.2))) (fun y3=>some (.inr (y3.1,y3.2))) y1
noncomputable def ij(rc_syntax_parser_ahead:ae→Option ((af×(List ab)×Int×Int) ⊕ (Int×Int)))(p1:ae)(p2:Int):Option ((af×(List ab)×Int×Int) ⊕ (Int×Int)) :=
  if p1.open_=60 then ((aY 6 p1).bind fun y1=>some (.inr (y1.1,y1.2))) else ((aZ (ae.mk p1.l p1.end_ (IntKind.wrap .i64 (p1.open_+1)) p1.terms)).bind fun y2=>(gM rc_syntax_parser_ahead p2 (ae.mk y2.2 p1.end_ (IntKind.wrap .i64 (p1.open_+1)) p1.terms)).bind fun y3=>Sum.elim (fun y6=>some (.inl ((y6.1),y6.2.1,(IntKind.wrap .i64 (y6.2.2.1 - 1)),y6.2.2.2))) (fun y7=>some (.inr (y7.1,y7.2))) y3)
noncomputable def ed(rcf:ae→Option ((af×(List ab)×Int×Int) ⊕ (Int×Int)))(p1:ae)(x2:Int):Option ((af×(List ab)×Int×Int) ⊕ (Int×Int)) :=
  (ij rcf p1 x2).bind fun y3=>Sum.elim (fun y6=>some (.inl ((y6.1),y6.2.1,y6.2.2.1,y6.2.2.2))) (fun y7=>some (.inr (y7.1,y7.2))) y3
noncomputable def dt(l14:List ab)(x15 x16 x17 x18 x19:Int)(s20:List UInt8)(l21:List (List am))(l22:List af):Option ((af×(List ab)×Int×Int) ⊕ (Int×Int)) :=
  some (.inl ((af.mk x17 x18 x19 s20 l21 l22),l14,x15,x16))
noncomputable def fw(rc_syntax_parser_rank:Int→ae→Option ((af×(List ab)×Int×Int) ⊕ (Int×Int)))(p1:ae)(l41:List ab)(x42 x43 x44 x45 x46:Int)(s47:List UInt8)(l48:List (List am))(l49:List af):Option (((List ab)×Int×Int×Int×Int×Int×(List UInt8)×(List (List am))×(List af)) ⊕ (((List ab)×Int×Int×Int×Int×Int×(List UInt8)×(List (List am))×(List af)) ⊕ ((af×(List ab)×Int×Int) ⊕ (Int×Int)))) :=
  (aN (lit ([([91]:List UInt8)]:List (List UInt8))) (ae.mk l41 p1.end_ x42 x43)).bind fun y50=>if y50=true then ((gL rc_syntax_parser_rank (ae.mk l41 p1.end_ x42 x43) (af.mk x44 x45 x46 s47 l48 l49)).bind fun y51=>Sum.elim (fun y54=>some (.inl (y54.2.1,y54.2.2.1,y54.2.2.2,(y54.1).op,(y54.1).k,(y54.1).n,(y54.1).name,(y54.1).s,(y54.1).l))) (fun y55=>some (.inr (.inr (.inr (y55.1,y55.2))))) y51) else (some (.inr (.inl (l41,x42,x43,x44,x45,x46,s47,l48,l49))))
noncomputable def fV(rc_syntax_parser_rank:Int→ae→Option ((af×(List ab)×Int×Int) ⊕ (Int×Int)))(rcf:ae→Option ((af×(List ab)×Int×Int) ⊕ (Int×Int)))(p1:ae):Option ((af×(List ab)×Int×Int) ⊕ (Int×Int)) :=
  (aN (lit ([([45]:List UInt8),([110,111,116]:List UInt8)]:List (List UInt8))) p1).bind fun y1=>if y1=true then ((aN (lit ([([110,111,116]:List UInt8)]:List (List UInt8))) p1).bind fun y8=>if y8=true then (ed rcf p1 14) else (ed rcf p1 13)) else ((ii rc_syntax_parser_rank p1).bind fun y9=>Sum.elim (fun y12=>(cT (fun (l41,x42,x43,x44,x45,x46,s47,l48,l49)=>fw rc_syntax_parser_rank p1 l41 x42 x43 x44 x45 x46 s47 l48 l49) (y12.2.1,y12.2.2.1,y12.2.2.2,(y12.1).op,(y12.1).k,(y12.1).n,(y12.1).name,(y12.1).s,(y12.1).l)).bind (Sum.elim (fun (z56,z57,z58,z59,z60,z61,z62,z63,z64)=>dt z56 z57 z58 z59 z60 z61 z62 z63 z64) (fun z65=>some z65))) (fun y13=>some (.inr (y13.1,y13.2))) y9)
noncomputable def dB(rc_syntax_parser_rank:Int→ae→Option ((af×(List ab)×Int×Int) ⊕ (Int×Int))):Nat→ae→Option ((af×(List ab)×Int×Int) ⊕ (Int×Int))
  |0=>fun _=>none
  |n+1=>fV rc_syntax_parser_rank (dB rc_syntax_parser_rank n)
noncomputable def jh(fuel:Nat)(rc_syntax_parser_rank:Int→ae→Option ((af×(List ab)×Int×Int) ⊕ (Int×Int)))(p1:ae):Option ((af×(List ab)×Int×Int) ⊕ (Int×Int)):=dB rc_syntax_parser_rank fuel p1
noncomputable def gN(p1:Int)(p2:ae):Option Int :=
  if (0≤p1∧p1<(5:Int)) then ((aN ((lit ([(lit ([([111,114]:List UInt8),([120,111,114]:List UInt8)]:List (List UInt8))),(lit ([([97,110,100]:List UInt8)]:List (List UInt8))),(lit ([([60]:List UInt8),([61,61]:List UInt8)]:List (List UInt8))),(lit ([([43]:List UInt8),([45]:List UInt8)]:List (List UInt8))),(lit ([([42]:List UInt8),([47]:List UInt8),([37]:List UInt8)]:List (List UInt8)))]:List (List (List UInt8)))).getD p1.toNat default) p2).bind fun y1=>if y1=true then (if (0≤0∧0<(p2.l.length:Int)) then ((cC ((lit ([(lit ([([111,114]:List UInt8),([120,111,114]:List UInt8)]:List (List UInt8))),(lit ([([97,110,100]:List UInt8)]:List (List UInt8))),(lit ([([60]:List UInt8),([61,61]:List UInt8)]:List (List UInt8))),(lit ([([43]:List UInt8),([45]:List UInt8)]:List (List UInt8))),(lit ([([42]:List UInt8),([47]:List UInt8),([37]:List UInt8)]:List (List UInt8)))]:List (List (List UInt8)))).getD p1.toNat default) ((p2.l.getD 0 default).text)).bind fun y2=>if (0≤y2∧y2<(((lit ([(lit ([11,12]:List Int)),(lit ([10]:List Int)),(lit ([8,9]:List Int)),(lit ([1,2]:List Int)),(lit ([3,4,5]:List Int))]:List (List Int))).getD p1.toNat default).length:Int)) then (some (((lit ([(lit ([11,12]:List Int)),(lit ([10]:List Int)),(lit ([8,9]:List Int)),(lit ([1,2]:List Int)),(lit ([3,4,5]:List Int))]:List (List Int))).getD p1.toNat default).getD y2.toNat default)) else none) else none) else (some 0)) else none
noncomputable def cY(l11:List ab)(x12 x13 x14 x15 x16:Int)(s17:List UInt8)(l18:List (List am))(l19:List af):Option ((af×(List ab)×Int×Int) ⊕ (Int×Int)) :=
  some (.inl ((af.mk x14 x15 x16 s17 l18 l19),l11,x12,x13))
noncomputable def fW(rcf:Int→ae→Option ((af×(List ab)×Int×Int) ⊕ (Int×Int)))(p1:Int)(p2:ae)(l41:List ab)(x42 x43 x44 x45 x46:Int)(s47:List UInt8)(l48:List (List am))(l49:List af)(x50:Int):Option (((List ab)×Int×Int×Int×Int×Int×(List UInt8)×(List (List am))×(List af)×Int) ⊕ (((List ab)×Int×Int×Int×Int×Int×(List UInt8)×(List (List am))×(List af)) ⊕ ((af×(List ab)×Int×Int) ⊕ (Int×Int)))) :=
  if ¬ x50=0 then ((aZ (ae.mk l41 p2.end_ x42 x43)).bind fun y51=>(rcf (IntKind.wrap .i64 (p1+1)) (ae.mk y51.2 p2.end_ x42 x43)).bind fun y52=>Sum.elim (fun y53=>(dk 5 x50 0 [] (ae.mk y53.2.1 p2.end_ y53.2.2.1 y53.2.2.2) (lit ([(af.mk x44 x45 x46 s47 l48 l49),(y53.1)]:List af))).bind fun y55=>if p1=2 then (some (.inr (.inl (y53.2.1,y53.2.2.1,y55.2.2.2.2.2,y55.1,y55.2.1,y55.2.2.1,y55.2.2.2.1,y55.2.2.2.2.1,(lit ([(af.mk x44 x45 x46 s47 l48 l49),(y53.1)]:List af)))))) else ((gN p1 (ae.mk y53.2.1 p2.end_ y53.2.2.1 y55.2.2.2.2.2)).bind fun y56=>some (.inl (y53.2.1,y53.2.2.1,y55.2.2.2.2.2,y55.1,y55.2.1,y55.2.2.1,y55.2.2.2.1,y55.2.2.2.2.1,(lit ([(af.mk x44 x45 x46 s47 l48 l49),(y53.1)]:List af)),y56)))) (fun y54=>some (.inr (.inr (.inr (y54.1,y54.2))))) y52) else (some (.inr (.inl (l41,x42,x43,x44,x45,x46,s47,l48,l49))))
noncomputable def gr(fuel:Nat)(rcf:Int→ae→Option ((af×(List ab)×Int×Int) ⊕ (Int×Int)))(p1:Int)(p2:ae):Option ((af×(List ab)×Int×Int) ⊕ (Int×Int)) :=
  if p1=5 then ((jh fuel rcf p2).bind fun y1=>Sum.elim (fun y4=>some (.inl ((y4.1),y4.2.1,y4.2.2.1,y4.2.2.2))) (fun y5=>some (.inr (y5.1,y5.2))) y1) else ((rcf (IntKind.wrap .i64 (p1+1)) p2).bind fun y6=>Sum.elim (fun y9=>(gN p1 (ae.mk y9.2.1 p2.end_ y9.2.2.1 y9.2.2.2)).bind fun y20=>(cT (fun (l41,x42,x43,x44,x45,x46,s47,l48,l49,x50)=>fW rcf p1 p2 l41 x42 x43 x44 x45 x46 s47 l48 l49 x50) (y9.2.1,y9.2.2.1,y9.2.2.2,(y9.1).op,(y9.1).k,(y9.1).n,(y9.1).name,(y9.1).s,(y9.1).l,y20)).bind (Sum.elim (fun (z57,z58,z59,z60,z61,z62,z63,z64,z65)=>cY z57 z58 z59 z60 z61 z62 z63 z64 z65) (fun z66=>some z66))) (fun y10=>some (.inr (y10.1,y10.2))) y6)
noncomputable def dV(fuel:Nat):Nat→Int→ae→Option ((af×(List ab)×Int×Int) ⊕ (Int×Int))
  |0=>fun _ _=>none
  |n+1=>gr fuel (dV fuel n)
noncomputable def jz(fuel:Nat)(p1:Int)(p2:ae):Option ((af×(List ab)×Int×Int) ⊕ (Int×Int)):=dV fuel fuel p1 p2
noncomputable def dC(fuel:Nat)(p1:ae)(x1:Int):Option ((af×(List ab)×Int×Int) ⊕ (Int×Int)) :=
  (jz fuel 0 (ae.mk p1.l p1.end_ p1.open_ 0)).bind fun y2=>Sum.elim (fun y5=>if y5.2.2.2>30 then (some (.inr (7,x1))) else (some (.inl ((y5.1),y5.2.1,y5.2.2.1,y5.2.2.2)))) (fun y6=>some (.inr (y6.1,y6.2))) y2
noncomputable def eT(fuel:Nat)(p1:ae):Option ((af×(List ab)×Int×Int) ⊕ (Int×Int)) :=
  if (p1.l.length:Int)>0 then (if (0≤0∧0<(p1.l.length:Int)) then (dC fuel p1 ((p1.l.getD 0 default).at_)) else none) else (dC fuel p1 p1.end_)
noncomputable def ik(p1:Int)(p2:ae)(l13:List ab)(l14:List (List am)):Option (((List ab)×(List (List am))) ⊕ (((List (List am))×(List ab)) ⊕ (Int×Int))) :=
  if (l14.length:Int)=p1 then ((aY 7 (ae.mk l13 p2.end_ p2.open_ p2.terms)).bind fun y16=>some (.inr (.inr (y16.1,y16.2)))) else ((fJ (ae.mk l13 p2.end_ p2.open_ p2.terms)).bind fun y17=>Sum.elim (fun y20=>if kF (l14.length+1) 24 then ((ca ([44]:List UInt8) (ae.mk y20.2 p2.end_ p2.open_ p2.terms)).bind fun y22=>if y22.1=true then (some (.inl (y22.2,(l14++(lit ([y20.1]:List (List am))))))) else (some (.inr (.inl ((l14++(lit ([y20.1]:List (List am)))),y22.2))))) else none) (fun y21=>some (.inr (.inr (y21.1,y21.2)))) y17)
noncomputable def ji(p1:Int)(p2:ae):Option (((List (List am))×(List ab)) ⊕ (Int×Int)) :=
  (cT (fun (l13,l14)=>ik p1 p2 l13 l14) (p2.l,[])).bind (fun z23=>some z23)
noncomputable def il(fuel:Nat)(p1:Int)(p2:ae)(l17:List ab)(x18 x19:Int)(l20:List af):Option (((List ab)×Int×Int×(List af)) ⊕ (((List af)×(List ab)×Int×Int) ⊕ (Int×Int))) :=
  if (l20.length:Int)=p1 then ((aY 7 (ae.mk l17 p2.end_ x18 x19)).bind fun y22=>some (.inr (.inr (y22.1,y22.2)))) else ((eT fuel (ae.mk l17 p2.end_ x18 x19)).bind fun y23=>Sum.elim (fun y26=>if kF (l20.length+1) 88 then ((ca ([44]:List UInt8) (ae.mk y26.2.1 p2.end_ y26.2.2.1 y26.2.2.2)).bind fun y28=>if y28.1=true then (some (.inl (y28.2,y26.2.2.1,y26.2.2.2,(l20++(lit ([(y26.1)]:List af)))))) else (some (.inr (.inl ((l20++(lit ([(y26.1)]:List af))),y28.2,y26.2.2.1,y26.2.2.2))))) else none) (fun y27=>some (.inr (.inr (y27.1,y27.2)))) y23)
noncomputable def jj(fuel:Nat)(p1:Int)(p2:ae):Option (((List af)×(List ab)×Int×Int) ⊕ (Int×Int)) :=
  (cT (fun (l17,x18,x19,l20)=>il fuel p1 p2 l17 x18 x19 l20) (p2.l,p2.open_,p2.terms,[])).bind (fun z29=>some z29)
noncomputable def eg(p1:ae)(y4:((List (List UInt8))×(List ab)))(y19:((List UInt8)×(List ab)))(l22:List (List am))(l28:List ab)(x29 x30:Int)(l31:List af):Option ((TEq×(List ab)×Int×Int) ⊕ (Int×Int)) :=
  (aU (lit ([([41]:List UInt8)]:List (List UInt8))) (ae.mk l28 p1.end_ x29 x30)).bind fun y32=>Sum.elim (fun y35=>some (.inl ((TEq.mk ((p1.l.getD 0 default).at_) y4.1 y19.1 l22 l31),y35,x29,x30))) (fun y36=>some (.inr (y36.1,y36.2))) y32
noncomputable def eh(fuel:Nat)(p1:ae)(y4:((List (List UInt8))×(List ab)))(y19:((List UInt8)×(List ab)))(l21:List ab)(l22:List (List am)):Option ((TEq×(List ab)×Int×Int) ⊕ (Int×Int)) :=
  (aU (lit ([([40]:List UInt8)]:List (List UInt8))) (ae.mk l21 p1.end_ p1.open_ p1.terms)).bind fun y23=>Sum.elim (fun y26=>(aN (lit ([([41]:List UInt8)]:List (List UInt8))) (ae.mk y26 p1.end_ p1.open_ p1.terms)).bind fun y37=>if y37=true then (eg p1 y4 y19 l22 y26 p1.open_ p1.terms []) else ((jj fuel 30 (ae.mk y26 p1.end_ p1.open_ p1.terms)).bind fun y38=>Sum.elim (fun y41=>eg p1 y4 y19 l22 y41.2.1 y41.2.2.1 y41.2.2.2 y41.1) (fun y42=>some (.inr (y42.1,y42.2))) y38)) (fun y27=>some (.inr (y27.1,y27.2))) y23
noncomputable def ep(fuel:Nat)(p1:ae)(y4:((List (List UInt8))×(List ab)))(y9:(List ab)):Option ((TEq×(List ab)×Int×Int) ⊕ (Int×Int)) :=
  (aU (lit ([([99,97,108,108]:List UInt8)]:List (List UInt8))) (ae.mk y9 p1.end_ p1.open_ p1.terms)).bind fun y11=>Sum.elim (fun y14=>(cd (ae.mk y14 p1.end_ p1.open_ p1.terms)).bind fun y16=>Sum.elim (fun y19=>(ca ([60]:List UInt8) (ae.mk y19.2 p1.end_ p1.open_ p1.terms)).bind fun y43=>if y43.1=true then ((ji 3 (ae.mk y43.2 p1.end_ p1.open_ p1.terms)).bind fun y44=>Sum.elim (fun y47=>(aU (lit ([([62]:List UInt8)]:List (List UInt8))) (ae.mk y47.2 p1.end_ p1.open_ p1.terms)).bind fun y49=>Sum.elim (fun y52=>eh fuel p1 y4 y19 y52 y47.1) (fun y53=>some (.inr (y53.1,y53.2))) y49) (fun y48=>some (.inr (y48.1,y48.2))) y44) else (eh fuel p1 y4 y19 y43.2 [])) (fun y20=>some (.inr (y20.1,y20.2))) y16) (fun y15=>some (.inr (y15.1,y15.2))) y11
noncomputable def i8(fuel:Nat)(p1:ae):Option ((TEq×(List ab)×Int×Int) ⊕ (Int×Int)) :=
  if (0≤0∧0<(p1.l.length:Int)) then ((gq 30 p1).bind fun y1=>Sum.elim (fun y4=>(aU (lit ([([61]:List UInt8)]:List (List UInt8))) (ae.mk y4.2 p1.end_ p1.open_ p1.terms)).bind fun y6=>Sum.elim (fun y9=>if (y4.1.length:Int)=1 then ((aN (lit ([([99,97,108,108]:List UInt8)]:List (List UInt8))) (ae.mk y9 p1.end_ p1.open_ p1.terms)).bind fun y54=>if y54=true then (ep fuel p1 y4 y9) else ((eT fuel (ae.mk y9 p1.end_ p1.open_ p1.terms)).bind fun y55=>Sum.elim (fun y58=>some (.inl ((TEq.mk ((p1.l.getD 0 default).at_) y4.1 [] [] (lit ([(y58.1)]:List af))),y58.2.1,y58.2.2.1,y58.2.2.2))) (fun y59=>some (.inr (y59.1,y59.2))) y55)) else (ep fuel p1 y4 y9)) (fun y10=>some (.inr (y10.1,y10.2))) y6) (fun y5=>some (.inr (y5.1,y5.2))) y1) else none
noncomputable def dD(p1:ae)(y5:((List UInt8)×(List ab)))(l8:List (List UInt8))(l15:List ay)(y24:((List ay)×(List ab)))(l35:List ab)(x36 x37:Int)(l38:List ay)(l40:List TEq):Option ((aS×(List ab)×Int×Int) ⊕ (Int×Int)) :=
  (aZ (ae.mk l35 p1.end_ x36 x37)).bind fun y42=>some (.inl ((aS.mk y5.1 ((p1.l.getD 0 default).at_) l8 l15 y24.1 l38 l40),y42.2,x36,x37))
noncomputable def dE(p1:ae)(l81:List ab)(x82 x83:Int)(l84:List ay)(l86:List TEq):Option (((List ab)×Int×Int×(List ay)×(List TEq)) ⊕ (((List ab)×Int×Int×(List ay)×(List TEq)) ⊕ ((aS×(List ab)×Int×Int) ⊕ (Int×Int)))) :=
  (aU (lit ([([59]:List UInt8)]:List (List UInt8))) (ae.mk l81 p1.end_ x82 x83)).bind fun y88=>Sum.elim (fun y91=>some (.inl (y91,x82,x83,l84,l86))) (fun y92=>some (.inr (.inr (.inr (y92.1,y92.2))))) y88
noncomputable def cZ(fuel:Nat)(p1:ae)(x70 x71:Int)(l72:List ay)(l74:List TEq)(y93:(Bool×(List ab))):Option (((List ab)×Int×Int×(List ay)×(List TEq)) ⊕ (((List ab)×Int×Int×(List ay)×(List TEq)) ⊕ ((aS×(List ab)×Int×Int) ⊕ (Int×Int)))) :=
  if (y93.2.length:Int)=0 then ((aY 4 (ae.mk y93.2 p1.end_ x70 x71)).bind fun y102=>some (.inr (.inr (.inr (y102.1,y102.2))))) else ((i8 fuel (ae.mk y93.2 p1.end_ x70 x71)).bind fun y103=>Sum.elim (fun y104=>if kF (l74.length+1) 96 then (dE p1 y104.2.1 y104.2.2.1 y104.2.2.2 l72 (l74++(lit ([(y104.1)]:List TEq)))) else none) (fun y105=>some (.inr (.inr (.inr (y105.1,y105.2))))) y103)
noncomputable def fX(fuel:Nat)(p1:ae)(l69:List ab)(x70 x71:Int)(l72:List ay)(l74:List TEq):Option (((List ab)×Int×Int×(List ay)×(List TEq)) ⊕ (((List ab)×Int×Int×(List ay)×(List TEq)) ⊕ ((aS×(List ab)×Int×Int) ⊕ (Int×Int)))) :=
  (aN (lit ([([125]:List UInt8)]:List (List UInt8))) (ae.mk l69 p1.end_ x70 x71)).bind fun y76=>if y76=true then (some (.inr (.inl (l69,x70,x71,l72,l74)))) else ((ca ([118,97,114]:List UInt8) (ae.mk l69 p1.end_ x70 x71)).bind fun y93=>if y93.1=true then (if (l72.length:Int)=30 then ((aY 7 (ae.mk y93.2 p1.end_ x70 x71)).bind fun y94=>some (.inr (.inr (.inr (y94.1,y94.2))))) else ((fK (ae.mk y93.2 p1.end_ x70 x71)).bind fun y95=>Sum.elim (fun y96=>if kF (l72.length+1) 48 then (dE p1 y96.2 x70 x71 (l72++(lit ([(ay.mk ((y96.1).name) ((y96.1).t))]:List ay))) l74) else none) (fun y97=>some (.inr (.inr (.inr (y97.1,y97.2))))) y95)) else (if (y93.2.length:Int)>0 then (if (0≤0∧0<(y93.2.length:Int)) then (if ((y93.2.getD 0 default).kind)=2 then (if (l74.length:Int)=60 then ((aY 7 (ae.mk y93.2 p1.end_ x70 x71)).bind fun y106=>some (.inr (.inr (.inr (y106.1,y106.2))))) else (cZ fuel p1 x70 x71 l72 l74 y93)) else (cZ fuel p1 x70 x71 l72 l74 y93)) else none) else (cZ fuel p1 x70 x71 l72 l74 y93)))
noncomputable def dG(fuel:Nat)(p1:ae)(y5:((List UInt8)×(List ab)))(l8:List (List UInt8))(l14:List ab)(l15:List ay):Option ((aS×(List ab)×Int×Int) ⊕ (Int×Int)) :=
  (aU (lit ([([41]:List UInt8),([45,62]:List UInt8),([40]:List UInt8)]:List (List UInt8))) (ae.mk l14 p1.end_ p1.open_ p1.terms)).bind fun y16=>Sum.elim (fun y19=>(fq 30 (ae.mk y19 p1.end_ p1.open_ p1.terms)).bind fun y21=>Sum.elim (fun y24=>(aU (lit ([([41]:List UInt8),([123]:List UInt8)]:List (List UInt8))) (ae.mk y24.2 p1.end_ p1.open_ p1.terms)).bind fun y26=>Sum.elim (fun y29=>(cT (fun (l69,x70,x71,l72,l74)=>fX fuel p1 l69 x70 x71 l72 l74) (y29,p1.open_,p1.terms,[],[])).bind (Sum.elim (fun (z107,z108,z109,z110,z111)=>dD p1 y5 l8 l15 y24 z107 z108 z109 z110 z111) (fun z112=>some z112))) (fun y30=>some (.inr (y30.1,y30.2))) y26) (fun y25=>some (.inr (y25.1,y25.2))) y21) (fun y20=>some (.inr (y20.1,y20.2))) y16
noncomputable def dH(fuel:Nat)(p1:ae)(y5:((List UInt8)×(List ab)))(l7:List ab)(l8:List (List UInt8)):Option ((aS×(List ab)×Int×Int) ⊕ (Int×Int)) :=
  (aU (lit ([([40]:List UInt8)]:List (List UInt8))) (ae.mk l7 p1.end_ p1.open_ p1.terms)).bind fun y9=>Sum.elim (fun y12=>(aN (lit ([([41]:List UInt8)]:List (List UInt8))) (ae.mk y12 p1.end_ p1.open_ p1.terms)).bind fun y113=>if y113=true then (dG fuel p1 y5 l8 y12 []) else ((fq 30 (ae.mk y12 p1.end_ p1.open_ p1.terms)).bind fun y114=>Sum.elim (fun y117=>dG fuel p1 y5 l8 y117.2 y117.1) (fun y118=>some (.inr (y118.1,y118.2))) y114)) (fun y13=>some (.inr (y13.1,y13.2))) y9
noncomputable def im(fuel:Nat)(p1:ae):Option ((aS×(List ab)×Int×Int) ⊕ (Int×Int)) :=
  if (0≤0∧0<(p1.l.length:Int)) then ((aZ p1).bind fun y1=>(cd (ae.mk y1.2 p1.end_ p1.open_ p1.terms)).bind fun y2=>Sum.elim (fun y5=>(ca ([60]:List UInt8) (ae.mk y5.2 p1.end_ p1.open_ p1.terms)).bind fun y119=>if y119.1=true then ((gq 3 (ae.mk y119.2 p1.end_ p1.open_ p1.terms)).bind fun y120=>Sum.elim (fun y123=>(aU (lit ([([62]:List UInt8)]:List (List UInt8))) (ae.mk y123.2 p1.end_ p1.open_ p1.terms)).bind fun y125=>Sum.elim (fun y128=>dH fuel p1 y5 y128 y123.1) (fun y129=>some (.inr (y129.1,y129.2))) y125) (fun y124=>some (.inr (y124.1,y124.2))) y120) else (dH fuel p1 y5 y119.2 [])) (fun y6=>some (.inr (y6.1,y6.2))) y2) else none
noncomputable def gg(l4:List ab)(x5 x6:Int)(l7:List aS):Option (aH×cq) :=
  some ((aH.mk l7),(cq.mk 0 0))
noncomputable def gh(fuel:Nat)(p1:List UInt8)(l25:List ab)(x26 x27:Int)(l28:List aS):Option (((List ab)×Int×Int×(List aS)) ⊕ (((List ab)×Int×Int×(List aS)) ⊕ (aH×cq))) :=
  (aN (lit ([([110,111,100,101]:List UInt8)]:List (List UInt8))) (ae.mk l25 (p1.length:Int) x26 x27)).bind fun y32=>if y32=true then (if (l28.length:Int)=10 then ((aY 7 (ae.mk l25 (p1.length:Int) x26 x27)).bind fun y33=>some (.inr (.inr ((aH.mk []),(cq.mk y33.1 y33.2))))) else ((im fuel (ae.mk l25 (p1.length:Int) x26 x27)).bind fun y34=>Sum.elim (fun y35=>if kF (l28.length+1) 144 then (some (.inl (y35.2.1,y35.2.2.1,y35.2.2.2,(l28++(lit ([(y35.1)]:List aS)))))) else none) (fun y36=>some (.inr (.inr ((aH.mk []),(cq.mk y36.1 y36.2))))) y34)) else ((aY 4 (ae.mk l25 (p1.length:Int) x26 x27)).bind fun y37=>some (.inr (.inr ((aH.mk []),(cq.mk y37.1 y37.2)))))
noncomputable def jq(fuel:Nat)(p1:List UInt8)(l25:List ab)(x26 x27:Int)(l28:List aS):Option (((List ab)×Int×Int×(List aS)) ⊕ (((List ab)×Int×Int×(List aS)) ⊕ (aH×cq))) :=
  if (l25.length:Int)>0 then (gh fuel p1 l25 x26 x27 l28) else (if (l28.length:Int)=0 then (gh fuel p1 l25 x26 x27 l28) else (some (.inr (.inl (l25,x26,x27,l28)))))
noncomputable def jP(fuel:Nat)(p1:List UInt8):Option (aH×cq) :=
  (kf p1).bind fun y1=>if ¬ ((y1.2).code)=0 then (some ((aH.mk []),(y1.2))) else ((cT (fun (l25,x26,x27,l28)=>jq fuel p1 l25 x26 x27 l28) (y1.1,0,0,[])).bind (Sum.elim (fun (z38,z39,z40,z41)=>gg z38 z39 z40 z41) (fun z42=>some z42)))
noncomputable def iq(fuel:Nat):Option Bool :=
  (jP fuel ([110,111,100,101,32,109,97,105,110,40,120,58,32,105,110,116,41,32,45,62,32,40,121,58,32,105,110,116,41,32,123,32,121,32,61,32,120,32,45,32,49,32,45,32,50,59,32,125]:List UInt8)).bind fun y1=>if ((y1.2).code)=0 then (if (((y1.1).nodes).length:Int)=1 then (if (0≤0∧0<(((y1.1).nodes).length:Int)) then (if (((((y1.1).nodes).getD 0 default).eqs).length:Int)=1 then (if (0≤0∧0<(((((y1.1).nodes).getD 0 default).eqs).length:Int)) then (if (((((((y1.1).nodes).getD 0 default).eqs).getD 0 default).e).length:Int)=1 then (if (0≤0∧0<(((((((y1.1).nodes).getD 0 default).eqs).getD 0 default).e).length:Int)) then (some (((((((((y1.1).nodes).getD 0 default).eqs).getD 0 default).e).getD 0 default).k) == 2)) else none) else (some false)) else none) else (some false)) else none) else (some false)) else (some false)
noncomputable def gO:Option Bool :=
  some true
noncomputable def gP(p1 p2:List (List UInt8))(x3:Int):Option (Int ⊕ (Unit ⊕ Bool)) :=
  if x3<(p1.length:Int) then (if (0≤x3∧x3<(p1.length:Int))∧(0≤x3∧x3<(p2.length:Int)) then (if (p1.getD x3.toNat default)=(p2.getD x3.toNat default) then (some (.inl (IntKind.wrap .i64 (x3+1)))) else (some (.inr (.inr false)))) else none) else (some (.inr (.inl ())))
noncomputable def fF(p1 p2:List (List UInt8)):Option Bool :=
  if ¬ (p1.length:Int)=(p2.length:Int) then (some false) else ((cT (fun x3=>gP p1 p2 x3) 0).bind (Sum.elim (fun _=>gO) (fun z4=>some z4)))
noncomputable def gQ:Option Bool :=
  some true
noncomputable def gR(p1 p2:List am)(x3:Int):Option (Int ⊕ (Unit ⊕ Bool)) :=
  if x3<(p1.length:Int) then (if (0≤x3∧x3<(p1.length:Int))∧(0≤x3∧x3<(p2.length:Int)) then (if ((p1.getD x3.toNat default).n)=((p2.getD x3.toNat default).n)∧((p1.getD x3.toNat default).name)=((p2.getD x3.toNat default).name) then (some (.inl (IntKind.wrap .i64 (x3+1)))) else (some (.inr (.inr false)))) else none) else (some (.inr (.inl ())))
noncomputable def iB(p1 p2:List am):Option Bool :=
  if ¬ (p1.length:Int)=(p2.length:Int) then (some false) else ((cT (fun x3=>gR p1 p2 x3) 0).bind (Sum.elim (fun _=>gQ) (fun z4=>some z4)))
noncomputable def gS:Option Bool :=
  some true
noncomputable def gT(p1 p2:List ay)(x3:Int):Option (Int ⊕ (Unit ⊕ Bool)) :=
  if x3<(p1.length:Int) then (if (0≤x3∧x3<(p1.length:Int))∧(0≤x3∧x3<(p2.length:Int)) then (if ((p1.getD x3.toNat default).name)=((p2.getD x3.toNat default).name) then (if ¬ (((p1.getD x3.toNat default).t).elem)=(((p2.getD x3.toNat default).t).elem) then (some (.inr (.inr false))) else ((iB (((p1.getD x3.toNat default).t).n) (((p2.getD x3.toNat default).t).n)).bind fun y4=>if y4=true then (some (.inl (IntKind.wrap .i64 (x3+1)))) else (some (.inr (.inr false))))) else (some (.inr (.inr false)))) else none) else (some (.inr (.inl ())))
noncomputable def dY(p1 p2:List ay):Option Bool :=
  if ¬ (p1.length:Int)=(p2.length:Int) then (some false) else ((cT (fun x3=>gT p1 p2 x3) 0).bind (Sum.elim (fun _=>gS) (fun z5=>some z5)))
noncomputable def gU:Option Bool :=
  some true
noncomputable def gV(p1 p2:List (List am))(x3:Int):Option (Int ⊕ (Unit ⊕ Bool)) :=
  if x3<(p1.length:Int) then (if (0≤x3∧x3<(p1.length:Int))∧(0≤x3∧x3<(p2.length:Int)) then ((iB (p1.getD x3.toNat default) (p2.getD x3.toNat default)).bind fun y4=>if y4=true then (some (.inl (IntKind.wrap .i64 (x3+1)))) else (some (.inr (.inr false)))) else none) else (some (.inr (.inl ())))
noncomputable def gA(p1 p2:List (List am)):Option Bool :=
  if ¬ (p1.length:Int)=(p2.length:Int) then (some false) else ((cT (fun x3=>gV p1 p2 x3) 0).bind (Sum.elim (fun _=>gU) (fun z5=>some z5)))
noncomputable def gW:Option Bool :=
  some true
noncomputable def gX(rcf:(List af)→(List af)→Option Bool)(p1 p2:List af)(x3:Int):Option (Int ⊕ (Unit ⊕ Bool)) :=
  if x3<(p1.length:Int) then (if (0≤x3∧x3<(p1.length:Int))∧(0≤x3∧x3<(p2.length:Int)) then (if ¬ ((p1.getD x3.toNat default).op)=((p2.getD x3.toNat default).op) then (some (.inr (.inr false))) else (if ¬ ((p1.getD x3.toNat default).k)=((p2.getD x3.toNat default).k) then (some (.inr (.inr false))) else (if ((p1.getD x3.toNat default).name)=((p2.getD x3.toNat default).name) then (if ¬ ((p1.getD x3.toNat default).n)=((p2.getD x3.toNat default).n) then (some (.inr (.inr false))) else ((gA ((p1.getD x3.toNat default).s) ((p2.getD x3.toNat default).s)).bind fun y4=>if y4=true then ((rcf ((p1.getD x3.toNat default).l) ((p2.getD x3.toNat default).l)).bind fun y5=>if y5=true then (some (.inl (IntKind.wrap .i64 (x3+1)))) else (some (.inr (.inr false)))) else (some (.inr (.inr false))))) else (some (.inr (.inr false)))))) else none) else (some (.inr (.inl ())))
noncomputable def ir(rcf:(List af)→(List af)→Option Bool)(p1 p2:List af):Option Bool :=
  if ¬ (p1.length:Int)=(p2.length:Int) then (some false) else ((cT (fun x3=>gX rcf p1 p2 x3) 0).bind (Sum.elim (fun _=>gW) (fun z6=>some z6)))
noncomputable def fj:Nat→(List af)→(List af)→Option Bool
  |0=>fun _ _=>none
  |n+1=>ir (fj n)
noncomputable def kj(fuel:Nat)(p1 p2:List af):Option Bool:=fj fuel p1 p2
noncomputable def fL:Option Bool :=
  some true
noncomputable def fM(x3:Int):Option (Int ⊕ (Unit ⊕ Bool)) :=
  some (.inl (IntKind.wrap .i64 (x3+1)))
noncomputable def fN(fuel:Nat)(p1 p2:aH)(p3:Bool)(x3 x6:Int):Option (Int ⊕ (Unit ⊕ Bool)) :=
  if x6<(((p1.nodes.getD x3.toNat default).eqs).length:Int) then (if (0≤x6∧x6<(((p1.nodes.getD x3.toNat default).eqs).length:Int))∧(0≤x6∧x6<(((p2.nodes.getD x3.toNat default).eqs).length:Int)) then (if p3=true then (if ¬ ((((p1.nodes.getD x3.toNat default).eqs).getD x6.toNat default).at_)=((((p2.nodes.getD x3.toNat default).eqs).getD x6.toNat default).at_) then (some (.inr (.inr false))) else (if ((((p1.nodes.getD x3.toNat default).eqs).getD x6.toNat default).node)=((((p2.nodes.getD x3.toNat default).eqs).getD x6.toNat default).node) then ((fF ((((p1.nodes.getD x3.toNat default).eqs).getD x6.toNat default).names) ((((p2.nodes.getD x3.toNat default).eqs).getD x6.toNat default).names)).bind fun y7=>if y7=true then ((gA ((((p1.nodes.getD x3.toNat default).eqs).getD x6.toNat default).s) ((((p2.nodes.getD x3.toNat default).eqs).getD x6.toNat default).s)).bind fun y8=>if y8=true then ((kj fuel ((((p1.nodes.getD x3.toNat default).eqs).getD x6.toNat default).e) ((((p2.nodes.getD x3.toNat default).eqs).getD x6.toNat default).e)).bind fun y9=>if y9=true then (some (.inl (IntKind.wrap .i64 (x6+1)))) else (some (.inr (.inr false)))) else (some (.inr (.inr false)))) else (some (.inr (.inr false)))) else (some (.inr (.inr false))))) else (if ((((p1.nodes.getD x3.toNat default).eqs).getD x6.toNat default).node)=((((p2.nodes.getD x3.toNat default).eqs).getD x6.toNat default).node) then ((fF ((((p1.nodes.getD x3.toNat default).eqs).getD x6.toNat default).names) ((((p2.nodes.getD x3.toNat default).eqs).getD x6.toNat default).names)).bind fun y10=>if y10=true then ((gA ((((p1.nodes.getD x3.toNat default).eqs).getD x6.toNat default).s) ((((p2.nodes.getD x3.toNat default).eqs).getD x6.toNat default).s)).bind fun y11=>if y11=true then ((kj fuel ((((p1.nodes.getD x3.toNat default).eqs).getD x6.toNat default).e) ((((p2.nodes.getD x3.toNat default).eqs).getD x6.toNat default).e)).bind fun y12=>if y12=true then (some (.inl (IntKind.wrap .i64 (x6+1)))) else (some (.inr (.inr false)))) else (some (.inr (.inr false)))) else (some (.inr (.inr false)))) else (some (.inr (.inr false))))) else none) else (some (.inr (.inl ())))
noncomputable def dl(fuel:Nat)(p1 p2:aH)(p3:Bool)(x3:Int):Option (Int ⊕ (Unit ⊕ Bool)) :=
  (cT (fun x6=>fN fuel p1 p2 p3 x3 x6) 0).bind (Sum.elim (fun _=>fM x3) (fun z13=>some (.inr (.inr z13))))
noncomputable def fO(fuel:Nat)(p1 p2:aH)(p3:Bool)(x3:Int):Option (Int ⊕ (Unit ⊕ Bool)) :=
  if x3<(p1.nodes.length:Int) then (if (0≤x3∧x3<(p1.nodes.length:Int))∧(0≤x3∧x3<(p2.nodes.length:Int)) then (if ((p1.nodes.getD x3.toNat default).name)=((p2.nodes.getD x3.toNat default).name) then (if p3=true then (if ¬ ((p1.nodes.getD x3.toNat default).at_)=((p2.nodes.getD x3.toNat default).at_) then (some (.inr (.inr false))) else ((fF ((p1.nodes.getD x3.toNat default).sizes) ((p2.nodes.getD x3.toNat default).sizes)).bind fun y14=>if y14=true then ((dY ((p1.nodes.getD x3.toNat default).in_) ((p2.nodes.getD x3.toNat default).in_)).bind fun y15=>if y15=true then ((dY ((p1.nodes.getD x3.toNat default).out_) ((p2.nodes.getD x3.toNat default).out_)).bind fun y16=>if y16=true then ((dY ((p1.nodes.getD x3.toNat default).local_) ((p2.nodes.getD x3.toNat default).local_)).bind fun y17=>if y17=true then (if ¬ (((p1.nodes.getD x3.toNat default).eqs).length:Int)=(((p2.nodes.getD x3.toNat default).eqs).length:Int) then (some (.inr (.inr false))) else (dl fuel p1 p2 p3 x3)) else (some (.inr (.inr false)))) else (some (.inr (.inr false)))) else (some (.inr (.inr false)))) else (some (.inr (.inr false))))) else ((fF ((p1.nodes.getD x3.toNat default).sizes) ((p2.nodes.getD x3.toNat default).sizes)).bind fun y18=>if y18=true then ((dY ((p1.nodes.getD x3.toNat default).in_) ((p2.nodes.getD x3.toNat default).in_)).bind fun y19=>if y19=true then ((dY ((p1.nodes.getD x3.toNat default).out_) ((p2.nodes.getD x3.toNat default).out_)).bind fun y20=>if y20=true then ((dY ((p1.nodes.getD x3.toNat default).local_) ((p2.nodes.getD x3.toNat default).local_)).bind fun y21=>if y21=true then (if ¬ (((p1.nodes.getD x3.toNat default).eqs).length:Int)=(((p2.nodes.getD x3.toNat default).eqs).length:Int) then (some (.inr (.inr false))) else (dl fuel p1 p2 p3 x3)) else (some (.inr (.inr false)))) else (some (.inr (.inr false)))) else (some (.inr (.inr false)))) else (some (.inr (.inr false))))) else (some (.inr (.inr false)))) else none) else (some (.inr (.inl ())))
noncomputable def it(fuel:Nat)(p1 p2:aH)(p3:Bool):Option Bool :=
  if ¬ (p1.nodes.length:Int)=(p2.nodes.length:Int) then (some false) else ((cT (fun x3=>fO fuel p1 p2 p3 x3) 0).bind (Sum.elim (fun _=>fL) (fun z22=>some z22)))
noncomputable def gu(p1:List (List UInt8))(p2:Int):Option Int :=
  some (IntKind.wrap .i64 (p2 - (p1.length:Int)))
noncomputable def c7(p1:List (List UInt8))(x3:Int):Option (Int ⊕ (Unit ⊕ Int)) :=
  if x3<(p1.length:Int) then (if (0≤x3∧x3<(p1.length:Int)) then (if ((p1.getD x3.toNat default).length:Int)>100 then (some (.inr (.inr (-1)))) else (some (.inl (IntKind.wrap .i64 (x3+1))))) else none) else (some (.inr (.inl ())))
noncomputable def gY(p1:List (List UInt8))(p2:Int):Option Int :=
  if (p1.length:Int)>2000 then (some (-1)) else ((cT (fun x3=>c7 p1 x3) 0).bind (Sum.elim (fun _=>gu p1 p2) (fun z4=>some z4)))
noncomputable def fc(x1:Int):Option Int :=
  some x1
noncomputable def gv(p1:List (List am))(x6 x7:Int):Option ((Int×Int) ⊕ (Int ⊕ Int)) :=
  some (.inl ((IntKind.wrap .i64 (x6 - ((p1.getD x7.toNat default).length:Int))),(IntKind.wrap .i64 (x7+1))))
noncomputable def c8(p1:List (List am))(x7 x10:Int):Option (Int ⊕ (Unit ⊕ Int)) :=
  if x10<((p1.getD x7.toNat default).length:Int) then (if (0≤x10∧x10<((p1.getD x7.toNat default).length:Int)) then (if ((((p1.getD x7.toNat default).getD x10.toNat default).name).length:Int)>100 then (some (.inr (.inr (-1)))) else (some (.inl (IntKind.wrap .i64 (x10+1))))) else none) else (some (.inr (.inl ())))
noncomputable def da(p1:List (List am))(x6 x7:Int):Option ((Int×Int) ⊕ (Int ⊕ Int)) :=
  if x7<(p1.length:Int) then (if x6≥0 then (if (0≤x7∧x7<(p1.length:Int)) then (if ((p1.getD x7.toNat default).length:Int)>2000 then (some (.inr (.inr (-1)))) else ((cT (fun x10=>c8 p1 x7 x10) 0).bind (Sum.elim (fun _=>gv p1 x6 x7) (fun z11=>some (.inr (.inr z11)))))) else none) else (some (.inr (.inl x6)))) else (some (.inr (.inl x6)))
noncomputable def fP(p1:List (List am))(p2:Int):Option Int :=
  (cT (fun (x6,x7)=>da p1 x6 x7) ((IntKind.wrap .i64 (p2 - (p1.length:Int))),0)).bind (Sum.elim (fun z12=>fc z12) (fun z13=>some z13))
noncomputable def fd(x1:Int):Option Int :=
  some x1
noncomputable def db(p1:List ay)(x6 x7:Int):Option ((Int×Int) ⊕ (Int ⊕ Int)) :=
  if x7<(p1.length:Int) then (if x6≥0 then (if (0≤x7∧x7<(p1.length:Int)) then (if (((p1.getD x7.toNat default).name).length:Int)>100 then (some (.inr (.inr (-1)))) else ((fP (lit ([((p1.getD x7.toNat default).t).n]:List (List am))) x6).bind fun y8=>some (.inl (y8,(IntKind.wrap .i64 (x7+1)))))) else none) else (some (.inr (.inl x6)))) else (some (.inr (.inl x6)))
noncomputable def fQ(p1:List ay)(p2:Int):Option Int :=
  (cT (fun (x6,x7)=>db p1 x6 x7) ((IntKind.wrap .i64 (p2 - (p1.length:Int))),0)).bind (Sum.elim (fun z9=>fd z9) (fun z10=>some z10))
noncomputable def fe(x1:Int):Option Int :=
  some x1
noncomputable def dd(rcf:(List af)→Int→Option Int)(p1:List af)(x6 x7:Int):Option ((Int×Int) ⊕ (Int ⊕ Int)) :=
  if x7<(p1.length:Int) then (if x6≥0 then (if (0≤x7∧x7<(p1.length:Int)) then (if (((p1.getD x7.toNat default).name).length:Int)>100 then (some (.inr (.inr (-1)))) else ((fP ((p1.getD x7.toNat default).s) x6).bind fun y8=>if y8≥0 then ((rcf ((p1.getD x7.toNat default).l) y8).bind fun y9=>some (.inl (y9,(IntKind.wrap .i64 (x7+1))))) else (some (.inl (y8,(IntKind.wrap .i64 (x7+1))))))) else none) else (some (.inr (.inl x6)))) else (some (.inr (.inl x6)))
noncomputable def gZ(rcf:(List af)→Int→Option Int)(p1:List af)(p2:Int):Option Int :=
  (cT (fun (x6,x7)=>dd rcf p1 x6 x7) ((IntKind.wrap .i64 (p2 - (p1.length:Int))),0)).bind (Sum.elim (fun z10=>fe z10) (fun z11=>some z11))
noncomputable def cV:Nat→(List af)→Int→Option Int
  |0=>fun _ _=>none
  |n+1=>gZ (cV n)
noncomputable def lc(fuel:Nat)(p1:List af)(p2:Int):Option Int:=cV fuel p1 p2
noncomputable def ja(x1:Int):Option Bool :=
  some (decide (x1<0))
noncomputable def jb(x7 x8:Int):Option ((Int×Int) ⊕ (Int ⊕ Bool)) :=
  some (.inl (x8,(IntKind.wrap .i64 (x7+1))))
noncomputable def io(fuel:Nat)(p1:aH)(x7 x18 x20:Int):Option ((Int×Int) ⊕ (Int ⊕ Bool)) :=
  if x20≥0 then ((lc fuel ((((p1.nodes.getD x7.toNat default).eqs).getD x18.toNat default).e) x20).bind fun y21=>some (.inl (y21,(IntKind.wrap .i64 (x18+1))))) else (some (.inl (x20,(IntKind.wrap .i64 (x18+1)))))
noncomputable def fA(fuel:Nat)(p1:aH)(x7 x17 x18:Int):Option ((Int×Int) ⊕ (Int ⊕ Bool)) :=
  if x18<(((p1.nodes.getD x7.toNat default).eqs).length:Int) then (if x17≥0 then (if (0≤x18∧x18<(((p1.nodes.getD x7.toNat default).eqs).length:Int)) then (if (((((p1.nodes.getD x7.toNat default).eqs).getD x18.toNat default).node).length:Int)>100 then (some (.inr (.inr true))) else ((gY ((((p1.nodes.getD x7.toNat default).eqs).getD x18.toNat default).names) x17).bind fun y19=>if y19≥0 then ((fP ((((p1.nodes.getD x7.toNat default).eqs).getD x18.toNat default).s) y19).bind fun y22=>io fuel p1 x7 x18 y22) else (io fuel p1 x7 x18 y19))) else none) else (some (.inr (.inl x17)))) else (some (.inr (.inl x17)))
noncomputable def fC(fuel:Nat)(p1:aH)(x6 x7:Int):Option ((Int×Int) ⊕ (Int ⊕ Bool)) :=
  if x7<(p1.nodes.length:Int) then (if x6≥0 then (if (0≤x7∧x7<(p1.nodes.length:Int)) then (if (((p1.nodes.getD x7.toNat default).name).length:Int)>100 then (some (.inr (.inr true))) else (if (((p1.nodes.getD x7.toNat default).eqs).length:Int)>1000 then (some (.inr (.inr true))) else ((gY ((p1.nodes.getD x7.toNat default).sizes) x6).bind fun y9=>(fQ ((p1.nodes.getD x7.toNat default).in_) y9).bind fun y10=>(fQ ((p1.nodes.getD x7.toNat default).out_) y10).bind fun y11=>(fQ ((p1.nodes.getD x7.toNat default).local_) y11).bind fun y12=>(cT (fun (x17,x18)=>fA fuel p1 x7 x17 x18) (y12,0)).bind (Sum.elim (fun z23=>jb x7 z23) (fun z24=>some (.inr (.inr z24))))))) else none) else (some (.inr (.inl x6)))) else (some (.inr (.inl x6)))
noncomputable def kT(fuel:Nat)(p1:aH):Option Bool :=
  if (p1.nodes.length:Int)>100 then (some true) else ((cT (fun (x6,x7)=>fC fuel p1 x6 x7) (8000,0)).bind (Sum.elim (fun z25=>ja z25) (fun z26=>some z26)))
noncomputable def cJ:Option Bool :=
  some true
noncomputable def cK(p1 p2:List (List UInt8))(x3:Int):Option (Int ⊕ (Unit ⊕ Bool)) :=
  if x3<(p1.length:Int) then (if (0≤x3∧x3<(p1.length:Int))∧(0≤x3∧x3<(p2.length:Int)) then (if (p1.getD x3.toNat default)=(p2.getD x3.toNat default) then (some (.inl (IntKind.wrap .i64 (x3+1)))) else (some (.inr (.inr false)))) else none) else (some (.inr (.inl ())))
noncomputable def cD(p1 p2:List (List UInt8)):Option Bool :=
  if ¬ (p1.length:Int)=(p2.length:Int) then (some false) else ((cT (fun x3=>cK p1 p2 x3) 0).bind (Sum.elim (fun _=>cJ) (fun z4=>some z4)))
noncomputable def co:Option Bool :=
  some true
noncomputable def cp(p1 p2:List am)(x3:Int):Option (Int ⊕ (Unit ⊕ Bool)) :=
  if x3<(p1.length:Int) then (if (0≤x3∧x3<(p1.length:Int))∧(0≤x3∧x3<(p2.length:Int)) then (if ((p1.getD x3.toNat default).n)=((p2.getD x3.toNat default).n)∧((p1.getD x3.toNat default).name)=((p2.getD x3.toNat default).name) then (some (.inl (IntKind.wrap .i64 (x3+1)))) else (some (.inr (.inr false)))) else none) else (some (.inr (.inl ())))
noncomputable def cE(p1 p2:List am):Option Bool :=
  if ¬ (p1.length:Int)=(p2.length:Int) then (some false) else ((cT (fun x3=>cp p1 p2 x3) 0).bind (Sum.elim (fun _=>co) (fun z4=>some z4)))
noncomputable def gi(p1 p2:List am):Option Bool :=
  (cE p1 p2).bind fun y1=>some y1
noncomputable def jr(p1 p2:f8):Option Bool :=
  if p1.elem=p2.elem then ((gi p1.n p2.n).bind fun y1=>some y1) else (some false)
noncomputable def iu(p1 p2:ay):Option Bool :=
  if p1.name=p2.name then ((jr p1.t p2.t).bind fun y1=>some y1) else (some false)
noncomputable def bn:Option Bool :=
  some true
noncomputable def bo(p1 p2:List ay)(x3:Int):Option (Int ⊕ (Unit ⊕ Bool)) :=
  if x3<(p1.length:Int) then (if (0≤x3∧x3<(p1.length:Int)) then (if (0≤x3∧x3<(p2.length:Int)) then ((iu (ay.mk ((p1.getD x3.toNat default).name) ((p1.getD x3.toNat default).t)) (ay.mk ((p2.getD x3.toNat default).name) ((p2.getD x3.toNat default).t))).bind fun y4=>if y4=true then (some (.inl (IntKind.wrap .i64 (x3+1)))) else (some (.inr (.inr false)))) else none) else none) else (some (.inr (.inl ())))
noncomputable def aV(p1 p2:List ay):Option Bool :=
  if ¬ (p1.length:Int)=(p2.length:Int) then (some false) else ((cT (fun x3=>bo p1 p2 x3) 0).bind (Sum.elim (fun _=>bn) (fun z5=>some z5)))
noncomputable def bp:Option Bool :=
  some true
noncomputable def bq(p1 p2:List (List am))(x3:Int):Option (Int ⊕ (Unit ⊕ Bool)) :=
  if x3<(p1.length:Int) then (if (0≤x3∧x3<(p1.length:Int)) then (if (0≤x3∧x3<(p2.length:Int)) then ((gi (p1.getD x3.toNat default) (p2.getD x3.toNat default)).bind fun y4=>if y4=true then (some (.inl (IntKind.wrap .i64 (x3+1)))) else (some (.inr (.inr false)))) else none) else none) else (some (.inr (.inl ())))
noncomputable def bl(p1 p2:List (List am)):Option Bool :=
  if ¬ (p1.length:Int)=(p2.length:Int) then (some false) else ((cT (fun x3=>bq p1 p2 x3) 0).bind (Sum.elim (fun _=>bp) (fun z5=>some z5)))
noncomputable def js(rc_slices_EqualFunc_api_Expr_api_Expr_api_Expr_api_Expr:(List af)→(List af)→Option Bool)(p1 p2:af):Option Bool :=
  if p1.op=p2.op then (if p1.k=p2.k then (if p1.n=p2.n then (if p1.name=p2.name then ((bl p1.s p2.s).bind fun y1=>if y1=true then ((rc_slices_EqualFunc_api_Expr_api_Expr_api_Expr_api_Expr p1.l p2.l).bind fun y2=>some y2) else (some false)) else (some false)) else (some false)) else (some false)) else (some false)
noncomputable def br:Option Bool :=
  some true
noncomputable def bt(rcf:(List af)→(List af)→Option Bool)(p1 p2:List af)(x3:Int):Option (Int ⊕ (Unit ⊕ Bool)) :=
  if x3<(p1.length:Int) then (if (0≤x3∧x3<(p1.length:Int)) then (if (0≤x3∧x3<(p2.length:Int)) then ((js rcf (p1.getD x3.toNat default) (p2.getD x3.toNat default)).bind fun y4=>if y4=true then (some (.inl (IntKind.wrap .i64 (x3+1)))) else (some (.inr (.inr false)))) else none) else none) else (some (.inr (.inl ())))
noncomputable def bu(rcf:(List af)→(List af)→Option Bool)(p1 p2:List af):Option Bool :=
  if ¬ (p1.length:Int)=(p2.length:Int) then (some false) else ((cT (fun x3=>bt rcf p1 p2 x3) 0).bind (Sum.elim (fun _=>br) (fun z5=>some z5)))
noncomputable def aR:Nat→(List af)→(List af)→Option Bool
  |0=>fun _ _=>none
  |n+1=>bu (aR n)
noncomputable def cg(fuel:Nat)(p1 p2:List af):Option Bool:=aR fuel p1 p2
noncomputable def jo(fuel:Nat)(p1 p2:TEq):Option Bool :=
  (cD p1.names p2.names).bind fun y1=>if y1=true then (if p1.node=p2.node then ((bl p1.s p2.s).bind fun y2=>if y2=true then ((cg fuel p1.e p2.e).bind fun y3=>some y3) else (some false)) else (some false)) else (some false)
noncomputable def bD:Option Bool :=
  some true
noncomputable def bG(fuel:Nat)(p1 p2:List TEq)(x3:Int):Option (Int ⊕ (Unit ⊕ Bool)) :=
  if x3<(p1.length:Int) then (if (0≤x3∧x3<(p1.length:Int)) then (if (0≤x3∧x3<(p2.length:Int)) then ((jo fuel (p1.getD x3.toNat default) (p2.getD x3.toNat default)).bind fun y4=>if y4=true then (some (.inl (IntKind.wrap .i64 (x3+1)))) else (some (.inr (.inr false)))) else none) else none) else (some (.inr (.inl ())))
noncomputable def bN(fuel:Nat)(p1 p2:List TEq):Option Bool :=
  if ¬ (p1.length:Int)=(p2.length:Int) then (some false) else ((cT (fun x3=>bG fuel p1 p2 x3) 0).bind (Sum.elim (fun _=>bD) (fun z5=>some z5)))
noncomputable def iv(fuel:Nat)(p1 p2:aS):Option Bool :=
  if p1.name=p2.name then ((cD p1.sizes p2.sizes).bind fun y1=>if y1=true then ((aV p1.in_ p2.in_).bind fun y2=>if y2=true then ((aV p1.out_ p2.out_).bind fun y3=>if y3=true then ((aV p1.local_ p2.local_).bind fun y4=>if y4=true then ((bN fuel p1.eqs p2.eqs).bind fun y5=>some y5) else (some false)) else (some false)) else (some false)) else (some false)) else (some false)
noncomputable def bf:Option Bool :=
  some true
noncomputable def aL(fuel:Nat)(p1 p2:List aS)(x3:Int):Option (Int ⊕ (Unit ⊕ Bool)) :=
  if x3<(p1.length:Int) then (if (0≤x3∧x3<(p1.length:Int)) then (if (0≤x3∧x3<(p2.length:Int)) then ((iv fuel (p1.getD x3.toNat default) (p2.getD x3.toNat default)).bind fun y4=>if y4=true then (some (.inl (IntKind.wrap .i64 (x3+1)))) else (some (.inr (.inr false)))) else none) else none) else (some (.inr (.inl ())))
noncomputable def bO(fuel:Nat)(p1 p2:List aS):Option Bool :=
  if ¬ (p1.length:Int)=(p2.length:Int) then (some false) else ((cT (fun x3=>aL fuel p1 p2 x3) 0).bind (Sum.elim (fun _=>bf) (fun z5=>some z5)))
noncomputable def jD(fuel:Nat)(p1 p2:aH):Option Bool :=
  (bO fuel p1.nodes p2.nodes).bind fun y1=>some y1
noncomputable def iC(p1:List (List UInt8)):Option (List (List UInt8)) :=
  if kF p1.length 16 then (some p1) else none
noncomputable def hI(l3:List ay):Option (List ay) :=
  some l3
noncomputable def eU(p1 l17:List ay)(x19:Int):Option (((List ay)×Int) ⊕ (List ay)) :=
  if x19<(p1.length:Int) then (if (0≤x19∧x19<(p1.length:Int)) then (if kF ((((p1.getD x19.toNat default).t).n).length) 24 then (if kF (l17.length+1) 48 then (some (.inl ((l17++(lit ([(ay.mk ((p1.getD x19.toNat default).name) ((p1.getD x19.toNat default).t))]:List ay))),(IntKind.wrap .i64 (x19+1))))) else none) else none) else none) else (some (.inr l17))
noncomputable def gB(p1:List ay):Option (List ay) :=
  (cT (fun (l17,x19)=>eU p1 l17 x19) ([],0)).bind (fun z20=>hI z20)
noncomputable def hK(l3:List (List am)):Option (List (List am)) :=
  some l3
noncomputable def eV(p1 l17:List (List am))(x19:Int):Option (((List (List am))×Int) ⊕ (List (List am))) :=
  if x19<(p1.length:Int) then (if (0≤x19∧x19<(p1.length:Int))∧kF ((p1.getD x19.toNat default).length) 24 then (if kF (l17.length+1) 24 then (some (.inl ((l17++(lit ([(p1.getD x19.toNat default)]:List (List am)))),(IntKind.wrap .i64 (x19+1))))) else none) else none) else (some (.inr l17))
noncomputable def iD(p1:List (List am)):Option (List (List am)) :=
  (cT (fun (l17,x19)=>eV p1 l17 x19) ([],0)).bind (fun z20=>hK z20)
noncomputable def hL(l3:List af):Option (List af) :=
  some l3
noncomputable def eW(rcf:(List af)→Option (List af))(p1 l17:List af)(x19:Int):Option (((List af)×Int) ⊕ (List af)) :=
  if x19<(p1.length:Int) then (if (0≤x19∧x19<(p1.length:Int)) then ((iD ((p1.getD x19.toNat default).s)).bind fun y20=>(rcf ((p1.getD x19.toNat default).l)).bind fun y21=>if kF (l17.length+1) 88 then (some (.inl ((l17++(lit ([(af.mk ((p1.getD x19.toNat default).op) ((p1.getD x19.toNat default).k) ((p1.getD x19.toNat default).n) ((p1.getD x19.toNat default).name) y20 y21)]:List af))),(IntKind.wrap .i64 (x19+1))))) else none) else none) else (some (.inr l17))
noncomputable def iw(rcf:(List af)→Option (List af))(p1:List af):Option (List af) :=
  (cT (fun (l17,x19)=>eW rcf p1 l17 x19) ([],0)).bind (fun z22=>hL z22)
noncomputable def dM:Nat→(List af)→Option (List af)
  |0=>fun _=>none
  |n+1=>iw (dM n)
noncomputable def lN(fuel:Nat)(p1:List af):Option (List af):=dM fuel p1
noncomputable def fR(l3:List aS):Option aH :=
  some (aH.mk l3)
noncomputable def fS(x19:Int)(l22:List aS):Option (((List aS)×Int) ⊕ (List aS)) :=
  some (.inl (l22,(IntKind.wrap .i64 (x19+1))))
noncomputable def eX(p1:aH)(l17:List aS)(x19:Int)(y24:(List (List UInt8)))(y25 y26 y27:(List ay))(l32:List TEq):Option (((List aS)×Int) ⊕ (List aS)) :=
  if kF (l17.length+1) 144 then (fS x19 (l17++(lit ([(aS.mk ((p1.nodes.getD x19.toNat default).name) ((p1.nodes.getD x19.toNat default).at_) y24 y25 y26 y27 l32)]:List aS)))) else none
noncomputable def dP(fuel:Nat)(p1:aH)(x19:Int)(l54:List TEq)(x56:Int):Option (((List TEq)×Int) ⊕ (List TEq)) :=
  if x56<(((p1.nodes.getD x19.toNat default).eqs).length:Int) then (if (0≤x56∧x56<(((p1.nodes.getD x19.toNat default).eqs).length:Int)) then ((iC ((((p1.nodes.getD x19.toNat default).eqs).getD x56.toNat default).names)).bind fun y57=>(iD ((((p1.nodes.getD x19.toNat default).eqs).getD x56.toNat default).s)).bind fun y58=>(lN fuel ((((p1.nodes.getD x19.toNat default).eqs).getD x56.toNat default).e)).bind fun y59=>if kF (l54.length+1) 96 then (some (.inl ((l54++(lit ([(TEq.mk ((((p1.nodes.getD x19.toNat default).eqs).getD x56.toNat default).at_) y57 ((((p1.nodes.getD x19.toNat default).eqs).getD x56.toNat default).node) y58 y59)]:List TEq))),(IntKind.wrap .i64 (x56+1))))) else none) else none) else (some (.inr l54))
noncomputable def dQ(fuel:Nat)(p1:aH)(l17:List aS)(x19:Int):Option (((List aS)×Int) ⊕ (List aS)) :=
  if x19<(p1.nodes.length:Int) then (if (0≤x19∧x19<(p1.nodes.length:Int)) then ((iC ((p1.nodes.getD x19.toNat default).sizes)).bind fun y24=>(gB ((p1.nodes.getD x19.toNat default).in_)).bind fun y25=>(gB ((p1.nodes.getD x19.toNat default).out_)).bind fun y26=>(gB ((p1.nodes.getD x19.toNat default).local_)).bind fun y27=>(cT (fun (l54,x56)=>dP fuel p1 x19 l54 x56) ([],0)).bind (fun z60=>eX p1 l17 x19 y24 y25 y26 y27 z60)) else none) else (some (.inr l17))
noncomputable def ix(fuel:Nat)(p1:aH):Option aH :=
  (cT (fun (l17,x19)=>dQ fuel p1 l17 x19) ([],0)).bind (fun z61=>fR z61)
noncomputable def jt(fuel:Nat)(p1 p2:aH):Option Bool :=
  (iq fuel ).bind fun y1=>if y1=true then ((kT fuel p1).bind fun y2=>if y2=true then (some true) else ((kT fuel p2).bind fun y3=>if y3=true then (some true) else ((jD fuel p1 p2).bind fun y4=>(it fuel p1 p2 false).bind fun y5=>if y4=y5 then ((ix fuel p1).bind fun y6=>(jD fuel p1 (y6)).bind fun y7=>some y7) else (some false)))) else (some false)
end Pam
