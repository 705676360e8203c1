/- what token_scanner_blank computes, read off the program by a program of ours -/
import Derived.Test.YtmlmnddnklhfpaaGreatDoorBabcData1
import Derived.Test.YtmlmnddnklhfpaaGreatDoorBBase3
import Derived.Lib.Join
set_option linter.all false
namespace Pam
open Go
noncomputable def fC(x5:Int)(b7:Bool):Option ((Int×Bool) ⊕ Int) :=
  some (.inl ((IntKind.wrap .i64 (x5+1)),b7))
noncomputable def eR(p1:Ω)(x5:Int)(b6 b8:Bool):Option ((Int×Bool) ⊕ Int) :=
  if b8=true then (fC x5 b6) else (if ((p1.getD x5.toNat 0).toNat:Int)=35 then (fC x5 true) else (some (.inr x5)))
noncomputable def dB(p1:Ω)(x5:Int)(b6:Bool):Option ((Int×Bool) ⊕ Int) :=
  if x5<(p1.length:Int) then (if (0≤x5∧x5<(p1.length:Int)) then (if ((p1.getD x5.toNat 0).toNat:Int)=10 then (fC x5 false) else (if b6=true then (eR p1 x5 b6 b6) else (if ((p1.getD x5.toNat 0).toNat:Int)=32 then (eR p1 x5 b6 (((p1.getD x5.toNat 0).toNat:Int) == 32)) else (if ((p1.getD x5.toNat 0).toNat:Int)=9 then (eR p1 x5 b6 (((p1.getD x5.toNat 0).toNat:Int) == 9)) else (eR p1 x5 b6 (((p1.getD x5.toNat 0).toNat:Int) == 13)))))) else none) else (some (.inr x5))
noncomputable def ik(p1:Ω)(p2:Int)(p3:List aa):Option Int :=
  (dh (fun (x5,b6)=>dB p1 x5 b6) (p2,false)).bind (fun z9=>some z9)
end Pam
namespace Pam
open Go
noncomputable def jQ(p1:Int):Option Bool :=
  if p1≥97 then (some (decide (p1≤122))) else (some false)
end Pam
namespace Pam
open Go
noncomputable def kC(p1:Int):Option Bool :=
  if p1≥48 then (some (decide (p1≤57))) else (some false)
end Pam
namespace Pam
open Go
noncomputable def gy(p1:Ω)(p2 x1:Int):Option ((Ω)×Int) :=
  if (0≤p2∧p2≤x1∧x1≤(p1.length:Int)) then (some (((p1.take x1.toNat).drop p2.toNat),x1)) else none
noncomputable def gU(x4:Int):Option (Int ⊕ Int) :=
  some (.inl (IntKind.wrap .i64 (x4+1)))
noncomputable def gA(p1:Ω)(x4:Int):Option (Int ⊕ Int) :=
  if x4<(p1.length:Int) then (if (0≤x4∧x4<(p1.length:Int)) then ((jQ ((p1.getD x4.toNat 0).toNat:Int)).bind fun y5=>if y5=true then (gU x4) else ((kC ((p1.getD x4.toNat 0).toNat:Int)).bind fun y6=>if y6=true then (gU x4) else (some (.inr x4)))) else none) else (some (.inr x4))
noncomputable def gJ(p1:Ω)(p2:Int)(p3:List aa):Option ((Ω)×Int) :=
  (dh (fun x4=>gA p1 x4) p2).bind (fun z7=>gy p1 p2 z7)
end Pam
namespace Pam
open Go
noncomputable def aX(b1:Bool):Option Bool :=
  if b1=true then (some true) else (some false)
noncomputable def mz(p1:Ω):Option Bool :=
  if p1=([97,100,100]:Ω) then (aX (p1 == ([97,100,100]:Ω))) else (if p1=([97,110,100]:Ω) then (aX (p1 == ([97,110,100]:Ω))) else (if p1=([98,111,111,108]:Ω) then (aX (p1 == ([98,111,111,108]:Ω))) else (if p1=([99,97,108,108]:Ω) then (aX (p1 == ([99,97,108,108]:Ω))) else (if p1=([99,97,116]:Ω) then (aX (p1 == ([99,97,116]:Ω))) else (if p1=([100,105,118]:Ω) then (aX (p1 == ([100,105,118]:Ω))) else (if p1=([101,108,115,101]:Ω) then (aX (p1 == ([101,108,115,101]:Ω))) else (if p1=([101,113]:Ω) then (aX (p1 == ([101,113]:Ω))) else (if p1=([102,97,108,115,101]:Ω) then (aX (p1 == ([102,97,108,115,101]:Ω))) else (if p1=([102,105,108,108]:Ω) then (aX (p1 == ([102,105,108,108]:Ω))) else (if p1=([102,111,108,100]:Ω) then (aX (p1 == ([102,111,108,100]:Ω))) else (if p1=([105,102]:Ω) then (aX (p1 == ([105,102]:Ω))) else (if p1=([105,110,116]:Ω) then (aX (p1 == ([105,110,116]:Ω))) else (if p1=([108,101,115,115]:Ω) then (aX (p1 == ([108,101,115,115]:Ω))) else (if p1=([109,97,112]:Ω) then (aX (p1 == ([109,97,112]:Ω))) else (if p1=([109,97,120]:Ω) then (aX (p1 == ([109,97,120]:Ω))) else (if p1=([109,105,110]:Ω) then (aX (p1 == ([109,105,110]:Ω))) else (if p1=([109,111,100]:Ω) then (aX (p1 == ([109,111,100]:Ω))) else (if p1=([109,117,108]:Ω) then (aX (p1 == ([109,117,108]:Ω))) else (if p1=([110,101,103]:Ω) then (aX (p1 == ([110,101,103]:Ω))) else (if p1=([110,111,100,101]:Ω) then (aX (p1 == ([110,111,100,101]:Ω))) else (if p1=([110,111,116]:Ω) then (aX (p1 == ([110,111,116]:Ω))) else (if p1=([111,114]:Ω) then (aX (p1 == ([111,114]:Ω))) else (if p1=([112,114,101]:Ω) then (aX (p1 == ([112,114,101]:Ω))) else (if p1=([115,99,97,110]:Ω) then (aX (p1 == ([115,99,97,110]:Ω))) else (if p1=([115,108,105,99,101]:Ω) then (aX (p1 == ([115,108,105,99,101]:Ω))) else (if p1=([115,117,98]:Ω) then (aX (p1 == ([115,117,98]:Ω))) else (if p1=([116,104,101,110]:Ω) then (aX (p1 == ([116,104,101,110]:Ω))) else (if p1=([116,114,117,101]:Ω) then (aX (p1 == ([116,114,117,101]:Ω))) else (if p1=([118,97,114]:Ω) then (aX (p1 == ([118,97,114]:Ω))) else (if p1=([119,105,116,104]:Ω) then (aX (p1 == ([119,105,116,104]:Ω))) else (aX (p1 == ([120,111,114]:Ω)))))))))))))))))))))))))))))))))
end Pam
namespace Pam
open Go
noncomputable def lL(p1:Ω)(p2 p3:Int):Option Int :=
  if p2=10∧p3=64 then Ae p1 else none
end Pam
namespace Pam
open Go
noncomputable def jB(p1:Ω):Option (Int×Bool) :=
  (lL p1 10 64).bind fun y1=>some (y1,true)
noncomputable def il(p1:Ω)(x4:Int):Option (Int ⊕ (Unit ⊕ (Int×Bool))) :=
  if x4<(p1.length:Int) then (if (0≤x4∧x4<(p1.length:Int)) then ((kC ((p1.getD x4.toNat 0).toNat:Int)).bind fun y5=>if y5=true then (some (.inl (IntKind.wrap .i64 (x4+1)))) else (some (.inr (.inr (0,false))))) else none) else (some (.inr (.inl ())))
noncomputable def iT(p1:Ω):Option (Int×Bool) :=
  (dh (fun x4=>il p1 x4) 0).bind (Sum.elim (fun _=>jB p1) (fun z6=>some z6))
noncomputable def lM(p1:Ω):Option (Int×Bool) :=
  if (p1.length:Int)>18 then (some (0,false)) else (if (p1.length:Int)>1 then (if (0≤0∧0<(p1.length:Int)) then (if ((p1.getD 0 0).toNat:Int)=48 then (some (0,false)) else (iT p1)) else none) else (iT p1))
end Pam
namespace Pam
open Go
noncomputable def gE(p1 p2:Ω):Option Bool :=
  if (p1.length:Int)≥(p2.length:Int) then (if (0≤(p2.length:Int)∧(p2.length:Int)≤(p1.length:Int)) then (some ((p1.take p2.length) == p2)) else none) else (some false)
end Pam
namespace Pam
open Go
noncomputable def ib(p1 p2:Ω):Option Bool :=
  (gE p1 p2).bind fun y1=>some y1
end Pam
namespace Pam
open Go
noncomputable def aG(p1:Ω)(p2:Int)(b1:Bool):Option Ω :=
  if b1=true then (if (0≤(IntKind.wrap .i32 ((p1.getD p2.toNat 0).toNat:Int))∧(IntKind.wrap .i32 ((p1.getD p2.toNat 0).toNat:Int))<128) then (some ([UInt8.ofNat ((IntKind.wrap .i32 ((p1.getD p2.toNat 0).toNat:Int)).toNat)]:Ω)) else none) else (some ([]:Ω))
noncomputable def gK(p1:Ω)(p2:Int):Option Ω :=
  if (0≤p2∧p2<(p1.length:Int)) then (if ((p1.getD p2.toNat 0).toNat:Int)=40 then (aG p1 p2 (((p1.getD p2.toNat 0).toNat:Int) == 40)) else (if ((p1.getD p2.toNat 0).toNat:Int)=41 then (aG p1 p2 (((p1.getD p2.toNat 0).toNat:Int) == 41)) else (if ((p1.getD p2.toNat 0).toNat:Int)=123 then (aG p1 p2 (((p1.getD p2.toNat 0).toNat:Int) == 123)) else (if ((p1.getD p2.toNat 0).toNat:Int)=125 then (aG p1 p2 (((p1.getD p2.toNat 0).toNat:Int) == 125)) else (if ((p1.getD p2.toNat 0).toNat:Int)=91 then (aG p1 p2 (((p1.getD p2.toNat 0).toNat:Int) == 91)) else (if ((p1.getD p2.toNat 0).toNat:Int)=93 then (aG p1 p2 (((p1.getD p2.toNat 0).toNat:Int) == 93)) else (if ((p1.getD p2.toNat 0).toNat:Int)=60 then (aG p1 p2 (((p1.getD p2.toNat 0).toNat:Int) == 60)) else (if ((p1.getD p2.toNat 0).toNat:Int)=62 then (aG p1 p2 (((p1.getD p2.toNat 0).toNat:Int) == 62)) else (if ((p1.getD p2.toNat 0).toNat:Int)=44 then (aG p1 p2 (((p1.getD p2.toNat 0).toNat:Int) == 44)) else (if ((p1.getD p2.toNat 0).toNat:Int)=59 then (aG p1 p2 (((p1.getD p2.toNat 0).toNat:Int) == 59)) else (if ((p1.getD p2.toNat 0).toNat:Int)=58 then (aG p1 p2 (((p1.getD p2.toNat 0).toNat:Int) == 58)) else (if ((p1.getD p2.toNat 0).toNat:Int)=43 then (aG p1 p2 (((p1.getD p2.toNat 0).toNat:Int) == 43)) else (if ((p1.getD p2.toNat 0).toNat:Int)=45 then (aG p1 p2 (((p1.getD p2.toNat 0).toNat:Int) == 45)) else (if ((p1.getD p2.toNat 0).toNat:Int)=42 then (aG p1 p2 (((p1.getD p2.toNat 0).toNat:Int) == 42)) else (if ((p1.getD p2.toNat 0).toNat:Int)=47 then (aG p1 p2 (((p1.getD p2.toNat 0).toNat:Int) == 47)) else (if ((p1.getD p2.toNat 0).toNat:Int)=37 then (aG p1 p2 (((p1.getD p2.toNat 0).toNat:Int) == 37)) else (if ((p1.getD p2.toNat 0).toNat:Int)=61 then (aG p1 p2 (((p1.getD p2.toNat 0).toNat:Int) == 61)) else (aG p1 p2 (((p1.getD p2.toNat 0).toNat:Int) == 94))))))))))))))))))) else none
noncomputable def et(p1:Ω)(p2 x4:Int):Option (Int ⊕ (Unit ⊕ Ω)) :=
  if x4<(2:Int) then (if (0≤x4∧x4<(2:Int)) then (if (0≤p2∧p2≤(p1.length:Int)) then ((ib (p1.drop p2.toNat) ((lit ([([61,61]:Ω),([45,62]:Ω)]:List Ω)).getD x4.toNat default)).bind fun y5=>if y5=true then (some (.inr (.inr ((lit ([([61,61]:Ω),([45,62]:Ω)]:List Ω)).getD x4.toNat default)))) else (some (.inl (IntKind.wrap .i64 (x4+1))))) else none) else none) else (some (.inr (.inl ())))
noncomputable def iv(p1:Ω)(p2:Int)(p3:List aa):Option Ω :=
  (dh (fun x4=>et p1 p2 x4) 0).bind (Sum.elim (fun _=>gK p1 p2) (fun z6=>some z6))
end Pam
namespace Pam
open Go
noncomputable def cV(p2:Int)(p3:List aa)(x1 x2:Int)(s3:Ω)(x4:Int):Option (Int×Int×(List aa)) :=
  if lK (p3.length+1) 40 then (some (0,x1,(p3++(lit ([(aa.mk x2 p2 s3 x4)]:List aa))))) else none
noncomputable def ie(p1:Ω)(p2:Int)(p3:List aa):Option (Int×Int×(List aa)) :=
  if (0≤p2∧p2<(p1.length:Int)) then ((jQ ((p1.getD p2.toNat 0).toNat:Int)).bind fun y5=>if y5=true then ((gJ p1 p2 p3).bind fun y6=>(mz y6.1).bind fun y7=>if y7=true then (cV p2 p3 y6.2 1 y6.1 0) else (if (y6.1.length:Int)>12 then (some (3,y6.2,p3)) else (cV p2 p3 y6.2 2 y6.1 0))) else ((kC ((p1.getD p2.toNat 0).toNat:Int)).bind fun y8=>if y8=true then ((gJ p1 p2 p3).bind fun y9=>(lM y9.1).bind fun y10=>if y10.2=true then (cV p2 p3 y9.2 3 y9.1 y10.1) else (some (2,y9.2,p3))) else ((iv p1 p2 p3).bind fun y11=>if y11=([]:Ω) then (some (1,p2,p3)) else (cV p2 p3 (IntKind.wrap .i64 (p2+(y11.length:Int))) 4 y11 0)))) else none
end Pam
namespace Pam
open Go
noncomputable def mj(x3:Int)(l4:List aa):Option ((List aa)×aq) :=
  some (l4,(aq.mk 0 0))
noncomputable def hU(p1:Ω)(x19:Int)(l20:List aa):Option ((Int×(List aa)) ⊕ ((Int×(List aa)) ⊕ ((List aa)×aq))) :=
  if x19<(p1.length:Int) then ((ie p1 x19 l20).bind fun y22=>if ¬ y22.1=0 then (some (.inr (.inr ([],(aq.mk y22.1 x19))))) else ((ik p1 y22.2.1 y22.2.2).bind fun y24=>some (.inl (y24,y22.2.2)))) else (some (.inr (.inl (x19,l20))))
noncomputable def mA(p1:Ω):Option ((List aa)×aq) :=
  if (p1.length:Int)>12000 then (some ([],(aq.mk 7 12000))) else ((ik p1 0 []).bind fun y6=>(dh (fun (x19,l20)=>hU p1 x19 l20) (y6,[])).bind (Sum.elim (fun (z25,z26)=>mj z25 z26) (fun z27=>some z27)))
end Pam
namespace Pam
open Go
noncomputable def eA:Option Int :=
  some (-1)
noncomputable def fp(p1:List Ω)(p2:Ω)(x3:Int):Option (Int ⊕ (Unit ⊕ Int)) :=
  if x3<(p1.length:Int) then (if (0≤x3∧x3<(p1.length:Int)) then (if p2=(p1.getD x3.toNat default) then (some (.inr (.inr x3))) else (some (.inl (IntKind.wrap .i64 (x3+1))))) else none) else (some (.inr (.inl ())))
noncomputable def dk(p1:List Ω)(p2:Ω):Option Int :=
  (dh (fun x3=>fp p1 p2 x3) 0).bind (Sum.elim (fun _=>eA) (fun z4=>some z4))
end Pam
namespace Pam
open Go
noncomputable def fq(p1:List Ω)(p2:Ω):Option Bool :=
  (dk p1 p2).bind fun y1=>some (decide (y1≥0))
end Pam
namespace Pam
open Go
noncomputable def aL(p1:List Ω)(p2:af):Option Bool :=
  if (p2.l.length:Int)>0 then (if (0≤0∧0<(p2.l.length:Int)) then (if ¬ ((p2.l.getD 0 default).kind)=2 then ((fq p1 ((p2.l.getD 0 default).text)).bind fun y1=>some y1) else (some false)) else none) else (some false)
end Pam
namespace Pam
open Go
noncomputable def aD(p1:Int)(p2:af):Option (Int×Int) :=
  if (p2.l.length:Int)>0 then (if (0≤0∧0<(p2.l.length:Int)) then (some (p1,(p2.l.getD 0 default).at_)) else none) else (if p1=4 then (some (5,p2.end_)) else (some (p1,p2.end_)))
end Pam
namespace Pam
open Go
noncomputable def aM(p1:af):Option (aa×(List aa)) :=
  if (0≤0∧0<(p1.l.length:Int)) then (if (0≤1∧1≤(p1.l.length:Int)) then (some ((p1.l.getD 0 default),(p1.l.drop 1))) else none) else none
end Pam
namespace Pam
open Go
noncomputable def ce(p1:Int)(p2:af):Option ((aa×(List aa)) ⊕ (Int×Int)) :=
  if (p2.l.length:Int)=0 then ((aD 4 p2).bind fun y1=>some (.inr (y1.1,y1.2))) else (if (0≤0∧0<(p2.l.length:Int)) then (if ¬ ((p2.l.getD 0 default).kind)=p1 then ((aD 4 p2).bind fun y2=>some (.inr (y2.1,y2.2))) else ((aM p2).bind fun y3=>some (.inl ((y3.1),y3.2)))) else none)
end Pam
namespace Pam
open Go
noncomputable def bg(p1:af):Option (((Ω)×(List aa)) ⊕ (Int×Int)) :=
  (ce 2 p1).bind fun y1=>Sum.elim (fun y4=>some (.inl ((y4.1).text,y4.2))) (fun y5=>some (.inr (y5.1,y5.2))) y1
end Pam
namespace Pam
open Go
noncomputable def aY(p1:Ω)(p2:af):Option (Bool×(List aa)) :=
  (aL (lit ([p1]:List Ω)) p2).bind fun y1=>if y1=true then ((aM p2).bind fun y2=>some (y1,y2.2)) else (some (y1,p2.l))
end Pam
namespace Pam
open Go
noncomputable def cD(p1:Int)(p2:af)(l13:List aa)(l14:List Ω):Option (((List aa)×(List Ω)) ⊕ (((List Ω)×(List aa)) ⊕ (Int×Int))) :=
  if (l14.length:Int)=p1 then ((aD 7 (af.mk l13 p2.end_ p2.open_ p2.terms)).bind fun y16=>some (.inr (.inr (y16.1,y16.2)))) else ((bg (af.mk l13 p2.end_ p2.open_ p2.terms)).bind fun y17=>Sum.elim (fun y20=>if lK (l14.length+1) 16 then ((aY ([44]:Ω) (af.mk y20.2 p2.end_ p2.open_ p2.terms)).bind fun y22=>if y22.1=true then (some (.inl (y22.2,(l14++(lit ([y20.1]:List Ω)))))) else (some (.inr (.inl ((l14++(lit ([y20.1]:List Ω))),y22.2))))) else none) (fun y21=>some (.inr (.inr (y21.1,y21.2)))) y17)
noncomputable def fm(p1:Int)(p2:af):Option (((List Ω)×(List aa)) ⊕ (Int×Int)) :=
  (dh (fun (l13,l14)=>cD p1 p2 l13 l14) (p2.l,[])).bind (fun z23=>some z23)
end Pam
namespace Pam
open Go
noncomputable def bH(p1:List Ω)(p2:af)(l5:List aa)(x6:Int):Option (((List aa)×Int) ⊕ ((List aa) ⊕ (Int×Int))) :=
  if x6<(p1.length:Int) then (if (0≤x6∧x6<(p1.length:Int)) then ((aL (lit ([(p1.getD x6.toNat default)]:List Ω)) (af.mk l5 p2.end_ p2.open_ p2.terms)).bind fun y7=>if y7=true then ((aM (af.mk l5 p2.end_ p2.open_ p2.terms)).bind fun y8=>some (.inl (y8.2,(IntKind.wrap .i64 (x6+1))))) else ((aD 4 (af.mk l5 p2.end_ p2.open_ p2.terms)).bind fun y9=>some (.inr (.inr (y9.1,y9.2))))) else none) else (some (.inr (.inl l5)))
noncomputable def aA(p1:List Ω)(p2:af):Option ((List aa) ⊕ (Int×Int)) :=
  (dh (fun (l5,x6)=>bH p1 p2 l5 x6) (p2.l,0)).bind (fun z10=>some z10)
end Pam
namespace Pam
open Go
noncomputable def cg(p1:Int)(p2:af):Option ((ag×(List aa)) ⊕ (Int×Int)) :=
  (ce 3 p2).bind fun y1=>Sum.elim (fun y4=>(aY ([42]:Ω) (af.mk y4.2 p2.end_ p2.open_ p2.terms)).bind fun y6=>if y6.1=true then ((bg (af.mk y6.2 p2.end_ p2.open_ p2.terms)).bind fun y7=>Sum.elim (fun y10=>some (.inl ((ag.mk (IntKind.wrap .i64 (p1 * ((y4.1).n))) y10.1),y10.2))) (fun y11=>some (.inr (y11.1,y11.2))) y7) else (some (.inl ((ag.mk (IntKind.wrap .i64 (p1 * ((y4.1).n))) []),y6.2)))) (fun y5=>some (.inr (y5.1,y5.2))) y1
noncomputable def dl(p1:Int)(p2:af):Option ((ag×(List aa)) ⊕ (Int×Int)) :=
  if (p2.l.length:Int)>0 then (if (0≤0∧0<(p2.l.length:Int)) then (if ((p2.l.getD 0 default).kind)=2 then ((bg p2).bind fun y12=>Sum.elim (fun y15=>some (.inl ((ag.mk p1 y15.1),y15.2))) (fun y16=>some (.inr (y16.1,y16.2))) y12) else (cg p1 p2)) else none) else (cg p1 p2)
end Pam
namespace Pam
open Go
noncomputable def dv(l10:List aa)(l11:List ag):Option (((List ag)×(List aa)) ⊕ (Int×Int)) :=
  some (.inl (l11,l10))
noncomputable def cj(p1:af)(l26:List ag)(l31:List aa)(x33:Int):Option (((List aa)×(List ag)) ⊕ (((List aa)×(List ag)) ⊕ (((List ag)×(List aa)) ⊕ (Int×Int)))) :=
  (dl x33 (af.mk l31 p1.end_ p1.open_ p1.terms)).bind fun y34=>Sum.elim (fun y37=>if lK (l26.length+1) 24 then (some (.inl (y37.2,(l26++(lit ([(y37.1)]:List ag)))))) else none) (fun y38=>some (.inr (.inr (.inr (y38.1,y38.2))))) y34
noncomputable def bz(p1:af)(l25:List aa)(l26:List ag):Option (((List aa)×(List ag)) ⊕ (((List aa)×(List ag)) ⊕ (((List ag)×(List aa)) ⊕ (Int×Int)))) :=
  (aL (lit ([([43]:Ω),([45]:Ω)]:List Ω)) (af.mk l25 p1.end_ p1.open_ p1.terms)).bind fun y28=>if y28=true then (if (l26.length:Int)=30 then ((aD 7 (af.mk l25 p1.end_ p1.open_ p1.terms)).bind fun y29=>some (.inr (.inr (.inr (y29.1,y29.2))))) else ((aM (af.mk l25 p1.end_ p1.open_ p1.terms)).bind fun y39=>if ((y39.1).text)=([45]:Ω) then (cj p1 l26 y39.2 (-1)) else (cj p1 l26 y39.2 1))) else (some (.inr (.inl (l25,l26))))
noncomputable def cm(p1:af)(l1:List aa)(x2:Int):Option (((List ag)×(List aa)) ⊕ (Int×Int)) :=
  (dl x2 (af.mk l1 p1.end_ p1.open_ p1.terms)).bind fun y3=>Sum.elim (fun y6=>(dh (fun (l25,l26)=>bz p1 l25 l26) (y6.2,(lit ([(y6.1)]:List ag)))).bind (Sum.elim (fun (z40,z41)=>dv z40 z41) (fun z42=>some z42))) (fun y7=>some (.inr (y7.1,y7.2))) y3
noncomputable def cS(p1:af):Option (((List ag)×(List aa)) ⊕ (Int×Int)) :=
  (aY ([45]:Ω) p1).bind fun y43=>if y43.1=true then (cm p1 y43.2 (-1)) else (cm p1 y43.2 1)
end Pam
namespace Pam
open Go
noncomputable def fZ(p1:af):Option ((gu×(List aa)) ⊕ (Int×Int)) :=
  (aL (lit ([([105,110,116]:Ω),([98,111,111,108]:Ω)]:List Ω)) p1).bind fun y1=>if y1=true then ((aM p1).bind fun y2=>if (0≤0∧0<(((y2.1).text).length:Int)) then ((aY ([94]:Ω) (af.mk y2.2 p1.end_ p1.open_ p1.terms)).bind fun y3=>if y3.1=true then ((cS (af.mk y3.2 p1.end_ p1.open_ p1.terms)).bind fun y4=>Sum.elim (fun y7=>some (.inl ((gu.mk ((((y2.1).text).getD 0 0).toNat:Int) y7.1),y7.2))) (fun y8=>some (.inr (y8.1,y8.2))) y4) else (some (.inl ((gu.mk ((((y2.1).text).getD 0 0).toNat:Int) []),y3.2)))) else none) else ((aD 4 p1).bind fun y9=>some (.inr (y9.1,y9.2)))
end Pam
namespace Pam
open Go
noncomputable def fD(p1:af):Option ((aw×(List aa)) ⊕ (Int×Int)) :=
  (bg p1).bind fun y1=>Sum.elim (fun y4=>(aA (lit ([([58]:Ω)]:List Ω)) (af.mk y4.2 p1.end_ p1.open_ p1.terms)).bind fun y6=>Sum.elim (fun y9=>(fZ (af.mk y9 p1.end_ p1.open_ p1.terms)).bind fun y11=>Sum.elim (fun y14=>some (.inl ((aw.mk y4.1 (y14.1)),y14.2))) (fun y15=>some (.inr (y15.1,y15.2))) y11) (fun y10=>some (.inr (y10.1,y10.2))) y6) (fun y5=>some (.inr (y5.1,y5.2))) y1
end Pam
namespace Pam
open Go
noncomputable def cG(p1:Int)(p2:af)(l13:List aa)(l14:List aw):Option (((List aa)×(List aw)) ⊕ (((List aw)×(List aa)) ⊕ (Int×Int))) :=
  if (l14.length:Int)=p1 then ((aD 7 (af.mk l13 p2.end_ p2.open_ p2.terms)).bind fun y16=>some (.inr (.inr (y16.1,y16.2)))) else ((fD (af.mk l13 p2.end_ p2.open_ p2.terms)).bind fun y17=>Sum.elim (fun y20=>if lK (l14.length+1) 48 then ((aY ([44]:Ω) (af.mk y20.2 p2.end_ p2.open_ p2.terms)).bind fun y22=>if y22.1=true then (some (.inl (y22.2,(l14++(lit ([(aw.mk ((y20.1).name) ((y20.1).t))]:List aw)))))) else (some (.inr (.inl ((l14++(lit ([(aw.mk ((y20.1).name) ((y20.1).t))]:List aw))),y22.2))))) else none) (fun y21=>some (.inr (.inr (y21.1,y21.2)))) y17)
noncomputable def fb(p1:Int)(p2:af):Option (((List aw)×(List aa)) ⊕ (Int×Int)) :=
  (dh (fun (l13,l14)=>cG p1 p2 l13 l14) (p2.l,[])).bind (fun z23=>some z23)
end Pam
namespace Pam
open Go
noncomputable def b9(p1 p2 p3:Int)(p4:Ω)(p5:af)(p6:List ae):Option (Int×Int×Int×(Ω)×(List (List ag))×Int) :=
  some (p1,p2,p3,p4,[],(IntKind.wrap .i64 (p5.terms+1)))
end Pam
namespace Pam
open Go
noncomputable def dW(p1 p2 p3:Int)(p4:Ω)(p5:af):Option (ae×Int) :=
  some ((ae.mk p1 p2 p3 p4 [] []),(IntKind.wrap .i64 (p5.terms+1)))
end Pam
namespace Pam
open Go
noncomputable def cW(p1:ae)(p2:af):Option (ae×Int) :=
  some (p1,(IntKind.wrap .i64 (p2.terms+1)))
end Pam
namespace Pam
open Go
noncomputable def dr(rc_syntax_parser_rank:Int→af→Option ((ae×(List aa)×Int×Int) ⊕ (Int×Int)))(p1:af):Option ((ae×(List aa)×Int×Int) ⊕ (Int×Int)) :=
  (rc_syntax_parser_rank 0 p1).bind fun y1=>Sum.elim (fun y4=>(aA (lit ([([41]:Ω)]:List Ω)) (af.mk y4.2.1 p1.end_ y4.2.2.1 y4.2.2.2)).bind fun y6=>Sum.elim (fun y9=>some (.inl ((y4.1),y9,y4.2.2.1,y4.2.2.2))) (fun y10=>some (.inr (y10.1,y10.2))) y6) (fun y5=>some (.inr (y5.1,y5.2))) y1
end Pam
namespace Pam
open Go
noncomputable def cr(rc_syntax_parser_rank:Int→af→Option ((ae×(List aa)×Int×Int) ⊕ (Int×Int)))(p1:af):Option ((ae×(List aa)×Int×Int) ⊕ (Int×Int)) :=
  if p1.open_=60 then ((aD 6 p1).bind fun y1=>some (.inr (y1.1,y1.2))) else ((aM (af.mk p1.l p1.end_ (IntKind.wrap .i64 (p1.open_+1)) p1.terms)).bind fun y2=>(dr rc_syntax_parser_rank (af.mk y2.2 p1.end_ (IntKind.wrap .i64 (p1.open_+1)) p1.terms)).bind fun y3=>Sum.elim (fun y6=>some (.inl ((y6.1),y6.2.1,(IntKind.wrap .i64 (y6.2.2.1 - 1)),y6.2.2.2))) (fun y7=>some (.inr (y7.1,y7.2))) y3)
end Pam
namespace Pam
open Go
noncomputable def dt(rc_syntax_parser_rank:Int→af→Option ((ae×(List aa)×Int×Int) ⊕ (Int×Int)))(p1:af):Option ((ae×(List aa)×Int×Int) ⊕ (Int×Int)) :=
  (rc_syntax_parser_rank 0 p1).bind fun y1=>Sum.elim (fun y4=>(aA (lit ([([116,104,101,110]:Ω)]:List Ω)) (af.mk y4.2.1 p1.end_ y4.2.2.1 y4.2.2.2)).bind fun y6=>Sum.elim (fun y9=>(rc_syntax_parser_rank 0 (af.mk y9 p1.end_ y4.2.2.1 y4.2.2.2)).bind fun y11=>Sum.elim (fun y14=>(aA (lit ([([101,108,115,101]:Ω)]:List Ω)) (af.mk y14.2.1 p1.end_ y14.2.2.1 y14.2.2.2)).bind fun y16=>Sum.elim (fun y19=>(rc_syntax_parser_rank 0 (af.mk y19 p1.end_ y14.2.2.1 y14.2.2.2)).bind fun y21=>Sum.elim (fun y22=>(b9 6 0 0 [] (af.mk y22.2.1 p1.end_ y22.2.2.1 y22.2.2.2) (lit ([(y4.1),(y14.1),(y22.1)]:List ae))).bind fun y24=>some (.inl ((ae.mk y24.1 y24.2.1 y24.2.2.1 y24.2.2.2.1 y24.2.2.2.2.1 (lit ([(y4.1),(y14.1),(y22.1)]:List ae))),y22.2.1,y22.2.2.1,y24.2.2.2.2.2))) (fun y23=>some (.inr (y23.1,y23.2))) y21) (fun y20=>some (.inr (y20.1,y20.2))) y16) (fun y15=>some (.inr (y15.1,y15.2))) y11) (fun y10=>some (.inr (y10.1,y10.2))) y6) (fun y5=>some (.inr (y5.1,y5.2))) y1
end Pam
namespace Pam
open Go
noncomputable def cw(rc_syntax_parser_rank:Int→af→Option ((ae×(List aa)×Int×Int) ⊕ (Int×Int)))(p1:af):Option ((ae×(List aa)×Int×Int) ⊕ (Int×Int)) :=
  if p1.open_=60 then ((aD 6 p1).bind fun y1=>some (.inr (y1.1,y1.2))) else ((aM (af.mk p1.l p1.end_ (IntKind.wrap .i64 (p1.open_+1)) p1.terms)).bind fun y2=>(dt rc_syntax_parser_rank (af.mk y2.2 p1.end_ (IntKind.wrap .i64 (p1.open_+1)) p1.terms)).bind fun y3=>Sum.elim (fun y6=>some (.inl ((y6.1),y6.2.1,(IntKind.wrap .i64 (y6.2.2.1 - 1)),y6.2.2.2))) (fun y7=>some (.inr (y7.1,y7.2))) y3)
end Pam
namespace Pam
open Go
noncomputable def cT(p1:af):Option Ω :=
  if (p1.l.length:Int)=0 then (some ([]:Ω)) else (if (0≤0∧0<(p1.l.length:Int)) then (if ¬ ((p1.l.getD 0 default).kind)=1 then (some ([]:Ω)) else (some ((p1.l.getD 0 default).text))) else none)
end Pam
namespace Pam
open Go
noncomputable def eZ:Option Int :=
  some (-1)
noncomputable def io(p1:Ω)(p2:List Ω)(x3:Int):Option (Int ⊕ (Unit ⊕ Int)) :=
  if x3<(p2.length:Int) then (if (0≤x3∧x3<(p2.length:Int)) then (if p1=(p2.getD x3.toNat default) then (some (.inr (.inr x3))) else (some (.inl (IntKind.wrap .i64 (x3+1))))) else none) else (some (.inr (.inl ())))
noncomputable def dX(p1:Ω)(p2:List Ω):Option Int :=
  (dh (fun x3=>io p1 p2 x3) 0).bind (Sum.elim (fun _=>eZ) (fun z4=>some z4))
end Pam
namespace Pam
open Go
noncomputable def cP(p1:af):Option ((Int×(List aa)) ⊕ (Int×Int)) :=
  (cT p1).bind fun y1=>(dX y1 (lit ([([]:Ω),([97,100,100]:Ω),([115,117,98]:Ω),([109,117,108]:Ω),([100,105,118]:Ω),([109,111,100]:Ω),([109,105,110]:Ω),([109,97,120]:Ω),([108,101,115,115]:Ω),([101,113]:Ω),([97,110,100]:Ω),([111,114]:Ω),([120,111,114]:Ω),([110,101,103]:Ω),([110,111,116]:Ω)]:List Ω))).bind fun y2=>if y2<1 then ((aD 4 p1).bind fun y3=>some (.inr (y3.1,y3.2))) else ((aM p1).bind fun y4=>some (.inl (y2,y4.2)))
end Pam
namespace Pam
open Go
noncomputable def dC(l9:List aa)(x10 x11:Int)(l12:List ae):Option (((List ae)×(List aa)×Int×Int) ⊕ (Int×Int)) :=
  some (.inl (l12,l9,x10,x11))
noncomputable def bC(rc_syntax_parser_rank:Int→af→Option ((ae×(List aa)×Int×Int) ⊕ (Int×Int)))(p2:af)(x6:Int)(l30:List aa)(x31 x32:Int)(l33:List ae):Option (((List aa)×Int×Int×(List ae)) ⊕ (((List aa)×Int×Int×(List ae)) ⊕ (((List ae)×(List aa)×Int×Int) ⊕ (Int×Int)))) :=
  if (l33.length:Int)<x6 then ((aA (lit ([([44]:Ω)]:List Ω)) (af.mk l30 p2.end_ x31 x32)).bind fun y35=>Sum.elim (fun y38=>(rc_syntax_parser_rank 0 (af.mk y38 p2.end_ x31 x32)).bind fun y40=>Sum.elim (fun y43=>if lK (l33.length+1) 88 then (some (.inl (y43.2.1,y43.2.2.1,y43.2.2.2,(l33++(lit ([(y43.1)]:List ae)))))) else none) (fun y44=>some (.inr (.inr (.inr (y44.1,y44.2))))) y40) (fun y39=>some (.inr (.inr (.inr (y39.1,y39.2))))) y35) else (some (.inr (.inl (l30,x31,x32,l33))))
noncomputable def bp(rc_syntax_parser_rank:Int→af→Option ((ae×(List aa)×Int×Int) ⊕ (Int×Int)))(p2:af)(y4:(ae×(List aa)×Int×Int))(x6:Int):Option (((List ae)×(List aa)×Int×Int) ⊕ (Int×Int)) :=
  (dh (fun (l30,x31,x32,l33)=>bC rc_syntax_parser_rank p2 x6 l30 x31 x32 l33) (y4.2.1,y4.2.2.1,y4.2.2.2,(lit ([(y4.1)]:List ae)))).bind (Sum.elim (fun (z45,z46,z47,z48)=>dC z45 z46 z47 z48) (fun z49=>some z49))
noncomputable def dy(rc_syntax_parser_rank:Int→af→Option ((ae×(List aa)×Int×Int) ⊕ (Int×Int)))(p1:Int)(p2:af):Option (((List ae)×(List aa)×Int×Int) ⊕ (Int×Int)) :=
  (rc_syntax_parser_rank 0 p2).bind fun y1=>Sum.elim (fun y4=>if (((10,1):Int×Int) :: ([]:List (Int×Int))).length<1000000 then (if (((13,1):Int×Int) :: (((10,1):Int×Int) :: ([]:List (Int×Int)))).length<1000000 then (if (((7,1):Int×Int) :: (((13,1):Int×Int) :: (((10,1):Int×Int) :: ([]:List (Int×Int))))).length<1000000 then (if (-9223372036854775808≤p1∧p1≤9223372036854775807) then (if ((pY (((12,3):Int×Int) :: (((7,1):Int×Int) :: (((13,1):Int×Int) :: (((10,1):Int×Int) :: ([]:List (Int×Int)))))) p1).getD 0)=0 then (bp rc_syntax_parser_rank p2 y4 2) else (if p1=7 then ((aL (lit ([([44]:Ω)]:List Ω)) (af.mk y4.2.1 p2.end_ y4.2.2.1 y4.2.2.2)).bind fun y50=>if y50=true then (bp rc_syntax_parser_rank p2 y4 2) else (bp rc_syntax_parser_rank p2 y4 ((pY (((12,3):Int×Int) :: (((7,1):Int×Int) :: (((13,1):Int×Int) :: (((10,1):Int×Int) :: ([]:List (Int×Int)))))) p1).getD 0))) else (bp rc_syntax_parser_rank p2 y4 ((pY (((12,3):Int×Int) :: (((7,1):Int×Int) :: (((13,1):Int×Int) :: (((10,1):Int×Int) :: ([]:List (Int×Int)))))) p1).getD 0)))) else none) else none) else none) else none) (fun y5=>some (.inr (y5.1,y5.2))) y1
end Pam
namespace Pam
open Go
noncomputable def eT(p1 p2 p3:Int)(p4:Ω)(p5:List ae)(p6:af)(p7:List (List ag)):Option (Int×Int×Int×(Ω)×(List ae)×Int) :=
  some (p1,p2,p3,p4,p5,(IntKind.wrap .i64 (p6.terms+1)))
end Pam
namespace Pam
open Go
noncomputable def cC(p2 p4:Int)(p5:Ω)(p7:af)(x6:Int)(y11:((List ae)×(List aa)×Int×Int))(l15:List aa)(l16:List (List ag)):Option ((Int×Int×Int×(Ω)×(List ae)×Int×(List ae)×(List aa)×Int×Int×(List (List ag))) ⊕ (Int×Int)) :=
  (aA (lit ([([41]:Ω)]:List Ω)) (af.mk l15 p7.end_ y11.2.2.1 y11.2.2.2)).bind fun y18=>Sum.elim (fun y21=>(eT p2 x6 p4 p5 y11.1 (af.mk y21 p7.end_ y11.2.2.1 y11.2.2.2) l16).bind fun y23=>some (.inl (y23.1,y23.2.1,y23.2.2.1,y23.2.2.2.1,y23.2.2.2.2.1,x6,y11.1,y21,y11.2.2.1,y23.2.2.2.2.2,l16))) (fun y22=>some (.inr (y22.1,y22.2))) y18
noncomputable def bq(p1:Int)(p7:af)(y11:((List ae)×(List aa)×Int×Int))(l38:List aa)(l39:List (List ag))(x41:Int):Option (((List aa)×(List (List ag))×Int) ⊕ (((List aa)×(List (List ag))) ⊕ ((Int×Int×Int×(Ω)×(List ae)×Int×(List ae)×(List aa)×Int×Int×(List (List ag))) ⊕ (Int×Int)))) :=
  if x41<((pY (((13,2):Int×Int) :: (((10,1):Int×Int) :: ([]:List (Int×Int)))) p1).getD 0) then ((aA (lit ([([44]:Ω)]:List Ω)) (af.mk l38 p7.end_ y11.2.2.1 y11.2.2.2)).bind fun y42=>Sum.elim (fun y45=>(cS (af.mk y45 p7.end_ y11.2.2.1 y11.2.2.2)).bind fun y47=>Sum.elim (fun y48=>if lK (l39.length+1) 24 then (some (.inl (y48.2,(l39++(lit ([y48.1]:List (List ag)))),(IntKind.wrap .i64 (x41+1))))) else none) (fun y49=>some (.inr (.inr (.inr (y49.1,y49.2))))) y47) (fun y46=>some (.inr (.inr (.inr (y46.1,y46.2))))) y42) else (some (.inr (.inl (l38,l39))))
noncomputable def bD(rc_syntax_parser_rank:Int→af→Option ((ae×(List aa)×Int×Int) ⊕ (Int×Int)))(p1 p2 p4:Int)(p5:Ω)(p7:af)(p8:List (List ag))(x6:Int)(l7:List aa):Option ((Int×Int×Int×(Ω)×(List ae)×Int×(List ae)×(List aa)×Int×Int×(List (List ag))) ⊕ (Int×Int)) :=
  (dy rc_syntax_parser_rank p1 (af.mk l7 p7.end_ p7.open_ p7.terms)).bind fun y8=>Sum.elim (fun y11=>if (((10,1):Int×Int) :: ([]:List (Int×Int))).length<1000000 then (if (-9223372036854775808≤p1∧p1≤9223372036854775807) then ((dh (fun (l38,l39,x41)=>bq p1 p7 y11 l38 l39 x41) (y11.2.1,p8,0)).bind (Sum.elim (fun (z50,z51)=>cC p2 p4 p5 p7 x6 y11 z50 z51) (fun z52=>some z52))) else none) else none) (fun y12=>some (.inr (y12.1,y12.2))) y8
noncomputable def du(rc_syntax_parser_rank:Int→af→Option ((ae×(List aa)×Int×Int) ⊕ (Int×Int)))(p1 p2 p3 p4:Int)(p5:Ω)(p6:List ae)(p7:af)(p8:List (List ag)):Option ((Int×Int×Int×(Ω)×(List ae)×Int×(List ae)×(List aa)×Int×Int×(List (List ag))) ⊕ (Int×Int)) :=
  (aA (lit ([([40]:Ω)]:List Ω)) p7).bind fun y1=>Sum.elim (fun y4=>if p1≤9 then (if p1≥7 then ((cP (af.mk y4 p7.end_ p7.open_ p7.terms)).bind fun y53=>Sum.elim (fun y56=>(aA (lit ([([44]:Ω)]:List Ω)) (af.mk y56.2 p7.end_ p7.open_ p7.terms)).bind fun y58=>Sum.elim (fun y61=>bD rc_syntax_parser_rank p1 p2 p4 p5 p7 p8 y56.1 y61) (fun y62=>some (.inr (y62.1,y62.2))) y58) (fun y57=>some (.inr (y57.1,y57.2))) y53) else (bD rc_syntax_parser_rank p1 p2 p4 p5 p7 p8 p3 y4)) else (bD rc_syntax_parser_rank p1 p2 p4 p5 p7 p8 p3 y4)) (fun y5=>some (.inr (y5.1,y5.2))) y1
end Pam
namespace Pam
open Go
noncomputable def cX(rc_syntax_parser_rank:Int→af→Option ((ae×(List aa)×Int×Int) ⊕ (Int×Int)))(p1:af)(p2 p3 p4 p5:Int)(p6:Ω)(p7:List ae)(p8:List (List ag)):Option ((Int×Int×Int×(Ω)×(List ae)×(List aa)×Int×Int×Int×(List ae)×(List (List ag))) ⊕ (Int×Int)) :=
  if p1.open_=60 then ((aD 6 p1).bind fun y1=>some (.inr (y1.1,y1.2))) else ((aM (af.mk p1.l p1.end_ (IntKind.wrap .i64 (p1.open_+1)) p1.terms)).bind fun y2=>(du rc_syntax_parser_rank p2 p3 p4 p5 p6 p7 (af.mk y2.2 p1.end_ (IntKind.wrap .i64 (p1.open_+1)) p1.terms) p8).bind fun y3=>Sum.elim (fun y6=>some (.inl (y6.1,y6.2.1,y6.2.2.1,y6.2.2.2.1,y6.2.2.2.2.1,y6.2.2.2.2.2.2.2.1,(IntKind.wrap .i64 (y6.2.2.2.2.2.2.2.2.1 - 1)),y6.2.2.2.2.2.2.2.2.2.1,y6.2.2.2.2.2.1,y6.2.2.2.2.2.2.1,y6.2.2.2.2.2.2.2.2.2.2))) (fun y7=>some (.inr (y7.1,y7.2))) y3)
end Pam
namespace Pam
open Go
noncomputable def bo(rc_syntax_parser_rank:Int→af→Option ((ae×(List aa)×Int×Int) ⊕ (Int×Int)))(p1:af)(y2 x4:Int):Option ((ae×(List aa)×Int×Int) ⊕ (Int×Int)) :=
  (cX rc_syntax_parser_rank p1 ((lit ([7,8,9,10,12,13,14,15,5,5]:List Int)).getD y2.toNat default) ((lit ([7,8,9,10,12,13,14,15,5,5]:List Int)).getD y2.toNat default) x4 0 [] [] []).bind fun y5=>Sum.elim (fun y8=>some (.inl ((ae.mk y8.1 y8.2.1 y8.2.2.1 y8.2.2.2.1 y8.2.2.2.2.2.2.2.2.2.2 y8.2.2.2.2.1),y8.2.2.2.2.2.1,y8.2.2.2.2.2.2.1,y8.2.2.2.2.2.2.2.1))) (fun y9=>some (.inr (y9.1,y9.2))) y5
noncomputable def dY(rc_syntax_parser_rank:Int→af→Option ((ae×(List aa)×Int×Int) ⊕ (Int×Int)))(p1:af):Option ((ae×(List aa)×Int×Int) ⊕ (Int×Int)) :=
  (cT p1).bind fun y1=>(dX y1 (lit ([([109,97,112]:Ω),([102,111,108,100]:Ω),([115,99,97,110]:Ω),([102,105,108,108]:Ω),([119,105,116,104]:Ω),([115,108,105,99,101]:Ω),([99,97,116]:Ω),([112,114,101]:Ω),([109,105,110]:Ω),([109,97,120]:Ω)]:List Ω))).bind fun y2=>if y2<0 then ((aD 4 p1).bind fun y3=>some (.inr (y3.1,y3.2))) else (if (0≤y2∧y2<(10:Int)) then (if y2=8 then (bo rc_syntax_parser_rank p1 y2 6) else (if y2=9 then (bo rc_syntax_parser_rank p1 y2 7) else (bo rc_syntax_parser_rank p1 y2 0))) else none)
end Pam
namespace Pam
open Go
noncomputable def bI(rc_syntax_parser_rank:Int→af→Option ((ae×(List aa)×Int×Int) ⊕ (Int×Int)))(p1:af):Option ((ae×(List aa)×Int×Int) ⊕ (Int×Int)) :=
  (dY rc_syntax_parser_rank p1).bind fun y1=>Sum.elim (fun y4=>some (.inl ((y4.1),y4.2.1,y4.2.2.1,y4.2.2.2))) (fun y5=>some (.inr (y5.1,y5.2))) y1
noncomputable def cE(p1:af)(l13:List aa)(x14:Int):Option ((ae×(List aa)×Int×Int) ⊕ (Int×Int)) :=
  (cW (ae.mk 2 0 x14 [] [] []) (af.mk l13 p1.end_ p1.open_ p1.terms)).bind fun y15=>some (.inl ((y15.1),l13,p1.open_,y15.2))
noncomputable def dK(p1:af)(l30:List aa)(x31:Int):Option ((ae×(List aa)×Int×Int) ⊕ (Int×Int)) :=
  (cW (ae.mk 2 0 x31 [] [] []) (af.mk l30 p1.end_ p1.open_ p1.terms)).bind fun y32=>some (.inl ((y32.1),l30,p1.open_,y32.2))
noncomputable def dL(p1:af)(l51:List aa)(x52:Int):Option ((ae×(List aa)×Int×Int) ⊕ (Int×Int)) :=
  (cW (ae.mk 2 0 x52 [] [] []) (af.mk l51 p1.end_ p1.open_ p1.terms)).bind fun y53=>some (.inl ((y53.1),l51,p1.open_,y53.2))
noncomputable def dN(p1:af)(l68:List aa)(x69:Int):Option ((ae×(List aa)×Int×Int) ⊕ (Int×Int)) :=
  (cW (ae.mk 2 0 x69 [] [] []) (af.mk l68 p1.end_ p1.open_ p1.terms)).bind fun y70=>some (.inl ((y70.1),l68,p1.open_,y70.2))
noncomputable def aV(rc_syntax_parser_rank:Int→af→Option ((ae×(List aa)×Int×Int) ⊕ (Int×Int)))(p1:af):Option ((ae×(List aa)×Int×Int) ⊕ (Int×Int)) :=
  if (p1.l.length:Int)>0 then (if (0≤0∧0<(p1.l.length:Int)) then (if ((p1.l.getD 0 default).kind)=3 then ((aM p1).bind fun y6=>(dW 1 0 ((y6.1).n) [] (af.mk y6.2 p1.end_ p1.open_ p1.terms)).bind fun y7=>some (.inl ((y7.1),y6.2,p1.open_,y7.2))) else (if (p1.l.length:Int)>0 then (if ((p1.l.getD 0 default).kind)=2 then ((bg p1).bind fun y8=>Sum.elim (fun y9=>(dW 3 0 0 y9.1 (af.mk y9.2 p1.end_ p1.open_ p1.terms)).bind fun y11=>some (.inl ((y11.1),y9.2,p1.open_,y11.2))) (fun y10=>some (.inr (y10.1,y10.2))) y8) else ((aL (lit ([([116,114,117,101]:Ω),([102,97,108,115,101]:Ω)]:List Ω)) p1).bind fun y12=>if y12=true then ((aM p1).bind fun y16=>if ((y16.1).text)=([116,114,117,101]:Ω) then (cE p1 y16.2 1) else (cE p1 y16.2 0)) else ((aL (lit ([([40]:Ω)]:List Ω)) p1).bind fun y17=>if y17=true then ((cr rc_syntax_parser_rank p1).bind fun y18=>Sum.elim (fun y21=>some (.inl ((y21.1),y21.2.1,y21.2.2.1,y21.2.2.2))) (fun y22=>some (.inr (y22.1,y22.2))) y18) else ((aL (lit ([([105,102]:Ω)]:List Ω)) p1).bind fun y23=>if y23=true then ((cw rc_syntax_parser_rank p1).bind fun y24=>Sum.elim (fun y27=>some (.inl ((y27.1),y27.2.1,y27.2.2.1,y27.2.2.2))) (fun y28=>some (.inr (y28.1,y28.2))) y24) else (bI rc_syntax_parser_rank p1))))) else ((aL (lit ([([116,114,117,101]:Ω),([102,97,108,115,101]:Ω)]:List Ω)) p1).bind fun y29=>if y29=true then ((aM p1).bind fun y33=>if ((y33.1).text)=([116,114,117,101]:Ω) then (dK p1 y33.2 1) else (dK p1 y33.2 0)) else ((aL (lit ([([40]:Ω)]:List Ω)) p1).bind fun y34=>if y34=true then ((cr rc_syntax_parser_rank p1).bind fun y35=>Sum.elim (fun y38=>some (.inl ((y38.1),y38.2.1,y38.2.2.1,y38.2.2.2))) (fun y39=>some (.inr (y39.1,y39.2))) y35) else ((aL (lit ([([105,102]:Ω)]:List Ω)) p1).bind fun y40=>if y40=true then ((cw rc_syntax_parser_rank p1).bind fun y41=>Sum.elim (fun y44=>some (.inl ((y44.1),y44.2.1,y44.2.2.1,y44.2.2.2))) (fun y45=>some (.inr (y45.1,y45.2))) y41) else (bI rc_syntax_parser_rank p1)))))) else none) else (if (p1.l.length:Int)>0 then (if (0≤0∧0<(p1.l.length:Int)) then (if ((p1.l.getD 0 default).kind)=2 then ((bg p1).bind fun y46=>Sum.elim (fun y47=>(dW 3 0 0 y47.1 (af.mk y47.2 p1.end_ p1.open_ p1.terms)).bind fun y49=>some (.inl ((y49.1),y47.2,p1.open_,y49.2))) (fun y48=>some (.inr (y48.1,y48.2))) y46) else ((aL (lit ([([116,114,117,101]:Ω),([102,97,108,115,101]:Ω)]:List Ω)) p1).bind fun y50=>if y50=true then ((aM p1).bind fun y54=>if ((y54.1).text)=([116,114,117,101]:Ω) then (dL p1 y54.2 1) else (dL p1 y54.2 0)) else ((aL (lit ([([40]:Ω)]:List Ω)) p1).bind fun y55=>if y55=true then ((cr rc_syntax_parser_rank p1).bind fun y56=>Sum.elim (fun y59=>some (.inl ((y59.1),y59.2.1,y59.2.2.1,y59.2.2.2))) (fun y60=>some (.inr (y60.1,y60.2))) y56) else ((aL (lit ([([105,102]:Ω)]:List Ω)) p1).bind fun y61=>if y61=true then ((cw rc_syntax_parser_rank p1).bind fun y62=>Sum.elim (fun y65=>some (.inl ((y65.1),y65.2.1,y65.2.2.1,y65.2.2.2))) (fun y66=>some (.inr (y66.1,y66.2))) y62) else (bI rc_syntax_parser_rank p1))))) else none) else ((aL (lit ([([116,114,117,101]:Ω),([102,97,108,115,101]:Ω)]:List Ω)) p1).bind fun y67=>if y67=true then ((aM p1).bind fun y71=>if ((y71.1).text)=([116,114,117,101]:Ω) then (dN p1 y71.2 1) else (dN p1 y71.2 0)) else ((aL (lit ([([40]:Ω)]:List Ω)) p1).bind fun y72=>if y72=true then ((cr rc_syntax_parser_rank p1).bind fun y73=>Sum.elim (fun y76=>some (.inl ((y76.1),y76.2.1,y76.2.2.1,y76.2.2.2))) (fun y77=>some (.inr (y77.1,y77.2))) y73) else ((aL (lit ([([105,102]:Ω)]:List Ω)) p1).bind fun y78=>if y78=true then ((cw rc_syntax_parser_rank p1).bind fun y79=>Sum.elim (fun y82=>some (.inl ((y82.1),y82.2.1,y82.2.2.1,y82.2.2.2))) (fun y83=>some (.inr (y83.1,y83.2))) y79) else (bI rc_syntax_parser_rank p1)))))
end Pam
namespace Pam
open Go
noncomputable def db(rc_syntax_parser_rank:Int→af→Option ((ae×(List aa)×Int×Int) ⊕ (Int×Int)))(p1:ae)(p2:af):Option ((ae×(List aa)×Int×Int) ⊕ (Int×Int)) :=
  (rc_syntax_parser_rank 0 p2).bind fun y1=>Sum.elim (fun y4=>(aA (lit ([([58]:Ω)]:List Ω)) (af.mk y4.2.1 p2.end_ y4.2.2.1 y4.2.2.2)).bind fun y6=>Sum.elim (fun y9=>(rc_syntax_parser_rank 0 (af.mk y9 p2.end_ y4.2.2.1 y4.2.2.2)).bind fun y11=>Sum.elim (fun y12=>(b9 11 0 0 [] (af.mk y12.2.1 p2.end_ y12.2.2.1 y12.2.2.2) (lit ([p1,(y4.1),(y12.1)]:List ae))).bind fun y14=>(aA (lit ([([93]:Ω)]:List Ω)) (af.mk y12.2.1 p2.end_ y12.2.2.1 y14.2.2.2.2.2)).bind fun y15=>Sum.elim (fun y18=>some (.inl ((ae.mk y14.1 y14.2.1 y14.2.2.1 y14.2.2.2.1 y14.2.2.2.2.1 (lit ([p1,(y4.1),(y12.1)]:List ae))),y18,y12.2.2.1,y14.2.2.2.2.2))) (fun y19=>some (.inr (y19.1,y19.2))) y15) (fun y13=>some (.inr (y13.1,y13.2))) y11) (fun y10=>some (.inr (y10.1,y10.2))) y6) (fun y5=>some (.inr (y5.1,y5.2))) y1
end Pam
namespace Pam
open Go
noncomputable def cY(rc_syntax_parser_rank:Int→af→Option ((ae×(List aa)×Int×Int) ⊕ (Int×Int)))(p1:af)(p2:ae):Option ((ae×(List aa)×Int×Int) ⊕ (Int×Int)) :=
  if p1.open_=60 then ((aD 6 p1).bind fun y1=>some (.inr (y1.1,y1.2))) else ((aM (af.mk p1.l p1.end_ (IntKind.wrap .i64 (p1.open_+1)) p1.terms)).bind fun y2=>(db rc_syntax_parser_rank p2 (af.mk y2.2 p1.end_ (IntKind.wrap .i64 (p1.open_+1)) p1.terms)).bind fun y3=>Sum.elim (fun y6=>some (.inl ((y6.1),y6.2.1,(IntKind.wrap .i64 (y6.2.2.1 - 1)),y6.2.2.2))) (fun y7=>some (.inr (y7.1,y7.2))) y3)
end Pam
namespace Pam
open Go
noncomputable def cJ(rc_syntax_parser_ahead:af→Option ((ae×(List aa)×Int×Int) ⊕ (Int×Int)))(p1:Int)(p2:af):Option ((ae×(List aa)×Int×Int) ⊕ (Int×Int)) :=
  (rc_syntax_parser_ahead p2).bind fun y1=>Sum.elim (fun y2=>(b9 4 p1 0 [] (af.mk y2.2.1 p2.end_ y2.2.2.1 y2.2.2.2) (lit ([(y2.1)]:List ae))).bind fun y4=>some (.inl ((ae.mk y4.1 y4.2.1 y4.2.2.1 y4.2.2.2.1 y4.2.2.2.2.1 (lit ([(y2.1)]:List ae))),y2.2.1,y2.2.2.1,y4.2.2.2.2.2))) (fun y3=>some (.inr (y3.1,y3.2))) y1
end Pam
namespace Pam
open Go
noncomputable def dD(rc_syntax_parser_ahead:af→Option ((ae×(List aa)×Int×Int) ⊕ (Int×Int)))(p1:af)(p2:Int):Option ((ae×(List aa)×Int×Int) ⊕ (Int×Int)) :=
  if p1.open_=60 then ((aD 6 p1).bind fun y1=>some (.inr (y1.1,y1.2))) else ((aM (af.mk p1.l p1.end_ (IntKind.wrap .i64 (p1.open_+1)) p1.terms)).bind fun y2=>(cJ rc_syntax_parser_ahead p2 (af.mk y2.2 p1.end_ (IntKind.wrap .i64 (p1.open_+1)) p1.terms)).bind fun y3=>Sum.elim (fun y6=>some (.inl ((y6.1),y6.2.1,(IntKind.wrap .i64 (y6.2.2.1 - 1)),y6.2.2.2))) (fun y7=>some (.inr (y7.1,y7.2))) y3)
end Pam
namespace Pam
open Go
noncomputable def cz(rcf:af→Option ((ae×(List aa)×Int×Int) ⊕ (Int×Int)))(p1:af)(x2:Int):Option ((ae×(List aa)×Int×Int) ⊕ (Int×Int)) :=
  (dD rcf p1 x2).bind fun y3=>Sum.elim (fun y6=>some (.inl ((y6.1),y6.2.1,y6.2.2.1,y6.2.2.2))) (fun y7=>some (.inr (y7.1,y7.2))) y3
noncomputable def dm(l14:List aa)(x15 x16 x17 x18 x19:Int)(s20:Ω)(l21:List (List ag))(l22:List ae):Option ((ae×(List aa)×Int×Int) ⊕ (Int×Int)) :=
  some (.inl ((ae.mk x17 x18 x19 s20 l21 l22),l14,x15,x16))
noncomputable def bJ(rc_syntax_parser_rank:Int→af→Option ((ae×(List aa)×Int×Int) ⊕ (Int×Int)))(p1:af)(l41:List aa)(x42 x43 x44 x45 x46:Int)(s47:Ω)(l48:List (List ag))(l49:List ae):Option (((List aa)×Int×Int×Int×Int×Int×(Ω)×(List (List ag))×(List ae)) ⊕ (((List aa)×Int×Int×Int×Int×Int×(Ω)×(List (List ag))×(List ae)) ⊕ ((ae×(List aa)×Int×Int) ⊕ (Int×Int)))) :=
  (aL (lit ([([91]:Ω)]:List Ω)) (af.mk l41 p1.end_ x42 x43)).bind fun y50=>if y50=true then ((cY rc_syntax_parser_rank (af.mk l41 p1.end_ x42 x43) (ae.mk x44 x45 x46 s47 l48 l49)).bind fun y51=>Sum.elim (fun y54=>some (.inl (y54.2.1,y54.2.2.1,y54.2.2.2,(y54.1).op,(y54.1).k,(y54.1).n,(y54.1).name,(y54.1).s,(y54.1).l))) (fun y55=>some (.inr (.inr (.inr (y55.1,y55.2))))) y51) else (some (.inr (.inl (l41,x42,x43,x44,x45,x46,s47,l48,l49))))
noncomputable def bB(rc_syntax_parser_rank:Int→af→Option ((ae×(List aa)×Int×Int) ⊕ (Int×Int)))(rcf:af→Option ((ae×(List aa)×Int×Int) ⊕ (Int×Int)))(p1:af):Option ((ae×(List aa)×Int×Int) ⊕ (Int×Int)) :=
  (aL (lit ([([45]:Ω),([110,111,116]:Ω)]:List Ω)) p1).bind fun y1=>if y1=true then ((aL (lit ([([110,111,116]:Ω)]:List Ω)) p1).bind fun y8=>if y8=true then (cz rcf p1 14) else (cz rcf p1 13)) else ((aV rc_syntax_parser_rank p1).bind fun y9=>Sum.elim (fun y12=>(dh (fun (l41,x42,x43,x44,x45,x46,s47,l48,l49)=>bJ rc_syntax_parser_rank p1 l41 x42 x43 x44 x45 x46 s47 l48 l49) (y12.2.1,y12.2.2.1,y12.2.2.2,(y12.1).op,(y12.1).k,(y12.1).n,(y12.1).name,(y12.1).s,(y12.1).l)).bind (Sum.elim (fun (z56,z57,z58,z59,z60,z61,z62,z63,z64)=>dm z56 z57 z58 z59 z60 z61 z62 z63 z64) (fun z65=>some z65))) (fun y13=>some (.inr (y13.1,y13.2))) y9)
noncomputable def dd(rc_syntax_parser_rank:Int→af→Option ((ae×(List aa)×Int×Int) ⊕ (Int×Int))):Nat→af→Option ((ae×(List aa)×Int×Int) ⊕ (Int×Int))
  |0=>fun _=>none
  |n+1=>bB rc_syntax_parser_rank (dd rc_syntax_parser_rank n)
noncomputable def dz(fuel:Nat)(rc_syntax_parser_rank:Int→af→Option ((ae×(List aa)×Int×Int) ⊕ (Int×Int)))(p1:af):Option ((ae×(List aa)×Int×Int) ⊕ (Int×Int)):=dd rc_syntax_parser_rank fuel p1
end Pam
namespace Pam
open Go
noncomputable def bw(p1:Int)(p2:af):Option Int :=
  if (0≤p1∧p1<(5:Int)) then ((aL ((lit ([(lit ([([111,114]:Ω),([120,111,114]:Ω)]:List Ω)),(lit ([([97,110,100]:Ω)]:List Ω)),(lit ([([60]:Ω),([61,61]:Ω)]:List Ω)),(lit ([([43]:Ω),([45]:Ω)]:List Ω)),(lit ([([42]:Ω),([47]:Ω),([37]:Ω)]:List Ω))]:List (List Ω))).getD p1.toNat default) p2).bind fun y1=>if y1=true then (if (0≤0∧0<(p2.l.length:Int)) then ((dk ((lit ([(lit ([([111,114]:Ω),([120,111,114]:Ω)]:List Ω)),(lit ([([97,110,100]:Ω)]:List Ω)),(lit ([([60]:Ω),([61,61]:Ω)]:List Ω)),(lit ([([43]:Ω),([45]:Ω)]:List Ω)),(lit ([([42]:Ω),([47]:Ω),([37]:Ω)]:List Ω))]:List (List Ω))).getD p1.toNat default) ((p2.l.getD 0 default).text)).bind fun y2=>if (0≤y2∧y2<(((lit ([(lit ([11,12]:List Int)),(lit ([10]:List Int)),(lit ([8,9]:List Int)),(lit ([1,2]:List Int)),(lit ([3,4,5]:List Int))]:List (List Int))).getD p1.toNat default).length:Int)) then (some (((lit ([(lit ([11,12]:List Int)),(lit ([10]:List Int)),(lit ([8,9]:List Int)),(lit ([1,2]:List Int)),(lit ([3,4,5]:List Int))]:List (List Int))).getD p1.toNat default).getD y2.toNat default)) else none) else none) else (some 0)) else none
end Pam
namespace Pam
open Go
noncomputable def eu(l11:List aa)(x12 x13 x14 x15 x16:Int)(s17:Ω)(l18:List (List ag))(l19:List ae):Option ((ae×(List aa)×Int×Int) ⊕ (Int×Int)) :=
  some (.inl ((ae.mk x14 x15 x16 s17 l18 l19),l11,x12,x13))
noncomputable def de(rcf:Int→af→Option ((ae×(List aa)×Int×Int) ⊕ (Int×Int)))(p1:Int)(p2:af)(l41:List aa)(x42 x43 x44 x45 x46:Int)(s47:Ω)(l48:List (List ag))(l49:List ae)(x50:Int):Option (((List aa)×Int×Int×Int×Int×Int×(Ω)×(List (List ag))×(List ae)×Int) ⊕ (((List aa)×Int×Int×Int×Int×Int×(Ω)×(List (List ag))×(List ae)) ⊕ ((ae×(List aa)×Int×Int) ⊕ (Int×Int)))) :=
  if ¬ x50=0 then ((aM (af.mk l41 p2.end_ x42 x43)).bind fun y51=>(rcf (IntKind.wrap .i64 (p1+1)) (af.mk y51.2 p2.end_ x42 x43)).bind fun y52=>Sum.elim (fun y53=>(b9 5 x50 0 [] (af.mk y53.2.1 p2.end_ y53.2.2.1 y53.2.2.2) (lit ([(ae.mk x44 x45 x46 s47 l48 l49),(y53.1)]:List ae))).bind fun y55=>if p1=2 then (some (.inr (.inl (y53.2.1,y53.2.2.1,y55.2.2.2.2.2,y55.1,y55.2.1,y55.2.2.1,y55.2.2.2.1,y55.2.2.2.2.1,(lit ([(ae.mk x44 x45 x46 s47 l48 l49),(y53.1)]:List ae)))))) else ((bw p1 (af.mk y53.2.1 p2.end_ y53.2.2.1 y55.2.2.2.2.2)).bind fun y56=>some (.inl (y53.2.1,y53.2.2.1,y55.2.2.2.2.2,y55.1,y55.2.1,y55.2.2.1,y55.2.2.2.1,y55.2.2.2.2.1,(lit ([(ae.mk x44 x45 x46 s47 l48 l49),(y53.1)]:List ae)),y56)))) (fun y54=>some (.inr (.inr (.inr (y54.1,y54.2))))) y52) else (some (.inr (.inl (l41,x42,x43,x44,x45,x46,s47,l48,l49))))
noncomputable def ca(fuel:Nat)(rcf:Int→af→Option ((ae×(List aa)×Int×Int) ⊕ (Int×Int)))(p1:Int)(p2:af):Option ((ae×(List aa)×Int×Int) ⊕ (Int×Int)) :=
  if p1=5 then ((dz fuel rcf p2).bind fun y1=>Sum.elim (fun y4=>some (.inl ((y4.1),y4.2.1,y4.2.2.1,y4.2.2.2))) (fun y5=>some (.inr (y5.1,y5.2))) y1) else ((rcf (IntKind.wrap .i64 (p1+1)) p2).bind fun y6=>Sum.elim (fun y9=>(bw p1 (af.mk y9.2.1 p2.end_ y9.2.2.1 y9.2.2.2)).bind fun y20=>(dh (fun (l41,x42,x43,x44,x45,x46,s47,l48,l49,x50)=>de rcf p1 p2 l41 x42 x43 x44 x45 x46 s47 l48 l49 x50) (y9.2.1,y9.2.2.1,y9.2.2.2,(y9.1).op,(y9.1).k,(y9.1).n,(y9.1).name,(y9.1).s,(y9.1).l,y20)).bind (Sum.elim (fun (z57,z58,z59,z60,z61,z62,z63,z64,z65)=>eu z57 z58 z59 z60 z61 z62 z63 z64 z65) (fun z66=>some z66))) (fun y10=>some (.inr (y10.1,y10.2))) y6)
noncomputable def av(fuel:Nat):Nat→Int→af→Option ((ae×(List aa)×Int×Int) ⊕ (Int×Int))
  |0=>fun _ _=>none
  |n+1=>ca fuel (av fuel n)
noncomputable def kK(fuel:Nat)(p1:Int)(p2:af):Option ((ae×(List aa)×Int×Int) ⊕ (Int×Int)):=av fuel fuel p1 p2
end Pam
namespace Pam
open Go
noncomputable def dO(fuel:Nat)(p1:af)(x1:Int):Option ((ae×(List aa)×Int×Int) ⊕ (Int×Int)) :=
  (kK fuel 0 (af.mk p1.l p1.end_ p1.open_ 0)).bind fun y2=>Sum.elim (fun y5=>if y5.2.2.2>30 then (some (.inr (7,x1))) else (some (.inl ((y5.1),y5.2.1,y5.2.2.1,y5.2.2.2)))) (fun y6=>some (.inr (y6.1,y6.2))) y2
noncomputable def eV(fuel:Nat)(p1:af):Option ((ae×(List aa)×Int×Int) ⊕ (Int×Int)) :=
  if (p1.l.length:Int)>0 then (if (0≤0∧0<(p1.l.length:Int)) then (dO fuel p1 ((p1.l.getD 0 default).at_)) else none) else (dO fuel p1 p1.end_)
end Pam
namespace Pam
open Go
noncomputable def cH(p1:Int)(p2:af)(l13:List aa)(l14:List (List ag)):Option (((List aa)×(List (List ag))) ⊕ (((List (List ag))×(List aa)) ⊕ (Int×Int))) :=
  if (l14.length:Int)=p1 then ((aD 7 (af.mk l13 p2.end_ p2.open_ p2.terms)).bind fun y16=>some (.inr (.inr (y16.1,y16.2)))) else ((cS (af.mk l13 p2.end_ p2.open_ p2.terms)).bind fun y17=>Sum.elim (fun y20=>if lK (l14.length+1) 24 then ((aY ([44]:Ω) (af.mk y20.2 p2.end_ p2.open_ p2.terms)).bind fun y22=>if y22.1=true then (some (.inl (y22.2,(l14++(lit ([y20.1]:List (List ag))))))) else (some (.inr (.inl ((l14++(lit ([y20.1]:List (List ag)))),y22.2))))) else none) (fun y21=>some (.inr (.inr (y21.1,y21.2)))) y17)
noncomputable def fO(p1:Int)(p2:af):Option (((List (List ag))×(List aa)) ⊕ (Int×Int)) :=
  (dh (fun (l13,l14)=>cH p1 p2 l13 l14) (p2.l,[])).bind (fun z23=>some z23)
end Pam
namespace Pam
open Go
noncomputable def dp(fuel:Nat)(p1:Int)(p2:af)(l17:List aa)(x18 x19:Int)(l20:List ae):Option (((List aa)×Int×Int×(List ae)) ⊕ (((List ae)×(List aa)×Int×Int) ⊕ (Int×Int))) :=
  if (l20.length:Int)=p1 then ((aD 7 (af.mk l17 p2.end_ x18 x19)).bind fun y22=>some (.inr (.inr (y22.1,y22.2)))) else ((eV fuel (af.mk l17 p2.end_ x18 x19)).bind fun y23=>Sum.elim (fun y26=>if lK (l20.length+1) 88 then ((aY ([44]:Ω) (af.mk y26.2.1 p2.end_ y26.2.2.1 y26.2.2.2)).bind fun y28=>if y28.1=true then (some (.inl (y28.2,y26.2.2.1,y26.2.2.2,(l20++(lit ([(y26.1)]:List ae)))))) else (some (.inr (.inl ((l20++(lit ([(y26.1)]:List ae))),y28.2,y26.2.2.1,y26.2.2.2))))) else none) (fun y27=>some (.inr (.inr (y27.1,y27.2)))) y23)
noncomputable def fP(fuel:Nat)(p1:Int)(p2:af):Option (((List ae)×(List aa)×Int×Int) ⊕ (Int×Int)) :=
  (dh (fun (l17,x18,x19,l20)=>dp fuel p1 p2 l17 x18 x19 l20) (p2.l,p2.open_,p2.terms,[])).bind (fun z29=>some z29)
end Pam
namespace Pam
open Go
noncomputable def eC(p1:af)(y4:((List Ω)×(List aa)))(y19:((Ω)×(List aa)))(l22:List (List ag))(l28:List aa)(x29 x30:Int)(l31:List ae):Option ((TEq×(List aa)×Int×Int) ⊕ (Int×Int)) :=
  (aA (lit ([([41]:Ω)]:List Ω)) (af.mk l28 p1.end_ x29 x30)).bind fun y32=>Sum.elim (fun y35=>some (.inl ((TEq.mk ((p1.l.getD 0 default).at_) y4.1 y19.1 l22 l31),y35,x29,x30))) (fun y36=>some (.inr (y36.1,y36.2))) y32
noncomputable def eD(fuel:Nat)(p1:af)(y4:((List Ω)×(List aa)))(y19:((Ω)×(List aa)))(l21:List aa)(l22:List (List ag)):Option ((TEq×(List aa)×Int×Int) ⊕ (Int×Int)) :=
  (aA (lit ([([40]:Ω)]:List Ω)) (af.mk l21 p1.end_ p1.open_ p1.terms)).bind fun y23=>Sum.elim (fun y26=>(aL (lit ([([41]:Ω)]:List Ω)) (af.mk y26 p1.end_ p1.open_ p1.terms)).bind fun y37=>if y37=true then (eC p1 y4 y19 l22 y26 p1.open_ p1.terms []) else ((fP fuel 30 (af.mk y26 p1.end_ p1.open_ p1.terms)).bind fun y38=>Sum.elim (fun y41=>eC p1 y4 y19 l22 y41.2.1 y41.2.2.1 y41.2.2.2 y41.1) (fun y42=>some (.inr (y42.1,y42.2))) y38)) (fun y27=>some (.inr (y27.1,y27.2))) y23
noncomputable def eE(fuel:Nat)(p1:af)(y4:((List Ω)×(List aa)))(y9:(List aa)):Option ((TEq×(List aa)×Int×Int) ⊕ (Int×Int)) :=
  (aA (lit ([([99,97,108,108]:Ω)]:List Ω)) (af.mk y9 p1.end_ p1.open_ p1.terms)).bind fun y11=>Sum.elim (fun y14=>(bg (af.mk y14 p1.end_ p1.open_ p1.terms)).bind fun y16=>Sum.elim (fun y19=>(aY ([60]:Ω) (af.mk y19.2 p1.end_ p1.open_ p1.terms)).bind fun y43=>if y43.1=true then ((fO 3 (af.mk y43.2 p1.end_ p1.open_ p1.terms)).bind fun y44=>Sum.elim (fun y47=>(aA (lit ([([62]:Ω)]:List Ω)) (af.mk y47.2 p1.end_ p1.open_ p1.terms)).bind fun y49=>Sum.elim (fun y52=>eD fuel p1 y4 y19 y52 y47.1) (fun y53=>some (.inr (y53.1,y53.2))) y49) (fun y48=>some (.inr (y48.1,y48.2))) y44) else (eD fuel p1 y4 y19 y43.2 [])) (fun y20=>some (.inr (y20.1,y20.2))) y16) (fun y15=>some (.inr (y15.1,y15.2))) y11
noncomputable def fM(fuel:Nat)(p1:af):Option ((TEq×(List aa)×Int×Int) ⊕ (Int×Int)) :=
  if (0≤0∧0<(p1.l.length:Int)) then ((fm 30 p1).bind fun y1=>Sum.elim (fun y4=>(aA (lit ([([61]:Ω)]:List Ω)) (af.mk y4.2 p1.end_ p1.open_ p1.terms)).bind fun y6=>Sum.elim (fun y9=>if (y4.1.length:Int)=1 then ((aL (lit ([([99,97,108,108]:Ω)]:List Ω)) (af.mk y9 p1.end_ p1.open_ p1.terms)).bind fun y54=>if y54=true then (eE fuel p1 y4 y9) else ((eV fuel (af.mk y9 p1.end_ p1.open_ p1.terms)).bind fun y55=>Sum.elim (fun y58=>some (.inl ((TEq.mk ((p1.l.getD 0 default).at_) y4.1 [] [] (lit ([(y58.1)]:List ae))),y58.2.1,y58.2.2.1,y58.2.2.2))) (fun y59=>some (.inr (y59.1,y59.2))) y55)) else (eE fuel p1 y4 y9)) (fun y10=>some (.inr (y10.1,y10.2))) y6) (fun y5=>some (.inr (y5.1,y5.2))) y1) else none
end Pam
namespace Pam
open Go
noncomputable def ew(p1:af)(y5:((Ω)×(List aa)))(l8:List Ω)(l15:List aw)(y24:((List aw)×(List aa)))(l35:List aa)(x36 x37:Int)(l38:List aw)(l40:List TEq):Option ((aE×(List aa)×Int×Int) ⊕ (Int×Int)) :=
  (aM (af.mk l35 p1.end_ x36 x37)).bind fun y42=>some (.inl ((aE.mk y5.1 ((p1.l.getD 0 default).at_) l8 l15 y24.1 l38 l40),y42.2,x36,x37))
noncomputable def dP(p1:af)(l81:List aa)(x82 x83:Int)(l84:List aw)(l86:List TEq):Option (((List aa)×Int×Int×(List aw)×(List TEq)) ⊕ (((List aa)×Int×Int×(List aw)×(List TEq)) ⊕ ((aE×(List aa)×Int×Int) ⊕ (Int×Int)))) :=
  (aA (lit ([([59]:Ω)]:List Ω)) (af.mk l81 p1.end_ x82 x83)).bind fun y88=>Sum.elim (fun y91=>some (.inl (y91,x82,x83,l84,l86))) (fun y92=>some (.inr (.inr (.inr (y92.1,y92.2))))) y88
noncomputable def dw(fuel:Nat)(p1:af)(x70 x71:Int)(l72:List aw)(l74:List TEq)(y93:(Bool×(List aa))):Option (((List aa)×Int×Int×(List aw)×(List TEq)) ⊕ (((List aa)×Int×Int×(List aw)×(List TEq)) ⊕ ((aE×(List aa)×Int×Int) ⊕ (Int×Int)))) :=
  if (y93.2.length:Int)=0 then ((aD 4 (af.mk y93.2 p1.end_ x70 x71)).bind fun y102=>some (.inr (.inr (.inr (y102.1,y102.2))))) else ((fM fuel (af.mk y93.2 p1.end_ x70 x71)).bind fun y103=>Sum.elim (fun y104=>if lK (l74.length+1) 96 then (dP p1 y104.2.1 y104.2.2.1 y104.2.2.2 l72 (l74++(lit ([(y104.1)]:List TEq)))) else none) (fun y105=>some (.inr (.inr (.inr (y105.1,y105.2))))) y103)
noncomputable def co(fuel:Nat)(p1:af)(l69:List aa)(x70 x71:Int)(l72:List aw)(l74:List TEq):Option (((List aa)×Int×Int×(List aw)×(List TEq)) ⊕ (((List aa)×Int×Int×(List aw)×(List TEq)) ⊕ ((aE×(List aa)×Int×Int) ⊕ (Int×Int)))) :=
  (aL (lit ([([125]:Ω)]:List Ω)) (af.mk l69 p1.end_ x70 x71)).bind fun y76=>if y76=true then (some (.inr (.inl (l69,x70,x71,l72,l74)))) else ((aY ([118,97,114]:Ω) (af.mk l69 p1.end_ x70 x71)).bind fun y93=>if y93.1=true then (if (l72.length:Int)=30 then ((aD 7 (af.mk y93.2 p1.end_ x70 x71)).bind fun y94=>some (.inr (.inr (.inr (y94.1,y94.2))))) else ((fD (af.mk y93.2 p1.end_ x70 x71)).bind fun y95=>Sum.elim (fun y96=>if lK (l72.length+1) 48 then (dP p1 y96.2 x70 x71 (l72++(lit ([(aw.mk ((y96.1).name) ((y96.1).t))]:List aw))) l74) else none) (fun y97=>some (.inr (.inr (.inr (y97.1,y97.2))))) y95)) else (if (y93.2.length:Int)>0 then (if (0≤0∧0<(y93.2.length:Int)) then (if ((y93.2.getD 0 default).kind)=2 then (if (l74.length:Int)=60 then ((aD 7 (af.mk y93.2 p1.end_ x70 x71)).bind fun y106=>some (.inr (.inr (.inr (y106.1,y106.2))))) else (dw fuel p1 x70 x71 l72 l74 y93)) else (dw fuel p1 x70 x71 l72 l74 y93)) else none) else (dw fuel p1 x70 x71 l72 l74 y93)))
noncomputable def dQ(fuel:Nat)(p1:af)(y5:((Ω)×(List aa)))(l8:List Ω)(l14:List aa)(l15:List aw):Option ((aE×(List aa)×Int×Int) ⊕ (Int×Int)) :=
  (aA (lit ([([41]:Ω),([45,62]:Ω),([40]:Ω)]:List Ω)) (af.mk l14 p1.end_ p1.open_ p1.terms)).bind fun y16=>Sum.elim (fun y19=>(fb 30 (af.mk y19 p1.end_ p1.open_ p1.terms)).bind fun y21=>Sum.elim (fun y24=>(aA (lit ([([41]:Ω),([123]:Ω)]:List Ω)) (af.mk y24.2 p1.end_ p1.open_ p1.terms)).bind fun y26=>Sum.elim (fun y29=>(dh (fun (l69,x70,x71,l72,l74)=>co fuel p1 l69 x70 x71 l72 l74) (y29,p1.open_,p1.terms,[],[])).bind (Sum.elim (fun (z107,z108,z109,z110,z111)=>ew p1 y5 l8 l15 y24 z107 z108 z109 z110 z111) (fun z112=>some z112))) (fun y30=>some (.inr (y30.1,y30.2))) y26) (fun y25=>some (.inr (y25.1,y25.2))) y21) (fun y20=>some (.inr (y20.1,y20.2))) y16
noncomputable def dR(fuel:Nat)(p1:af)(y5:((Ω)×(List aa)))(l7:List aa)(l8:List Ω):Option ((aE×(List aa)×Int×Int) ⊕ (Int×Int)) :=
  (aA (lit ([([40]:Ω)]:List Ω)) (af.mk l7 p1.end_ p1.open_ p1.terms)).bind fun y9=>Sum.elim (fun y12=>(aL (lit ([([41]:Ω)]:List Ω)) (af.mk y12 p1.end_ p1.open_ p1.terms)).bind fun y113=>if y113=true then (dQ fuel p1 y5 l8 y12 []) else ((fb 30 (af.mk y12 p1.end_ p1.open_ p1.terms)).bind fun y114=>Sum.elim (fun y117=>dQ fuel p1 y5 l8 y117.2 y117.1) (fun y118=>some (.inr (y118.1,y118.2))) y114)) (fun y13=>some (.inr (y13.1,y13.2))) y9
noncomputable def gB(fuel:Nat)(p1:af):Option ((aE×(List aa)×Int×Int) ⊕ (Int×Int)) :=
  if (0≤0∧0<(p1.l.length:Int)) then ((aM p1).bind fun y1=>(bg (af.mk y1.2 p1.end_ p1.open_ p1.terms)).bind fun y2=>Sum.elim (fun y5=>(aY ([60]:Ω) (af.mk y5.2 p1.end_ p1.open_ p1.terms)).bind fun y119=>if y119.1=true then ((fm 3 (af.mk y119.2 p1.end_ p1.open_ p1.terms)).bind fun y120=>Sum.elim (fun y123=>(aA (lit ([([62]:Ω)]:List Ω)) (af.mk y123.2 p1.end_ p1.open_ p1.terms)).bind fun y125=>Sum.elim (fun y128=>dR fuel p1 y5 y128 y123.1) (fun y129=>some (.inr (y129.1,y129.2))) y125) (fun y124=>some (.inr (y124.1,y124.2))) y120) else (dR fuel p1 y5 y119.2 [])) (fun y6=>some (.inr (y6.1,y6.2))) y2) else none
end Pam
namespace Pam
open Go
noncomputable def jC(l4:List aa)(x5 x6:Int)(l7:List aE):Option (az×aq) :=
  some ((az.mk l7),(aq.mk 0 0))
noncomputable def gQ(fuel:Nat)(p1:Ω)(l25:List aa)(x26 x27:Int)(l28:List aE):Option (((List aa)×Int×Int×(List aE)) ⊕ (((List aa)×Int×Int×(List aE)) ⊕ (az×aq))) :=
  (aL (lit ([([110,111,100,101]:Ω)]:List Ω)) (af.mk l25 (p1.length:Int) x26 x27)).bind fun y32=>if y32=true then (if (l28.length:Int)=10 then ((aD 7 (af.mk l25 (p1.length:Int) x26 x27)).bind fun y33=>some (.inr (.inr ((az.mk []),(aq.mk y33.1 y33.2))))) else ((gB fuel (af.mk l25 (p1.length:Int) x26 x27)).bind fun y34=>Sum.elim (fun y35=>if lK (l28.length+1) 144 then (some (.inl (y35.2.1,y35.2.2.1,y35.2.2.2,(l28++(lit ([(y35.1)]:List aE)))))) else none) (fun y36=>some (.inr (.inr ((az.mk []),(aq.mk y36.1 y36.2))))) y34)) else ((aD 4 (af.mk l25 (p1.length:Int) x26 x27)).bind fun y37=>some (.inr (.inr ((az.mk []),(aq.mk y37.1 y37.2)))))
noncomputable def eh(fuel:Nat)(p1:Ω)(l25:List aa)(x26 x27:Int)(l28:List aE):Option (((List aa)×Int×Int×(List aE)) ⊕ (((List aa)×Int×Int×(List aE)) ⊕ (az×aq))) :=
  if (l25.length:Int)>0 then (gQ fuel p1 l25 x26 x27 l28) else (if (l28.length:Int)=0 then (gQ fuel p1 l25 x26 x27 l28) else (some (.inr (.inl (l25,x26,x27,l28)))))
noncomputable def fE(fuel:Nat)(p1:Ω):Option (az×aq) :=
  (mA p1).bind fun y1=>if ¬ ((y1.2).code)=0 then (some ((az.mk []),(y1.2))) else ((dh (fun (l25,x26,x27,l28)=>eh fuel p1 l25 x26 x27 l28) (y1.1,0,0,[])).bind (Sum.elim (fun (z38,z39,z40,z41)=>jC z38 z39 z40 z41) (fun z42=>some z42)))
end Pam
namespace Pam
open Go
open Classical in
noncomputable def ig(p1:List Ω)(p2:Ω):Option Ω :=
  if p1.length≤1048576∧(Go.Lib.join p1 p2).length≤140737488355328 then some (Go.Lib.join p1 p2) else none
end Pam
namespace Pam
open Go
open Classical in
noncomputable def mJ(p1:List ag):Option Ω :=
  if p1.length≤1048576∧(∀ t∈p1,-9223372036854775808<t.n∧t.n≤9223372036854775807)∧(fI true (p1.map fun t=>(t.n,t.name))).length≤140737488355328 then some (fI true (p1.map fun t=>(t.n,t.name))) else none
end Pam
namespace Pam
open Go
noncomputable def j9(p1:gu)(s1:Ω):Option Ω :=
  if (p1.n.length:Int)>0 then ((mJ p1.n).bind fun y2=>if 1+y2.length≤maxLen∧s1.length+1+y2.length≤maxLen then (some (s1++(([94]:Ω)++y2))) else none) else (some s1)
noncomputable def o8(p1:gu):Option Ω :=
  if p1.elem=98 then (j9 p1 ([98,111,111,108]:Ω)) else (j9 p1 ([105,110,116]:Ω))
end Pam
namespace Pam
open Go
noncomputable def lE(p1:aw):Option Ω :=
  if p1.name.length+2≤maxLen then ((o8 p1.t).bind fun y1=>if p1.name.length+2+y1.length≤maxLen then (some ((p1.name++([58,32]:Ω))++y1)) else none) else none
end Pam
namespace Pam
open Go
noncomputable def gj(l3:List Ω):Option Ω :=
  (ig l3 ([44,32]:Ω)).bind fun y5=>some y5
noncomputable def fe(p1:List aw)(l18:List Ω)(x20:Int):Option (((List Ω)×Int) ⊕ (List Ω)) :=
  if x20<(p1.length:Int) then (if (0≤x20∧x20<(p1.length:Int)) then ((lE (aw.mk ((p1.getD x20.toNat default).name) ((p1.getD x20.toNat default).t))).bind fun y21=>if lK (l18.length+1) 16 then (some (.inl ((l18++(lit ([y21]:List Ω))),(IntKind.wrap .i64 (x20+1))))) else none) else none) else (some (.inr l18))
noncomputable def gV(p1:List aw):Option Ω :=
  (dh (fun (l18,x20)=>fe p1 l18 x20) ([],0)).bind (fun z22=>gj z22)
end Pam
namespace Pam
open Go
noncomputable def gk(l3:List Ω):Option Ω :=
  (ig l3 ([44,32]:Ω)).bind fun y5=>some y5
noncomputable def ff(p1:List (List ag))(l18:List Ω)(x20:Int):Option (((List Ω)×Int) ⊕ (List Ω)) :=
  if x20<(p1.length:Int) then (if (0≤x20∧x20<(p1.length:Int)) then ((mJ (p1.getD x20.toNat default)).bind fun y21=>if lK (l18.length+1) 16 then (some (.inl ((l18++(lit ([y21]:List Ω))),(IntKind.wrap .i64 (x20+1))))) else none) else none) else (some (.inr l18))
noncomputable def gW(p1:List (List ag)):Option Ω :=
  (dh (fun (l18,x20)=>ff p1 l18 x20) ([],0)).bind (fun z22=>gk z22)
end Pam
namespace Pam
open Go
noncomputable def mK(p1:ae):Option Int :=
  if p1.op=6 then (some 0) else (if p1.op=4 then (some 6) else (if ¬ p1.op=5 then (some 7) else (if p1.k=6 then (some 7) else (if p1.k=7 then (some 7) else (if (0≤p1.k∧p1.k<(13:Int)) then (some ((lit ([0,4,4,5,5,5,0,0,3,3,2,1,1]:List Int)).getD p1.k.toNat 0)) else none)))))
end Pam
namespace Pam
open Go
open Classical in
noncomputable def jS(p1 p2:Int):Option Ω :=
  if p2=10∧-9223372036854775808≤p1∧p1≤9223372036854775807 then some (Go.Lib.itoa p1) else none
end Pam
namespace Pam
open Go
noncomputable def hI(p1:Bool):Option Ω :=
  if p1=true then (some ([116,114,117,101]:Ω)) else (some ([102,97,108,115,101]:Ω))
end Pam
namespace Pam
open Go
noncomputable def kL(p1:Bool):Option Ω :=
  (hI p1).bind fun y1=>some y1
end Pam
namespace Pam
open Go
noncomputable def mL(rc_render_expr:ae→Option Ω)(p1:ae)(p2:Int):Option Ω :=
  (rc_render_expr p1).bind fun y1=>(mK p1).bind fun y2=>if y2<p2 then (if 1+y1.length≤maxLen∧1+y1.length+1≤maxLen then (some ((([40]:Ω)++y1)++([41]:Ω))) else none) else (some y1)
end Pam
namespace Pam
open Go
noncomputable def nY(p1:Int):Option Ω :=
  if (0≤p1∧p1<(13:Int)) then (some ((lit ([[],[43],[45],[42],[47],[37],[],[],[60],[61,61],[97,110,100],[111,114],[120,111,114]]:List Ω)).getD p1.toNat [])) else none
end Pam
namespace Pam
open Go
noncomputable def kU(p1:Int):Option Ω :=
  if (0≤p1∧p1<(15:Int)) then (some ((lit ([[],[97,100,100],[115,117,98],[109,117,108],[100,105,118],[109,111,100],[109,105,110],[109,97,120],[108,101,115,115],[101,113],[97,110,100],[111,114],[120,111,114],[110,101,103],[110,111,116]]:List Ω)).getD p1.toNat [])) else none
end Pam
namespace Pam
open Go
noncomputable def gm(l3:List Ω):Option Ω :=
  (ig l3 ([44,32]:Ω)).bind fun y5=>some y5
noncomputable def fg(rc_render_expr:ae→Option Ω)(p1:List ae)(l18:List Ω)(x20:Int):Option (((List Ω)×Int) ⊕ (List Ω)) :=
  if x20<(p1.length:Int) then (if (0≤x20∧x20<(p1.length:Int)) then ((rc_render_expr (p1.getD x20.toNat default)).bind fun y21=>if lK (l18.length+1) 16 then (some (.inl ((l18++(lit ([y21]:List Ω))),(IntKind.wrap .i64 (x20+1))))) else none) else none) else (some (.inr l18))
noncomputable def iE(rc_render_expr:ae→Option Ω)(p1:List ae):Option Ω :=
  (dh (fun (l18,x20)=>fg rc_render_expr p1 l18 x20) ([],0)).bind (fun z22=>gm z22)
end Pam
namespace Pam
open Go
noncomputable def iw(p1:ae)(s3:Ω):Option Ω :=
  if (0≤(IntKind.wrap .i64 (p1.op - 7))∧(IntKind.wrap .i64 (p1.op - 7))<(9:Int)) then (if ((lit ([[109,97,112],[102,111,108,100],[115,99,97,110],[102,105,108,108],[],[119,105,116,104],[115,108,105,99,101],[99,97,116],[112,114,101]]:List Ω)).getD ((IntKind.wrap .i64 (p1.op - 7)).toNat) []).length+1≤maxLen∧(((lit ([[109,97,112],[102,111,108,100],[115,99,97,110],[102,105,108,108],[],[119,105,116,104],[115,108,105,99,101],[99,97,116],[112,114,101]]:List Ω)).getD ((IntKind.wrap .i64 (p1.op - 7)).toNat) []).length)+1+s3.length≤maxLen∧((((lit ([[109,97,112],[102,111,108,100],[115,99,97,110],[102,105,108,108],[],[119,105,116,104],[115,108,105,99,101],[99,97,116],[112,114,101]]:List Ω)).getD ((IntKind.wrap .i64 (p1.op - 7)).toNat) []).length)+1)+s3.length+1≤maxLen then (some (((((lit ([[109,97,112],[102,111,108,100],[115,99,97,110],[102,105,108,108],[],[119,105,116,104],[115,108,105,99,101],[99,97,116],[112,114,101]]:List Ω)).getD ((IntKind.wrap .i64 (p1.op - 7)).toNat) [])++([40]:Ω))++s3)++([41]:Ω))) else none) else none
noncomputable def gX(p1:ae)(s2:Ω)(b5:Bool):Option Ω :=
  if b5=true then ((kU p1.k).bind fun y6=>if y6.length+2≤maxLen∧y6.length+2+s2.length≤maxLen then (iw p1 ((y6++([44,32]:Ω))++s2)) else none) else (iw p1 s2)
noncomputable def ix(p1:ae)(s2:Ω):Option Ω :=
  if p1.op=5 then ((kU p1.k).bind fun y4=>if y4.length+1≤maxLen∧y4.length+1+s2.length≤maxLen∧(y4.length+1)+s2.length+1≤maxLen then (some (((y4++([40]:Ω))++s2)++([41]:Ω))) else none) else (if p1.op=7 then (gX p1 s2 (p1.op == 7)) else (if p1.op=8 then (gX p1 s2 (p1.op == 8)) else (gX p1 s2 (p1.op == 9))))
noncomputable def ml(rc_render_expr:ae→Option Ω)(p1:ae):Option Ω :=
  (iE rc_render_expr p1.l).bind fun y1=>if (p1.s.length:Int)>0 then ((gW p1.s).bind fun y7=>if 2+y7.length≤maxLen∧y1.length+2+y7.length≤maxLen then (ix p1 (y1++(([44,32]:Ω)++y7))) else none) else (ix p1 y1)
end Pam
namespace Pam
open Go
noncomputable def jh(rcf:ae→Option Ω)(p1:ae):Option Ω :=
  (ml rcf p1).bind fun y2=>some y2
noncomputable def ji(rcf:ae→Option Ω)(p1:ae)(y1 x12:Int):Option Ω :=
  if (0≤0∧0<(p1.l.length:Int)) then ((mL rcf (p1.l.getD 0 default) x12).bind fun y13=>if y13.length+1≤maxLen then ((nY p1.k).bind fun y14=>if y13.length+1+y14.length≤maxLen∧(y13.length+1)+y14.length+1≤maxLen∧(0≤1∧1<(p1.l.length:Int)) then ((mL rcf (p1.l.getD 1 default) (IntKind.wrap .i64 (y1+1))).bind fun y15=>if ((y13.length+1)+y14.length)+1+y15.length≤maxLen then (some ((((y13++([32]:Ω))++y14)++([32]:Ω))++y15)) else none) else none) else none) else none
noncomputable def mm(rcf:ae→Option Ω)(p1:ae):Option Ω :=
  (mK p1).bind fun y1=>if p1.op=1 then ((jS p1.n 10).bind fun y3=>some y3) else (if p1.op=2 then ((kL (p1.n == 1)).bind fun y4=>some y4) else (if p1.op=3 then (some p1.name) else (if p1.op=4 then (if (0≤(IntKind.wrap .i64 (p1.k - 13))∧(IntKind.wrap .i64 (p1.k - 13))<(2:Int)) then (if (0≤0∧0<(p1.l.length:Int)) then ((mL rcf (p1.l.getD 0 default) y1).bind fun y5=>if ((lit ([[45],[110,111,116,32]]:List Ω)).getD ((IntKind.wrap .i64 (p1.k - 13)).toNat) []).length+y5.length≤maxLen then (some (((lit ([[45],[110,111,116,32]]:List Ω)).getD ((IntKind.wrap .i64 (p1.k - 13)).toNat) [])++y5)) else none) else none) else none) else (if p1.op=6 then (if (0≤0∧0<(p1.l.length:Int)) then ((rcf (p1.l.getD 0 default)).bind fun y6=>if 3+y6.length≤maxLen∧3+y6.length+6≤maxLen∧(0≤1∧1<(p1.l.length:Int)) then ((rcf (p1.l.getD 1 default)).bind fun y7=>if (3+y6.length)+6+y7.length≤maxLen∧((3+y6.length)+6)+y7.length+6≤maxLen∧(0≤2∧2<(p1.l.length:Int)) then ((rcf (p1.l.getD 2 default)).bind fun y8=>if (((3+y6.length)+6)+y7.length)+6+y8.length≤maxLen then (some (((((([105,102,32]:Ω)++y6)++([32,116,104,101,110,32]:Ω))++y7)++([32,101,108,115,101,32]:Ω))++y8)) else none) else none) else none) else none) else (if p1.op=11 then (if (0≤0∧0<(p1.l.length:Int)) then ((mL rcf (p1.l.getD 0 default) y1).bind fun y9=>if y9.length+1≤maxLen∧(0≤1∧1<(p1.l.length:Int)) then ((rcf (p1.l.getD 1 default)).bind fun y10=>if y9.length+1+y10.length≤maxLen∧(y9.length+1)+y10.length+3≤maxLen∧(0≤2∧2<(p1.l.length:Int)) then ((rcf (p1.l.getD 2 default)).bind fun y11=>if ((y9.length+1)+y10.length)+3+y11.length≤maxLen∧(((y9.length+1)+y10.length)+3)+y11.length+1≤maxLen then (some (((((y9++([91]:Ω))++y10)++([32,58,32]:Ω))++y11)++([93]:Ω))) else none) else none) else none) else none) else (if p1.op=5 then (if y1=7 then (jh rcf p1) else (if y1=3 then (ji rcf p1 y1 (IntKind.wrap .i64 (y1+1))) else (ji rcf p1 y1 y1))) else (jh rcf p1)))))))
noncomputable def eW:Nat→ae→Option Ω
  |0=>fun _=>none
  |n+1=>mm (eW n)
noncomputable def pM(fuel:Nat)(p1:ae):Option Ω:=eW fuel p1
end Pam
namespace Pam
open Go
noncomputable def fw(l3:List Ω):Option Ω :=
  (ig l3 ([44,32]:Ω)).bind fun y5=>some y5
noncomputable def eJ(fuel:Nat)(p1:List ae)(l18:List Ω)(x20:Int):Option (((List Ω)×Int) ⊕ (List Ω)) :=
  if x20<(p1.length:Int) then (if (0≤x20∧x20<(p1.length:Int)) then ((pM fuel (p1.getD x20.toNat default)).bind fun y21=>if lK (l18.length+1) 16 then (some (.inl ((l18++(lit ([y21]:List Ω))),(IntKind.wrap .i64 (x20+1))))) else none) else none) else (some (.inr l18))
noncomputable def ii(fuel:Nat)(p1:List ae):Option Ω :=
  (dh (fun (l18,x20)=>eJ fuel p1 l18 x20) ([],0)).bind (fun z22=>fw z22)
end Pam
namespace Pam
open Go
noncomputable def kM(fuel:Nat)(p1:TEq)(s3:Ω):Option Ω :=
  if s3.length+1≤maxLen then ((ii fuel p1.e).bind fun y4=>if s3.length+1+y4.length≤maxLen∧(s3.length+1)+y4.length+1≤maxLen then (some (((s3++([40]:Ω))++y4)++([41]:Ω))) else none) else none
noncomputable def qo(fuel:Nat)(p1:TEq):Option Ω :=
  (ig p1.names ([44,32]:Ω)).bind fun y1=>if y1.length+3≤maxLen then (if p1.node=([]:Ω) then (if (0≤0∧0<(p1.e.length:Int)) then ((pM fuel (p1.e.getD 0 default)).bind fun y2=>if y1.length+3+y2.length≤maxLen then (some ((y1++([32,61,32]:Ω))++y2)) else none) else none) else (if 5+p1.node.length≤maxLen∧y1.length+3+5+p1.node.length≤maxLen then (if (p1.s.length:Int)>0 then ((gW p1.s).bind fun y5=>if 1+y5.length≤maxLen∧1+y5.length+1≤maxLen∧(y1.length+3)+(5+p1.node.length)+(1+y5.length)+1≤maxLen then (kM fuel p1 (((y1++([32,61,32]:Ω))++(([99,97,108,108,32]:Ω)++p1.node))++((([60]:Ω)++y5)++([62]:Ω)))) else none) else (kM fuel p1 ((y1++([32,61,32]:Ω))++(([99,97,108,108,32]:Ω)++p1.node)))) else none)) else none
end Pam
namespace Pam
open Go
noncomputable def kq(s5:Ω):Option Ω :=
  if s5.length+2≤maxLen then (some (s5++([125,10]:Ω))) else none
noncomputable def jj(fuel:Nat)(p1:aE)(s10:Ω)(x11:Int):Option (((Ω)×Int) ⊕ Ω) :=
  if x11<(p1.eqs.length:Int) then (if (0≤x11∧x11<(p1.eqs.length:Int)) then ((qo fuel (p1.eqs.getD x11.toNat default)).bind fun y12=>if 1+y12.length≤maxLen∧1+y12.length+2≤maxLen∧s10.length+(1+y12.length)+2≤maxLen then (some (.inl ((s10++((([9]:Ω)++y12)++([59,10]:Ω))),(IntKind.wrap .i64 (x11+1))))) else none) else none) else (some (.inr s10))
noncomputable def jk(fuel:Nat)(p1:aE)(s4:Ω):Option Ω :=
  (dh (fun (s10,x11)=>jj fuel p1 s10 x11) (s4,0)).bind (fun z13=>kq z13)
noncomputable def jl(p1:aE)(s18:Ω)(x19:Int):Option (((Ω)×Int) ⊕ Ω) :=
  if x19<(p1.local_.length:Int) then (if (0≤x19∧x19<(p1.local_.length:Int)) then ((lE (aw.mk ((p1.local_.getD x19.toNat default).name) ((p1.local_.getD x19.toNat default).t))).bind fun y20=>if 5+y20.length≤maxLen∧5+y20.length+2≤maxLen∧s18.length+(5+y20.length)+2≤maxLen then (some (.inl ((s18++((([9,118,97,114,32]:Ω)++y20)++([59,10]:Ω))),(IntKind.wrap .i64 (x19+1))))) else none) else none) else (some (.inr s18))
noncomputable def jm(fuel:Nat)(p1:aE)(s1:Ω):Option Ω :=
  (gV p1.in_).bind fun y2=>if 1+y2.length≤maxLen∧1+y2.length+6≤maxLen then ((gV p1.out_).bind fun y3=>if (1+y2.length)+6+y3.length≤maxLen∧((1+y2.length)+6)+y3.length+4≤maxLen∧s1.length+(((1+y2.length)+6)+y3.length)+4≤maxLen then ((dh (fun (s18,x19)=>jl p1 s18 x19) ((s1++((((([40]:Ω)++y2)++([41,32,45,62,32,40]:Ω))++y3)++([41,32,123,10]:Ω))),0)).bind (fun z21=>jk fuel p1 z21)) else none) else none
noncomputable def jT(fuel:Nat)(p1:aE):Option Ω :=
  if 5+p1.name.length≤maxLen then (if (p1.sizes.length:Int)>0 then ((ig p1.sizes ([44,32]:Ω)).bind fun y22=>if 1+y22.length≤maxLen∧1+y22.length+1≤maxLen∧5+p1.name.length+(1+y22.length)+1≤maxLen then (jm fuel p1 ((([110,111,100,101,32]:Ω)++p1.name)++((([60]:Ω)++y22)++([62]:Ω)))) else none) else (jm fuel p1 (([110,111,100,101,32]:Ω)++p1.name))) else none
end Pam
namespace Pam
open Go
open Classical in
noncomputable def lN(fuel:Nat)(p1:az):Option Ω :=
  (List.mapM (jT fuel) p1.nodes).bind fun q=>if p1.nodes.length≤1048576∧(Go.Lib.join q []).length≤140737488355328 then some (Go.Lib.join q []) else none
end Pam
namespace Pam
open Go
noncomputable def au(p1:Bool)(p2:Int)(p3:am):Option (Int×Int) :=
  if p1=true then (if p3.f.code=0 then (some (p2,p3.at_)) else (some (p3.f.code,p3.f.at_))) else (some (p3.f.code,p3.f.at_))
end Pam
namespace Pam
open Go
noncomputable def lh:Option Bool :=
  some true
noncomputable def je(p1:Ω)(x5:Int):Option (Int ⊕ (Unit ⊕ Bool)) :=
  if x5<(p1.length:Int) then (if (0≤x5∧x5<(p1.length:Int)) then ((jQ ((p1.getD x5.toNat 0).toNat:Int)).bind fun y6=>if y6=true then (some (.inl (IntKind.wrap .i64 (x5+1)))) else ((kC ((p1.getD x5.toNat 0).toNat:Int)).bind fun y7=>if y7=true then (some (.inl (IntKind.wrap .i64 (x5+1)))) else (some (.inr (.inr false))))) else none) else (some (.inr (.inl ())))
noncomputable def mB(p1:Ω):Option Bool :=
  if p1=([]:Ω) then (some false) else (if (p1.length:Int)>12 then (some false) else (if (0≤0∧0<(p1.length:Int)) then ((jQ ((p1.getD 0 0).toNat:Int)).bind fun y1=>if y1=true then ((mz p1).bind fun y2=>if y2=true then (some false) else ((dh (fun x5=>je p1 x5) 0).bind (Sum.elim (fun _=>lh) (fun z8=>some z8)))) else (some false)) else none))
end Pam
namespace Pam
open Go
noncomputable def cK(p1:Ω)(p2:am):Option (Int×Int) :=
  (mB p1).bind fun y1=>(au (!y1) 3 p2).bind fun y2=>some (y2.1,y2.2)
end Pam
namespace Pam
open Go
noncomputable def e7(p1:List ag)(p2:am)(x11 x12 x13:Int):Option ((Int×Int×Int) ⊕ (Int×Int)) :=
  if ((p1.getD x11.toNat default).name)=([]:Ω) then (some (.inl (x12,x13,(IntKind.wrap .i64 (x11+1))))) else ((cK ((p1.getD x11.toNat default).name) (am.mk (aq.mk x12 x13) p2.at_)).bind fun y14=>some (.inl (y14.1,y14.2,(IntKind.wrap .i64 (x11+1)))))
noncomputable def dS(p1:List ag)(p2:am)(x9 x10 x11:Int):Option ((Int×Int×Int) ⊕ (Int×Int)) :=
  if x11<(p1.length:Int) then (if x9=0 then (if (0≤x11∧x11<(p1.length:Int)) then (if ((p1.getD x11.toNat default).n)≤(-1000000000000000000) then ((au true 2 (am.mk (aq.mk x9 x10) p2.at_)).bind fun y15=>e7 p1 p2 x11 y15.1 y15.2) else ((au (decide (((p1.getD x11.toNat default).n)≥1000000000000000000)) 2 (am.mk (aq.mk x9 x10) p2.at_)).bind fun y16=>e7 p1 p2 x11 y16.1 y16.2)) else none) else (some (.inr (x9,x10)))) else (some (.inr (x9,x10)))
noncomputable def gS(p1:List ag)(p2:am):Option (Int×Int) :=
  (au ((p1.length:Int) == 0) 4 p2).bind fun y1=>(au (decide ((p1.length:Int)>30)) 7 (am.mk (aq.mk y1.1 y1.2) p2.at_)).bind fun y2=>(dh (fun (x9,x10,x11)=>dS p1 p2 x9 x10 x11) (y2.1,y2.2,0)).bind (fun z17=>some z17)
end Pam
namespace Pam
open Go
noncomputable def gC(p1:gu)(p2:am)(x1 x2:Int):Option (Int×Int) :=
  if (p1.n.length:Int)>0 then ((gS p1.n (am.mk (aq.mk x1 x2) p2.at_)).bind fun y3=>some (y3.1,y3.2)) else (some (x1,x2))
noncomputable def jU(p1:gu)(p2:am):Option (Int×Int) :=
  if ¬ p1.elem=105 then ((au (p1.elem != 98) 10 p2).bind fun y4=>gC p1 p2 y4.1 y4.2) else ((au false 10 p2).bind fun y5=>gC p1 p2 y5.1 y5.2)
end Pam
namespace Pam
open Go
noncomputable def dE(p1:List aw)(p2:am)(x8 x9 x10:Int):Option ((Int×Int×Int) ⊕ (Int×Int)) :=
  if x10<(p1.length:Int) then (if x8=0 then (if (0≤x10∧x10<(p1.length:Int)) then ((cK ((p1.getD x10.toNat default).name) (am.mk (aq.mk x8 x9) p2.at_)).bind fun y11=>(jU ((p1.getD x10.toNat default).t) (am.mk (aq.mk y11.1 y11.2) p2.at_)).bind fun y12=>some (.inl (y12.1,y12.2,(IntKind.wrap .i64 (x10+1))))) else none) else (some (.inr (x8,x9)))) else (some (.inr (x8,x9)))
noncomputable def gI(p1:List aw)(p2:am):Option (Int×Int) :=
  (au (decide ((p1.length:Int)>30)) 7 p2).bind fun y1=>(dh (fun (x8,x9,x10)=>dE p1 p2 x8 x9 x10) (y1.1,y1.2,0)).bind (fun z13=>some z13)
end Pam
namespace Pam
open Go
noncomputable def jD(x1:Int):Option Int :=
  some x1
noncomputable def jE(rcf:ae→Int→Option Int)(p1:ae)(x6 x7:Int):Option ((Int×Int) ⊕ Int) :=
  if x7<(p1.l.length:Int) then (if x6≥0 then (if (0≤x7∧x7<(p1.l.length:Int)) then ((rcf (p1.l.getD x7.toNat default) x6).bind fun y8=>some (.inl (y8,(IntKind.wrap .i64 (x7+1))))) else none) else (some (.inr x6))) else (some (.inr x6))
noncomputable def lF(rcf:ae→Int→Option Int)(p1:ae)(p2:Int):Option Int :=
  (dh (fun (x6,x7)=>jE rcf p1 x6 x7) ((IntKind.wrap .i64 (p2 - 1)),0)).bind (fun z9=>jD z9)
noncomputable def iF:Nat→ae→Int→Option Int
  |0=>fun _ _=>none
  |n+1=>lF (iF n)
noncomputable def qW(fuel:Nat)(p1:ae)(p2:Int):Option Int:=iF fuel p1 p2
end Pam
namespace Pam
open Go
noncomputable def li(b4:Bool):Option (hO×Bool) :=
  if b4=true then (some ((hO.mk 2 0 0 0),true)) else (some ((hO.mk 0 0 0 0),false))
noncomputable def lj(p1:Int)(b3:Bool):Option (hO×Bool) :=
  if b3=true then (some ((hO.mk 2 0 1 14),true)) else (if p1=10 then (some ((hO.mk 1 1 0 0),true)) else (if p1=13 then (some ((hO.mk 1 2 0 0),true)) else (if p1=14 then (li (p1 == 14)) else (li (p1 == 15)))))
noncomputable def kb(p1:Int)(b2:Bool):Option (hO×Bool) :=
  if b2=true then (some ((hO.mk 3 0 0 0),true)) else (if p1=7 then (some ((hO.mk (-1) 0 1 14),true)) else (if p1=8 then (lj p1 (p1 == 8)) else (lj p1 (p1 == 9))))
noncomputable def kc(p1:Int)(b1:Bool):Option (hO×Bool) :=
  if b1=true then (some ((hO.mk 0 0 0 0),true)) else (if p1=4 then (some ((hO.mk 1 0 13 14),true)) else (if p1=5 then (some ((hO.mk 2 0 1 12),true)) else (if p1=6 then (kb p1 (p1 == 6)) else (if p1=11 then (kb p1 (p1 == 11)) else (kb p1 (p1 == 12))))))
noncomputable def o9(p1:Int):Option (hO×Bool) :=
  if p1=1 then (kc p1 (p1 == 1)) else (if p1=2 then (kc p1 (p1 == 2)) else (kc p1 (p1 == 3)))
end Pam
namespace Pam
open Go
noncomputable def e8(rcf:ae→am→Option (Int×Int))(p1:ae)(p2:am)(x18 x19 x20:Int):Option ((Int×Int×Int) ⊕ (Int×Int)) :=
  if x20<(p1.l.length:Int) then (if (0≤x20∧x20<(p1.l.length:Int)) then ((rcf (p1.l.getD x20.toNat default) (am.mk (aq.mk x18 x19) p2.at_)).bind fun y21=>some (.inl (y21.1,y21.2,(IntKind.wrap .i64 (x20+1))))) else none) else (some (.inr (x18,x19)))
noncomputable def fV(rcf:ae→am→Option (Int×Int))(p1:ae)(p2:am)(x10 x11:Int):Option (Int×Int) :=
  (dh (fun (x18,x19,x20)=>e8 rcf p1 p2 x18 x19 x20) (x10,x11,0)).bind (fun z22=>some z22)
noncomputable def e9(p1:ae)(p2:am)(x29 x30 x31:Int):Option ((Int×Int×Int) ⊕ (Int×Int)) :=
  if x31<(p1.s.length:Int) then (if (0≤x31∧x31<(p1.s.length:Int)) then ((gS (p1.s.getD x31.toNat default) (am.mk (aq.mk x29 x30) p2.at_)).bind fun y32=>some (.inl (y32.1,y32.2,(IntKind.wrap .i64 (x31+1))))) else none) else (some (.inr (x29,x30)))
noncomputable def fW(rcf:ae→am→Option (Int×Int))(p1:ae)(p2:am)(x8 x9:Int):Option (Int×Int) :=
  (dh (fun (x29,x30,x31)=>e9 p1 p2 x29 x30 x31) (x8,x9,0)).bind (fun (z33,z34)=>fV rcf p1 p2 z33 z34)
noncomputable def fX(rcf:ae→am→Option (Int×Int))(p1:ae)(p2:am)(x6 x7:Int):Option (Int×Int) :=
  if p1.n<0 then ((au true 2 (am.mk (aq.mk x6 x7) p2.at_)).bind fun y35=>fW rcf p1 p2 y35.1 y35.2) else ((au (decide (p1.n≥1000000000000000000)) 2 (am.mk (aq.mk x6 x7) p2.at_)).bind fun y36=>fW rcf p1 p2 y36.1 y36.2)
noncomputable def aP(rcf:ae→am→Option (Int×Int))(p1:ae)(p2:am)(x4 x5:Int):Option (Int×Int) :=
  if p1.op=3 then ((cK p1.name (am.mk (aq.mk x4 x5) p2.at_)).bind fun y37=>fX rcf p1 p2 y37.1 y37.2) else (fX rcf p1 p2 x4 x5)
noncomputable def fY(rcf:ae→am→Option (Int×Int))(p1:ae)(p2:am)(y1:(hO×Bool))(b2 b3:Bool):Option (Int×Int) :=
  if y1.2=true then (if b2=true then (if b3=true then (if ¬ (p1.s.length:Int)=((y1.1).sizes) then ((au true 4 p2).bind fun y38=>aP rcf p1 p2 y38.1 y38.2) else (if p1.op>2 then (if ¬ p1.n=0 then ((au true 4 p2).bind fun y39=>aP rcf p1 p2 y39.1 y39.2) else (if p1.op=2 then (if ¬ p1.op=3 then ((au (!(p1.name == ([]:Ω))) 4 p2).bind fun y40=>aP rcf p1 p2 y40.1 y40.2) else ((au false 4 p2).bind fun y41=>aP rcf p1 p2 y41.1 y41.2)) else (if ¬ p1.op=3 then ((au (!(p1.name == ([]:Ω))) 4 p2).bind fun y42=>aP rcf p1 p2 y42.1 y42.2) else ((au false 4 p2).bind fun y43=>aP rcf p1 p2 y43.1 y43.2)))) else (if p1.op=2 then (if ¬ p1.n=0 then (if ¬ p1.n=1 then ((au true 4 p2).bind fun y44=>aP rcf p1 p2 y44.1 y44.2) else (if ¬ p1.op=3 then ((au (!(p1.name == ([]:Ω))) 4 p2).bind fun y45=>aP rcf p1 p2 y45.1 y45.2) else ((au false 4 p2).bind fun y46=>aP rcf p1 p2 y46.1 y46.2))) else (if ¬ p1.op=3 then ((au (!(p1.name == ([]:Ω))) 4 p2).bind fun y47=>aP rcf p1 p2 y47.1 y47.2) else ((au false 4 p2).bind fun y48=>aP rcf p1 p2 y48.1 y48.2))) else (if ¬ p1.op=3 then ((au (!(p1.name == ([]:Ω))) 4 p2).bind fun y49=>aP rcf p1 p2 y49.1 y49.2) else ((au false 4 p2).bind fun y50=>aP rcf p1 p2 y50.1 y50.2))))) else ((au true 4 p2).bind fun y51=>aP rcf p1 p2 y51.1 y51.2)) else ((au true 4 p2).bind fun y52=>aP rcf p1 p2 y52.1 y52.2)) else ((au true 4 p2).bind fun y53=>aP rcf p1 p2 y53.1 y53.2)
noncomputable def ez(rcf:ae→am→Option (Int×Int))(p1:ae)(p2:am)(y1:(hO×Bool))(b2:Bool):Option (Int×Int) :=
  if p1.k≥((y1.1).from_) then (fY rcf p1 p2 y1 b2 (decide (p1.k≤((y1.1).to)))) else (fY rcf p1 p2 y1 b2 false)
noncomputable def iG(rcf:ae→am→Option (Int×Int))(p1:ae)(p2:am):Option (Int×Int) :=
  if ¬ p2.f.code=0 then (some (p2.f.code,p2.f.at_)) else ((o9 p1.op).bind fun y1=>if (p1.l.length:Int)=((y1.1).parts) then (ez rcf p1 p2 y1 true) else (if ((y1.1).parts)<0 then (if (p1.l.length:Int)=1 then (ez rcf p1 p2 y1 true) else (ez rcf p1 p2 y1 ((p1.l.length:Int) == 2))) else (ez rcf p1 p2 y1 false)))
noncomputable def bG:Nat→ae→am→Option (Int×Int)
  |0=>fun _ _=>none
  |n+1=>iG (bG n)
noncomputable def mC(fuel:Nat)(p1:ae)(p2:am):Option (Int×Int):=bG fuel p1 p2
end Pam
namespace Pam
open Go
noncomputable def eF(fuel:Nat)(p1:TEq)(p2:am)(x15 x16 x17:Int):Option ((Int×Int×Int) ⊕ (Int×Int)) :=
  if x17<(p1.e.length:Int) then (if x15=0 then (if (0≤x17∧x17<(p1.e.length:Int)) then ((qW fuel (p1.e.getD x17.toNat default) 30).bind fun y18=>(au (decide (y18<0)) 7 (am.mk (aq.mk x15 x16) p2.at_)).bind fun y19=>(mC fuel (p1.e.getD x17.toNat default) (am.mk (aq.mk y19.1 y19.2) p2.at_)).bind fun y20=>some (.inl (y20.1,y20.2,(IntKind.wrap .i64 (x17+1))))) else none) else (some (.inr (x15,x16)))) else (some (.inr (x15,x16)))
noncomputable def fQ(fuel:Nat)(p1:TEq)(p2:am)(x7 x8:Int):Option (Int×Int) :=
  (dh (fun (x15,x16,x17)=>eF fuel p1 p2 x15 x16 x17) (x7,x8,0)).bind (fun z21=>some z21)
noncomputable def eG(p1:TEq)(p2:am)(x28 x29 x30:Int):Option ((Int×Int×Int) ⊕ (Int×Int)) :=
  if x30<(p1.s.length:Int) then (if x28=0 then (if (0≤x30∧x30<(p1.s.length:Int)) then ((gS (p1.s.getD x30.toNat default) (am.mk (aq.mk x28 x29) p2.at_)).bind fun y31=>some (.inl (y31.1,y31.2,(IntKind.wrap .i64 (x30+1))))) else none) else (some (.inr (x28,x29)))) else (some (.inr (x28,x29)))
noncomputable def fR(fuel:Nat)(p1:TEq)(p2:am)(x5 x6:Int):Option (Int×Int) :=
  (dh (fun (x28,x29,x30)=>eG p1 p2 x28 x29 x30) (x5,x6,0)).bind (fun (z32,z33)=>fQ fuel p1 p2 z32 z33)
noncomputable def cU(fuel:Nat)(p1:TEq)(p2:am)(x3 x4:Int):Option (Int×Int) :=
  if p1.node=([]:Ω) then (fR fuel p1 p2 x3 x4) else (if x3=0 then ((cK p1.node (am.mk (aq.mk x3 x4) p2.at_)).bind fun y34=>fR fuel p1 p2 y34.1 y34.2) else (fR fuel p1 p2 x3 x4))
noncomputable def lZ(p1:TEq)(p2:am)(x42 x43 x44:Int):Option ((Int×Int×Int) ⊕ (Int×Int)) :=
  if x44<(p1.names.length:Int) then (if x42=0 then (if (0≤x44∧x44<(p1.names.length:Int)) then ((cK (p1.names.getD x44.toNat default) (am.mk (aq.mk x42 x43) p2.at_)).bind fun y45=>some (.inl (y45.1,y45.2,(IntKind.wrap .i64 (x44+1))))) else none) else (some (.inr (x42,x43)))) else (some (.inr (x42,x43)))
noncomputable def ma(p1:TEq)(p2:am)(x55 x56 x57:Int):Option ((Int×Int×Int) ⊕ (Int×Int)) :=
  if x57<(p1.names.length:Int) then (if x55=0 then (if (0≤x57∧x57<(p1.names.length:Int)) then ((cK (p1.names.getD x57.toNat default) (am.mk (aq.mk x55 x56) p2.at_)).bind fun y58=>some (.inl (y58.1,y58.2,(IntKind.wrap .i64 (x57+1))))) else none) else (some (.inr (x55,x56)))) else (some (.inr (x55,x56)))
noncomputable def mc(p1:TEq)(p2:am)(x68 x69 x70:Int):Option ((Int×Int×Int) ⊕ (Int×Int)) :=
  if x70<(p1.names.length:Int) then (if x68=0 then (if (0≤x70∧x70<(p1.names.length:Int)) then ((cK (p1.names.getD x70.toNat default) (am.mk (aq.mk x68 x69) p2.at_)).bind fun y71=>some (.inl (y71.1,y71.2,(IntKind.wrap .i64 (x70+1))))) else none) else (some (.inr (x68,x69)))) else (some (.inr (x68,x69)))
noncomputable def d7(fuel:Nat)(p1:TEq)(p2:am)(x1 x2:Int):Option (Int×Int) :=
  if (p1.names.length:Int)>30 then ((au true 7 (am.mk (aq.mk x1 x2) p2.at_)).bind fun y35=>(dh (fun (x42,x43,x44)=>lZ p1 p2 x42 x43 x44) (y35.1,y35.2,0)).bind (fun (z46,z47)=>cU fuel p1 p2 z46 z47)) else (if (p1.e.length:Int)>30 then ((au true 7 (am.mk (aq.mk x1 x2) p2.at_)).bind fun y48=>(dh (fun (x55,x56,x57)=>ma p1 p2 x55 x56 x57) (y48.1,y48.2,0)).bind (fun (z59,z60)=>cU fuel p1 p2 z59 z60)) else ((au (decide ((p1.s.length:Int)>3)) 7 (am.mk (aq.mk x1 x2) p2.at_)).bind fun y61=>(dh (fun (x68,x69,x70)=>mc p1 p2 x68 x69 x70) (y61.1,y61.2,0)).bind (fun (z72,z73)=>cU fuel p1 p2 z72 z73)))
noncomputable def kt(fuel:Nat)(p1:TEq)(p2:am):Option (Int×Int) :=
  if (p1.names.length:Int)=0 then ((au true 4 p2).bind fun y74=>d7 fuel p1 p2 y74.1 y74.2) else (if p1.node=([]:Ω) then (if ¬ (p1.names.length:Int)=1 then ((au true 4 p2).bind fun y75=>d7 fuel p1 p2 y75.1 y75.2) else (if ¬ (p1.e.length:Int)=1 then ((au true 4 p2).bind fun y76=>d7 fuel p1 p2 y76.1 y76.2) else ((au (decide ((p1.s.length:Int)>0)) 4 p2).bind fun y77=>d7 fuel p1 p2 y77.1 y77.2))) else ((au false 4 p2).bind fun y78=>d7 fuel p1 p2 y78.1 y78.2))
end Pam
namespace Pam
open Go
noncomputable def fa(fuel:Nat)(p1:aE)(p2 x16 x17 x18 x19:Int):Option ((Int×Int×Int×Int) ⊕ (Int×Int×Int)) :=
  if x19<(p1.eqs.length:Int) then (if x16=0 then (if (0≤x19∧x19<(p1.eqs.length:Int)) then ((kt fuel (p1.eqs.getD x19.toNat default) (am.mk (aq.mk x16 x17) (IntKind.wrap .i64 (p2+x19)))).bind fun y20=>some (.inl (y20.1,y20.2,(IntKind.wrap .i64 (p2+x19)),(IntKind.wrap .i64 (x19+1))))) else none) else (some (.inr (x16,x17,x18)))) else (some (.inr (x16,x17,x18)))
noncomputable def dx(fuel:Nat)(p1:aE)(p2:Int)(p3:am)(x2 x3:Int):Option (Int×Int×Int) :=
  (au ((p1.out_.length:Int) == 0) 4 (am.mk (aq.mk x2 x3) p3.at_)).bind fun y4=>(gI p1.in_ (am.mk (aq.mk y4.1 y4.2) p3.at_)).bind fun y5=>(gI p1.out_ (am.mk (aq.mk y5.1 y5.2) p3.at_)).bind fun y6=>(gI p1.local_ (am.mk (aq.mk y6.1 y6.2) p3.at_)).bind fun y7=>(dh (fun (x16,x17,x18,x19)=>fa fuel p1 p2 x16 x17 x18 x19) (y7.1,y7.2,p3.at_,0)).bind (fun z21=>some z21)
noncomputable def lm(p1:aE)(p3:am)(x29 x30 x31:Int):Option ((Int×Int×Int) ⊕ (Int×Int)) :=
  if x31<(p1.sizes.length:Int) then (if x29=0 then (if (0≤x31∧x31<(p1.sizes.length:Int)) then ((cK (p1.sizes.getD x31.toNat default) (am.mk (aq.mk x29 x30) p3.at_)).bind fun y32=>some (.inl (y32.1,y32.2,(IntKind.wrap .i64 (x31+1))))) else none) else (some (.inr (x29,x30)))) else (some (.inr (x29,x30)))
noncomputable def ln(p1:aE)(p3:am)(x42 x43 x44:Int):Option ((Int×Int×Int) ⊕ (Int×Int)) :=
  if x44<(p1.sizes.length:Int) then (if x42=0 then (if (0≤x44∧x44<(p1.sizes.length:Int)) then ((cK (p1.sizes.getD x44.toNat default) (am.mk (aq.mk x42 x43) p3.at_)).bind fun y45=>some (.inl (y45.1,y45.2,(IntKind.wrap .i64 (x44+1))))) else none) else (some (.inr (x42,x43)))) else (some (.inr (x42,x43)))
noncomputable def jn(fuel:Nat)(p1:aE)(p2:Int)(p3:am):Option (Int×Int×Int) :=
  (cK p1.name p3).bind fun y1=>if (p1.sizes.length:Int)>3 then ((au true 7 (am.mk (aq.mk y1.1 y1.2) p3.at_)).bind fun y22=>(dh (fun (x29,x30,x31)=>lm p1 p3 x29 x30 x31) (y22.1,y22.2,0)).bind (fun (z33,z34)=>dx fuel p1 p2 p3 z33 z34)) else ((au (decide ((p1.eqs.length:Int)>60)) 7 (am.mk (aq.mk y1.1 y1.2) p3.at_)).bind fun y35=>(dh (fun (x42,x43,x44)=>ln p1 p3 x42 x43 x44) (y35.1,y35.2,0)).bind (fun (z46,z47)=>dx fuel p1 p2 p3 z46 z47))
end Pam
namespace Pam
open Go
noncomputable def jF(x3 x4 x5:Int):Option aq :=
  some (aq.mk x3 x4)
noncomputable def fc(fuel:Nat)(p1:az)(x16 x17 x18 x19 x20:Int):Option ((Int×Int×Int×Int×Int) ⊕ (Int×Int×Int)) :=
  if x20<(p1.nodes.length:Int) then (if x16=0 then (if (0≤x20∧x20<(p1.nodes.length:Int)) then ((jn fuel (p1.nodes.getD x20.toNat default) x19 (am.mk (aq.mk x16 x17) (IntKind.wrap .i64 ((-2) - x20)))).bind fun y21=>some (.inl (y21.1,y21.2.1,y21.2.2,(IntKind.wrap .i64 (x19+(((p1.nodes.getD x20.toNat default).eqs).length:Int))),(IntKind.wrap .i64 (x20+1))))) else none) else (some (.inr (x16,x17,x18)))) else (some (.inr (x16,x17,x18)))
noncomputable def m0(fuel:Nat)(p1:az):Option aq :=
  (au ((p1.nodes.length:Int) == 0) 9 (am.mk (aq.mk 0 0) (-1))).bind fun y1=>(au (decide ((p1.nodes.length:Int)>10)) 7 (am.mk (aq.mk y1.1 y1.2) (-1))).bind fun y2=>(dh (fun (x16,x17,x18,x19,x20)=>fc fuel p1 x16 x17 x18 x19 x20) (y2.1,y2.2,(-1),0,0)).bind (fun (z22,z23,z24)=>jF z22 z23 z24)
end Pam
namespace Pam
open Go
noncomputable def lO(fuel:Nat)(p1:az):Option aq :=
  (m0 fuel p1).bind fun y1=>if ((y1).code)=0 then ((lN fuel p1).bind fun y2=>if (y2.length:Int)>12000 then (some (aq.mk 7 (-1))) else (some (y1))) else (some (y1))
end Pam
namespace Pam
open Go
noncomputable def ij(fuel:Nat)(p1:az):Option ((Ω)×aq) :=
  (lO fuel p1).bind fun y1=>if ¬ ((y1).code)=0 then (some (([]:Ω),(y1))) else ((lN fuel p1).bind fun y2=>some (y2,(aq.mk 0 0)))
end Pam
namespace Pam
open Go
noncomputable def jG(fuel:Nat):Option Bool :=
  (fE fuel ([110,111,100,101,32,97,40,41,32,45,62,32,40,121,58,32,105,110,116,94,50,41,32,123,32,121,32,61,32,102,105,108,108,40,45,40,49,32,43,32,50,41,44,32,50,41,59,32,125]:Ω)).bind fun y1=>(ij fuel (y1.1)).bind fun y2=>if ((y1.2).code)=0 then (if ((y2.2).code)=0 then (some (y2.1 == ([110,111,100,101,32,97,40,41,32,45,62,32,40,121,58,32,105,110,116,94,50,41,32,123,10,9,121,32,61,32,102,105,108,108,40,45,40,49,32,43,32,50,41,44,32,50,41,59,10,125,10]:Ω))) else (some false)) else (some false)
end Pam
namespace Pam
open Go
noncomputable def ft:Option Bool :=
  some true
noncomputable def fv(p1 p2:List Ω)(x3:Int):Option (Int ⊕ (Unit ⊕ Bool)) :=
  if x3<(p1.length:Int) then (if (0≤x3∧x3<(p1.length:Int))∧(0≤x3∧x3<(p2.length:Int)) then (if (p1.getD x3.toNat default)=(p2.getD x3.toNat default) then (some (.inl (IntKind.wrap .i64 (x3+1)))) else (some (.inr (.inr false)))) else none) else (some (.inr (.inl ())))
noncomputable def fh(p1 p2:List Ω):Option Bool :=
  if ¬ (p1.length:Int)=(p2.length:Int) then (some false) else ((dh (fun x3=>fv p1 p2 x3) 0).bind (Sum.elim (fun _=>ft) (fun z4=>some z4)))
end Pam
namespace Pam
open Go
noncomputable def eH:Option Bool :=
  some true
noncomputable def eI(p1 p2:List ag)(x3:Int):Option (Int ⊕ (Unit ⊕ Bool)) :=
  if x3<(p1.length:Int) then (if (0≤x3∧x3<(p1.length:Int))∧(0≤x3∧x3<(p2.length:Int)) then (if ((p1.getD x3.toNat default).n)=((p2.getD x3.toNat default).n)∧((p1.getD x3.toNat default).name)=((p2.getD x3.toNat default).name) then (some (.inl (IntKind.wrap .i64 (x3+1)))) else (some (.inr (.inr false)))) else none) else (some (.inr (.inl ())))
noncomputable def fj(p1 p2:List ag):Option Bool :=
  if ¬ (p1.length:Int)=(p2.length:Int) then (some false) else ((dh (fun x3=>eI p1 p2 x3) 0).bind (Sum.elim (fun _=>eH) (fun z4=>some z4)))
end Pam
namespace Pam
open Go
noncomputable def jJ(p1 p2:List ag):Option Bool :=
  (fj p1 p2).bind fun y1=>some y1
end Pam
namespace Pam
open Go
noncomputable def mr(p1 p2:gu):Option Bool :=
  if p1.elem=p2.elem then ((jJ p1.n p2.n).bind fun y1=>some y1) else (some false)
end Pam
namespace Pam
open Go
noncomputable def kX(p1 p2:aw):Option Bool :=
  if p1.name=p2.name then ((mr p1.t p2.t).bind fun y1=>some y1) else (some false)
end Pam
namespace Pam
open Go
noncomputable def bK:Option Bool :=
  some true
noncomputable def bN(p1 p2:List aw)(x3:Int):Option (Int ⊕ (Unit ⊕ Bool)) :=
  if x3<(p1.length:Int) then (if (0≤x3∧x3<(p1.length:Int)) then (if (0≤x3∧x3<(p2.length:Int)) then ((kX (aw.mk ((p1.getD x3.toNat default).name) ((p1.getD x3.toNat default).t)) (aw.mk ((p2.getD x3.toNat default).name) ((p2.getD x3.toNat default).t))).bind fun y4=>if y4=true then (some (.inl (IntKind.wrap .i64 (x3+1)))) else (some (.inr (.inr false)))) else none) else none) else (some (.inr (.inl ())))
noncomputable def bf(p1 p2:List aw):Option Bool :=
  if ¬ (p1.length:Int)=(p2.length:Int) then (some false) else ((dh (fun x3=>bN p1 p2 x3) 0).bind (Sum.elim (fun _=>bK) (fun z5=>some z5)))
end Pam
namespace Pam
open Go
noncomputable def bO:Option Bool :=
  some true
noncomputable def bP(p1 p2:List (List ag))(x3:Int):Option (Int ⊕ (Unit ⊕ Bool)) :=
  if x3<(p1.length:Int) then (if (0≤x3∧x3<(p1.length:Int)) then (if (0≤x3∧x3<(p2.length:Int)) then ((jJ (p1.getD x3.toNat default) (p2.getD x3.toNat default)).bind fun y4=>if y4=true then (some (.inl (IntKind.wrap .i64 (x3+1)))) else (some (.inr (.inr false)))) else none) else none) else (some (.inr (.inl ())))
noncomputable def bx(p1 p2:List (List ag)):Option Bool :=
  if ¬ (p1.length:Int)=(p2.length:Int) then (some false) else ((dh (fun x3=>bP p1 p2 x3) 0).bind (Sum.elim (fun _=>bO) (fun z5=>some z5)))
end Pam
namespace Pam
open Go
noncomputable def mt(rc_slices_EqualFunc_api_Expr_api_Expr_api_Expr_api_Expr:(List ae)→(List ae)→Option Bool)(p1 p2:ae):Option Bool :=
  if p1.op=p2.op then (if p1.k=p2.k then (if p1.n=p2.n then (if p1.name=p2.name then ((bx p1.s p2.s).bind fun y1=>if y1=true then ((rc_slices_EqualFunc_api_Expr_api_Expr_api_Expr_api_Expr p1.l p2.l).bind fun y2=>some y2) else (some false)) else (some false)) else (some false)) else (some false)) else (some false)
end Pam
namespace Pam
open Go
noncomputable def bQ:Option Bool :=
  some true
noncomputable def bU(rcf:(List ae)→(List ae)→Option Bool)(p1 p2:List ae)(x3:Int):Option (Int ⊕ (Unit ⊕ Bool)) :=
  if x3<(p1.length:Int) then (if (0≤x3∧x3<(p1.length:Int)) then (if (0≤x3∧x3<(p2.length:Int)) then ((mt rcf (p1.getD x3.toNat default) (p2.getD x3.toNat default)).bind fun y4=>if y4=true then (some (.inl (IntKind.wrap .i64 (x3+1)))) else (some (.inr (.inr false)))) else none) else none) else (some (.inr (.inl ())))
noncomputable def bW(rcf:(List ae)→(List ae)→Option Bool)(p1 p2:List ae):Option Bool :=
  if ¬ (p1.length:Int)=(p2.length:Int) then (some false) else ((dh (fun x3=>bU rcf p1 p2 x3) 0).bind (Sum.elim (fun _=>bQ) (fun z5=>some z5)))
noncomputable def aW:Nat→(List ae)→(List ae)→Option Bool
  |0=>fun _ _=>none
  |n+1=>bW (aW n)
noncomputable def d8(fuel:Nat)(p1 p2:List ae):Option Bool:=aW fuel p1 p2
end Pam
namespace Pam
open Go
noncomputable def mn(fuel:Nat)(p1 p2:TEq):Option Bool :=
  (fh p1.names p2.names).bind fun y1=>if y1=true then (if p1.node=p2.node then ((bx p1.s p2.s).bind fun y2=>if y2=true then ((d8 fuel p1.e p2.e).bind fun y3=>some y3) else (some false)) else (some false)) else (some false)
end Pam
namespace Pam
open Go
noncomputable def cL:Option Bool :=
  some true
noncomputable def cM(fuel:Nat)(p1 p2:List TEq)(x3:Int):Option (Int ⊕ (Unit ⊕ Bool)) :=
  if x3<(p1.length:Int) then (if (0≤x3∧x3<(p1.length:Int)) then (if (0≤x3∧x3<(p2.length:Int)) then ((mn fuel (p1.getD x3.toNat default) (p2.getD x3.toNat default)).bind fun y4=>if y4=true then (some (.inl (IntKind.wrap .i64 (x3+1)))) else (some (.inr (.inr false)))) else none) else none) else (some (.inr (.inl ())))
noncomputable def cZ(fuel:Nat)(p1 p2:List TEq):Option Bool :=
  if ¬ (p1.length:Int)=(p2.length:Int) then (some false) else ((dh (fun x3=>cM fuel p1 p2 x3) 0).bind (Sum.elim (fun _=>cL) (fun z5=>some z5)))
end Pam
namespace Pam
open Go
noncomputable def kY(fuel:Nat)(p1 p2:aE):Option Bool :=
  if p1.name=p2.name then ((fh p1.sizes p2.sizes).bind fun y1=>if y1=true then ((bf p1.in_ p2.in_).bind fun y2=>if y2=true then ((bf p1.out_ p2.out_).bind fun y3=>if y3=true then ((bf p1.local_ p2.local_).bind fun y4=>if y4=true then ((cZ fuel p1.eqs p2.eqs).bind fun y5=>some y5) else (some false)) else (some false)) else (some false)) else (some false)) else (some false)
end Pam
namespace Pam
open Go
noncomputable def bj:Option Bool :=
  some true
noncomputable def aK(fuel:Nat)(p1 p2:List aE)(x3:Int):Option (Int ⊕ (Unit ⊕ Bool)) :=
  if x3<(p1.length:Int) then (if (0≤x3∧x3<(p1.length:Int)) then (if (0≤x3∧x3<(p2.length:Int)) then ((kY fuel (p1.getD x3.toNat default) (p2.getD x3.toNat default)).bind fun y4=>if y4=true then (some (.inl (IntKind.wrap .i64 (x3+1)))) else (some (.inr (.inr false)))) else none) else none) else (some (.inr (.inl ())))
noncomputable def da(fuel:Nat)(p1 p2:List aE):Option Bool :=
  if ¬ (p1.length:Int)=(p2.length:Int) then (some false) else ((dh (fun x3=>aK fuel p1 p2 x3) 0).bind (Sum.elim (fun _=>bj) (fun z5=>some z5)))
end Pam
namespace Pam
open Go
noncomputable def mO(fuel:Nat)(p1 p2:az):Option Bool :=
  (da fuel p1.nodes p2.nodes).bind fun y1=>some y1
end Pam
namespace Pam
open Go
noncomputable def jV(p1:List Ω)(p2:Int):Option Int :=
  some (IntKind.wrap .i64 (p2 - (p1.length:Int)))
noncomputable def f8(p1:List Ω)(x3:Int):Option (Int ⊕ (Unit ⊕ Int)) :=
  if x3<(p1.length:Int) then (if (0≤x3∧x3<(p1.length:Int)) then (if ((p1.getD x3.toNat default).length:Int)>100 then (some (.inr (.inr (-1)))) else (some (.inl (IntKind.wrap .i64 (x3+1))))) else none) else (some (.inr (.inl ())))
noncomputable def kv(p1:List Ω)(p2:Int):Option Int :=
  if (p1.length:Int)>2000 then (some (-1)) else ((dh (fun x3=>f8 p1 x3) 0).bind (Sum.elim (fun _=>jV p1 p2) (fun z4=>some z4)))
end Pam
namespace Pam
open Go
noncomputable def iQ(x1:Int):Option Int :=
  some x1
noncomputable def jW(p1:List (List ag))(x6 x7:Int):Option ((Int×Int) ⊕ (Int ⊕ Int)) :=
  some (.inl ((IntKind.wrap .i64 (x6 - ((p1.getD x7.toNat default).length:Int))),(IntKind.wrap .i64 (x7+1))))
noncomputable def f9(p1:List (List ag))(x7 x10:Int):Option (Int ⊕ (Unit ⊕ Int)) :=
  if x10<((p1.getD x7.toNat default).length:Int) then (if (0≤x10∧x10<((p1.getD x7.toNat default).length:Int)) then (if ((((p1.getD x7.toNat default).getD x10.toNat default).name).length:Int)>100 then (some (.inr (.inr (-1)))) else (some (.inl (IntKind.wrap .i64 (x10+1))))) else none) else (some (.inr (.inl ())))
noncomputable def gf(p1:List (List ag))(x6 x7:Int):Option ((Int×Int) ⊕ (Int ⊕ Int)) :=
  if x7<(p1.length:Int) then (if x6≥0 then (if (0≤x7∧x7<(p1.length:Int)) then (if ((p1.getD x7.toNat default).length:Int)>2000 then (some (.inr (.inr (-1)))) else ((dh (fun x10=>f9 p1 x7 x10) 0).bind (Sum.elim (fun _=>jW p1 x6 x7) (fun z11=>some (.inr (.inr z11)))))) else none) else (some (.inr (.inl x6)))) else (some (.inr (.inl x6)))
noncomputable def jo(p1:List (List ag))(p2:Int):Option Int :=
  (dh (fun (x6,x7)=>gf p1 x6 x7) ((IntKind.wrap .i64 (p2 - (p1.length:Int))),0)).bind (Sum.elim (fun z12=>iQ z12) (fun z13=>some z13))
end Pam
namespace Pam
open Go
noncomputable def iR(x1:Int):Option Int :=
  some x1
noncomputable def gg(p1:List aw)(x6 x7:Int):Option ((Int×Int) ⊕ (Int ⊕ Int)) :=
  if x7<(p1.length:Int) then (if x6≥0 then (if (0≤x7∧x7<(p1.length:Int)) then (if (((p1.getD x7.toNat default).name).length:Int)>100 then (some (.inr (.inr (-1)))) else ((jo (lit ([((p1.getD x7.toNat default).t).n]:List (List ag))) x6).bind fun y8=>some (.inl (y8,(IntKind.wrap .i64 (x7+1)))))) else none) else (some (.inr (.inl x6)))) else (some (.inr (.inl x6)))
noncomputable def jp(p1:List aw)(p2:Int):Option Int :=
  (dh (fun (x6,x7)=>gg p1 x6 x7) ((IntKind.wrap .i64 (p2 - (p1.length:Int))),0)).bind (Sum.elim (fun z9=>iR z9) (fun z10=>some z10))
end Pam
namespace Pam
open Go
noncomputable def iS(x1:Int):Option Int :=
  some x1
noncomputable def gh(rcf:(List ae)→Int→Option Int)(p1:List ae)(x6 x7:Int):Option ((Int×Int) ⊕ (Int ⊕ Int)) :=
  if x7<(p1.length:Int) then (if x6≥0 then (if (0≤x7∧x7<(p1.length:Int)) then (if (((p1.getD x7.toNat default).name).length:Int)>100 then (some (.inr (.inr (-1)))) else ((jo ((p1.getD x7.toNat default).s) x6).bind fun y8=>if y8≥0 then ((rcf ((p1.getD x7.toNat default).l) y8).bind fun y9=>some (.inl (y9,(IntKind.wrap .i64 (x7+1))))) else (some (.inl (y8,(IntKind.wrap .i64 (x7+1))))))) else none) else (some (.inr (.inl x6)))) else (some (.inr (.inl x6)))
noncomputable def kx(rcf:(List ae)→Int→Option Int)(p1:List ae)(p2:Int):Option Int :=
  (dh (fun (x6,x7)=>gh rcf p1 x6 x7) ((IntKind.wrap .i64 (p2 - (p1.length:Int))),0)).bind (Sum.elim (fun z10=>iS z10) (fun z11=>some z11))
noncomputable def fN:Nat→(List ae)→Int→Option Int
  |0=>fun _ _=>none
  |n+1=>kx (fN n)
noncomputable def pj(fuel:Nat)(p1:List ae)(p2:Int):Option Int:=fN fuel p1 p2
end Pam
namespace Pam
open Go
noncomputable def lQ(x1:Int):Option Bool :=
  some (decide (x1<0))
noncomputable def lR(x7 x8:Int):Option ((Int×Int) ⊕ (Int ⊕ Bool)) :=
  some (.inl (x8,(IntKind.wrap .i64 (x7+1))))
noncomputable def kQ(fuel:Nat)(p1:az)(x7 x18 x20:Int):Option ((Int×Int) ⊕ (Int ⊕ Bool)) :=
  if x20≥0 then ((pj fuel ((((p1.nodes.getD x7.toNat default).eqs).getD x18.toNat default).e) x20).bind fun y21=>some (.inl (y21,(IntKind.wrap .i64 (x18+1))))) else (some (.inl (x20,(IntKind.wrap .i64 (x18+1)))))
noncomputable def i8(fuel:Nat)(p1:az)(x7 x17 x18:Int):Option ((Int×Int) ⊕ (Int ⊕ Bool)) :=
  if x18<(((p1.nodes.getD x7.toNat default).eqs).length:Int) then (if x17≥0 then (if (0≤x18∧x18<(((p1.nodes.getD x7.toNat default).eqs).length:Int)) then (if (((((p1.nodes.getD x7.toNat default).eqs).getD x18.toNat default).node).length:Int)>100 then (some (.inr (.inr true))) else ((kv ((((p1.nodes.getD x7.toNat default).eqs).getD x18.toNat default).names) x17).bind fun y19=>if y19≥0 then ((jo ((((p1.nodes.getD x7.toNat default).eqs).getD x18.toNat default).s) y19).bind fun y22=>kQ fuel p1 x7 x18 y22) else (kQ fuel p1 x7 x18 y19))) else none) else (some (.inr (.inl x17)))) else (some (.inr (.inl x17)))
noncomputable def ja(fuel:Nat)(p1:az)(x6 x7:Int):Option ((Int×Int) ⊕ (Int ⊕ Bool)) :=
  if x7<(p1.nodes.length:Int) then (if x6≥0 then (if (0≤x7∧x7<(p1.nodes.length:Int)) then (if (((p1.nodes.getD x7.toNat default).name).length:Int)>100 then (some (.inr (.inr true))) else (if (((p1.nodes.getD x7.toNat default).eqs).length:Int)>1000 then (some (.inr (.inr true))) else ((kv ((p1.nodes.getD x7.toNat default).sizes) x6).bind fun y9=>(jp ((p1.nodes.getD x7.toNat default).in_) y9).bind fun y10=>(jp ((p1.nodes.getD x7.toNat default).out_) y10).bind fun y11=>(jp ((p1.nodes.getD x7.toNat default).local_) y11).bind fun y12=>(dh (fun (x17,x18)=>i8 fuel p1 x7 x17 x18) (y12,0)).bind (Sum.elim (fun z23=>lR x7 z23) (fun z24=>some (.inr (.inr z24))))))) else none) else (some (.inr (.inl x6)))) else (some (.inr (.inl x6)))
noncomputable def nK(fuel:Nat)(p1:az):Option Bool :=
  if (p1.nodes.length:Int)>100 then (some true) else ((dh (fun (x6,x7)=>ja fuel p1 x6 x7) (8000,0)).bind (Sum.elim (fun z25=>lQ z25) (fun z26=>some z26)))
end Pam
