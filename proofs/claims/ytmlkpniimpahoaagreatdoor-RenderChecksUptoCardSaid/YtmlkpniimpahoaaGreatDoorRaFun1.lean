/- what render_walker_fail computes, read off the program by a program of ours -/
import Derived.Test.YtmlkpniimpahoaaGreatDoorRaData1
import Derived.Test.YtmlkpniimpahoaaGreatDoorRBase3
import Derived.Lib.Join
set_option linter.all false
namespace Pam
open Go
noncomputable def aw(p1:Bool)(p2:Int)(p3:ao):Option (Int×Int) :=
  if p1=true then (if p3.f.code=0 then (some (p2,p3.at_)) else (some (p3.f.code,p3.f.at_))) else (some (p3.f.code,p3.f.at_))
end Pam
namespace Pam
open Go
noncomputable def jL(p1:Int):Option Bool :=
  if p1≥97 then (some (decide (p1≤122))) else (some false)
end Pam
namespace Pam
open Go
noncomputable def kQ(p1:Int):Option Bool :=
  if p1≥48 then (some (decide (p1≤57))) else (some false)
end Pam
namespace Pam
open Go
noncomputable def aT(b1:Bool):Option Bool :=
  if b1=true then (some true) else (some false)
noncomputable def m4(p1:Ω):Option Bool :=
  if p1=([97,100,100]:Ω) then (aT (p1 == ([97,100,100]:Ω))) else (if p1=([97,110,100]:Ω) then (aT (p1 == ([97,110,100]:Ω))) else (if p1=([98,111,111,108]:Ω) then (aT (p1 == ([98,111,111,108]:Ω))) else (if p1=([99,97,108,108]:Ω) then (aT (p1 == ([99,97,108,108]:Ω))) else (if p1=([99,97,116]:Ω) then (aT (p1 == ([99,97,116]:Ω))) else (if p1=([100,105,118]:Ω) then (aT (p1 == ([100,105,118]:Ω))) else (if p1=([101,108,115,101]:Ω) then (aT (p1 == ([101,108,115,101]:Ω))) else (if p1=([101,113]:Ω) then (aT (p1 == ([101,113]:Ω))) else (if p1=([102,97,108,115,101]:Ω) then (aT (p1 == ([102,97,108,115,101]:Ω))) else (if p1=([102,105,108,108]:Ω) then (aT (p1 == ([102,105,108,108]:Ω))) else (if p1=([102,111,108,100]:Ω) then (aT (p1 == ([102,111,108,100]:Ω))) else (if p1=([105,102]:Ω) then (aT (p1 == ([105,102]:Ω))) else (if p1=([105,110,116]:Ω) then (aT (p1 == ([105,110,116]:Ω))) else (if p1=([108,101,115,115]:Ω) then (aT (p1 == ([108,101,115,115]:Ω))) else (if p1=([109,97,112]:Ω) then (aT (p1 == ([109,97,112]:Ω))) else (if p1=([109,97,120]:Ω) then (aT (p1 == ([109,97,120]:Ω))) else (if p1=([109,105,110]:Ω) then (aT (p1 == ([109,105,110]:Ω))) else (if p1=([109,111,100]:Ω) then (aT (p1 == ([109,111,100]:Ω))) else (if p1=([109,117,108]:Ω) then (aT (p1 == ([109,117,108]:Ω))) else (if p1=([110,101,103]:Ω) then (aT (p1 == ([110,101,103]:Ω))) else (if p1=([110,111,100,101]:Ω) then (aT (p1 == ([110,111,100,101]:Ω))) else (if p1=([110,111,116]:Ω) then (aT (p1 == ([110,111,116]:Ω))) else (if p1=([111,114]:Ω) then (aT (p1 == ([111,114]:Ω))) else (if p1=([112,114,101]:Ω) then (aT (p1 == ([112,114,101]:Ω))) else (if p1=([115,99,97,110]:Ω) then (aT (p1 == ([115,99,97,110]:Ω))) else (if p1=([115,108,105,99,101]:Ω) then (aT (p1 == ([115,108,105,99,101]:Ω))) else (if p1=([115,117,98]:Ω) then (aT (p1 == ([115,117,98]:Ω))) else (if p1=([116,104,101,110]:Ω) then (aT (p1 == ([116,104,101,110]:Ω))) else (if p1=([116,114,117,101]:Ω) then (aT (p1 == ([116,114,117,101]:Ω))) else (if p1=([118,97,114]:Ω) then (aT (p1 == ([118,97,114]:Ω))) else (if p1=([119,105,116,104]:Ω) then (aT (p1 == ([119,105,116,104]:Ω))) else (aT (p1 == ([120,111,114]:Ω)))))))))))))))))))))))))))))))))
end Pam
namespace Pam
open Go
noncomputable def lz:Option Bool :=
  some true
noncomputable def iX(p1:Ω)(x5:Int):Option (Int ⊕ (Unit ⊕ Bool)) :=
  if x5<(p1.length:Int) then (if (0≤x5∧x5<(p1.length:Int)) then ((jL ((p1.getD x5.toNat 0).toNat:Int)).bind fun y6=>if y6=true then (some (.inl (IntKind.wrap .i64 (x5+1)))) else ((kQ ((p1.getD x5.toNat 0).toNat:Int)).bind fun y7=>if y7=true then (some (.inl (IntKind.wrap .i64 (x5+1)))) else (some (.inr (.inr false))))) else none) else (some (.inr (.inl ())))
noncomputable def kW(p1:Ω):Option Bool :=
  if p1=([]:Ω) then (some false) else (if (p1.length:Int)>12 then (some false) else (if (0≤0∧0<(p1.length:Int)) then ((jL ((p1.getD 0 0).toNat:Int)).bind fun y1=>if y1=true then ((m4 p1).bind fun y2=>if y2=true then (some false) else ((bD (fun x5=>iX p1 x5) 0).bind (Sum.elim (fun _=>lz) (fun z8=>some z8)))) else (some false)) else none))
end Pam
namespace Pam
open Go
noncomputable def br(p1:Ω)(p2:ao):Option (Int×Int) :=
  (kW p1).bind fun y1=>(aw (!y1) 3 p2).bind fun y2=>some (y2.1,y2.2)
end Pam
namespace Pam
open Go
noncomputable def dI(p1:List ah)(p2:ao)(x11 x12 x13:Int):Option ((Int×Int×Int) ⊕ (Int×Int)) :=
  if ((p1.getD x11.toNat default).name)=([]:Ω) then (some (.inl (x12,x13,(IntKind.wrap .i64 (x11+1))))) else ((br ((p1.getD x11.toNat default).name) (ao.mk (ap.mk x12 x13) p2.at_)).bind fun y14=>some (.inl (y14.1,y14.2,(IntKind.wrap .i64 (x11+1)))))
noncomputable def cF(p1:List ah)(p2:ao)(x9 x10 x11:Int):Option ((Int×Int×Int) ⊕ (Int×Int)) :=
  if x11<(p1.length:Int) then (if x9=0 then (if (0≤x11∧x11<(p1.length:Int)) then (if ((p1.getD x11.toNat default).n)≤(-1000000000000000000) then ((aw true 2 (ao.mk (ap.mk x9 x10) p2.at_)).bind fun y15=>dI p1 p2 x11 y15.1 y15.2) else ((aw (decide (((p1.getD x11.toNat default).n)≥1000000000000000000)) 2 (ao.mk (ap.mk x9 x10) p2.at_)).bind fun y16=>dI p1 p2 x11 y16.1 y16.2)) else none) else (some (.inr (x9,x10)))) else (some (.inr (x9,x10)))
noncomputable def fL(p1:List ah)(p2:ao):Option (Int×Int) :=
  (aw ((p1.length:Int) == 0) 4 p2).bind fun y1=>(aw (decide ((p1.length:Int)>30)) 7 (ao.mk (ap.mk y1.1 y1.2) p2.at_)).bind fun y2=>(bD (fun (x9,x10,x11)=>cF p1 p2 x9 x10 x11) (y2.1,y2.2,0)).bind (fun z17=>some z17)
end Pam
namespace Pam
open Go
noncomputable def eW(p1:gK)(p2:ao)(x1 x2:Int):Option (Int×Int) :=
  if (p1.n.length:Int)>0 then ((fL p1.n (ao.mk (ap.mk x1 x2) p2.at_)).bind fun y3=>some (y3.1,y3.2)) else (some (x1,x2))
noncomputable def jM(p1:gK)(p2:ao):Option (Int×Int) :=
  if ¬ p1.elem=105 then ((aw (p1.elem != 98) 10 p2).bind fun y4=>eW p1 p2 y4.1 y4.2) else ((aw false 10 p2).bind fun y5=>eW p1 p2 y5.1 y5.2)
end Pam
namespace Pam
open Go
noncomputable def cx(p1:List ax)(p2:ao)(x8 x9 x10:Int):Option ((Int×Int×Int) ⊕ (Int×Int)) :=
  if x10<(p1.length:Int) then (if x8=0 then (if (0≤x10∧x10<(p1.length:Int)) then ((br ((p1.getD x10.toNat default).name) (ao.mk (ap.mk x8 x9) p2.at_)).bind fun y11=>(jM ((p1.getD x10.toNat default).t) (ao.mk (ap.mk y11.1 y11.2) p2.at_)).bind fun y12=>some (.inl (y12.1,y12.2,(IntKind.wrap .i64 (x10+1))))) else none) else (some (.inr (x8,x9)))) else (some (.inr (x8,x9)))
noncomputable def fg(p1:List ax)(p2:ao):Option (Int×Int) :=
  (aw (decide ((p1.length:Int)>30)) 7 p2).bind fun y1=>(bD (fun (x8,x9,x10)=>cx p1 p2 x8 x9 x10) (y1.1,y1.2,0)).bind (fun z13=>some z13)
end Pam
namespace Pam
open Go
noncomputable def jv(x1:Int):Option Int :=
  some x1
noncomputable def jx(rcf:ae→Int→Option Int)(p1:ae)(x6 x7:Int):Option ((Int×Int) ⊕ Int) :=
  if x7<(p1.l.length:Int) then (if x6≥0 then (if (0≤x7∧x7<(p1.l.length:Int)) then ((rcf (p1.l.getD x7.toNat default) x6).bind fun y8=>some (.inl (y8,(IntKind.wrap .i64 (x7+1))))) else none) else (some (.inr x6))) else (some (.inr x6))
noncomputable def lV(rcf:ae→Int→Option Int)(p1:ae)(p2:Int):Option Int :=
  (bD (fun (x6,x7)=>jx rcf p1 x6 x7) ((IntKind.wrap .i64 (p2 - 1)),0)).bind (fun z9=>jv z9)
noncomputable def ib:Nat→ae→Int→Option Int
  |0=>fun _ _=>none
  |n+1=>lV (ib n)
noncomputable def rz(fuel:Nat)(p1:ae)(p2:Int):Option Int:=ib fuel p1 p2
end Pam
namespace Pam
open Go
noncomputable def lA(b4:Bool):Option (fJ×Bool) :=
  if b4=true then (some ((fJ.mk 2 0 0 0),true)) else (some ((fJ.mk 0 0 0 0),false))
noncomputable def lB(p1:Int)(b3:Bool):Option (fJ×Bool) :=
  if b3=true then (some ((fJ.mk 2 0 1 14),true)) else (if p1=10 then (some ((fJ.mk 1 1 0 0),true)) else (if p1=13 then (some ((fJ.mk 1 2 0 0),true)) else (if p1=14 then (lA (p1 == 14)) else (lA (p1 == 15)))))
noncomputable def jZ(p1:Int)(b2:Bool):Option (fJ×Bool) :=
  if b2=true then (some ((fJ.mk 3 0 0 0),true)) else (if p1=7 then (some ((fJ.mk (-1) 0 1 14),true)) else (if p1=8 then (lB p1 (p1 == 8)) else (lB p1 (p1 == 9))))
noncomputable def j9(p1:Int)(b1:Bool):Option (fJ×Bool) :=
  if b1=true then (some ((fJ.mk 0 0 0 0),true)) else (if p1=4 then (some ((fJ.mk 1 0 13 14),true)) else (if p1=5 then (some ((fJ.mk 2 0 1 12),true)) else (if p1=6 then (jZ p1 (p1 == 6)) else (if p1=11 then (jZ p1 (p1 == 11)) else (jZ p1 (p1 == 12))))))
noncomputable def pE(p1:Int):Option (fJ×Bool) :=
  if p1=1 then (j9 p1 (p1 == 1)) else (if p1=2 then (j9 p1 (p1 == 2)) else (j9 p1 (p1 == 3)))
end Pam
namespace Pam
open Go
noncomputable def dJ(rcf:ae→ao→Option (Int×Int))(p1:ae)(p2:ao)(x18 x19 x20:Int):Option ((Int×Int×Int) ⊕ (Int×Int)) :=
  if x20<(p1.l.length:Int) then (if (0≤x20∧x20<(p1.l.length:Int)) then ((rcf (p1.l.getD x20.toNat default) (ao.mk (ap.mk x18 x19) p2.at_)).bind fun y21=>some (.inl (y21.1,y21.2,(IntKind.wrap .i64 (x20+1))))) else none) else (some (.inr (x18,x19)))
noncomputable def eF(rcf:ae→ao→Option (Int×Int))(p1:ae)(p2:ao)(x10 x11:Int):Option (Int×Int) :=
  (bD (fun (x18,x19,x20)=>dJ rcf p1 p2 x18 x19 x20) (x10,x11,0)).bind (fun z22=>some z22)
noncomputable def dK(p1:ae)(p2:ao)(x29 x30 x31:Int):Option ((Int×Int×Int) ⊕ (Int×Int)) :=
  if x31<(p1.s.length:Int) then (if (0≤x31∧x31<(p1.s.length:Int)) then ((fL (p1.s.getD x31.toNat default) (ao.mk (ap.mk x29 x30) p2.at_)).bind fun y32=>some (.inl (y32.1,y32.2,(IntKind.wrap .i64 (x31+1))))) else none) else (some (.inr (x29,x30)))
noncomputable def eG(rcf:ae→ao→Option (Int×Int))(p1:ae)(p2:ao)(x8 x9:Int):Option (Int×Int) :=
  (bD (fun (x29,x30,x31)=>dK p1 p2 x29 x30 x31) (x8,x9,0)).bind (fun (z33,z34)=>eF rcf p1 p2 z33 z34)
noncomputable def eH(rcf:ae→ao→Option (Int×Int))(p1:ae)(p2:ao)(x6 x7:Int):Option (Int×Int) :=
  if p1.n<0 then ((aw true 2 (ao.mk (ap.mk x6 x7) p2.at_)).bind fun y35=>eG rcf p1 p2 y35.1 y35.2) else ((aw (decide (p1.n≥1000000000000000000)) 2 (ao.mk (ap.mk x6 x7) p2.at_)).bind fun y36=>eG rcf p1 p2 y36.1 y36.2)
noncomputable def aP(rcf:ae→ao→Option (Int×Int))(p1:ae)(p2:ao)(x4 x5:Int):Option (Int×Int) :=
  if p1.op=3 then ((br p1.name (ao.mk (ap.mk x4 x5) p2.at_)).bind fun y37=>eH rcf p1 p2 y37.1 y37.2) else (eH rcf p1 p2 x4 x5)
noncomputable def eI(rcf:ae→ao→Option (Int×Int))(p1:ae)(p2:ao)(y1:(fJ×Bool))(b2 b3:Bool):Option (Int×Int) :=
  if y1.2=true then (if b2=true then (if b3=true then (if ¬ (p1.s.length:Int)=((y1.1).sizes) then ((aw true 4 p2).bind fun y38=>aP rcf p1 p2 y38.1 y38.2) else (if p1.op>2 then (if ¬ p1.n=0 then ((aw true 4 p2).bind fun y39=>aP rcf p1 p2 y39.1 y39.2) else (if p1.op=2 then (if ¬ p1.op=3 then ((aw (!(p1.name == ([]:Ω))) 4 p2).bind fun y40=>aP rcf p1 p2 y40.1 y40.2) else ((aw false 4 p2).bind fun y41=>aP rcf p1 p2 y41.1 y41.2)) else (if ¬ p1.op=3 then ((aw (!(p1.name == ([]:Ω))) 4 p2).bind fun y42=>aP rcf p1 p2 y42.1 y42.2) else ((aw false 4 p2).bind fun y43=>aP rcf p1 p2 y43.1 y43.2)))) else (if p1.op=2 then (if ¬ p1.n=0 then (if ¬ p1.n=1 then ((aw true 4 p2).bind fun y44=>aP rcf p1 p2 y44.1 y44.2) else (if ¬ p1.op=3 then ((aw (!(p1.name == ([]:Ω))) 4 p2).bind fun y45=>aP rcf p1 p2 y45.1 y45.2) else ((aw false 4 p2).bind fun y46=>aP rcf p1 p2 y46.1 y46.2))) else (if ¬ p1.op=3 then ((aw (!(p1.name == ([]:Ω))) 4 p2).bind fun y47=>aP rcf p1 p2 y47.1 y47.2) else ((aw false 4 p2).bind fun y48=>aP rcf p1 p2 y48.1 y48.2))) else (if ¬ p1.op=3 then ((aw (!(p1.name == ([]:Ω))) 4 p2).bind fun y49=>aP rcf p1 p2 y49.1 y49.2) else ((aw false 4 p2).bind fun y50=>aP rcf p1 p2 y50.1 y50.2))))) else ((aw true 4 p2).bind fun y51=>aP rcf p1 p2 y51.1 y51.2)) else ((aw true 4 p2).bind fun y52=>aP rcf p1 p2 y52.1 y52.2)) else ((aw true 4 p2).bind fun y53=>aP rcf p1 p2 y53.1 y53.2)
noncomputable def cV(rcf:ae→ao→Option (Int×Int))(p1:ae)(p2:ao)(y1:(fJ×Bool))(b2:Bool):Option (Int×Int) :=
  if p1.k≥((y1.1).from_) then (eI rcf p1 p2 y1 b2 (decide (p1.k≤((y1.1).to)))) else (eI rcf p1 p2 y1 b2 false)
noncomputable def ie(rcf:ae→ao→Option (Int×Int))(p1:ae)(p2:ao):Option (Int×Int) :=
  if ¬ p2.f.code=0 then (some (p2.f.code,p2.f.at_)) else ((pE p1.op).bind fun y1=>if (p1.l.length:Int)=((y1.1).parts) then (cV rcf p1 p2 y1 true) else (if ((y1.1).parts)<0 then (if (p1.l.length:Int)=1 then (cV rcf p1 p2 y1 true) else (cV rcf p1 p2 y1 ((p1.l.length:Int) == 2))) else (cV rcf p1 p2 y1 false)))
noncomputable def bh:Nat→ae→ao→Option (Int×Int)
  |0=>fun _ _=>none
  |n+1=>ie (bh n)
noncomputable def m5(fuel:Nat)(p1:ae)(p2:ao):Option (Int×Int):=bh fuel p1 p2
end Pam
namespace Pam
open Go
noncomputable def di(fuel:Nat)(p1:TEq)(p2:ao)(x15 x16 x17:Int):Option ((Int×Int×Int) ⊕ (Int×Int)) :=
  if x17<(p1.e.length:Int) then (if x15=0 then (if (0≤x17∧x17<(p1.e.length:Int)) then ((rz fuel (p1.e.getD x17.toNat default) 30).bind fun y18=>(aw (decide (y18<0)) 7 (ao.mk (ap.mk x15 x16) p2.at_)).bind fun y19=>(m5 fuel (p1.e.getD x17.toNat default) (ao.mk (ap.mk y19.1 y19.2) p2.at_)).bind fun y20=>some (.inl (y20.1,y20.2,(IntKind.wrap .i64 (x17+1))))) else none) else (some (.inr (x15,x16)))) else (some (.inr (x15,x16)))
noncomputable def ew(fuel:Nat)(p1:TEq)(p2:ao)(x7 x8:Int):Option (Int×Int) :=
  (bD (fun (x15,x16,x17)=>di fuel p1 p2 x15 x16 x17) (x7,x8,0)).bind (fun z21=>some z21)
noncomputable def dj(p1:TEq)(p2:ao)(x28 x29 x30:Int):Option ((Int×Int×Int) ⊕ (Int×Int)) :=
  if x30<(p1.s.length:Int) then (if x28=0 then (if (0≤x30∧x30<(p1.s.length:Int)) then ((fL (p1.s.getD x30.toNat default) (ao.mk (ap.mk x28 x29) p2.at_)).bind fun y31=>some (.inl (y31.1,y31.2,(IntKind.wrap .i64 (x30+1))))) else none) else (some (.inr (x28,x29)))) else (some (.inr (x28,x29)))
noncomputable def ez(fuel:Nat)(p1:TEq)(p2:ao)(x5 x6:Int):Option (Int×Int) :=
  (bD (fun (x28,x29,x30)=>dj p1 p2 x28 x29 x30) (x5,x6,0)).bind (fun (z32,z33)=>ew fuel p1 p2 z32 z33)
noncomputable def bI(fuel:Nat)(p1:TEq)(p2:ao)(x3 x4:Int):Option (Int×Int) :=
  if p1.node=([]:Ω) then (ez fuel p1 p2 x3 x4) else (if x3=0 then ((br p1.node (ao.mk (ap.mk x3 x4) p2.at_)).bind fun y34=>ez fuel p1 p2 y34.1 y34.2) else (ez fuel p1 p2 x3 x4))
noncomputable def mG(p1:TEq)(p2:ao)(x42 x43 x44:Int):Option ((Int×Int×Int) ⊕ (Int×Int)) :=
  if x44<(p1.names.length:Int) then (if x42=0 then (if (0≤x44∧x44<(p1.names.length:Int)) then ((br (p1.names.getD x44.toNat default) (ao.mk (ap.mk x42 x43) p2.at_)).bind fun y45=>some (.inl (y45.1,y45.2,(IntKind.wrap .i64 (x44+1))))) else none) else (some (.inr (x42,x43)))) else (some (.inr (x42,x43)))
noncomputable def mH(p1:TEq)(p2:ao)(x55 x56 x57:Int):Option ((Int×Int×Int) ⊕ (Int×Int)) :=
  if x57<(p1.names.length:Int) then (if x55=0 then (if (0≤x57∧x57<(p1.names.length:Int)) then ((br (p1.names.getD x57.toNat default) (ao.mk (ap.mk x55 x56) p2.at_)).bind fun y58=>some (.inl (y58.1,y58.2,(IntKind.wrap .i64 (x57+1))))) else none) else (some (.inr (x55,x56)))) else (some (.inr (x55,x56)))
noncomputable def mI(p1:TEq)(p2:ao)(x68 x69 x70:Int):Option ((Int×Int×Int) ⊕ (Int×Int)) :=
  if x70<(p1.names.length:Int) then (if x68=0 then (if (0≤x70∧x70<(p1.names.length:Int)) then ((br (p1.names.getD x70.toNat default) (ao.mk (ap.mk x68 x69) p2.at_)).bind fun y71=>some (.inl (y71.1,y71.2,(IntKind.wrap .i64 (x70+1))))) else none) else (some (.inr (x68,x69)))) else (some (.inr (x68,x69)))
noncomputable def cN(fuel:Nat)(p1:TEq)(p2:ao)(x1 x2:Int):Option (Int×Int) :=
  if (p1.names.length:Int)>30 then ((aw true 7 (ao.mk (ap.mk x1 x2) p2.at_)).bind fun y35=>(bD (fun (x42,x43,x44)=>mG p1 p2 x42 x43 x44) (y35.1,y35.2,0)).bind (fun (z46,z47)=>bI fuel p1 p2 z46 z47)) else (if (p1.e.length:Int)>30 then ((aw true 7 (ao.mk (ap.mk x1 x2) p2.at_)).bind fun y48=>(bD (fun (x55,x56,x57)=>mH p1 p2 x55 x56 x57) (y48.1,y48.2,0)).bind (fun (z59,z60)=>bI fuel p1 p2 z59 z60)) else ((aw (decide ((p1.s.length:Int)>3)) 7 (ao.mk (ap.mk x1 x2) p2.at_)).bind fun y61=>(bD (fun (x68,x69,x70)=>mI p1 p2 x68 x69 x70) (y61.1,y61.2,0)).bind (fun (z72,z73)=>bI fuel p1 p2 z72 z73)))
noncomputable def kw(fuel:Nat)(p1:TEq)(p2:ao):Option (Int×Int) :=
  if (p1.names.length:Int)=0 then ((aw true 4 p2).bind fun y74=>cN fuel p1 p2 y74.1 y74.2) else (if p1.node=([]:Ω) then (if ¬ (p1.names.length:Int)=1 then ((aw true 4 p2).bind fun y75=>cN fuel p1 p2 y75.1 y75.2) else (if ¬ (p1.e.length:Int)=1 then ((aw true 4 p2).bind fun y76=>cN fuel p1 p2 y76.1 y76.2) else ((aw (decide ((p1.s.length:Int)>0)) 4 p2).bind fun y77=>cN fuel p1 p2 y77.1 y77.2))) else ((aw false 4 p2).bind fun y78=>cN fuel p1 p2 y78.1 y78.2))
end Pam
namespace Pam
open Go
noncomputable def dL(fuel:Nat)(p1:aJ)(p2 x16 x17 x18 x19:Int):Option ((Int×Int×Int×Int) ⊕ (Int×Int×Int)) :=
  if x19<(p1.eqs.length:Int) then (if x16=0 then (if (0≤x19∧x19<(p1.eqs.length:Int)) then ((kw fuel (p1.eqs.getD x19.toNat default) (ao.mk (ap.mk x16 x17) (IntKind.wrap .i64 (p2+x19)))).bind fun y20=>some (.inl (y20.1,y20.2,(IntKind.wrap .i64 (p2+x19)),(IntKind.wrap .i64 (x19+1))))) else none) else (some (.inr (x16,x17,x18)))) else (some (.inr (x16,x17,x18)))
noncomputable def ce(fuel:Nat)(p1:aJ)(p2:Int)(p3:ao)(x2 x3:Int):Option (Int×Int×Int) :=
  (aw ((p1.out_.length:Int) == 0) 4 (ao.mk (ap.mk x2 x3) p3.at_)).bind fun y4=>(fg p1.in_ (ao.mk (ap.mk y4.1 y4.2) p3.at_)).bind fun y5=>(fg p1.out_ (ao.mk (ap.mk y5.1 y5.2) p3.at_)).bind fun y6=>(fg p1.local_ (ao.mk (ap.mk y6.1 y6.2) p3.at_)).bind fun y7=>(bD (fun (x16,x17,x18,x19)=>dL fuel p1 p2 x16 x17 x18 x19) (y7.1,y7.2,p3.at_,0)).bind (fun z21=>some z21)
noncomputable def lJ(p1:aJ)(p3:ao)(x29 x30 x31:Int):Option ((Int×Int×Int) ⊕ (Int×Int)) :=
  if x31<(p1.sizes.length:Int) then (if x29=0 then (if (0≤x31∧x31<(p1.sizes.length:Int)) then ((br (p1.sizes.getD x31.toNat default) (ao.mk (ap.mk x29 x30) p3.at_)).bind fun y32=>some (.inl (y32.1,y32.2,(IntKind.wrap .i64 (x31+1))))) else none) else (some (.inr (x29,x30)))) else (some (.inr (x29,x30)))
noncomputable def lK(p1:aJ)(p3:ao)(x42 x43 x44:Int):Option ((Int×Int×Int) ⊕ (Int×Int)) :=
  if x44<(p1.sizes.length:Int) then (if x42=0 then (if (0≤x44∧x44<(p1.sizes.length:Int)) then ((br (p1.sizes.getD x44.toNat default) (ao.mk (ap.mk x42 x43) p3.at_)).bind fun y45=>some (.inl (y45.1,y45.2,(IntKind.wrap .i64 (x44+1))))) else none) else (some (.inr (x42,x43)))) else (some (.inr (x42,x43)))
noncomputable def i8(fuel:Nat)(p1:aJ)(p2:Int)(p3:ao):Option (Int×Int×Int) :=
  (br p1.name p3).bind fun y1=>if (p1.sizes.length:Int)>3 then ((aw true 7 (ao.mk (ap.mk y1.1 y1.2) p3.at_)).bind fun y22=>(bD (fun (x29,x30,x31)=>lJ p1 p3 x29 x30 x31) (y22.1,y22.2,0)).bind (fun (z33,z34)=>ce fuel p1 p2 p3 z33 z34)) else ((aw (decide ((p1.eqs.length:Int)>60)) 7 (ao.mk (ap.mk y1.1 y1.2) p3.at_)).bind fun y35=>(bD (fun (x42,x43,x44)=>lK p1 p3 x42 x43 x44) (y35.1,y35.2,0)).bind (fun (z46,z47)=>ce fuel p1 p2 p3 z46 z47))
end Pam
namespace Pam
open Go
noncomputable def jy(x3 x4 x5:Int):Option ap :=
  some (ap.mk x3 x4)
noncomputable def dQ(fuel:Nat)(p1:aD)(x16 x17 x18 x19 x20:Int):Option ((Int×Int×Int×Int×Int) ⊕ (Int×Int×Int)) :=
  if x20<(p1.nodes.length:Int) then (if x16=0 then (if (0≤x20∧x20<(p1.nodes.length:Int)) then ((i8 fuel (p1.nodes.getD x20.toNat default) x19 (ao.mk (ap.mk x16 x17) (IntKind.wrap .i64 ((-2) - x20)))).bind fun y21=>some (.inl (y21.1,y21.2.1,y21.2.2,(IntKind.wrap .i64 (x19+(((p1.nodes.getD x20.toNat default).eqs).length:Int))),(IntKind.wrap .i64 (x20+1))))) else none) else (some (.inr (x16,x17,x18)))) else (some (.inr (x16,x17,x18)))
noncomputable def nE(fuel:Nat)(p1:aD):Option ap :=
  (aw ((p1.nodes.length:Int) == 0) 9 (ao.mk (ap.mk 0 0) (-1))).bind fun y1=>(aw (decide ((p1.nodes.length:Int)>10)) 7 (ao.mk (ap.mk y1.1 y1.2) (-1))).bind fun y2=>(bD (fun (x16,x17,x18,x19,x20)=>dQ fuel p1 x16 x17 x18 x19 x20) (y2.1,y2.2,(-1),0,0)).bind (fun (z22,z23,z24)=>jy z22 z23 z24)
end Pam
namespace Pam
open Go
open Classical in
noncomputable def gh(p1:List Ω)(p2:Ω):Option Ω :=
  if p1.length≤1048576∧(Go.Lib.join p1 p2).length≤140737488355328 then some (Go.Lib.join p1 p2) else none
end Pam
namespace Pam
open Go
open Classical in
noncomputable def nc(p1:List ah):Option Ω :=
  if p1.length≤1048576∧(∀ t∈p1,-9223372036854775808<t.n∧t.n≤9223372036854775807)∧(fd true (p1.map fun t=>(t.n,t.name))).length≤140737488355328 then some (fd true (p1.map fun t=>(t.n,t.name))) else none
end Pam
namespace Pam
open Go
noncomputable def kb(p1:gK)(s1:Ω):Option Ω :=
  if (p1.n.length:Int)>0 then ((nc p1.n).bind fun y2=>if 1+y2.length≤maxLen∧s1.length+1+y2.length≤maxLen then (some (s1++(([94]:Ω)++y2))) else none) else (some s1)
noncomputable def pF(p1:gK):Option Ω :=
  if p1.elem=98 then (kb p1 ([98,111,111,108]:Ω)) else (kb p1 ([105,110,116]:Ω))
end Pam
namespace Pam
open Go
noncomputable def lW(p1:ax):Option Ω :=
  if p1.name.length+2≤maxLen then ((pF p1.t).bind fun y1=>if p1.name.length+2+y1.length≤maxLen then (some ((p1.name++([58,32]:Ω))++y1)) else none) else none
end Pam
namespace Pam
open Go
noncomputable def eT(l3:List Ω):Option Ω :=
  (gh l3 ([44,32]:Ω)).bind fun y5=>some y5
noncomputable def dR(p1:List ax)(l18:List Ω)(x20:Int):Option (((List Ω)×Int) ⊕ (List Ω)) :=
  if x20<(p1.length:Int) then (if (0≤x20∧x20<(p1.length:Int)) then ((lW (ax.mk ((p1.getD x20.toNat default).name) ((p1.getD x20.toNat default).t))).bind fun y21=>if lQ (l18.length+1) 16 then (some (.inl ((l18++(lit ([y21]:List Ω))),(IntKind.wrap .i64 (x20+1))))) else none) else none) else (some (.inr l18))
noncomputable def fR(p1:List ax):Option Ω :=
  (bD (fun (l18,x20)=>dR p1 l18 x20) ([],0)).bind (fun z22=>eT z22)
end Pam
namespace Pam
open Go
noncomputable def eU(l3:List Ω):Option Ω :=
  (gh l3 ([44,32]:Ω)).bind fun y5=>some y5
noncomputable def dS(p1:List (List ah))(l18:List Ω)(x20:Int):Option (((List Ω)×Int) ⊕ (List Ω)) :=
  if x20<(p1.length:Int) then (if (0≤x20∧x20<(p1.length:Int)) then ((nc (p1.getD x20.toNat default)).bind fun y21=>if lQ (l18.length+1) 16 then (some (.inl ((l18++(lit ([y21]:List Ω))),(IntKind.wrap .i64 (x20+1))))) else none) else none) else (some (.inr l18))
noncomputable def fS(p1:List (List ah)):Option Ω :=
  (bD (fun (l18,x20)=>dS p1 l18 x20) ([],0)).bind (fun z22=>eU z22)
end Pam
namespace Pam
open Go
noncomputable def nf(p1:ae):Option Int :=
  if p1.op=6 then (some 0) else (if p1.op=4 then (some 6) else (if ¬ p1.op=5 then (some 7) else (if p1.k=6 then (some 7) else (if p1.k=7 then (some 7) else (if (0≤p1.k∧p1.k<(13:Int)) then (some ((lit ([0,4,4,5,5,5,0,0,3,3,2,1,1]:List Int)).getD p1.k.toNat 0)) else none)))))
end Pam
namespace Pam
open Go
open Classical in
noncomputable def fj(p1 p2:Int):Option Ω :=
  if p2=10∧-9223372036854775808≤p1∧p1≤9223372036854775807 then some (Go.Lib.itoa p1) else none
end Pam
namespace Pam
open Go
noncomputable def fZ(p1:Bool):Option Ω :=
  if p1=true then (some ([116,114,117,101]:Ω)) else (some ([102,97,108,115,101]:Ω))
end Pam
namespace Pam
open Go
noncomputable def kX(p1:Bool):Option Ω :=
  (fZ p1).bind fun y1=>some y1
end Pam
namespace Pam
open Go
noncomputable def ng(rc_render_expr:ae→Option Ω)(p1:ae)(p2:Int):Option Ω :=
  (rc_render_expr p1).bind fun y1=>(nf p1).bind fun y2=>if y2<p2 then (if 1+y1.length≤maxLen∧1+y1.length+1≤maxLen then (some ((([40]:Ω)++y1)++([41]:Ω))) else none) else (some y1)
end Pam
namespace Pam
open Go
noncomputable def oE(p1:Int):Option Ω :=
  if (0≤p1∧p1<(13:Int)) then (some ((lit ([[],[43],[45],[42],[47],[37],[],[],[60],[61,61],[97,110,100],[111,114],[120,111,114]]:List Ω)).getD p1.toNat [])) else none
end Pam
namespace Pam
open Go
noncomputable def ll(p1:Int):Option Ω :=
  if (0≤p1∧p1<(15:Int)) then (some ((lit ([[],[97,100,100],[115,117,98],[109,117,108],[100,105,118],[109,111,100],[109,105,110],[109,97,120],[108,101,115,115],[101,113],[97,110,100],[111,114],[120,111,114],[110,101,103],[110,111,116]]:List Ω)).getD p1.toNat [])) else none
end Pam
namespace Pam
open Go
noncomputable def eV(l3:List Ω):Option Ω :=
  (gh l3 ([44,32]:Ω)).bind fun y5=>some y5
noncomputable def dU(rc_render_expr:ae→Option Ω)(p1:List ae)(l18:List Ω)(x20:Int):Option (((List Ω)×Int) ⊕ (List Ω)) :=
  if x20<(p1.length:Int) then (if (0≤x20∧x20<(p1.length:Int)) then ((rc_render_expr (p1.getD x20.toNat default)).bind fun y21=>if lQ (l18.length+1) 16 then (some (.inl ((l18++(lit ([y21]:List Ω))),(IntKind.wrap .i64 (x20+1))))) else none) else none) else (some (.inr l18))
noncomputable def ig(rc_render_expr:ae→Option Ω)(p1:List ae):Option Ω :=
  (bD (fun (l18,x20)=>dU rc_render_expr p1 l18 x20) ([],0)).bind (fun z22=>eV z22)
end Pam
namespace Pam
open Go
noncomputable def gO(p1:ae)(s3:Ω):Option Ω :=
  if (0≤(IntKind.wrap .i64 (p1.op - 7))∧(IntKind.wrap .i64 (p1.op - 7))<(9:Int)) then (if ((lit ([[109,97,112],[102,111,108,100],[115,99,97,110],[102,105,108,108],[],[119,105,116,104],[115,108,105,99,101],[99,97,116],[112,114,101]]:List Ω)).getD ((IntKind.wrap .i64 (p1.op - 7)).toNat) []).length+1≤maxLen∧(((lit ([[109,97,112],[102,111,108,100],[115,99,97,110],[102,105,108,108],[],[119,105,116,104],[115,108,105,99,101],[99,97,116],[112,114,101]]:List Ω)).getD ((IntKind.wrap .i64 (p1.op - 7)).toNat) []).length)+1+s3.length≤maxLen∧((((lit ([[109,97,112],[102,111,108,100],[115,99,97,110],[102,105,108,108],[],[119,105,116,104],[115,108,105,99,101],[99,97,116],[112,114,101]]:List Ω)).getD ((IntKind.wrap .i64 (p1.op - 7)).toNat) []).length)+1)+s3.length+1≤maxLen then (some (((((lit ([[109,97,112],[102,111,108,100],[115,99,97,110],[102,105,108,108],[],[119,105,116,104],[115,108,105,99,101],[99,97,116],[112,114,101]]:List Ω)).getD ((IntKind.wrap .i64 (p1.op - 7)).toNat) [])++([40]:Ω))++s3)++([41]:Ω))) else none) else none
noncomputable def fT(p1:ae)(s2:Ω)(b5:Bool):Option Ω :=
  if b5=true then ((ll p1.k).bind fun y6=>if y6.length+2≤maxLen∧y6.length+2+s2.length≤maxLen then (gO p1 ((y6++([44,32]:Ω))++s2)) else none) else (gO p1 s2)
noncomputable def gP(p1:ae)(s2:Ω):Option Ω :=
  if p1.op=5 then ((ll p1.k).bind fun y4=>if y4.length+1≤maxLen∧y4.length+1+s2.length≤maxLen∧(y4.length+1)+s2.length+1≤maxLen then (some (((y4++([40]:Ω))++s2)++([41]:Ω))) else none) else (if p1.op=7 then (fT p1 s2 (p1.op == 7)) else (if p1.op=8 then (fT p1 s2 (p1.op == 8)) else (fT p1 s2 (p1.op == 9))))
noncomputable def mM(rc_render_expr:ae→Option Ω)(p1:ae):Option Ω :=
  (ig rc_render_expr p1.l).bind fun y1=>if (p1.s.length:Int)>0 then ((fS p1.s).bind fun y7=>if 2+y7.length≤maxLen∧y1.length+2+y7.length≤maxLen then (gP p1 (y1++(([44,32]:Ω)++y7))) else none) else (gP p1 y1)
end Pam
namespace Pam
open Go
noncomputable def ja(rcf:ae→Option Ω)(p1:ae):Option Ω :=
  (mM rcf p1).bind fun y2=>some y2
noncomputable def jb(rcf:ae→Option Ω)(p1:ae)(y1 x12:Int):Option Ω :=
  if (0≤0∧0<(p1.l.length:Int)) then ((ng rcf (p1.l.getD 0 default) x12).bind fun y13=>if y13.length+1≤maxLen then ((oE p1.k).bind fun y14=>if y13.length+1+y14.length≤maxLen∧(y13.length+1)+y14.length+1≤maxLen∧(0≤1∧1<(p1.l.length:Int)) then ((ng rcf (p1.l.getD 1 default) (IntKind.wrap .i64 (y1+1))).bind fun y15=>if ((y13.length+1)+y14.length)+1+y15.length≤maxLen then (some ((((y13++([32]:Ω))++y14)++([32]:Ω))++y15)) else none) else none) else none) else none
noncomputable def mN(rcf:ae→Option Ω)(p1:ae):Option Ω :=
  (nf p1).bind fun y1=>if p1.op=1 then ((fj p1.n 10).bind fun y3=>some y3) else (if p1.op=2 then ((kX (p1.n == 1)).bind fun y4=>some y4) else (if p1.op=3 then (some p1.name) else (if p1.op=4 then (if (0≤(IntKind.wrap .i64 (p1.k - 13))∧(IntKind.wrap .i64 (p1.k - 13))<(2:Int)) then (if (0≤0∧0<(p1.l.length:Int)) then ((ng rcf (p1.l.getD 0 default) y1).bind fun y5=>if ((lit ([[45],[110,111,116,32]]:List Ω)).getD ((IntKind.wrap .i64 (p1.k - 13)).toNat) []).length+y5.length≤maxLen then (some (((lit ([[45],[110,111,116,32]]:List Ω)).getD ((IntKind.wrap .i64 (p1.k - 13)).toNat) [])++y5)) else none) else none) else none) else (if p1.op=6 then (if (0≤0∧0<(p1.l.length:Int)) then ((rcf (p1.l.getD 0 default)).bind fun y6=>if 3+y6.length≤maxLen∧3+y6.length+6≤maxLen∧(0≤1∧1<(p1.l.length:Int)) then ((rcf (p1.l.getD 1 default)).bind fun y7=>if (3+y6.length)+6+y7.length≤maxLen∧((3+y6.length)+6)+y7.length+6≤maxLen∧(0≤2∧2<(p1.l.length:Int)) then ((rcf (p1.l.getD 2 default)).bind fun y8=>if (((3+y6.length)+6)+y7.length)+6+y8.length≤maxLen then (some (((((([105,102,32]:Ω)++y6)++([32,116,104,101,110,32]:Ω))++y7)++([32,101,108,115,101,32]:Ω))++y8)) else none) else none) else none) else none) else (if p1.op=11 then (if (0≤0∧0<(p1.l.length:Int)) then ((ng rcf (p1.l.getD 0 default) y1).bind fun y9=>if y9.length+1≤maxLen∧(0≤1∧1<(p1.l.length:Int)) then ((rcf (p1.l.getD 1 default)).bind fun y10=>if y9.length+1+y10.length≤maxLen∧(y9.length+1)+y10.length+3≤maxLen∧(0≤2∧2<(p1.l.length:Int)) then ((rcf (p1.l.getD 2 default)).bind fun y11=>if ((y9.length+1)+y10.length)+3+y11.length≤maxLen∧(((y9.length+1)+y10.length)+3)+y11.length+1≤maxLen then (some (((((y9++([91]:Ω))++y10)++([32,58,32]:Ω))++y11)++([93]:Ω))) else none) else none) else none) else none) else (if p1.op=5 then (if y1=7 then (ja rcf p1) else (if y1=3 then (jb rcf p1 y1 (IntKind.wrap .i64 (y1+1))) else (jb rcf p1 y1 y1))) else (ja rcf p1)))))))
noncomputable def dA:Nat→ae→Option Ω
  |0=>fun _=>none
  |n+1=>mN (dA n)
noncomputable def qd(fuel:Nat)(p1:ae):Option Ω:=dA fuel p1
end Pam
namespace Pam
open Go
noncomputable def ed(l3:List Ω):Option Ω :=
  (gh l3 ([44,32]:Ω)).bind fun y5=>some y5
noncomputable def dl(fuel:Nat)(p1:List ae)(l18:List Ω)(x20:Int):Option (((List Ω)×Int) ⊕ (List Ω)) :=
  if x20<(p1.length:Int) then (if (0≤x20∧x20<(p1.length:Int)) then ((qd fuel (p1.getD x20.toNat default)).bind fun y21=>if lQ (l18.length+1) 16 then (some (.inl ((l18++(lit ([y21]:List Ω))),(IntKind.wrap .i64 (x20+1))))) else none) else none) else (some (.inr l18))
noncomputable def gi(fuel:Nat)(p1:List ae):Option Ω :=
  (bD (fun (l18,x20)=>dl fuel p1 l18 x20) ([],0)).bind (fun z22=>ed z22)
end Pam
namespace Pam
open Go
noncomputable def kY(fuel:Nat)(p1:TEq)(s3:Ω):Option Ω :=
  if s3.length+1≤maxLen then ((gi fuel p1.e).bind fun y4=>if s3.length+1+y4.length≤maxLen∧(s3.length+1)+y4.length+1≤maxLen then (some (((s3++([40]:Ω))++y4)++([41]:Ω))) else none) else none
noncomputable def qG(fuel:Nat)(p1:TEq):Option Ω :=
  (gh p1.names ([44,32]:Ω)).bind fun y1=>if y1.length+3≤maxLen then (if p1.node=([]:Ω) then (if (0≤0∧0<(p1.e.length:Int)) then ((qd fuel (p1.e.getD 0 default)).bind fun y2=>if y1.length+3+y2.length≤maxLen then (some ((y1++([32,61,32]:Ω))++y2)) else none) else none) else (if 5+p1.node.length≤maxLen∧y1.length+3+5+p1.node.length≤maxLen then (if (p1.s.length:Int)>0 then ((fS p1.s).bind fun y5=>if 1+y5.length≤maxLen∧1+y5.length+1≤maxLen∧(y1.length+3)+(5+p1.node.length)+(1+y5.length)+1≤maxLen then (kY fuel p1 (((y1++([32,61,32]:Ω))++(([99,97,108,108,32]:Ω)++p1.node))++((([60]:Ω)++y5)++([62]:Ω)))) else none) else (kY fuel p1 ((y1++([32,61,32]:Ω))++(([99,97,108,108,32]:Ω)++p1.node)))) else none)) else none
end Pam
namespace Pam
open Go
noncomputable def kx(s5:Ω):Option Ω :=
  if s5.length+2≤maxLen then (some (s5++([125,10]:Ω))) else none
noncomputable def jc(fuel:Nat)(p1:aJ)(s10:Ω)(x11:Int):Option (((Ω)×Int) ⊕ Ω) :=
  if x11<(p1.eqs.length:Int) then (if (0≤x11∧x11<(p1.eqs.length:Int)) then ((qG fuel (p1.eqs.getD x11.toNat default)).bind fun y12=>if 1+y12.length≤maxLen∧1+y12.length+2≤maxLen∧s10.length+(1+y12.length)+2≤maxLen then (some (.inl ((s10++((([9]:Ω)++y12)++([59,10]:Ω))),(IntKind.wrap .i64 (x11+1))))) else none) else none) else (some (.inr s10))
noncomputable def jd(fuel:Nat)(p1:aJ)(s4:Ω):Option Ω :=
  (bD (fun (s10,x11)=>jc fuel p1 s10 x11) (s4,0)).bind (fun z13=>kx z13)
noncomputable def je(p1:aJ)(s18:Ω)(x19:Int):Option (((Ω)×Int) ⊕ Ω) :=
  if x19<(p1.local_.length:Int) then (if (0≤x19∧x19<(p1.local_.length:Int)) then ((lW (ax.mk ((p1.local_.getD x19.toNat default).name) ((p1.local_.getD x19.toNat default).t))).bind fun y20=>if 5+y20.length≤maxLen∧5+y20.length+2≤maxLen∧s18.length+(5+y20.length)+2≤maxLen then (some (.inl ((s18++((([9,118,97,114,32]:Ω)++y20)++([59,10]:Ω))),(IntKind.wrap .i64 (x19+1))))) else none) else none) else (some (.inr s18))
noncomputable def jf(fuel:Nat)(p1:aJ)(s1:Ω):Option Ω :=
  (fR p1.in_).bind fun y2=>if 1+y2.length≤maxLen∧1+y2.length+6≤maxLen then ((fR p1.out_).bind fun y3=>if (1+y2.length)+6+y3.length≤maxLen∧((1+y2.length)+6)+y3.length+4≤maxLen∧s1.length+(((1+y2.length)+6)+y3.length)+4≤maxLen then ((bD (fun (s18,x19)=>je p1 s18 x19) ((s1++((((([40]:Ω)++y2)++([41,32,45,62,32,40]:Ω))++y3)++([41,32,123,10]:Ω))),0)).bind (fun z21=>jd fuel p1 z21)) else none) else none
noncomputable def jN(fuel:Nat)(p1:aJ):Option Ω :=
  if 5+p1.name.length≤maxLen then (if (p1.sizes.length:Int)>0 then ((gh p1.sizes ([44,32]:Ω)).bind fun y22=>if 1+y22.length≤maxLen∧1+y22.length+1≤maxLen∧5+p1.name.length+(1+y22.length)+1≤maxLen then (jf fuel p1 ((([110,111,100,101,32]:Ω)++p1.name)++((([60]:Ω)++y22)++([62]:Ω)))) else none) else (jf fuel p1 (([110,111,100,101,32]:Ω)++p1.name))) else none
end Pam
namespace Pam
open Go
open Classical in
noncomputable def mo(fuel:Nat)(p1:aD):Option Ω :=
  (List.mapM (jN fuel) p1.nodes).bind fun q=>if p1.nodes.length≤1048576∧(Go.Lib.join q []).length≤140737488355328 then some (Go.Lib.join q []) else none
end Pam
namespace Pam
open Go
noncomputable def mq(fuel:Nat)(p1:aD):Option ap :=
  (nE fuel p1).bind fun y1=>if ((y1).code)=0 then ((mo fuel p1).bind fun y2=>if (y2.length:Int)>12000 then (some (ap.mk 7 (-1))) else (some (y1))) else (some (y1))
end Pam
namespace Pam
open Go
noncomputable def eg(x5:Int)(b7:Bool):Option ((Int×Bool) ⊕ Int) :=
  some (.inl ((IntKind.wrap .i64 (x5+1)),b7))
noncomputable def dv(p1:Ω)(x5:Int)(b6 b8:Bool):Option ((Int×Bool) ⊕ Int) :=
  if b8=true then (eg x5 b6) else (if ((p1.getD x5.toNat 0).toNat:Int)=35 then (eg x5 true) else (some (.inr x5)))
noncomputable def cy(p1:Ω)(x5:Int)(b6:Bool):Option ((Int×Bool) ⊕ Int) :=
  if x5<(p1.length:Int) then (if (0≤x5∧x5<(p1.length:Int)) then (if ((p1.getD x5.toNat 0).toNat:Int)=10 then (eg x5 false) else (if b6=true then (dv p1 x5 b6 b6) else (if ((p1.getD x5.toNat 0).toNat:Int)=32 then (dv p1 x5 b6 (((p1.getD x5.toNat 0).toNat:Int) == 32)) else (if ((p1.getD x5.toNat 0).toNat:Int)=9 then (dv p1 x5 b6 (((p1.getD x5.toNat 0).toNat:Int) == 9)) else (dv p1 x5 b6 (((p1.getD x5.toNat 0).toNat:Int) == 13)))))) else none) else (some (.inr x5))
noncomputable def gq(p1:Ω)(p2:Int)(p3:List ab):Option Int :=
  (bD (fun (x5,b6)=>cy p1 x5 b6) (p2,false)).bind (fun z9=>some z9)
end Pam
namespace Pam
open Go
noncomputable def eX(p1:Ω)(p2 x1:Int):Option ((Ω)×Int) :=
  if (0≤p2∧p2≤x1∧x1≤(p1.length:Int)) then (some (((p1.take x1.toNat).drop p2.toNat),x1)) else none
noncomputable def fU(x4:Int):Option (Int ⊕ Int) :=
  some (.inl (IntKind.wrap .i64 (x4+1)))
noncomputable def eY(p1:Ω)(x4:Int):Option (Int ⊕ Int) :=
  if x4<(p1.length:Int) then (if (0≤x4∧x4<(p1.length:Int)) then ((jL ((p1.getD x4.toNat 0).toNat:Int)).bind fun y5=>if y5=true then (fU x4) else ((kQ ((p1.getD x4.toNat 0).toNat:Int)).bind fun y6=>if y6=true then (fU x4) else (some (.inr x4)))) else none) else (some (.inr x4))
noncomputable def fl(p1:Ω)(p2:Int)(p3:List ab):Option ((Ω)×Int) :=
  (bD (fun x4=>eY p1 x4) p2).bind (fun z7=>eX p1 p2 z7)
end Pam
namespace Pam
open Go
noncomputable def mr(p1:Ω)(p2 p3:Int):Option Int :=
  if p2=10∧p3=64 then yR p1 else none
end Pam
namespace Pam
open Go
noncomputable def jz(p1:Ω):Option (Int×Bool) :=
  (mr p1 10 64).bind fun y1=>some (y1,true)
noncomputable def gA(p1:Ω)(x4:Int):Option (Int ⊕ (Unit ⊕ (Int×Bool))) :=
  if x4<(p1.length:Int) then (if (0≤x4∧x4<(p1.length:Int)) then ((kQ ((p1.getD x4.toNat 0).toNat:Int)).bind fun y5=>if y5=true then (some (.inl (IntKind.wrap .i64 (x4+1)))) else (some (.inr (.inr (0,false))))) else none) else (some (.inr (.inl ())))
noncomputable def it(p1:Ω):Option (Int×Bool) :=
  (bD (fun x4=>gA p1 x4) 0).bind (Sum.elim (fun _=>jz p1) (fun z6=>some z6))
noncomputable def mt(p1:Ω):Option (Int×Bool) :=
  if (p1.length:Int)>18 then (some (0,false)) else (if (p1.length:Int)>1 then (if (0≤0∧0<(p1.length:Int)) then (if ((p1.getD 0 0).toNat:Int)=48 then (some (0,false)) else (it p1)) else none) else (it p1))
end Pam
namespace Pam
open Go
noncomputable def fe(p1 p2:Ω):Option Bool :=
  if (p1.length:Int)≥(p2.length:Int) then (if (0≤(p2.length:Int)∧(p2.length:Int)≤(p1.length:Int)) then (some ((p1.take p2.length) == p2)) else none) else (some false)
end Pam
namespace Pam
open Go
noncomputable def gj(p1 p2:Ω):Option Bool :=
  (fe p1 p2).bind fun y1=>some y1
end Pam
namespace Pam
open Go
noncomputable def aK(p1:Ω)(p2:Int)(b1:Bool):Option Ω :=
  if b1=true then (if (0≤(IntKind.wrap .i32 ((p1.getD p2.toNat 0).toNat:Int))∧(IntKind.wrap .i32 ((p1.getD p2.toNat 0).toNat:Int))<128) then (some ([UInt8.ofNat ((IntKind.wrap .i32 ((p1.getD p2.toNat 0).toNat:Int)).toNat)]:Ω)) else none) else (some ([]:Ω))
noncomputable def fm(p1:Ω)(p2:Int):Option Ω :=
  if (0≤p2∧p2<(p1.length:Int)) then (if ((p1.getD p2.toNat 0).toNat:Int)=40 then (aK p1 p2 (((p1.getD p2.toNat 0).toNat:Int) == 40)) else (if ((p1.getD p2.toNat 0).toNat:Int)=41 then (aK p1 p2 (((p1.getD p2.toNat 0).toNat:Int) == 41)) else (if ((p1.getD p2.toNat 0).toNat:Int)=123 then (aK p1 p2 (((p1.getD p2.toNat 0).toNat:Int) == 123)) else (if ((p1.getD p2.toNat 0).toNat:Int)=125 then (aK p1 p2 (((p1.getD p2.toNat 0).toNat:Int) == 125)) else (if ((p1.getD p2.toNat 0).toNat:Int)=91 then (aK p1 p2 (((p1.getD p2.toNat 0).toNat:Int) == 91)) else (if ((p1.getD p2.toNat 0).toNat:Int)=93 then (aK p1 p2 (((p1.getD p2.toNat 0).toNat:Int) == 93)) else (if ((p1.getD p2.toNat 0).toNat:Int)=60 then (aK p1 p2 (((p1.getD p2.toNat 0).toNat:Int) == 60)) else (if ((p1.getD p2.toNat 0).toNat:Int)=62 then (aK p1 p2 (((p1.getD p2.toNat 0).toNat:Int) == 62)) else (if ((p1.getD p2.toNat 0).toNat:Int)=44 then (aK p1 p2 (((p1.getD p2.toNat 0).toNat:Int) == 44)) else (if ((p1.getD p2.toNat 0).toNat:Int)=59 then (aK p1 p2 (((p1.getD p2.toNat 0).toNat:Int) == 59)) else (if ((p1.getD p2.toNat 0).toNat:Int)=58 then (aK p1 p2 (((p1.getD p2.toNat 0).toNat:Int) == 58)) else (if ((p1.getD p2.toNat 0).toNat:Int)=43 then (aK p1 p2 (((p1.getD p2.toNat 0).toNat:Int) == 43)) else (if ((p1.getD p2.toNat 0).toNat:Int)=45 then (aK p1 p2 (((p1.getD p2.toNat 0).toNat:Int) == 45)) else (if ((p1.getD p2.toNat 0).toNat:Int)=42 then (aK p1 p2 (((p1.getD p2.toNat 0).toNat:Int) == 42)) else (if ((p1.getD p2.toNat 0).toNat:Int)=47 then (aK p1 p2 (((p1.getD p2.toNat 0).toNat:Int) == 47)) else (if ((p1.getD p2.toNat 0).toNat:Int)=37 then (aK p1 p2 (((p1.getD p2.toNat 0).toNat:Int) == 37)) else (if ((p1.getD p2.toNat 0).toNat:Int)=61 then (aK p1 p2 (((p1.getD p2.toNat 0).toNat:Int) == 61)) else (aK p1 p2 (((p1.getD p2.toNat 0).toNat:Int) == 94))))))))))))))))))) else none
noncomputable def cW(p1:Ω)(p2 x4:Int):Option (Int ⊕ (Unit ⊕ Ω)) :=
  if x4<(2:Int) then (if (0≤x4∧x4<(2:Int)) then (if (0≤p2∧p2≤(p1.length:Int)) then ((gj (p1.drop p2.toNat) ((lit ([([61,61]:Ω),([45,62]:Ω)]:List Ω)).getD x4.toNat default)).bind fun y5=>if y5=true then (some (.inr (.inr ((lit ([([61,61]:Ω),([45,62]:Ω)]:List Ω)).getD x4.toNat default)))) else (some (.inl (IntKind.wrap .i64 (x4+1))))) else none) else none) else (some (.inr (.inl ())))
noncomputable def gQ(p1:Ω)(p2:Int)(p3:List ab):Option Ω :=
  (bD (fun x4=>cW p1 p2 x4) 0).bind (Sum.elim (fun _=>fm p1 p2) (fun z6=>some z6))
end Pam
namespace Pam
open Go
noncomputable def bK(p2:Int)(p3:List ab)(x1 x2:Int)(s3:Ω)(x4:Int):Option (Int×Int×(List ab)) :=
  if lQ (p3.length+1) 40 then (some (0,x1,(p3++(lit ([(ab.mk x2 p2 s3 x4)]:List ab))))) else none
noncomputable def gk(p1:Ω)(p2:Int)(p3:List ab):Option (Int×Int×(List ab)) :=
  if (0≤p2∧p2<(p1.length:Int)) then ((jL ((p1.getD p2.toNat 0).toNat:Int)).bind fun y5=>if y5=true then ((fl p1 p2 p3).bind fun y6=>(m4 y6.1).bind fun y7=>if y7=true then (bK p2 p3 y6.2 1 y6.1 0) else (if (y6.1.length:Int)>12 then (some (3,y6.2,p3)) else (bK p2 p3 y6.2 2 y6.1 0))) else ((kQ ((p1.getD p2.toNat 0).toNat:Int)).bind fun y8=>if y8=true then ((fl p1 p2 p3).bind fun y9=>(mt y9.1).bind fun y10=>if y10.2=true then (bK p2 p3 y9.2 3 y9.1 y10.1) else (some (2,y9.2,p3))) else ((gQ p1 p2 p3).bind fun y11=>if y11=([]:Ω) then (some (1,p2,p3)) else (bK p2 p3 (IntKind.wrap .i64 (p2+(y11.length:Int))) 4 y11 0)))) else none
end Pam
namespace Pam
open Go
noncomputable def mO(x3:Int)(l4:List ab):Option ((List ab)×ap) :=
  some (l4,(ap.mk 0 0))
noncomputable def f9(p1:Ω)(x19:Int)(l20:List ab):Option ((Int×(List ab)) ⊕ ((Int×(List ab)) ⊕ ((List ab)×ap))) :=
  if x19<(p1.length:Int) then ((gk p1 x19 l20).bind fun y22=>if ¬ y22.1=0 then (some (.inr (.inr ([],(ap.mk y22.1 x19))))) else ((gq p1 y22.2.1 y22.2.2).bind fun y24=>some (.inl (y24,y22.2.2)))) else (some (.inr (.inl (x19,l20))))
noncomputable def n8(p1:Ω):Option ((List ab)×ap) :=
  if (p1.length:Int)>12000 then (some ([],(ap.mk 7 12000))) else ((gq p1 0 []).bind fun y6=>(bD (fun (x19,l20)=>f9 p1 x19 l20) (y6,[])).bind (Sum.elim (fun (z25,z26)=>mO z25 z26) (fun z27=>some z27)))
end Pam
namespace Pam
open Go
noncomputable def da:Option Int :=
  some (-1)
noncomputable def dY(p1:List Ω)(p2:Ω)(x3:Int):Option (Int ⊕ (Unit ⊕ Int)) :=
  if x3<(p1.length:Int) then (if (0≤x3∧x3<(p1.length:Int)) then (if p2=(p1.getD x3.toNat default) then (some (.inr (.inr x3))) else (some (.inl (IntKind.wrap .i64 (x3+1))))) else none) else (some (.inr (.inl ())))
noncomputable def cR(p1:List Ω)(p2:Ω):Option Int :=
  (bD (fun x3=>dY p1 p2 x3) 0).bind (Sum.elim (fun _=>da) (fun z4=>some z4))
end Pam
namespace Pam
open Go
noncomputable def dZ(p1:List Ω)(p2:Ω):Option Bool :=
  (cR p1 p2).bind fun y1=>some (decide (y1≥0))
end Pam
namespace Pam
open Go
noncomputable def aO(p1:List Ω)(p2:af):Option Bool :=
  if (p2.l.length:Int)>0 then (if (0≤0∧0<(p2.l.length:Int)) then (if ¬ ((p2.l.getD 0 default).kind)=2 then ((dZ p1 ((p2.l.getD 0 default).text)).bind fun y1=>some y1) else (some false)) else none) else (some false)
end Pam
namespace Pam
open Go
noncomputable def aL(p1:Int)(p2:af):Option (Int×Int) :=
  if (p2.l.length:Int)>0 then (if (0≤0∧0<(p2.l.length:Int)) then (some (p1,(p2.l.getD 0 default).at_)) else none) else (if p1=4 then (some (5,p2.end_)) else (some (p1,p2.end_)))
end Pam
namespace Pam
open Go
noncomputable def aX(p1:af):Option (ab×(List ab)) :=
  if (0≤0∧0<(p1.l.length:Int)) then (if (0≤1∧1≤(p1.l.length:Int)) then (some ((p1.l.getD 0 default),(p1.l.drop 1))) else none) else none
end Pam
namespace Pam
open Go
noncomputable def dB(p1:Int)(p2:af):Option ((ab×(List ab)) ⊕ (Int×Int)) :=
  if (p2.l.length:Int)=0 then ((aL 4 p2).bind fun y1=>some (.inr (y1.1,y1.2))) else (if (0≤0∧0<(p2.l.length:Int)) then (if ¬ ((p2.l.getD 0 default).kind)=p1 then ((aL 4 p2).bind fun y2=>some (.inr (y2.1,y2.2))) else ((aX p2).bind fun y3=>some (.inl ((y3.1),y3.2)))) else none)
end Pam
namespace Pam
open Go
noncomputable def bu(p1:af):Option (((Ω)×(List ab)) ⊕ (Int×Int)) :=
  (dB 2 p1).bind fun y1=>Sum.elim (fun y4=>some (.inl ((y4.1).text,y4.2))) (fun y5=>some (.inr (y5.1,y5.2))) y1
end Pam
namespace Pam
open Go
noncomputable def bp(p1:Ω)(p2:af):Option (Bool×(List ab)) :=
  (aO (lit ([p1]:List Ω)) p2).bind fun y1=>if y1=true then ((aX p2).bind fun y2=>some (y1,y2.2)) else (some (y1,p2.l))
end Pam
namespace Pam
open Go
noncomputable def jO(p1:Int)(p2:af)(l13:List ab)(l14:List Ω):Option (((List ab)×(List Ω)) ⊕ (((List Ω)×(List ab)) ⊕ (Int×Int))) :=
  if (l14.length:Int)=p1 then ((aL 7 (af.mk l13 p2.end_ p2.open_ p2.terms)).bind fun y16=>some (.inr (.inr (y16.1,y16.2)))) else ((bu (af.mk l13 p2.end_ p2.open_ p2.terms)).bind fun y17=>Sum.elim (fun y20=>if lQ (l14.length+1) 16 then ((bp ([44]:Ω) (af.mk y20.2 p2.end_ p2.open_ p2.terms)).bind fun y22=>if y22.1=true then (some (.inl (y22.2,(l14++(lit ([y20.1]:List Ω)))))) else (some (.inr (.inl ((l14++(lit ([y20.1]:List Ω))),y22.2))))) else none) (fun y21=>some (.inr (.inr (y21.1,y21.2)))) y17)
noncomputable def jP(p1:Int)(p2:af):Option (((List Ω)×(List ab)) ⊕ (Int×Int)) :=
  (bD (fun (l13,l14)=>jO p1 p2 l13 l14) (p2.l,[])).bind (fun z23=>some z23)
end Pam
namespace Pam
open Go
noncomputable def cX(p1:List Ω)(p2:af)(l5:List ab)(x6:Int):Option (((List ab)×Int) ⊕ ((List ab) ⊕ (Int×Int))) :=
  if x6<(p1.length:Int) then (if (0≤x6∧x6<(p1.length:Int)) then ((aO (lit ([(p1.getD x6.toNat default)]:List Ω)) (af.mk l5 p2.end_ p2.open_ p2.terms)).bind fun y7=>if y7=true then ((aX (af.mk l5 p2.end_ p2.open_ p2.terms)).bind fun y8=>some (.inl (y8.2,(IntKind.wrap .i64 (x6+1))))) else ((aL 4 (af.mk l5 p2.end_ p2.open_ p2.terms)).bind fun y9=>some (.inr (.inr (y9.1,y9.2))))) else none) else (some (.inr (.inl l5)))
noncomputable def aM(p1:List Ω)(p2:af):Option ((List ab) ⊕ (Int×Int)) :=
  (bD (fun (l5,x6)=>cX p1 p2 l5 x6) (p2.l,0)).bind (fun z10=>some z10)
end Pam
namespace Pam
open Go
noncomputable def cg(p1:Int)(p2:af):Option ((ah×(List ab)) ⊕ (Int×Int)) :=
  (dB 3 p2).bind fun y1=>Sum.elim (fun y4=>(bp ([42]:Ω) (af.mk y4.2 p2.end_ p2.open_ p2.terms)).bind fun y6=>if y6.1=true then ((bu (af.mk y6.2 p2.end_ p2.open_ p2.terms)).bind fun y7=>Sum.elim (fun y10=>some (.inl ((ah.mk (IntKind.wrap .i64 (p1 * ((y4.1).n))) y10.1),y10.2))) (fun y11=>some (.inr (y11.1,y11.2))) y7) else (some (.inl ((ah.mk (IntKind.wrap .i64 (p1 * ((y4.1).n))) []),y6.2)))) (fun y5=>some (.inr (y5.1,y5.2))) y1
noncomputable def dC(p1:Int)(p2:af):Option ((ah×(List ab)) ⊕ (Int×Int)) :=
  if (p2.l.length:Int)>0 then (if (0≤0∧0<(p2.l.length:Int)) then (if ((p2.l.getD 0 default).kind)=2 then ((bu p2).bind fun y12=>Sum.elim (fun y15=>some (.inl ((ah.mk p1 y15.1),y15.2))) (fun y16=>some (.inr (y16.1,y16.2))) y12) else (cg p1 p2)) else none) else (cg p1 p2)
end Pam
namespace Pam
open Go
noncomputable def cj(l10:List ab)(l11:List ah):Option (((List ah)×(List ab)) ⊕ (Int×Int)) :=
  some (.inl (l11,l10))
noncomputable def ck(p1:af)(l26:List ah)(l31:List ab)(x33:Int):Option (((List ab)×(List ah)) ⊕ (((List ab)×(List ah)) ⊕ (((List ah)×(List ab)) ⊕ (Int×Int)))) :=
  (dC x33 (af.mk l31 p1.end_ p1.open_ p1.terms)).bind fun y34=>Sum.elim (fun y37=>if lQ (l26.length+1) 24 then (some (.inl (y37.2,(l26++(lit ([(y37.1)]:List ah)))))) else none) (fun y38=>some (.inr (.inr (.inr (y38.1,y38.2))))) y34
noncomputable def cY(p1:af)(l25:List ab)(l26:List ah):Option (((List ab)×(List ah)) ⊕ (((List ab)×(List ah)) ⊕ (((List ah)×(List ab)) ⊕ (Int×Int)))) :=
  (aO (lit ([([43]:Ω),([45]:Ω)]:List Ω)) (af.mk l25 p1.end_ p1.open_ p1.terms)).bind fun y28=>if y28=true then (if (l26.length:Int)=30 then ((aL 7 (af.mk l25 p1.end_ p1.open_ p1.terms)).bind fun y29=>some (.inr (.inr (.inr (y29.1,y29.2))))) else ((aX (af.mk l25 p1.end_ p1.open_ p1.terms)).bind fun y39=>if ((y39.1).text)=([45]:Ω) then (ck p1 l26 y39.2 (-1)) else (ck p1 l26 y39.2 1))) else (some (.inr (.inl (l25,l26))))
noncomputable def cm(p1:af)(l1:List ab)(x2:Int):Option (((List ah)×(List ab)) ⊕ (Int×Int)) :=
  (dC x2 (af.mk l1 p1.end_ p1.open_ p1.terms)).bind fun y3=>Sum.elim (fun y6=>(bD (fun (l25,l26)=>cY p1 l25 l26) (y6.2,(lit ([(y6.1)]:List ah)))).bind (Sum.elim (fun (z40,z41)=>cj z40 z41) (fun z42=>some z42))) (fun y7=>some (.inr (y7.1,y7.2))) y3
noncomputable def cS(p1:af):Option (((List ah)×(List ab)) ⊕ (Int×Int)) :=
  (bp ([45]:Ω) p1).bind fun y43=>if y43.1=true then (cm p1 y43.2 (-1)) else (cm p1 y43.2 1)
end Pam
namespace Pam
open Go
noncomputable def lO(p1:af):Option ((gK×(List ab)) ⊕ (Int×Int)) :=
  (aO (lit ([([105,110,116]:Ω),([98,111,111,108]:Ω)]:List Ω)) p1).bind fun y1=>if y1=true then ((aX p1).bind fun y2=>if (0≤0∧0<(((y2.1).text).length:Int)) then ((bp ([94]:Ω) (af.mk y2.2 p1.end_ p1.open_ p1.terms)).bind fun y3=>if y3.1=true then ((cS (af.mk y3.2 p1.end_ p1.open_ p1.terms)).bind fun y4=>Sum.elim (fun y7=>some (.inl ((gK.mk ((((y2.1).text).getD 0 0).toNat:Int) y7.1),y7.2))) (fun y8=>some (.inr (y8.1,y8.2))) y4) else (some (.inl ((gK.mk ((((y2.1).text).getD 0 0).toNat:Int) []),y3.2)))) else none) else ((aL 4 p1).bind fun y9=>some (.inr (y9.1,y9.2)))
end Pam
namespace Pam
open Go
noncomputable def jg(p1:af):Option ((ax×(List ab)) ⊕ (Int×Int)) :=
  (bu p1).bind fun y1=>Sum.elim (fun y4=>(aM (lit ([([58]:Ω)]:List Ω)) (af.mk y4.2 p1.end_ p1.open_ p1.terms)).bind fun y6=>Sum.elim (fun y9=>(lO (af.mk y9 p1.end_ p1.open_ p1.terms)).bind fun y11=>Sum.elim (fun y14=>some (.inl ((ax.mk y4.1 (y14.1)),y14.2))) (fun y15=>some (.inr (y15.1,y15.2))) y11) (fun y10=>some (.inr (y10.1,y10.2))) y6) (fun y5=>some (.inr (y5.1,y5.2))) y1
end Pam
namespace Pam
open Go
noncomputable def iR(p1:Int)(p2:af)(l13:List ab)(l14:List ax):Option (((List ab)×(List ax)) ⊕ (((List ax)×(List ab)) ⊕ (Int×Int))) :=
  if (l14.length:Int)=p1 then ((aL 7 (af.mk l13 p2.end_ p2.open_ p2.terms)).bind fun y16=>some (.inr (.inr (y16.1,y16.2)))) else ((jg (af.mk l13 p2.end_ p2.open_ p2.terms)).bind fun y17=>Sum.elim (fun y20=>if lQ (l14.length+1) 48 then ((bp ([44]:Ω) (af.mk y20.2 p2.end_ p2.open_ p2.terms)).bind fun y22=>if y22.1=true then (some (.inl (y22.2,(l14++(lit ([(ax.mk ((y20.1).name) ((y20.1).t))]:List ax)))))) else (some (.inr (.inl ((l14++(lit ([(ax.mk ((y20.1).name) ((y20.1).t))]:List ax))),y22.2))))) else none) (fun y21=>some (.inr (.inr (y21.1,y21.2)))) y17)
noncomputable def iJ(p1:Int)(p2:af):Option (((List ax)×(List ab)) ⊕ (Int×Int)) :=
  (bD (fun (l13,l14)=>iR p1 p2 l13 l14) (p2.l,[])).bind (fun z23=>some z23)
end Pam
namespace Pam
open Go
noncomputable def bW(p1 p2 p3:Int)(p4:Ω)(p5:af)(p6:List ae):Option (Int×Int×Int×(Ω)×(List (List ah))×Int) :=
  some (p1,p2,p3,p4,[],(IntKind.wrap .i64 (p5.terms+1)))
end Pam
namespace Pam
open Go
noncomputable def dD(p1 p2 p3:Int)(p4:Ω)(p5:af):Option (ae×Int) :=
  some ((ae.mk p1 p2 p3 p4 [] []),(IntKind.wrap .i64 (p5.terms+1)))
end Pam
namespace Pam
open Go
noncomputable def cD(p1:ae)(p2:af):Option (ae×Int) :=
  some (p1,(IntKind.wrap .i64 (p2.terms+1)))
end Pam
namespace Pam
open Go
noncomputable def d6(rc_syntax_parser_rank:Int→af→Option ((ae×(List ab)×Int×Int) ⊕ (Int×Int)))(p1:af):Option ((ae×(List ab)×Int×Int) ⊕ (Int×Int)) :=
  (rc_syntax_parser_rank 0 p1).bind fun y1=>Sum.elim (fun y4=>(aM (lit ([([41]:Ω)]:List Ω)) (af.mk y4.2.1 p1.end_ y4.2.2.1 y4.2.2.2)).bind fun y6=>Sum.elim (fun y9=>some (.inl ((y4.1),y9,y4.2.2.1,y4.2.2.2))) (fun y10=>some (.inr (y10.1,y10.2))) y6) (fun y5=>some (.inr (y5.1,y5.2))) y1
end Pam
namespace Pam
open Go
noncomputable def bU(rc_syntax_parser_rank:Int→af→Option ((ae×(List ab)×Int×Int) ⊕ (Int×Int)))(p1:af):Option ((ae×(List ab)×Int×Int) ⊕ (Int×Int)) :=
  if p1.open_=60 then ((aL 6 p1).bind fun y1=>some (.inr (y1.1,y1.2))) else ((aX (af.mk p1.l p1.end_ (IntKind.wrap .i64 (p1.open_+1)) p1.terms)).bind fun y2=>(d6 rc_syntax_parser_rank (af.mk y2.2 p1.end_ (IntKind.wrap .i64 (p1.open_+1)) p1.terms)).bind fun y3=>Sum.elim (fun y6=>some (.inl ((y6.1),y6.2.1,(IntKind.wrap .i64 (y6.2.2.1 - 1)),y6.2.2.2))) (fun y7=>some (.inr (y7.1,y7.2))) y3)
end Pam
namespace Pam
open Go
noncomputable def d7(rc_syntax_parser_rank:Int→af→Option ((ae×(List ab)×Int×Int) ⊕ (Int×Int)))(p1:af):Option ((ae×(List ab)×Int×Int) ⊕ (Int×Int)) :=
  (rc_syntax_parser_rank 0 p1).bind fun y1=>Sum.elim (fun y4=>(aM (lit ([([116,104,101,110]:Ω)]:List Ω)) (af.mk y4.2.1 p1.end_ y4.2.2.1 y4.2.2.2)).bind fun y6=>Sum.elim (fun y9=>(rc_syntax_parser_rank 0 (af.mk y9 p1.end_ y4.2.2.1 y4.2.2.2)).bind fun y11=>Sum.elim (fun y14=>(aM (lit ([([101,108,115,101]:Ω)]:List Ω)) (af.mk y14.2.1 p1.end_ y14.2.2.1 y14.2.2.2)).bind fun y16=>Sum.elim (fun y19=>(rc_syntax_parser_rank 0 (af.mk y19 p1.end_ y14.2.2.1 y14.2.2.2)).bind fun y21=>Sum.elim (fun y22=>(bW 6 0 0 [] (af.mk y22.2.1 p1.end_ y22.2.2.1 y22.2.2.2) (lit ([(y4.1),(y14.1),(y22.1)]:List ae))).bind fun y24=>some (.inl ((ae.mk y24.1 y24.2.1 y24.2.2.1 y24.2.2.2.1 y24.2.2.2.2.1 (lit ([(y4.1),(y14.1),(y22.1)]:List ae))),y22.2.1,y22.2.2.1,y24.2.2.2.2.2))) (fun y23=>some (.inr (y23.1,y23.2))) y21) (fun y20=>some (.inr (y20.1,y20.2))) y16) (fun y15=>some (.inr (y15.1,y15.2))) y11) (fun y10=>some (.inr (y10.1,y10.2))) y6) (fun y5=>some (.inr (y5.1,y5.2))) y1
end Pam
namespace Pam
open Go
noncomputable def bV(rc_syntax_parser_rank:Int→af→Option ((ae×(List ab)×Int×Int) ⊕ (Int×Int)))(p1:af):Option ((ae×(List ab)×Int×Int) ⊕ (Int×Int)) :=
  if p1.open_=60 then ((aL 6 p1).bind fun y1=>some (.inr (y1.1,y1.2))) else ((aX (af.mk p1.l p1.end_ (IntKind.wrap .i64 (p1.open_+1)) p1.terms)).bind fun y2=>(d7 rc_syntax_parser_rank (af.mk y2.2 p1.end_ (IntKind.wrap .i64 (p1.open_+1)) p1.terms)).bind fun y3=>Sum.elim (fun y6=>some (.inl ((y6.1),y6.2.1,(IntKind.wrap .i64 (y6.2.2.1 - 1)),y6.2.2.2))) (fun y7=>some (.inr (y7.1,y7.2))) y3)
end Pam
namespace Pam
open Go
noncomputable def eh(p1:af):Option Ω :=
  if (p1.l.length:Int)=0 then (some ([]:Ω)) else (if (0≤0∧0<(p1.l.length:Int)) then (if ¬ ((p1.l.getD 0 default).kind)=1 then (some ([]:Ω)) else (some ((p1.l.getD 0 default).text))) else none)
end Pam
namespace Pam
open Go
noncomputable def dH:Option Int :=
  some (-1)
noncomputable def gG(p1:Ω)(p2:List Ω)(x3:Int):Option (Int ⊕ (Unit ⊕ Int)) :=
  if x3<(p2.length:Int) then (if (0≤x3∧x3<(p2.length:Int)) then (if p1=(p2.getD x3.toNat default) then (some (.inr (.inr x3))) else (some (.inl (IntKind.wrap .i64 (x3+1))))) else none) else (some (.inr (.inl ())))
noncomputable def dp(p1:Ω)(p2:List Ω):Option Int :=
  (bD (fun x3=>gG p1 p2 x3) 0).bind (Sum.elim (fun _=>dH) (fun z4=>some z4))
end Pam
namespace Pam
open Go
noncomputable def dw(p1:af):Option ((Int×(List ab)) ⊕ (Int×Int)) :=
  (eh p1).bind fun y1=>(dp y1 (lit ([([]:Ω),([97,100,100]:Ω),([115,117,98]:Ω),([109,117,108]:Ω),([100,105,118]:Ω),([109,111,100]:Ω),([109,105,110]:Ω),([109,97,120]:Ω),([108,101,115,115]:Ω),([101,113]:Ω),([97,110,100]:Ω),([111,114]:Ω),([120,111,114]:Ω),([110,101,103]:Ω),([110,111,116]:Ω)]:List Ω))).bind fun y2=>if y2<1 then ((aL 4 p1).bind fun y3=>some (.inr (y3.1,y3.2))) else ((aX p1).bind fun y4=>some (.inl (y2,y4.2)))
end Pam
namespace Pam
open Go
noncomputable def cz(l9:List ab)(x10 x11:Int)(l12:List ae):Option (((List ae)×(List ab)×Int×Int) ⊕ (Int×Int)) :=
  some (.inl (l12,l9,x10,x11))
noncomputable def dx(rc_syntax_parser_rank:Int→af→Option ((ae×(List ab)×Int×Int) ⊕ (Int×Int)))(p2:af)(x6:Int)(l30:List ab)(x31 x32:Int)(l33:List ae):Option (((List ab)×Int×Int×(List ae)) ⊕ (((List ab)×Int×Int×(List ae)) ⊕ (((List ae)×(List ab)×Int×Int) ⊕ (Int×Int)))) :=
  if (l33.length:Int)<x6 then ((aM (lit ([([44]:Ω)]:List Ω)) (af.mk l30 p2.end_ x31 x32)).bind fun y35=>Sum.elim (fun y38=>(rc_syntax_parser_rank 0 (af.mk y38 p2.end_ x31 x32)).bind fun y40=>Sum.elim (fun y43=>if lQ (l33.length+1) 88 then (some (.inl (y43.2.1,y43.2.2.1,y43.2.2.2,(l33++(lit ([(y43.1)]:List ae)))))) else none) (fun y44=>some (.inr (.inr (.inr (y44.1,y44.2))))) y40) (fun y39=>some (.inr (.inr (.inr (y39.1,y39.2))))) y35) else (some (.inr (.inl (l30,x31,x32,l33))))
noncomputable def bH(rc_syntax_parser_rank:Int→af→Option ((ae×(List ab)×Int×Int) ⊕ (Int×Int)))(p2:af)(y4:(ae×(List ab)×Int×Int))(x6:Int):Option (((List ae)×(List ab)×Int×Int) ⊕ (Int×Int)) :=
  (bD (fun (l30,x31,x32,l33)=>dx rc_syntax_parser_rank p2 x6 l30 x31 x32 l33) (y4.2.1,y4.2.2.1,y4.2.2.2,(lit ([(y4.1)]:List ae)))).bind (Sum.elim (fun (z45,z46,z47,z48)=>cz z45 z46 z47 z48) (fun z49=>some z49))
noncomputable def eA(rc_syntax_parser_rank:Int→af→Option ((ae×(List ab)×Int×Int) ⊕ (Int×Int)))(p1:Int)(p2:af):Option (((List ae)×(List ab)×Int×Int) ⊕ (Int×Int)) :=
  (rc_syntax_parser_rank 0 p2).bind fun y1=>Sum.elim (fun y4=>if (((10,1):Int×Int) :: ([]:List (Int×Int))).length<1000000 then (if (((13,1):Int×Int) :: (((10,1):Int×Int) :: ([]:List (Int×Int)))).length<1000000 then (if (((7,1):Int×Int) :: (((13,1):Int×Int) :: (((10,1):Int×Int) :: ([]:List (Int×Int))))).length<1000000 then (if (-9223372036854775808≤p1∧p1≤9223372036854775807) then (if ((ut (((12,3):Int×Int) :: (((7,1):Int×Int) :: (((13,1):Int×Int) :: (((10,1):Int×Int) :: ([]:List (Int×Int)))))) p1).getD 0)=0 then (bH rc_syntax_parser_rank p2 y4 2) else (if p1=7 then ((aO (lit ([([44]:Ω)]:List Ω)) (af.mk y4.2.1 p2.end_ y4.2.2.1 y4.2.2.2)).bind fun y50=>if y50=true then (bH rc_syntax_parser_rank p2 y4 2) else (bH rc_syntax_parser_rank p2 y4 ((ut (((12,3):Int×Int) :: (((7,1):Int×Int) :: (((13,1):Int×Int) :: (((10,1):Int×Int) :: ([]:List (Int×Int)))))) p1).getD 0))) else (bH rc_syntax_parser_rank p2 y4 ((ut (((12,3):Int×Int) :: (((7,1):Int×Int) :: (((13,1):Int×Int) :: (((10,1):Int×Int) :: ([]:List (Int×Int)))))) p1).getD 0)))) else none) else none) else none) else none) (fun y5=>some (.inr (y5.1,y5.2))) y1
end Pam
namespace Pam
open Go
noncomputable def d8(p1 p2 p3:Int)(p4:Ω)(p5:List ae)(p6:af)(p7:List (List ah)):Option (Int×Int×Int×(Ω)×(List ae)×Int) :=
  some (p1,p2,p3,p4,p5,(IntKind.wrap .i64 (p6.terms+1)))
end Pam
namespace Pam
open Go
noncomputable def ca(p2 p4:Int)(p5:Ω)(p7:af)(x6:Int)(y11:((List ae)×(List ab)×Int×Int))(l15:List ab)(l16:List (List ah)):Option ((Int×Int×Int×(Ω)×(List ae)×Int×(List ae)×(List ab)×Int×Int×(List (List ah))) ⊕ (Int×Int)) :=
  (aM (lit ([([41]:Ω)]:List Ω)) (af.mk l15 p7.end_ y11.2.2.1 y11.2.2.2)).bind fun y18=>Sum.elim (fun y21=>(d8 p2 x6 p4 p5 y11.1 (af.mk y21 p7.end_ y11.2.2.1 y11.2.2.2) l16).bind fun y23=>some (.inl (y23.1,y23.2.1,y23.2.2.1,y23.2.2.2.1,y23.2.2.2.2.1,x6,y11.1,y21,y11.2.2.1,y23.2.2.2.2.2,l16))) (fun y22=>some (.inr (y22.1,y22.2))) y18
noncomputable def db(p1:Int)(p7:af)(y11:((List ae)×(List ab)×Int×Int))(l38:List ab)(l39:List (List ah))(x41:Int):Option (((List ab)×(List (List ah))×Int) ⊕ (((List ab)×(List (List ah))) ⊕ ((Int×Int×Int×(Ω)×(List ae)×Int×(List ae)×(List ab)×Int×Int×(List (List ah))) ⊕ (Int×Int)))) :=
  if x41<((ut (((13,2):Int×Int) :: (((10,1):Int×Int) :: ([]:List (Int×Int)))) p1).getD 0) then ((aM (lit ([([44]:Ω)]:List Ω)) (af.mk l38 p7.end_ y11.2.2.1 y11.2.2.2)).bind fun y42=>Sum.elim (fun y45=>(cS (af.mk y45 p7.end_ y11.2.2.1 y11.2.2.2)).bind fun y47=>Sum.elim (fun y48=>if lQ (l39.length+1) 24 then (some (.inl (y48.2,(l39++(lit ([y48.1]:List (List ah)))),(IntKind.wrap .i64 (x41+1))))) else none) (fun y49=>some (.inr (.inr (.inr (y49.1,y49.2))))) y47) (fun y46=>some (.inr (.inr (.inr (y46.1,y46.2))))) y42) else (some (.inr (.inl (l38,l39))))
noncomputable def bN(rc_syntax_parser_rank:Int→af→Option ((ae×(List ab)×Int×Int) ⊕ (Int×Int)))(p1 p2 p4:Int)(p5:Ω)(p7:af)(p8:List (List ah))(x6:Int)(l7:List ab):Option ((Int×Int×Int×(Ω)×(List ae)×Int×(List ae)×(List ab)×Int×Int×(List (List ah))) ⊕ (Int×Int)) :=
  (eA rc_syntax_parser_rank p1 (af.mk l7 p7.end_ p7.open_ p7.terms)).bind fun y8=>Sum.elim (fun y11=>if (((10,1):Int×Int) :: ([]:List (Int×Int))).length<1000000 then (if (-9223372036854775808≤p1∧p1≤9223372036854775807) then ((bD (fun (l38,l39,x41)=>db p1 p7 y11 l38 l39 x41) (y11.2.1,p8,0)).bind (Sum.elim (fun (z50,z51)=>ca p2 p4 p5 p7 x6 y11 z50 z51) (fun z52=>some z52))) else none) else none) (fun y12=>some (.inr (y12.1,y12.2))) y8
noncomputable def d9(rc_syntax_parser_rank:Int→af→Option ((ae×(List ab)×Int×Int) ⊕ (Int×Int)))(p1 p2 p3 p4:Int)(p5:Ω)(p6:List ae)(p7:af)(p8:List (List ah)):Option ((Int×Int×Int×(Ω)×(List ae)×Int×(List ae)×(List ab)×Int×Int×(List (List ah))) ⊕ (Int×Int)) :=
  (aM (lit ([([40]:Ω)]:List Ω)) p7).bind fun y1=>Sum.elim (fun y4=>if p1≤9 then (if p1≥7 then ((dw (af.mk y4 p7.end_ p7.open_ p7.terms)).bind fun y53=>Sum.elim (fun y56=>(aM (lit ([([44]:Ω)]:List Ω)) (af.mk y56.2 p7.end_ p7.open_ p7.terms)).bind fun y58=>Sum.elim (fun y61=>bN rc_syntax_parser_rank p1 p2 p4 p5 p7 p8 y56.1 y61) (fun y62=>some (.inr (y62.1,y62.2))) y58) (fun y57=>some (.inr (y57.1,y57.2))) y53) else (bN rc_syntax_parser_rank p1 p2 p4 p5 p7 p8 p3 y4)) else (bN rc_syntax_parser_rank p1 p2 p4 p5 p7 p8 p3 y4)) (fun y5=>some (.inr (y5.1,y5.2))) y1
end Pam
namespace Pam
open Go
noncomputable def de(rc_syntax_parser_rank:Int→af→Option ((ae×(List ab)×Int×Int) ⊕ (Int×Int)))(p1:af)(p2 p3 p4 p5:Int)(p6:Ω)(p7:List ae)(p8:List (List ah)):Option ((Int×Int×Int×(Ω)×(List ae)×(List ab)×Int×Int×Int×(List ae)×(List (List ah))) ⊕ (Int×Int)) :=
  if p1.open_=60 then ((aL 6 p1).bind fun y1=>some (.inr (y1.1,y1.2))) else ((aX (af.mk p1.l p1.end_ (IntKind.wrap .i64 (p1.open_+1)) p1.terms)).bind fun y2=>(d9 rc_syntax_parser_rank p2 p3 p4 p5 p6 p7 (af.mk y2.2 p1.end_ (IntKind.wrap .i64 (p1.open_+1)) p1.terms) p8).bind fun y3=>Sum.elim (fun y6=>some (.inl (y6.1,y6.2.1,y6.2.2.1,y6.2.2.2.1,y6.2.2.2.2.1,y6.2.2.2.2.2.2.2.1,(IntKind.wrap .i64 (y6.2.2.2.2.2.2.2.2.1 - 1)),y6.2.2.2.2.2.2.2.2.2.1,y6.2.2.2.2.2.1,y6.2.2.2.2.2.2.1,y6.2.2.2.2.2.2.2.2.2.2))) (fun y7=>some (.inr (y7.1,y7.2))) y3)
end Pam
namespace Pam
open Go
noncomputable def co(rc_syntax_parser_rank:Int→af→Option ((ae×(List ab)×Int×Int) ⊕ (Int×Int)))(p1:af)(y2 x4:Int):Option ((ae×(List ab)×Int×Int) ⊕ (Int×Int)) :=
  (de rc_syntax_parser_rank p1 ((lit ([7,8,9,10,12,13,14,15,5,5]:List Int)).getD y2.toNat default) ((lit ([7,8,9,10,12,13,14,15,5,5]:List Int)).getD y2.toNat default) x4 0 [] [] []).bind fun y5=>Sum.elim (fun y8=>some (.inl ((ae.mk y8.1 y8.2.1 y8.2.2.1 y8.2.2.2.1 y8.2.2.2.2.2.2.2.2.2.2 y8.2.2.2.2.1),y8.2.2.2.2.2.1,y8.2.2.2.2.2.2.1,y8.2.2.2.2.2.2.2.1))) (fun y9=>some (.inr (y9.1,y9.2))) y5
noncomputable def eZ(rc_syntax_parser_rank:Int→af→Option ((ae×(List ab)×Int×Int) ⊕ (Int×Int)))(p1:af):Option ((ae×(List ab)×Int×Int) ⊕ (Int×Int)) :=
  (eh p1).bind fun y1=>(dp y1 (lit ([([109,97,112]:Ω),([102,111,108,100]:Ω),([115,99,97,110]:Ω),([102,105,108,108]:Ω),([119,105,116,104]:Ω),([115,108,105,99,101]:Ω),([99,97,116]:Ω),([112,114,101]:Ω),([109,105,110]:Ω),([109,97,120]:Ω)]:List Ω))).bind fun y2=>if y2<0 then ((aL 4 p1).bind fun y3=>some (.inr (y3.1,y3.2))) else (if (0≤y2∧y2<(10:Int)) then (if y2=8 then (co rc_syntax_parser_rank p1 y2 6) else (if y2=9 then (co rc_syntax_parser_rank p1 y2 7) else (co rc_syntax_parser_rank p1 y2 0))) else none)
end Pam
namespace Pam
open Go
noncomputable def bP(rc_syntax_parser_rank:Int→af→Option ((ae×(List ab)×Int×Int) ⊕ (Int×Int)))(p1:af):Option ((ae×(List ab)×Int×Int) ⊕ (Int×Int)) :=
  (eZ rc_syntax_parser_rank p1).bind fun y1=>Sum.elim (fun y4=>some (.inl ((y4.1),y4.2.1,y4.2.2.1,y4.2.2.2))) (fun y5=>some (.inr (y5.1,y5.2))) y1
noncomputable def cG(p1:af)(l13:List ab)(x14:Int):Option ((ae×(List ab)×Int×Int) ⊕ (Int×Int)) :=
  (cD (ae.mk 2 0 x14 [] [] []) (af.mk l13 p1.end_ p1.open_ p1.terms)).bind fun y15=>some (.inl ((y15.1),l13,p1.open_,y15.2))
noncomputable def cH(p1:af)(l30:List ab)(x31:Int):Option ((ae×(List ab)×Int×Int) ⊕ (Int×Int)) :=
  (cD (ae.mk 2 0 x31 [] [] []) (af.mk l30 p1.end_ p1.open_ p1.terms)).bind fun y32=>some (.inl ((y32.1),l30,p1.open_,y32.2))
noncomputable def cI(p1:af)(l51:List ab)(x52:Int):Option ((ae×(List ab)×Int×Int) ⊕ (Int×Int)) :=
  (cD (ae.mk 2 0 x52 [] [] []) (af.mk l51 p1.end_ p1.open_ p1.terms)).bind fun y53=>some (.inl ((y53.1),l51,p1.open_,y53.2))
noncomputable def cJ(p1:af)(l68:List ab)(x69:Int):Option ((ae×(List ab)×Int×Int) ⊕ (Int×Int)) :=
  (cD (ae.mk 2 0 x69 [] [] []) (af.mk l68 p1.end_ p1.open_ p1.terms)).bind fun y70=>some (.inl ((y70.1),l68,p1.open_,y70.2))
noncomputable def e7(rc_syntax_parser_rank:Int→af→Option ((ae×(List ab)×Int×Int) ⊕ (Int×Int)))(p1:af):Option ((ae×(List ab)×Int×Int) ⊕ (Int×Int)) :=
  if (p1.l.length:Int)>0 then (if (0≤0∧0<(p1.l.length:Int)) then (if ((p1.l.getD 0 default).kind)=3 then ((aX p1).bind fun y6=>(dD 1 0 ((y6.1).n) [] (af.mk y6.2 p1.end_ p1.open_ p1.terms)).bind fun y7=>some (.inl ((y7.1),y6.2,p1.open_,y7.2))) else (if (p1.l.length:Int)>0 then (if ((p1.l.getD 0 default).kind)=2 then ((bu p1).bind fun y8=>Sum.elim (fun y9=>(dD 3 0 0 y9.1 (af.mk y9.2 p1.end_ p1.open_ p1.terms)).bind fun y11=>some (.inl ((y11.1),y9.2,p1.open_,y11.2))) (fun y10=>some (.inr (y10.1,y10.2))) y8) else ((aO (lit ([([116,114,117,101]:Ω),([102,97,108,115,101]:Ω)]:List Ω)) p1).bind fun y12=>if y12=true then ((aX p1).bind fun y16=>if ((y16.1).text)=([116,114,117,101]:Ω) then (cG p1 y16.2 1) else (cG p1 y16.2 0)) else ((aO (lit ([([40]:Ω)]:List Ω)) p1).bind fun y17=>if y17=true then ((bU rc_syntax_parser_rank p1).bind fun y18=>Sum.elim (fun y21=>some (.inl ((y21.1),y21.2.1,y21.2.2.1,y21.2.2.2))) (fun y22=>some (.inr (y22.1,y22.2))) y18) else ((aO (lit ([([105,102]:Ω)]:List Ω)) p1).bind fun y23=>if y23=true then ((bV rc_syntax_parser_rank p1).bind fun y24=>Sum.elim (fun y27=>some (.inl ((y27.1),y27.2.1,y27.2.2.1,y27.2.2.2))) (fun y28=>some (.inr (y28.1,y28.2))) y24) else (bP rc_syntax_parser_rank p1))))) else ((aO (lit ([([116,114,117,101]:Ω),([102,97,108,115,101]:Ω)]:List Ω)) p1).bind fun y29=>if y29=true then ((aX p1).bind fun y33=>if ((y33.1).text)=([116,114,117,101]:Ω) then (cH p1 y33.2 1) else (cH p1 y33.2 0)) else ((aO (lit ([([40]:Ω)]:List Ω)) p1).bind fun y34=>if y34=true then ((bU rc_syntax_parser_rank p1).bind fun y35=>Sum.elim (fun y38=>some (.inl ((y38.1),y38.2.1,y38.2.2.1,y38.2.2.2))) (fun y39=>some (.inr (y39.1,y39.2))) y35) else ((aO (lit ([([105,102]:Ω)]:List Ω)) p1).bind fun y40=>if y40=true then ((bV rc_syntax_parser_rank p1).bind fun y41=>Sum.elim (fun y44=>some (.inl ((y44.1),y44.2.1,y44.2.2.1,y44.2.2.2))) (fun y45=>some (.inr (y45.1,y45.2))) y41) else (bP rc_syntax_parser_rank p1)))))) else none) else (if (p1.l.length:Int)>0 then (if (0≤0∧0<(p1.l.length:Int)) then (if ((p1.l.getD 0 default).kind)=2 then ((bu p1).bind fun y46=>Sum.elim (fun y47=>(dD 3 0 0 y47.1 (af.mk y47.2 p1.end_ p1.open_ p1.terms)).bind fun y49=>some (.inl ((y49.1),y47.2,p1.open_,y49.2))) (fun y48=>some (.inr (y48.1,y48.2))) y46) else ((aO (lit ([([116,114,117,101]:Ω),([102,97,108,115,101]:Ω)]:List Ω)) p1).bind fun y50=>if y50=true then ((aX p1).bind fun y54=>if ((y54.1).text)=([116,114,117,101]:Ω) then (cI p1 y54.2 1) else (cI p1 y54.2 0)) else ((aO (lit ([([40]:Ω)]:List Ω)) p1).bind fun y55=>if y55=true then ((bU rc_syntax_parser_rank p1).bind fun y56=>Sum.elim (fun y59=>some (.inl ((y59.1),y59.2.1,y59.2.2.1,y59.2.2.2))) (fun y60=>some (.inr (y60.1,y60.2))) y56) else ((aO (lit ([([105,102]:Ω)]:List Ω)) p1).bind fun y61=>if y61=true then ((bV rc_syntax_parser_rank p1).bind fun y62=>Sum.elim (fun y65=>some (.inl ((y65.1),y65.2.1,y65.2.2.1,y65.2.2.2))) (fun y66=>some (.inr (y66.1,y66.2))) y62) else (bP rc_syntax_parser_rank p1))))) else none) else ((aO (lit ([([116,114,117,101]:Ω),([102,97,108,115,101]:Ω)]:List Ω)) p1).bind fun y67=>if y67=true then ((aX p1).bind fun y71=>if ((y71.1).text)=([116,114,117,101]:Ω) then (cJ p1 y71.2 1) else (cJ p1 y71.2 0)) else ((aO (lit ([([40]:Ω)]:List Ω)) p1).bind fun y72=>if y72=true then ((bU rc_syntax_parser_rank p1).bind fun y73=>Sum.elim (fun y76=>some (.inl ((y76.1),y76.2.1,y76.2.2.1,y76.2.2.2))) (fun y77=>some (.inr (y77.1,y77.2))) y73) else ((aO (lit ([([105,102]:Ω)]:List Ω)) p1).bind fun y78=>if y78=true then ((bV rc_syntax_parser_rank p1).bind fun y79=>Sum.elim (fun y82=>some (.inl ((y82.1),y82.2.1,y82.2.2.1,y82.2.2.2))) (fun y83=>some (.inr (y83.1,y83.2))) y79) else (bP rc_syntax_parser_rank p1)))))
end Pam
namespace Pam
open Go
noncomputable def dN(rc_syntax_parser_rank:Int→af→Option ((ae×(List ab)×Int×Int) ⊕ (Int×Int)))(p1:ae)(p2:af):Option ((ae×(List ab)×Int×Int) ⊕ (Int×Int)) :=
  (rc_syntax_parser_rank 0 p2).bind fun y1=>Sum.elim (fun y4=>(aM (lit ([([58]:Ω)]:List Ω)) (af.mk y4.2.1 p2.end_ y4.2.2.1 y4.2.2.2)).bind fun y6=>Sum.elim (fun y9=>(rc_syntax_parser_rank 0 (af.mk y9 p2.end_ y4.2.2.1 y4.2.2.2)).bind fun y11=>Sum.elim (fun y12=>(bW 11 0 0 [] (af.mk y12.2.1 p2.end_ y12.2.2.1 y12.2.2.2) (lit ([p1,(y4.1),(y12.1)]:List ae))).bind fun y14=>(aM (lit ([([93]:Ω)]:List Ω)) (af.mk y12.2.1 p2.end_ y12.2.2.1 y14.2.2.2.2.2)).bind fun y15=>Sum.elim (fun y18=>some (.inl ((ae.mk y14.1 y14.2.1 y14.2.2.1 y14.2.2.2.1 y14.2.2.2.2.1 (lit ([p1,(y4.1),(y12.1)]:List ae))),y18,y12.2.2.1,y14.2.2.2.2.2))) (fun y19=>some (.inr (y19.1,y19.2))) y15) (fun y13=>some (.inr (y13.1,y13.2))) y11) (fun y10=>some (.inr (y10.1,y10.2))) y6) (fun y5=>some (.inr (y5.1,y5.2))) y1
end Pam
namespace Pam
open Go
noncomputable def dg(rc_syntax_parser_rank:Int→af→Option ((ae×(List ab)×Int×Int) ⊕ (Int×Int)))(p1:af)(p2:ae):Option ((ae×(List ab)×Int×Int) ⊕ (Int×Int)) :=
  if p1.open_=60 then ((aL 6 p1).bind fun y1=>some (.inr (y1.1,y1.2))) else ((aX (af.mk p1.l p1.end_ (IntKind.wrap .i64 (p1.open_+1)) p1.terms)).bind fun y2=>(dN rc_syntax_parser_rank p2 (af.mk y2.2 p1.end_ (IntKind.wrap .i64 (p1.open_+1)) p1.terms)).bind fun y3=>Sum.elim (fun y6=>some (.inl ((y6.1),y6.2.1,(IntKind.wrap .i64 (y6.2.2.1 - 1)),y6.2.2.2))) (fun y7=>some (.inr (y7.1,y7.2))) y3)
end Pam
namespace Pam
open Go
noncomputable def dh(rc_syntax_parser_ahead:af→Option ((ae×(List ab)×Int×Int) ⊕ (Int×Int)))(p1:Int)(p2:af):Option ((ae×(List ab)×Int×Int) ⊕ (Int×Int)) :=
  (rc_syntax_parser_ahead p2).bind fun y1=>Sum.elim (fun y2=>(bW 4 p1 0 [] (af.mk y2.2.1 p2.end_ y2.2.2.1 y2.2.2.2) (lit ([(y2.1)]:List ae))).bind fun y4=>some (.inl ((ae.mk y4.1 y4.2.1 y4.2.2.1 y4.2.2.2.1 y4.2.2.2.2.1 (lit ([(y2.1)]:List ae))),y2.2.1,y2.2.2.1,y4.2.2.2.2.2))) (fun y3=>some (.inr (y3.1,y3.2))) y1
end Pam
namespace Pam
open Go
noncomputable def dy(rc_syntax_parser_ahead:af→Option ((ae×(List ab)×Int×Int) ⊕ (Int×Int)))(p1:af)(p2:Int):Option ((ae×(List ab)×Int×Int) ⊕ (Int×Int)) :=
  if p1.open_=60 then ((aL 6 p1).bind fun y1=>some (.inr (y1.1,y1.2))) else ((aX (af.mk p1.l p1.end_ (IntKind.wrap .i64 (p1.open_+1)) p1.terms)).bind fun y2=>(dh rc_syntax_parser_ahead p2 (af.mk y2.2 p1.end_ (IntKind.wrap .i64 (p1.open_+1)) p1.terms)).bind fun y3=>Sum.elim (fun y6=>some (.inl ((y6.1),y6.2.1,(IntKind.wrap .i64 (y6.2.2.1 - 1)),y6.2.2.2))) (fun y7=>some (.inr (y7.1,y7.2))) y3)
end Pam
namespace Pam
open Go
noncomputable def cA(rcf:af→Option ((ae×(List ab)×Int×Int) ⊕ (Int×Int)))(p1:af)(x2:Int):Option ((ae×(List ab)×Int×Int) ⊕ (Int×Int)) :=
  (dy rcf p1 x2).bind fun y3=>Sum.elim (fun y6=>some (.inl ((y6.1),y6.2.1,y6.2.2.1,y6.2.2.2))) (fun y7=>some (.inr (y7.1,y7.2))) y3
noncomputable def cB(l14:List ab)(x15 x16 x17 x18 x19:Int)(s20:Ω)(l21:List (List ah))(l22:List ae):Option ((ae×(List ab)×Int×Int) ⊕ (Int×Int)) :=
  some (.inl ((ae.mk x17 x18 x19 s20 l21 l22),l14,x15,x16))
noncomputable def dz(rc_syntax_parser_rank:Int→af→Option ((ae×(List ab)×Int×Int) ⊕ (Int×Int)))(p1:af)(l41:List ab)(x42 x43 x44 x45 x46:Int)(s47:Ω)(l48:List (List ah))(l49:List ae):Option (((List ab)×Int×Int×Int×Int×Int×(Ω)×(List (List ah))×(List ae)) ⊕ (((List ab)×Int×Int×Int×Int×Int×(Ω)×(List (List ah))×(List ae)) ⊕ ((ae×(List ab)×Int×Int) ⊕ (Int×Int)))) :=
  (aO (lit ([([91]:Ω)]:List Ω)) (af.mk l41 p1.end_ x42 x43)).bind fun y50=>if y50=true then ((dg rc_syntax_parser_rank (af.mk l41 p1.end_ x42 x43) (ae.mk x44 x45 x46 s47 l48 l49)).bind fun y51=>Sum.elim (fun y54=>some (.inl (y54.2.1,y54.2.2.1,y54.2.2.2,(y54.1).op,(y54.1).k,(y54.1).n,(y54.1).name,(y54.1).s,(y54.1).l))) (fun y55=>some (.inr (.inr (.inr (y55.1,y55.2))))) y51) else (some (.inr (.inl (l41,x42,x43,x44,x45,x46,s47,l48,l49))))
noncomputable def cZ(rc_syntax_parser_rank:Int→af→Option ((ae×(List ab)×Int×Int) ⊕ (Int×Int)))(rcf:af→Option ((ae×(List ab)×Int×Int) ⊕ (Int×Int)))(p1:af):Option ((ae×(List ab)×Int×Int) ⊕ (Int×Int)) :=
  (aO (lit ([([45]:Ω),([110,111,116]:Ω)]:List Ω)) p1).bind fun y1=>if y1=true then ((aO (lit ([([110,111,116]:Ω)]:List Ω)) p1).bind fun y8=>if y8=true then (cA rcf p1 14) else (cA rcf p1 13)) else ((e7 rc_syntax_parser_rank p1).bind fun y9=>Sum.elim (fun y12=>(bD (fun (l41,x42,x43,x44,x45,x46,s47,l48,l49)=>dz rc_syntax_parser_rank p1 l41 x42 x43 x44 x45 x46 s47 l48 l49) (y12.2.1,y12.2.2.1,y12.2.2.2,(y12.1).op,(y12.1).k,(y12.1).n,(y12.1).name,(y12.1).s,(y12.1).l)).bind (Sum.elim (fun (z56,z57,z58,z59,z60,z61,z62,z63,z64)=>cB z56 z57 z58 z59 z60 z61 z62 z63 z64) (fun z65=>some z65))) (fun y13=>some (.inr (y13.1,y13.2))) y9)
noncomputable def dO(rc_syntax_parser_rank:Int→af→Option ((ae×(List ab)×Int×Int) ⊕ (Int×Int))):Nat→af→Option ((ae×(List ab)×Int×Int) ⊕ (Int×Int))
  |0=>fun _=>none
  |n+1=>cZ rc_syntax_parser_rank (dO rc_syntax_parser_rank n)
noncomputable def cr(fuel:Nat)(rc_syntax_parser_rank:Int→af→Option ((ae×(List ab)×Int×Int) ⊕ (Int×Int)))(p1:af):Option ((ae×(List ab)×Int×Int) ⊕ (Int×Int)):=dO rc_syntax_parser_rank fuel p1
end Pam
namespace Pam
open Go
noncomputable def cq(p1:Int)(p2:af):Option Int :=
  if (0≤p1∧p1<(5:Int)) then ((aO ((lit ([(lit ([([111,114]:Ω),([120,111,114]:Ω)]:List Ω)),(lit ([([97,110,100]:Ω)]:List Ω)),(lit ([([60]:Ω),([61,61]:Ω)]:List Ω)),(lit ([([43]:Ω),([45]:Ω)]:List Ω)),(lit ([([42]:Ω),([47]:Ω),([37]:Ω)]:List Ω))]:List (List Ω))).getD p1.toNat default) p2).bind fun y1=>if y1=true then (if (0≤0∧0<(p2.l.length:Int)) then ((cR ((lit ([(lit ([([111,114]:Ω),([120,111,114]:Ω)]:List Ω)),(lit ([([97,110,100]:Ω)]:List Ω)),(lit ([([60]:Ω),([61,61]:Ω)]:List Ω)),(lit ([([43]:Ω),([45]:Ω)]:List Ω)),(lit ([([42]:Ω),([47]:Ω),([37]:Ω)]:List Ω))]:List (List Ω))).getD p1.toNat default) ((p2.l.getD 0 default).text)).bind fun y2=>if (0≤y2∧y2<(((lit ([(lit ([11,12]:List Int)),(lit ([10]:List Int)),(lit ([8,9]:List Int)),(lit ([1,2]:List Int)),(lit ([3,4,5]:List Int))]:List (List Int))).getD p1.toNat default).length:Int)) then (some (((lit ([(lit ([11,12]:List Int)),(lit ([10]:List Int)),(lit ([8,9]:List Int)),(lit ([1,2]:List Int)),(lit ([3,4,5]:List Int))]:List (List Int))).getD p1.toNat default).getD y2.toNat default)) else none) else none) else (some 0)) else none
end Pam
namespace Pam
open Go
noncomputable def dP(l11:List ab)(x12 x13 x14 x15 x16:Int)(s17:Ω)(l18:List (List ah))(l19:List ae):Option ((ae×(List ab)×Int×Int) ⊕ (Int×Int)) :=
  some (.inl ((ae.mk x14 x15 x16 s17 l18 l19),l11,x12,x13))
noncomputable def gL(rcf:Int→af→Option ((ae×(List ab)×Int×Int) ⊕ (Int×Int)))(p1:Int)(p2:af)(l41:List ab)(x42 x43 x44 x45 x46:Int)(s47:Ω)(l48:List (List ah))(l49:List ae)(x50:Int):Option (((List ab)×Int×Int×Int×Int×Int×(Ω)×(List (List ah))×(List ae)×Int) ⊕ (((List ab)×Int×Int×Int×Int×Int×(Ω)×(List (List ah))×(List ae)) ⊕ ((ae×(List ab)×Int×Int) ⊕ (Int×Int)))) :=
  if ¬ x50=0 then ((aX (af.mk l41 p2.end_ x42 x43)).bind fun y51=>(rcf (IntKind.wrap .i64 (p1+1)) (af.mk y51.2 p2.end_ x42 x43)).bind fun y52=>Sum.elim (fun y53=>(bW 5 x50 0 [] (af.mk y53.2.1 p2.end_ y53.2.2.1 y53.2.2.2) (lit ([(ae.mk x44 x45 x46 s47 l48 l49),(y53.1)]:List ae))).bind fun y55=>if p1=2 then (some (.inr (.inl (y53.2.1,y53.2.2.1,y55.2.2.2.2.2,y55.1,y55.2.1,y55.2.2.1,y55.2.2.2.1,y55.2.2.2.2.1,(lit ([(ae.mk x44 x45 x46 s47 l48 l49),(y53.1)]:List ae)))))) else ((cq p1 (af.mk y53.2.1 p2.end_ y53.2.2.1 y55.2.2.2.2.2)).bind fun y56=>some (.inl (y53.2.1,y53.2.2.1,y55.2.2.2.2.2,y55.1,y55.2.1,y55.2.2.1,y55.2.2.2.1,y55.2.2.2.2.1,(lit ([(ae.mk x44 x45 x46 s47 l48 l49),(y53.1)]:List ae)),y56)))) (fun y54=>some (.inr (.inr (.inr (y54.1,y54.2))))) y52) else (some (.inr (.inl (l41,x42,x43,x44,x45,x46,s47,l48,l49))))
noncomputable def e8(fuel:Nat)(rcf:Int→af→Option ((ae×(List ab)×Int×Int) ⊕ (Int×Int)))(p1:Int)(p2:af):Option ((ae×(List ab)×Int×Int) ⊕ (Int×Int)) :=
  if p1=5 then ((cr fuel rcf p2).bind fun y1=>Sum.elim (fun y4=>some (.inl ((y4.1),y4.2.1,y4.2.2.1,y4.2.2.2))) (fun y5=>some (.inr (y5.1,y5.2))) y1) else ((rcf (IntKind.wrap .i64 (p1+1)) p2).bind fun y6=>Sum.elim (fun y9=>(cq p1 (af.mk y9.2.1 p2.end_ y9.2.2.1 y9.2.2.2)).bind fun y20=>(bD (fun (l41,x42,x43,x44,x45,x46,s47,l48,l49,x50)=>gL rcf p1 p2 l41 x42 x43 x44 x45 x46 s47 l48 l49 x50) (y9.2.1,y9.2.2.1,y9.2.2.2,(y9.1).op,(y9.1).k,(y9.1).n,(y9.1).name,(y9.1).s,(y9.1).l,y20)).bind (Sum.elim (fun (z57,z58,z59,z60,z61,z62,z63,z64,z65)=>dP z57 z58 z59 z60 z61 z62 z63 z64 z65) (fun z66=>some z66))) (fun y10=>some (.inr (y10.1,y10.2))) y6)
noncomputable def aA(fuel:Nat):Nat→Int→af→Option ((ae×(List ab)×Int×Int) ⊕ (Int×Int))
  |0=>fun _ _=>none
  |n+1=>e8 fuel (aA fuel n)
noncomputable def m6(fuel:Nat)(p1:Int)(p2:af):Option ((ae×(List ab)×Int×Int) ⊕ (Int×Int)):=aA fuel fuel p1 p2
end Pam
namespace Pam
open Go
noncomputable def fo(fuel:Nat)(p1:af)(x1:Int):Option ((ae×(List ab)×Int×Int) ⊕ (Int×Int)) :=
  (m6 fuel 0 (af.mk p1.l p1.end_ p1.open_ 0)).bind fun y2=>Sum.elim (fun y5=>if y5.2.2.2>30 then (some (.inr (7,x1))) else (some (.inl ((y5.1),y5.2.1,y5.2.2.1,y5.2.2.2)))) (fun y6=>some (.inr (y6.1,y6.2))) y2
noncomputable def gR(fuel:Nat)(p1:af):Option ((ae×(List ab)×Int×Int) ⊕ (Int×Int)) :=
  if (p1.l.length:Int)>0 then (if (0≤0∧0<(p1.l.length:Int)) then (fo fuel p1 ((p1.l.getD 0 default).at_)) else none) else (fo fuel p1 p1.end_)
end Pam
namespace Pam
open Go
noncomputable def iS(p1:Int)(p2:af)(l13:List ab)(l14:List (List ah)):Option (((List ab)×(List (List ah))) ⊕ (((List (List ah))×(List ab)) ⊕ (Int×Int))) :=
  if (l14.length:Int)=p1 then ((aL 7 (af.mk l13 p2.end_ p2.open_ p2.terms)).bind fun y16=>some (.inr (.inr (y16.1,y16.2)))) else ((cS (af.mk l13 p2.end_ p2.open_ p2.terms)).bind fun y17=>Sum.elim (fun y20=>if lQ (l14.length+1) 24 then ((bp ([44]:Ω) (af.mk y20.2 p2.end_ p2.open_ p2.terms)).bind fun y22=>if y22.1=true then (some (.inl (y22.2,(l14++(lit ([y20.1]:List (List ah))))))) else (some (.inr (.inl ((l14++(lit ([y20.1]:List (List ah)))),y22.2))))) else none) (fun y21=>some (.inr (.inr (y21.1,y21.2)))) y17)
noncomputable def km(p1:Int)(p2:af):Option (((List (List ah))×(List ab)) ⊕ (Int×Int)) :=
  (bD (fun (l13,l14)=>iS p1 p2 l13 l14) (p2.l,[])).bind (fun z23=>some z23)
end Pam
namespace Pam
open Go
noncomputable def iT(fuel:Nat)(p1:Int)(p2:af)(l17:List ab)(x18 x19:Int)(l20:List ae):Option (((List ab)×Int×Int×(List ae)) ⊕ (((List ae)×(List ab)×Int×Int) ⊕ (Int×Int))) :=
  if (l20.length:Int)=p1 then ((aL 7 (af.mk l17 p2.end_ x18 x19)).bind fun y22=>some (.inr (.inr (y22.1,y22.2)))) else ((gR fuel (af.mk l17 p2.end_ x18 x19)).bind fun y23=>Sum.elim (fun y26=>if lQ (l20.length+1) 88 then ((bp ([44]:Ω) (af.mk y26.2.1 p2.end_ y26.2.2.1 y26.2.2.2)).bind fun y28=>if y28.1=true then (some (.inl (y28.2,y26.2.2.1,y26.2.2.2,(l20++(lit ([(y26.1)]:List ae)))))) else (some (.inr (.inl ((l20++(lit ([(y26.1)]:List ae))),y28.2,y26.2.2.1,y26.2.2.2))))) else none) (fun y27=>some (.inr (.inr (y27.1,y27.2)))) y23)
noncomputable def ko(fuel:Nat)(p1:Int)(p2:af):Option (((List ae)×(List ab)×Int×Int) ⊕ (Int×Int)) :=
  (bD (fun (l17,x18,x19,l20)=>iT fuel p1 p2 l17 x18 x19 l20) (p2.l,p2.open_,p2.terms,[])).bind (fun z29=>some z29)
end Pam
namespace Pam
open Go
noncomputable def gu(p1:af)(y4:((List Ω)×(List ab)))(y19:((Ω)×(List ab)))(l22:List (List ah))(l28:List ab)(x29 x30:Int)(l31:List ae):Option ((TEq×(List ab)×Int×Int) ⊕ (Int×Int)) :=
  (aM (lit ([([41]:Ω)]:List Ω)) (af.mk l28 p1.end_ x29 x30)).bind fun y32=>Sum.elim (fun y35=>some (.inl ((TEq.mk ((p1.l.getD 0 default).at_) y4.1 y19.1 l22 l31),y35,x29,x30))) (fun y36=>some (.inr (y36.1,y36.2))) y32
noncomputable def gv(fuel:Nat)(p1:af)(y4:((List Ω)×(List ab)))(y19:((Ω)×(List ab)))(l21:List ab)(l22:List (List ah)):Option ((TEq×(List ab)×Int×Int) ⊕ (Int×Int)) :=
  (aM (lit ([([40]:Ω)]:List Ω)) (af.mk l21 p1.end_ p1.open_ p1.terms)).bind fun y23=>Sum.elim (fun y26=>(aO (lit ([([41]:Ω)]:List Ω)) (af.mk y26 p1.end_ p1.open_ p1.terms)).bind fun y37=>if y37=true then (gu p1 y4 y19 l22 y26 p1.open_ p1.terms []) else ((ko fuel 30 (af.mk y26 p1.end_ p1.open_ p1.terms)).bind fun y38=>Sum.elim (fun y41=>gu p1 y4 y19 l22 y41.2.1 y41.2.2.1 y41.2.2.2 y41.1) (fun y42=>some (.inr (y42.1,y42.2))) y38)) (fun y27=>some (.inr (y27.1,y27.2))) y23
noncomputable def gy(fuel:Nat)(p1:af)(y4:((List Ω)×(List ab)))(y9:(List ab)):Option ((TEq×(List ab)×Int×Int) ⊕ (Int×Int)) :=
  (aM (lit ([([99,97,108,108]:Ω)]:List Ω)) (af.mk y9 p1.end_ p1.open_ p1.terms)).bind fun y11=>Sum.elim (fun y14=>(bu (af.mk y14 p1.end_ p1.open_ p1.terms)).bind fun y16=>Sum.elim (fun y19=>(bp ([60]:Ω) (af.mk y19.2 p1.end_ p1.open_ p1.terms)).bind fun y43=>if y43.1=true then ((km 3 (af.mk y43.2 p1.end_ p1.open_ p1.terms)).bind fun y44=>Sum.elim (fun y47=>(aM (lit ([([62]:Ω)]:List Ω)) (af.mk y47.2 p1.end_ p1.open_ p1.terms)).bind fun y49=>Sum.elim (fun y52=>gv fuel p1 y4 y19 y52 y47.1) (fun y53=>some (.inr (y53.1,y53.2))) y49) (fun y48=>some (.inr (y48.1,y48.2))) y44) else (gv fuel p1 y4 y19 y43.2 [])) (fun y20=>some (.inr (y20.1,y20.2))) y16) (fun y15=>some (.inr (y15.1,y15.2))) y11
noncomputable def mu(fuel:Nat)(p1:af):Option ((TEq×(List ab)×Int×Int) ⊕ (Int×Int)) :=
  if (0≤0∧0<(p1.l.length:Int)) then ((jP 30 p1).bind fun y1=>Sum.elim (fun y4=>(aM (lit ([([61]:Ω)]:List Ω)) (af.mk y4.2 p1.end_ p1.open_ p1.terms)).bind fun y6=>Sum.elim (fun y9=>if (y4.1.length:Int)=1 then ((aO (lit ([([99,97,108,108]:Ω)]:List Ω)) (af.mk y9 p1.end_ p1.open_ p1.terms)).bind fun y54=>if y54=true then (gy fuel p1 y4 y9) else ((gR fuel (af.mk y9 p1.end_ p1.open_ p1.terms)).bind fun y55=>Sum.elim (fun y58=>some (.inl ((TEq.mk ((p1.l.getD 0 default).at_) y4.1 [] [] (lit ([(y58.1)]:List ae))),y58.2.1,y58.2.2.1,y58.2.2.2))) (fun y59=>some (.inr (y59.1,y59.2))) y55)) else (gy fuel p1 y4 y9)) (fun y10=>some (.inr (y10.1,y10.2))) y6) (fun y5=>some (.inr (y5.1,y5.2))) y1) else none
end Pam
namespace Pam
open Go
noncomputable def fp(p1:af)(y5:((Ω)×(List ab)))(l8:List Ω)(l15:List ax)(y24:((List ax)×(List ab)))(l35:List ab)(x36 x37:Int)(l38:List ax)(l40:List TEq):Option ((aJ×(List ab)×Int×Int) ⊕ (Int×Int)) :=
  (aX (af.mk l35 p1.end_ x36 x37)).bind fun y42=>some (.inl ((aJ.mk y5.1 ((p1.l.getD 0 default).at_) l8 l15 y24.1 l38 l40),y42.2,x36,x37))
noncomputable def fq(p1:af)(l81:List ab)(x82 x83:Int)(l84:List ax)(l86:List TEq):Option (((List ab)×Int×Int×(List ax)×(List TEq)) ⊕ (((List ab)×Int×Int×(List ax)×(List TEq)) ⊕ ((aJ×(List ab)×Int×Int) ⊕ (Int×Int)))) :=
  (aM (lit ([([59]:Ω)]:List Ω)) (af.mk l81 p1.end_ x82 x83)).bind fun y88=>Sum.elim (fun y91=>some (.inl (y91,x82,x83,l84,l86))) (fun y92=>some (.inr (.inr (.inr (y92.1,y92.2))))) y88
noncomputable def eJ(fuel:Nat)(p1:af)(x70 x71:Int)(l72:List ax)(l74:List TEq)(y93:(Bool×(List ab))):Option (((List ab)×Int×Int×(List ax)×(List TEq)) ⊕ (((List ab)×Int×Int×(List ax)×(List TEq)) ⊕ ((aJ×(List ab)×Int×Int) ⊕ (Int×Int)))) :=
  if (y93.2.length:Int)=0 then ((aL 4 (af.mk y93.2 p1.end_ x70 x71)).bind fun y102=>some (.inr (.inr (.inr (y102.1,y102.2))))) else ((mu fuel (af.mk y93.2 p1.end_ x70 x71)).bind fun y103=>Sum.elim (fun y104=>if lQ (l74.length+1) 96 then (fq p1 y104.2.1 y104.2.2.1 y104.2.2.2 l72 (l74++(lit ([(y104.1)]:List TEq)))) else none) (fun y105=>some (.inr (.inr (.inr (y105.1,y105.2))))) y103)
noncomputable def jq(fuel:Nat)(p1:af)(l69:List ab)(x70 x71:Int)(l72:List ax)(l74:List TEq):Option (((List ab)×Int×Int×(List ax)×(List TEq)) ⊕ (((List ab)×Int×Int×(List ax)×(List TEq)) ⊕ ((aJ×(List ab)×Int×Int) ⊕ (Int×Int)))) :=
  (aO (lit ([([125]:Ω)]:List Ω)) (af.mk l69 p1.end_ x70 x71)).bind fun y76=>if y76=true then (some (.inr (.inl (l69,x70,x71,l72,l74)))) else ((bp ([118,97,114]:Ω) (af.mk l69 p1.end_ x70 x71)).bind fun y93=>if y93.1=true then (if (l72.length:Int)=30 then ((aL 7 (af.mk y93.2 p1.end_ x70 x71)).bind fun y94=>some (.inr (.inr (.inr (y94.1,y94.2))))) else ((jg (af.mk y93.2 p1.end_ x70 x71)).bind fun y95=>Sum.elim (fun y96=>if lQ (l72.length+1) 48 then (fq p1 y96.2 x70 x71 (l72++(lit ([(ax.mk ((y96.1).name) ((y96.1).t))]:List ax))) l74) else none) (fun y97=>some (.inr (.inr (.inr (y97.1,y97.2))))) y95)) else (if (y93.2.length:Int)>0 then (if (0≤0∧0<(y93.2.length:Int)) then (if ((y93.2.getD 0 default).kind)=2 then (if (l74.length:Int)=60 then ((aL 7 (af.mk y93.2 p1.end_ x70 x71)).bind fun y106=>some (.inr (.inr (.inr (y106.1,y106.2))))) else (eJ fuel p1 x70 x71 l72 l74 y93)) else (eJ fuel p1 x70 x71 l72 l74 y93)) else none) else (eJ fuel p1 x70 x71 l72 l74 y93)))
noncomputable def ft(fuel:Nat)(p1:af)(y5:((Ω)×(List ab)))(l8:List Ω)(l14:List ab)(l15:List ax):Option ((aJ×(List ab)×Int×Int) ⊕ (Int×Int)) :=
  (aM (lit ([([41]:Ω),([45,62]:Ω),([40]:Ω)]:List Ω)) (af.mk l14 p1.end_ p1.open_ p1.terms)).bind fun y16=>Sum.elim (fun y19=>(iJ 30 (af.mk y19 p1.end_ p1.open_ p1.terms)).bind fun y21=>Sum.elim (fun y24=>(aM (lit ([([41]:Ω),([123]:Ω)]:List Ω)) (af.mk y24.2 p1.end_ p1.open_ p1.terms)).bind fun y26=>Sum.elim (fun y29=>(bD (fun (l69,x70,x71,l72,l74)=>jq fuel p1 l69 x70 x71 l72 l74) (y29,p1.open_,p1.terms,[],[])).bind (Sum.elim (fun (z107,z108,z109,z110,z111)=>fp p1 y5 l8 l15 y24 z107 z108 z109 z110 z111) (fun z112=>some z112))) (fun y30=>some (.inr (y30.1,y30.2))) y26) (fun y25=>some (.inr (y25.1,y25.2))) y21) (fun y20=>some (.inr (y20.1,y20.2))) y16
noncomputable def fv(fuel:Nat)(p1:af)(y5:((Ω)×(List ab)))(l7:List ab)(l8:List Ω):Option ((aJ×(List ab)×Int×Int) ⊕ (Int×Int)) :=
  (aM (lit ([([40]:Ω)]:List Ω)) (af.mk l7 p1.end_ p1.open_ p1.terms)).bind fun y9=>Sum.elim (fun y12=>(aO (lit ([([41]:Ω)]:List Ω)) (af.mk y12 p1.end_ p1.open_ p1.terms)).bind fun y113=>if y113=true then (ft fuel p1 y5 l8 y12 []) else ((iJ 30 (af.mk y12 p1.end_ p1.open_ p1.terms)).bind fun y114=>Sum.elim (fun y117=>ft fuel p1 y5 l8 y117.2 y117.1) (fun y118=>some (.inr (y118.1,y118.2))) y114)) (fun y13=>some (.inr (y13.1,y13.2))) y9
noncomputable def kZ(fuel:Nat)(p1:af):Option ((aJ×(List ab)×Int×Int) ⊕ (Int×Int)) :=
  if (0≤0∧0<(p1.l.length:Int)) then ((aX p1).bind fun y1=>(bu (af.mk y1.2 p1.end_ p1.open_ p1.terms)).bind fun y2=>Sum.elim (fun y5=>(bp ([60]:Ω) (af.mk y5.2 p1.end_ p1.open_ p1.terms)).bind fun y119=>if y119.1=true then ((jP 3 (af.mk y119.2 p1.end_ p1.open_ p1.terms)).bind fun y120=>Sum.elim (fun y123=>(aM (lit ([([62]:Ω)]:List Ω)) (af.mk y123.2 p1.end_ p1.open_ p1.terms)).bind fun y125=>Sum.elim (fun y128=>fv fuel p1 y5 y128 y123.1) (fun y129=>some (.inr (y129.1,y129.2))) y125) (fun y124=>some (.inr (y124.1,y124.2))) y120) else (fv fuel p1 y5 y119.2 [])) (fun y6=>some (.inr (y6.1,y6.2))) y2) else none
end Pam
namespace Pam
open Go
noncomputable def jA(l4:List ab)(x5 x6:Int)(l7:List aJ):Option (aD×ap) :=
  some ((aD.mk l7),(ap.mk 0 0))
noncomputable def jB(fuel:Nat)(p1:Ω)(l25:List ab)(x26 x27:Int)(l28:List aJ):Option (((List ab)×Int×Int×(List aJ)) ⊕ (((List ab)×Int×Int×(List aJ)) ⊕ (aD×ap))) :=
  (aO (lit ([([110,111,100,101]:Ω)]:List Ω)) (af.mk l25 (p1.length:Int) x26 x27)).bind fun y32=>if y32=true then (if (l28.length:Int)=10 then ((aL 7 (af.mk l25 (p1.length:Int) x26 x27)).bind fun y33=>some (.inr (.inr ((aD.mk []),(ap.mk y33.1 y33.2))))) else ((kZ fuel (af.mk l25 (p1.length:Int) x26 x27)).bind fun y34=>Sum.elim (fun y35=>if lQ (l28.length+1) 144 then (some (.inl (y35.2.1,y35.2.2.1,y35.2.2.2,(l28++(lit ([(y35.1)]:List aJ)))))) else none) (fun y36=>some (.inr (.inr ((aD.mk []),(ap.mk y36.1 y36.2))))) y34)) else ((aL 4 (af.mk l25 (p1.length:Int) x26 x27)).bind fun y37=>some (.inr (.inr ((aD.mk []),(ap.mk y37.1 y37.2)))))
noncomputable def mT(fuel:Nat)(p1:Ω)(l25:List ab)(x26 x27:Int)(l28:List aJ):Option (((List ab)×Int×Int×(List aJ)) ⊕ (((List ab)×Int×Int×(List aJ)) ⊕ (aD×ap))) :=
  if (l25.length:Int)>0 then (jB fuel p1 l25 x26 x27 l28) else (if (l28.length:Int)=0 then (jB fuel p1 l25 x26 x27 l28) else (some (.inr (.inl (l25,x26,x27,l28)))))
noncomputable def lb(fuel:Nat)(p1:Ω):Option (aD×ap) :=
  (n8 p1).bind fun y1=>if ¬ ((y1.2).code)=0 then (some ((aD.mk []),(y1.2))) else ((bD (fun (l25,x26,x27,l28)=>mT fuel p1 l25 x26 x27 l28) (y1.1,0,0,[])).bind (Sum.elim (fun (z38,z39,z40,z41)=>jA z38 z39 z40 z41) (fun z42=>some z42)))
end Pam
namespace Pam
open Go
noncomputable def mw(fuel:Nat)(p1:aD):Option ((Ω)×ap) :=
  (mq fuel p1).bind fun y1=>if ¬ ((y1).code)=0 then (some (([]:Ω),(y1))) else ((mo fuel p1).bind fun y2=>some (y2,(ap.mk 0 0)))
end Pam
namespace Pam
open Go
noncomputable def mU(fuel:Nat):Option Bool :=
  (lb fuel ([110,111,100,101,32,97,40,41,32,45,62,32,40,121,58,32,105,110,116,94,50,41,32,123,32,121,32,61,32,102,105,108,108,40,45,40,49,32,43,32,50,41,44,32,50,41,59,32,125]:Ω)).bind fun y1=>(mw fuel (y1.1)).bind fun y2=>if ((y1.2).code)=0 then (if ((y2.2).code)=0 then (some (y2.1 == ([110,111,100,101,32,97,40,41,32,45,62,32,40,121,58,32,105,110,116,94,50,41,32,123,10,9,121,32,61,32,102,105,108,108,40,45,40,49,32,43,32,50,41,44,32,50,41,59,10,125,10]:Ω))) else (some false)) else (some false)
end Pam
namespace Pam
open Go
noncomputable def jQ(p1:List Ω)(p2:Int):Option Int :=
  some (IntKind.wrap .i64 (p2 - (p1.length:Int)))
noncomputable def eM(p1:List Ω)(x3:Int):Option (Int ⊕ (Unit ⊕ Int)) :=
  if x3<(p1.length:Int) then (if (0≤x3∧x3<(p1.length:Int)) then (if ((p1.getD x3.toNat default).length:Int)>100 then (some (.inr (.inr (-1)))) else (some (.inl (IntKind.wrap .i64 (x3+1))))) else none) else (some (.inr (.inl ())))
noncomputable def ky(p1:List Ω)(p2:Int):Option Int :=
  if (p1.length:Int)>2000 then (some (-1)) else ((bD (fun x3=>eM p1 x3) 0).bind (Sum.elim (fun _=>jQ p1 p2) (fun z4=>some z4)))
end Pam
namespace Pam
open Go
noncomputable def ij(x1:Int):Option Int :=
  some x1
noncomputable def jR(p1:List (List ah))(x6 x7:Int):Option ((Int×Int) ⊕ (Int ⊕ Int)) :=
  some (.inl ((IntKind.wrap .i64 (x6 - ((p1.getD x7.toNat default).length:Int))),(IntKind.wrap .i64 (x7+1))))
noncomputable def eN(p1:List (List ah))(x7 x10:Int):Option (Int ⊕ (Unit ⊕ Int)) :=
  if x10<((p1.getD x7.toNat default).length:Int) then (if (0≤x10∧x10<((p1.getD x7.toNat default).length:Int)) then (if ((((p1.getD x7.toNat default).getD x10.toNat default).name).length:Int)>100 then (some (.inr (.inr (-1)))) else (some (.inl (IntKind.wrap .i64 (x10+1))))) else none) else (some (.inr (.inl ())))
noncomputable def eO(p1:List (List ah))(x6 x7:Int):Option ((Int×Int) ⊕ (Int ⊕ Int)) :=
  if x7<(p1.length:Int) then (if x6≥0 then (if (0≤x7∧x7<(p1.length:Int)) then (if ((p1.getD x7.toNat default).length:Int)>2000 then (some (.inr (.inr (-1)))) else ((bD (fun x10=>eN p1 x7 x10) 0).bind (Sum.elim (fun _=>jR p1 x6 x7) (fun z11=>some (.inr (.inr z11)))))) else none) else (some (.inr (.inl x6)))) else (some (.inr (.inl x6)))
noncomputable def jh(p1:List (List ah))(p2:Int):Option Int :=
  (bD (fun (x6,x7)=>eO p1 x6 x7) ((IntKind.wrap .i64 (p2 - (p1.length:Int))),0)).bind (Sum.elim (fun z12=>ij z12) (fun z13=>some z13))
end Pam
namespace Pam
open Go
noncomputable def ik(x1:Int):Option Int :=
  some x1
noncomputable def eP(p1:List ax)(x6 x7:Int):Option ((Int×Int) ⊕ (Int ⊕ Int)) :=
  if x7<(p1.length:Int) then (if x6≥0 then (if (0≤x7∧x7<(p1.length:Int)) then (if (((p1.getD x7.toNat default).name).length:Int)>100 then (some (.inr (.inr (-1)))) else ((jh (lit ([((p1.getD x7.toNat default).t).n]:List (List ah))) x6).bind fun y8=>some (.inl (y8,(IntKind.wrap .i64 (x7+1)))))) else none) else (some (.inr (.inl x6)))) else (some (.inr (.inl x6)))
noncomputable def ji(p1:List ax)(p2:Int):Option Int :=
  (bD (fun (x6,x7)=>eP p1 x6 x7) ((IntKind.wrap .i64 (p2 - (p1.length:Int))),0)).bind (Sum.elim (fun z9=>ik z9) (fun z10=>some z10))
end Pam
namespace Pam
open Go
noncomputable def im(x1:Int):Option Int :=
  some x1
noncomputable def eR(rcf:(List ae)→Int→Option Int)(p1:List ae)(x6 x7:Int):Option ((Int×Int) ⊕ (Int ⊕ Int)) :=
  if x7<(p1.length:Int) then (if x6≥0 then (if (0≤x7∧x7<(p1.length:Int)) then (if (((p1.getD x7.toNat default).name).length:Int)>100 then (some (.inr (.inr (-1)))) else ((jh ((p1.getD x7.toNat default).s) x6).bind fun y8=>if y8≥0 then ((rcf ((p1.getD x7.toNat default).l) y8).bind fun y9=>some (.inl (y9,(IntKind.wrap .i64 (x7+1))))) else (some (.inl (y8,(IntKind.wrap .i64 (x7+1))))))) else none) else (some (.inr (.inl x6)))) else (some (.inr (.inl x6)))
noncomputable def kz(rcf:(List ae)→Int→Option Int)(p1:List ae)(p2:Int):Option Int :=
  (bD (fun (x6,x7)=>eR rcf p1 x6 x7) ((IntKind.wrap .i64 (p2 - (p1.length:Int))),0)).bind (Sum.elim (fun z10=>im z10) (fun z11=>some z11))
noncomputable def eu:Nat→(List ae)→Int→Option Int
  |0=>fun _ _=>none
  |n+1=>kz (eu n)
noncomputable def pG(fuel:Nat)(p1:List ae)(p2:Int):Option Int:=eu fuel p1 p2
end Pam
namespace Pam
open Go
noncomputable def my(x1:Int):Option Bool :=
  some (decide (x1<0))
noncomputable def mz(x7 x8:Int):Option ((Int×Int) ⊕ (Int ⊕ Bool)) :=
  some (.inl (x8,(IntKind.wrap .i64 (x7+1))))
noncomputable def lc(fuel:Nat)(p1:aD)(x7 x18 x20:Int):Option ((Int×Int) ⊕ (Int ⊕ Bool)) :=
  if x20≥0 then ((pG fuel ((((p1.nodes.getD x7.toNat default).eqs).getD x18.toNat default).e) x20).bind fun y21=>some (.inl (y21,(IntKind.wrap .i64 (x18+1))))) else (some (.inl (x20,(IntKind.wrap .i64 (x18+1)))))
noncomputable def iU(fuel:Nat)(p1:aD)(x7 x17 x18:Int):Option ((Int×Int) ⊕ (Int ⊕ Bool)) :=
  if x18<(((p1.nodes.getD x7.toNat default).eqs).length:Int) then (if x17≥0 then (if (0≤x18∧x18<(((p1.nodes.getD x7.toNat default).eqs).length:Int)) then (if (((((p1.nodes.getD x7.toNat default).eqs).getD x18.toNat default).node).length:Int)>100 then (some (.inr (.inr true))) else ((ky ((((p1.nodes.getD x7.toNat default).eqs).getD x18.toNat default).names) x17).bind fun y19=>if y19≥0 then ((jh ((((p1.nodes.getD x7.toNat default).eqs).getD x18.toNat default).s) y19).bind fun y22=>lc fuel p1 x7 x18 y22) else (lc fuel p1 x7 x18 y19))) else none) else (some (.inr (.inl x17)))) else (some (.inr (.inl x17)))
noncomputable def iV(fuel:Nat)(p1:aD)(x6 x7:Int):Option ((Int×Int) ⊕ (Int ⊕ Bool)) :=
  if x7<(p1.nodes.length:Int) then (if x6≥0 then (if (0≤x7∧x7<(p1.nodes.length:Int)) then (if (((p1.nodes.getD x7.toNat default).name).length:Int)>100 then (some (.inr (.inr true))) else (if (((p1.nodes.getD x7.toNat default).eqs).length:Int)>1000 then (some (.inr (.inr true))) else ((ky ((p1.nodes.getD x7.toNat default).sizes) x6).bind fun y9=>(ji ((p1.nodes.getD x7.toNat default).in_) y9).bind fun y10=>(ji ((p1.nodes.getD x7.toNat default).out_) y10).bind fun y11=>(ji ((p1.nodes.getD x7.toNat default).local_) y11).bind fun y12=>(bD (fun (x17,x18)=>iU fuel p1 x7 x17 x18) (y12,0)).bind (Sum.elim (fun z23=>mz x7 z23) (fun z24=>some (.inr (.inr z24))))))) else none) else (some (.inr (.inl x6)))) else (some (.inr (.inl x6)))
noncomputable def qH(fuel:Nat)(p1:aD):Option Bool :=
  if (p1.nodes.length:Int)>100 then (some true) else ((bD (fun (x6,x7)=>iV fuel p1 x6 x7) (8000,0)).bind (Sum.elim (fun z25=>my z25) (fun z26=>some z26)))
end Pam
namespace Pam
open Go
noncomputable def lC(p1:List Ω):Option (List Ω) :=
  if lQ p1.length 16 then (some p1) else none
end Pam
namespace Pam
open Go
noncomputable def kA(l3:List ax):Option (List ax) :=
  some l3
noncomputable def gS(p1 l17:List ax)(x19:Int):Option (((List ax)×Int) ⊕ (List ax)) :=
  if x19<(p1.length:Int) then (if (0≤x19∧x19<(p1.length:Int)) then (if lQ ((((p1.getD x19.toNat default).t).n).length) 24 then (if lQ (l17.length+1) 48 then (some (.inl ((l17++(lit ([(ax.mk ((p1.getD x19.toNat default).name) ((p1.getD x19.toNat default).t))]:List ax))),(IntKind.wrap .i64 (x19+1))))) else none) else none) else none) else (some (.inr l17))
noncomputable def kc(p1:List ax):Option (List ax) :=
  (bD (fun (l17,x19)=>gS p1 l17 x19) ([],0)).bind (fun z20=>kA z20)
end Pam
namespace Pam
open Go
noncomputable def kB(l3:List (List ah)):Option (List (List ah)) :=
  some l3
noncomputable def gT(p1 l17:List (List ah))(x19:Int):Option (((List (List ah))×Int) ⊕ (List (List ah))) :=
  if x19<(p1.length:Int) then (if (0≤x19∧x19<(p1.length:Int))∧lQ ((p1.getD x19.toNat default).length) 24 then (if lQ (l17.length+1) 24 then (some (.inl ((l17++(lit ([(p1.getD x19.toNat default)]:List (List ah)))),(IntKind.wrap .i64 (x19+1))))) else none) else none) else (some (.inr l17))
noncomputable def lD(p1:List (List ah)):Option (List (List ah)) :=
  (bD (fun (l17,x19)=>gT p1 l17 x19) ([],0)).bind (fun z20=>kB z20)
end Pam
namespace Pam
open Go
noncomputable def kC(l3:List ae):Option (List ae) :=
  some l3
noncomputable def gU(rcf:(List ae)→Option (List ae))(p1 l17:List ae)(x19:Int):Option (((List ae)×Int) ⊕ (List ae)) :=
  if x19<(p1.length:Int) then (if (0≤x19∧x19<(p1.length:Int)) then ((lD ((p1.getD x19.toNat default).s)).bind fun y20=>(rcf ((p1.getD x19.toNat default).l)).bind fun y21=>if lQ (l17.length+1) 88 then (some (.inl ((l17++(lit ([(ae.mk ((p1.getD x19.toNat default).op) ((p1.getD x19.toNat default).k) ((p1.getD x19.toNat default).n) ((p1.getD x19.toNat default).name) y20 y21)]:List ae))),(IntKind.wrap .i64 (x19+1))))) else none) else none) else (some (.inr l17))
noncomputable def lm(rcf:(List ae)→Option (List ae))(p1:List ae):Option (List ae) :=
  (bD (fun (l17,x19)=>gU rcf p1 l17 x19) ([],0)).bind (fun z22=>kC z22)
noncomputable def fE:Nat→(List ae)→Option (List ae)
  |0=>fun _=>none
  |n+1=>lm (fE n)
noncomputable def qp(fuel:Nat)(p1:List ae):Option (List ae):=fE fuel p1
end Pam
namespace Pam
open Go
noncomputable def jj(l3:List aJ):Option aD :=
  some (aD.mk l3)
noncomputable def jk(x19:Int)(l22:List aJ):Option (((List aJ)×Int) ⊕ (List aJ)) :=
  some (.inl (l22,(IntKind.wrap .i64 (x19+1))))
noncomputable def gV(p1:aD)(l17:List aJ)(x19:Int)(y24:(List Ω))(y25 y26 y27:(List ax))(l32:List TEq):Option (((List aJ)×Int) ⊕ (List aJ)) :=
  if lQ (l17.length+1) 144 then (jk x19 (l17++(lit ([(aJ.mk ((p1.nodes.getD x19.toNat default).name) ((p1.nodes.getD x19.toNat default).at_) y24 y25 y26 y27 l32)]:List aJ)))) else none
noncomputable def fM(fuel:Nat)(p1:aD)(x19:Int)(l54:List TEq)(x56:Int):Option (((List TEq)×Int) ⊕ (List TEq)) :=
  if x56<(((p1.nodes.getD x19.toNat default).eqs).length:Int) then (if (0≤x56∧x56<(((p1.nodes.getD x19.toNat default).eqs).length:Int)) then ((lC ((((p1.nodes.getD x19.toNat default).eqs).getD x56.toNat default).names)).bind fun y57=>(lD ((((p1.nodes.getD x19.toNat default).eqs).getD x56.toNat default).s)).bind fun y58=>(qp fuel ((((p1.nodes.getD x19.toNat default).eqs).getD x56.toNat default).e)).bind fun y59=>if lQ (l54.length+1) 96 then (some (.inl ((l54++(lit ([(TEq.mk ((((p1.nodes.getD x19.toNat default).eqs).getD x56.toNat default).at_) y57 ((((p1.nodes.getD x19.toNat default).eqs).getD x56.toNat default).node) y58 y59)]:List TEq))),(IntKind.wrap .i64 (x56+1))))) else none) else none) else (some (.inr l54))
noncomputable def fN(fuel:Nat)(p1:aD)(l17:List aJ)(x19:Int):Option (((List aJ)×Int) ⊕ (List aJ)) :=
  if x19<(p1.nodes.length:Int) then (if (0≤x19∧x19<(p1.nodes.length:Int)) then ((lC ((p1.nodes.getD x19.toNat default).sizes)).bind fun y24=>(kc ((p1.nodes.getD x19.toNat default).in_)).bind fun y25=>(kc ((p1.nodes.getD x19.toNat default).out_)).bind fun y26=>(kc ((p1.nodes.getD x19.toNat default).local_)).bind fun y27=>(bD (fun (l54,x56)=>fM fuel p1 x19 l54 x56) ([],0)).bind (fun z60=>gV p1 l17 x19 y24 y25 y26 y27 z60)) else none) else (some (.inr l17))
noncomputable def ln(fuel:Nat)(p1:aD):Option aD :=
  (bD (fun (l17,x19)=>fN fuel p1 l17 x19) ([],0)).bind (fun z61=>jj z61)
end Pam
namespace Pam
open Go
noncomputable def so(p1 p2:Int):Option ap :=
  some (ap.mk p1 p2)
end Pam
namespace Pam
open Go
noncomputable def sT(p1:Int):Option Bool :=
  if p1≥97 then (some (decide (p1≤122))) else (some false)
end Pam
namespace Pam
open Go
noncomputable def lE:Option Bool :=
  some false
noncomputable def kd(p1:Ω)(x3:Int):Option (Int ⊕ (Unit ⊕ Bool)) :=
  if x3<(32:Int) then (if (0≤x3∧x3<(32:Int)) then (if ((lit ([([97,100,100]:Ω),([97,110,100]:Ω),([98,111,111,108]:Ω),([99,97,108,108]:Ω),([99,97,116]:Ω),([100,105,118]:Ω),([101,108,115,101]:Ω),([101,113]:Ω),([102,97,108,115,101]:Ω),([102,105,108,108]:Ω),([102,111,108,100]:Ω),([105,102]:Ω),([105,110,116]:Ω),([108,101,115,115]:Ω),([109,97,112]:Ω),([109,97,120]:Ω),([109,105,110]:Ω),([109,111,100]:Ω),([109,117,108]:Ω),([110,101,103]:Ω),([110,111,100,101]:Ω),([110,111,116]:Ω),([111,114]:Ω),([112,114,101]:Ω),([115,99,97,110]:Ω),([115,108,105,99,101]:Ω),([115,117,98]:Ω),([116,104,101,110]:Ω),([116,114,117,101]:Ω),([118,97,114]:Ω),([119,105,116,104]:Ω),([120,111,114]:Ω)]:List Ω)).getD x3.toNat default)=p1 then (some (.inr (.inr true))) else (some (.inl (IntKind.wrap .i64 (x3+1))))) else none) else (some (.inr (.inl ())))
noncomputable def pH(p1:Ω):Option Bool :=
  (bD (fun x3=>kd p1 x3) 0).bind (Sum.elim (fun _=>lE) (fun z4=>some z4))
end Pam
namespace Pam
open Go
noncomputable def uS(p1:Int):Option Bool :=
  if p1≥48 then (some (decide (p1≤57))) else (some false)
end Pam
namespace Pam
open Go
noncomputable def mP:Option Bool :=
  some true
noncomputable def qq(p1:Ω)(x5:Int):Option (Int ⊕ (Unit ⊕ Bool)) :=
  if x5<(p1.length:Int) then (if (0≤x5∧x5<(p1.length:Int)) then ((sT ((p1.getD x5.toNat 0).toNat:Int)).bind fun y6=>if y6=true then (some (.inl (IntKind.wrap .i64 (x5+1)))) else ((uS ((p1.getD x5.toNat 0).toNat:Int)).bind fun y7=>if y7=true then (some (.inl (IntKind.wrap .i64 (x5+1)))) else (some (.inr (.inr false))))) else none) else (some (.inr (.inl ())))
noncomputable def iu(p1:Ω):Option Bool :=
  if (p1.length:Int)<1 then (some false) else (if (p1.length:Int)>12 then (some false) else (if (0≤0∧0<(p1.length:Int)) then ((sT ((p1.getD 0 0).toNat:Int)).bind fun y1=>if y1=true then ((pH p1).bind fun y2=>if y2=true then (some false) else ((bD (fun x5=>qq p1 x5) 0).bind (Sum.elim (fun _=>mP) (fun z8=>some z8)))) else (some false)) else none))
end Pam
namespace Pam
open Go
noncomputable def kD:Option Int :=
  some 0
noncomputable def kE(p1:List ah)(x3:Int):Option (Int ⊕ (Unit ⊕ Int)) :=
  if x3<(p1.length:Int) then (if (0≤x3∧x3<(p1.length:Int)) then (if ((p1.getD x3.toNat default).n)≤(-1000000000000000000) then (some (.inr (.inr 2))) else (if ((p1.getD x3.toNat default).n)≥1000000000000000000 then (some (.inr (.inr 2))) else (if ((p1.getD x3.toNat default).name)=([]:Ω) then (some (.inl (IntKind.wrap .i64 (x3+1)))) else ((iu ((p1.getD x3.toNat default).name)).bind fun y4=>if y4=true then (some (.inl (IntKind.wrap .i64 (x3+1)))) else (some (.inr (.inr 3))))))) else none) else (some (.inr (.inl ())))
noncomputable def ke(p1:List ah):Option Int :=
  if (p1.length:Int)=0 then (some 4) else (if (p1.length:Int)>30 then (some 7) else ((bD (fun x3=>kE p1 x3) 0).bind (Sum.elim (fun _=>kD) (fun z5=>some z5))))
end Pam
namespace Pam
open Go
noncomputable def jS:Option Int :=
  some 0
noncomputable def gm(p1:List ax)(x3:Int):Option (Int ⊕ (Unit ⊕ Int)) :=
  if ((((p1.getD x3.toNat default).t).n).length:Int)>0 then ((ke (((p1.getD x3.toNat default).t).n)).bind fun y5=>if ¬ y5=0 then (some (.inr (.inr y5))) else (some (.inl (IntKind.wrap .i64 (x3+1))))) else (some (.inl (IntKind.wrap .i64 (x3+1))))
noncomputable def jT(p1:List ax)(x3:Int):Option (Int ⊕ (Unit ⊕ Int)) :=
  if x3<(p1.length:Int) then (if (0≤x3∧x3<(p1.length:Int)) then ((iu ((p1.getD x3.toNat default).name)).bind fun y4=>if y4=true then (if ¬ (((p1.getD x3.toNat default).t).elem)=105 then (if ¬ (((p1.getD x3.toNat default).t).elem)=98 then (some (.inr (.inr 10))) else (gm p1 x3)) else (gm p1 x3)) else (some (.inr (.inr 3)))) else none) else (some (.inr (.inl ())))
noncomputable def kF(p1:List ax):Option Int :=
  if (p1.length:Int)>30 then (some 7) else ((bD (fun x3=>jT p1 x3) 0).bind (Sum.elim (fun _=>jS) (fun z6=>some z6)))
end Pam
namespace Pam
open Go
noncomputable def kG:Option Int :=
  some 0
noncomputable def iZ(p1:aJ)(x4:Int):Option (Int ⊕ (Unit ⊕ Int)) :=
  if x4<3 then (if (0≤x4∧x4<(3:Int)) then ((kF ((lit ([p1.in_,p1.out_,p1.local_]:List (List ax))).getD x4.toNat default)).bind fun y5=>if ¬ y5=0 then (some (.inr (.inr y5))) else (some (.inl (IntKind.wrap .i64 (x4+1))))) else none) else (some (.inr (.inl ())))
noncomputable def gW(p1:aJ):Option Int :=
  if (p1.out_.length:Int)=0 then (some 4) else ((bD (fun x4=>iZ p1 x4) 0).bind (Sum.elim (fun _=>kG) (fun z6=>some z6)))
noncomputable def kH(p1:aJ)(x9:Int):Option (Int ⊕ (Unit ⊕ Int)) :=
  if x9<(p1.sizes.length:Int) then (if (0≤x9∧x9<(p1.sizes.length:Int)) then ((iu (p1.sizes.getD x9.toNat default)).bind fun y10=>if y10=true then (some (.inl (IntKind.wrap .i64 (x9+1)))) else (some (.inr (.inr 3)))) else none) else (some (.inr (.inl ())))
noncomputable def mQ(p1:aJ):Option Int :=
  (iu p1.name).bind fun y1=>if y1=true then (if (p1.sizes.length:Int)>3 then (some 7) else (if (p1.eqs.length:Int)>60 then (some 7) else ((bD (fun x9=>kH p1 x9) 0).bind (Sum.elim (fun _=>gW p1) (fun z11=>some z11))))) else (some 3)
end Pam
namespace Pam
open Go
noncomputable def nF(x1:Int):Option Int :=
  some x1
noncomputable def lf(rcf:ae→Option Int)(p1:ae)(x6 x7:Int):Option ((Int×Int) ⊕ Int) :=
  if x7<(p1.l.length:Int) then (if (0≤x7∧x7<(p1.l.length:Int)) then ((rcf (p1.l.getD x7.toNat default)).bind fun y8=>some (.inl ((IntKind.wrap .i64 (x6+y8)),(IntKind.wrap .i64 (x7+1))))) else none) else (some (.inr x6))
noncomputable def oG(rcf:ae→Option Int)(p1:ae):Option Int :=
  (bD (fun (x6,x7)=>lf rcf p1 x6 x7) (1,0)).bind (fun z9=>nF z9)
noncomputable def jU:Nat→ae→Option Int
  |0=>fun _=>none
  |n+1=>oG (jU n)
noncomputable def uT(fuel:Nat)(p1:ae):Option Int:=jU fuel p1
end Pam
namespace Pam
open Go
noncomputable def iv(p1:ae):Option Bool :=
  if p1.op=1 then (some true) else (if p1.n=0 then (some true) else (if p1.op=2 then (some (p1.n == 1)) else (some false)))
noncomputable def bo(p1:ae)(x1 x2:Int)(b3:Bool):Option Bool :=
  if ¬ (p1.l.length:Int)=x1 then (some false) else (if ¬ (p1.s.length:Int)=x2 then (some false) else (if b3=true then (if p1.name=([]:Ω) then (iv p1) else (if ¬ p1.op=3 then (some false) else (iv p1))) else (some false)))
noncomputable def jC(p1:ae)(b6:Bool):Option Bool :=
  if (p1.l.length:Int)=1 then (bo p1 1 0 b6) else (bo p1 2 0 b6)
noncomputable def iw(p1:ae)(b8:Bool):Option Bool :=
  if b8=true then (bo p1 2 0 (p1.k == 0)) else (some false)
noncomputable def ix(p1:ae)(b7:Bool):Option Bool :=
  if b7=true then (if p1.k≥1 then (bo p1 2 0 (decide (p1.k≤14))) else (bo p1 2 0 false)) else (if p1.op=10 then (bo p1 1 1 (p1.k == 0)) else (if p1.op=13 then (bo p1 1 2 (p1.k == 0)) else (if p1.op=14 then (iw p1 (p1.op == 14)) else (iw p1 (p1.op == 15)))))
noncomputable def fF(p1:ae)(b5:Bool):Option Bool :=
  if b5=true then (bo p1 3 0 (p1.k == 0)) else (if p1.op=7 then (if p1.k≥1 then (jC p1 (decide (p1.k≤14))) else (jC p1 false)) else (if p1.op=8 then (ix p1 (p1.op == 8)) else (ix p1 (p1.op == 9))))
noncomputable def fG(p1:ae)(b4:Bool):Option Bool :=
  if b4=true then (bo p1 0 0 (p1.k == 0)) else (if p1.op=4 then (if p1.k=13 then (bo p1 1 0 true) else (bo p1 1 0 (p1.k == 14))) else (if p1.op=5 then (if p1.k≥1 then (bo p1 2 0 (decide (p1.k≤12))) else (bo p1 2 0 false)) else (if p1.op=6 then (fF p1 (p1.op == 6)) else (if p1.op=11 then (fF p1 (p1.op == 11)) else (fF p1 (p1.op == 12))))))
noncomputable def nG(p1:ae):Option Bool :=
  if p1.op=1 then (fG p1 (p1.op == 1)) else (if p1.op=2 then (fG p1 (p1.op == 2)) else (fG p1 (p1.op == 3)))
end Pam
namespace Pam
open Go
noncomputable def kI:Option Int :=
  some 0
noncomputable def kJ(rcf:ae→Option Int)(p1:ae)(x4:Int):Option (Int ⊕ (Unit ⊕ Int)) :=
  if x4<(p1.l.length:Int) then (if (0≤x4∧x4<(p1.l.length:Int)) then ((rcf (p1.l.getD x4.toNat default)).bind fun y5=>if ¬ y5=0 then (some (.inr (.inr y5))) else (some (.inl (IntKind.wrap .i64 (x4+1))))) else none) else (some (.inr (.inl ())))
noncomputable def gX(rcf:ae→Option Int)(p1:ae):Option Int :=
  (bD (fun x4=>kJ rcf p1 x4) 0).bind (Sum.elim (fun _=>kI) (fun z6=>some z6))
noncomputable def kK(p1:ae)(x9:Int):Option (Int ⊕ (Unit ⊕ Int)) :=
  if x9<(p1.s.length:Int) then (if (0≤x9∧x9<(p1.s.length:Int)) then ((ke (p1.s.getD x9.toNat default)).bind fun y10=>if ¬ y10=0 then (some (.inr (.inr y10))) else (some (.inl (IntKind.wrap .i64 (x9+1))))) else none) else (some (.inr (.inl ())))
noncomputable def gY(rcf:ae→Option Int)(p1:ae):Option Int :=
  if p1.n<0 then (some 2) else (if p1.n≥1000000000000000000 then (some 2) else ((bD (fun x9=>kK p1 x9) 0).bind (Sum.elim (fun _=>gX rcf p1) (fun z11=>some z11))))
noncomputable def lq(rcf:ae→Option Int)(p1:ae):Option Int :=
  (nG p1).bind fun y1=>if y1=true then (if p1.op=3 then ((iu p1.name).bind fun y12=>if y12=true then (gY rcf p1) else (some 3)) else (gY rcf p1)) else (some 4)
noncomputable def fH:Nat→ae→Option Int
  |0=>fun _=>none
  |n+1=>lq (fH n)
noncomputable def qr(fuel:Nat)(p1:ae):Option Int:=fH fuel p1
end Pam
namespace Pam
open Go
noncomputable def lX:Option Int :=
  some 0
noncomputable def lY(fuel:Nat)(p1:TEq)(x3:Int):Option (Int ⊕ (Unit ⊕ Int)) :=
  if x3<(p1.e.length:Int) then (if (0≤x3∧x3<(p1.e.length:Int)) then ((uT fuel (p1.e.getD x3.toNat default)).bind fun y4=>if y4>30 then (some (.inr (.inr 7))) else ((qr fuel (p1.e.getD x3.toNat default)).bind fun y5=>if ¬ y5=0 then (some (.inr (.inr y5))) else (some (.inl (IntKind.wrap .i64 (x3+1)))))) else none) else (some (.inr (.inl ())))
noncomputable def jl(fuel:Nat)(p1:TEq):Option Int :=
  (bD (fun x3=>lY fuel p1 x3) 0).bind (Sum.elim (fun _=>lX) (fun z6=>some z6))
noncomputable def lZ(p1:TEq)(x9:Int):Option (Int ⊕ (Unit ⊕ Int)) :=
  if x9<(p1.s.length:Int) then (if (0≤x9∧x9<(p1.s.length:Int)) then ((ke (p1.s.getD x9.toNat default)).bind fun y10=>if ¬ y10=0 then (some (.inr (.inr y10))) else (some (.inl (IntKind.wrap .i64 (x9+1))))) else none) else (some (.inr (.inl ())))
noncomputable def jm(fuel:Nat)(p1:TEq):Option Int :=
  (bD (fun x9=>lZ p1 x9) 0).bind (Sum.elim (fun _=>jl fuel p1) (fun z11=>some z11))
noncomputable def jn(fuel:Nat)(p1:TEq):Option Int :=
  if p1.node=([]:Ω) then (jm fuel p1) else ((iu p1.node).bind fun y12=>if y12=true then (jm fuel p1) else (some 3))
noncomputable def ma(p1:TEq)(x15:Int):Option (Int ⊕ (Unit ⊕ Int)) :=
  if x15<(p1.names.length:Int) then (if (0≤x15∧x15<(p1.names.length:Int)) then ((iu (p1.names.getD x15.toNat default)).bind fun y16=>if y16=true then (some (.inl (IntKind.wrap .i64 (x15+1)))) else (some (.inr (.inr 3)))) else none) else (some (.inr (.inl ())))
noncomputable def jo(fuel:Nat)(p1:TEq):Option Int :=
  if (p1.names.length:Int)>30 then (some 7) else (if (p1.e.length:Int)>30 then (some 7) else (if (p1.s.length:Int)>3 then (some 7) else ((bD (fun x15=>ma p1 x15) 0).bind (Sum.elim (fun _=>jn fuel p1) (fun z17=>some z17)))))
noncomputable def oH(fuel:Nat)(p1:TEq):Option Int :=
  if (p1.names.length:Int)=0 then (some 4) else (if p1.node=([]:Ω) then (if (p1.names.length:Int)>1 then (some 4) else (if ¬ (p1.e.length:Int)=1 then (some 4) else (if (p1.s.length:Int)>0 then (some 4) else (jo fuel p1)))) else (jo fuel p1))
end Pam
namespace Pam
open Go
noncomputable def kL(s1:Ω):Option Ω :=
  some s1
noncomputable def gZ(p1:List Ω)(x7:Int)(s8:Ω):Option (((Ω)×Int) ⊕ Ω) :=
  if (0≤x7∧x7<(p1.length:Int))∧s8.length+(p1.getD x7.toNat default).length≤maxLen then (some (.inl ((s8++(p1.getD x7.toNat default)),(IntKind.wrap .i64 (x7+1))))) else none
noncomputable def hI(p1:List Ω)(s6:Ω)(x7:Int):Option (((Ω)×Int) ⊕ Ω) :=
  if x7<(p1.length:Int) then (if x7>0 then (if s6.length+2≤maxLen then (gZ p1 x7 (s6++([44,32]:Ω))) else none) else (gZ p1 x7 s6)) else (some (.inr s6))
noncomputable def gc(p1:List Ω):Option Ω :=
  (bD (fun (s6,x7)=>hI p1 s6 x7) (([]:Ω),0)).bind (fun z9=>kL z9)
end Pam
namespace Pam
open Go
noncomputable def lr(s1:Ω):Option Ω :=
  some s1
noncomputable def e9(p1:List ah)(x7:Int)(s12:Ω):Option (((Ω)×Int) ⊕ Ω) :=
  if s12.length+((p1.getD x7.toNat default).name).length≤maxLen then (some (.inl ((s12++((p1.getD x7.toNat default).name)),(IntKind.wrap .i64 (x7+1))))) else none
noncomputable def gB(p1:List ah)(x7 x8:Int)(s11:Ω):Option (((Ω)×Int) ⊕ Ω) :=
  if ((p1.getD x7.toNat default).name)=([]:Ω) then ((fj x8 10).bind fun y13=>if s11.length+y13.length≤maxLen then (if ((p1.getD x7.toNat default).name)=([]:Ω) then (e9 p1 x7 (s11++y13)) else (if s11.length+y13.length+1≤maxLen then (e9 p1 x7 ((s11++y13)++([42]:Ω))) else none)) else none) else (if ¬ x8=1 then ((fj x8 10).bind fun y14=>if s11.length+y14.length≤maxLen then (if ((p1.getD x7.toNat default).name)=([]:Ω) then (e9 p1 x7 (s11++y14)) else (if s11.length+y14.length+1≤maxLen then (e9 p1 x7 ((s11++y14)++([42]:Ω))) else none)) else none) else (e9 p1 x7 s11))
noncomputable def fa(p1:List ah)(x7 x8:Int)(s10:Ω):Option (((Ω)×Int) ⊕ Ω) :=
  if x7=0 then (if ((p1.getD x7.toNat default).n)<0 then (if s10.length+1≤maxLen then (gB p1 x7 x8 (s10++([45]:Ω))) else none) else (gB p1 x7 x8 s10)) else (gB p1 x7 x8 s10)
noncomputable def fb(p1:List ah)(x7 x8:Int)(s9:Ω):Option (((Ω)×Int) ⊕ Ω) :=
  if x7>0 then (if ((p1.getD x7.toNat default).n)<0 then (fa p1 x7 x8 s9) else (if s9.length+3≤maxLen then (fa p1 x7 x8 (s9++([32,43,32]:Ω))) else none)) else (fa p1 x7 x8 s9)
noncomputable def iy(p1:List ah)(s6:Ω)(x7 x8:Int):Option (((Ω)×Int) ⊕ Ω) :=
  if x7>0 then (if ((p1.getD x7.toNat default).n)<0 then (if s6.length+3≤maxLen then (fb p1 x7 x8 (s6++([32,45,32]:Ω))) else none) else (fb p1 x7 x8 s6)) else (fb p1 x7 x8 s6)
noncomputable def iz(p1:List ah)(s6:Ω)(x7:Int):Option (((Ω)×Int) ⊕ Ω) :=
  if x7<(p1.length:Int) then (if (0≤x7∧x7<(p1.length:Int)) then (if ((p1.getD x7.toNat default).n)<0 then (iy p1 s6 x7 (IntKind.wrap .i64 (0 - ((p1.getD x7.toNat default).n)))) else (iy p1 s6 x7 ((p1.getD x7.toNat default).n))) else none) else (some (.inr s6))
noncomputable def lg(p1:List ah):Option Ω :=
  (bD (fun (s6,x7)=>iz p1 s6 x7) (([]:Ω),0)).bind (fun z15=>lr z15)
end Pam
namespace Pam
open Go
noncomputable def iA(p1:ax)(s1:Ω):Option Ω :=
  if (p1.t.n.length:Int)>0 then ((lg p1.t.n).bind fun y2=>if 1+y2.length≤maxLen∧s1.length+1+y2.length≤maxLen then (some (s1++(([94]:Ω)++y2))) else none) else (some s1)
noncomputable def jV(p1:ax):Option Ω :=
  if p1.name.length+2≤maxLen then (if p1.t.elem=98 then (if p1.name.length+2+4≤maxLen then (iA p1 ((p1.name++([58,32]:Ω))++([98,111,111,108]:Ω))) else none) else (if p1.name.length+2+3≤maxLen then (iA p1 ((p1.name++([58,32]:Ω))++([105,110,116]:Ω))) else none)) else none
end Pam
namespace Pam
open Go
noncomputable def i6(s1:Ω):Option Ω :=
  if 1+s1.length≤maxLen∧1+s1.length+1≤maxLen then (some ((([40]:Ω)++s1)++([41]:Ω))) else none
noncomputable def hK(p1:List ax)(x7:Int)(s8:Ω):Option (((Ω)×Int) ⊕ Ω) :=
  if (0≤x7∧x7<(p1.length:Int)) then ((jV (ax.mk ((p1.getD x7.toNat default).name) ((p1.getD x7.toNat default).t))).bind fun y9=>if s8.length+y9.length≤maxLen then (some (.inl ((s8++y9),(IntKind.wrap .i64 (x7+1))))) else none) else none
noncomputable def hO(p1:List ax)(s6:Ω)(x7:Int):Option (((Ω)×Int) ⊕ Ω) :=
  if x7<(p1.length:Int) then (if x7>0 then (if s6.length+2≤maxLen then (hK p1 x7 (s6++([44,32]:Ω))) else none) else (hK p1 x7 s6)) else (some (.inr s6))
noncomputable def lF(p1:List ax):Option Ω :=
  (bD (fun (s6,x7)=>hO p1 s6 x7) (([]:Ω),0)).bind (fun z10=>i6 z10)
end Pam
namespace Pam
open Go
noncomputable def qI(p1:ae):Option Int :=
  if p1.op=6 then (some 0) else (if p1.op=4 then (some 6) else (if p1.op=5 then (if (0≤p1.k∧p1.k<(13:Int)) then (some ((lit ([7,4,4,5,5,5,7,7,3,3,2,1,1]:List Int)).getD p1.k.toNat default)) else none) else (some 7)))
end Pam
namespace Pam
open Go
noncomputable def bY(p2 y1:Int)(s2:Ω):Option Ω :=
  if y1<p2 then (if 1+s2.length≤maxLen∧1+s2.length+1≤maxLen then (some ((([40]:Ω)++s2)++([41]:Ω))) else none) else (some s2)
noncomputable def iB(rcf:ae→Int→Option Ω)(p1:ae)(p2 y1 x15:Int):Option Ω :=
  if (0≤0∧0<(p1.l.length:Int)) then ((rcf (p1.l.getD 0 default) x15).bind fun y16=>if y16.length+1≤maxLen∧(0≤p1.k∧p1.k<(13:Int))∧y16.length+1+((lit ([([]:Ω),([43]:Ω),([45]:Ω),([42]:Ω),([47]:Ω),([37]:Ω),([]:Ω),([]:Ω),([60]:Ω),([61,61]:Ω),([97,110,100]:Ω),([111,114]:Ω),([120,111,114]:Ω)]:List Ω)).getD p1.k.toNat default).length≤maxLen∧(y16.length+1)+(((lit ([([]:Ω),([43]:Ω),([45]:Ω),([42]:Ω),([47]:Ω),([37]:Ω),([]:Ω),([]:Ω),([60]:Ω),([61,61]:Ω),([97,110,100]:Ω),([111,114]:Ω),([120,111,114]:Ω)]:List Ω)).getD p1.k.toNat default).length)+1≤maxLen∧(0≤1∧1<(p1.l.length:Int)) then ((rcf (p1.l.getD 1 default) (IntKind.wrap .i64 (y1+1))).bind fun y17=>if ((y16.length+1)+(((lit ([([]:Ω),([43]:Ω),([45]:Ω),([42]:Ω),([47]:Ω),([37]:Ω),([]:Ω),([]:Ω),([60]:Ω),([61,61]:Ω),([97,110,100]:Ω),([111,114]:Ω),([120,111,114]:Ω)]:List Ω)).getD p1.k.toNat default).length))+1+y17.length≤maxLen then (bY p2 y1 ((((y16++([32]:Ω))++((lit ([([]:Ω),([43]:Ω),([45]:Ω),([42]:Ω),([47]:Ω),([37]:Ω),([]:Ω),([]:Ω),([60]:Ω),([61,61]:Ω),([97,110,100]:Ω),([111,114]:Ω),([120,111,114]:Ω)]:List Ω)).getD p1.k.toNat default))++([32]:Ω))++y17)) else none) else none) else none
noncomputable def jD(p2 y1:Int)(s21:Ω):Option Ω :=
  if s21.length+1≤maxLen then (bY p2 y1 (s21++([41]:Ω))) else none
noncomputable def iC(p1:ae)(s26:Ω)(x27:Int):Option (((Ω)×Int) ⊕ Ω) :=
  if x27<(p1.s.length:Int) then (if (0≤x27∧x27<(p1.s.length:Int)) then ((lg (p1.s.getD x27.toNat default)).bind fun y28=>if 2+y28.length≤maxLen∧s26.length+2+y28.length≤maxLen then (some (.inl ((s26++(([44,32]:Ω)++y28)),(IntKind.wrap .i64 (x27+1))))) else none) else none) else (some (.inr s26))
noncomputable def gC(p1:ae)(p2 y1:Int)(s20:Ω):Option Ω :=
  (bD (fun (s26,x27)=>iC p1 s26 x27) (s20,0)).bind (fun z29=>jD p2 y1 z29)
noncomputable def hP(rcf:ae→Int→Option Ω)(p1:ae)(x35:Int)(s36:Ω):Option (((Ω)×Int) ⊕ Ω) :=
  if (0≤x35∧x35<(p1.l.length:Int)) then ((rcf (p1.l.getD x35.toNat default) 0).bind fun y37=>if s36.length+y37.length≤maxLen then (some (.inl ((s36++y37),(IntKind.wrap .i64 (x35+1))))) else none) else none
noncomputable def iD(rcf:ae→Int→Option Ω)(p1:ae)(s34:Ω)(x35:Int):Option (((Ω)×Int) ⊕ Ω) :=
  if x35<(p1.l.length:Int) then (if x35>0 then (if s34.length+2≤maxLen then (hP rcf p1 x35 (s34++([44,32]:Ω))) else none) else (hP rcf p1 x35 s34)) else (some (.inr s34))
noncomputable def gD(rcf:ae→Int→Option Ω)(p1:ae)(p2 y1:Int)(s19:Ω):Option Ω :=
  (bD (fun (s34,x35)=>iD rcf p1 s34 x35) (s19,0)).bind (fun z38=>gC p1 p2 y1 z38)
noncomputable def fV(rcf:ae→Int→Option Ω)(p1:ae)(p2 y1:Int)(s18:Ω)(b39:Bool):Option Ω :=
  if b39=true then (if (0≤p1.k∧p1.k<(15:Int))∧((lit ([([]:Ω),([97,100,100]:Ω),([115,117,98]:Ω),([109,117,108]:Ω),([100,105,118]:Ω),([109,111,100]:Ω),([109,105,110]:Ω),([109,97,120]:Ω),([108,101,115,115]:Ω),([101,113]:Ω),([97,110,100]:Ω),([111,114]:Ω),([120,111,114]:Ω),([110,101,103]:Ω),([110,111,116]:Ω)]:List Ω)).getD p1.k.toNat default).length+2≤maxLen∧s18.length+(((lit ([([]:Ω),([97,100,100]:Ω),([115,117,98]:Ω),([109,117,108]:Ω),([100,105,118]:Ω),([109,111,100]:Ω),([109,105,110]:Ω),([109,97,120]:Ω),([108,101,115,115]:Ω),([101,113]:Ω),([97,110,100]:Ω),([111,114]:Ω),([120,111,114]:Ω),([110,101,103]:Ω),([110,111,116]:Ω)]:List Ω)).getD p1.k.toNat default).length)+2≤maxLen then (gD rcf p1 p2 y1 (s18++(((lit ([([]:Ω),([97,100,100]:Ω),([115,117,98]:Ω),([109,117,108]:Ω),([100,105,118]:Ω),([109,111,100]:Ω),([109,105,110]:Ω),([109,97,120]:Ω),([108,101,115,115]:Ω),([101,113]:Ω),([97,110,100]:Ω),([111,114]:Ω),([120,111,114]:Ω),([110,101,103]:Ω),([110,111,116]:Ω)]:List Ω)).getD p1.k.toNat default)++([44,32]:Ω)))) else none) else (gD rcf p1 p2 y1 s18)
noncomputable def fI(rcf:ae→Int→Option Ω)(p1:ae)(p2 y1:Int)(s18:Ω):Option Ω :=
  if p1.op=7 then (fV rcf p1 p2 y1 s18 true) else (if p1.op=8 then (fV rcf p1 p2 y1 s18 true) else (fV rcf p1 p2 y1 s18 (p1.op == 9)))
noncomputable def iE(rcf:ae→Int→Option Ω)(p1:ae)(p2 y1:Int)(b14:Bool):Option Ω :=
  if b14=true then (if y1=3 then (iB rcf p1 p2 y1 4) else (iB rcf p1 p2 y1 y1)) else (if (0≤p1.op∧p1.op<(16:Int))∧((lit ([([]:Ω),([]:Ω),([]:Ω),([]:Ω),([]:Ω),([]:Ω),([]:Ω),([109,97,112]:Ω),([102,111,108,100]:Ω),([115,99,97,110]:Ω),([102,105,108,108]:Ω),([]:Ω),([119,105,116,104]:Ω),([115,108,105,99,101]:Ω),([99,97,116]:Ω),([112,114,101]:Ω)]:List Ω)).getD p1.op.toNat default).length+1≤maxLen then (if p1.op=5 then (if (0≤p1.k∧p1.k<(15:Int))∧((lit ([([]:Ω),([97,100,100]:Ω),([115,117,98]:Ω),([109,117,108]:Ω),([100,105,118]:Ω),([109,111,100]:Ω),([109,105,110]:Ω),([109,97,120]:Ω),([108,101,115,115]:Ω),([101,113]:Ω),([97,110,100]:Ω),([111,114]:Ω),([120,111,114]:Ω),([110,101,103]:Ω),([110,111,116]:Ω)]:List Ω)).getD p1.k.toNat default).length+1≤maxLen then (fI rcf p1 p2 y1 (((lit ([([]:Ω),([97,100,100]:Ω),([115,117,98]:Ω),([109,117,108]:Ω),([100,105,118]:Ω),([109,111,100]:Ω),([109,105,110]:Ω),([109,97,120]:Ω),([108,101,115,115]:Ω),([101,113]:Ω),([97,110,100]:Ω),([111,114]:Ω),([120,111,114]:Ω),([110,101,103]:Ω),([110,111,116]:Ω)]:List Ω)).getD p1.k.toNat default)++([40]:Ω))) else none) else (fI rcf p1 p2 y1 (((lit ([([]:Ω),([]:Ω),([]:Ω),([]:Ω),([]:Ω),([]:Ω),([]:Ω),([109,97,112]:Ω),([102,111,108,100]:Ω),([115,99,97,110]:Ω),([102,105,108,108]:Ω),([]:Ω),([119,105,116,104]:Ω),([115,108,105,99,101]:Ω),([99,97,116]:Ω),([112,114,101]:Ω)]:List Ω)).getD p1.op.toNat default)++([40]:Ω)))) else none)
noncomputable def iF(rcf:ae→Int→Option Ω)(p1:ae)(p2 y1:Int)(b5:Bool):Option Ω :=
  if b5=true then (if (0≤0∧0<(p1.l.length:Int)) then ((rcf (p1.l.getD 0 default) 6).bind fun y6=>if 1+y6.length≤maxLen then (bY p2 y1 (([45]:Ω)++y6)) else none) else none) else (if p1.op=4 then (if (0≤0∧0<(p1.l.length:Int)) then ((rcf (p1.l.getD 0 default) 6).bind fun y7=>if 4+y7.length≤maxLen then (bY p2 y1 (([110,111,116,32]:Ω)++y7)) else none) else none) else (if p1.op=6 then (if (0≤0∧0<(p1.l.length:Int)) then ((rcf (p1.l.getD 0 default) 0).bind fun y8=>if 3+y8.length≤maxLen∧3+y8.length+6≤maxLen∧(0≤1∧1<(p1.l.length:Int)) then ((rcf (p1.l.getD 1 default) 0).bind fun y9=>if (3+y8.length)+6+y9.length≤maxLen∧((3+y8.length)+6)+y9.length+6≤maxLen∧(0≤2∧2<(p1.l.length:Int)) then ((rcf (p1.l.getD 2 default) 0).bind fun y10=>if (((3+y8.length)+6)+y9.length)+6+y10.length≤maxLen then (bY p2 y1 (((((([105,102,32]:Ω)++y8)++([32,116,104,101,110,32]:Ω))++y9)++([32,101,108,115,101,32]:Ω))++y10)) else none) else none) else none) else none) else (if p1.op=11 then (if (0≤0∧0<(p1.l.length:Int)) then ((rcf (p1.l.getD 0 default) 7).bind fun y11=>if y11.length+1≤maxLen∧(0≤1∧1<(p1.l.length:Int)) then ((rcf (p1.l.getD 1 default) 0).bind fun y12=>if y11.length+1+y12.length≤maxLen∧(y11.length+1)+y12.length+3≤maxLen∧(0≤2∧2<(p1.l.length:Int)) then ((rcf (p1.l.getD 2 default) 0).bind fun y13=>if ((y11.length+1)+y12.length)+3+y13.length≤maxLen∧(((y11.length+1)+y12.length)+3)+y13.length+1≤maxLen then (bY p2 y1 (((((y11++([91]:Ω))++y12)++([32,58,32]:Ω))++y13)++([93]:Ω))) else none) else none) else none) else none) else (if p1.op=5 then (iE rcf p1 p2 y1 (decide (y1<7))) else (iE rcf p1 p2 y1 false)))))
noncomputable def iG(rcf:ae→Int→Option Ω)(p1:ae)(p2 y1:Int)(b4:Bool):Option Ω :=
  if b4=true then (bY p2 y1 ([116,114,117,101]:Ω)) else (if p1.op=2 then (bY p2 y1 ([102,97,108,115,101]:Ω)) else (if p1.op=3 then (bY p2 y1 p1.name) else (if p1.op=4 then (iF rcf p1 p2 y1 (p1.k == 13)) else (iF rcf p1 p2 y1 false))))
noncomputable def mb(rcf:ae→Int→Option Ω)(p1:ae)(p2:Int):Option Ω :=
  (qI p1).bind fun y1=>if p1.op=1 then ((fj p1.n 10).bind fun y3=>bY p2 y1 y3) else (if p1.op=2 then (iG rcf p1 p2 y1 (p1.n == 1)) else (iG rcf p1 p2 y1 false))
noncomputable def bO:Nat→ae→Int→Option Ω
  |0=>fun _ _=>none
  |n+1=>mb (bO n)
noncomputable def pf(fuel:Nat)(p1:ae)(p2:Int):Option Ω:=bO fuel p1 p2
end Pam
namespace Pam
open Go
noncomputable def lG(s3:Ω)(l6:List Ω):Option Ω :=
  if s3.length+1≤maxLen then ((gc l6).bind fun y8=>if s3.length+1+y8.length≤maxLen∧(s3.length+1)+y8.length+1≤maxLen then (some (((s3++([40]:Ω))++y8)++([41]:Ω))) else none) else none
noncomputable def kf(fuel:Nat)(p1:TEq)(l21:List Ω)(x23:Int):Option (((List Ω)×Int) ⊕ (List Ω)) :=
  if x23<(p1.e.length:Int) then (if (0≤x23∧x23<(p1.e.length:Int)) then ((pf fuel (p1.e.getD x23.toNat default) 0).bind fun y24=>if lQ (l21.length+1) 16 then (some (.inl ((l21++(lit ([y24]:List Ω))),(IntKind.wrap .i64 (x23+1))))) else none) else none) else (some (.inr l21))
noncomputable def kg(fuel:Nat)(p1:TEq)(s3:Ω):Option Ω :=
  (bD (fun (l21,x23)=>kf fuel p1 l21 x23) ([],0)).bind (fun z25=>lG s3 z25)
noncomputable def lH(fuel:Nat)(p1:TEq)(y1:Ω)(l28:List Ω):Option Ω :=
  (gc l28).bind fun y30=>if 1+y30.length≤maxLen∧1+y30.length+1≤maxLen∧(y1.length+3)+(5+p1.node.length)+(1+y30.length)+1≤maxLen then (kg fuel p1 (((y1++([32,61,32]:Ω))++(([99,97,108,108,32]:Ω)++p1.node))++((([60]:Ω)++y30)++([62]:Ω)))) else none
noncomputable def kh(p1:TEq)(l43:List Ω)(x45:Int):Option (((List Ω)×Int) ⊕ (List Ω)) :=
  if x45<(p1.s.length:Int) then (if (0≤x45∧x45<(p1.s.length:Int)) then ((lg (p1.s.getD x45.toNat default)).bind fun y46=>if lQ (l43.length+1) 16 then (some (.inl ((l43++(lit ([y46]:List Ω))),(IntKind.wrap .i64 (x45+1))))) else none) else none) else (some (.inr l43))
noncomputable def n9(fuel:Nat)(p1:TEq):Option Ω :=
  (gc p1.names).bind fun y1=>if y1.length+3≤maxLen then (if p1.node=([]:Ω) then (if (0≤0∧0<(p1.e.length:Int)) then ((pf fuel (p1.e.getD 0 default) 0).bind fun y2=>if y1.length+3+y2.length≤maxLen then (some ((y1++([32,61,32]:Ω))++y2)) else none) else none) else (if 5+p1.node.length≤maxLen∧y1.length+3+5+p1.node.length≤maxLen then (if (p1.s.length:Int)>0 then ((bD (fun (l43,x45)=>kh p1 l43 x45) ([],0)).bind (fun z47=>lH fuel p1 y1 z47)) else (kg fuel p1 ((y1++([32,61,32]:Ω))++(([99,97,108,108,32]:Ω)++p1.node)))) else none)) else none
end Pam
namespace Pam
open Go
noncomputable def oI(s1:Ω):Option Ω :=
  some s1
noncomputable def oJ(x7:Int)(s8:Ω):Option (((Ω)×Int) ⊕ Ω) :=
  some (.inl (s8,(IntKind.wrap .i64 (x7+1))))
noncomputable def mc(x7:Int)(s13:Ω):Option (((Ω)×Int) ⊕ Ω) :=
  if s13.length+2≤maxLen then (oJ x7 (s13++([125,10]:Ω))) else none
noncomputable def kR(fuel:Nat)(p1:aD)(x7:Int)(s18:Ω)(x19:Int):Option (((Ω)×Int) ⊕ Ω) :=
  if x19<(((p1.nodes.getD x7.toNat default).eqs).length:Int) then (if (0≤x19∧x19<(((p1.nodes.getD x7.toNat default).eqs).length:Int)) then ((n9 fuel (((p1.nodes.getD x7.toNat default).eqs).getD x19.toNat default)).bind fun y20=>if 1+y20.length≤maxLen∧1+y20.length+2≤maxLen∧s18.length+(1+y20.length)+2≤maxLen then (some (.inl ((s18++((([9]:Ω)++y20)++([59,10]:Ω))),(IntKind.wrap .i64 (x19+1))))) else none) else none) else (some (.inr s18))
noncomputable def nh(fuel:Nat)(p1:aD)(x7:Int)(s12:Ω):Option (((Ω)×Int) ⊕ Ω) :=
  (bD (fun (s18,x19)=>kR fuel p1 x7 s18 x19) (s12,0)).bind (fun z21=>mc x7 z21)
noncomputable def me(p1:aD)(x7:Int)(s26:Ω)(x27:Int):Option (((Ω)×Int) ⊕ Ω) :=
  if x27<(((p1.nodes.getD x7.toNat default).local_).length:Int) then (if (0≤x27∧x27<(((p1.nodes.getD x7.toNat default).local_).length:Int)) then ((jV (ax.mk ((((p1.nodes.getD x7.toNat default).local_).getD x27.toNat default).name) ((((p1.nodes.getD x7.toNat default).local_).getD x27.toNat default).t))).bind fun y28=>if 5+y28.length≤maxLen∧5+y28.length+2≤maxLen∧s26.length+(5+y28.length)+2≤maxLen then (some (.inl ((s26++((([9,118,97,114,32]:Ω)++y28)++([59,10]:Ω))),(IntKind.wrap .i64 (x27+1))))) else none) else none) else (some (.inr s26))
noncomputable def mg(fuel:Nat)(p1:aD)(x7:Int)(s9:Ω):Option (((Ω)×Int) ⊕ Ω) :=
  (lF ((p1.nodes.getD x7.toNat default).in_)).bind fun y10=>if y10.length+4≤maxLen then ((lF ((p1.nodes.getD x7.toNat default).out_)).bind fun y11=>if y10.length+4+y11.length≤maxLen∧(y10.length+4)+y11.length+3≤maxLen∧s9.length+((y10.length+4)+y11.length)+3≤maxLen then ((bD (fun (s26,x27)=>me p1 x7 s26 x27) ((s9++(((y10++([32,45,62,32]:Ω))++y11)++([32,123,10]:Ω))),0)).bind (fun z29=>nh fuel p1 x7 z29)) else none) else none
noncomputable def mh(fuel:Nat)(p1:aD)(s6:Ω)(x7:Int):Option (((Ω)×Int) ⊕ Ω) :=
  if x7<(p1.nodes.length:Int) then (if (0≤x7∧x7<(p1.nodes.length:Int)) then (if 5+((p1.nodes.getD x7.toNat default).name).length≤maxLen∧s6.length+5+(((p1.nodes.getD x7.toNat default).name).length)≤maxLen then (if (((p1.nodes.getD x7.toNat default).sizes).length:Int)>0 then ((gc ((p1.nodes.getD x7.toNat default).sizes)).bind fun y30=>if 1+y30.length≤maxLen∧1+y30.length+1≤maxLen∧s6.length+(5+(((p1.nodes.getD x7.toNat default).name).length))+(1+y30.length)+1≤maxLen then (mg fuel p1 x7 ((s6++(([110,111,100,101,32]:Ω)++((p1.nodes.getD x7.toNat default).name)))++((([60]:Ω)++y30)++([62]:Ω)))) else none) else (mg fuel p1 x7 (s6++(([110,111,100,101,32]:Ω)++((p1.nodes.getD x7.toNat default).name))))) else none) else none) else (some (.inr s6))
noncomputable def sr(fuel:Nat)(p1:aD):Option Ω :=
  (bD (fun (s6,x7)=>mh fuel p1 s6 x7) (([]:Ω),0)).bind (fun z31=>oI z31)
end Pam
namespace Pam
open Go
noncomputable def fO(fuel:Nat)(p1:aD):Option ap :=
  (sr fuel p1).bind fun y3=>if (y3.length:Int)>12000 then ((so 7 (-1)).bind fun y4=>some (y4)) else (some (ap.mk 0 0))
noncomputable def fP(x10 x11:Int):Option ((Int×Int) ⊕ (Unit ⊕ ap)) :=
  some (.inl (x11,(IntKind.wrap .i64 (x10+1))))
noncomputable def cT(fuel:Nat)(p1:aD)(x10 x18 x19:Int):Option ((Int×Int) ⊕ (Int ⊕ ap)) :=
  if x19<(((p1.nodes.getD x10.toNat default).eqs).length:Int) then (if (0≤x19∧x19<(((p1.nodes.getD x10.toNat default).eqs).length:Int)) then ((oH fuel (((p1.nodes.getD x10.toNat default).eqs).getD x19.toNat default)).bind fun y20=>if ¬ y20=0 then ((so y20 x18).bind fun y21=>some (.inr (.inr (y21)))) else (some (.inl ((IntKind.wrap .i64 (x18+1)),(IntKind.wrap .i64 (x19+1)))))) else none) else (some (.inr (.inl x18)))
noncomputable def cM(fuel:Nat)(p1:aD)(x9 x10:Int):Option ((Int×Int) ⊕ (Unit ⊕ ap)) :=
  if x10<(p1.nodes.length:Int) then (if (0≤x10∧x10<(p1.nodes.length:Int)) then ((mQ (p1.nodes.getD x10.toNat default)).bind fun y12=>if ¬ y12=0 then ((so y12 (IntKind.wrap .i64 ((-2) - x10))).bind fun y13=>some (.inr (.inr (y13)))) else ((bD (fun (x18,x19)=>cT fuel p1 x10 x18 x19) (x9,0)).bind (Sum.elim (fun z22=>fP x10 z22) (fun z23=>some (.inr (.inr z23)))))) else none) else (some (.inr (.inl ())))
noncomputable def jE(fuel:Nat)(p1:aD):Option ap :=
  if (p1.nodes.length:Int)=0 then ((so 9 (-1)).bind fun y1=>some (y1)) else (if (p1.nodes.length:Int)>10 then ((so 7 (-1)).bind fun y2=>some (y2)) else ((bD (fun (x9,x10)=>cM fuel p1 x9 x10) (0,0)).bind (Sum.elim (fun _=>fO fuel p1) (fun z24=>some z24))))
end Pam
namespace Pam
open Go
noncomputable def mA(fuel:Nat)(p1:aD):Option Bool :=
  (mU fuel ).bind fun y1=>if y1=true then ((qH fuel p1).bind fun y2=>if y2=true then (some true) else ((ln fuel p1).bind fun y3=>(mq fuel (y3)).bind fun y4=>(jE fuel p1).bind fun y5=>some ((((y4).code) == ((y5).code)) && (((y4).at_) == ((y5).at_))))) else (some false)
end Pam
namespace Pam
open Go
end Pam
namespace Pam
open Go
end Pam
namespace Pam
open Go
end Pam
namespace Pam
open Go
end Pam
namespace Pam
open Go
end Pam
namespace Pam
open Go
end Pam
