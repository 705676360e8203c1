/- what slices_Clone_int_int computes, read off the program by a program of ours -/
import Derived.Test.YtohhobobecjigaaGreatQaData1
import Derived.Test.YtohhobobecjigaaGreatQBase3
set_option linter.all false
namespace Pam
open Go
noncomputable def co(p1:List Int):Option (List Int) :=
  if p1=[] then (some []) else (if cw p1.length 8 then (some p1) else none)
noncomputable def hZ(p1:Int)(p2:az):Option Bool :=
  if p1≥0 then (some (decide (p1<(p2.system.vars.length:Int)))) else (some false)
noncomputable def eh:Option Int :=
  some (-1)
noncomputable def eo(p1:List Int)(p2 x3:Int):Option (Int ⊕ (Unit ⊕ Int)) :=
  if x3<(p1.length:Int) then (if (0≤x3∧x3<(p1.length:Int)) then (if p2=(p1.getD x3.toNat default) then (some (.inr (.inr x3))) else (some (.inl (IntKind.wrap .i64 (x3+1))))) else none) else (some (.inr (.inl ())))
noncomputable def fJ(p1:List Int)(p2:Int):Option Int :=
  (aM (fun x3=>eo p1 p2 x3) 0).bind (Sum.elim (fun _=>eh) (fun z4=>some z4))
noncomputable def ep(p1:List Int)(p2:Int):Option Bool :=
  (fJ p1 p2).bind fun y1=>some (decide (y1≥0))
noncomputable def ia:Option an :=
  some (an.mk 0 0)
noncomputable def ib(p1:az)(x3:Int):Option (Int ⊕ (Unit ⊕ an)) :=
  if x3<(p1.system.out_.length:Int) then (if (0≤x3∧x3<(p1.system.out_.length:Int)) then ((hZ (p1.system.out_.getD x3.toNat default) p1).bind fun y4=>if y4=true then (some (.inl (IntKind.wrap .i64 (x3+1)))) else (some (.inr (.inr (an.mk 16 (-1)))))) else none) else (some (.inr (.inl ())))
noncomputable def eA(p1:az):Option an :=
  (aM (fun x3=>ib p1 x3) 0).bind (Sum.elim (fun _=>ia) (fun z5=>some z5))
noncomputable def ie(p1:az)(x8:Int):Option (Int ⊕ (Unit ⊕ an)) :=
  if x8<(p1.system.in_.length:Int) then (if (0≤x8∧x8<(p1.system.in_.length:Int)) then ((hZ (p1.system.in_.getD x8.toNat default) p1).bind fun y9=>if y9=true then (if (0≤x8∧x8≤(p1.system.in_.length:Int)) then ((ep (p1.system.in_.take x8.toNat) (p1.system.in_.getD x8.toNat default)).bind fun y10=>if y10=true then (some (.inr (.inr (an.mk 8 (-1))))) else (some (.inl (IntKind.wrap .i64 (x8+1))))) else none) else (some (.inr (.inr (an.mk 16 (-1)))))) else none) else (some (.inr (.inl ())))
noncomputable def dR(p1:az):Option an :=
  (aM (fun x8=>ie p1 x8) 0).bind (Sum.elim (fun _=>eA p1) (fun z11=>some z11))
noncomputable def eC(p1:az)(x14:Int):Option (Int ⊕ (Unit ⊕ an)) :=
  if ((p1.system.vars.getD x14.toNat default).n)<0 then (some (.inr (.inr (an.mk 13 (IntKind.wrap .i64 ((-2) - x14)))))) else (if ((p1.system.vars.getD x14.toNat default).n)>300 then (some (.inr (.inr (an.mk 13 (IntKind.wrap .i64 ((-2) - x14)))))) else (some (.inl (IntKind.wrap .i64 (x14+1)))))
noncomputable def fM(p1:az)(x14:Int):Option (Int ⊕ (Unit ⊕ an)) :=
  if x14<(p1.system.vars.length:Int) then (if (0≤x14∧x14<(p1.system.vars.length:Int)) then (if ¬ ((p1.system.vars.getD x14.toNat default).elem)=105 then (if ¬ ((p1.system.vars.getD x14.toNat default).elem)=98 then (some (.inr (.inr (an.mk 10 (IntKind.wrap .i64 ((-2) - x14)))))) else (eC p1 x14)) else (eC p1 x14)) else none) else (some (.inr (.inl ())))
noncomputable def jX(p1:az):Option an :=
  if (p1.system.vars.length:Int)>400 then (some (an.mk 7 (-1))) else (if (p1.system.rules.length:Int)>400 then (some (an.mk 7 (-1))) else (if (p1.system.in_.length:Int)>400 then (some (an.mk 7 (-1))) else (if (p1.system.out_.length:Int)>400 then (some (an.mk 7 (-1))) else ((aM (fun x14=>fM p1 x14) 0).bind (Sum.elim (fun _=>dR p1) (fun z15=>some z15))))))
noncomputable def fY(p1:List Int):Option (List Int) :=
  if p1.length≤140737488355328 then some (qm p1) else none
noncomputable def eD(p0:Nat)(p1:List Int):Option (List Int) :=
  if p0=p1.length∧p1.length≤140737488355328 then some (Go.Lib.compact p1) else none
noncomputable def lv(l4:List Int):Option (List Int) :=
  (fY l4).bind fun y6=>(eD l4.length y6).bind fun y7=>some y7
noncomputable def i4(p1:ae)(l20:List Int)(x22:Int)(b25:Bool):Option (((List Int)×Int) ⊕ (List Int)) :=
  if b25=true then (if cw (l20.length+1) 8 then (some (.inl ((l20++(lit ([(p1.e.getD x22.toNat default).v]:List Int))),(IntKind.wrap .i64 (x22+1))))) else none) else (some (.inl (l20,(IntKind.wrap .i64 (x22+1)))))
noncomputable def ig(p1:ae)(l20:List Int)(x22:Int):Option (((List Int)×Int) ⊕ (List Int)) :=
  if x22<(p1.e.length:Int) then (if (0≤x22∧x22<(p1.e.length:Int)) then (if ((p1.e.getD x22.toNat default).op)=2 then (i4 p1 l20 x22 (((p1.e.getD x22.toNat default).op) == 2)) else (if ((p1.e.getD x22.toNat default).op)=3 then (i4 p1 l20 x22 (((p1.e.getD x22.toNat default).op) == 3)) else (i4 p1 l20 x22 (((p1.e.getD x22.toNat default).op) == 8)))) else none) else (some (.inr l20))
noncomputable def n5(p1:ae):Option (List Int) :=
  (co p1.a).bind fun y1=>(aM (fun (l20,x22)=>ig p1 l20 x22) (y1,0)).bind (fun z26=>lv z26)
noncomputable def cm(p1:Bool)(p2:Int)(p3:az):Option Int :=
  if p1=true then (if p3.code=0 then (some p2) else (some p3.code)) else (some p3.code)
noncomputable def nI(p1:Int):Option Int :=
  if p1<1 then (some (-1)) else (if p1>16 then (some (-1)) else (if (0≤p1∧p1<(17:Int)) then (some ((lit ([0,0,1,1,2,3,2,2,1,3,3,1,2,2,0,1,1]:List Int)).getD p1.toNat 0)) else none))
noncomputable def mM(p1:Int):Option (Int×Int×Int) :=
  if p1≥1 then (if p1≤7 then (some (105,105,2)) else (if p1=8 then (some (105,98,2)) else (if p1=9 then (some (105,98,2)) else (if p1≥10 then (if p1≤12 then (some (98,98,2)) else (if p1=13 then (some (105,105,1)) else (if p1=14 then (some (98,98,1)) else (some (0,0,0))))) else (if p1=13 then (some (105,105,1)) else (if p1=14 then (some (98,98,1)) else (some (0,0,0)))))))) else (if p1=8 then (some (105,98,2)) else (if p1=9 then (some (105,98,2)) else (if p1≥10 then (if p1≤12 then (some (98,98,2)) else (if p1=13 then (some (105,105,1)) else (if p1=14 then (some (98,98,1)) else (some (0,0,0))))) else (if p1=13 then (some (105,105,1)) else (if p1=14 then (some (98,98,1)) else (some (0,0,0)))))))
noncomputable def ii:Option Bool :=
  some true
noncomputable def ij(p1:List Int)(p2:az)(x3:Int):Option (Int ⊕ (Unit ⊕ Bool)) :=
  if x3<(p1.length:Int) then (if (0≤x3∧x3<(p1.length:Int)) then (if (0≤(p1.getD x3.toNat default)∧(p1.getD x3.toNat default)<(p2.system.vars.length:Int))∧(0≤0∧0<(p1.length:Int))∧(0≤(p1.getD 0 default)∧(p1.getD 0 default)<(p2.system.vars.length:Int)) then (if ((p2.system.vars.getD ((p1.getD x3.toNat default).toNat) default).elem)=((p2.system.vars.getD ((p1.getD 0 default).toNat) default).elem)∧((p2.system.vars.getD ((p1.getD x3.toNat default).toNat) default).n)=((p2.system.vars.getD ((p1.getD 0 default).toNat) default).n) then (some (.inl (IntKind.wrap .i64 (x3+1)))) else (some (.inr (.inr false)))) else none) else none) else (some (.inr (.inl ())))
noncomputable def jY(p1:List Int)(p2:az):Option Bool :=
  (aM (fun x3=>ij p1 p2 x3) 0).bind (Sum.elim (fun _=>ii) (fun z4=>some z4))
noncomputable def i8(p1:Int):Option ap :=
  some (ap.mk p1 0)
noncomputable def fZ:Option Bool :=
  some true
noncomputable def f8(p1:az)(p2:List Int)(x3:Int):Option (Int ⊕ (Unit ⊕ Bool)) :=
  if x3<(p2.length:Int) then (if (0≤x3∧x3<(p2.length:Int)) then (if (0≤(p2.getD x3.toNat default)∧(p2.getD x3.toNat default)<(p1.system.vars.length:Int))∧(0≤0∧0<(p2.length:Int))∧(0≤(p2.getD 0 default)∧(p2.getD 0 default)<(p1.system.vars.length:Int)) then (if ((p1.system.vars.getD ((p2.getD x3.toNat default).toNat) default).elem)=((p1.system.vars.getD ((p2.getD 0 default).toNat) default).elem)∧((p1.system.vars.getD ((p2.getD x3.toNat default).toNat) default).n)=((p1.system.vars.getD ((p2.getD 0 default).toNat) default).n) then (some (.inl (IntKind.wrap .i64 (x3+1)))) else (some (.inr (.inr false)))) else none) else none) else (some (.inr (.inl ())))
noncomputable def gB(p1:az)(p2:List Int):Option Bool :=
  (aM (fun x3=>f8 p1 p2 x3) 0).bind (Sum.elim (fun _=>fZ) (fun z4=>some z4))
noncomputable def jZ(p1:Int):Option Bool :=
  (mM p1).bind fun y1=>if y1.2.2=2 then (some (y1.1 == y1.2.1)) else (some false)
noncomputable def j0(p1:Int)(p2:az):Option (ap×Bool) :=
  if (0≤p1∧p1<(p2.system.vars.length:Int)) then ((i8 ((p2.system.vars.getD p1.toNat default).elem)).bind fun y1=>some ((y1),decide (((p2.system.vars.getD p1.toNat default).n)>0))) else none
noncomputable def bK(p1:Int)(p2:List Int):Option Int :=
  if p1>(p2.length:Int) then (some 0) else (if (0≤(IntKind.wrap .i64 ((p2.length:Int) - p1))∧(IntKind.wrap .i64 ((p2.length:Int) - p1))<(p2.length:Int)) then (some (p2.getD ((IntKind.wrap .i64 ((p2.length:Int) - p1)).toNat) default)) else none)
noncomputable def cz(p1:aL)(p3:az)(p4:List Int)(b1:Bool):Option (Int×Int×Bool) :=
  if b1=true then ((mM p1.k).bind fun y2=>if y2.2.2=(IntKind.wrap .i64 ((IntKind.wrap .i64 (p1.op - 5))+1)) then ((bK 1 p4).bind fun y3=>if y3=y2.1 then (if y2.2.2=1 then (some (y2.2.2,y2.2.1,true)) else ((bK 2 p4).bind fun y4=>some (y2.2.2,y2.2.1,(y4 == y2.1)))) else (some (y2.2.2,y2.2.1,false))) else (some (y2.2.2,y2.2.1,false))) else (if p1.op=7 then ((bK 1 p4).bind fun y5=>(bK 3 p4).bind fun y6=>if y6=98 then ((bK 1 p4).bind fun y7=>(bK 2 p4).bind fun y8=>if y7=y8 then ((bK 1 p4).bind fun y9=>some (3,y5,(y9 != 0))) else (some (3,y5,false))) else (some (3,y5,false))) else (if p1.op=8 then (if (0≤p1.v∧p1.v<(p3.system.vars.length:Int)) then (if ((p3.system.vars.getD p1.v.toNat default).n)>0 then ((bK 1 p4).bind fun y10=>if y10=((p3.system.vars.getD p1.v.toNat default).elem) then ((bK 2 p4).bind fun y11=>some (2,(p3.system.vars.getD p1.v.toNat default).elem,(y11 == 105))) else (some (2,(p3.system.vars.getD p1.v.toNat default).elem,false))) else (some (2,(p3.system.vars.getD p1.v.toNat default).elem,false))) else none) else (some (0,0,false))))
noncomputable def aO(p1:aL)(p2:Int)(p3:az)(p4:List Int):Option (Int×Int×Bool) :=
  if p1.op=1 then (if p1.k=1 then (if p1.n=0 then (some (0,98,true)) else (some (0,98,(p1.n == 1)))) else (some (0,105,(p1.k == 0)))) else (if p1.op=2 then (if (0≤p1.v∧p1.v<(p3.system.vars.length:Int)) then (some (0,(p3.system.vars.getD p1.v.toNat default).elem,(((p3.system.vars.getD p1.v.toNat default).n) == 0))) else none) else (if p1.op=3 then (if (0≤p1.v∧p1.v<(p3.system.vars.length:Int)) then (if ((p3.system.vars.getD p1.v.toNat default).n)>0 then (if p1.n≥0 then (some (0,(p3.system.vars.getD p1.v.toNat default).elem,decide (p1.n≤(IntKind.wrap .i64 (((p3.system.vars.getD p1.v.toNat default).n) - p2))))) else (some (0,(p3.system.vars.getD p1.v.toNat default).elem,false))) else (some (0,(p3.system.vars.getD p1.v.toNat default).elem,false))) else none) else (if p1.op=4 then (if p1.n≥(-1000000) then (some (0,105,decide (p1.n≤1000000))) else (some (0,105,false))) else (if p1.op=5 then (cz p1 p3 p4 (p1.op == 5)) else (cz p1 p3 p4 (p1.op == 6))))))
noncomputable def dt(l3:List Int):Option (Int×Bool) :=
  if ¬ (l3.length:Int)=1 then (some (0,false)) else (if (0≤0∧0<(l3.length:Int)) then (some ((l3.getD 0 default),true)) else none)
noncomputable def bu(p1:List aL)(p2:Int)(p3:az)(l17:List Int)(x19:Int):Option (((List Int)×Int) ⊕ ((List Int) ⊕ (Int×Bool))) :=
  if x19<(p1.length:Int) then (if (0≤x19∧x19<(p1.length:Int)) then ((aO (p1.getD x19.toNat default) p2 p3 l17).bind fun y20=>if y20.2.2=true then (if (l17.length:Int)<y20.1 then (some (.inr (.inr (0,false)))) else (if (0≤(IntKind.wrap .i64 ((l17.length:Int) - y20.1))∧(IntKind.wrap .i64 ((l17.length:Int) - y20.1))≤(l17.length:Int))∧cw (((IntKind.wrap .i64 ((l17.length:Int) - y20.1)).toNat)+1) 1 then (some (.inl (((l17.take ((IntKind.wrap .i64 ((l17.length:Int) - y20.1)).toNat))++(lit ([y20.2.1]:List Int))),(IntKind.wrap .i64 (x19+1))))) else none)) else (some (.inr (.inr (0,false))))) else none) else (some (.inr (.inl l17)))
noncomputable def j3(p1:List aL)(p2:Int)(p3:az):Option (Int×Bool) :=
  (aM (fun (l17,x19)=>bu p1 p2 p3 l17 x19) ([],0)).bind (Sum.elim (fun z21=>dt z21) (fun z22=>some z22))
noncomputable def eE(p1:ae)(p2:ap)(p4:az)(x1:Int):Option Bool :=
  (j3 p1.e x1 p4).bind fun y3=>if y3.2=true then (some (y3.1 == p2.elem)) else (some false)
noncomputable def du(p1:ae)(p2:ap)(p4:az)(x1:Int):Option Bool :=
  (mM p1.k).bind fun y2=>if ¬ p1.op=14 then (if ¬ y2.1=p2.elem then (some false) else (eE p1 p2 p4 x1)) else (eE p1 p2 p4 x1)
noncomputable def iS(p1:ae)(p2 p3:ap)(p4:az):Option Bool :=
  if p1.op=15 then (if p1.n<1 then (some false) else (if p1.n>300 then (some false) else ((jZ p1.k).bind fun y4=>if y4=true then (if p3.elem=p2.elem∧p3.n=p2.n then (if p2.n>0 then (some false) else (du p1 p2 p4 p1.n)) else (some false)) else (some false)))) else (if p1.op=16 then ((jZ p1.k).bind fun y5=>if y5=true then (if p2.n=0 then (some false) else ((i8 p2.elem).bind fun y6=>if p3.elem=((y6).elem)∧p3.n=((y6).n) then (du p1 p2 p4 (if 1>p2.n then 1 else p2.n)) else (some false))) else (some false)) else (du p1 p2 p4 (if 1>p2.n then 1 else p2.n)))
noncomputable def aX(p1:ae)(p2:az)(x1 x2:Int)(b10:Bool):Option Bool :=
  if b10=true then (if (0≤0∧0<(p1.a.length:Int)) then ((j0 (p1.a.getD 0 default) p2).bind fun y11=>if y11.2=true then (if (0≤1∧1<(p1.a.length:Int))∧(0≤(p1.a.getD 1 default)∧(p1.a.getD 1 default)<(p2.system.vars.length:Int)) then ((i8 105).bind fun y12=>if ((p2.system.vars.getD ((p1.a.getD 1 default).toNat) default).elem)=((y12).elem)∧((p2.system.vars.getD ((p1.a.getD 1 default).toNat) default).n)=((y12).n) then (if (0≤2∧2<(p1.a.length:Int))∧(0≤(p1.a.getD 2 default)∧(p1.a.getD 2 default)<(p2.system.vars.length:Int)) then (if ((p2.system.vars.getD ((p1.a.getD 2 default).toNat) default).elem)=((y11.1).elem)∧((p2.system.vars.getD ((p1.a.getD 2 default).toNat) default).n)=((y11.1).n) then (if p1.op=9 then (if ((p2.system.vars.getD p1.out_.toNat default).elem)=((y11.1).elem)∧((p2.system.vars.getD p1.out_.toNat default).n)=((y11.1).n) then (some true) else (if p1.op=10 then (some ((((p2.system.vars.getD p1.out_.toNat default).elem) == x1) && (((p2.system.vars.getD p1.out_.toNat default).n) == x2))) else (some false))) else (if p1.op=10 then (some ((((p2.system.vars.getD p1.out_.toNat default).elem) == x1) && (((p2.system.vars.getD p1.out_.toNat default).n) == x2))) else (some false))) else (some false)) else none) else (some false)) else none) else (some false)) else none) else (if p1.op=11 then (if x2>0 then (if ((p2.system.vars.getD p1.out_.toNat default).n)>0 then (if x1=((p2.system.vars.getD p1.out_.toNat default).elem) then (if p1.n≥0 then (some (decide (p1.n≤(IntKind.wrap .i64 (x2 - ((p2.system.vars.getD p1.out_.toNat default).n)))))) else (some false)) else (some false)) else (some false)) else (some false)) else (if p1.op=12 then (if (0≤1∧1<(p1.a.length:Int))∧(0≤(p1.a.getD 1 default)∧(p1.a.getD 1 default)<(p2.system.vars.length:Int)) then (if x2>0 then (if ((p2.system.vars.getD ((p1.a.getD 1 default).toNat) default).n)>0 then (if x1=((p2.system.vars.getD ((p1.a.getD 1 default).toNat) default).elem) then (some ((((p2.system.vars.getD p1.out_.toNat default).elem) == x1) && (((p2.system.vars.getD p1.out_.toNat default).n) == (IntKind.wrap .i64 (x2+((p2.system.vars.getD ((p1.a.getD 1 default).toNat) default).n)))))) else (some false)) else (some false)) else (some false)) else none) else (if p1.op=13 then (if (0≤0∧0<(p1.a.length:Int))∧(0≤1∧1<(p1.a.length:Int)) then ((gB p2 (lit ([(p1.a.getD 0 default),(p1.a.getD 1 default),p1.out_]:List Int))).bind fun y13=>some y13) else none) else ((iS p1 (p2.system.vars.getD p1.out_.toNat default) (ap.mk x1 x2) p2).bind fun y14=>some y14))))
noncomputable def aY(p1:ae)(p2:az)(x1 x2:Int)(y3:(Int×Int×Int))(b7:Bool):Option Bool :=
  if b7=true then (if (0≤1∧1<(p1.a.length:Int))∧(0≤(p1.a.getD 1 default)∧(p1.a.getD 1 default)<(p2.system.vars.length:Int)) then ((jZ p1.k).bind fun y8=>if y8=true then ((i8 y3.1).bind fun y9=>if x1=((y9).elem)∧x2=((y9).n) then (if ((p2.system.vars.getD ((p1.a.getD 1 default).toNat) default).n)>0 then (if ((p2.system.vars.getD ((p1.a.getD 1 default).toNat) default).elem)=y3.1 then (if p1.op=6 then (if ((p2.system.vars.getD p1.out_.toNat default).elem)=x1∧((p2.system.vars.getD p1.out_.toNat default).n)=x2 then (some true) else (if p1.op=7 then (some ((((p2.system.vars.getD p1.out_.toNat default).elem) == ((p2.system.vars.getD ((p1.a.getD 1 default).toNat) default).elem)) && (((p2.system.vars.getD p1.out_.toNat default).n) == ((p2.system.vars.getD ((p1.a.getD 1 default).toNat) default).n)))) else (some false))) else (if p1.op=7 then (some ((((p2.system.vars.getD p1.out_.toNat default).elem) == ((p2.system.vars.getD ((p1.a.getD 1 default).toNat) default).elem)) && (((p2.system.vars.getD p1.out_.toNat default).n) == ((p2.system.vars.getD ((p1.a.getD 1 default).toNat) default).n)))) else (some false))) else (some false)) else (some false)) else (some false)) else (some false)) else none) else (if p1.op=8 then (if x2=0 then (if ((p2.system.vars.getD p1.out_.toNat default).n)>0 then (some (((p2.system.vars.getD p1.out_.toNat default).elem) == x1)) else (some false)) else (some false)) else (if p1.op=9 then (aX p1 p2 x1 x2 (p1.op == 9)) else (aX p1 p2 x1 x2 (p1.op == 10))))
noncomputable def aZ(p1:ae)(p2:az)(x1 x2:Int):Option Bool :=
  (mM p1.k).bind fun y3=>if p1.op=1 then (if ((p2.system.vars.getD p1.out_.toNat default).n)=0 then (if ((p2.system.vars.getD p1.out_.toNat default).elem)=105 then (some true) else (if p1.n=0 then (some true) else (some (p1.n == 1)))) else (some false)) else (if p1.op=2 then (some ((x1 == ((p2.system.vars.getD p1.out_.toNat default).elem)) && (x2 == ((p2.system.vars.getD p1.out_.toNat default).n)))) else (if p1.op=3 then (if y3.2.2=1 then (if x1=y3.1 then (if ((p2.system.vars.getD p1.out_.toNat default).elem)=y3.2.1 then (some (((p2.system.vars.getD p1.out_.toNat default).n) == x2)) else (some false)) else (some false)) else (some false)) else (if p1.op=4 then (if y3.2.2=2 then (if x1=y3.1 then (if ((p2.system.vars.getD p1.out_.toNat default).elem)=y3.2.1 then (if ((p2.system.vars.getD p1.out_.toNat default).n)=x2 then ((jY p1.a p2).bind fun y4=>some y4) else (some false)) else (some false)) else (some false)) else (some false)) else (if p1.op=5 then ((i8 98).bind fun y5=>if x1=((y5).elem)∧x2=((y5).n) then (if (0≤1∧1<(p1.a.length:Int))∧(0≤2∧2<(p1.a.length:Int)) then ((gB p2 (lit ([(p1.a.getD 1 default),(p1.a.getD 2 default),p1.out_]:List Int))).bind fun y6=>some y6) else none) else (some false)) else (if p1.op=6 then (aY p1 p2 x1 x2 y3 (p1.op == 6)) else (aY p1 p2 x1 x2 y3 (p1.op == 7)))))))
noncomputable def aG(p1:ae)(p2:az):Option Bool :=
  if (0≤p1.out_∧p1.out_<(p2.system.vars.length:Int)) then (if (p1.a.length:Int)>0 then (if (0≤0∧0<(p1.a.length:Int))∧(0≤(p1.a.getD 0 default)∧(p1.a.getD 0 default)<(p2.system.vars.length:Int)) then (aZ p1 p2 ((p2.system.vars.getD ((p1.a.getD 0 default).toNat) default).elem) ((p2.system.vars.getD ((p1.a.getD 0 default).toNat) default).n)) else none) else (aZ p1 p2 0 0)) else none
noncomputable def fN(p1:ae)(p2:az)(x7:Int):Option (Int×Int) :=
  if x7=0 then ((aG p1 (az.mk p2.system x7)).bind fun y8=>(cm (!y8) 10 (az.mk p2.system x7)).bind fun y9=>some (y9,y9)) else (some (x7,x7))
noncomputable def cV(p2:az)(l6:List Int)(x14 x15:Int):Option ((Int×Int) ⊕ Int) :=
  if x15<(l6.length:Int) then (if (0≤x15∧x15<(l6.length:Int)) then ((hZ (l6.getD x15.toNat default) (az.mk p2.system x14)).bind fun y16=>(cm (!y16) 16 (az.mk p2.system x14)).bind fun y17=>some (.inl (y17,(IntKind.wrap .i64 (x15+1))))) else none) else (some (.inr x14))
noncomputable def eF(p1:ae)(p2:az)(y5:Int)(l6:List Int):Option (Int×Int) :=
  (aM (fun (x14,x15)=>cV p2 l6 x14 x15) (y5,0)).bind (fun z18=>fN p1 p2 z18)
noncomputable def dS(p1:ae)(p2:az)(x4:Int):Option (Int×Int) :=
  (cm (decide ((p1.e.length:Int)>24)) 7 (az.mk p2.system x4)).bind fun y5=>if ¬ y5=0 then (some (y5,y5)) else (if p1.op≥14 then ((n5 p1).bind fun y19=>eF p1 p2 y5 y19) else (eF p1 p2 y5 p1.a))
noncomputable def dU(p1:ae)(p2:az)(x3:Int):Option (Int×Int) :=
  (nI p1.op).bind fun y20=>if y20<0 then ((cm true 4 (az.mk p2.system x3)).bind fun y21=>dS p1 p2 y21) else ((nI p1.op).bind fun y22=>(cm ((p1.a.length:Int) != y22) 4 (az.mk p2.system x3)).bind fun y23=>dS p1 p2 y23)
noncomputable def j4(p1:ae)(p2:az)(p3:List Bool):Option (Int×Int) :=
  (hZ p1.out_ (az.mk p2.system 0)).bind fun y1=>(cm (!y1) 16 (az.mk p2.system 0)).bind fun y2=>if y2=0 then (if (0≤p1.out_∧p1.out_<(p3.length:Int)) then ((cm (p3.getD p1.out_.toNat default) 8 (az.mk p2.system y2)).bind fun y24=>dU p1 p2 y24) else none) else ((cm false 8 (az.mk p2.system y2)).bind fun y25=>dU p1 p2 y25)
noncomputable def lQ:Option an :=
  some (an.mk 0 0)
noncomputable def ku(p1:ab)(l6:List Bool)(x9:Int):Option (Int ⊕ (Unit ⊕ an)) :=
  if x9<(p1.out_.length:Int) then (if (0≤x9∧x9<(p1.out_.length:Int)) then (if (0≤(p1.out_.getD x9.toNat default)∧(p1.out_.getD x9.toNat default)<(l6.length:Int)) then (if (l6.getD ((p1.out_.getD x9.toNat default).toNat) default)=true then (some (.inl (IntKind.wrap .i64 (x9+1)))) else (some (.inr (.inr (an.mk 9 (-1)))))) else none) else none) else (some (.inr (.inl ())))
noncomputable def kv(p1:ab)(l6:List Bool):Option an :=
  (aM (fun x9=>ku p1 l6 x9) 0).bind (Sum.elim (fun _=>lQ) (fun z10=>some z10))
noncomputable def kw(x13:Int):Option (Int ⊕ (Unit ⊕ an)) :=
  some (.inl (IntKind.wrap .i64 (x13+1)))
noncomputable def lR(l6:List Bool)(x13:Int)(l14:List Int)(x17:Int):Option (Int ⊕ (Unit ⊕ an)) :=
  if x17<(l14.length:Int) then (if (0≤x17∧x17<(l14.length:Int)) then (if (0≤(l14.getD x17.toNat default)∧(l14.getD x17.toNat default)<(l6.length:Int)) then (if (l6.getD ((l14.getD x17.toNat default).toNat) default)=true then (some (.inl (IntKind.wrap .i64 (x17+1)))) else (some (.inr (.inr (an.mk 9 x13))))) else none) else none) else (some (.inr (.inl ())))
noncomputable def i9(l6:List Bool)(x13:Int)(l14:List Int):Option (Int ⊕ (Unit ⊕ an)) :=
  (aM (fun x17=>lR l6 x13 l14 x17) 0).bind (Sum.elim (fun _=>kw x13) (fun z18=>some (.inr (.inr z18))))
noncomputable def kx(p1:ab)(l6:List Bool)(x13:Int):Option (Int ⊕ (Unit ⊕ an)) :=
  if x13<(p1.rules.length:Int) then (if (0≤x13∧x13<(p1.rules.length:Int)) then (if ((p1.rules.getD x13.toNat default).op)≥14 then ((n5 (p1.rules.getD x13.toNat default)).bind fun y19=>i9 l6 x13 y19) else (i9 l6 x13 ((p1.rules.getD x13.toNat default).a))) else none) else (some (.inr (.inl ())))
noncomputable def ja(p1:ab)(x5:Int)(l6:List Bool):Option an :=
  (aM (fun x13=>kx p1 l6 x13) 0).bind (Sum.elim (fun _=>kv p1 l6) (fun z20=>some z20))
noncomputable def fA(p1:ab)(x30:Int)(l31:List Bool)(x32:Int):Option ((Int×(List Bool)×Int) ⊕ ((Int×(List Bool)) ⊕ an)) :=
  if x32<(p1.rules.length:Int) then (if (0≤x32∧x32<(p1.rules.length:Int)) then ((j4 (p1.rules.getD x32.toNat default) (az.mk p1 x30) l31).bind fun y33=>if ¬ y33.1=0 then (some (.inr (.inr (an.mk y33.1 x32)))) else (if (0≤(p1.rules.getD x32.toNat default).out_∧(p1.rules.getD x32.toNat default).out_<(l31.length:Int)) then (some (.inl (y33.2,(l31.set (((p1.rules.getD x32.toNat default).out_).toNat) true),(IntKind.wrap .i64 (x32+1))))) else none)) else none) else (some (.inr (.inl (x30,l31))))
noncomputable def jb(p1:ab)(l3:List Bool):Option an :=
  (aM (fun (x30,l31,x32)=>fA p1 x30 l31 x32) (0,l3,0)).bind (Sum.elim (fun (z34,z35)=>ja p1 z34 z35) (fun z36=>some z36))
noncomputable def fC(p1:ab)(l44:List Bool)(x45:Int):Option (((List Bool)×Int) ⊕ (List Bool)) :=
  if x45<(p1.in_.length:Int) then (if (0≤x45∧x45<(p1.in_.length:Int)) then (if (0≤(p1.in_.getD x45.toNat default)∧(p1.in_.getD x45.toNat default)<(l44.length:Int)) then (some (.inl ((l44.set ((p1.in_.getD x45.toNat default).toNat) true),(IntKind.wrap .i64 (x45+1))))) else none) else none) else (some (.inr l44))
noncomputable def ph(p1:ab):Option an :=
  (jX (az.mk p1 0)).bind fun y1=>if ¬ ((y1).code)=0 then (some (y1)) else (if (0≤(p1.vars.length:Int)∧(p1.vars.length:Int)≤(p1.vars.length:Int))∧cw p1.vars.length 1 then ((aM (fun (l44,x45)=>fC p1 l44 x45) ((List.replicate p1.vars.length false),0)).bind (fun z46=>jb p1 z46)) else none)
noncomputable def iT(p1:ab)(l2:List Bool):Option ((List ap)×(List Int)×(List Int)×(List ae)×(List Bool)) :=
  some (p1.vars,p1.in_,p1.out_,p1.rules,l2)
noncomputable def eG(p1:ab)(l10:List Bool)(x11:Int):Option (((List Bool)×Int) ⊕ (List Bool)) :=
  if x11<(p1.in_.length:Int) then (if (0≤x11∧x11<(p1.in_.length:Int)) then (if (0≤(p1.in_.getD x11.toNat default)∧(p1.in_.getD x11.toNat default)<(l10.length:Int)) then (some (.inl ((l10.set ((p1.in_.getD x11.toNat default).toNat) true),(IntKind.wrap .i64 (x11+1))))) else none) else none) else (some (.inr l10))
noncomputable def mN(p1:ab):Option ((List ap)×(List Int)×(List Int)×(List ae)×(List Bool)) :=
  if (0≤(p1.vars.length:Int)∧(p1.vars.length:Int)≤(p1.vars.length:Int))∧cw p1.vars.length 1 then ((aM (fun (l10,x11)=>eG p1 l10 x11) ((List.replicate p1.vars.length false),0)).bind (fun z12=>iT p1 z12)) else none
noncomputable def gE(p1:ae)(l1:List aL):Option (List Int) :=
  (n5 (ae.mk p1.op p1.k p1.out_ p1.n p1.a l1)).bind fun y2=>some y2
noncomputable def gF(p1:ae):Option (List Int) :=
  if p1.op<14 then (gE p1 []) else (gE p1 p1.e)
noncomputable def mO(p1:ae):Option (List Int) :=
  if p1.op=13 then (if (p1.a.length:Int)=2 then (if (0≤0∧0<(p1.a.length:Int)) then (some (lit ([(p1.a.getD 0 default)]:List Int))) else none) else (gF p1)) else (gF p1)
noncomputable def ik(p1:Int)(p2:List ap)(p3 p4:List Int)(p5:List ae)(p6:List Bool):Option Bool :=
  if (0≤p1∧p1<(p6.length:Int)) then (some (!(p6.getD p1.toNat default))) else none
noncomputable def cY:Option Int :=
  some (-1)
noncomputable def cZ(p1:List Int)(p2:List ap)(p3 p4:List Int)(p5:List ae)(p6:List Bool)(x3:Int):Option (Int ⊕ (Unit ⊕ Int)) :=
  if x3<(p1.length:Int) then (if (0≤x3∧x3<(p1.length:Int)) then ((ik (p1.getD x3.toNat default) p2 p3 p4 p5 p6).bind fun y4=>if y4=true then (some (.inr (.inr x3))) else (some (.inl (IntKind.wrap .i64 (x3+1))))) else none) else (some (.inr (.inl ())))
noncomputable def eH(p1:List Int)(p2:List ap)(p3 p4:List Int)(p5:List ae)(p6:List Bool):Option Int :=
  (aM (fun x3=>cZ p1 p2 p3 p4 p5 p6 x3) 0).bind (Sum.elim (fun _=>cY) (fun z5=>some z5))
noncomputable def eu(p1:List Int)(p2:List ap)(p3 p4:List Int)(p5:List ae)(p6:List Bool):Option Bool :=
  (eH p1 p2 p3 p4 p5 p6).bind fun y1=>some (decide (y1≥0))
noncomputable def gG(p1:ae)(p2:List ap)(p3 p4:List Int)(p5:List ae)(p6:List Bool):Option Bool :=
  (mO p1).bind fun y1=>(eu y1 p2 p3 p4 p5 p6).bind fun y2=>some (!y2)
noncomputable def ny(p1:Int)(p2:ab)(p3:List ap)(p4 p5:List Int)(p6:List ae)(p7:List Bool):Option Bool :=
  if (0≤p1∧p1<(p2.rules.length:Int)) then ((gG (p2.rules.getD p1.toNat default) p3 p4 p5 p6 p7).bind fun y1=>some y1) else none
noncomputable def dv:Option Int :=
  some (-1)
noncomputable def dw(p1:List Int)(p2:ab)(p3:List ap)(p4 p5:List Int)(p6:List ae)(p7:List Bool)(x3:Int):Option (Int ⊕ (Unit ⊕ Int)) :=
  if x3<(p1.length:Int) then (if (0≤x3∧x3<(p1.length:Int)) then ((ny (p1.getD x3.toNat default) p2 p3 p4 p5 p6 p7).bind fun y4=>if y4=true then (some (.inr (.inr x3))) else (some (.inl (IntKind.wrap .i64 (x3+1))))) else none) else (some (.inr (.inl ())))
noncomputable def dq(p1:List Int)(p2:ab)(p3:List ap)(p4 p5:List Int)(p6:List ae)(p7:List Bool):Option Int :=
  (aM (fun x3=>dw p1 p2 p3 p4 p5 p6 p7 x3) 0).bind (Sum.elim (fun _=>dv) (fun z5=>some z5))
noncomputable def dD(p1:List aL):Option (List aL) :=
  if p1=[] then (some []) else (if cw p1.length 32 then (some p1) else none)
noncomputable def pk(p1:ae):Option ae :=
  (co p1.a).bind fun y1=>(dD p1.e).bind fun y2=>some (ae.mk p1.op p1.k p1.out_ p1.n y1 y2)
noncomputable def gM(pi pj:Int)(p1:List Int):Option (List Int) :=
  if (0≤pi∧pi≤pj∧pj≤(p1.length:Int))∧p1≠[] then some (xU p1 pi.toNat pj.toNat) else none
noncomputable def d3(p1:List ap):Option (List ap) :=
  if p1=[] then (some []) else (if cw p1.length 16 then (some p1) else none)
noncomputable def iB(p1:ab)(l9:List Bool)(l10:List Int)(l11:List ae):Option (ab×an) :=
  (d3 p1.vars).bind fun y13=>(co p1.in_).bind fun y14=>(co p1.out_).bind fun y15=>some ((ab.mk y13 y14 y15 l11),(an.mk 0 0))
noncomputable def dA(p1:ab)(y2:((List ap)×(List Int)×(List Int)×(List ae)×(List Bool)))(l36:List Bool)(l37:List Int)(l38:List ae):Option (((List Bool)×(List Int)×(List ae)) ⊕ (((List Bool)×(List Int)×(List ae)) ⊕ (ab×an))) :=
  if (l37.length:Int)>0 then ((dq l37 p1 y2.1 y2.2.1 y2.2.2.1 y2.2.2.2.1 l36).bind fun y40=>if y40<0 then (if (0≤0∧0<(l37.length:Int)) then (some (.inr (.inr ((ab.mk [] [] [] []),(an.mk 15 (l37.getD 0 default)))))) else none) else (if (0≤y40∧y40<(l37.length:Int))∧(0≤(l37.getD y40.toNat default)∧(l37.getD y40.toNat default)<(p1.rules.length:Int)) then ((pk (p1.rules.getD ((l37.getD y40.toNat default).toNat) default)).bind fun y41=>if cw (l38.length+1) 80 then (if (0≤(p1.rules.getD ((l37.getD y40.toNat default).toNat) default).out_∧(p1.rules.getD ((l37.getD y40.toNat default).toNat) default).out_<(l36.length:Int)) then ((gM y40 (IntKind.wrap .i64 (y40+1)) l37).bind fun y42=>some (.inl ((l36.set (((p1.rules.getD ((l37.getD y40.toNat default).toNat) default).out_).toNat) true),y42,(l38++(lit ([(y41)]:List ae)))))) else none) else none) else none)) else (some (.inr (.inl (l36,l37,l38))))
noncomputable def iC(p1:ab)(y2:((List ap)×(List Int)×(List Int)×(List ae)×(List Bool)))(l4:List Int):Option (ab×an) :=
  (aM (fun (l36,l37,l38)=>dA p1 y2 l36 l37 l38) (y2.2.2.2.2,l4,[])).bind (Sum.elim (fun (z43,z44,z45)=>iB p1 z43 z44 z45) (fun z46=>some z46))
noncomputable def ew(p1:ab)(l54:List Int)(x55:Int):Option (((List Int)×Int) ⊕ (List Int)) :=
  if x55<(p1.rules.length:Int) then (if (0≤x55∧x55<(l54.length:Int)) then (some (.inl ((l54.set x55.toNat x55),(IntKind.wrap .i64 (x55+1))))) else none) else (some (.inr l54))
noncomputable def n6(p1:ab):Option (ab×an) :=
  (ph p1).bind fun y1=>if ¬ ((y1).code)=0 then (some ((ab.mk [] [] [] []),(y1))) else ((mN p1).bind fun y2=>if (0≤(p1.rules.length:Int)∧(p1.rules.length:Int)≤(p1.rules.length:Int))∧cw p1.rules.length 8 then ((aM (fun (l54,x55)=>ew p1 l54 x55) ((List.replicate p1.rules.length 0),0)).bind (fun z56=>iC p1 y2 z56)) else none)
noncomputable def mP(p1:ab):Option (an ⊕ (an×(List (Int×List Int))×Int×Int×(List ap)×(List Int)×(List Int)×(List ae))) :=
  (n6 p1).bind fun y1=>if ¬ ((y1.2).code)=0 then (some (.inl (y1.2))) else (some (.inr ((an.mk 0 0),([]:List (Int×List Int)),0,0,(y1.1).vars,(y1.1).in_,(y1.1).out_,(y1.1).rules)))
noncomputable def mt(p1:Int):Option Int :=
  some (if 1>p1 then 1 else p1)
noncomputable def kO(x1:Int):Option Int :=
  some x1
noncomputable def fD(p1:ab)(p2:List Int)(x6 x7:Int):Option ((Int×Int) ⊕ Int) :=
  if x7<(p2.length:Int) then (if (0≤x7∧x7<(p2.length:Int)) then (if (0≤(p2.getD x7.toNat default)∧(p2.getD x7.toNat default)<(p1.vars.length:Int)) then ((mt ((p1.vars.getD ((p2.getD x7.toNat default).toNat) default).n)).bind fun y8=>some (.inl ((IntKind.wrap .i64 (x6+y8)),(IntKind.wrap .i64 (x7+1))))) else none) else none) else (some (.inr x6))
noncomputable def iD(p1:ab)(p2:List Int):Option Int :=
  (aM (fun (x6,x7)=>fD p1 p2 x6 x7) (0,0)).bind (fun z9=>kO z9)
noncomputable def bB(p1:List Int):Option (List Int) :=
  if p1=[] then (some []) else (if cw p1.length 8 then (some p1) else none)
noncomputable def il(l3:List (List Int)):Option (an×(List (List Int))) :=
  some ((an.mk 0 0),l3)
noncomputable def im(x15:Int)(l17:List (List Int))(x18:Int):Option (((List (List Int))×Int×Int) ⊕ ((List (List Int)) ⊕ (an×(List (List Int))))) :=
  some (.inl (l17,x18,(IntKind.wrap .i64 (x15+1))))
noncomputable def fO(p1 p3:List Int)(l13:List (List Int))(x14 x15 y19:Int):Option (((List (List Int))×Int×Int) ⊕ ((List (List Int)) ⊕ (an×(List (List Int))))) :=
  if (0≤x14∧x14≤(IntKind.wrap .i64 (x14+y19))∧(IntKind.wrap .i64 (x14+y19))≤(p1.length:Int)) then ((bB ((p1.take ((IntKind.wrap .i64 (x14+y19)).toNat)).drop x14.toNat)).bind fun y20=>if (0≤(p3.getD x15.toNat default)∧(p3.getD x15.toNat default)<(l13.length:Int)) then (im x15 (l13.set ((p3.getD x15.toNat default).toNat) y20) (IntKind.wrap .i64 (x14+y19))) else none) else none
noncomputable def fP(p1:List Int)(p2:List ap)(p3:List Int)(l13:List (List Int))(x14 x15 y19 x23:Int):Option (Int ⊕ (Unit ⊕ (an×(List (List Int))))) :=
  if x23<y19 then (if (0≤(IntKind.wrap .i64 (x14+x23))∧(IntKind.wrap .i64 (x14+x23))<(p1.length:Int)) then (if ((p2.getD ((p3.getD x15.toNat default).toNat) default).elem)=98 then (if ¬ (p1.getD ((IntKind.wrap .i64 (x14+x23)).toNat) default)=0 then (if ¬ (p1.getD ((IntKind.wrap .i64 (x14+x23)).toNat) default)=1 then (some (.inr (.inr ((an.mk 17 (IntKind.wrap .i64 (x14+x23))),l13)))) else (some (.inl (IntKind.wrap .i64 (x23+1))))) else (some (.inl (IntKind.wrap .i64 (x23+1))))) else (some (.inl (IntKind.wrap .i64 (x23+1))))) else none) else (some (.inr (.inl ())))
noncomputable def cW(p1:List Int)(p2:List ap)(p3:List Int)(l13:List (List Int))(x14 x15:Int):Option (((List (List Int))×Int×Int) ⊕ ((List (List Int)) ⊕ (an×(List (List Int))))) :=
  if x15<(p3.length:Int) then (if (0≤x15∧x15<(p3.length:Int)) then (if (0≤(p3.getD x15.toNat default)∧(p3.getD x15.toNat default)<(p2.length:Int)) then ((mt ((p2.getD ((p3.getD x15.toNat default).toNat) default).n)).bind fun y19=>(aM (fun x23=>fP p1 p2 p3 l13 x14 x15 y19 x23) 0).bind (Sum.elim (fun _=>fO p1 p3 l13 x14 x15 y19) (fun z24=>some (.inr (.inr z24))))) else none) else none) else (some (.inr (.inl l13)))
noncomputable def j5(p1:List Int)(p2:List ap)(p3 p4:List Int)(p5:List ae)(p6:List (List Int))(p7:List (Int×List Int)):Option (an×(List (List Int))) :=
  (iD (ab.mk p2 p3 p4 p5) p3).bind fun y1=>if ¬ (p1.length:Int)=y1 then (some ((an.mk 17 (-1)),p6)) else ((aM (fun (l13,x14,x15)=>cW p1 p2 p3 l13 x14 x15) (p6,0,0)).bind (Sum.elim (fun z25=>il z25) (fun z26=>some z26)))
noncomputable def aQ(p1:Int)(p2:ae)(p3:List ap)(p4 p5:List Int)(p6:List ae)(p7:List (List Int))(p8:List (Int×List Int)):Option (List Int) :=
  if (0≤p1∧p1<(p2.a.length:Int))∧(0≤(p2.a.getD p1.toNat default)∧(p2.a.getD p1.toNat default)<(p7.length:Int)) then (some (p7.getD ((p2.a.getD p1.toNat default).toNat) default)) else none
noncomputable def jc(p1 p2 p3:Int):Option Int :=
  if p3=0 then (some 0) else (if p1=4 then (if p3≠0 then (some (IntKind.wrap .i64 (p2.tdiv p3))) else none) else (if p3≠0 then (some (p2.tmod p3)) else none))
noncomputable def cy(p1:Bool):Option Int :=
  if p1=true then (some 1) else (some 0)
noncomputable def bb(p1 p2 p3:Int)(b1:Bool):Option Int :=
  if b1=true then ((jc p1 p2 p3).bind fun y2=>some y2) else (if p1=6 then (some (if p3<p2 then p3 else p2)) else (if p1=7 then (some (if p3>p2 then p3 else p2)) else (if p1=8 then ((cy (decide (p2<p3))).bind fun y3=>some y3) else (if p1=9 then ((cy (p2 == p3)).bind fun y4=>some y4) else (if p1=10 then (if ¬ p2=0 then ((cy (p3 != 0)).bind fun y5=>some y5) else ((cy false).bind fun y6=>some y6)) else (if p1=11 then (if ¬ p2=0 then ((cy true).bind fun y7=>some y7) else ((cy (p3 != 0)).bind fun y8=>some y8)) else (if p1=12 then ((cy (!((p2 != 0) == (p3 != 0)))).bind fun y9=>some y9) else (if p1=13 then (some (IntKind.wrap .i64 (0 - p2))) else (if p1=14 then ((cy (p2 == 0)).bind fun y10=>some y10) else (some 0))))))))))
noncomputable def bg(p1 p2 p3:Int):Option Int :=
  if p1=1 then (some (IntKind.wrap .i64 (p2+p3))) else (if p1=2 then (some (IntKind.wrap .i64 (p2 - p3))) else (if p1=3 then (some (IntKind.wrap .i64 (p2 * p3))) else (if p1=4 then (bb p1 p2 p3 (p1 == 4)) else (bb p1 p2 p3 (p1 == 5)))))
noncomputable def kP(p1:Int)(p2:ae)(p3:List ap)(p4 p5:List Int)(p6:List ae)(p7:List (List Int))(p8:List (Int×List Int)):Option Int :=
  (aQ 0 p2 p3 p4 p5 p6 p7 p8).bind fun y1=>if (0≤p1∧p1<(y1.length:Int)) then ((bg p2.k (y1.getD p1.toNat default) 0).bind fun y2=>some y2) else none
noncomputable def iU(l2:List Int):Option (List Int) :=
  some l2
noncomputable def dE(p1:ae)(p2:List Int)(p3:List ap)(p4 p5:List Int)(p6:List ae)(p7:List (List Int))(p8:List (Int×List Int))(l10:List Int)(x11:Int):Option (((List Int)×Int) ⊕ (List Int)) :=
  if x11<(p2.length:Int) then ((kP x11 p1 p3 p4 p5 p6 p7 p8).bind fun y12=>if (0≤x11∧x11<(l10.length:Int)) then (some (.inl ((l10.set x11.toNat y12),(IntKind.wrap .i64 (x11+1))))) else none) else (some (.inr l10))
noncomputable def kQ(p1:ae)(p2:List Int)(p3:List ap)(p4 p5:List Int)(p6:List ae)(p7:List (List Int))(p8:List (Int×List Int)):Option (List Int) :=
  (aM (fun (l10,x11)=>dE p1 p2 p3 p4 p5 p6 p7 p8 l10 x11) (p2,0)).bind (fun z13=>iU z13)
noncomputable def kR(p1:Int)(p2:ae)(p3:List ap)(p4 p5:List Int)(p6:List ae)(p7:List (List Int))(p8:List (Int×List Int)):Option Int :=
  (aQ 0 p2 p3 p4 p5 p6 p7 p8).bind fun y1=>if (0≤p1∧p1<(y1.length:Int)) then ((aQ 1 p2 p3 p4 p5 p6 p7 p8).bind fun y2=>if (0≤p1∧p1<(y2.length:Int)) then ((bg p2.k (y1.getD p1.toNat default) (y2.getD p1.toNat default)).bind fun y3=>some y3) else none) else none
noncomputable def gH(l2:List Int):Option (List Int) :=
  some l2
noncomputable def db(p1:ae)(p2:List Int)(p3:List ap)(p4 p5:List Int)(p6:List ae)(p7:List (List Int))(p8:List (Int×List Int))(l10:List Int)(x11:Int):Option (((List Int)×Int) ⊕ (List Int)) :=
  if x11<(p2.length:Int) then ((kR x11 p1 p3 p4 p5 p6 p7 p8).bind fun y12=>if (0≤x11∧x11<(l10.length:Int)) then (some (.inl ((l10.set x11.toNat y12),(IntKind.wrap .i64 (x11+1))))) else none) else (some (.inr l10))
noncomputable def jj(p1:ae)(p2:List Int)(p3:List ap)(p4 p5:List Int)(p6:List ae)(p7:List (List Int))(p8:List (Int×List Int)):Option (List Int) :=
  (aM (fun (l10,x11)=>db p1 p2 p3 p4 p5 p6 p7 p8 l10 x11) (p2,0)).bind (fun z13=>gH z13)
noncomputable def kS(p1:Int)(p2:ae)(p3:List ap)(p4 p5:List Int)(p6:List ae)(p7:List (List Int))(p8:List (Int×List Int)):Option Int :=
  (aQ 1 p2 p3 p4 p5 p6 p7 p8).bind fun y1=>if (0≤p1∧p1<(y1.length:Int)) then (some (y1.getD p1.toNat default)) else none
noncomputable def lS(l3:List Int):Option (List Int) :=
  some l3
noncomputable def gj(p1 p3:Int)(p4:ae)(p5:List ap)(p6 p7:List Int)(p8:List ae)(p9:List (List Int))(p10:List (Int×List Int))(l19:List Int)(x21 x22:Int):Option (((List Int)×Int×Int) ⊕ (List Int)) :=
  if x22<p3 then ((kS x22 p4 p5 p6 p7 p8 p9 p10).bind fun y23=>(bg p1 x21 y23).bind fun y24=>if cw (l19.length+1) 8 then (some (.inl ((l19++(lit ([y24]:List Int))),y24,(IntKind.wrap .i64 (x22+1))))) else none) else (some (.inr l19))
noncomputable def pm(p1 p2 p3:Int)(p4:ae)(p5:List ap)(p6 p7:List Int)(p8:List ae)(p9:List (List Int))(p10:List (Int×List Int)):Option (List Int) :=
  (aM (fun (l19,x21,x22)=>gj p1 p3 p4 p5 p6 p7 p8 p9 p10 l19 x21 x22) ([],p2,0)).bind (fun z25=>lS z25)
noncomputable def kT(p1:Int)(p2:ae)(p3:List ap)(p4 p5:List Int)(p6:List ae)(p7:List (List Int))(p8:List (Int×List Int)):Option Int :=
  (aQ 1 p2 p3 p4 p5 p6 p7 p8).bind fun y1=>if (0≤p1∧p1<(y1.length:Int)) then (some (y1.getD p1.toNat default)) else none
noncomputable def j6(l3:List Int):Option (List Int) :=
  some l3
noncomputable def eI(p1 p3:Int)(p4:ae)(p5:List ap)(p6 p7:List Int)(p8:List ae)(p9:List (List Int))(p10:List (Int×List Int))(l19:List Int)(x21 x22:Int):Option (((List Int)×Int×Int) ⊕ (List Int)) :=
  if x22<p3 then ((kT x22 p4 p5 p6 p7 p8 p9 p10).bind fun y23=>(bg p1 x21 y23).bind fun y24=>if cw (l19.length+1) 8 then (some (.inl ((l19++(lit ([y24]:List Int))),y24,(IntKind.wrap .i64 (x22+1))))) else none) else (some (.inr l19))
noncomputable def mQ(p1 p2 p3:Int)(p4:ae)(p5:List ap)(p6 p7:List Int)(p8:List ae)(p9:List (List Int))(p10:List (Int×List Int)):Option (List Int) :=
  (aM (fun (l19,x21,x22)=>eI p1 p3 p4 p5 p6 p7 p8 p9 p10 l19 x21 x22) ([],p2,0)).bind (fun z25=>j6 z25)
noncomputable def kU(p1:Int)(p2:ae)(p3:List ap)(p4 p5:List Int)(p6:List ae)(p7:List (List Int))(p8:List (Int×List Int)):Option Int :=
  (aQ 0 p2 p3 p4 p5 p6 p7 p8).bind fun y1=>if (0≤0∧0<(y1.length:Int)) then (some (y1.getD 0 default)) else none
noncomputable def gI(l2:List Int):Option (List Int) :=
  some l2
noncomputable def dc(p1:ae)(p2:List Int)(p3:List ap)(p4 p5:List Int)(p6:List ae)(p7:List (List Int))(p8:List (Int×List Int))(l10:List Int)(x11:Int):Option (((List Int)×Int) ⊕ (List Int)) :=
  if x11<(p2.length:Int) then ((kU x11 p1 p3 p4 p5 p6 p7 p8).bind fun y12=>if (0≤x11∧x11<(l10.length:Int)) then (some (.inl ((l10.set x11.toNat y12),(IntKind.wrap .i64 (x11+1))))) else none) else (some (.inr l10))
noncomputable def jk(p1:ae)(p2:List Int)(p3:List ap)(p4 p5:List Int)(p6:List ae)(p7:List (List Int))(p8:List (Int×List Int)):Option (List Int) :=
  (aM (fun (l10,x11)=>dc p1 p2 p3 p4 p5 p6 p7 p8 l10 x11) (p2,0)).bind (fun z13=>gI z13)
noncomputable def nJ(p1:List Int)(p2 p3:Int):Option Int :=
  if p2<0 then (some p3) else (if p2≥(p1.length:Int) then (some p3) else (if (0≤p2∧p2<(p1.length:Int)) then (some (p1.getD p2.toNat default)) else none))
noncomputable def kV(p1:Int)(p2:ae)(p3:List ap)(p4 p5:List Int)(p6:List ae)(p7:List (List Int))(p8:List (Int×List Int)):Option Int :=
  (aQ 1 p2 p3 p4 p5 p6 p7 p8).bind fun y1=>if (0≤0∧0<(y1.length:Int)) then (if p1=(y1.getD 0 default) then ((aQ 2 p2 p3 p4 p5 p6 p7 p8).bind fun y2=>if (0≤0∧0<(y2.length:Int)) then (some (y2.getD 0 default)) else none) else ((aQ 0 p2 p3 p4 p5 p6 p7 p8).bind fun y3=>if (0≤p1∧p1<(y3.length:Int)) then (some (y3.getD p1.toNat default)) else none)) else none
noncomputable def gJ(l2:List Int):Option (List Int) :=
  some l2
noncomputable def dd(p1:ae)(p2:List Int)(p3:List ap)(p4 p5:List Int)(p6:List ae)(p7:List (List Int))(p8:List (Int×List Int))(l10:List Int)(x11:Int):Option (((List Int)×Int) ⊕ (List Int)) :=
  if x11<(p2.length:Int) then ((kV x11 p1 p3 p4 p5 p6 p7 p8).bind fun y12=>if (0≤x11∧x11<(l10.length:Int)) then (some (.inl ((l10.set x11.toNat y12),(IntKind.wrap .i64 (x11+1))))) else none) else (some (.inr l10))
noncomputable def jl(p1:ae)(p2:List Int)(p3:List ap)(p4 p5:List Int)(p6:List ae)(p7:List (List Int))(p8:List (Int×List Int)):Option (List Int) :=
  (aM (fun (l10,x11)=>dd p1 p2 p3 p4 p5 p6 p7 p8 l10 x11) (p2,0)).bind (fun z13=>gJ z13)
noncomputable def kW(p1:Int)(p2:ae)(p3:List ap)(p4 p5:List Int)(p6:List ae)(p7:List (List Int))(p8:List (Int×List Int)):Option Int :=
  (aQ 0 p2 p3 p4 p5 p6 p7 p8).bind fun y1=>if (0≤(IntKind.wrap .i64 (p1+p2.n))∧(IntKind.wrap .i64 (p1+p2.n))<(y1.length:Int)) then (some (y1.getD ((IntKind.wrap .i64 (p1+p2.n)).toNat) default)) else none
noncomputable def gK(l2:List Int):Option (List Int) :=
  some l2
noncomputable def de(p1:ae)(p2:List Int)(p3:List ap)(p4 p5:List Int)(p6:List ae)(p7:List (List Int))(p8:List (Int×List Int))(l10:List Int)(x11:Int):Option (((List Int)×Int) ⊕ (List Int)) :=
  if x11<(p2.length:Int) then ((kW x11 p1 p3 p4 p5 p6 p7 p8).bind fun y12=>if (0≤x11∧x11<(l10.length:Int)) then (some (.inl ((l10.set x11.toNat y12),(IntKind.wrap .i64 (x11+1))))) else none) else (some (.inr l10))
noncomputable def jm(p1:ae)(p2:List Int)(p3:List ap)(p4 p5:List Int)(p6:List ae)(p7:List (List Int))(p8:List (Int×List Int)):Option (List Int) :=
  (aM (fun (l10,x11)=>de p1 p2 p3 p4 p5 p6 p7 p8 l10 x11) (p2,0)).bind (fun z13=>gK z13)
noncomputable def er(p1:Int):Option (List Int) :=
  if p1<0 then none else (if (IntKind.wrap .i64 (p1 - (IntKind.wrap .i64 (0 - 0))))>0 then (if 0≤(IntKind.wrap .i64 (p1 - (IntKind.wrap .i64 (0 - 0))))∧cw ((IntKind.wrap .i64 (p1 - (IntKind.wrap .i64 (0 - 0)))).toNat) 8 then (if (0≤0∧0≤((IntKind.wrap .i64 (p1 - (IntKind.wrap .i64 (0 - 0)))).toNat:Int)) then (some ((List.replicate ((IntKind.wrap .i64 (p1 - (IntKind.wrap .i64 (0 - 0)))).toNat) 0).take 0)) else none) else none) else (some []))
noncomputable def dl(l5:List Int):Option (List Int) :=
  some l5
noncomputable def bq(p1:List (List Int))(l19:List Int)(x21:Int):Option (((List Int)×Int) ⊕ (List Int)) :=
  if x21<(p1.length:Int) then (if (0≤x21∧x21<(p1.length:Int)) then (if cw (l19.length+((p1.getD x21.toNat default).length)) 8 then (some (.inl ((l19++(p1.getD x21.toNat default)),(IntKind.wrap .i64 (x21+1))))) else none) else none) else (some (.inr l19))
noncomputable def cB(p1:List (List Int))(x1:Int):Option (List Int) :=
  (er x1).bind fun y2=>(aM (fun (l19,x21)=>bq p1 l19 x21) (y2,0)).bind (fun z22=>dl z22)
noncomputable def br(p1:List (List Int))(x27 x28:Int):Option ((Int×Int) ⊕ Int) :=
  if x28<(p1.length:Int) then (if (0≤x28∧x28<(p1.length:Int)) then (if (IntKind.wrap .i64 (x27+((p1.getD x28.toNat default).length:Int)))<0 then none else (some (.inl ((IntKind.wrap .i64 (x27+((p1.getD x28.toNat default).length:Int))),(IntKind.wrap .i64 (x28+1)))))) else none) else (some (.inr x27))
noncomputable def dK(p1:List (List Int)):Option (List Int) :=
  (aM (fun (x27,x28)=>br p1 x27 x28) (0,0)).bind (fun z29=>cB p1 z29)
noncomputable def gC(l3:List Int):Option Int :=
  if (0≤0∧0<(l3.length:Int)) then (some (l3.getD 0 default)) else none
noncomputable def fc(l17:List Int)(x19 x24:Int):Option (((List Int)×Int) ⊕ (List Int)) :=
  if (0≤(IntKind.wrap .i64 ((l17.length:Int) - 3))∧(IntKind.wrap .i64 ((l17.length:Int) - 3))≤(l17.length:Int))∧cw (((IntKind.wrap .i64 ((l17.length:Int) - 3)).toNat)+1) 8 then (some (.inl (((l17.take ((IntKind.wrap .i64 ((l17.length:Int) - 3)).toNat))++(lit ([x24]:List Int))),(IntKind.wrap .i64 (x19+1))))) else none
noncomputable def dr(p1:List aL)(p2:Int)(p7:List (List Int))(l17:List Int)(x19:Int):Option (((List Int)×Int) ⊕ (List Int)) :=
  if x19<(p1.length:Int) then (if (0≤x19∧x19<(p1.length:Int)) then (if ((p1.getD x19.toNat default).op)=1 then (if cw (l17.length+1) 8 then (some (.inl ((l17++(lit ([(p1.getD x19.toNat default).n]:List Int))),(IntKind.wrap .i64 (x19+1))))) else none) else (if ((p1.getD x19.toNat default).op)=2 then (if (0≤(p1.getD x19.toNat default).v∧(p1.getD x19.toNat default).v<(p7.length:Int))∧(0≤0∧0<((p7.getD (((p1.getD x19.toNat default).v).toNat) default).length:Int))∧cw (l17.length+1) 8 then (some (.inl ((l17++(lit ([((p7.getD (((p1.getD x19.toNat default).v).toNat) default).getD 0 default)]:List Int))),(IntKind.wrap .i64 (x19+1))))) else none) else (if ((p1.getD x19.toNat default).op)=3 then (if (0≤(p1.getD x19.toNat default).v∧(p1.getD x19.toNat default).v<(p7.length:Int))∧(0≤(IntKind.wrap .i64 (p2+((p1.getD x19.toNat default).n)))∧(IntKind.wrap .i64 (p2+((p1.getD x19.toNat default).n)))<((p7.getD (((p1.getD x19.toNat default).v).toNat) default).length:Int))∧cw (l17.length+1) 8 then (some (.inl ((l17++(lit ([((p7.getD (((p1.getD x19.toNat default).v).toNat) default).getD ((IntKind.wrap .i64 (p2+((p1.getD x19.toNat default).n))).toNat) default)]:List Int))),(IntKind.wrap .i64 (x19+1))))) else none) else (if ((p1.getD x19.toNat default).op)=4 then (if cw (l17.length+1) 8 then (some (.inl ((l17++(lit ([(IntKind.wrap .i64 (p2+((p1.getD x19.toNat default).n)))]:List Int))),(IntKind.wrap .i64 (x19+1))))) else none) else (if ((p1.getD x19.toNat default).op)=5 then (if (0≤(IntKind.wrap .i64 ((l17.length:Int) - 1))∧(IntKind.wrap .i64 ((l17.length:Int) - 1))<(l17.length:Int)) then ((bg ((p1.getD x19.toNat default).k) (l17.getD ((IntKind.wrap .i64 ((l17.length:Int) - 1)).toNat) default) 0).bind fun y20=>some (.inl ((l17.set ((IntKind.wrap .i64 ((l17.length:Int) - 1)).toNat) y20),(IntKind.wrap .i64 (x19+1))))) else none) else (if ((p1.getD x19.toNat default).op)=6 then (if (0≤(IntKind.wrap .i64 ((l17.length:Int) - 2))∧(IntKind.wrap .i64 ((l17.length:Int) - 2))≤(l17.length:Int))∧(0≤(IntKind.wrap .i64 ((l17.length:Int) - 2))∧(IntKind.wrap .i64 ((l17.length:Int) - 2))<(l17.length:Int))∧(0≤(IntKind.wrap .i64 ((l17.length:Int) - 1))∧(IntKind.wrap .i64 ((l17.length:Int) - 1))<(l17.length:Int)) then ((bg ((p1.getD x19.toNat default).k) (l17.getD ((IntKind.wrap .i64 ((l17.length:Int) - 2)).toNat) default) (l17.getD ((IntKind.wrap .i64 ((l17.length:Int) - 1)).toNat) default)).bind fun y21=>if cw (((IntKind.wrap .i64 ((l17.length:Int) - 2)).toNat)+1) 8 then (some (.inl (((l17.take ((IntKind.wrap .i64 ((l17.length:Int) - 2)).toNat))++(lit ([y21]:List Int))),(IntKind.wrap .i64 (x19+1))))) else none) else none) else (if ((p1.getD x19.toNat default).op)=7 then (if (0≤(IntKind.wrap .i64 ((l17.length:Int) - 1))∧(IntKind.wrap .i64 ((l17.length:Int) - 1))<(l17.length:Int)) then (if (0≤(IntKind.wrap .i64 ((l17.length:Int) - 3))∧(IntKind.wrap .i64 ((l17.length:Int) - 3))<(l17.length:Int)) then (if ¬ (l17.getD ((IntKind.wrap .i64 ((l17.length:Int) - 3)).toNat) default)=0 then (if (0≤(IntKind.wrap .i64 ((l17.length:Int) - 2))∧(IntKind.wrap .i64 ((l17.length:Int) - 2))<(l17.length:Int)) then (fc l17 x19 (l17.getD ((IntKind.wrap .i64 ((l17.length:Int) - 2)).toNat) default)) else none) else (fc l17 x19 (l17.getD ((IntKind.wrap .i64 ((l17.length:Int) - 1)).toNat) default))) else none) else none) else (if ((p1.getD x19.toNat default).op)=8 then (if (0≤(IntKind.wrap .i64 ((l17.length:Int) - 2))∧(IntKind.wrap .i64 ((l17.length:Int) - 2))≤(l17.length:Int))∧(0≤(p1.getD x19.toNat default).v∧(p1.getD x19.toNat default).v<(p7.length:Int))∧(0≤(IntKind.wrap .i64 ((l17.length:Int) - 2))∧(IntKind.wrap .i64 ((l17.length:Int) - 2))<(l17.length:Int))∧(0≤(IntKind.wrap .i64 ((l17.length:Int) - 1))∧(IntKind.wrap .i64 ((l17.length:Int) - 1))<(l17.length:Int)) then ((nJ (p7.getD (((p1.getD x19.toNat default).v).toNat) default) (l17.getD ((IntKind.wrap .i64 ((l17.length:Int) - 2)).toNat) default) (l17.getD ((IntKind.wrap .i64 ((l17.length:Int) - 1)).toNat) default)).bind fun y25=>if cw (((IntKind.wrap .i64 ((l17.length:Int) - 2)).toNat)+1) 8 then (some (.inl (((l17.take ((IntKind.wrap .i64 ((l17.length:Int) - 2)).toNat))++(lit ([y25]:List Int))),(IntKind.wrap .i64 (x19+1))))) else none) else none) else (some (.inl (l17,(IntKind.wrap .i64 (x19+1))))))))))))) else none) else (some (.inr l17))
noncomputable def gm(p1:List aL)(p2:Int)(p3:List ap)(p4 p5:List Int)(p6:List ae)(p7:List (List Int))(p8:List (Int×List Int)):Option Int :=
  (aM (fun (l17,x19)=>dr p1 p2 p7 l17 x19) ([],0)).bind (fun z26=>gC z26)
noncomputable def j7(p1:Int)(p2:ae)(p3:List ap)(p4 p5:List Int)(p6:List ae)(p7:List (List Int))(p8:List (Int×List Int)):Option Int :=
  (gm p2.e p1 p3 p4 p5 p6 p7 p8).bind fun y1=>some y1
noncomputable def gL(l2:List Int):Option (List Int) :=
  some l2
noncomputable def df(p1:ae)(p2:List Int)(p3:List ap)(p4 p5:List Int)(p6:List ae)(p7:List (List Int))(p8:List (Int×List Int))(l10:List Int)(x11:Int):Option (((List Int)×Int) ⊕ (List Int)) :=
  if x11<(p2.length:Int) then ((j7 x11 p1 p3 p4 p5 p6 p7 p8).bind fun y12=>if (0≤x11∧x11<(l10.length:Int)) then (some (.inl ((l10.set x11.toNat y12),(IntKind.wrap .i64 (x11+1))))) else none) else (some (.inr l10))
noncomputable def jn(p1:ae)(p2:List Int)(p3:List ap)(p4 p5:List Int)(p6:List ae)(p7:List (List Int))(p8:List (Int×List Int)):Option (List Int) :=
  (aM (fun (l10,x11)=>df p1 p2 p3 p4 p5 p6 p7 p8 l10 x11) (p2,0)).bind (fun z13=>gL z13)
noncomputable def j8(p1:Int)(p2:ae)(p3:List ap)(p4 p5:List Int)(p6:List ae)(p7:List (List Int))(p8:List (Int×List Int)):Option Int :=
  (gm p2.e p1 p3 p4 p5 p6 p7 p8).bind fun y1=>some y1
noncomputable def j9(l3:List Int):Option (List Int) :=
  some l3
noncomputable def eJ(p1 p3:Int)(p4:ae)(p5:List ap)(p6 p7:List Int)(p8:List ae)(p9:List (List Int))(p10:List (Int×List Int))(l19:List Int)(x21 x22:Int):Option (((List Int)×Int×Int) ⊕ (List Int)) :=
  if x22<p3 then ((j8 x22 p4 p5 p6 p7 p8 p9 p10).bind fun y23=>(bg p1 x21 y23).bind fun y24=>if cw (l19.length+1) 8 then (some (.inl ((l19++(lit ([y24]:List Int))),y24,(IntKind.wrap .i64 (x22+1))))) else none) else (some (.inr l19))
noncomputable def mR(p1 p2 p3:Int)(p4:ae)(p5:List ap)(p6 p7:List Int)(p8:List ae)(p9:List (List Int))(p10:List (Int×List Int)):Option (List Int) :=
  (aM (fun (l19,x21,x22)=>eJ p1 p3 p4 p5 p6 p7 p8 p9 p10 l19 x21 x22) ([],p2,0)).bind (fun z25=>j9 z25)
noncomputable def ka(p1:Int)(p2:ae)(p3:List ap)(p4 p5:List Int)(p6:List ae)(p7:List (List Int))(p8:List (Int×List Int)):Option Int :=
  (gm p2.e p1 p3 p4 p5 p6 p7 p8).bind fun y1=>some y1
noncomputable def kb(l3:List Int):Option (List Int) :=
  some l3
noncomputable def eM(p1 p3:Int)(p4:ae)(p5:List ap)(p6 p7:List Int)(p8:List ae)(p9:List (List Int))(p10:List (Int×List Int))(l19:List Int)(x21 x22:Int):Option (((List Int)×Int×Int) ⊕ (List Int)) :=
  if x22<p3 then ((ka x22 p4 p5 p6 p7 p8 p9 p10).bind fun y23=>(bg p1 x21 y23).bind fun y24=>if cw (l19.length+1) 8 then (some (.inl ((l19++(lit ([y24]:List Int))),y24,(IntKind.wrap .i64 (x22+1))))) else none) else (some (.inr l19))
noncomputable def mS(p1 p2 p3:Int)(p4:ae)(p5:List ap)(p6 p7:List Int)(p8:List ae)(p9:List (List Int))(p10:List (Int×List Int)):Option (List Int) :=
  (aM (fun (l19,x21,x22)=>eM p1 p3 p4 p5 p6 p7 p8 p9 p10 l19 x21 x22) ([],p2,0)).bind (fun z25=>kb z25)
noncomputable def mT(p1:Int)(p2:ae)(p3:List ap)(p4 p5:List Int)(p6:List ae)(p7:List (List Int))(p8:List (Int×List Int)):Option (List Int) :=
  if (0≤p2.out_∧p2.out_<(p3.length:Int)) then ((mt ((p3.getD p2.out_.toNat default).n)).bind fun y1=>if (0≤y1∧y1≤y1)∧cw y1.toNat 8 then (if p2.op=1 then (some (lit ([p2.n]:List Int))) else (if p2.op=2 then ((aQ 0 p2 p3 p4 p5 p6 p7 p8).bind fun y2=>(bB y2).bind fun y3=>some y3) else (if p2.op=3 then ((kQ p2 (List.replicate y1.toNat 0) p3 p4 p5 p6 p7 p8).bind fun y4=>some y4) else (if p2.op=4 then ((jj p2 (List.replicate y1.toNat 0) p3 p4 p5 p6 p7 p8).bind fun y5=>some y5) else (if p2.op=5 then ((aQ 0 p2 p3 p4 p5 p6 p7 p8).bind fun y6=>if (0≤0∧0<(y6.length:Int)) then (if ¬ (y6.getD 0 default)=0 then ((aQ 1 p2 p3 p4 p5 p6 p7 p8).bind fun y7=>(bB y7).bind fun y8=>some y8) else ((aQ 2 p2 p3 p4 p5 p6 p7 p8).bind fun y9=>(bB y9).bind fun y10=>some y10)) else none) else (if p2.op=6 then ((aQ 0 p2 p3 p4 p5 p6 p7 p8).bind fun y11=>if (0≤0∧0<(y11.length:Int)) then ((aQ 1 p2 p3 p4 p5 p6 p7 p8).bind fun y12=>(pm p2.k (y11.getD 0 default) (y12.length:Int) p2 p3 p4 p5 p6 p7 p8).bind fun y13=>if (0≤(IntKind.wrap .i64 ((y13.length:Int) - 1))∧(IntKind.wrap .i64 ((y13.length:Int) - 1))≤(y13.length:Int)) then (some (y13.drop ((IntKind.wrap .i64 ((y13.length:Int) - 1)).toNat))) else none) else none) else (if p2.op=7 then ((aQ 0 p2 p3 p4 p5 p6 p7 p8).bind fun y14=>if (0≤0∧0<(y14.length:Int)) then ((aQ 1 p2 p3 p4 p5 p6 p7 p8).bind fun y15=>(mQ p2.k (y14.getD 0 default) (y15.length:Int) p2 p3 p4 p5 p6 p7 p8).bind fun y16=>some y16) else none) else (if p2.op=8 then ((jk p2 (List.replicate y1.toNat 0) p3 p4 p5 p6 p7 p8).bind fun y17=>some y17) else (if p2.op=9 then ((aQ 0 p2 p3 p4 p5 p6 p7 p8).bind fun y18=>(aQ 1 p2 p3 p4 p5 p6 p7 p8).bind fun y19=>if (0≤0∧0<(y19.length:Int)) then ((aQ 2 p2 p3 p4 p5 p6 p7 p8).bind fun y20=>if (0≤0∧0<(y20.length:Int)) then ((nJ y18 (y19.getD 0 default) (y20.getD 0 default)).bind fun y21=>some (lit ([y21]:List Int))) else none) else none) else (if p2.op=10 then ((jl p2 (List.replicate y1.toNat 0) p3 p4 p5 p6 p7 p8).bind fun y22=>some y22) else (if p2.op=11 then ((jm p2 (List.replicate y1.toNat 0) p3 p4 p5 p6 p7 p8).bind fun y23=>some y23) else (if p2.op=12 then ((aQ 0 p2 p3 p4 p5 p6 p7 p8).bind fun y24=>(aQ 1 p2 p3 p4 p5 p6 p7 p8).bind fun y25=>(dK (lit ([y24,y25]:List (List Int)))).bind fun y26=>some y26) else (if p2.op=14 then ((jn p2 (List.replicate y1.toNat 0) p3 p4 p5 p6 p7 p8).bind fun y27=>some y27) else (if p2.op=15 then ((aQ 0 p2 p3 p4 p5 p6 p7 p8).bind fun y28=>if (0≤0∧0<(y28.length:Int)) then ((mR p2.k (y28.getD 0 default) p2.n p2 p3 p4 p5 p6 p7 p8).bind fun y29=>if (0≤(IntKind.wrap .i64 ((y29.length:Int) - 1))∧(IntKind.wrap .i64 ((y29.length:Int) - 1))≤(y29.length:Int)) then (some (y29.drop ((IntKind.wrap .i64 ((y29.length:Int) - 1)).toNat))) else none) else none) else (if p2.op=16 then ((aQ 0 p2 p3 p4 p5 p6 p7 p8).bind fun y30=>if (0≤0∧0<(y30.length:Int)) then ((mS p2.k (y30.getD 0 default) (y1.toNat:Int) p2 p3 p4 p5 p6 p7 p8).bind fun y31=>some y31) else none) else (if (-9223372036854775808≤p1∧p1≤9223372036854775807) then (if ((mgL p8 p1).getD [])=[] then ((aQ 0 p2 p3 p4 p5 p6 p7 p8).bind fun y32=>(bB y32).bind fun y33=>some y33) else (some ((mgL p8 p1).getD []))) else none)))))))))))))))) else none) else none
noncomputable def fd(l5:List (Int×List Int))(l8:List Int):Option ((List Int)×an×(List (Int×List Int))) :=
  some (l8,(an.mk 0 0),l5)
noncomputable def dg(p4:List Int)(l3:List (List Int))(l22:List Int)(x24:Int):Option (((List Int)×Int) ⊕ (List Int)) :=
  if x24<(p4.length:Int) then (if (0≤x24∧x24<(p4.length:Int)) then (if (0≤(p4.getD x24.toNat default)∧(p4.getD x24.toNat default)<(l3.length:Int))∧cw (l22.length+((l3.getD ((p4.getD x24.toNat default).toNat) default).length)) 8 then (some (.inl ((l22++(l3.getD ((p4.getD x24.toNat default).toNat) default)),(IntKind.wrap .i64 (x24+1))))) else none) else none) else (some (.inr l22))
noncomputable def fe(p4:List Int)(l3:List (List Int))(l5:List (Int×List Int)):Option ((List Int)×an×(List (Int×List Int))) :=
  (aM (fun (l22,x24)=>dg p4 l3 l22 x24) ([],0)).bind (fun z25=>fd l5 z25)
noncomputable def cp(p5:List ae)(l3:List (List Int))(l33:List (Int×List Int))(x34:Int):Option (((List (Int×List Int))×Int) ⊕ (List (Int×List Int))) :=
  if x34<(p5.length:Int) then (if (0≤x34∧x34<(p5.length:Int)) then (if ((p5.getD x34.toNat default).op)=13 then (if (0≤1∧1<(((p5.getD x34.toNat default).a).length:Int))∧(0≤(((p5.getD x34.toNat default).a).getD 1 default)∧(((p5.getD x34.toNat default).a).getD 1 default)<(l3.length:Int)) then ((bB (l3.getD ((((p5.getD x34.toNat default).a).getD 1 default).toNat) default)).bind fun y35=>if (-9223372036854775808≤x34∧x34≤9223372036854775807)∧l33.length<1000000∧y35≠[] then (some (.inl ((((x34,y35):Int×List Int) :: l33),(IntKind.wrap .i64 (x34+1))))) else none) else none) else (some (.inl (l33,(IntKind.wrap .i64 (x34+1)))))) else none) else (some (.inr l33))
noncomputable def ff(p4:List Int)(p5:List ae)(p6:List (Int×List Int))(l3:List (List Int)):Option ((List Int)×an×(List (Int×List Int))) :=
  (aM (fun (l33,x34)=>cp p5 l3 l33 x34) (p6,0)).bind (fun z36=>fe p4 l3 z36)
noncomputable def dh(p2:List ap)(p3 p4:List Int)(p5:List ae)(p6:List (Int×List Int))(l44:List (List Int))(x45:Int):Option (((List (List Int))×Int) ⊕ (List (List Int))) :=
  if x45<(p5.length:Int) then (if (0≤x45∧x45<(p5.length:Int)) then ((mT x45 (p5.getD x45.toNat default) p2 p3 p4 p5 l44 p6).bind fun y46=>if (0≤(p5.getD x45.toNat default).out_∧(p5.getD x45.toNat default).out_<(l44.length:Int)) then (some (.inl ((l44.set (((p5.getD x45.toNat default).out_).toNat) y46),(IntKind.wrap .i64 (x45+1))))) else none) else none) else (some (.inr l44))
noncomputable def fW(p1:List Int)(p2:List ap)(p3 p4:List Int)(p5:List ae)(p6:List (Int×List Int)):Option ((List Int)×an×(List (Int×List Int))) :=
  if (0≤(p2.length:Int)∧(p2.length:Int)≤(p2.length:Int))∧cw p2.length 24 then ((j5 p1 p2 p3 p4 p5 (List.replicate p2.length []) p6).bind fun y1=>if ¬ ((y1.1).code)=0 then (some ([],(y1.1),p6)) else ((aM (fun (l44,x45)=>dh p2 p3 p4 p5 p6 l44 x45) (y1.2,0)).bind (fun z47=>ff p4 p5 p6 z47))) else none
noncomputable def iV:Option Bool :=
  some true
noncomputable def iW(p1 p2:List Int)(x3:Int):Option (Int ⊕ (Unit ⊕ Bool)) :=
  if x3<(p1.length:Int) then (if (0≤x3∧x3<(p1.length:Int))∧(0≤x3∧x3<(p2.length:Int)) then (if ¬ (p1.getD x3.toNat default)=(p2.getD x3.toNat default) then (some (.inr (.inr false))) else (some (.inl (IntKind.wrap .i64 (x3+1))))) else none) else (some (.inr (.inl ())))
noncomputable def gn(p1 p2:List Int):Option Bool :=
  if ¬ (p1.length:Int)=(p2.length:Int) then (some false) else ((aM (fun x3=>iW p1 p2 x3) 0).bind (Sum.elim (fun _=>iV) (fun z4=>some z4)))
noncomputable def oK(p1:List Int):Option Unit :=
  none
noncomputable def kX:Option Bool :=
  (mP (ab.mk (lit ([(ap.mk 105 0),(ap.mk 105 0),(ap.mk 105 0)]:List ap)) (lit ([0]:List Int)) (lit ([2]:List Int)) (lit ([(ae.mk 1 0 1 5 [] []),(ae.mk 13 0 2 0 (lit ([1,0]:List Int)) [])]:List ae)))).bind fun y1=>Sum.elim (fun y2=>if ¬ ((y2).code)=0 then (some false) else ((oK (lit ([1]:List Int))).bind fun y4=>none)) (fun y3=>if ¬ ((y3.1).code)=0 then (some false) else ((fW (lit ([1]:List Int)) y3.2.2.2.2.1 y3.2.2.2.2.2.1 y3.2.2.2.2.2.2.1 y3.2.2.2.2.2.2.2 y3.2.1).bind fun y5=>(fW (lit ([2]:List Int)) y3.2.2.2.2.1 y3.2.2.2.2.2.1 y3.2.2.2.2.2.2.1 y3.2.2.2.2.2.2.2 y5.2.2).bind fun y6=>if ((y5.2.1).code)=0 then (if ((y6.2.1).code)=0 then ((gn y5.1 (lit ([5]:List Int))).bind fun y7=>if y7=true then ((gn y6.1 (lit ([1]:List Int))).bind fun y8=>if y8=true then ((iD (ab.mk (lit ([(ap.mk 105 0),(ap.mk 105 0),(ap.mk 105 0)]:List ap)) (lit ([0]:List Int)) (lit ([2]:List Int)) (lit ([(ae.mk 1 0 1 5 [] []),(ae.mk 13 0 2 0 (lit ([1,0]:List Int)) [])]:List ae))) (lit ([0,1]:List Int))).bind fun y9=>some (y9 == 2)) else (some false)) else (some false)) else (some false)) else (some false))) y1
noncomputable def jF(p1:Int):Option Int :=
  if p1<1 then (some 1) else (some p1)
noncomputable def fg(p2 x2:Int):Option Bool :=
  some (decide (x2>(IntKind.wrap .i64 (100 * p2))))
noncomputable def fh(p1:ab)(x7 x8:Int):Option ((Int×Int) ⊕ (Int ⊕ Bool)) :=
  some (.inl ((IntKind.wrap .i64 (x7+(IntKind.wrap .i64 ((((p1.rules.getD x8.toNat default).a).length:Int)+(((p1.rules.getD x8.toNat default).e).length:Int))))),(IntKind.wrap .i64 (x8+1))))
noncomputable def di(p1:ab)(x7 x8:Int):Option ((Int×Int) ⊕ (Int ⊕ Bool)) :=
  if x8<(p1.rules.length:Int) then (if (0≤x8∧x8<(p1.rules.length:Int)) then (if (((p1.rules.getD x8.toNat default).a).length:Int)>100 then (some (.inr (.inr true))) else (if (((p1.rules.getD x8.toNat default).e).length:Int)>1000 then (some (.inr (.inr true))) else (if ((p1.rules.getD x8.toNat default).op)=15 then (if ((p1.rules.getD x8.toNat default).n)>1000 then (some (.inr (.inr true))) else (fh p1 x7 x8)) else (fh p1 x7 x8)))) else none) else (some (.inr (.inl x7)))
noncomputable def d8(p1:ab)(p2 x1:Int):Option Bool :=
  (aM (fun (x7,x8)=>di p1 x7 x8) (x1,0)).bind (Sum.elim (fun z9=>fg p2 z9) (fun z10=>some z10))
noncomputable def dj(p1:ab)(x15 x16:Int):Option ((Int×Int) ⊕ (Int ⊕ Bool)) :=
  if x16<(p1.vars.length:Int) then (if (0≤x16∧x16<(p1.vars.length:Int)) then (if ((p1.vars.getD x16.toNat default).n)>1000 then (some (.inr (.inr true))) else ((jF ((p1.vars.getD x16.toNat default).n)).bind fun y17=>some (.inl ((IntKind.wrap .i64 (x15+y17)),(IntKind.wrap .i64 (x16+1)))))) else none) else (some (.inr (.inl x15)))
noncomputable def jo(p1:ab)(p2:Int):Option Bool :=
  if (p1.vars.length:Int)>p2 then (some true) else (if (p1.rules.length:Int)>p2 then (some true) else (if (p1.in_.length:Int)>p2 then (some true) else (if (p1.out_.length:Int)>p2 then (some true) else ((aM (fun (x15,x16)=>dj p1 x15 x16) (0,0)).bind (Sum.elim (fun z18=>d8 p1 p2 z18) (fun z19=>some z19))))))
noncomputable def iX:Option Bool :=
  some false
noncomputable def iY(p1:List (List Int))(x3:Int):Option (Int ⊕ (Unit ⊕ Bool)) :=
  if x3<(p1.length:Int) then (if (0≤x3∧x3<(p1.length:Int)) then (if ((p1.getD x3.toNat default).length:Int)>10000 then (some (.inr (.inr true))) else (some (.inl (IntKind.wrap .i64 (x3+1))))) else none) else (some (.inr (.inl ())))
noncomputable def kY(p1:List (List Int)):Option Bool :=
  if (p1.length:Int)>60 then (some true) else ((aM (fun x3=>iY p1 x3) 0).bind (Sum.elim (fun _=>iX) (fun z4=>some z4)))
noncomputable def jd(p1:ae):Option ae :=
  if cw p1.a.length 8 then (if cw p1.e.length 32 then (some p1) else none) else none
noncomputable def fQ(p1:ab)(l3:List ae):Option ab :=
  some (ab.mk p1.vars p1.in_ p1.out_ l3)
noncomputable def dx(p1:ab)(l17:List ae)(x19:Int):Option (((List ae)×Int) ⊕ (List ae)) :=
  if x19<(p1.rules.length:Int) then (if (0≤x19∧x19<(p1.rules.length:Int)) then ((jd (p1.rules.getD x19.toNat default)).bind fun y20=>if cw (l17.length+1) 80 then (some (.inl ((l17++(lit ([(y20)]:List ae))),(IntKind.wrap .i64 (x19+1))))) else none) else none) else (some (.inr l17))
noncomputable def kc(p1:ab):Option ab :=
  if cw p1.vars.length 16∧cw p1.in_.length 8∧cw p1.out_.length 8 then ((aM (fun (l17,x19)=>dx p1 l17 x19) ([],0)).bind (fun z21=>fQ p1 z21)) else none
noncomputable def jp(l3:List (List Int)):Option (List (List Int)) :=
  some l3
noncomputable def d4(p1 l17:List (List Int))(x19:Int):Option (((List (List Int))×Int) ⊕ (List (List Int))) :=
  if x19<(p1.length:Int) then (if (0≤x19∧x19<(p1.length:Int))∧cw ((p1.getD x19.toNat default).length) 8 then (if cw (l17.length+1) 24 then (some (.inl ((l17++(lit ([(p1.getD x19.toNat default)]:List (List Int)))),(IntKind.wrap .i64 (x19+1))))) else none) else none) else (some (.inr l17))
noncomputable def lT(p1:List (List Int)):Option (List (List Int)) :=
  (aM (fun (l17,x19)=>d4 p1 l17 x19) ([],0)).bind (fun z20=>jp z20)
noncomputable def gq(p1 p2:Int):Option an :=
  some (an.mk p1 p2)
noncomputable def pn:Option Bool :=
  some false
noncomputable def po(p1:List Int)(p2 x3:Int):Option (Int ⊕ (Unit ⊕ Bool)) :=
  if x3<(p1.length:Int) then (if (0≤x3∧x3<(p1.length:Int)) then (if (p1.getD x3.toNat default)=p2 then (some (.inr (.inr true))) else (some (.inl (IntKind.wrap .i64 (x3+1))))) else none) else (some (.inr (.inl ())))
noncomputable def mu(p1:List Int)(p2:Int):Option Bool :=
  (aM (fun x3=>po p1 p2 x3) 0).bind (Sum.elim (fun _=>pn) (fun z4=>some z4))
noncomputable def kZ:Option an :=
  some (an.mk 0 0)
noncomputable def lb(p1:ab)(x7:Int):Option (Int ⊕ (Unit ⊕ an)) :=
  if x7<(p1.out_.length:Int) then (if (0≤x7∧x7<(p1.out_.length:Int)) then (if (p1.out_.getD x7.toNat default)<0 then ((gq 16 (-1)).bind fun y8=>some (.inr (.inr (y8)))) else (if (p1.out_.getD x7.toNat default)≥(p1.vars.length:Int) then ((gq 16 (-1)).bind fun y9=>some (.inr (.inr (y9)))) else (some (.inl (IntKind.wrap .i64 (x7+1)))))) else none) else (some (.inr (.inl ())))
noncomputable def iE(p1:ab):Option an :=
  (aM (fun x7=>lb p1 x7) 0).bind (Sum.elim (fun _=>kZ) (fun z10=>some z10))
noncomputable def lc(p1:ab)(x13:Int):Option (Int ⊕ (Unit ⊕ an)) :=
  if x13<(p1.in_.length:Int) then (if (0≤x13∧x13<(p1.in_.length:Int)) then (if (p1.in_.getD x13.toNat default)<0 then ((gq 16 (-1)).bind fun y14=>some (.inr (.inr (y14)))) else (if (p1.in_.getD x13.toNat default)≥(p1.vars.length:Int) then ((gq 16 (-1)).bind fun y15=>some (.inr (.inr (y15)))) else (if (0≤x13∧x13≤(p1.in_.length:Int)) then ((mu (p1.in_.take x13.toNat) (p1.in_.getD x13.toNat default)).bind fun y16=>if y16=true then ((gq 8 (-1)).bind fun y17=>some (.inr (.inr (y17)))) else (some (.inl (IntKind.wrap .i64 (x13+1))))) else none))) else none) else (some (.inr (.inl ())))
noncomputable def gu(p1:ab):Option an :=
  (aM (fun x13=>lc p1 x13) 0).bind (Sum.elim (fun _=>iE p1) (fun z18=>some z18))
noncomputable def iF(p1:ab)(x21:Int):Option (Int ⊕ (Unit ⊕ an)) :=
  if (0≤x21∧x21<(p1.vars.length:Int)) then (if ((p1.vars.getD x21.toNat default).n)<0 then ((gq 13 (IntKind.wrap .i64 ((-2) - x21))).bind fun y22=>some (.inr (.inr (y22)))) else (if ((p1.vars.getD x21.toNat default).n)>300 then ((gq 13 (IntKind.wrap .i64 ((-2) - x21))).bind fun y23=>some (.inr (.inr (y23)))) else (some (.inl (IntKind.wrap .i64 (x21+1)))))) else none
noncomputable def jG(p1:ab)(x21:Int):Option (Int ⊕ (Unit ⊕ an)) :=
  if x21<(p1.vars.length:Int) then (if (0≤x21∧x21<(p1.vars.length:Int)) then (if ¬ ((p1.vars.getD x21.toNat default).elem)=105 then (if ¬ ((p1.vars.getD x21.toNat default).elem)=98 then ((gq 10 (IntKind.wrap .i64 ((-2) - x21))).bind fun y24=>some (.inr (.inr (y24)))) else (iF p1 x21)) else (iF p1 x21)) else none) else (some (.inr (.inl ())))
noncomputable def n7(p1:ab):Option an :=
  if (p1.vars.length:Int)>400 then ((gq 7 (-1)).bind fun y1=>some (y1)) else (if (p1.in_.length:Int)>400 then ((gq 7 (-1)).bind fun y2=>some (y2)) else (if (p1.out_.length:Int)>400 then ((gq 7 (-1)).bind fun y3=>some (y3)) else (if (p1.rules.length:Int)>400 then ((gq 7 (-1)).bind fun y4=>some (y4)) else ((aM (fun x21=>jG p1 x21) 0).bind (Sum.elim (fun _=>gu p1) (fun z25=>some z25))))))
noncomputable def mU(l3:List Int):Option (List Int) :=
  some l3
noncomputable def io(p1:ab)(p2:Int)(l17:List Int)(x19:Int):Option (((List Int)×Int) ⊕ (List Int)) :=
  if x19<p2 then (if (0≤x19∧x19<(p1.rules.length:Int))∧cw (l17.length+1) 8 then (some (.inl ((l17++(lit ([(p1.rules.getD x19.toNat default).out_]:List Int))),(IntKind.wrap .i64 (x19+1))))) else none) else (some (.inr l17))
noncomputable def pq(p1:ab)(p2:Int):Option (List Int) :=
  (aM (fun (l17,x19)=>io p1 p2 l17 x19) ([],0)).bind (fun z20=>mU z20)
noncomputable def lw(p1:Int):Option Int :=
  if p1<0 then (some (-1)) else (if p1≥(17:Int) then (some (-1)) else (if (0≤p1∧p1<(17:Int)) then (some ((lit ([(-1),0,1,1,2,3,2,2,1,3,3,1,2,2,0,1,1]:List Int)).getD p1.toNat default)) else none))
noncomputable def iG(p2:Int)(l3:List Int)(b5:Bool):Option (List Int) :=
  if b5=true then (some l3) else (if cw (l3.length+1) 8 then (some (l3++(lit ([p2]:List Int)))) else none)
noncomputable def fE(p1:List Int)(x23:Int)(l26:List Int)(b28:Bool):Option (((List Int)×Bool×Int) ⊕ ((List Int)×Bool)) :=
  if (0≤x23∧x23<(p1.length:Int))∧cw (l26.length+1) 8 then (some (.inl ((l26++(lit ([(p1.getD x23.toNat default)]:List Int))),b28,(IntKind.wrap .i64 (x23+1))))) else none
noncomputable def fF(p1:List Int)(p2:Int)(l20:List Int)(b22:Bool)(x23:Int):Option (((List Int)×Bool×Int) ⊕ ((List Int)×Bool)) :=
  if x23<(p1.length:Int) then (if b22=true then (fE p1 x23 l20 b22) else (if (0≤x23∧x23<(p1.length:Int)) then (if (p1.getD x23.toNat default)≥p2 then (if (p1.getD x23.toNat default)>p2 then (if cw (l20.length+1) 8 then (fE p1 x23 (l20++(lit ([p2]:List Int))) true) else none) else (fE p1 x23 l20 true)) else (fE p1 x23 l20 b22)) else none)) else (some (.inr (l20,b22)))
noncomputable def mw(p1:List Int)(p2:Int):Option (List Int) :=
  (aM (fun (l20,b22,x23)=>fF p1 p2 l20 b22 x23) ([],false,0)).bind (fun (z29,z30)=>iG p2 z29 z30)
noncomputable def pr(p1:aL):Option Bool :=
  if p1.op=2 then (some true) else (if p1.op=3 then (some true) else (some (p1.op == 8)))
noncomputable def lz(l2:List Int):Option (List Int) :=
  some l2
noncomputable def ip(p1:ae)(l7:List Int)(x8:Int):Option (((List Int)×Int) ⊕ (List Int)) :=
  if x8<(p1.e.length:Int) then (if (0≤x8∧x8<(p1.e.length:Int)) then ((pr (p1.e.getD x8.toNat default)).bind fun y9=>if y9=true then ((mw l7 ((p1.e.getD x8.toNat default).v)).bind fun y10=>some (.inl (y10,(IntKind.wrap .i64 (x8+1))))) else (some (.inl (l7,(IntKind.wrap .i64 (x8+1)))))) else none) else (some (.inr l7))
noncomputable def kd(p1:ae)(l1:List Int):Option (List Int) :=
  (aM (fun (l7,x8)=>ip p1 l7 x8) (l1,0)).bind (fun z11=>lz z11)
noncomputable def iq(p1:ae)(l18:List Int)(x19:Int):Option (((List Int)×Int) ⊕ (List Int)) :=
  if x19<(p1.a.length:Int) then (if (0≤x19∧x19<(p1.a.length:Int)) then ((mw l18 (p1.a.getD x19.toNat default)).bind fun y20=>some (.inl (y20,(IntKind.wrap .i64 (x19+1))))) else none) else (some (.inr l18))
noncomputable def qE(p1:ae):Option (List Int) :=
  (aM (fun (l18,x19)=>iq p1 l18 x19) ([],0)).bind (fun z21=>kd p1 z21)
noncomputable def ke(p1:ae)(l1:List aL):Option (List Int) :=
  (qE (ae.mk p1.op p1.k p1.out_ p1.n p1.a l1)).bind fun y2=>some y2
noncomputable def n8(p1:ae):Option (List Int) :=
  if p1.op<14 then (ke p1 []) else (ke p1 p1.e)
noncomputable def mV(p1 x1:Int):Option (Int×Int×Int) :=
  if (0≤p1∧p1<(([63,105,105,105,105,105,105,105,105,105,98,98,98,105,98]:List UInt8).length:Int))∧(0≤p1∧p1<(([63,105,105,105,105,105,105,105,98,98,98,98,98,105,98]:List UInt8).length:Int)) then (some (((([63,105,105,105,105,105,105,105,105,105,98,98,98,105,98]:List UInt8).getD p1.toNat 0).toNat:Int),((([63,105,105,105,105,105,105,105,98,98,98,98,98,105,98]:List UInt8).getD p1.toNat 0).toNat:Int),x1)) else none
noncomputable def mW(p1:Int):Option (Int×Int×Int) :=
  if p1<1 then (some (0,0,0)) else (if p1>14 then (some (0,0,0)) else (if p1≥13 then (mV p1 1) else (mV p1 2)))
noncomputable def lA(p1:Int):Option Bool :=
  (mW p1).bind fun y1=>if y1.2.2=2 then (some (y1.1 == y1.2.1)) else (some false)
noncomputable def n9(p1:Int):Option Bool :=
  if p1≥(-1000000) then (some (decide (p1≤1000000))) else (some false)
noncomputable def ir(l3:List Int):Option Int :=
  if ¬ (l3.length:Int)=1 then (some 0) else (if (0≤0∧0<(l3.length:Int)) then (some (l3.getD 0 default)) else none)
noncomputable def gv(p1:ab)(p2:List aL)(p3:Int)(l17:List Int)(x19:Int):Option (((List Int)×Int) ⊕ ((List Int) ⊕ Int)) :=
  if x19<(p2.length:Int) then (if (0≤x19∧x19<(p2.length:Int)) then (if ((p2.getD x19.toNat default).op)=1 then (if ((p2.getD x19.toNat default).k)=0 then (if cw (l17.length+1) 1 then (some (.inl ((l17++(lit ([105]:List Int))),(IntKind.wrap .i64 (x19+1))))) else none) else (if ((p2.getD x19.toNat default).k)=1 then (if ((p2.getD x19.toNat default).n)=0 then (if cw (l17.length+1) 1 then (some (.inl ((l17++(lit ([98]:List Int))),(IntKind.wrap .i64 (x19+1))))) else none) else (if ((p2.getD x19.toNat default).n)=1 then (if cw (l17.length+1) 1 then (some (.inl ((l17++(lit ([98]:List Int))),(IntKind.wrap .i64 (x19+1))))) else none) else (some (.inr (.inr 0))))) else (some (.inr (.inr 0))))) else (if ((p2.getD x19.toNat default).op)=2 then (if (0≤(p2.getD x19.toNat default).v∧(p2.getD x19.toNat default).v<(p1.vars.length:Int)) then (if ¬ ((p1.vars.getD (((p2.getD x19.toNat default).v).toNat) default).n)=0 then (some (.inr (.inr 0))) else (if cw (l17.length+1) 1 then (some (.inl ((l17++(lit ([(p1.vars.getD (((p2.getD x19.toNat default).v).toNat) default).elem]:List Int))),(IntKind.wrap .i64 (x19+1))))) else none)) else none) else (if ((p2.getD x19.toNat default).op)=3 then (if (0≤(p2.getD x19.toNat default).v∧(p2.getD x19.toNat default).v<(p1.vars.length:Int)) then (if ((p1.vars.getD (((p2.getD x19.toNat default).v).toNat) default).n)=0 then (some (.inr (.inr 0))) else (if ((p2.getD x19.toNat default).n)<0 then (some (.inr (.inr 0))) else (if ((p1.vars.getD (((p2.getD x19.toNat default).v).toNat) default).n)<p3 then (some (.inr (.inr 0))) else (if ((p2.getD x19.toNat default).n)>(IntKind.wrap .i64 (((p1.vars.getD (((p2.getD x19.toNat default).v).toNat) default).n) - p3)) then (some (.inr (.inr 0))) else (if cw (l17.length+1) 1 then (some (.inl ((l17++(lit ([(p1.vars.getD (((p2.getD x19.toNat default).v).toNat) default).elem]:List Int))),(IntKind.wrap .i64 (x19+1))))) else none))))) else none) else (if ((p2.getD x19.toNat default).op)=4 then ((n9 ((p2.getD x19.toNat default).n)).bind fun y20=>if y20=true then (if cw (l17.length+1) 1 then (some (.inl ((l17++(lit ([105]:List Int))),(IntKind.wrap .i64 (x19+1))))) else none) else (some (.inr (.inr 0)))) else (if ((p2.getD x19.toNat default).op)=5 then ((mW ((p2.getD x19.toNat default).k)).bind fun y21=>if ¬ y21.2.2=1 then (some (.inr (.inr 0))) else (if (l17.length:Int)<1 then (some (.inr (.inr 0))) else (if (0≤(IntKind.wrap .i64 ((l17.length:Int) - 1))∧(IntKind.wrap .i64 ((l17.length:Int) - 1))<(l17.length:Int)) then (if ¬ (l17.getD ((IntKind.wrap .i64 ((l17.length:Int) - 1)).toNat) default)=y21.1 then (some (.inr (.inr 0))) else (some (.inl ((l17.set ((IntKind.wrap .i64 ((l17.length:Int) - 1)).toNat) y21.2.1),(IntKind.wrap .i64 (x19+1)))))) else none))) else (if ((p2.getD x19.toNat default).op)=6 then ((mW ((p2.getD x19.toNat default).k)).bind fun y22=>if ¬ y22.2.2=2 then (some (.inr (.inr 0))) else (if (l17.length:Int)<2 then (some (.inr (.inr 0))) else (if (0≤(IntKind.wrap .i64 ((l17.length:Int) - 1))∧(IntKind.wrap .i64 ((l17.length:Int) - 1))<(l17.length:Int)) then (if ¬ (l17.getD ((IntKind.wrap .i64 ((l17.length:Int) - 1)).toNat) default)=y22.1 then (some (.inr (.inr 0))) else (if (0≤(IntKind.wrap .i64 ((l17.length:Int) - 2))∧(IntKind.wrap .i64 ((l17.length:Int) - 2))<(l17.length:Int)) then (if ¬ (l17.getD ((IntKind.wrap .i64 ((l17.length:Int) - 2)).toNat) default)=y22.1 then (some (.inr (.inr 0))) else (if (0≤(IntKind.wrap .i64 ((l17.length:Int) - 2))∧(IntKind.wrap .i64 ((l17.length:Int) - 2))≤(l17.length:Int))∧cw (((IntKind.wrap .i64 ((l17.length:Int) - 2)).toNat)+1) 1 then (some (.inl (((l17.take ((IntKind.wrap .i64 ((l17.length:Int) - 2)).toNat))++(lit ([y22.2.1]:List Int))),(IntKind.wrap .i64 (x19+1))))) else none)) else none)) else none))) else (if ((p2.getD x19.toNat default).op)=7 then (if (l17.length:Int)<3 then (some (.inr (.inr 0))) else (if (0≤(IntKind.wrap .i64 ((l17.length:Int) - 3))∧(IntKind.wrap .i64 ((l17.length:Int) - 3))<(l17.length:Int)) then (if ¬ (l17.getD ((IntKind.wrap .i64 ((l17.length:Int) - 3)).toNat) default)=98 then (some (.inr (.inr 0))) else (if (0≤(IntKind.wrap .i64 ((l17.length:Int) - 2))∧(IntKind.wrap .i64 ((l17.length:Int) - 2))<(l17.length:Int))∧(0≤(IntKind.wrap .i64 ((l17.length:Int) - 1))∧(IntKind.wrap .i64 ((l17.length:Int) - 1))<(l17.length:Int)) then (if ¬ (l17.getD ((IntKind.wrap .i64 ((l17.length:Int) - 2)).toNat) default)=(l17.getD ((IntKind.wrap .i64 ((l17.length:Int) - 1)).toNat) default) then (some (.inr (.inr 0))) else (if (0≤(IntKind.wrap .i64 ((l17.length:Int) - 3))∧(IntKind.wrap .i64 ((l17.length:Int) - 3))≤(l17.length:Int))∧cw (((IntKind.wrap .i64 ((l17.length:Int) - 3)).toNat)+1) 1 then (some (.inl (((l17.take ((IntKind.wrap .i64 ((l17.length:Int) - 3)).toNat))++(lit ([(l17.getD ((IntKind.wrap .i64 ((l17.length:Int) - 1)).toNat) default)]:List Int))),(IntKind.wrap .i64 (x19+1))))) else none)) else none)) else none)) else (if ((p2.getD x19.toNat default).op)=8 then (if (0≤(p2.getD x19.toNat default).v∧(p2.getD x19.toNat default).v<(p1.vars.length:Int)) then (if ((p1.vars.getD (((p2.getD x19.toNat default).v).toNat) default).n)=0 then (some (.inr (.inr 0))) else (if (l17.length:Int)<2 then (some (.inr (.inr 0))) else (if (0≤(IntKind.wrap .i64 ((l17.length:Int) - 2))∧(IntKind.wrap .i64 ((l17.length:Int) - 2))<(l17.length:Int)) then (if ¬ (l17.getD ((IntKind.wrap .i64 ((l17.length:Int) - 2)).toNat) default)=105 then (some (.inr (.inr 0))) else (if (0≤(IntKind.wrap .i64 ((l17.length:Int) - 1))∧(IntKind.wrap .i64 ((l17.length:Int) - 1))<(l17.length:Int)) then (if ¬ (l17.getD ((IntKind.wrap .i64 ((l17.length:Int) - 1)).toNat) default)=((p1.vars.getD (((p2.getD x19.toNat default).v).toNat) default).elem) then (some (.inr (.inr 0))) else (if (0≤(IntKind.wrap .i64 ((l17.length:Int) - 2))∧(IntKind.wrap .i64 ((l17.length:Int) - 2))≤(l17.length:Int))∧cw (((IntKind.wrap .i64 ((l17.length:Int) - 2)).toNat)+1) 1 then (some (.inl (((l17.take ((IntKind.wrap .i64 ((l17.length:Int) - 2)).toNat))++(lit ([(p1.vars.getD (((p2.getD x19.toNat default).v).toNat) default).elem]:List Int))),(IntKind.wrap .i64 (x19+1))))) else none)) else none)) else none))) else none) else (some (.inr (.inr 0))))))))))) else none) else (some (.inr (.inl l17)))
noncomputable def lU(p1:ab)(p2:List aL)(p3:Int):Option Int :=
  (aM (fun (l17,x19)=>gv p1 p2 p3 l17 x19) ([],0)).bind (Sum.elim (fun z23=>ir z23) (fun z24=>some z24))
noncomputable def aB(p1:ab)(p2:ae)(l2:List ap):Option Bool :=
  (mW p2.k).bind fun y3=>if p2.op=1 then (if ((p1.vars.getD p2.out_.toNat default).elem)=105∧((p1.vars.getD p2.out_.toNat default).n)=0 then (some true) else (if ((p1.vars.getD p2.out_.toNat default).elem)=98∧((p1.vars.getD p2.out_.toNat default).n)=0 then (if p2.n=0 then (some true) else (some (p2.n == 1))) else (some false))) else (if p2.op=2 then (if (0≤0∧0<(3:Int))∧0<l2.length then (some ((((l2.getD 0 default).elem) == ((p1.vars.getD p2.out_.toNat default).elem)) && (((l2.getD 0 default).n) == ((p1.vars.getD p2.out_.toNat default).n)))) else none) else (if p2.op=3 then (if y3.2.2=1 then (if (0≤0∧0<(3:Int))∧0<l2.length then (if ((l2.getD 0 default).elem)=y3.1 then (some ((((p1.vars.getD p2.out_.toNat default).elem) == y3.2.1) && (((p1.vars.getD p2.out_.toNat default).n) == ((l2.getD 0 default).n)))) else (some false)) else none) else (some false)) else (if p2.op=4 then (if y3.2.2=2 then (if (0≤0∧0<(3:Int))∧0<l2.length then (if ((l2.getD 0 default).elem)=y3.1 then (if (0≤1∧1<(3:Int))∧1<l2.length then (if ((l2.getD 1 default).elem)=((l2.getD 0 default).elem)∧((l2.getD 1 default).n)=((l2.getD 0 default).n) then (some ((((p1.vars.getD p2.out_.toNat default).elem) == y3.2.1) && (((p1.vars.getD p2.out_.toNat default).n) == ((l2.getD 0 default).n)))) else (some false)) else none) else (some false)) else none) else (some false)) else (if p2.op=5 then (if (0≤0∧0<(3:Int))∧0<l2.length then (if ((l2.getD 0 default).elem)=98∧((l2.getD 0 default).n)=0 then (if (0≤1∧1<(3:Int))∧1<l2.length then (if ((l2.getD 1 default).elem)=((p1.vars.getD p2.out_.toNat default).elem)∧((l2.getD 1 default).n)=((p1.vars.getD p2.out_.toNat default).n) then (if (0≤2∧2<(3:Int))∧2<l2.length then (some ((((l2.getD 2 default).elem) == ((p1.vars.getD p2.out_.toNat default).elem)) && (((l2.getD 2 default).n) == ((p1.vars.getD p2.out_.toNat default).n)))) else none) else (some false)) else none) else (some false)) else none) else (if p2.op=6 then ((lA p2.k).bind fun y4=>if y4=true then (if (0≤0∧0<(3:Int))∧0<l2.length then (if ((l2.getD 0 default).elem)=y3.1∧((l2.getD 0 default).n)=0 then (if (0≤1∧1<(3:Int))∧1<l2.length then (if ((l2.getD 1 default).n)>0 then (if ((l2.getD 1 default).elem)=y3.1 then (some ((((p1.vars.getD p2.out_.toNat default).elem) == ((l2.getD 0 default).elem)) && (((p1.vars.getD p2.out_.toNat default).n) == ((l2.getD 0 default).n)))) else (some false)) else (some false)) else none) else (some false)) else none) else (some false)) else (if p2.op=7 then ((lA p2.k).bind fun y5=>if y5=true then (if (0≤0∧0<(3:Int))∧0<l2.length then (if ((l2.getD 0 default).elem)=y3.1∧((l2.getD 0 default).n)=0 then (if (0≤1∧1<(3:Int))∧1<l2.length then (if ((l2.getD 1 default).n)>0 then (if ((l2.getD 1 default).elem)=y3.1 then (some ((((p1.vars.getD p2.out_.toNat default).elem) == ((l2.getD 1 default).elem)) && (((p1.vars.getD p2.out_.toNat default).n) == ((l2.getD 1 default).n)))) else (some false)) else (some false)) else none) else (some false)) else none) else (some false)) else (if p2.op=8 then (if (0≤0∧0<(3:Int))∧0<l2.length then (if ((l2.getD 0 default).n)=0 then (if ((p1.vars.getD p2.out_.toNat default).n)>0 then (some (((p1.vars.getD p2.out_.toNat default).elem) == ((l2.getD 0 default).elem))) else (some false)) else (some false)) else none) else (if p2.op=9 then (if (0≤0∧0<(3:Int))∧0<l2.length then (if ((l2.getD 0 default).n)>0 then (if (0≤1∧1<(3:Int))∧1<l2.length then (if ((l2.getD 1 default).elem)=105∧((l2.getD 1 default).n)=0 then (if (0≤2∧2<(3:Int))∧2<l2.length then (if ((l2.getD 2 default).elem)=((l2.getD 0 default).elem)∧((l2.getD 2 default).n)=0 then (some ((((p1.vars.getD p2.out_.toNat default).elem) == ((l2.getD 2 default).elem)) && (((p1.vars.getD p2.out_.toNat default).n) == ((l2.getD 2 default).n)))) else (some false)) else none) else (some false)) else none) else (some false)) else none) else (if p2.op=10 then (if (0≤0∧0<(3:Int))∧0<l2.length then (if ((l2.getD 0 default).n)>0 then (if (0≤1∧1<(3:Int))∧1<l2.length then (if ((l2.getD 1 default).elem)=105∧((l2.getD 1 default).n)=0 then (if (0≤2∧2<(3:Int))∧2<l2.length then (if ((l2.getD 2 default).elem)=((l2.getD 0 default).elem)∧((l2.getD 2 default).n)=0 then (some ((((p1.vars.getD p2.out_.toNat default).elem) == ((l2.getD 0 default).elem)) && (((p1.vars.getD p2.out_.toNat default).n) == ((l2.getD 0 default).n)))) else (some false)) else none) else (some false)) else none) else (some false)) else none) else (if p2.op=11 then (if ((p1.vars.getD p2.out_.toNat default).n)>0 then (if (0≤0∧0<(3:Int))∧0<l2.length then (if ((l2.getD 0 default).n)>0 then (if ((p1.vars.getD p2.out_.toNat default).elem)=((l2.getD 0 default).elem) then (if p2.n≥0 then (if ((p1.vars.getD p2.out_.toNat default).n)≤((l2.getD 0 default).n) then (some (decide (p2.n≤(IntKind.wrap .i64 (((l2.getD 0 default).n) - ((p1.vars.getD p2.out_.toNat default).n)))))) else (some false)) else (some false)) else (some false)) else (some false)) else none) else (some false)) else (if p2.op=12 then (if (0≤0∧0<(3:Int))∧0<l2.length then (if ((l2.getD 0 default).n)>0 then (if (0≤1∧1<(3:Int))∧1<l2.length then (if ((l2.getD 1 default).n)>0 then (if ((l2.getD 0 default).elem)=((l2.getD 1 default).elem) then (some ((((p1.vars.getD p2.out_.toNat default).elem) == ((l2.getD 0 default).elem)) && (((p1.vars.getD p2.out_.toNat default).n) == (IntKind.wrap .i64 (((l2.getD 0 default).n)+((l2.getD 1 default).n)))))) else (some false)) else (some false)) else none) else (some false)) else none) else (if p2.op=13 then (if (0≤0∧0<(3:Int))∧0<l2.length then (if ((l2.getD 0 default).elem)=((p1.vars.getD p2.out_.toNat default).elem)∧((l2.getD 0 default).n)=((p1.vars.getD p2.out_.toNat default).n) then (if (0≤1∧1<(3:Int))∧1<l2.length then (some ((((l2.getD 1 default).elem) == ((p1.vars.getD p2.out_.toNat default).elem)) && (((l2.getD 1 default).n) == ((p1.vars.getD p2.out_.toNat default).n)))) else none) else (some false)) else none) else (if p2.op=14 then ((jF ((p1.vars.getD p2.out_.toNat default).n)).bind fun y6=>(lU p1 p2.e y6).bind fun y7=>some (y7 == ((p1.vars.getD p2.out_.toNat default).elem))) else (if p2.op=15 then ((lA p2.k).bind fun y8=>if y8=true then (if ((p1.vars.getD p2.out_.toNat default).elem)=y3.1∧((p1.vars.getD p2.out_.toNat default).n)=0 then (if (0≤0∧0<(3:Int))∧0<l2.length then (if ((l2.getD 0 default).elem)=((p1.vars.getD p2.out_.toNat default).elem)∧((l2.getD 0 default).n)=((p1.vars.getD p2.out_.toNat default).n) then (if p2.n≥1 then (if p2.n≤300 then ((lU p1 p2.e p2.n).bind fun y9=>some (y9 == y3.1)) else (some false)) else (some false)) else (some false)) else none) else (some false)) else (some false)) else ((lA p2.k).bind fun y10=>if y10=true then (if ((p1.vars.getD p2.out_.toNat default).n)>0 then (if ((p1.vars.getD p2.out_.toNat default).elem)=y3.1 then (if (0≤0∧0<(3:Int))∧0<l2.length then (if ((l2.getD 0 default).elem)=y3.1∧((l2.getD 0 default).n)=0 then ((lU p1 p2.e ((p1.vars.getD p2.out_.toNat default).n)).bind fun y11=>some (y11 == y3.1)) else (some false)) else none) else (some false)) else (some false)) else (some false))))))))))))))))
noncomputable def cO(p1:ab)(p2:ae)(l19:List ap)(x20:Int):Option (((List ap)×Int) ⊕ (List ap)) :=
  if x20<(p2.a.length:Int) then (if (0≤x20∧x20<(p2.a.length:Int))∧(0≤(p2.a.getD x20.toNat default)∧(p2.a.getD x20.toNat default)<(p1.vars.length:Int))∧(0≤x20∧x20<(3:Int))∧x20.toNat<l19.length then (some (.inl ((l19.set x20.toNat (p1.vars.getD ((p2.a.getD x20.toNat default).toNat) default)),(IntKind.wrap .i64 (x20+1))))) else none) else (some (.inr l19))
noncomputable def aA(p1:ab)(p2:ae):Option Bool :=
  if (0≤p2.out_∧p2.out_<(p1.vars.length:Int)) then ((aM (fun (l19,x20)=>cO p1 p2 l19 x20) ((List.replicate 3 (ap.mk 0 0)),0)).bind (fun z21=>aB p1 p2 z21)) else none
noncomputable def jq:Option an :=
  some (an.mk 0 0)
noncomputable def gQ(p1:ab)(y2:(List Int))(x5:Int):Option (Int ⊕ (Unit ⊕ an)) :=
  if x5<(p1.out_.length:Int) then (if (0≤x5∧x5<(p1.out_.length:Int)) then ((mu p1.in_ (p1.out_.getD x5.toNat default)).bind fun y6=>if y6=true then (some (.inl (IntKind.wrap .i64 (x5+1)))) else ((mu y2 (p1.out_.getD x5.toNat default)).bind fun y7=>if y7=true then (some (.inl (IntKind.wrap .i64 (x5+1)))) else ((gq 9 (-1)).bind fun y8=>some (.inr (.inr (y8)))))) else none) else (some (.inr (.inl ())))
noncomputable def gR(p1:ab)(y2:(List Int)):Option an :=
  (aM (fun x5=>gQ p1 y2 x5) 0).bind (Sum.elim (fun _=>jq) (fun z9=>some z9))
noncomputable def gS(x12:Int):Option (Int ⊕ (Unit ⊕ an)) :=
  some (.inl (IntKind.wrap .i64 (x12+1)))
noncomputable def jr(p1:ab)(y2:(List Int))(x12:Int)(y13:(List Int))(x16:Int):Option (Int ⊕ (Unit ⊕ an)) :=
  if x16<(y13.length:Int) then (if (0≤x16∧x16<(y13.length:Int)) then ((mu p1.in_ (y13.getD x16.toNat default)).bind fun y17=>if y17=true then (some (.inl (IntKind.wrap .i64 (x16+1)))) else ((mu y2 (y13.getD x16.toNat default)).bind fun y18=>if y18=true then (some (.inl (IntKind.wrap .i64 (x16+1)))) else ((gq 9 x12).bind fun y19=>some (.inr (.inr (y19)))))) else none) else (some (.inr (.inl ())))
noncomputable def gT(p1:ab)(y2:(List Int))(x12:Int):Option (Int ⊕ (Unit ⊕ an)) :=
  if x12<(p1.rules.length:Int) then (if (0≤x12∧x12<(p1.rules.length:Int)) then ((n8 (p1.rules.getD x12.toNat default)).bind fun y13=>(aM (fun x16=>jr p1 y2 x12 y13 x16) 0).bind (Sum.elim (fun _=>gS x12) (fun z20=>some (.inr (.inr z20))))) else none) else (some (.inr (.inl ())))
noncomputable def gU(p1:ab):Option an :=
  (pq p1 (p1.rules.length:Int)).bind fun y2=>(aM (fun x12=>gT p1 y2 x12) 0).bind (Sum.elim (fun _=>gR p1 y2) (fun z21=>some z21))
noncomputable def js(x24:Int):Option (Int ⊕ (Unit ⊕ an)) :=
  some (.inl (IntKind.wrap .i64 (x24+1)))
noncomputable def gV(p1:ab)(x24:Int):Option (Int ⊕ (Unit ⊕ an)) :=
  (aA p1 (p1.rules.getD x24.toNat default)).bind fun y38=>if y38=true then (js x24) else ((gq 10 x24).bind fun y39=>some (.inr (.inr (y39))))
noncomputable def jt(p1:ab)(x24:Int)(y37:(List Int))(x42:Int):Option (Int ⊕ (Unit ⊕ an)) :=
  if x42<(y37.length:Int) then (if (0≤x42∧x42<(y37.length:Int)) then (if (y37.getD x42.toNat default)<0 then ((gq 16 x24).bind fun y43=>some (.inr (.inr (y43)))) else (if (y37.getD x42.toNat default)≥(p1.vars.length:Int) then ((gq 16 x24).bind fun y44=>some (.inr (.inr (y44)))) else (some (.inl (IntKind.wrap .i64 (x42+1)))))) else none) else (some (.inr (.inl ())))
noncomputable def gW(p1:ab)(x24:Int):Option (Int ⊕ (Unit ⊕ an)) :=
  if x24<(p1.rules.length:Int) then (if (0≤x24∧x24<(p1.rules.length:Int)) then (if ((p1.rules.getD x24.toNat default).out_)<0 then ((gq 16 x24).bind fun y25=>some (.inr (.inr (y25)))) else (if ((p1.rules.getD x24.toNat default).out_)≥(p1.vars.length:Int) then ((gq 16 x24).bind fun y26=>some (.inr (.inr (y26)))) else ((mu p1.in_ ((p1.rules.getD x24.toNat default).out_)).bind fun y27=>if y27=true then ((gq 8 x24).bind fun y28=>some (.inr (.inr (y28)))) else ((pq p1 x24).bind fun y29=>(mu y29 ((p1.rules.getD x24.toNat default).out_)).bind fun y30=>if y30=true then ((gq 8 x24).bind fun y31=>some (.inr (.inr (y31)))) else ((lw ((p1.rules.getD x24.toNat default).op)).bind fun y32=>if y32<0 then ((gq 4 x24).bind fun y33=>some (.inr (.inr (y33)))) else ((lw ((p1.rules.getD x24.toNat default).op)).bind fun y34=>if ¬ y34=(((p1.rules.getD x24.toNat default).a).length:Int) then ((gq 4 x24).bind fun y35=>some (.inr (.inr (y35)))) else (if (((p1.rules.getD x24.toNat default).e).length:Int)>24 then ((gq 7 x24).bind fun y36=>some (.inr (.inr (y36)))) else ((n8 (p1.rules.getD x24.toNat default)).bind fun y37=>(aM (fun x42=>jt p1 x24 y37 x42) 0).bind (Sum.elim (fun _=>gV p1 x24) (fun z45=>some (.inr (.inr z45)))))))))))) else none) else (some (.inr (.inl ())))
noncomputable def lV(p1:ab):Option an :=
  (n7 p1).bind fun y1=>if ¬ ((y1).code)=0 then (some (y1)) else ((aM (fun x24=>gW p1 x24) 0).bind (Sum.elim (fun _=>gU p1) (fun z46=>some z46)))
noncomputable def mX:Option Bool :=
  some false
noncomputable def mY(p1:Int)(p2:List Int)(x3:Int):Option (Int ⊕ (Unit ⊕ Bool)) :=
  if x3<(p2.length:Int) then (if (0≤x3∧x3<(p2.length:Int)) then (if (p2.getD x3.toNat default)=p1 then (some (.inr (.inr true))) else (some (.inl (IntKind.wrap .i64 (x3+1))))) else none) else (some (.inr (.inl ())))
noncomputable def qF(p1:Int)(p2:List Int):Option Bool :=
  (aM (fun x3=>mY p1 p2 x3) 0).bind (Sum.elim (fun _=>mX) (fun z4=>some z4))
noncomputable def je(p1:ae):Option (List Int) :=
  (n8 p1).bind fun y1=>some y1
noncomputable def pt(p1:ae):Option (List Int) :=
  if p1.op=13 then (if (p1.a.length:Int)=2 then (if (0≤0∧0<(p1.a.length:Int)) then (some (lit ([(p1.a.getD 0 default)]:List Int))) else none) else (je p1)) else (je p1)
noncomputable def lW:Option Bool :=
  some true
noncomputable def lX(x4:Int):Option (Int ⊕ (Unit ⊕ Bool)) :=
  some (.inl (IntKind.wrap .i64 (x4+1)))
noncomputable def jf(x4:Int)(b6:Bool):Option (Int ⊕ (Unit ⊕ Bool)) :=
  if b6=true then (lX x4) else (some (.inr (.inr false)))
noncomputable def fG(p1:ab)(p3:List Int)(y1:(List Int))(x4:Int)(b11:Bool)(x12:Int):Option ((Bool×Int) ⊕ Bool) :=
  if x12<(p3.length:Int) then (if b11=true then (some (.inl (true,(IntKind.wrap .i64 (x12+1))))) else (if (0≤x12∧x12<(p3.length:Int))∧(0≤(p3.getD x12.toNat default)∧(p3.getD x12.toNat default)<(p1.rules.length:Int)) then (some (.inl ((((p1.rules.getD ((p3.getD x12.toNat default).toNat) default).out_) == (y1.getD x4.toNat default)),(IntKind.wrap .i64 (x12+1))))) else none)) else (some (.inr b11))
noncomputable def lY(p1:ab)(p3:List Int)(y1:(List Int))(x4:Int):Option (Int ⊕ (Unit ⊕ Bool)) :=
  if x4<(y1.length:Int) then (if (0≤x4∧x4<(y1.length:Int)) then ((mu p1.in_ (y1.getD x4.toNat default)).bind fun y5=>(aM (fun (b11,x12)=>fG p1 p3 y1 x4 b11 x12) (y5,0)).bind (fun z13=>jf x4 z13)) else none) else (some (.inr (.inl ())))
noncomputable def pu(p1:ab)(p2:ae)(p3:List Int):Option Bool :=
  (pt p2).bind fun y1=>(aM (fun x4=>lY p1 p3 y1 x4) 0).bind (Sum.elim (fun _=>lW) (fun z14=>some z14))
noncomputable def lZ(l3:List Int):Option (List Int) :=
  some l3
noncomputable def fH(p1:ab)(l17:List Int)(x30:Int):Option (Int ⊕ ((List Int)×Bool)) :=
  if x30<(p1.rules.length:Int) then ((qF x30 l17).bind fun y31=>if y31=true then (some (.inl (IntKind.wrap .i64 (x30+1)))) else (if (0≤x30∧x30<(p1.rules.length:Int)) then ((pu p1 (p1.rules.getD x30.toNat default) l17).bind fun y32=>if y32=true then (if cw (l17.length+1) 8 then (some (.inr ((l17++(lit ([x30]:List Int))),true))) else none) else (some (.inl (IntKind.wrap .i64 (x30+1))))) else none)) else (some (.inr (l17,false)))
noncomputable def gl(p1:ab)(l17:List Int)(b19:Bool):Option (((List Int)×Bool) ⊕ (List Int)) :=
  if b19=true then ((aM (fun x30=>fH p1 l17 x30) 0).bind (fun (z33,z34)=>some (.inl (z33,z34)))) else (some (.inr l17))
noncomputable def pw(p1:ab):Option (List Int) :=
  (aM (fun (l17,b19)=>gl p1 l17 b19) ([],true)).bind (fun z35=>lZ z35)
noncomputable def eT(p1:ab)(l3:List ae):Option ((List ap)×(List Int)×(List Int)×(List ae)) :=
  some (p1.vars,p1.in_,p1.out_,l3)
noncomputable def cK(p1:ab)(l17:List ae)(x19:Int):Option (((List ae)×Int) ⊕ (List ae)) :=
  if x19<(p1.rules.length:Int) then (if (0≤x19∧x19<(p1.rules.length:Int)) then ((jd (p1.rules.getD x19.toNat default)).bind fun y20=>if cw (l17.length+1) 80 then (some (.inl ((l17++(lit ([(y20)]:List ae))),(IntKind.wrap .i64 (x19+1))))) else none) else none) else (some (.inr l17))
noncomputable def iZ(p1:ab):Option ((List ap)×(List Int)×(List Int)×(List ae)) :=
  if cw p1.vars.length 16∧cw p1.in_.length 8∧cw p1.out_.length 8 then ((aM (fun (l17,x19)=>cK p1 l17 x19) ([],0)).bind (fun z21=>eT p1 z21)) else none
noncomputable def mZ(y3:((List ap)×(List Int)×(List Int)×(List ae)))(l5:List ae):Option (ab×an) :=
  some ((ab.mk y3.1 y3.2.1 y3.2.2.1 l5),(an.mk 0 0))
noncomputable def gw(p1:ab)(y2:(List Int))(l13:List ae)(x14:Int):Option (((List ae)×Int) ⊕ (List ae)) :=
  if x14<(y2.length:Int) then (if (0≤x14∧x14<(y2.length:Int))∧(0≤(y2.getD x14.toNat default)∧(y2.getD x14.toNat default)<(p1.rules.length:Int)) then ((jd (p1.rules.getD ((y2.getD x14.toNat default).toNat) default)).bind fun y15=>if (0≤x14∧x14<(l13.length:Int)) then (some (.inl ((l13.set x14.toNat (y15)),(IntKind.wrap .i64 (x14+1))))) else none) else none) else (some (.inr l13))
noncomputable def m0(p1:ab)(y2:(List Int)):Option (ab×an) :=
  (iZ p1).bind fun y3=>(aM (fun (l13,x14)=>gw p1 y2 l13 x14) (y3.2.2.2,0)).bind (fun z16=>mZ y3 z16)
noncomputable def i5(y2:(List Int))(x19:Int):Option (Int ⊕ (ab×an)) :=
  (mu y2 x19).bind fun y20=>if y20=true then (some (.inl (IntKind.wrap .i64 (x19+1)))) else ((gq 15 x19).bind fun y21=>some (.inr ((ab.mk [] [] [] []),(y21))))
noncomputable def py(p1:ab):Option (ab×an) :=
  (lV p1).bind fun y1=>if ¬ ((y1).code)=0 then (some ((ab.mk [] [] [] []),(y1))) else ((pw p1).bind fun y2=>if (y2.length:Int)<(p1.rules.length:Int) then ((aM (fun x19=>i5 y2 x19) 0).bind (fun z22=>some z22)) else (m0 p1 y2))
noncomputable def nK(p1:ab):Option ((List ap)×(List Int)×(List Int)×(List ae)×Int×(List (List Int))×(List (List Int))) :=
  if (0≤(p1.rules.length:Int)∧(p1.rules.length:Int)≤(p1.rules.length:Int))∧cw p1.rules.length 24 then (some (p1.vars,p1.in_,p1.out_,p1.rules,0,(List.replicate p1.rules.length []),[])) else none
noncomputable def kf(x1:Int):Option Int :=
  some x1
noncomputable def eO(p1:ab)(p2:List Int)(x6 x7:Int):Option ((Int×Int) ⊕ Int) :=
  if x7<(p2.length:Int) then (if (0≤x7∧x7<(p2.length:Int))∧(0≤(p2.getD x7.toNat default)∧(p2.getD x7.toNat default)<(p1.vars.length:Int)) then ((jF ((p1.vars.getD ((p2.getD x7.toNat default).toNat) default).n)).bind fun y8=>some (.inl ((IntKind.wrap .i64 (x6+y8)),(IntKind.wrap .i64 (x7+1))))) else none) else (some (.inr x6))
noncomputable def lB(p1:ab)(p2:List Int):Option Int :=
  (aM (fun (x6,x7)=>eO p1 p2 x6 x7) (0,0)).bind (fun z9=>kf z9)
noncomputable def ju:Option an :=
  some (an.mk 0 0)
noncomputable def gX(x8 x9:Int):Option ((Int×Int) ⊕ (Unit ⊕ an)) :=
  some (.inl (x9,(IntKind.wrap .i64 (x8+1))))
noncomputable def dB(p1:ab)(p2:List Int)(x8 x14 x15:Int):Option ((Int×Int) ⊕ (Int ⊕ an)) :=
  (jF ((p1.vars.getD ((p1.in_.getD x8.toNat default).toNat) default).n)).bind fun y16=>if x15<y16 then (if ((p1.vars.getD ((p1.in_.getD x8.toNat default).toNat) default).elem)=98 then (if (0≤x14∧x14<(p2.length:Int)) then (if ¬ (p2.getD x14.toNat default)=0 then (if ¬ (p2.getD x14.toNat default)=1 then ((gq 17 x14).bind fun y17=>some (.inr (.inr (y17)))) else (some (.inl ((IntKind.wrap .i64 (x14+1)),(IntKind.wrap .i64 (x15+1)))))) else (some (.inl ((IntKind.wrap .i64 (x14+1)),(IntKind.wrap .i64 (x15+1)))))) else none) else (some (.inl ((IntKind.wrap .i64 (x14+1)),(IntKind.wrap .i64 (x15+1)))))) else (some (.inr (.inl x14)))
noncomputable def d5(p1:ab)(p2:List Int)(x7 x8:Int):Option ((Int×Int) ⊕ (Unit ⊕ an)) :=
  if x8<(p1.in_.length:Int) then (if (0≤x8∧x8<(p1.in_.length:Int))∧(0≤(p1.in_.getD x8.toNat default)∧(p1.in_.getD x8.toNat default)<(p1.vars.length:Int)) then ((aM (fun (x14,x15)=>dB p1 p2 x8 x14 x15) (x7,0)).bind (Sum.elim (fun z18=>gX x8 z18) (fun z19=>some (.inr (.inr z19))))) else none) else (some (.inr (.inl ())))
noncomputable def ma(p1:ab)(p2:List Int):Option an :=
  (lB p1 p1.in_).bind fun y1=>if ¬ (p2.length:Int)=y1 then ((gq 17 (-1)).bind fun y2=>some (y2)) else ((aM (fun (x7,x8)=>d5 p1 p2 x7 x8) (0,0)).bind (Sum.elim (fun _=>ju) (fun z20=>some z20)))
noncomputable def bi(b1:Bool):Option Int :=
  if b1=true then (some 1) else (some 0)
noncomputable def bn(p1 p2 p3:Int):Option Int :=
  if p1=1 then (some (IntKind.wrap .i64 (p2+p3))) else (if p1=2 then (some (IntKind.wrap .i64 (p2 - p3))) else (if p1=3 then (some (IntKind.wrap .i64 (p2 * p3))) else (if p1=13 then (some (IntKind.wrap .i64 (0 - p2))) else (if p1=4 then (if p3=0 then (some 0) else (if p3=(-1) then (some (IntKind.wrap .i64 (0 - p2))) else (if p3≠0 then (some (IntKind.wrap .i64 (p2.tdiv p3))) else none))) else (if p1=5 then (if p3=0 then (some 0) else (if p3=(-1) then (some 0) else (if p3≠0 then (some (IntKind.wrap .i64 (p2 - (IntKind.wrap .i64 ((IntKind.wrap .i64 (p2.tdiv p3)) * p3))))) else none))) else (if p1=6 then (if p3<p2 then (some p3) else (some p2)) else (if p1=7 then (if p3>p2 then (some p3) else (some p2)) else (if p1=8 then (bi (decide (p2<p3))) else (if p1=9 then (bi (p2 == p3)) else (if p1=10 then (if ¬ p2=0 then (bi (p3 != 0)) else (bi false)) else (if p1=11 then (if ¬ p2=0 then (bi true) else (bi (p3 != 0))) else (if p1=12 then (bi (!((p2 == 0) == (p3 == 0)))) else (if p1=14 then (bi (p2 == 0)) else (bi false))))))))))))))
noncomputable def my(p1:List Int)(p2 p3:Int):Option Int :=
  if p2≥0 then (if p2<(p1.length:Int) then (if (0≤p2∧p2<(p1.length:Int)) then (some (p1.getD p2.toNat default)) else none) else (some p3)) else (some p3)
noncomputable def ck(rc_ref_Meaning_of:Int→(List ap)→(List Int)→(List Int)→(List ae)→Nat→Nat→Int→(List (List Int))→(List (List Int))→Option ((List Int)×(List (List Int))))(rcf:(List aL)→Int→Int→(List ap)→(List Int)→(List Int)→(List ae)→Nat→Nat→Int→(List (List Int))→(List (List Int))→Option (Int×Int×(List (List Int))))(p1:List aL)(p2 p3:Int)(p4:List ap)(p5 p6:List Int)(p7:List ae)(p8 p9:Nat)(p10:Int)(p11 p12:List (List Int)):Option (Int×Int×(List (List Int))) :=
  if (0≤p2∧p2<(p1.length:Int)) then (if ((p1.getD p2.toNat default).op)=1 then (some ((p1.getD p2.toNat default).n,(IntKind.wrap .i64 (p2 - 1)),p12)) else (if ((p1.getD p2.toNat default).op)=2 then ((rc_ref_Meaning_of ((p1.getD p2.toNat default).v) p4 p5 p6 p7 p8 p9 p10 p11 p12).bind fun y1=>if (0≤0∧0<(y1.1.length:Int)) then (some ((y1.1.getD 0 default),(IntKind.wrap .i64 (p2 - 1)),y1.2)) else none) else (if ((p1.getD p2.toNat default).op)=3 then ((rc_ref_Meaning_of ((p1.getD p2.toNat default).v) p4 p5 p6 p7 p8 p9 p10 p11 p12).bind fun y2=>if (0≤(IntKind.wrap .i64 (p3+((p1.getD p2.toNat default).n)))∧(IntKind.wrap .i64 (p3+((p1.getD p2.toNat default).n)))<(y2.1.length:Int)) then (some ((y2.1.getD ((IntKind.wrap .i64 (p3+((p1.getD p2.toNat default).n))).toNat) default),(IntKind.wrap .i64 (p2 - 1)),y2.2)) else none) else (if ((p1.getD p2.toNat default).op)=4 then (some ((IntKind.wrap .i64 (p3+((p1.getD p2.toNat default).n))),(IntKind.wrap .i64 (p2 - 1)),p12)) else (if ((p1.getD p2.toNat default).op)=5 then ((rcf p1 (IntKind.wrap .i64 (p2 - 1)) p3 p4 p5 p6 p7 p8 p9 p10 p11 p12).bind fun y3=>(bn ((p1.getD p2.toNat default).k) y3.1 0).bind fun y4=>some (y4,y3.2.1,y3.2.2)) else ((rcf p1 (IntKind.wrap .i64 (p2 - 1)) p3 p4 p5 p6 p7 p8 p9 p10 p11 p12).bind fun y5=>(rcf p1 y5.2.1 p3 p4 p5 p6 p7 p8 p9 p10 p11 y5.2.2).bind fun y6=>if ((p1.getD p2.toNat default).op)=6 then ((bn ((p1.getD p2.toNat default).k) y6.1 y5.1).bind fun y7=>some (y7,y6.2.1,y6.2.2)) else (if ((p1.getD p2.toNat default).op)=8 then ((rc_ref_Meaning_of ((p1.getD p2.toNat default).v) p4 p5 p6 p7 p8 p9 p10 p11 y6.2.2).bind fun y8=>(my y8.1 y6.1 y5.1).bind fun y9=>some (y9,y6.2.1,y8.2)) else ((rcf p1 y6.2.1 p3 p4 p5 p6 p7 p8 p9 p10 p11 y6.2.2).bind fun y10=>if ¬ y10.1=0 then (some (y6.1,y10.2.1,y10.2.2)) else (some (y5.1,y10.2.1,y10.2.2)))))))))) else none
noncomputable def cE(rc_ref_Meaning_of:Int→(List ap)→(List Int)→(List Int)→(List ae)→Nat→Nat→Int→(List (List Int))→(List (List Int))→Option ((List Int)×(List (List Int)))):Nat→(List aL)→Int→Int→(List ap)→(List Int)→(List Int)→(List ae)→Nat→Nat→Int→(List (List Int))→(List (List Int))→Option (Int×Int×(List (List Int)))
  |0=>fun _ _ _ _ _ _ _ _ _ _ _ _=>none
  |n+1=>ck rc_ref_Meaning_of (cE rc_ref_Meaning_of n)
noncomputable def mz(fuel:Nat)(rc_ref_Meaning_of:Int→(List ap)→(List Int)→(List Int)→(List ae)→Nat→Nat→Int→(List (List Int))→(List (List Int))→Option ((List Int)×(List (List Int))))(p1:List aL)(p2 p3:Int)(p4:List ap)(p5 p6:List Int)(p7:List ae)(p8 p9:Nat)(p10:Int)(p11 p12:List (List Int)):Option (Int×Int×(List (List Int))):=cE rc_ref_Meaning_of fuel p1 p2 p3 p4 p5 p6 p7 p8 p9 p10 p11 p12
noncomputable def fj(fuel:Nat)(rc_ref_Meaning_of:Int→(List ap)→(List Int)→(List Int)→(List ae)→Nat→Nat→Int→(List (List Int))→(List (List Int))→Option ((List Int)×(List (List Int))))(p1:List aL)(p2:Int)(p3:List ap)(p4 p5:List Int)(p6:List ae)(p7 p8:Nat)(p9:Int)(p10 p11:List (List Int)):Option (Int×(List (List Int))) :=
  (mz fuel rc_ref_Meaning_of p1 (IntKind.wrap .i64 ((p1.length:Int) - 1)) p2 p3 p4 p5 p6 p7 p8 p9 p10 p11).bind fun y1=>some (y1.1,y1.2.2)
noncomputable def f9(l14:List (List Int))(l16:List Int):Option ((List Int)×(List (List Int))) :=
  some (l16,l14)
noncomputable def bh(fuel:Nat)(rc_ref_Meaning_of:Int→(List ap)→(List Int)→(List Int)→(List ae)→Nat→Nat→Int→(List (List Int))→(List (List Int))→Option ((List Int)×(List (List Int))))(p1:Int)(p2:List ap)(p3 p4:List Int)(p5:List ae)(p6 p7:Nat)(p8:Int)(p9:List (List Int))(y1:Int)(l6 l42:List (List Int))(l44:List Int)(x46:Int):Option (((List (List Int))×(List Int)×Int) ⊕ ((List (List Int))×(List Int))) :=
  if x46<y1 then (if ((p5.getD p1.toNat default).op)=1 then (if cw (l44.length+1) 8 then (some (.inl (l42,(l44++(lit ([(p5.getD p1.toNat default).n]:List Int))),(IntKind.wrap .i64 (x46+1))))) else none) else (if ((p5.getD p1.toNat default).op)=2 then (if (0≤0∧0<(l6.length:Int))∧(0≤x46∧x46<((l6.getD 0 default).length:Int)) then (if cw (l44.length+1) 8 then (some (.inl (l42,(l44++(lit ([((l6.getD 0 default).getD x46.toNat default)]:List Int))),(IntKind.wrap .i64 (x46+1))))) else none) else none) else (if ((p5.getD p1.toNat default).op)=3 then (if (0≤0∧0<(l6.length:Int))∧(0≤x46∧x46<((l6.getD 0 default).length:Int)) then ((bn ((p5.getD p1.toNat default).k) ((l6.getD 0 default).getD x46.toNat default) 0).bind fun y47=>if cw (l44.length+1) 8 then (some (.inl (l42,(l44++(lit ([y47]:List Int))),(IntKind.wrap .i64 (x46+1))))) else none) else none) else (if ((p5.getD p1.toNat default).op)=4 then (if (0≤0∧0<(l6.length:Int))∧(0≤x46∧x46<((l6.getD 0 default).length:Int))∧(0≤1∧1<(l6.length:Int))∧(0≤x46∧x46<((l6.getD 1 default).length:Int)) then ((bn ((p5.getD p1.toNat default).k) ((l6.getD 0 default).getD x46.toNat default) ((l6.getD 1 default).getD x46.toNat default)).bind fun y48=>if cw (l44.length+1) 8 then (some (.inl (l42,(l44++(lit ([y48]:List Int))),(IntKind.wrap .i64 (x46+1))))) else none) else none) else (if ((p5.getD p1.toNat default).op)=8 then (if (0≤0∧0<(l6.length:Int))∧(0≤0∧0<((l6.getD 0 default).length:Int)) then (if cw (l44.length+1) 8 then (some (.inl (l42,(l44++(lit ([((l6.getD 0 default).getD 0 default)]:List Int))),(IntKind.wrap .i64 (x46+1))))) else none) else none) else (if ((p5.getD p1.toNat default).op)=10 then (if (0≤0∧0<(l6.length:Int))∧(0≤x46∧x46<((l6.getD 0 default).length:Int)) then (if (0≤1∧1<(l6.length:Int))∧(0≤0∧0<((l6.getD 1 default).length:Int)) then (if ((l6.getD 1 default).getD 0 default)=x46 then (if (0≤2∧2<(l6.length:Int))∧(0≤0∧0<((l6.getD 2 default).length:Int)) then (if cw (l44.length+1) 8 then (some (.inl (l42,(l44++(lit ([((l6.getD 2 default).getD 0 default)]:List Int))),(IntKind.wrap .i64 (x46+1))))) else none) else none) else (if cw (l44.length+1) 8 then (some (.inl (l42,(l44++(lit ([((l6.getD 0 default).getD x46.toNat default)]:List Int))),(IntKind.wrap .i64 (x46+1))))) else none)) else none) else none) else (if ((p5.getD p1.toNat default).op)=11 then (if (0≤0∧0<(l6.length:Int))∧(0≤(IntKind.wrap .i64 (x46+((p5.getD p1.toNat default).n)))∧(IntKind.wrap .i64 (x46+((p5.getD p1.toNat default).n)))<((l6.getD 0 default).length:Int)) then (if cw (l44.length+1) 8 then (some (.inl (l42,(l44++(lit ([((l6.getD 0 default).getD ((IntKind.wrap .i64 (x46+((p5.getD p1.toNat default).n))).toNat) default)]:List Int))),(IntKind.wrap .i64 (x46+1))))) else none) else none) else (if ((p5.getD p1.toNat default).op)=14 then ((fj fuel rc_ref_Meaning_of ((p5.getD p1.toNat default).e) x46 p2 p3 p4 p5 p6 p7 p8 p9 l42).bind fun y49=>if cw (l44.length+1) 8 then (some (.inl (y49.2,(l44++(lit ([y49.1]:List Int))),(IntKind.wrap .i64 (x46+1))))) else none) else (if cw (l44.length+1) 8 then (some (.inl (l42,(l44++(lit ([0]:List Int))),(IntKind.wrap .i64 (x46+1))))) else none))))))))) else (some (.inr (l42,l44)))
noncomputable def gc(fuel:Nat)(rc_ref_Meaning_of:Int→(List ap)→(List Int)→(List Int)→(List ae)→Nat→Nat→Int→(List (List Int))→(List (List Int))→Option ((List Int)×(List (List Int))))(p1:Int)(p2:List ap)(p3 p4:List Int)(p5:List ae)(p6 p7:Nat)(p8:Int)(p9:List (List Int))(y1:Int)(l5 l6:List (List Int)):Option ((List Int)×(List (List Int))) :=
  (aM (fun (l42,l44,x46)=>bh fuel rc_ref_Meaning_of p1 p2 p3 p4 p5 p6 p7 p8 p9 y1 l6 l42 l44 x46) (l5,[],0)).bind (fun (z50,z51)=>f9 z50 z51)
noncomputable def eU(p1:Int)(p5:List ae)(x61:Int)(l66:List (List Int))(l68:List Int):Option ((List Int)×(List (List Int))) :=
  if ((p5.getD p1.toNat default).op)=6 then (if (0≤(IntKind.wrap .i64 (x61 - 1))∧(IntKind.wrap .i64 (x61 - 1))≤(l68.length:Int)) then (some (((l68.drop ((IntKind.wrap .i64 (x61 - 1)).toNat)).take (l68.length - ((IntKind.wrap .i64 (x61 - 1)).toNat))),l66)) else none) else (if ((p5.getD p1.toNat default).op)=15 then (if (0≤(IntKind.wrap .i64 (x61 - 1))∧(IntKind.wrap .i64 (x61 - 1))≤(l68.length:Int)) then (some (((l68.drop ((IntKind.wrap .i64 (x61 - 1)).toNat)).take (l68.length - ((IntKind.wrap .i64 (x61 - 1)).toNat))),l66)) else none) else (some (l68,l66)))
noncomputable def cL(p1:Int)(p5:List ae)(l98:List Int)(x100 x101:Int)(l105:List (List Int))(x108:Int):Option (((List (List Int))×(List Int)×Int×Int) ⊕ ((List (List Int))×(List Int))) :=
  (bn ((p5.getD p1.toNat default).k) x100 x108).bind fun y109=>if cw (l98.length+1) 8 then (some (.inl (l105,(l98++(lit ([y109]:List Int))),y109,(IntKind.wrap .i64 (x101+1))))) else none
noncomputable def bw(fuel:Nat)(rc_ref_Meaning_of:Int→(List ap)→(List Int)→(List Int)→(List ae)→Nat→Nat→Int→(List (List Int))→(List (List Int))→Option ((List Int)×(List (List Int))))(p1:Int)(p2:List ap)(p3 p4:List Int)(p5:List ae)(p6 p7:Nat)(p8:Int)(p9 l6:List (List Int))(x61:Int)(l96:List (List Int))(l98:List Int)(x100 x101:Int):Option (((List (List Int))×(List Int)×Int×Int) ⊕ ((List (List Int))×(List Int))) :=
  if x101<x61 then (if ((p5.getD p1.toNat default).op)=6 then (if (0≤1∧1<(l6.length:Int))∧(0≤x101∧x101<((l6.getD 1 default).length:Int)) then (cL p1 p5 l98 x100 x101 l96 ((l6.getD 1 default).getD x101.toNat default)) else none) else (if ((p5.getD p1.toNat default).op)=7 then (if (0≤1∧1<(l6.length:Int))∧(0≤x101∧x101<((l6.getD 1 default).length:Int)) then (cL p1 p5 l98 x100 x101 l96 ((l6.getD 1 default).getD x101.toNat default)) else none) else ((fj fuel rc_ref_Meaning_of ((p5.getD p1.toNat default).e) x101 p2 p3 p4 p5 p6 p7 p8 p9 l96).bind fun y110=>cL p1 p5 l98 x100 x101 y110.2 y110.1))) else (some (.inr (l96,l98)))
noncomputable def dN(fuel:Nat)(rc_ref_Meaning_of:Int→(List ap)→(List Int)→(List Int)→(List ae)→Nat→Nat→Int→(List (List Int))→(List (List Int))→Option ((List Int)×(List (List Int))))(p1:Int)(p2:List ap)(p3 p4:List Int)(p5:List ae)(p6 p7:Nat)(p8:Int)(p9 l5 l6:List (List Int))(x61:Int):Option ((List Int)×(List (List Int))) :=
  if (0≤0∧0<(l6.length:Int))∧(0≤0∧0<((l6.getD 0 default).length:Int)) then ((aM (fun (l96,l98,x100,x101)=>bw fuel rc_ref_Meaning_of p1 p2 p3 p4 p5 p6 p7 p8 p9 l6 x61 l96 l98 x100 x101) (l5,[],((l6.getD 0 default).getD 0 default),0)).bind (fun (z111,z112)=>eU p1 p5 x61 z111 z112)) else none
noncomputable def cM(fuel:Nat)(rc_ref_Meaning_of:Int→(List ap)→(List Int)→(List Int)→(List ae)→Nat→Nat→Int→(List (List Int))→(List (List Int))→Option ((List Int)×(List (List Int))))(p1:Int)(p2:List ap)(p3 p4:List Int)(p5:List ae)(p6 p7:Nat)(p8:Int)(p9 l5 l6:List (List Int))(x58:Int):Option ((List Int)×(List (List Int))) :=
  if ((p5.getD p1.toNat default).op)=15 then (dN fuel rc_ref_Meaning_of p1 p2 p3 p4 p5 p6 p7 p8 p9 l5 l6 ((p5.getD p1.toNat default).n)) else (dN fuel rc_ref_Meaning_of p1 p2 p3 p4 p5 p6 p7 p8 p9 l5 l6 x58)
noncomputable def bP(fuel:Nat)(rc_ref_Meaning_of:Int→(List ap)→(List Int)→(List Int)→(List ae)→Nat→Nat→Int→(List (List Int))→(List (List Int))→Option ((List Int)×(List (List Int))))(p1:Int)(p2:List ap)(p3 p4:List Int)(p5:List ae)(p6 p7:Nat)(p8:Int)(p9:List (List Int))(y1:Int)(l5 l6:List (List Int))(b55:Bool):Option ((List Int)×(List (List Int))) :=
  if b55=true then (if ((p5.getD p1.toNat default).op)=6 then (if (0≤1∧1<(l6.length:Int)) then (cM fuel rc_ref_Meaning_of p1 p2 p3 p4 p5 p6 p7 p8 p9 l5 l6 ((l6.getD 1 default).length:Int)) else none) else (cM fuel rc_ref_Meaning_of p1 p2 p3 p4 p5 p6 p7 p8 p9 l5 l6 y1)) else (gc fuel rc_ref_Meaning_of p1 p2 p3 p4 p5 p6 p7 p8 p9 y1 l5 l6)
noncomputable def bk(fuel:Nat)(rc_ref_Meaning_of:Int→(List ap)→(List Int)→(List Int)→(List ae)→Nat→Nat→Int→(List (List Int))→(List (List Int))→Option ((List Int)×(List (List Int))))(p1:Int)(p2:List ap)(p3 p4:List Int)(p5:List ae)(p6 p7:Nat)(p8:Int)(p9:List (List Int))(y1:Int)(l5 l6:List (List Int)):Option ((List Int)×(List (List Int))) :=
  if ((p5.getD p1.toNat default).op)=13 then (if p8>0 then (if (0≤p1∧p1<(p6:Int))∧p1.toNat<p9.length then (if (p9.getD p1.toNat default)=[] then (some ([],l5)) else (some ((p9.getD p1.toNat default),l5))) else none) else (if (0≤0∧0<(l6.length:Int))∧cw ((l6.getD 0 default).length) 8 then (some ((l6.getD 0 default),l5)) else none)) else (if ((p5.getD p1.toNat default).op)=5 then (if (0≤0∧0<(l6.length:Int))∧(0≤0∧0<((l6.getD 0 default).length:Int)) then (if ((l6.getD 0 default).getD 0 default)=0 then (if (0≤2∧2<(l6.length:Int))∧cw ((l6.getD 2 default).length) 8 then (some ((l6.getD 2 default),l5)) else none) else (if (0≤1∧1<(l6.length:Int))∧cw ((l6.getD 1 default).length) 8 then (some ((l6.getD 1 default),l5)) else none)) else none) else (if ((p5.getD p1.toNat default).op)=12 then (if (0≤0∧0<(l6.length:Int))∧cw ((l6.getD 0 default).length) 8∧(0≤1∧1<(l6.length:Int))∧cw (((l6.getD 0 default).length)+((l6.getD 1 default).length)) 8 then (some (((l6.getD 0 default)++(l6.getD 1 default)),l5)) else none) else (if ((p5.getD p1.toNat default).op)=9 then (if (0≤0∧0<(l6.length:Int))∧(0≤1∧1<(l6.length:Int))∧(0≤0∧0<((l6.getD 1 default).length:Int))∧(0≤2∧2<(l6.length:Int))∧(0≤0∧0<((l6.getD 2 default).length:Int)) then ((my (l6.getD 0 default) ((l6.getD 1 default).getD 0 default) ((l6.getD 2 default).getD 0 default)).bind fun y52=>some ((lit ([y52]:List Int)),l5)) else none) else (if ((p5.getD p1.toNat default).op)=6 then (bP fuel rc_ref_Meaning_of p1 p2 p3 p4 p5 p6 p7 p8 p9 y1 l5 l6 (((p5.getD p1.toNat default).op) == 6)) else (if ((p5.getD p1.toNat default).op)=7 then (bP fuel rc_ref_Meaning_of p1 p2 p3 p4 p5 p6 p7 p8 p9 y1 l5 l6 (((p5.getD p1.toNat default).op) == 7)) else (if ((p5.getD p1.toNat default).op)=15 then (bP fuel rc_ref_Meaning_of p1 p2 p3 p4 p5 p6 p7 p8 p9 y1 l5 l6 (((p5.getD p1.toNat default).op) == 15)) else (bP fuel rc_ref_Meaning_of p1 p2 p3 p4 p5 p6 p7 p8 p9 y1 l5 l6 (((p5.getD p1.toNat default).op) == 16))))))))
noncomputable def dO(rc_ref_Meaning_of:Int→(List ap)→(List Int)→(List Int)→(List ae)→Nat→Nat→Int→(List (List Int))→(List (List Int))→Option ((List Int)×(List (List Int))))(p1:Int)(p2:List ap)(p3 p4:List Int)(p5:List ae)(p6 p7:Nat)(p8:Int)(p9 l130 l131:List (List Int))(x133:Int):Option (((List (List Int))×(List (List Int))×Int) ⊕ ((List (List Int))×(List (List Int)))) :=
  if (0≤x133∧x133<(((p5.getD p1.toNat default).a).length:Int)) then ((rc_ref_Meaning_of (((p5.getD p1.toNat default).a).getD x133.toNat default) p2 p3 p4 p5 p6 p7 p8 p9 l130).bind fun y136=>if cw (l131.length+1) 24 then (some (.inl (y136.2,(l131++(lit ([y136.1]:List (List Int)))),(IntKind.wrap .i64 (x133+1))))) else none) else none
noncomputable def bp(rc_ref_Meaning_of:Int→(List ap)→(List Int)→(List Int)→(List ae)→Nat→Nat→Int→(List (List Int))→(List (List Int))→Option ((List Int)×(List (List Int))))(p1:Int)(p2:List ap)(p3 p4:List Int)(p5:List ae)(p6 p7:Nat)(p8:Int)(p9 l130 l131:List (List Int))(x133:Int):Option (((List (List Int))×(List (List Int))×Int) ⊕ ((List (List Int))×(List (List Int)))) :=
  if x133<(((p5.getD p1.toNat default).a).length:Int) then (if ¬ ((p5.getD p1.toNat default).op)=13 then (dO rc_ref_Meaning_of p1 p2 p3 p4 p5 p6 p7 p8 p9 l130 l131 x133) else (if x133=0 then (dO rc_ref_Meaning_of p1 p2 p3 p4 p5 p6 p7 p8 p9 l130 l131 x133) else (some (.inr (l130,l131))))) else (some (.inr (l130,l131)))
noncomputable def i0(fuel:Nat)(rc_ref_Meaning_of:Int→(List ap)→(List Int)→(List Int)→(List ae)→Nat→Nat→Int→(List (List Int))→(List (List Int))→Option ((List Int)×(List (List Int))))(p1:Int)(p2:List ap)(p3 p4:List Int)(p5:List ae)(p6 p7:Nat)(p8:Int)(p9 p10:List (List Int)):Option ((List Int)×(List (List Int))) :=
  if (0≤p1∧p1<(p5.length:Int)) then (if (0≤(p5.getD p1.toNat default).out_∧(p5.getD p1.toNat default).out_<(p2.length:Int)) then ((jF ((p2.getD (((p5.getD p1.toNat default).out_).toNat) default).n)).bind fun y1=>(aM (fun (l130,l131,x133)=>bp rc_ref_Meaning_of p1 p2 p3 p4 p5 p6 p7 p8 p9 l130 l131 x133) (p10,[],0)).bind (fun (z137,z138)=>bk fuel rc_ref_Meaning_of p1 p2 p3 p4 p5 p6 p7 p8 p9 y1 z137 z138)) else none) else none
noncomputable def fR(p1:Int)(l2:List (List Int)):Option ((List Int)×(List (List Int))) :=
  if p1.toNat<l2.length then (if (l2.getD p1.toNat default)=[] then (some ([],l2)) else (some ((l2.getD p1.toNat default),l2))) else none
noncomputable def cg(fuel:Nat)(rcf:Int→(List ap)→(List Int)→(List Int)→(List ae)→Nat→Nat→Int→(List (List Int))→(List (List Int))→Option ((List Int)×(List (List Int))))(p1:Int)(p2:List ap)(p3 p4:List Int)(p5:List ae)(p6 p7:Nat)(p8:Int)(p9 l10:List (List Int))(x11:Int):Option (((List (List Int))×Int) ⊕ (List (List Int))) :=
  if x11<(p5.length:Int) then (if (0≤x11∧x11<(p5.length:Int)) then (if ((p5.getD x11.toNat default).out_)=p1 then ((i0 fuel rcf x11 p2 p3 p4 p5 p6 p7 p8 p9 l10).bind fun y12=>if p1.toNat<y12.2.length∧y12.1≠[] then (some (.inl ((y12.2.set p1.toNat y12.1),(IntKind.wrap .i64 (x11+1))))) else none) else (some (.inl (l10,(IntKind.wrap .i64 (x11+1)))))) else none) else (some (.inr l10))
noncomputable def fm(fuel:Nat)(rcf:Int→(List ap)→(List Int)→(List Int)→(List ae)→Nat→Nat→Int→(List (List Int))→(List (List Int))→Option ((List Int)×(List (List Int))))(p1:Int)(p2:List ap)(p3 p4:List Int)(p5:List ae)(p6 p7:Nat)(p8:Int)(p9 p10:List (List Int)):Option ((List Int)×(List (List Int))) :=
  if (0≤p1∧p1<(p7:Int))∧p1.toNat<p10.length then (if (p10.getD p1.toNat default)=[] then ((aM (fun (l10,x11)=>cg fuel rcf p1 p2 p3 p4 p5 p6 p7 p8 p9 l10 x11) (p10,0)).bind (fun z13=>fR p1 z13)) else (if (p10.getD p1.toNat default)=[] then (some ([],p10)) else (some ((p10.getD p1.toNat default),p10)))) else none
noncomputable def cj(fuel:Nat):Nat→Int→(List ap)→(List Int)→(List Int)→(List ae)→Nat→Nat→Int→(List (List Int))→(List (List Int))→Option ((List Int)×(List (List Int)))
  |0=>fun _ _ _ _ _ _ _ _ _ _=>none
  |n+1=>fm fuel (cj fuel n)
noncomputable def kg(fuel:Nat)(p1:Int)(p2:List ap)(p3 p4:List Int)(p5:List ae)(p6 p7:Nat)(p8:Int)(p9 p10:List (List Int)):Option ((List Int)×(List (List Int))):=cj fuel fuel p1 p2 p3 p4 p5 p6 p7 p8 p9 p10
noncomputable def fo(p6:Int)(l3:List (List Int))(l8:List Int)(l13 l15:List (List Int)):Option ((List Int)×an×Int×(List (List Int))×(List (List Int))) :=
  if l3.length≤l13.length then (some (l8,(an.mk 0 0),(IntKind.wrap .i64 (p6+1)),l15,(l13.take l3.length))) else none
noncomputable def cq(fuel:Nat)(p2:List ap)(p3 p4:List Int)(p5:List ae)(p6:Int)(p7 l3 l35 l37:List (List Int))(x38:Int):Option (((List (List Int))×(List (List Int))×Int) ⊕ ((List (List Int))×(List (List Int)))) :=
  if x38<(p5.length:Int) then (if (0≤x38∧x38<(p5.length:Int)) then (if ((p5.getD x38.toNat default).op)=13 then (if (0≤1∧1<(((p5.getD x38.toNat default).a).length:Int)) then ((kg fuel (((p5.getD x38.toNat default).a).getD 1 default) p2 p3 p4 p5 p7.length l3.length p6 p7 l35).bind fun y39=>if cw y39.1.length 8∧(0≤x38∧x38<(l37.length:Int)) then (if y39.1≠[] then (some (.inl (y39.2,(l37.set x38.toNat y39.1),(IntKind.wrap .i64 (x38+1))))) else none) else none) else none) else (some (.inl (l35,l37,(IntKind.wrap .i64 (x38+1)))))) else none) else (some (.inr (l35,l37)))
noncomputable def fp(fuel:Nat)(p2:List ap)(p3 p4:List Int)(p5:List ae)(p6:Int)(p7 l3 l7:List (List Int))(l8:List Int):Option ((List Int)×an×Int×(List (List Int))×(List (List Int))) :=
  if (0≤(p5.length:Int)∧(p5.length:Int)≤(p5.length:Int))∧cw p5.length 24 then ((aM (fun (l35,l37,x38)=>cq fuel p2 p3 p4 p5 p6 p7 l3 l35 l37 x38) (l7,(List.replicate p5.length []),0)).bind (fun (z40,z41)=>fo p6 l3 l8 z40 z41)) else none
noncomputable def cF(fuel:Nat)(p2:List ap)(p3 p4:List Int)(p5:List ae)(p6:Int)(p7 l3 l59:List (List Int))(l60:List Int)(x62:Int):Option (((List (List Int))×(List Int)×Int) ⊕ ((List (List Int))×(List Int))) :=
  if x62<(p4.length:Int) then (if (0≤x62∧x62<(p4.length:Int)) then ((kg fuel (p4.getD x62.toNat default) p2 p3 p4 p5 p7.length l3.length p6 p7 l59).bind fun y63=>if cw (l60.length+y63.1.length) 8 then (some (.inl (y63.2,(l60++y63.1),(IntKind.wrap .i64 (x62+1))))) else none) else none) else (some (.inr (l59,l60)))
noncomputable def fq(fuel:Nat)(p2:List ap)(p3 p4:List Int)(p5:List ae)(p6:Int)(p7 l3:List (List Int)):Option ((List Int)×an×Int×(List (List Int))×(List (List Int))) :=
  (aM (fun (l59,l60,x62)=>cF fuel p2 p3 p4 p5 p6 p7 l3 l59 l60 x62) (l3,[],0)).bind (fun (z64,z65)=>fp fuel p2 p3 p4 p5 p6 p7 l3 z64 z65)
noncomputable def cG(p1:List Int)(p2:List ap)(p3:List Int)(l75:List (List Int))(x76 x77:Int):Option (((List (List Int))×Int×Int) ⊕ (List (List Int))) :=
  if x77<(p3.length:Int) then (if (0≤x77∧x77<(p3.length:Int))∧(0≤(p3.getD x77.toNat default)∧(p3.getD x77.toNat default)<(p2.length:Int)) then ((jF ((p2.getD ((p3.getD x77.toNat default).toNat) default).n)).bind fun y78=>if (0≤x76∧x76≤(IntKind.wrap .i64 (x76+y78))∧(IntKind.wrap .i64 (x76+y78))≤(p1.length:Int))∧(0≤(p3.getD x77.toNat default)∧(p3.getD x77.toNat default)<(l75.length:Int))∧((p1.take ((IntKind.wrap .i64 (x76+y78)).toNat)).drop x76.toNat)≠[] then (some (.inl ((l75.set ((p3.getD x77.toNat default).toNat) ((p1.take ((IntKind.wrap .i64 (x76+y78)).toNat)).drop x76.toNat)),(IntKind.wrap .i64 (x76+y78)),(IntKind.wrap .i64 (x77+1))))) else none) else none) else (some (.inr l75))
noncomputable def jv(fuel:Nat)(p1:List Int)(p2:List ap)(p3 p4:List Int)(p5:List ae)(p6:Int)(p7 p8:List (List Int)):Option ((List Int)×an×Int×(List (List Int))×(List (List Int))) :=
  (ma (ab.mk p2 p3 p4 p5) p1).bind fun y1=>if ¬ ((y1).code)=0 then (some ([],(y1),p6,p7,p8)) else (if (0≤(p2.length:Int)∧(p2.length:Int)≤(p2.length:Int))∧cw p2.length 24 then ((aM (fun (l75,x76,x77)=>cG p1 p2 p3 l75 x76 x77) ((List.replicate p2.length []),0,0)).bind (fun z79=>fq fuel p2 p3 p4 p5 p6 p7 z79)) else none)
noncomputable def jx:Option Bool :=
  some true
noncomputable def jy(p1 p2:List Int)(x3:Int):Option (Int ⊕ (Unit ⊕ Bool)) :=
  if x3<(p1.length:Int) then (if (0≤x3∧x3<(p1.length:Int))∧(0≤x3∧x3<(p2.length:Int)) then (if ¬ (p1.getD x3.toNat default)=(p2.getD x3.toNat default) then (some (.inr (.inr false))) else (some (.inl (IntKind.wrap .i64 (x3+1))))) else none) else (some (.inr (.inl ())))
noncomputable def jg(p1 p2:List Int):Option Bool :=
  if ¬ (p1.length:Int)=(p2.length:Int) then (some false) else ((aM (fun x3=>jy p1 p2 x3) 0).bind (Sum.elim (fun _=>jx) (fun z4=>some z4)))
noncomputable def jz:Option Bool :=
  some true
noncomputable def jA(p1 p2:List aL)(x3:Int):Option (Int ⊕ (Unit ⊕ Bool)) :=
  if x3<(p1.length:Int) then (if (0≤x3∧x3<(p1.length:Int))∧(0≤x3∧x3<(p2.length:Int)) then (if ((p1.getD x3.toNat default).op)=((p2.getD x3.toNat default).op)∧((p1.getD x3.toNat default).k)=((p2.getD x3.toNat default).k)∧((p1.getD x3.toNat default).v)=((p2.getD x3.toNat default).v)∧((p1.getD x3.toNat default).n)=((p2.getD x3.toNat default).n) then (some (.inl (IntKind.wrap .i64 (x3+1)))) else (some (.inr (.inr false)))) else none) else (some (.inr (.inl ())))
noncomputable def mb(p1 p2:List aL):Option Bool :=
  if ¬ (p1.length:Int)=(p2.length:Int) then (some false) else ((aM (fun x3=>jA p1 p2 x3) 0).bind (Sum.elim (fun _=>jz) (fun z4=>some z4)))
noncomputable def mc(p1 p2:ae):Option Bool :=
  if p1.op=p2.op then (if p1.k=p2.k then (if p1.out_=p2.out_ then (if p1.n=p2.n then ((jg p1.a p2.a).bind fun y1=>if y1=true then ((mb p1.e p2.e).bind fun y2=>some y2) else (some false)) else (some false)) else (some false)) else (some false)) else (some false)
noncomputable def it:Option Bool :=
  some true
noncomputable def iu(p1 p2:ab)(x5:Int):Option (Int ⊕ (Unit ⊕ Bool)) :=
  if x5<(p1.rules.length:Int) then (if (0≤x5∧x5<(p1.rules.length:Int))∧(0≤x5∧x5<(p2.rules.length:Int)) then ((mc (p1.rules.getD x5.toNat default) (p2.rules.getD x5.toNat default)).bind fun y6=>if y6=true then (some (.inl (IntKind.wrap .i64 (x5+1)))) else (some (.inr (.inr false)))) else none) else (some (.inr (.inl ())))
noncomputable def fS(p1 p2:ab):Option Bool :=
  (aM (fun x5=>iu p1 p2 x5) 0).bind (Sum.elim (fun _=>it) (fun z7=>some z7))
noncomputable def iv(p1 p2:ab)(x10:Int):Option (Int ⊕ (Unit ⊕ Bool)) :=
  if x10<(p1.vars.length:Int) then (if (0≤x10∧x10<(p1.vars.length:Int))∧(0≤x10∧x10<(p2.vars.length:Int)) then (if ((p1.vars.getD x10.toNat default).elem)=((p2.vars.getD x10.toNat default).elem)∧((p1.vars.getD x10.toNat default).n)=((p2.vars.getD x10.toNat default).n) then (some (.inl (IntKind.wrap .i64 (x10+1)))) else (some (.inr (.inr false)))) else none) else (some (.inr (.inl ())))
noncomputable def kh(p1 p2:ab):Option Bool :=
  if ¬ (p1.vars.length:Int)=(p2.vars.length:Int) then (some false) else (if ¬ (p1.rules.length:Int)=(p2.rules.length:Int) then (some false) else ((jg p1.in_ p2.in_).bind fun y1=>if y1=true then ((jg p1.out_ p2.out_).bind fun y2=>if y2=true then ((aM (fun x10=>iv p1 p2 x10) 0).bind (Sum.elim (fun _=>fS p1 p2) (fun z11=>some z11))) else (some false)) else (some false)))
noncomputable def jB:Option Bool :=
  some true
noncomputable def jC(p1 p2:List (List Int))(x3:Int):Option (Int ⊕ (Unit ⊕ Bool)) :=
  if x3<(p1.length:Int) then (if (0≤x3∧x3<(p1.length:Int))∧(0≤x3∧x3<(p2.length:Int)) then ((gn (p1.getD x3.toNat default) (p2.getD x3.toNat default)).bind fun y4=>if y4=true then (some (.inl (IntKind.wrap .i64 (x3+1)))) else (some (.inr (.inr false)))) else none) else (some (.inr (.inl ())))
noncomputable def md(p1 p2:List (List Int)):Option Bool :=
  if ¬ (p1.length:Int)=(p2.length:Int) then (some false) else ((aM (fun x3=>jC p1 p2 x3) 0).bind (Sum.elim (fun _=>jB) (fun z5=>some z5)))
noncomputable def gY(p1:ab)(p2:List (List Int))(y4:ab)(y5:(List (List Int)))(l18:List (Int×List Int))(x19:Int)(l20 l22:List (List Int)):Option Bool :=
  (kh (y4) p1).bind fun y24=>if y24=true then ((md y5 p2).bind fun y25=>if y25=true then ((iD p1 p1.in_).bind fun y26=>(lB p1 p1.in_).bind fun y27=>some (y26 == y27)) else (some false)) else (some false)
noncomputable def d6(fuel:Nat)(p2:List (List Int))(y5:(List (List Int)))(y8:(an×(List (Int×List Int))×Int×Int×(List ap)×(List Int)×(List Int)×(List ae)))(y12:((List ap)×(List Int)×(List Int)×(List ae)×Int×(List (List Int))×(List (List Int))))(l57:List (Int×List Int))(x58:Int)(l59 l61:List (List Int))(x63:Int):Option (((List (Int×List Int))×Int×(List (List Int))×(List (List Int))×Int) ⊕ (((List (Int×List Int))×Int×(List (List Int))×(List (List Int))) ⊕ Bool)) :=
  if x63<(p2.length:Int) then (if (0≤x63∧x63<(y5.length:Int)) then ((fW (y5.getD x63.toNat default) y8.2.2.2.2.1 y8.2.2.2.2.2.1 y8.2.2.2.2.2.2.1 y8.2.2.2.2.2.2.2 l57).bind fun y64=>if (0≤x63∧x63<(p2.length:Int)) then ((jv fuel (p2.getD x63.toNat default) y12.1 y12.2.1 y12.2.2.1 y12.2.2.2.1 x58 l59 l61).bind fun y65=>if ((y64.2.1).code)=((y65.2.1).code)∧((y64.2.1).at_)=((y65.2.1).at_) then ((gn y64.1 y65.1).bind fun y68=>if y68=true then (some (.inl (y64.2.2,y65.2.2.1,y65.2.2.2.1,y65.2.2.2.2,(IntKind.wrap .i64 (x63+1))))) else (some (.inr (.inr false)))) else (some (.inr (.inr false)))) else none) else none) else (some (.inr (.inl (l57,x58,l59,l61))))
noncomputable def nA(fuel:Nat)(p1:ab)(p2:List (List Int)):Option Bool :=
  (kX ).bind fun y1=>if y1=true then ((jo p1 150).bind fun y2=>if y2=true then (some true) else ((kY p2).bind fun y3=>if y3=true then (some true) else ((kc p1).bind fun y4=>(lT p2).bind fun y5=>(mP (y4)).bind fun y6=>Sum.elim (fun y7=>(py p1).bind fun y9=>if ((y7).code)=((y9.2).code)∧((y7).at_)=((y9.2).at_) then (if ¬ ((y9.2).code)=0 then (some true) else ((nK p1).bind fun y10=>none)) else (some false)) (fun y8=>(py p1).bind fun y11=>if ((y8.1).code)=((y11.2).code)∧((y8.1).at_)=((y11.2).at_) then (if ¬ ((y11.2).code)=0 then (some true) else ((nK p1).bind fun y12=>(aM (fun (l57,x58,l59,l61,x63)=>d6 fuel p2 y5 y8 y12 l57 x58 l59 l61 x63) (y8.2.1,y12.2.2.2.2.1,y12.2.2.2.2.2.1,y12.2.2.2.2.2.2,0)).bind (Sum.elim (fun (z69,z70,z71,z72)=>gY p1 p2 y4 y5 z69 z70 z71 z72) (fun z73=>some z73)))) else (some false)) y6))) else (some false)
end Pam
