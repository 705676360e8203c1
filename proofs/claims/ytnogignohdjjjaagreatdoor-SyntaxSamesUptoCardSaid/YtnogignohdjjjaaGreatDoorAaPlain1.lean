/- what syntax.Same says, and the document's: the same but for the places -/
import Derived.Test.YtnogignohdjjjaaGreatDoorAaFun1
import Derived.Test.YtnogignohdjjjaaGreatDoorAWide1
set_option linter.all false
namespace Pam
open Go
noncomputable def dec(p:Prop):Bool:=@decide p (Classical.propDecidable p)
theorem gy{p:Prop}:dec p=true↔p:=by unfold dec;exact @decide_eq_true_iff p (Classical.propDecidable p)
theorem cW{p q:Prop}(h:p↔q):dec p=dec q:=by rw [propext h]
theorem vI{p:Prop}(h:¬ p):dec p=false:=fB fun x=>h (gy.1 x)
theorem pn{p q:Prop}{α:Type}{d:Decidable p}(h:p↔q)(a b:α):(if p then a else b)=if dec q=true then a else b:=by
 by_cases hp:p
 ·rw [iP hp,iP (gy.2 (h.1 hp))]
 ·rw [iN hp,iN (fun x=>hp (h.2 (gy.1 x)))]
theorem rY{p q:Prop}{d:Decidable p}:(if p then some (dec q) else some false)=some (dec (p∧q)):=by
 by_cases hp:p
 ·rw [iP hp];exact congrArg some (cW (by simp [hp]))
 ·rw [iN hp,vI (fun x=>hp x.1)]
theorem po{p q:Prop}:((some (dec p)).bind fun y=>some (dec (y=true∧q)))=some (dec (p∧q)):=congrArg some (cW (by rw [gy]))
def mS{T:Type}[Inhabited T](R:T→T→Prop)(l m:List T):Prop:=l.length=m.length∧∀ i,i<l.length→R (l.getD i default) (m.getD i default)
theorem ko{T:Type}[Inhabited T]{l m:List T}:mS (fun a b=>a=b) l m↔l=m:=by
 constructor
 ·intro ⟨h1,h2⟩
  refine List.ext_getElem h1 fun i hi hj=>?_
  have:=h2 i hi
  simpa [List.getD_eq_getElem?_getD,hi,hj] using this
 ·rintro rfl;exact ⟨rfl,fun _ _=>rfl⟩
theorem eqf{T:Type}[Inhabited T]{p1 p2:List T}{body:Int→Option (Int ⊕ (Unit ⊕ Bool))}{t:Option Bool}(R:T→T→Prop)(hl:p1.length≤9000000)(ht:t=some true)
  (hb:∀ i:Nat,i<p1.length→i<p2.length→body (i:Int)=if dec (R (p1.getD i default) (p2.getD i default))=true then some (.inl (IntKind.wrap .i64 ((i:Int)+1))) else some (.inr (.inr false)))
  (he:body (p1.length:Int)=some (.inr (.inl ()))) :
  (if ¬ (p1.length:Int)=(p2.length:Int) then some false else ((cT body 0).bind (Sum.elim (fun _=>t) (fun z=>some z))))=some (dec (mS R p1 p2)):=by
 by_cases hlen:p1.length=p2.length
 ·rw [iN (by omega)]
  rw [nF p1.length (fun i=>if dec (R (p1.getD i default) (p2.getD i default))=true then none else some false) () (fun i hi=>by
   rw [hb i hi (by omega)]
   by_cases h:dec (R (p1.getD i default) (p2.getD i default))=true
   ·rw [iP h,iP h,wrs i (by omega)]
   ·rw [iN h,iN h]) he]
  rcases oH p1.length (fun i=>if dec (R (p1.getD i default) (p2.getD i default))=true then none else some false) () with ⟨h1,h2⟩|⟨i,z,hi,hz,h1⟩
  ·rw [h1]
   show t=_
   have hall:mS R p1 p2:=⟨hlen,fun i hi=>by
    have:=h2 i hi
    by_cases h:dec (R (p1.getD i default) (p2.getD i default))=true
    ·exact gy.1 h
    ·simp only [h] at this;cases this⟩
   rw [ht,gy.2 hall]
  ·rw [h1]
   show some z=_
   by_cases h:dec (R (p1.getD i default) (p2.getD i default))=true
   ·simp only [iP h] at hz;cases hz
   ·simp only [iN h,sJ] at hz
    subst hz
    rw [vI fun x=>h (gy.2 (x.2 i hi))]
 ·rw [iP (by omega),vI (fun x=>hlen x.1)]
theorem ry(p1 p2:List (List UInt8))(h:p1.length≤9000000):cD p1 p2=some (dec (p1=p2)):=by
 rw [← cW ko]
 unfold cD
 refine eqf _ h rfl (fun i hi hj=>?_) (by unfold cK;rw [iN (cP _)])
 unfold cK
 rw [iP (ltI hi),iP ⟨inI hi,inI hj⟩,tN]
 exact pn Iff.rfl _ _
theorem qD(a b:am):(a.n=b.n∧a.name=b.name)↔a=b:=by cases a;cases b;simp
theorem ti(p1 p2:List am)(h:p1.length≤9000000):cE p1 p2=some (dec (p1=p2)):=by
 rw [← cW ko]
 unfold cE
 refine eqf _ h rfl (fun i hi hj=>?_) (by unfold cp;rw [iN (cP _)])
 unfold cp
 rw [iP (ltI hi),iP ⟨inI hi,inI hj⟩,tN]
 exact pn (qD _ _) _ _
theorem pB(p1 p2:List am)(h:p1.length≤9000000):gi p1 p2=some (dec (p1=p2)):=by
 unfold gi;rw [ti p1 p2 h];rfl
theorem sD(p1 p2:ay)(h:p1.t.n.length≤9000000):iu p1 p2=some (dec (p1=p2)):=by
 unfold iu jr
 rw [pB _ _ h]
 simp only [bSq,rY]
 refine congrArg some (cW ?_)
 obtain ⟨n1,e1,s1⟩:=p1
 obtain ⟨n2,e2,s2⟩:=p2
 simp
def jV(l:List ay):Prop:=l.length≤9000000∧∀ d∈l,d.t.n.length≤9000000
theorem oI(p1 p2:List ay)(h:jV p1):aV p1 p2=some (dec (p1=p2)):=by
 rw [← cW ko]
 unfold aV
 refine eqf _ h.1 rfl (fun i hi hj=>?_) (by unfold bo;rw [iN (cP _)])
 unfold bo
 rw [iP (ltI hi),iP (inI hi),iP (inI hj),tN,sD _ _ (h.2 _ (dW hi))]
 rfl
def lJ(l:List (List am)):Prop:=l.length≤9000000∧∀ d∈l,d.length≤9000000
theorem qE(p1 p2:List (List am))(h:lJ p1):bl p1 p2=some (dec (p1=p2)):=by
 rw [← cW ko]
 unfold bl
 refine eqf _ h.1 rfl (fun i hi hj=>?_) (by unfold bq;rw [iN (cP _)])
 unfold bq
 rw [iP (ltI hi),iP (inI hi),iP (inI hj),tN,pB _ _ (h.2 _ (dW hi))]
 rfl
theorem pR{l:List af}{x:af}(h:x∈l):x.sz≤af.szs l:=by
 have h1:=af.szs_eq l
 have:=oU (f:=af.sz) h
 omega
theorem pS(l:List af):l.length≤af.szs l:=by
 have h1:=af.szs_eq l
 have:=iM af.sz_pos l
 omega
theorem o7(x:am):1≤x.sz:=am.sz_pos x
theorem qF{l:List (List am)}(h:szL (szL am.sz) l≤9000000):lJ l:=by
 refine ⟨?_,fun d hd=>?_⟩
 ·have:=iM (f:=szL am.sz) (fun x=>by have:=iM o7 x;omega) l;omega
 ·have:=oU (f:=szL am.sz) hd
  have:=iM o7 d
  omega
theorem rZ{x:af}(h:x.sz≤9000000):lJ x.s∧af.szs x.l+1<x.sz:=by
 have h1:=af.sz_eq x
 have h2:=af.szs_eq x.l
 simp only [szI] at h1
 exact ⟨qF (by omega),by omega⟩
theorem sE(a b:af):(a.op=b.op∧a.k=b.k∧a.n=b.n∧a.name=b.name∧a.s=b.s∧a.l=b.l)↔a=b:=by cases a;cases b;simp
theorem qG:∀ (n:Nat) (p1 p2:List af),af.szs p1<n→af.szs p1≤9000000→aR n p1 p2=some (dec (p1=p2))
 |0,_,_,h,_=>by omega
 |n+1,p1,p2,h,hs=>by
  rw [← cW ko]
  have hlen:=pS p1
  show bu (aR n) p1 p2=_
  unfold bu
  refine eqf _ (by omega) rfl (fun i hi hj=>?_) (by unfold bt;rw [iN (cP _)])
  unfold bt
  rw [iP (ltI hi),iP (inI hi),iP (inI hj),tN]
  obtain ⟨a,ha⟩:∃ a,a=p1.getD i default:=⟨_,rfl⟩
  obtain ⟨b,hb⟩:∃ b,b=p2.getD i default:=⟨_,rfl⟩
  rw [← ha,← hb]
  have hm:a∈p1:=by rw [ha];exact dW hi
  have hsz:=pR hm
  obtain ⟨e1,e2⟩:=rZ (x:=a) (by omega)
  unfold js
  rw [qE _ _ e1,qG n a.l b.l (by omega) (by omega)]
  simp only [show ∀ b:Bool,(some b).bind (fun y=>some y)=some b from fun _=>rfl,po,rY]
  rw [cW (sE a b)]
  rfl
def EqR(p q:TEq):Prop:=p.names=q.names∧p.node=q.node∧p.s=q.s∧p.e=q.e
def yy(p:TEq):Prop:=p.names.length≤9000000∧lJ p.s∧af.szs p.e≤9000000
theorem uI(n:Nat)(p q:TEq)(h:yy p)(hn:9000000<n):jo n p q=some (dec (EqR p q)):=by
 unfold jo cg
 rw [ry _ _ h.1,qE _ _ h.2.1,qG n _ _ (by have:=h.2.2;omega) h.2.2]
 simp only [show ∀ b:Bool,(some b).bind (fun y=>some y)=some b from fun _=>rfl,po,rY]
 rfl
def vJ(l:List TEq):Prop:=l.length≤9000000∧∀ q∈l,yy q
theorem vK(n:Nat)(p1 p2:List TEq)(h:vJ p1)(hn:9000000<n):bN n p1 p2=some (dec (mS EqR p1 p2)):=by
 unfold bN
 refine eqf _ h.1 rfl (fun i hi hj=>?_) (by unfold bG;rw [iN (cP _)])
 unfold bG
 rw [iP (ltI hi),iP (inI hi),iP (inI hj),tN,uI n _ _ (h.2 _ (dW hi)) hn]
 rfl
def rz(x y:aS):Prop:=x.name=y.name∧x.sizes=y.sizes∧x.in_=y.in_∧x.out_=y.out_∧x.local_=y.local_∧mS EqR x.eqs y.eqs
def vL(x:aS):Prop:=x.sizes.length≤9000000∧jV x.in_∧jV x.out_∧jV x.local_∧vJ x.eqs
theorem sF(n:Nat)(p q:aS)(h:vL p)(hn:9000000<n):iv n p q=some (dec (rz p q)):=by
 unfold iv
 rw [ry _ _ h.1,oI _ _ h.2.1,oI _ _ h.2.2.1,oI _ _ h.2.2.2.1,vK n _ _ h.2.2.2.2 hn]
 simp only [show ∀ b:Bool,(some b).bind (fun y=>some y)=some b from fun _=>rfl,po,rY]
 rfl
def tj(p:aH):Prop:=p.nodes.length≤9000000∧∀ x∈p.nodes,vL x
def tZ(a b:aH):Prop:=mS rz a.nodes b.nodes
theorem t8(n:Nat)(a b:aH)(h:tj a)(hn:9000000<n):jD n a b=some (dec (tZ a b)):=by
 unfold jD bO
 have:=eqf (p1:=a.nodes) (p2:=b.nodes) (body:=fun x3=>aL n a.nodes b.nodes x3) (t:=bf) rz h.1 rfl (fun i hi hj=>by
  show aL n a.nodes b.nodes i=_
  unfold aL
  rw [iP (ltI hi),iP (inI hi),iP (inI hj),tN,sF n _ _ (h.2 _ (dW hi)) hn]
  rfl) (by show aL n a.nodes b.nodes _=_;unfold aL;rw [iN (cP _)])
 rw [this];rfl
section
variable {α:Type} {p q:Prop} {A B:α}
theorem ifF{d:Decidable p}:(if p then (if dec q=true then A else B) else B)=if dec (p∧q)=true then A else B:=by
 by_cases h:p
 ·rw [iP h,cW (show (p∧q)↔q by simp [h])]
 ·rw [iN h,iN (fun x=>h (gy.1 x).1)]
theorem ifN{d:Decidable p}:(if ¬ p then B else (if dec q=true then A else B))=if dec (p∧q)=true then A else B:=by
 by_cases h:p
 ·rw [iN (fun x=>x h),cW (show (p∧q)↔q by simp [h])]
 ·rw [iP h,iN (fun x=>h (gy.1 x).1)]
theorem vM{A B:Option α}:((some (dec p)).bind fun y=>if y=true then (if dec q=true then A else B) else B)=if dec (p∧q)=true then A else B:=by
 show (if dec p=true then _ else _)=_
 rw [ifF,cW (show (dec p=true∧q)↔(p∧q) by rw [gy])]
theorem ua{A B:Option α}:((some (dec p)).bind fun y=>if dec (y=true∧q)=true then A else B)=if dec (p∧q)=true then A else B:=by
 show (if dec (dec p=true∧q)=true then A else B)=_
 rw [cW (show (dec p=true∧q)↔(p∧q) by rw [gy])]
theorem nG(h:p↔q):(if dec p=true then A else B)=if dec q=true then A else B:=by rw [cW h]
theorem ub{A B:Option α}:((some (dec p)).bind fun y=>if y=true then A else B)=if dec p=true then A else B:=rfl
end
theorem vN{body:Int→Option (Int ⊕ (Unit ⊕ Bool))}(n:Nat)(hn:n≤9000000)(R:Nat→Prop)
  (hb:∀ i:Nat,i<n→body (i:Int)=if dec (R i)=true then some (.inl (IntKind.wrap .i64 ((i:Int)+1))) else some (.inr (.inr false)))
  (he:body (n:Int)=some (.inr (.inl ()))):cT body 0=some (if dec (∀ i,i<n→R i)=true then .inl () else .inr false):=by
 rw [nF n (fun i=>if dec (R i)=true then none else some false) () (fun i hi=>by
  rw [hb i hi]
  by_cases h:dec (R i)=true
  ·rw [iP h,iP h,wrs i (by omega)]
  ·rw [iN h,iN h]) he]
 rcases oH n (fun i=>if dec (R i)=true then none else some false) () with ⟨h1,h2⟩|⟨i,z,hi,hz,h1⟩
 ·rw [h1,iP (gy.2 fun i hi=>by
   have:=h2 i hi
   by_cases h:dec (R i)=true
   ·exact gy.1 h
   ·simp only [h] at this;cases this)]
 ·rw [h1,iN (fun x=>by
   simp only [gy.2 (gy.1 x i hi)] at hz;cases hz)]
  by_cases h:dec (R i)=true
  ·simp only [iP h] at hz;cases hz
  ·simp only [iN h,sJ] at hz;rw [hz]
theorem qH(p1 p2:List (List UInt8))(h:p1.length≤9000000):fF p1 p2=some (dec (p1=p2)):=by
 rw [← cW ko]
 unfold fF
 refine eqf _ h rfl (fun i hi hj=>?_) (by unfold gP;rw [iN (cP _)])
 unfold gP
 rw [iP (ltI hi),iP ⟨inI hi,inI hj⟩,tN]
 first|exact pn Iff.rfl _ _|(rw [ite_not];exact pn Iff.rfl _ _)
theorem pC(p1 p2:List am)(h:p1.length≤9000000):iB p1 p2=some (dec (p1=p2)):=by
 rw [← cW ko]
 unfold iB
 refine eqf _ h rfl (fun i hi hj=>?_) (by unfold gR;rw [iN (cP _)])
 unfold gR
 rw [iP (ltI hi),iP ⟨inI hi,inI hj⟩,tN]
 first|exact pn (qD _ _) _ _|(rw [ite_not];exact pn (qD _ _) _ _)
theorem pD(p1 p2:List (List am))(h:lJ p1):gA p1 p2=some (dec (p1=p2)):=by
 rw [← cW ko]
 unfold gA
 refine eqf _ h.1 rfl (fun i hi hj=>?_) (by unfold gV;rw [iN (cP _)])
 unfold gV
 rw [iP (ltI hi),iP ⟨inI hi,inI hj⟩,tN,pC _ _ (h.2 _ (dW hi))]
 rfl
theorem no(p1 p2:List ay)(h:jV p1):dY p1 p2=some (dec (p1=p2)):=by
 rw [← cW ko]
 unfold dY
 refine eqf _ h.1 rfl (fun i hi hj=>?_) (by unfold gT;rw [iN (cP _)])
 unfold gT
 rw [iP (ltI hi),iP ⟨inI hi,inI hj⟩,tN,pC _ _ (h.2 _ (dW hi))]
 simp only [ub,ua,ifF,ifN]
 refine nG ?_
 obtain ⟨n1,e1,s1⟩:=p1.getD i default
 obtain ⟨n2,e2,s2⟩:=p2.getD i default
 simp
theorem pE:∀ (n:Nat) (p1 p2:List af),af.szs p1<n→af.szs p1≤9000000→fj n p1 p2=some (dec (p1=p2))
 |0,_,_,h,_=>by omega
 |n+1,p1,p2,h,hs=>by
  rw [← cW ko]
  have hlen:=pS p1
  show ir (fj n) p1 p2=_
  unfold ir
  refine eqf _ (by omega) rfl (fun i hi hj=>?_) (by unfold gX;rw [iN (cP _)])
  unfold gX
  rw [iP (ltI hi),iP ⟨inI hi,inI hj⟩,tN]
  obtain ⟨a,ha⟩:∃ a,a=p1.getD i default:=⟨_,rfl⟩
  obtain ⟨b,hb⟩:∃ b,b=p2.getD i default:=⟨_,rfl⟩
  rw [← ha,← hb]
  have hm:a∈p1:=by rw [ha];exact dW hi
  have hsz:=pR hm
  obtain ⟨e1,e2⟩:=rZ (x:=a) (by omega)
  rw [pD _ _ e1,pE n a.l b.l (by omega) (by omega)]
  simp only [ub,vM,ua,ifF,ifN]
  refine nG ?_
  rw [← sE]
  constructor
  ·rintro ⟨h1,h2,h3,h4,h5,h6⟩;exact ⟨h1,h2,h4,h3,h5,h6⟩
  ·rintro ⟨h1,h2,h3,h4,h5,h6⟩;exact ⟨h1,h2,h4,h3,h5,h6⟩
def qI(pl:Bool)(p q:TEq):Prop:=(pl=true→p.at_=q.at_)∧EqR p q
def oJ(pl:Bool)(x y:aS):Prop:=(pl=true→x.at_=y.at_)∧x.name=y.name∧x.sizes=y.sizes∧x.in_=y.in_∧x.out_=y.out_∧x.local_=y.local_∧mS (qI pl) x.eqs y.eqs
theorem tk(n:Nat)(a b:aH)(pl:Bool)(i:Nat)(hn:9000000<n)(h:vJ (a.nodes.getD i default).eqs)(hlen:(a.nodes.getD i default).eqs.length=(b.nodes.getD i default).eqs.length) :
  dl n a b pl (i:Int)=if dec (mS (qI pl) (a.nodes.getD i default).eqs (b.nodes.getD i default).eqs)=true then some (.inl (IntKind.wrap .i64 ((i:Int)+1))) else some (.inr (.inr false)):=by
 unfold dl
 rw [vN (a.nodes.getD i default).eqs.length h.1 (fun j=>qI pl ((a.nodes.getD i default).eqs.getD j default) ((b.nodes.getD i default).eqs.getD j default)) (fun j hj=>by
  have hj':j<(b.nodes.getD i default).eqs.length:=by omega
  unfold fN kj
  simp only [tN]
  obtain ⟨x,hx⟩:∃ x,x=a.nodes.getD i default:=⟨_,rfl⟩
  obtain ⟨y,hy⟩:∃ y,y=b.nodes.getD i default:=⟨_,rfl⟩
  rw [← hx] at hj h
  rw [← hy] at hj'
  rw [← hx,← hy]
  have ho:=h.2 _ (dW hj)
  rw [iP (ltI hj),iP ⟨inI hj,inI hj'⟩,qH _ _ ho.1,pD _ _ ho.2.1,pE n _ _ (by have:=ho.2.2;omega) ho.2.2]
  simp only [ub,vM,ua,ifF,ifN]
  cases pl with
  |true =>
   rw [iP rfl]
   refine nG ?_
   unfold qI EqR
   constructor
   ·rintro ⟨h1,h2,h3,h4⟩;exact ⟨fun _=>h1,h3,h2,h4⟩
   ·rintro ⟨h1,h2,h3,h4⟩;exact ⟨h1 rfl,h3,h2,h4⟩
  |false =>
   rw [iN (show ¬ (false=true) from by simp)]
   refine nG ?_
   unfold qI EqR
   constructor
   ·rintro ⟨h2,h3,h4⟩;exact ⟨(fun h=>by cases h),h3,h2,h4⟩
   ·rintro ⟨h1,h2,h3,h4⟩;exact ⟨h3,h2,h4⟩) (by unfold fN;simp only [tN];rw [iN (cP _)])]
 simp only [bSq]
 have e:dec (mS (qI pl) (a.nodes.getD i default).eqs (b.nodes.getD i default).eqs)=dec (∀ j,j<(a.nodes.getD i default).eqs.length→qI pl ((a.nodes.getD i default).eqs.getD j default) ((b.nodes.getD i default).eqs.getD j default)) :=
  cW ⟨fun h=>h.2,fun h=>⟨hlen,h⟩⟩
 rw [e]
 split<;>rfl
theorem vO(n:Nat)(a b:aH)(pl:Bool)(h:tj a)(hn:9000000<n):it n a b pl=some (dec (mS (oJ pl) a.nodes b.nodes)):=by
 unfold it
 refine eqf _ h.1 rfl (fun i hi hj=>?_) (by unfold fO;rw [iN (cP _)])
 unfold fO
 have ho:=h.2 _ (dW hi)
 rw [iP (ltI hi),iP ⟨inI hi,inI hj⟩,tN]
 obtain ⟨x,hx⟩:∃ x,x=a.nodes.getD i default:=⟨_,rfl⟩
 obtain ⟨y,hy⟩:∃ y,y=b.nodes.getD i default:=⟨_,rfl⟩
 have key:(if ¬ (x.eqs.length:Int)=(y.eqs.length:Int) then (some (.inr (.inr false))) else (dl n a b pl (i:Int)))=if dec (mS (qI pl) x.eqs y.eqs)=true then some (.inl (IntKind.wrap .i64 ((i:Int)+1))) else some (.inr (.inr false)):=by
  by_cases hl:x.eqs.length=y.eqs.length
  ·rw [iN (by omega),tk n a b pl i hn ho.2.2.2.2 (by rw [← hx,← hy];exact hl),← hx,← hy]
  ·rw [iP (by omega),iN (fun z=>hl (gy.1 z).1)]
 rw [← hx] at ho
 rw [← hx,← hy,key,qH _ _ ho.1,no _ _ ho.2.1,no _ _ ho.2.2.1,no _ _ ho.2.2.2.1]
 simp only [ub,vM,ua,ifF,ifN]
 cases pl with
 |true =>
  rw [iP (show (true=true) from rfl)]
  try simp only [ifF]
  refine nG ?_
  unfold oJ
  constructor
  ·rintro ⟨h1,h2,h3⟩;exact ⟨fun _=>h2,h1,h3⟩
  ·rintro ⟨h1,h2,h3⟩;exact ⟨h2,h1 rfl,h3⟩
 |false =>
  rw [iN (show ¬ (false=true) from by simp)]
  try simp only [ifF]
  refine nG ?_
  unfold oJ
  constructor
  ·rintro ⟨h1,h3⟩;exact ⟨(fun h=>by cases h),h1,h3⟩
  ·rintro ⟨_,h2,h3⟩;exact ⟨h2,h3⟩
theorem uJ(a b:aH):mS (oJ false) a.nodes b.nodes↔tZ a b:=by
 have e:∀ p q,qI false p q↔EqR p q:=fun p q=>by simp [qI]
 have e2:∀ x y,oJ false x y↔rz x y:=fun x y=>by
  simp only [oJ,rz,Bool.false_eq_true,false_implies,true_and]
  rw [show (qI false)=EqR from by funext p q;exact propext (e p q)]
 unfold tZ
 rw [show (oJ false)=rz from by funext p q;exact propext (e2 p q)]
theorem pF{n b:Nat}(h:n≤9000000)(hb:b≤1000):kF n b:=by
 unfold kF maxLen
 have:n * b≤9000000 * 1000:=Nat.mul_le_mul h hb
 omega
theorem mm{T:Type}[Inhabited T](l0:List T)(hl:l0.length≤9000000 - 1){body:List T×Int→Option ((List T×Int) ⊕ List T)}
  (hb:∀ i:Nat,i<l0.length→body (l0.take i,(i:Int))=some (.inl (l0.take i++[l0.getD i default],IntKind.wrap .i64 ((i:Int)+1))))
  (he:body (l0,(l0.length:Int))=some (.inr l0)):cT body ([],0)=some l0:=by
 have key:∀ (k i:Nat),i+k=l0.length→cT body (l0.take i,(i:Int))=some l0:=by
  intro k
  induction k with
  |zero =>
   intro i hi
   have:i=l0.length:=by omega
   subst this
   rw [List.take_length]
   exact ee he
  |succ k ih =>
   intro i hi
   rw [iX (hb i (by omega)),wrs i (by omega),← qC l0 (by omega)]
   exact ih (i+1) (by omega)
 simpa using key l0.length 0 (by omega)
theorem np{T:Type}(l:List T){i:Nat}(h:i<l.length):(l.take i).length=i:=by simp;omega
theorem o8(l:List (List UInt8))(h:l.length≤8000000):iC l=some l:=by
 unfold iC;rw [iP (pF (by omega) (by omega))]
theorem mL(l:List ay)(h:jV l)(h2:l.length≤8000000):gB l=some l:=by
 unfold gB
 rw [mm l (by omega) (fun i hi=>by
  show eU l (l.take i) i=_
  unfold eU
  rw [iP (ltI hi),iP (inI hi),tN,iP (pF (h.2 _ (dW hi)) (by omega)),np l hi,iP (pF (by omega) (by omega))]
  rfl) (by show eU l l _=_;unfold eU;rw [iN (cP _)])]
 rfl
theorem o9(l:List (List am))(h:lJ l)(h2:l.length≤8000000):iD l=some l:=by
 unfold iD
 rw [mm l (by omega) (fun i hi=>by
  show eV l (l.take i) i=_
  unfold eV
  rw [iP (ltI hi),tN,iP ⟨inI hi,pF (h.2 _ (dW hi)) (by omega)⟩,np l hi,iP (pF (by omega) (by omega))]
  rfl) (by show eV l l _=_;unfold eV;rw [iN (cP _)])]
 rfl
theorem tl{x:af}(h:x.sz≤8000000):x.s.length≤8000000:=by
 have h1:=af.sz_eq x
 have:=iM (f:=szL am.sz) (fun x=>by have:=iM o7 x;omega) x.s
 omega
theorem pd:∀ (n:Nat) (l:List af),af.szs l<n→af.szs l≤8000000→dM n l=some l
 |0,_,h,_=>by omega
 |n+1,l,h,hs=>by
  have hlen:=pS l
  show iw (dM n) l=_
  unfold iw
  rw [mm l (by omega) (fun i hi=>by
   show eW (dM n) l (l.take i) i=_
   unfold eW
   rw [iP (ltI hi),iP (inI hi),tN]
   obtain ⟨a,ha⟩:∃ a,a=l.getD i default:=⟨_,rfl⟩
   have hm:a∈l:=by rw [ha];exact dW hi
   have hsz:=pR hm
   obtain ⟨e1,e2⟩:=rZ (x:=a) (by omega)
   rw [← ha,o9 _ e1 (tl (by omega)),pd n a.l (by omega) (by omega)]
   simp only [bSq]
   rw [np l hi,iP (pF (by omega) (by omega))]
   clear ha hm hsz e1 e2
   cases a;rfl) (by show eW (dM n) l l _=_;unfold eW;rw [iN (cP _)])]
  rfl
structure sG (p:aH):Prop where
 nodes:p.nodes.length≤8000000
 names:∀ x∈p.nodes,x.sizes.length≤8000000
 decls:∀ x∈p.nodes,(jV x.in_∧x.in_.length≤8000000)∧(jV x.out_∧x.out_.length≤8000000)∧(jV x.local_∧x.local_.length≤8000000)
 eqs:∀ x∈p.nodes,x.eqs.length≤8000000∧∀ q∈x.eqs,q.names.length≤8000000∧(lJ q.s∧q.s.length≤8000000)∧af.szs q.e≤8000000
theorem uc(s:List UInt8):1≤szS s:=by unfold szS;omega
theorem vP(x:List am):1≤szL am.sz x:=by have:=iM o7 x;omega
theorem oK{l:List ay}(h:szL ay.sz l≤8000000):jV l∧l.length≤8000000:=by
 have:=iM ay.sz_pos l
 refine ⟨⟨by omega,fun d hd=>?_⟩,by omega⟩
 have h1:=oU (f:=ay.sz) hd
 have h2:=iM o7 d.t.n
 have h3:d.sz=szS d.name+d.t.sz+1:=by unfold ay.sz;omega
 have h4:d.t.sz=szI d.t.elem+szL am.sz d.t.n+1:=by unfold f8.sz;omega
 omega
theorem sH{p:aH}(h:p.sz≤1048576):sG p:=by
 have hp:p.sz=szL aS.sz p.nodes+1:=by unfold aH.sz;omega
 have hn:=iM aS.sz_pos p.nodes
 have node:∀ x∈p.nodes,szL szS x.sizes+szL ay.sz x.in_+szL ay.sz x.out_+szL ay.sz x.local_+szL TEq.sz x.eqs≤1048576:=fun x hx=>by
  have h1:=oU (f:=aS.sz) hx
  have h2:x.sz=szS x.name+szI x.at_+szL szS x.sizes+szL ay.sz x.in_+szL ay.sz x.out_+szL ay.sz x.local_+szL TEq.sz x.eqs+1:=by unfold aS.sz;omega
  omega
 refine ⟨by omega,fun x hx=>?_,fun x hx=>?_,fun x hx=>⟨?_,fun q hq=>?_⟩⟩
 ·have h1:=node x hx
  have h2:=iM uc x.sizes
  omega
 ·have h1:=node x hx
  exact ⟨oK (by omega),oK (by omega),oK (by omega)⟩
 ·have h1:=node x hx
  have h2:=iM TEq.sz_pos x.eqs
  omega
 ·have h1:=node x hx
  have h2:=oU (f:=TEq.sz) hq
  have h3:q.sz=szI q.at_+szL szS q.names+szS q.node+szL (szL am.sz) q.s+szL af.sz q.e+1:=by unfold TEq.sz;omega
  have h4:=iM uc q.names
  have h5:=af.szs_eq q.e
  have h6:=iM (f:=szL am.sz) vP q.s
  exact ⟨by omega,⟨qF (by omega),by omega⟩,by omega⟩
theorem sG.ok{p:aH}(h:sG p):tj p:=⟨by have:=h.nodes;omega,fun x hx=>⟨by have:=h.names x hx;omega,(h.decls x hx).1.1,(h.decls x hx).2.1.1,(h.decls x hx).2.2.1,by have:=(h.eqs x hx).1;omega,fun q hq=>by
 obtain ⟨h1,h2,h3⟩:=(h.eqs x hx).2 q hq
 exact ⟨by omega,h2.1,by omega⟩⟩⟩
theorem wy(n:Nat)(p:aH)(h:sG p)(hn:9000000<n):ix n p=some p:=by
 unfold ix
 rw [mm p.nodes (by have:=h.nodes;omega) (fun i hi=>by
  show dQ n p (p.nodes.take i) i=_
  have hm:=dW hi
  obtain ⟨d1,d2,d3⟩:=h.decls _ hm
  obtain ⟨q1,q2⟩:=h.eqs _ hm
  unfold dQ
  rw [iP (ltI hi),iP (inI hi),tN,o8 _ (h.names _ hm),mL _ d1.1 d1.2,mL _ d2.1 d2.2,mL _ d3.1 d3.2]
  simp only [bSq]
  rw [mm (p.nodes.getD i default).eqs (by omega) (fun j hj=>by
   show dP n p i ((p.nodes.getD i default).eqs.take j) j=_
   have hq:=dW hj
   obtain ⟨r1,r2,r3⟩:=q2 _ hq
   unfold dP lN
   rw [tN,iP (ltI hj),iP (inI hj),tN,o8 _ r1,o9 _ r2.1 r2.2,pd n _ (by omega) r3]
   simp only [bSq]
   rw [np _ hj,iP (pF (by omega) (by omega))]
   rfl) (by show dP n p i _ _=_;unfold dP;rw [tN,iN (cP _)])]
  simp only [bSq]
  unfold eX fS
  have:=h.nodes
  rw [np _ hi,iP (pF (by omega) (by omega)),tN]
  rfl) (by show dQ n p p.nodes _=_;unfold dQ;rw [iN (cP _)])]
 rfl
theorem ll{A O:Type}{body:A×Int→Option ((A×Int) ⊕ O)}(n:Nat)(hn:n≤9000000)
  (h:∀ (i:Nat) (a:A),i<n→(∃ o,body (a,(i:Int))=some (.inr o))∨∃ a',body (a,(i:Int))=some (.inl (a',IntKind.wrap .i64 ((i:Int)+1)))) (he:∀ a,∃ o,body (a,(n:Int))=some (.inr o)) (a0:A):∃ o,cT body (a0,0)=some o:=by
 have key:∀ (k i:Nat) (a:A),i+k=n→∃ o,cT body (a,(i:Int))=some o:=by
  intro k
  induction k with
  |zero =>
   intro i a hi
   obtain ⟨o,ho⟩:=he a
   have:i=n:=by omega
   subst this
   exact ⟨o,ee ho⟩
  |succ k ih =>
   intro i a hi
   rcases h i a (by omega) with ⟨o,ho⟩|⟨a',ha⟩
   ·exact ⟨o,ee ho⟩
   ·rw [iX ha,wrs i (by omega)]
    exact ih (i+1) a' (by omega)
 exact key n 0 a0 (by omega)
theorem pG{O:Type}{body:Int→Option (Int ⊕ O)}(n:Nat)(hn:n≤9000000)
  (h:∀ (i:Nat),i<n→(∃ o,body (i:Int)=some (.inr o))∨body (i:Int)=some (.inl (IntKind.wrap .i64 ((i:Int)+1)))) (he:∃ o,body (n:Int)=some (.inr o)):∃ o,cT body 0=some o:=by
 have key:∀ (k i:Nat),i+k=n→∃ o,cT body (i:Int)=some o:=by
  intro k
  induction k with
  |zero =>
   intro i hi
   obtain ⟨o,ho⟩:=he
   have:i=n:=by omega
   subst this
   exact ⟨o,ee ho⟩
  |succ k ih =>
   intro i hi
   rcases h i (by omega) with ⟨o,ho⟩|ha
   ·exact ⟨o,ee ho⟩
   ·rw [iX ha,wrs i (by omega)]
    exact ih (i+1) (by omega)
 exact key n 0 (by omega)
theorem nq(l:List (List UInt8))(h:l.length≤9000000)(z:Int):∃ o,gY l z=some o:=by
 unfold gY
 split
 ·exact ⟨_,rfl⟩
 ·obtain ⟨o,ho⟩:=pG (body:=fun x3=>c7 l x3) l.length h (fun i hi=>by
   show (∃ o,c7 l i=_)∨c7 l i=_
   unfold c7
   rw [iP (ltI hi),iP (inI hi)]
   split
   ·exact .inl ⟨_,rfl⟩
   ·exact .inr rfl) ⟨_,by show c7 l _=_;unfold c7;rw [iN (cP _)]⟩
  rw [ho]
  rcases o with _|o<;>exact ⟨_,rfl⟩
theorem lm(l:List (List am))(h:lJ l)(z:Int):∃ o,fP l z=some o:=by
 unfold fP
 obtain ⟨o,ho⟩:=ll (body:=fun x=>da l x.1 x.2) l.length h.1 (fun i a hi=>by
  show (∃ o,da l a i=_)∨∃ a',da l a i=_
  unfold da
  rw [iP (ltI hi)]
  split
  ·rw [iP (inI hi)]
   split
   ·exact .inl ⟨_,rfl⟩
   ·obtain ⟨o,ho⟩:=pG (body:=fun x10=>c8 l i x10) (l.getD i default).length (h.2 _ (dW hi)) (fun j hj=>by
     show (∃ o,c8 l i j=_)∨c8 l i j=_
     unfold c8
     rw [tN,iP (ltI hj),iP (inI hj)]
     split
     ·exact .inl ⟨_,rfl⟩
     ·exact .inr rfl) ⟨_,by show c8 l i _=_;unfold c8;rw [tN,iN (cP _)]⟩
    rw [ho]
    rcases o with _|o
    ·exact .inr ⟨_,rfl⟩
    ·exact .inl ⟨_,rfl⟩
  ·exact .inl ⟨_,rfl⟩) (fun a=>⟨_,by show da l a _=_;unfold da;rw [iN (cP _)]⟩) (IntKind.wrap .i64 (z - (l.length:Int)))
 rw [ho]
 rcases o with o|o<;>exact ⟨_,rfl⟩
theorem ln(l:List ay)(h:jV l)(z:Int):∃ o,fQ l z=some o:=by
 unfold fQ
 obtain ⟨o,ho⟩:=ll (body:=fun x=>db l x.1 x.2) l.length h.1 (fun i a hi=>by
  show (∃ o,db l a i=_)∨∃ a',db l a i=_
  unfold db
  rw [iP (ltI hi)]
  split
  ·rw [iP (inI hi)]
   split
   ·exact .inl ⟨_,rfl⟩
   ·rw [tN]
    obtain ⟨o,ho⟩:=lm (lit ([(l.getD i default).t.n]:List (List am))) ⟨by simp [lit],fun d hd=>by
     have:d=(l.getD i default).t.n:=by simpa [lit] using hd
     rw [this];exact h.2 _ (dW hi)⟩ a
    rw [ho]
    exact .inr ⟨_,rfl⟩
  ·exact .inl ⟨_,rfl⟩) (fun a=>⟨_,by show db l a _=_;unfold db;rw [iN (cP _)]⟩) (IntKind.wrap .i64 (z - (l.length:Int)))
 rw [ho]
 rcases o with o|o<;>exact ⟨_,rfl⟩
theorem nr:∀ (n:Nat) (l:List af) (z:Int),af.szs l<n→af.szs l≤8000000→∃ o,cV n l z=some o
 |0,_,_,h,_=>by omega
 |n+1,l,z,h,hs=>by
  have hlen:=pS l
  show ∃ o,gZ (cV n) l z=some o
  unfold gZ
  obtain ⟨o,ho⟩:=ll (body:=fun x=>dd (cV n) l x.1 x.2) l.length (by omega) (fun i a hi=>by
   show (∃ o,dd (cV n) l a i=_)∨∃ a',dd (cV n) l a i=_
   have hsz:=pR (dW hi)
   obtain ⟨e1,e2⟩:=rZ (x:=l.getD i default) (by omega)
   unfold dd
   rw [iP (ltI hi)]
   split
   ·rw [iP (inI hi)]
    split
    ·exact .inl ⟨_,rfl⟩
    ·rw [tN]
     obtain ⟨o,ho⟩:=lm _ e1 a
     rw [ho]
     simp only [bSq]
     split
     ·obtain ⟨o2,ho2⟩:=nr n (l.getD i default).l o (by omega) (by omega)
      rw [ho2]
      exact .inr ⟨_,rfl⟩
     ·exact .inr ⟨_,rfl⟩
   ·exact .inl ⟨_,rfl⟩) (fun a=>⟨_,by show dd _ l a _=_;unfold dd;rw [iN (cP _)]⟩) (IntKind.wrap .i64 (z - (l.length:Int)))
  rw [ho]
  rcases o with o|o<;>exact ⟨_,rfl⟩
theorem sK(n:Nat)(p:aH)(x j:Nat)(hn:9000000<n)(h:af.szs ((p.nodes.getD x default).eqs.getD j default).e≤8000000)(z:Int):∃ a',io n p x j z=some (.inl (a',IntKind.wrap .i64 ((j:Int)+1))):=by
 unfold io lc
 split
 ·simp only [tN]
  obtain ⟨o,ho⟩:=nr n _ z (by omega) h
  rw [ho];exact ⟨_,rfl⟩
 ·exact ⟨_,rfl⟩
theorem rA(n:Nat)(p:aH)(h:sG p)(hn:9000000<n):∃ b,kT n p=some b:=by
 unfold kT
 split
 ·exact ⟨_,rfl⟩
 ·obtain ⟨o,ho⟩:=ll (body:=fun x=>fC n p x.1 x.2) p.nodes.length (by have:=h.nodes;omega) (fun i a hi=>by
   show (∃ o,fC n p a i=_)∨∃ a',fC n p a i=_
   have hm:=dW hi
   obtain ⟨d1,d2,d3⟩:=h.decls _ hm
   obtain ⟨q1,q2⟩:=h.eqs _ hm
   unfold fC
   rw [iP (ltI hi)]
   split
   ·rw [iP (inI hi)]
    split
    ·exact .inl ⟨_,rfl⟩
    ·split
     ·exact .inl ⟨_,rfl⟩
     ·rw [tN]
      obtain ⟨o1,ho1⟩:=nq (p.nodes.getD i default).sizes (by have:=h.names _ hm;omega) a
      rw [ho1];simp only [bSq]
      obtain ⟨o2,ho2⟩:=ln (p.nodes.getD i default).in_ d1.1 o1
      rw [ho2];simp only [bSq]
      obtain ⟨o3,ho3⟩:=ln (p.nodes.getD i default).out_ d2.1 o2
      rw [ho3];simp only [bSq]
      obtain ⟨o4,ho4⟩:=ln (p.nodes.getD i default).local_ d3.1 o3
      rw [ho4];simp only [bSq]
      obtain ⟨o,ho⟩:=ll (body:=fun x=>fA n p i x.1 x.2) (p.nodes.getD i default).eqs.length (by omega) (fun j c hj=>by
       show (∃ o,fA n p i c j=_)∨∃ a',fA n p i c j=_
       have hq:=dW hj
       obtain ⟨r1,r2,r3⟩:=q2 _ hq
       unfold fA
       rw [tN,iP (ltI hj)]
       split
       ·rw [iP (inI hj)]
        split
        ·exact .inl ⟨_,rfl⟩
        ·rw [tN]
         obtain ⟨w1,hw1⟩:=nq _ (show ((p.nodes.getD i default).eqs.getD j default).names.length≤9000000 by omega) c
         rw [hw1];simp only [bSq]
         split
         ·obtain ⟨w2,hw2⟩:=lm _ r2.1 w1
          rw [hw2];simp only [bSq]
          exact .inr (sK n p i j hn r3 w2)
         ·exact .inr (sK n p i j hn r3 w1)
       ·exact .inl ⟨_,rfl⟩) (fun c=>⟨_,by show fA n p i c _=_;unfold fA;rw [tN,iN (cP _)]⟩) o4
      rw [ho]
      rcases o with o|o
      ·exact .inr ⟨_,rfl⟩
      ·exact .inl ⟨_,rfl⟩
   ·exact .inl ⟨_,rfl⟩) (fun a=>⟨_,by show fC n p a _=_;unfold fC;rw [iN (cP _)]⟩) 8000
  rw [ho]
  rcases o with o|o<;>exact ⟨_,rfl⟩
def tSm(c:UInt8):Prop:=97≤c.toNat∧c.toNat≤122
def tDg(c:UInt8):Prop:=48≤c.toNat∧c.toNat≤57
instance (c:UInt8):Decidable (tSm c):=inferInstanceAs (Decidable (_∧_))
instance (c:UInt8):Decidable (tDg c):=inferInstanceAs (Decidable (_∧_))
def tAn(c:UInt8):Bool:=decide (tSm c∨tDg c)
def tBl(c:UInt8):Prop:=c.toNat=32∨c.toNat=9∨c.toNat=13
instance (c:UInt8):Decidable (tBl c):=inferInstanceAs (Decidable (_∨_))
def blk:Bool→List UInt8→List UInt8
 |_,[]=>[]
 |r,c :: l=>if c.toNat=10 then blk false l else if r=true∨tBl c then blk r l else if c.toNat=35 then blk true l else c :: l
theorem vQ(r:Bool)(s:List UInt8):(blk r s).length≤s.length:=by
 induction s generalizing r with
 |nil=>simp [blk]
 |cons c l ih =>
  unfold blk
  have h1:=ih false;have h2:=ih r;have h3:=ih true
  split
  ·simp;omega
  ·split
   ·simp;omega
   ·split
    ·simp;omega
    ·simp
theorem vR(r:Bool)(s:List UInt8):blk r s=s.drop (s.length - (blk r s).length):=by
 induction s generalizing r with
 |nil=>simp [blk]
 |cons c l ih =>
  have key:∀ q,blk q l=(c :: l).drop ((c :: l).length - (blk q l).length):=by
   intro q
   have h1:=ih q;have h2:=vQ q l
   rw [List.length_cons,show l.length+1 - (blk q l).length=(l.length - (blk q l).length)+1 by omega,List.drop_succ_cons]
   exact h1
  unfold blk
  split
  ·exact key _
  ·split
   ·exact key _
   ·split
    ·exact key _
    ·simp
def qJ:List (List UInt8):=[[97,100,100],[97,110,100],[98,111,111,108],[99,97,108,108],[99,97,116],[100,105,118],[101,108,115,101],[101,113],[102,97,108,115,101],[102,105,108,108],[102,111,108,100],[105,102],[105,110,116],[108,101,115,115],[109,97,112],[109,97,120],[109,105,110],[109,111,100],[109,117,108],[110,101,103],[110,111,100,101],[110,111,116],[111,114],[112,114,101],[115,99,97,110],[115,108,105,99,101],[115,117,98],[116,104,101,110],[116,114,117,101],[118,97,114],[119,105,116,104],[120,111,114]]
def oL(s:List UInt8):Bool:=qJ.contains s
def tm:List Nat:=[40,41,123,125,91,93,60,62,44,59,58,43,45,42,47,37,61,94]
def vS(n:Int)(w:List UInt8):Int:=w.foldl (fun n c=>10 * n+((c.toNat:Int) - 48)) n
def wz(w:List UInt8):Option Int :=
 if w.length>18∨(w.length>1∧w.head?.map UInt8.toNat=some 48)∨¬ (∀ c∈w,tDg c) then none else some (vS 0 w)
def sL(p:Nat)(s:List UInt8):ab ⊕ Int :=
 match s with
 |[]=>.inr 1
 |c :: l =>
  if tSm c then
   let w:=(c :: l).takeWhile tAn
   if oL w then .inl (ab.mk 1 p w 0) else if w.length>12 then .inr 3 else .inl (ab.mk 2 p w 0)
  else if tDg c then
   let w:=(c :: l).takeWhile tAn
   match wz w with
   |some n=>.inl (ab.mk 3 p w n)
   |none=>.inr 2
  else if (c :: l).take 2=[61,61]∨(c :: l).take 2=[45,62] then .inl (ab.mk 4 p ((c :: l).take 2) 0)
  else if c.toNat∈tm then .inl (ab.mk 4 p [c] 0)
  else .inr 1
theorem r7{c:UInt8}(h:tSm c∨tDg c):tAn c=true:=by simpa [tAn] using h
theorem uK{p:Nat}{s:List UInt8}{t:ab}(h:sL p s=.inl t):t.at_=p∧t.text≠[]∧t.text <+: s:=by
 cases s with
 |nil=>simp [sL] at h
 |cons c l =>
  have tw:(c :: l).takeWhile tAn <+: c :: l:=List.takeWhile_prefix _
  have ne:∀ {c:UInt8},tAn c=true→(c :: l).takeWhile tAn≠[]:=by intro c h;rw [List.takeWhile_cons,iP h];simp
  unfold sL at h
  simp only at h
  split at h
  ·rename_i hc
   split at h
   ·cases h;exact ⟨rfl,ne (r7 (.inl hc)),tw⟩
   ·split at h
    ·cases h
    ·cases h;exact ⟨rfl,ne (r7 (.inl hc)),tw⟩
  ·split at h
   ·rename_i hc
    split at h
    ·cases h;exact ⟨rfl,ne (r7 (.inr hc)),tw⟩
    ·cases h
   ·split at h
    ·cases h;exact ⟨rfl,by simp,List.take_prefix _ _⟩
    ·split at h
     ·cases h;exact ⟨rfl,by simp,⟨l,rfl⟩⟩
     ·cases h
def qK:Nat→Nat→List UInt8→List ab ⊕ cq
 |0,_,_=>.inl []
 |k+1,p,s =>
  match blk false s with
  |[]=>.inl []
  |c :: l =>
   match sL (p+(s.length - (c :: l).length)) (c :: l) with
   |.inr e=>.inr (cq.mk e ((p+(s.length - (c :: l).length):Nat):Int))
   |.inl t =>
    match qK k (p+(s.length - (c :: l).length)+t.text.length) ((c :: l).drop t.text.length) with
    |.inl m=>.inl (t :: m)
    |.inr f=>.inr f
theorem tn(k p:Nat)(s:List UInt8):qK (k+1) p s=match blk false s with
  |[]=>.inl []
  |c :: l =>
   match sL (p+(s.length - (c :: l).length)) (c :: l) with
   |.inr e=>.inr (cq.mk e ((p+(s.length - (c :: l).length):Nat):Int))
   |.inl t =>
    match qK k (p+(s.length - (c :: l).length)+t.text.length) ((c :: l).drop t.text.length) with
    |.inl m=>.inl (t :: m)
    |.inr f=>.inr f:=rfl
theorem vT(l:List UInt8)(i:Nat)(h:i<l.length):l.drop i=l.getD i 0 :: l.drop (i+1):=by
 rw [List.drop_eq_getElem_cons h]
 simp [List.getD,h]
theorem wr1(p:Nat)(h:p<1000000):IntKind.wrap .i64 ((p:Int)+1)=((p+1:Nat):Int):=wrs p (by omega)
theorem rB(c:UInt8):iZ (c.toNat:Int)=some (decide (tSm c)):=by
 unfold iZ
 by_cases h:(c.toNat:Int)≥97
 ·rw [iP h];congr 1;exact decide_eq_decide.2 (by unfold tSm;omega)
 ·rw [iN h];congr 1;symm;rw [decide_eq_false_iff_not];unfold tSm;omega
theorem qL(c:UInt8):iS (c.toNat:Int)=some (decide (tDg c)):=by
 unfold iS
 by_cases h:(c.toNat:Int)≥48
 ·rw [iP h];congr 1;exact decide_eq_decide.2 (by unfold tDg;omega)
 ·rw [iN h];congr 1;symm;rw [decide_eq_false_iff_not];unfold tDg;omega
theorem qM(src:List UInt8)(hl:src.length≤100000):∀ (k p:Nat) (r:Bool),p+k=src.length →
  cT (fun (x5,b6)=>bV src x5 b6) ((p:Int),r)=some ((src.length - (blk r (src.drop p)).length:Nat):Int)
 |0,p,r,h=>by
  have:p=src.length:=by omega
  subst this
  rw [List.drop_length]
  refine ee ?_
  show bV _ _ _=_
  unfold bV
  rw [iN (cP _)]
  simp [blk]
 |k+1,p,r,h=>by
  have hp:p<src.length:=by omega
  have hd:=vT src p hp
  have hdl:(src.drop (p+1)).length=src.length - (p+1):=List.length_drop
  obtain ⟨c,hc⟩:∃ c,src.getD p 0=c:=⟨_,rfl⟩
  rw [hc] at hd
  have e:blk r (c :: src.drop (p+1))=if c.toNat=10 then blk false (src.drop (p+1)) else if r=true∨tBl c then blk r (src.drop (p+1)) else if c.toNat=35 then blk true (src.drop (p+1)) else c :: src.drop (p+1):=rfl
  have stp:∀ q,bV src (p:Int) r=some (.inl ((p+1:Nat),q))→blk r (c :: src.drop (p+1))=blk q (src.drop (p+1)) →
    cT (fun (x5,b6)=>bV src x5 b6) ((p:Int),r)=some ((src.length - (blk r (src.drop p)).length:Nat):Int):=fun q h1 h2=>by
   rw [iX (s':=(((p+1:Nat):Int),q)) h1,qM src hl k (p+1) q (by omega),hd,h2]
  have hb:bV src (p:Int) r=if (c.toNat:Int)=10 then some (.inl ((p+1:Nat),false)) else if r=true∨tBl c then some (.inl ((p+1:Nat),r)) else if (c.toNat:Int)=35 then some (.inl ((p+1:Nat),true)) else some (.inr (p:Int)):=by
   unfold bV
   rw [iP (ltI hp),iP (inI hp),tN,hc]
   unfold cx cN
   rw [wr1 p (by omega)]
   simp only [tN,hc]
   by_cases h1:(c.toNat:Int)=10
   ·rw [iP h1,iP h1]
   rw [iN h1,iN h1]
   by_cases h2:r=true
   ·rw [iP h2,iP h2,iP (Or.inl h2)]
   rw [iN h2]
   have key:∀ b:Bool,(b=true↔tBl c)→(if b=true then (some (.inl (((p+1:Nat):Int),r)):Option ((Int×Bool) ⊕ Int)) else if ((src.getD p 0).toNat:Int)=35 then some (.inl (((p+1:Nat):Int),true)) else some (.inr (p:Int))) =
     if r=true∨tBl c then some (.inl (((p+1:Nat):Int),r)) else if (c.toNat:Int)=35 then some (.inl (((p+1:Nat):Int),true)) else some (.inr (p:Int)):=by
    intro b hb
    rw [hc]
    by_cases hh:tBl c
    ·rw [iP (hb.2 hh),iP (Or.inr hh)]
    ·rw [iN (fun x=>hh (hb.1 x)),iN (show ¬ (r=true∨tBl c) from fun x=>x.elim h2 hh)]
   rw [hc] at key
   by_cases h3:(c.toNat:Int)=32
   ·rw [iP h3];exact key ((c.toNat:Int) == 32) (by rw [beq_iff_eq];unfold tBl;omega)
   rw [iN h3]
   by_cases h4:(c.toNat:Int)=9
   ·rw [iP h4];exact key ((c.toNat:Int) == 9) (by rw [beq_iff_eq];unfold tBl;omega)
   rw [iN h4]
   exact key ((c.toNat:Int) == 13) (by rw [beq_iff_eq];unfold tBl;omega)
  by_cases h1:c.toNat=10
  ·rw [iP h1] at e
   rw [iP (by omega)] at hb
   exact stp false hb e
  rw [iN h1] at e
  rw [iN (by omega)] at hb
  by_cases h2:r=true∨tBl c
  ·rw [iP h2] at e hb
   exact stp r hb e
  rw [iN h2] at e hb
  by_cases h3:c.toNat=35
  ·rw [iP h3] at e
   rw [iP (by omega)] at hb
   exact stp true hb e
  rw [iN h3] at e
  rw [iN (by omega)] at hb
  rw [ee (o:=(p:Int)) hb,hd,e,List.length_cons,hdl]
  congr 2;omega
theorem sM(src:List UInt8)(hl:src.length≤100000)(p:Nat)(hp:p≤src.length)(l:List ab) :
  ef src p l=some ((src.length - (blk false (src.drop p)).length:Nat):Int):=by
 unfold ef
 rw [qM src hl (src.length - p) p false (by omega)]
 rfl
theorem sN(src:List UInt8)(hl:src.length≤100000):∀ (k p:Nat),p+k=src.length →
  cT (fun x4=>dj src x4) (p:Int)=some ((p+((src.drop p).takeWhile tAn).length:Nat):Int)
 |0,p,h=>by
  have:p=src.length:=by omega
  subst this
  rw [List.drop_length]
  refine ee ?_
  unfold dj
  rw [iN (cP _)];rfl
 |k+1,p,h=>by
  have hp:p<src.length:=by omega
  rw [vT src p hp]
  have hb:dj src (p:Int)=if tAn (src.getD p 0)=true then some (.inl ((p+1:Nat):Int)) else some (.inr (p:Int)):=by
   unfold dj dR
   rw [iP (ltI hp),iP (inI hp),tN,wr1 p (by omega),rB,qL]
   simp only [bSq,decide_eq_true_eq]
   unfold tAn
   simp only [decide_eq_true_eq]
   by_cases h1:tSm (src.getD p 0)
   ·rw [iP h1,iP (Or.inl h1)]
   ·rw [iN h1]
    by_cases h2:tDg (src.getD p 0)
    ·rw [iP h2,iP (Or.inr h2)]
    ·rw [iN h2,iN (fun x=>x.elim h1 h2)]
  rw [List.takeWhile_cons]
  by_cases h1:tAn (src.getD p 0)=true
  ·rw [iP h1] at hb ⊢
   rw [iX hb,sN src hl k (p+1) (by omega),List.length_cons]
   congr 2;omega
  ·rw [iN h1] at hb ⊢
   rw [ee hb];rfl
theorem xv(src:List UInt8)(hl:src.length≤100000)(p:Nat)(hp:p≤src.length)(l:List ab) :
  dy src p l=some ((src.drop p).takeWhile tAn,((p+((src.drop p).takeWhile tAn).length:Nat):Int)):=by
 unfold dy
 rw [sN src hl (src.length - p) p (by omega)]
 simp only [bSq]
 unfold di
 have tw:(src.drop p).takeWhile tAn <+: src.drop p:=List.takeWhile_prefix _
 have hle:=tw.length_le
 rw [List.length_drop] at hle
 rw [iP ⟨by omega,by omega,by omega⟩,tN,tN,List.drop_take,show p+((src.drop p).takeWhile tAn).length - p=((src.drop p).takeWhile tAn).length by omega,← List.prefix_iff_eq_take.1 tw]
theorem wA(w:List UInt8):ke w=some (oL w):=by
 unfold ke aT
 by_cases h:w∈qJ
 ·have:oL w=true:=by unfold oL;rw [List.contains_iff_mem];exact h
  rw [this]
  unfold qJ at h
  simp only [List.mem_cons,List.not_mem_nil,or_false] at h
  rcases h with rfl|rfl|rfl|rfl|rfl|rfl|rfl|rfl|rfl|rfl|rfl|rfl|rfl|rfl|rfl|rfl|rfl|rfl|rfl|rfl|rfl|rfl|rfl|rfl|rfl|rfl|rfl|rfl|rfl|rfl|rfl|rfl
  all_goals rfl
 ·have:oL w=false:=by unfold oL;rw [← Bool.not_eq_true,List.contains_iff_mem];exact h
  rw [this]
  have hn:∀ x,x∈qJ→¬ w=x:=fun x hx e=>h (e ▸ hx)
  have hb:∀ x,x∈qJ→(w == x)=false:=fun x hx=>by rw [beq_eq_false_iff_ne];exact hn x hx
  rw [iN (hn _ (by decide)),iN (hn _ (by decide)),iN (hn _ (by decide)),iN (hn _ (by decide)),iN (hn _ (by decide)),iN (hn _ (by decide)),iN (hn _ (by decide)),iN (hn _ (by decide)),iN (hn _ (by decide)),iN (hn _ (by decide)),iN (hn _ (by decide)),iN (hn _ (by decide)),iN (hn _ (by decide)),iN (hn _ (by decide)),iN (hn _ (by decide)),iN (hn _ (by decide)),iN (hn _ (by decide)),iN (hn _ (by decide)),iN (hn _ (by decide)),iN (hn _ (by decide)),iN (hn _ (by decide)),iN (hn _ (by decide)),iN (hn _ (by decide)),iN (hn _ (by decide)),iN (hn _ (by decide)),iN (hn _ (by decide)),iN (hn _ (by decide)),iN (hn _ (by decide)),iN (hn _ (by decide)),iN (hn _ (by decide)),iN (hn _ (by decide))]
  rw [hb _ (by decide)]
  rfl
theorem pH:∀ (l:List UInt8) (acc:Nat),(∀ c∈l,tDg c)→∃ m:Nat,Go.Lib.decFrom acc l=some m∧(m:Int)=vS acc l
 |[],acc,_=>⟨acc,rfl,rfl⟩
 |c :: l,acc,h=>by
  have hc:tDg c:=h c List.mem_cons_self
  have hc':48≤c.toNat∧c.toNat≤57:=hc
  obtain ⟨m,h1,h2⟩:=pH l (acc * 10+(c.toNat - 48)) (fun d hd=>h d (List.mem_cons_of_mem _ hd))
  refine ⟨m,?_,?_⟩
  ·unfold Go.Lib.decFrom Go.Lib.digitVal
   rw [iP hc']
   exact h1
  ·rw [h2]
   unfold vS
   rw [List.foldl_cons]
   congr 1
   omega
theorem vU(w:List UInt8)(hn:w≠[])(hl:w.length≤18)(h:∀ c∈w,tDg c):sv w=some (vS 0 w):=by
 unfold sv
 rw [iP hl]
 cases w with
 |nil=>exact absurd rfl hn
 |cons c l =>
  have hc:48≤c.toNat∧c.toNat≤57:=h c List.mem_cons_self
  unfold Go.Lib.atoi
  have n1:(c == 45)=false:=by rw [beq_eq_false_iff_ne];intro e;subst e;revert hc;decide
  have n2:(c == 43)=false:=by rw [beq_eq_false_iff_ne];intro e;subst e;revert hc;decide
  simp only [n1,n2]
  obtain ⟨m,h1,h2⟩:=pH (c :: l) 0 h
  show (Go.Lib.decNat (c :: l)).map (fun m:Nat=>(m:Int))=_
  unfold Go.Lib.decNat
  rw [iN (by simp),h1,Option.map_some,h2]
  rfl
theorem ud(w:List UInt8):(∀ c∈w,tDg c)↔∀ i,i<w.length→tDg (w.getD i 0):=by
 constructor
 ·intro h i hi
  have:w.getD i 0=w[i]:=by simp [List.getD,hi]
  rw [this];exact h _ (List.getElem_mem hi)
 ·intro h c hc
  obtain ⟨i,hi,rfl⟩:=List.getElem_of_mem hc
  have:=h i hi
  have e:w.getD i 0=w[i]:=by simp [List.getD,hi]
  rwa [e] at this
theorem uL(w:List UInt8)(hn:w≠[]):i7 w=some (match wz w with|some n=>(n,true)|none=>(0,false)):=by
 unfold i7
 unfold wz
 by_cases h1:w.length>18
 ·rw [iP (by omega),iP (Or.inl h1)]
 rw [iN (by omega)]
 have hj:fh w=some (match (if ¬ ∀ c∈w,tDg c then none else some (vS 0 w):Option Int) with|some n=>(n,true)|none=>(0,false)):=by
  unfold fh
  rw [nF (body:=fun x4=>eu w x4) w.length (fun i=>if tDg (w.getD i 0) then none else some ((0:Int),false)) ()
   (by
    intro i hi
    show eu w i=_
    unfold eu
    rw [iP (ltI hi),iP (inI hi),tN,qL,wr1 i (by omega)]
    simp only [bSq,decide_eq_true_eq]
    by_cases hd:tDg (w.getD i 0)
    ·rw [iP hd,iP hd]
    ·rw [iN hd,iN hd])
   (by
    show eu w w.length=_
    unfold eu
    rw [iN (cP _)])]
  simp only [bSq]
  by_cases ha:∀ c∈w,tDg c
  ·have hg:=(ud w).1 ha
   rw [uH (fun i hi=>by rw [iP (hg i hi)])]
   rw [iN (fun h=>h ha)]
   simp only [Sum.elim_inl]
   unfold gf i6
   rw [iP ⟨rfl,rfl⟩,vU w hn (by omega) ha]
   rfl
  ·rw [iP ha]
   rcases oH w.length (fun i=>if tDg (w.getD i 0) then none else some ((0:Int),false)) () with ⟨e,hall⟩|⟨i,z,hi,hf,e⟩
   ·exfalso
    refine ha ((ud w).2 fun i hi=>?_)
    have:=hall i hi
    split at this
    ·assumption
    ·cases this
   ·rw [e]
    split at hf
    ·cases hf
    ·simp only [sJ] at hf
     subst hf;rfl
 by_cases h2:w.length>1
 ·rw [iP (by omega),iP ⟨by omega,by omega⟩]
  cases w with
  |nil=>exact absurd rfl hn
  |cons c l =>
   by_cases h3:c.toNat=48
   ·rw [iP (show (((c :: l).getD 0 0).toNat:Int)=48 by simp [h3]),iP (Or.inr (Or.inl ⟨h2,by simp [h3]⟩))]
   ·rw [iN (show ¬ (((c :: l).getD 0 0).toNat:Int)=48 by simp;omega),hj]
    by_cases ha:∀ d∈c :: l,tDg d
    ·rw [iN (fun h=>h ha),iN (fun h=>h.elim h1 (fun h=>h.elim (fun h=>h3 (by simpa using h.2)) (fun h=>h ha)))]
    ·rw [iP ha,iP (Or.inr (Or.inr ha))]
 ·rw [iN (by omega),hj]
  by_cases ha:∀ d∈w,tDg d
  ·rw [iN (fun h=>h ha),iN (fun h=>h.elim h1 (fun h=>h.elim (fun h=>h2 h.1) (fun h=>h ha)))]
  ·rw [iP ha,iP (Or.inr (Or.inr ha))]
theorem rC(s l:List UInt8)(hl:l.length=2):d7 s l=some (decide (s.take 2=l)):=by
 unfold d7 dp
 by_cases h:(s.length:Int)≥(l.length:Int)
 ·rw [iP h,iP ⟨by omega,by omega⟩,hl]
  simp only [bSq]
  congr 1
  rw [Bool.eq_iff_iff]
  simp
 ·rw [iN h]
  simp only [bSq]
  congr 1;symm
  rw [decide_eq_false_iff_not]
  intro e
  have:(s.take 2).length=2:=by rw [e,hl]
  rw [List.length_take] at this
  omega
theorem wB(src:List UInt8)(p:Nat)(hp:p<src.length)(l:List ab) :
  eO src p l=some (if (src.drop p).take 2=[61,61]∨(src.drop p).take 2=[45,62] then (src.drop p).take 2 else if (src.getD p 0).toNat∈tm then [src.getD p 0] else []):=by
 unfold eO
 have b0:cm src p 0=if (src.drop p).take 2=[61,61] then some (.inr (.inr [61,61])) else some (.inl 1):=by
  unfold cm
  rw [iP (by decide),iP (by decide),iP ⟨by omega,by omega⟩,tN]
  show (d7 (src.drop p) [61,61]).bind _=_
  rw [rC _ _ rfl]
  simp only [bSq,decide_eq_true_eq]
  rfl
 have b1:cm src p 1=if (src.drop p).take 2=[45,62] then some (.inr (.inr [45,62])) else some (.inl 2):=by
  unfold cm
  rw [iP (by decide),iP (by decide),iP ⟨by omega,by omega⟩,tN]
  show (d7 (src.drop p) [45,62]).bind _=_
  rw [rC _ _ rfl]
  simp only [bSq,decide_eq_true_eq]
  rfl
 have b2:cm src p 2=some (.inr (.inl ())):=by
  unfold cm
  rw [iN (by decide)]
 by_cases h1:(src.drop p).take 2=[61,61]
 ·rw [iP h1] at b0
  rw [ee b0,iP (Or.inl h1),h1];rfl
 rw [iN h1] at b0
 rw [iX b0]
 by_cases h2:(src.drop p).take 2=[45,62]
 ·rw [iP h2] at b1
  rw [ee b1,iP (Or.inr h2),h2];rfl
 rw [iN h2] at b1
 rw [iX b1,ee b2,iN (fun h=>h.elim h1 h2)]
 simp only [bSq,Sum.elim_inl]
 unfold dz
 rw [iP (inI hp),tN]
 obtain ⟨c,hc⟩:∃ c,src.getD p 0=c:=⟨_,rfl⟩
 rw [hc]
 have hw:c.toNat<128→UInt8.ofNat ((IntKind.wrap .i32 (c.toNat:Int)).toNat)=c∧0≤IntKind.wrap .i32 (c.toNat:Int)∧IntKind.wrap .i32 (c.toNat:Int)<128:=fun h=>by
  have:IntKind.wrap .i32 (c.toNat:Int)=(c.toNat:Int):=by rw [IntKind.wrap_i32];omega
  rw [this]
  refine ⟨?_,by omega,by omega⟩
  simp
 have hj:∀ b:Bool,(b=true→c.toNat<128)→aI src p b=some (if b=true then [c] else []):=fun b hb=>by
  unfold aI
  rw [tN,hc]
  by_cases h:b=true
  ·obtain ⟨w1,w2,w3⟩:=hw (hb h)
   rw [iP h,iP h,iP ⟨w2,w3⟩,w1]
  ·rw [iN h,iN h]
 have step:∀ (n:Int) (ns:List Nat) (X:Option (List UInt8)),0≤n→n<128→X=some (if c.toNat∈ns then [c] else []) →
   (if (c.toNat:Int)=n then aI src p ((c.toNat:Int) == n) else X)=some (if c.toNat∈n.toNat :: ns then [c] else []):=fun n ns X h0 h1 hX=>by
  by_cases h:(c.toNat:Int)=n
  ·rw [iP h,hj _ (fun _=>by omega),iP (eQ h),iP (by rw [List.mem_cons];left;omega)]
  ·rw [iN h,hX]
   congr 1
   have:(c.toNat∈n.toNat :: ns)↔c.toNat∈ns:=by
    rw [List.mem_cons]
    constructor
    ·rintro (h'|h')
     ·exact absurd (by omega) h
     ·exact h'
    ·exact Or.inr
   simp only [this]
 have last:aI src p ((c.toNat:Int) == 94)=some (if c.toNat∈[94] then [c] else []):=by
  rw [hj _ (fun h=>by have:=beq_iff_eq.1 h;omega)]
  congr 1
  have:((c.toNat:Int) == 94)=true↔c.toNat∈[94]:=by rw [beq_iff_eq,List.mem_singleton];omega
  simp only [this]
 exact step 40 _ _ (by decide) (by decide) (step 41 _ _ (by decide) (by decide) (step 123 _ _ (by decide) (by decide) (step 125 _ _ (by decide) (by decide) (step 91 _ _ (by decide) (by decide) (step 93 _ _ (by decide) (by decide) (step 60 _ _ (by decide) (by decide)
  (step 62 _ _ (by decide) (by decide) (step 44 _ _ (by decide) (by decide) (step 59 _ _ (by decide) (by decide) (step 58 _ _ (by decide) (by decide) (step 43 _ _ (by decide) (by decide) (step 45 _ _ (by decide) (by decide) (step 42 _ _ (by decide) (by decide)
  (step 47 _ _ (by decide) (by decide) (step 37 _ _ (by decide) (by decide) (step 61 _ _ (by decide) (by decide) last))))))))))))))))
theorem xw(n:Nat)(h:n≤1000000):kF n 40:=by
 unfold kF
 have:maxLen=9223372036854775807:=rfl
 omega
theorem xx(src:List UInt8)(hl:src.length≤100000)(p:Nat)(hp:p<src.length)(l:List ab)(hll:l.length≤200000) :
  match sL p (src.drop p) with
  |.inl t=>d8 src p l=some (0,((p+t.text.length:Nat):Int),l++[t])
  |.inr e=>e≠0∧∃ x,d8 src p l=some (e,x,l):=by
 have hd:=vT src p hp
 obtain ⟨c,hc⟩:∃ c,src.getD p 0=c:=⟨_,rfl⟩
 have hs:=wB src p hp l
 have hr:=xv src hl p (by omega) l
 rw [hc] at hd hs
 have hone:d8 src p l=(some (decide (tSm c))).bind fun y5=>if y5=true then ((dy src p l).bind fun y6=>(ke y6.1).bind fun y7=>if y7=true then (bK p l y6.2 1 y6.1 0) else (if (y6.1.length:Int)>12 then (some (3,y6.2,l)) else (bK p l y6.2 2 y6.1 0))) else ((some (decide (tDg c))).bind fun y8=>if y8=true then ((dy src p l).bind fun y9=>(i7 y9.1).bind fun y10=>if y10.2=true then (bK p l y9.2 3 y9.1 y10.1) else (some (2,y9.2,l))) else ((eO src p l).bind fun y11=>if y11=([]:List UInt8) then (some (1,(p:Int),l)) else (bK p l (IntKind.wrap .i64 (p+(y11.length:Int))) 4 y11 0))):=by
  unfold d8
  rw [iP (inI hp),tN,hc,rB,qL]
 have hj:∀ x1 x2 s3 x4,bK (p:Int) l x1 x2 s3 x4=some (0,x1,l++[ab.mk x2 p s3 x4]):=fun x1 x2 s3 x4=>by
  unfold bK
  rw [iP (xw _ (by omega))];rfl
 have hlen:(src.drop p).length=src.length - p:=List.length_drop
 rw [hone,hr]
 simp only [bSq,decide_eq_true_eq,hj,wA]
 rw [hs]
 simp only [bSq]
 clear hone hr hs hj
 generalize hsd:src.drop p=s at *
 subst hd
 unfold sL
 simp only
 by_cases h1:tSm c
 ·rw [iP h1,iP h1]
  by_cases hw:oL ((c :: src.drop (p+1)).takeWhile tAn)=true
  ·rw [iP hw,iP hw]
  ·rw [iN hw,iN hw]
   by_cases h12:((c :: src.drop (p+1)).takeWhile tAn).length>12
   ·rw [iP h12,iP (by omega)]
    exact ⟨by decide,_,rfl⟩
   ·rw [iN h12,iN (by omega)]
 ·rw [iN h1,iN h1]
  by_cases h2:tDg c
  ·rw [iP h2,iP h2]
   have hne:(c :: src.drop (p+1)).takeWhile tAn≠[]:=by rw [List.takeWhile_cons,iP (r7 (.inr h2))];simp
   rw [uL _ hne]
   simp only [bSq]
   cases hn:wz ((c :: src.drop (p+1)).takeWhile tAn) with
   |some n=>rfl
   |none=>exact ⟨by decide,_,rfl⟩
  ·rw [iN h2,iN h2]
   have hwr:∀ k:Nat,k≤2→IntKind.wrap .i64 ((p:Int)+(k:Int))=((p+k:Nat):Int):=fun k hk=>by rw [wr (by omega) (by omega)];omega
   have htk:((c :: src.drop (p+1)).take 2).length≤2:=by rw [List.length_take];omega
   by_cases h3:(c :: src.drop (p+1)).take 2=[61,61]∨(c :: src.drop (p+1)).take 2=[45,62]
   ·rw [iP h3,iP h3,iN (by simp),hwr _ htk]
   ·rw [iN h3,iN h3]
    by_cases h4:c.toNat∈tm
    ·rw [iP h4,iP h4,iN (by simp)]
     have:=hwr [c].length (by simp)
     rw [this]
    ·rw [iN h4,iN h4,iP rfl]
     exact ⟨by decide,_,rfl⟩
theorem uM(src:List UInt8)(hl:src.length≤100000):∀ (k p:Nat) (l:List ab),p≤src.length→src.length - p<k→l.length≤p →
  cT (fun (x19,l20)=>dX src x19 l20) (((src.length - (blk false (src.drop p)).length:Nat):Int),l)=some (match qK k p (src.drop p) with
   |.inl m=>.inl ((src.length:Int),l++m)
   |.inr f=>.inr ([],f)):=by
 intro k
 induction k with
 |zero=>intro p l _ h;omega
 |succ k ih =>
  intro p l hp hk hll
  have hb:=vQ false (src.drop p)
  have hbd:=vR false (src.drop p)
  have hlen:(src.drop p).length=src.length - p:=List.length_drop
  rw [tn]
  cases e:blk false (src.drop p) with
  |nil =>
   simp only [List.length_nil,Nat.sub_zero]
   rw [ee (o:=.inl ((src.length:Int),l)) (by
    show dX src src.length l=_
    unfold dX
    rw [iN (cP _)])]
   simp
  |cons c m =>
   simp only
   rw [e] at hb hbd
   have hcm:(c :: m).length=m.length+1:=rfl
   obtain ⟨q,hq⟩:∃ q,q=src.length - (c :: m).length:=⟨_,rfl⟩
   have hqp:p+((src.drop p).length - (c :: m).length)=q:=by omega
   have hdq:src.drop q=c :: m:=by
    rw [hbd,List.drop_drop,← hqp]
   have h1:=xx src hl q (by omega) l (by omega)
   rw [← hq,hqp]
   rw [hdq] at h1
   cases ht:sL q (c :: m) with
   |inr er =>
    rw [ht] at h1
    obtain ⟨hne,x,h1⟩:=h1
    rw [ee (o:=.inr ([],cq.mk er q)) (by
     show dX src q l=_
     unfold dX
     rw [iP (by omega),h1]
     simp only [bSq]
     rw [iP hne])]
   |inl t =>
    rw [ht] at h1
    simp only at h1
    obtain ⟨t1,t2,t3⟩:=uK ht
    have hpos:0<t.text.length:=List.length_pos_iff.2 t2
    have hle:=t3.length_le
    have hdt:src.drop (q+t.text.length)=(c :: m).drop t.text.length:=by rw [← List.drop_drop,hdq]
    rw [iX (s':=(((src.length - (blk false (src.drop (q+t.text.length))).length:Nat):Int),l++[t])) (by
     show dX src q l=_
     unfold dX
     rw [iP (by omega),h1]
     simp only [bSq]
     rw [iN (by simp),sM src hl _ (by omega)]
     rfl),ih (q+t.text.length) (l++[t]) (by omega) (by omega) (by simp;omega),hdt]
    simp only
    cases qK k (q+t.text.length) ((c :: m).drop t.text.length) with
    |inr f=>rfl
    |inl m2=>simp
def vV(src:List UInt8):List ab×cq :=
 if src.length>12000 then ([],cq.mk 7 12000) else match qK (src.length+1) 0 src with
  |.inl m=>(m,cq.mk 0 0)
  |.inr f=>([],f)
theorem wC(src:List UInt8)(hl:src.length≤100000):kf src=some (vV src):=by
 unfold kf vV
 by_cases h:src.length>12000
 ·rw [iP (by omega),iP h]
 rw [iN (by omega),iN h]
 have hb:=sM src hl 0 (by omega) []
 simp only [Int.natCast_zero] at hb
 rw [hb]
 simp only [bSq]
 rw [uM src hl (src.length+1) 0 [] (by omega) (by omega) (by simp)]
 rw [List.drop_zero]
 cases qK (src.length+1) 0 src with
 |inr f=>rfl
 |inl m=>rfl
def wD(l:List (List UInt8))(x:List UInt8):Int:=match sC (T:=Unit) l.length (fun i=>if x=l.getD i default then some (i:Int) else none) () with|.inl _=>-1|.inr z=>z
theorem sO(l:List (List UInt8))(x:List UInt8)(h:l.length≤9000000):cC l x=some (wD l x):=by
 unfold cC
 rw [nF l.length (fun i=>if x=l.getD i default then some (i:Int) else none) () (fun i hi=>by
  unfold cH
  rw [iP (ltI hi),iP (inI hi),tN]
  by_cases e:x=l.getD i default
  ·rw [iP e,iP e]
  ·rw [iN e,iN e,wrs i (by omega)]) (by unfold cH;rw [iN (cP _)])]
 simp only [bSq]
 unfold wD cn
 split<;>rename_i h2<;>rw [h2]<;>rfl
theorem sP(l:List (List UInt8))(x:List UInt8)(h:l.length≤9000000):cI l x=some (decide (wD l x≥0)):=by
 unfold cI;rw [sO l x h];rfl
def isB(l:List (List UInt8)):List ab→Bool
 |t :: _=>decide (¬ t.kind=2) && decide (wD l t.text≥0)
 |[]=>false
theorem yz(l:List (List UInt8))(p:ae)(h:l.length≤9000000):aN l p=some (isB l p.l):=by
 unfold aN
 cases hl:p.l with
 |nil=>rfl
 |cons t r =>
  rw [iP (by simp),iP (by simp),sP _ _ h]
  simp only [List.getD_cons_zero,isB]
  by_cases hk:t.kind=2
  ·rw [iN (fun x=>x hk)];simp [hk]
  ·rw [iP hk];simp [hk]
theorem ue(t:ab)(r:List ab)(a b c:Int):aZ (ae.mk (t :: r) a b c)=some (t,r):=by
 unfold aZ
 rw [iP (by simp),iP (by simp;omega)]
 rfl
theorem sQ{S O:Type}(body:S→Option (S ⊕ O))(s:S):cT body s=(body s).bind (Sum.elim (cT body) some):=by
 rw [rN];cases body s with
 |none=>rfl
 |some x=>cases x<;>rfl
theorem vW(l:List (List UInt8))(a:List ab)(b c d:Int)(h:l.length≤9000000):aN l (ae.mk a b c d)=some (isB l a):=yz l _ h
def qN:List UInt8:=[110,111,100,101,32,109,97,105,110,40,120,58,32,105,110,116,41,32,45,62,32,40,121,58,32,105,110,116,41,32,123,32,121,32,61,32,120,32,45,32,49,32,45,32,50,59,32,125]
def to:List ab:=[ab.mk 1 0 [110,111,100,101] 0,ab.mk 2 5 [109,97,105,110] 0,ab.mk 4 9 [40] 0,ab.mk 2 10 [120] 0,ab.mk 4 11 [58] 0,ab.mk 1 13 [105,110,116] 0,ab.mk 4 16 [41] 0,ab.mk 4 18 [45,62] 0,ab.mk 4 21 [40] 0,ab.mk 2 22 [121] 0,ab.mk 4 23 [58] 0,ab.mk 1 25 [105,110,116] 0,ab.mk 4 28 [41] 0,ab.mk 4 30 [123] 0,ab.mk 2 32 [121] 0,ab.mk 4 34 [61] 0,ab.mk 2 36 [120] 0,ab.mk 4 38 [45] 0,ab.mk 3 40 [49] 1,ab.mk 4 42 [45] 0,ab.mk 3 44 [50] 2,ab.mk 4 45 [59] 0,ab.mk 4 47 [125] 0]
theorem tp:vV qN=(to,cq.mk 0 0):=by decide
set_option maxHeartbeats 8000000
set_option maxRecDepth 100000
theorem tq(m:Nat)(o:Int):eT (m+40) (ae.mk [ab.mk 2 36 [120] 0,ab.mk 4 38 [45] 0,ab.mk 3 40 [49] 1,ab.mk 4 42 [45] 0,ab.mk 3 44 [50] 2,ab.mk 4 45 [59] 0,ab.mk 4 47 [125] 0] 48 0 o) =
  some (.inl (af.mk 5 2 0 [] [] [af.mk 5 2 0 [] [] [af.mk 3 0 0 [120] [] [],af.mk 1 0 1 [] [] []],af.mk 1 0 2 [] [] []],[ab.mk 4 45 [59] 0,ab.mk 4 47 [125] 0],0,5)):=by
 simp (decide:=true) [eT,dC,jz,dV,gr,cY,fW,jh,dB,fV,dt,fw,ii,cA,gN,eR,dk,cd,eP,ue,vW,sO,sQ,lit,isB,IntKind.wrap]
theorem tt(m:Nat):iq (m+40)=some true:=by
 have hs:kf qN=some (to,cq.mk 0 0):=by rw [wC _ (by decide),tp]
 have hp:jP (m+40) qN=some (aH.mk [aS.mk [109,97,105,110] 0 [] [ay.mk [120] (f8.mk 105 [])] [ay.mk [121] (f8.mk 105 [])] [] [TEq.mk 32 [[121]] [] [] [af.mk 5 2 0 [] [] [af.mk 5 2 0 [] [] [af.mk 3 0 0 [120] [] [],af.mk 1 0 1 [] [] []],af.mk 1 0 2 [] [] []]]]],cq.mk 0 0):=by
  unfold jP
  rw [hs]
  simp (decide:=true) [to,qN,jq,gg,gh,im,dH,dG,dD,dE,cZ,fX,fq,fv,gq,gn,fK,iO,aU,fU,ca,i8,ep,eh,eg,tq,cd,eP,ue,vW,sQ,lit,isB,IntKind.wrap,kF,maxLen]
 unfold iq
 rw [show ([110,111,100,101,32,109,97,105,110,40,120,58,32,105,110,116,41,32,45,62,32,40,121,58,32,105,110,116,41,32,123,32,121,32,61,32,120,32,45,32,49,32,45,32,50,59,32,125]:List UInt8)=qN from rfl,hp]
 simp
theorem tu(a:aH):tZ a a:=⟨rfl,fun _ _=>⟨rfl,rfl,rfl,rfl,rfl,rfl,fun _ _=>⟨rfl,rfl,rfl,rfl⟩⟩⟩
theorem nt(a b:aH)(_:a.ok)(_:b.ok)(h:a.sz+b.sz≤1048576):∃ fuel,jt fuel a b=some true:=by
 refine ⟨9000001+40,?_⟩
 have ha:=sH (p:=a) (by omega)
 have hb:=sH (p:=b) (by omega)
 unfold jt
 rw [tt]
 simp only [bSq,if_true]
 obtain ⟨g1,hg1⟩:=rA (9000001+40) a ha (by omega)
 rw [hg1]
 simp only [bSq]
 split
 ·rfl
 ·obtain ⟨g2,hg2⟩:=rA (9000001+40) b hb (by omega)
  rw [hg2]
  simp only [bSq]
  split
  ·rfl
  ·rw [t8 _ _ _ ha.ok (by omega),vO _ _ _ _ ha.ok (by omega),cW (uJ a b)]
   simp only [bSq,if_true]
   rw [wy _ _ ha (by omega)]
   simp only [bSq]
   rw [t8 _ _ _ ha.ok (by omega),gy.2 (tu a)]
   rfl
end Pam
