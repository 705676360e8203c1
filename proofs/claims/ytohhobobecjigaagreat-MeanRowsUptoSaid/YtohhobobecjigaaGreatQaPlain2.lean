/- The document's part of a tree, from behind, is the stack's top; what is asked for is reckoned meanwhile. -/
import Derived.Test.YtohhobobecjigaaGreatQaPlain1
import Derived.Test.YtohhobobecjigaaGreatQaFun1
set_option linter.all false
namespace Pam
open Go
structure cr (s:ab) (V:Int→List Int) (m:List (List Int)):Prop where
 len:m.length=s.vars.length
 at_:∀ v,inV s v→eR m v=[]∨eR m v=V v
 i:∀ v∈s.in_,eR m v=V v
abbrev RcT:=Int→List ap→List Int→List Int→List ae→Nat→Nat→Int→List (List Int)→List (List Int)→Option (List Int×List (List Int))
def yA(s:ab)(V:Int→List Int)(kN vN:Nat)(n:Int)(K:List (List Int))(rc:RcT)(v:Int):Prop :=
 ∀ m,cr s V m→∃ m',rc v s.vars s.in_ s.out_ s.rules kN vN n K m=some (V v,m')∧cr s V m'
theorem BX{s:ab}{V:Int→List Int}{n k:Int}{l:List aL}{fin:List Int}(hlo:∀ p∈l,okI .i64 p.n)(hV:∀ p∈l,(p.op=2∨p.op=3∨p.op=8)→e9 s V p.v)(h:lh s n l []=some fin){i:Nat}{a:Int}{r:List Int}(hi:i≤l.length)(hs:nf V k l i=a :: r) :
  ∃ j rs rs',i=j+1∧j<l.length∧oI V k (l.getD j default) (nf V k l j)=a :: r∧(nf V k l j).length=rs.length∧(∀ y∈nf V k l j,okI .i64 y)∧dL s n (l.getD j default) rs=some rs':=by
 cases i with
 |zero=>rw [xy] at hs;cases hs
 |succ j =>
  obtain ⟨rs,_,h2,_,h4,h5⟩:=wm (k:=k) hlo hV h j (by omega)
  obtain ⟨rs',h6⟩:=h5 (by omega)
  exact ⟨j,rs,rs',rfl,by omega,by rw [← ue V k l j (by omega)];exact hs,h2,h4,h6⟩
section
variable {s:ab} {V:Int→List Int} {n k:Int} {l:List aL} {fin:List Int} {kN vN:Nat} {N:Int} {K:List (List Int)} {rc:RcT}
theorem zC(l:List Int)(a o:Int):my l a o=some (tq l a o):=by
 unfold my tq
 by_cases h1:a≥0
 ·by_cases h2:a<(l.length:Int)
  ·rw [iP h1,iP h2,iP (by omega),iP (by omega)]
  ·rw [iP h1,iN h2,iN (by omega)]
 ·rw [iN h1,iN (by omega)]
theorem Ds(hv:e7 s)(hu:∀ p∈l,pB s p)(hl:l.length≤9000)(hk:0≤k∧k<n)(hn:n≤300)(hlo:∀ p∈l,okI .i64 p.n)(hV:∀ p∈l,(p.op=2∨p.op=3∨p.op=8)→e9 s V p.v)
  (hr:∀ p∈l,(p.op=2∨p.op=3∨p.op=8)→yA s V kN vN N K rc p.v) (h:lh s n l []=some fin) :
  ∀ (i:Nat),i≤l.length→∀ (a:Int) (r:List Int),nf V k l i=a :: r→∃ p,p<i∧nf V k l p=r∧∀ fuel,i≤fuel→∀ m,cr s V m→∃ m',cE rc fuel l ((i:Int) - 1) k s.vars s.in_ s.out_ s.rules kN vN N K m=some (a,(p:Int) - 1,m')∧cr s V m':=by
 intro i
 induction i using Nat.strongRecOn with
 |_ i ih =>
 intro hi a r hs
 obtain ⟨j,rs,rs',rfl,hj,hp,hlen,hso,he⟩:=BX hlo hV h hi hs
 have hidx:((j+1:Nat):Int) - 1=(j:Int):=by omega
 have hwj:IntKind.wrap .i64 ((j:Int) - 1)=(j:Int) - 1:=wr (by omega) (by omega)
 rw [hidx]
 have body:∀ fuel,j+1≤fuel→∃ f,fuel=f+1∧j≤f:=fun fuel hf=>⟨fuel - 1,by omega,by omega⟩
 have ihj:=ih j (by omega) (by omega)
 have hm:l.getD j default∈l:=aI hj
 have hV':=hV _ hm
 have hr':=hr _ hm
 have hu':=hu _ hm
 revert hp ihj
 generalize hst':nf V k l j=st at hso hlen
 intro hp ihj
 unfold dL at he
 unfold oI at hp
 have hvo:∀ v:Int,s.vars.getD v.toNat default=vOf s v:=fun _=>rfl
 simp only [hvo] at he
 have go:∀ (p:Nat),p<j+1→nf V k l p=r→(∀ f,j≤f→∀ m,cr s V m→∃ m',ck rc (cE rc f) l j k s.vars s.in_ s.out_ s.rules kN vN N K m=some (a,(p:Int) - 1,m')∧cr s V m') →
   ∃ p,p<j+1∧nf V k l p=r∧∀ fuel,j+1≤fuel→∀ m,cr s V m→∃ m',cE rc fuel l (j:Int) k s.vars s.in_ s.out_ s.rules kN vN N K m=some (a,(p:Int) - 1,m')∧cr s V m':=by
  intro p h1 h2 h3
  refine ⟨p,h1,h2,fun fuel hf m hm=>?_⟩
  obtain ⟨f,rfl,hf'⟩:=body fuel hf
  exact h3 f hf' m hm
 by_cases o1:(l.getD j default).op=1
 ·rw [iP o1] at hp
  obtain ⟨rfl,rfl⟩:=List.cons.inj hp
  refine go j (by omega) hst' fun f hf m hm=>⟨m,?_,hm⟩
  unfold ck
  rw [iP (inI hj),tN,iP o1,hwj]
 rw [iN o1] at hp he
 by_cases o2:(l.getD j default).op=2
 ·rw [iP o2] at hp
  obtain ⟨rfl,rfl⟩:=List.cons.inj hp
  refine go j (by omega) hst' fun f hf m hm=>?_
  obtain ⟨m',e,hm'⟩:=hr' (.inl o2) m hm
  have:=(hV' (.inl o2)).len
  have:=jN s (l.getD j default).v
  refine ⟨m',?_,hm'⟩
  unfold ck
  rw [iP (inI hj),tN,iN o1,iP o2,e]
  simp only [bSq]
  rw [iP (by omega),hwj]
 rw [iN o2] at hp he
 by_cases o3:(l.getD j default).op=3
 ·rw [iP o3] at hp he
  split at he
  ·rename_i hh
   obtain ⟨rfl,rfl⟩:=List.cons.inj hp
   refine go j (by omega) hst' fun f hf m hm=>?_
   obtain ⟨m',e,hm'⟩:=hr' (.inr (.inl o3)) m hm
   have g:=(hV' (.inr (.inl o3))).len
   have hc:(clN s (l.getD j default).v:Int)=(vOf s (l.getD j default).v).n:=mi (show nV s _>0 from hh.1)
   have go:=aF hv (hu' (.inr (.inl o3)))
   refine ⟨m',?_,hm'⟩
   unfold ck
   rw [iP (inI hj),tN,iN o1,iN o2,iP o3,e]
   simp only [bSq]
   rw [wr (n:=k+(l.getD j default).n) (by omega) (by omega),iP (by omega),hwj]
  ·cases he
 rw [iN o3] at hp he
 by_cases o4:(l.getD j default).op=4
 ·rw [iP o4] at hp
  obtain ⟨rfl,rfl⟩:=List.cons.inj hp
  refine go j (by omega) hst' fun f hf m hm=>⟨m,?_,hm⟩
  unfold ck
  rw [iP (inI hj),tN,iN o1,iN o2,iN o3,iP o4,hwj]
 rw [iN o4] at hp he
 by_cases o5:(l.getD j default).op=5
 ·rw [iP o5] at hp he
  obtain ⟨b,q,rfl⟩:∃ b q,st=b :: q:=by
   cases st with
   |nil =>
    cases rs with
    |nil=>cases he
    |cons x y=>simp at hlen
   |cons b q=>exact ⟨b,q,rfl⟩
  obtain ⟨rfl,rfl⟩:=List.cons.inj hp
  obtain ⟨p1,g1,g2,g3⟩:=ihj b q rfl
  refine go p1 (by omega) g2 fun f hf m hm=>?_
  obtain ⟨m',e,hm'⟩:=g3 f hf m hm
  refine ⟨m',?_,hm'⟩
  unfold ck
  rw [iP (inI hj),tN,iN o1,iN o2,iN o3,iN o4,iP o5,hwj,e]
  simp only [bSq]
  rw [(eP _ b 0 (hso b (by simp)) oq).2.1]
  simp
 rw [iN o5] at hp he
 have two:∀ b d q,st=b :: d :: q→∃ p1 p2,p1<j∧p2<p1∧nf V k l p2=q∧(∀ f,j≤f→∀ m,cr s V m→∃ m',cE rc f l ((j:Int) - 1) k s.vars s.in_ s.out_ s.rules kN vN N K m=some (b,(p1:Int) - 1,m')∧cr s V m') ∧
   (∀ f,p1≤f→∀ m,cr s V m→∃ m',cE rc f l ((p1:Int) - 1) k s.vars s.in_ s.out_ s.rules kN vN N K m=some (d,(p2:Int) - 1,m')∧cr s V m'):=by
  intro b d q hq
  obtain ⟨p1,g1,g2,g3⟩:=ihj b (d :: q) hq
  obtain ⟨p2,k1,k2,k3⟩:=ih p1 (by omega) (by omega) d q g2
  exact ⟨p1,p2,g1,k1,k2,g3,k3⟩
 by_cases o6:(l.getD j default).op=6
 ·rw [iP o6] at hp he
  obtain ⟨b,d,q,rfl⟩:∃ b d q,st=b :: d :: q:=by
   match st,rs,hlen,he with
   |b :: d :: q,_,_,_=>exact ⟨b,d,q,rfl⟩
   |[],[],_,he=>cases he
   |[x],[y],_,he=>cases he
  obtain ⟨rfl,rfl⟩:=List.cons.inj hp
  obtain ⟨p1,p2,g1,g2,g3,g4,g5⟩:=two b d q rfl
  refine go p2 (by omega) g3 fun f hf m hm=>?_
  obtain ⟨m1,e1,hm1⟩:=g4 f hf m hm
  obtain ⟨m2,e2,hm2⟩:=g5 f (by omega) m1 hm1
  refine ⟨m2,?_,hm2⟩
  unfold ck
  rw [iP (inI hj),tN,iN o1,iN o2,iN o3,iN o4,iN o5,hwj,e1]
  simp only [bSq]
  rw [e2]
  simp only [bSq]
  rw [iP o6,(eP _ d b (hso d (by simp)) (hso b (by simp))).2.1]
  simp
 rw [iN o6] at hp he
 by_cases o7:(l.getD j default).op=7
 ·rw [iP o7] at hp he
  obtain ⟨b,d,x,q,rfl⟩:∃ b d x q,st=b :: d :: x :: q:=by
   match st,rs,hlen,he with
   |b :: d :: x :: q,_,_,_=>exact ⟨b,d,x,q,rfl⟩
   |[],[],_,he=>cases he
   |[x],[y],_,he=>cases he
   |[x,z],[y,w],_,he=>cases he
  obtain ⟨rfl,rfl⟩:=List.cons.inj hp
  obtain ⟨p1,p2,g1,g2,g3,g4,g5⟩:=two b d (x :: q) rfl
  obtain ⟨p3,k1,k2,k3⟩:=ih p2 (by omega) (by omega) x q g3
  refine go p3 (by omega) k2 fun f hf m hm=>?_
  obtain ⟨m1,e1,hm1⟩:=g4 f hf m hm
  obtain ⟨m2,e2,hm2⟩:=g5 f (by omega) m1 hm1
  obtain ⟨m3,e3,hm3⟩:=k3 f (by omega) m2 hm2
  refine ⟨m3,?_,hm3⟩
  unfold ck
  rw [iP (inI hj),tN,iN o1,iN o2,iN o3,iN o4,iN o5,hwj,e1]
  simp only [bSq]
  rw [e2]
  simp only [bSq]
  rw [iN o6,iN (by omega),e3]
  simp only [bSq]
  by_cases z:x=0
  ·simp [z]
  ·simp [z]
 rw [iN o7] at hp he
 by_cases o8:(l.getD j default).op=8
 ·rw [iP o8] at he
  obtain ⟨b,d,q,rfl⟩:∃ b d q,st=b :: d :: q:=by
   match st,rs,hlen,he with
   |b :: d :: q,_,_,_=>exact ⟨b,d,q,rfl⟩
   |[],[],_,he=>cases he
   |[x],[y],_,he=>cases he
  obtain ⟨rfl,rfl⟩:=List.cons.inj hp
  obtain ⟨p1,p2,g1,g2,g3,g4,g5⟩:=two b d q rfl
  refine go p2 (by omega) g3 fun f hf m hm=>?_
  obtain ⟨m1,e1,hm1⟩:=g4 f hf m hm
  obtain ⟨m2,e2,hm2⟩:=g5 f (by omega) m1 hm1
  obtain ⟨m3,e3,hm3⟩:=hr' (.inr (.inr o8)) m2 hm2
  refine ⟨m3,?_,hm3⟩
  unfold ck
  rw [iP (inI hj),tN,iN o1,iN o2,iN o3,iN o4,iN o5,hwj,e1]
  simp only [bSq]
  rw [e2]
  simp only [bSq]
  rw [iN o6,iP o8,e3]
  simp only [bSq]
  rw [zC]
  simp
 ·rw [iN o8] at he;cases he
theorem BY(hv:e7 s)(hu:∀ p∈l,pB s p)(hl:l.length≤24)(hk:0≤k∧k<n)(hn:n≤300)(hlo:∀ p∈l,okI .i64 p.n)(hV:∀ p∈l,(p.op=2∨p.op=3∨p.op=8)→e9 s V p.v)
  (hr:∀ p∈l,(p.op=2∨p.op=3∨p.op=8)→yA s V kN vN N K rc p.v) (h:li s n l≠0) {fuel:Nat} (hf:24≤fuel) {m:List (List Int)} (hm:cr s V m) :
  ∃ m',fj fuel rc l k s.vars s.in_ s.out_ s.rules kN vN N K m=some (rB V k l,m')∧cr s V m':=by
 obtain ⟨x,hx⟩:=tu h
 obtain ⟨p,_,_,hp⟩:=Ds hv hu (by omega) hk hn hlo hV hr hx l.length (Nat.le_refl _) (rB V k l) [] (nE (k:=k) hlo hV h).1
 obtain ⟨m',e,hm'⟩:=hp fuel (by omega) m hm
 refine ⟨m',?_,hm'⟩
 unfold fj mz
 rw [wr (by omega) (by omega),e]
 rfl
end
section
variable {s:ab} {V:Int→List Int} {kN vN:Nat} {N:Int} {K:List (List Int)} {rc:RcT} {kp:List Int} {r:ae} {i:Nat}
def EI(N:Int)(kN:Nat)(K:List (List Int))(i:Nat)(kp:List Int):Prop:=0≤N∧(N=0→kp=[])∧(N>0→i<kN∧i<K.length∧K.getD i default=kp∧kp≠[])
theorem zD(hr:∀ v∈bU r,yA s V kN vN N K rc v)(hi:s.rules.getD i default=r)(h3:r.a.length≤3){j:Nat}(hj:j<r.a.length)(h13:r.op=13→j=0){m:List (List Int)}(hm:cr s V m){l:List (List Int)}(hl:l.length≤3) :
  ∃ m',dO rc (i:Int) s.vars s.in_ s.out_ s.rules kN vN N K m l (j:Int)=some (.inl (m',l++[V (bx r j)],((j+1:Nat):Int)))∧cr s V m':=by
 obtain ⟨m',e,hm'⟩:=hr _ (qU hj h13) m hm
 refine ⟨m',?_,hm'⟩
 unfold dO
 simp only [tN,hi]
 rw [iP (inI hj),show r.a.getD j default=bx r j from rfl,e]
 simp only [bSq]
 rw [iP (om (by omega) (by omega)),wrs j (by omega)]
 rfl
theorem zE(hr:∀ v∈bU r,yA s V kN vN N K rc v)(hi:s.rules.getD i default=r)(h3:r.a.length≤3)(ho:r.op≠13):∀ (k j:Nat) (m:List (List Int)),j+k=r.a.length→cr s V m →
  ∃ m',aM (fun (x:List (List Int)×List (List Int)×Int)=>bp rc (i:Int) s.vars s.in_ s.out_ s.rules kN vN N K x.1 x.2.1 x.2.2) (m,dZ j (fun u=>V (bx r u)),(j:Int))=some (m',dZ r.a.length (fun u=>V (bx r u)))∧cr s V m'
 |0,j,m,hj,hm=>by
  obtain rfl:j=r.a.length:=by omega
  refine ⟨m,cP ?_,hm⟩
  show bp rc (i:Int) s.vars s.in_ s.out_ s.rules kN vN N K m _ _=_
  unfold bp
  simp only [tN,hi]
  rw [iN (aW _)]
 |k+1,j,m,hj,hm=>by
  obtain ⟨m',e,hm'⟩:=zD hr hi h3 (j:=j) (by omega) (fun h=>absurd h ho) hm (l:=dZ j (fun u=>V (bx r u))) (by rw [jD];omega)
  have hst:bp rc (i:Int) s.vars s.in_ s.out_ s.rules kN vN N K m (dZ j (fun u=>V (bx r u))) (j:Int)=some (.inl (m',dZ (j+1) (fun u=>V (bx r u)),((j+1:Nat):Int))):=by
   unfold bp
   rw [e]
   simp only [tN,hi]
   rw [iP (by omega),iP ho,xo]
  rw [cH (s:=(m,dZ j (fun u=>V (bx r u)),(j:Int))) hst]
  exact zE hr hi h3 ho k (j+1) m' (by omega) hm'
theorem AF(hr:∀ v∈bU r,yA s V kN vN N K rc v)(hi:s.rules.getD i default=r)(ha:r.a.length=2)(ho:r.op=13){m:List (List Int)}(hm:cr s V m) :
  ∃ m',aM (fun (x:List (List Int)×List (List Int)×Int)=>bp rc (i:Int) s.vars s.in_ s.out_ s.rules kN vN N K x.1 x.2.1 x.2.2) (m,[],((0:Nat):Int))=some (m',[V (bx r 0)])∧cr s V m':=by
 obtain ⟨m',e,hm'⟩:=zD hr hi (by omega) (j:=0) (by omega) (fun _=>rfl) hm (l:=[]) (by simp)
 refine ⟨m',?_,hm'⟩
 have hst:bp rc (i:Int) s.vars s.in_ s.out_ s.rules kN vN N K m [] ((0:Nat):Int)=some (.inl (m',[V (bx r 0)],((0+1:Nat):Int))):=by
  unfold bp
  rw [e]
  simp only [tN,hi]
  rw [iP (by omega),iN (by simpa using ho),iP (by omega)]
  rfl
 rw [cH (s:=(m,([]:List (List Int)),((0:Nat):Int))) hst]
 refine cP ?_
 show bp rc (i:Int) s.vars s.in_ s.out_ s.rules kN vN N K m' [V (bx r 0)] _=_
 unfold bp
 simp only [tN,hi]
 rw [iP (by omega),iN (by simpa using ho),iN (by omega)]
theorem xD{fuel n:Nat}{A:List (List Int)}(g:Nat→Int)(hn:n≤300)
  (hB:∀ j l m,j<n→l.length=j→cr s V m→∃ m',bh fuel rc (i:Int) s.vars s.in_ s.out_ s.rules kN vN N K (n:Int) A m l (j:Int)=some (.inl (m',l++[g j],((j+1:Nat):Int)))∧cr s V m'):∀ (k j:Nat) (m:List (List Int)),j+k=n→cr s V m →
  ∃ m',aM (fun (x:List (List Int)×List Int×Int)=>bh fuel rc (i:Int) s.vars s.in_ s.out_ s.rules kN vN N K (n:Int) A x.1 x.2.1 x.2.2) (m,dZ j g,(j:Int))=some (m',dZ n g)∧cr s V m'
 |0,j,m,hj,hm=>by
  obtain rfl:j=n:=by omega
  refine ⟨m,cP ?_,hm⟩
  show bh fuel rc (i:Int) s.vars s.in_ s.out_ s.rules kN vN N K (j:Int) A m (dZ j g) (j:Int)=_
  unfold bh
  rw [iN (by omega)]
 |k+1,j,m,hj,hm=>by
  obtain ⟨m',e,hm'⟩:=hB j (dZ j g) m (by omega) (jD _ _) hm
  rw [← xo] at e
  rw [cH (s:=(m,dZ j g,(j:Int))) e]
  exact xD g hn hB k (j+1) m' (by omega) hm'
theorem zF{fuel:Nat}{ys:List Int}{k x:Int}{A:List (List Int)}(hx:okI .i64 x)(hys:∀ y∈ys,okI .i64 y)(hn:ys.length≤300)(hi:(s.rules.getD i default).k=k)
  (hB:∀ j l a m,j<ys.length→cr s V m→∃ m',bw fuel rc (i:Int) s.vars s.in_ s.out_ s.rules kN vN N K A (ys.length:Int) m l a (j:Int)=cL (i:Int) s.rules l a (j:Int) m' (ys.getD j default)∧cr s V m'):∀ (q j:Nat) (m:List (List Int)),j+q=ys.length→cr s V m →
  ∃ m',aM (fun (z:List (List Int)×List Int×Int×Int)=>bw fuel rc (i:Int) s.vars s.in_ s.out_ s.rules kN vN N K A (ys.length:Int) z.1 z.2.1 z.2.2.1 z.2.2.2) (m,(fa k x ys).take j,qT k x ys j,(j:Int))=some (m',fa k x ys)∧cr s V m'
 |0,j,m,hj,hm=>by
  obtain rfl:j=ys.length:=by omega
  refine ⟨m,cP ?_,hm⟩
  show bw fuel rc (i:Int) s.vars s.in_ s.out_ s.rules kN vN N K A (ys.length:Int) m _ _ _=_
  unfold bw
  rw [iN (aW _),List.take_of_length_le (by rw [ft];omega)]
 |q+1,j,m,hj,hm=>by
  have hjl:j<ys.length:=by omega
  obtain ⟨m',e,hm'⟩:=hB j ((fa k x ys).take j) (qT k x ys j) m hjl hm
  have hst:bw fuel rc (i:Int) s.vars s.in_ s.out_ s.rules kN vN N K A (ys.length:Int) m ((fa k x ys).take j) (qT k x ys j) (j:Int)=some (.inl (m',(fa k x ys).take (j+1),qT k x ys (j+1),((j+1:Nat):Int))):=by
   rw [e]
   unfold cL
   simp only [tN,hi]
   rw [(eP k _ _ (yt k x ys hx hys j (by omega)) (hys _ (aI hjl))).2.1]
   simp only [bSq]
   rw [iP (dz _ (by rw [List.length_take];omega)),wrs j (by omega),wn k x ys j hjl,ug k x ys j hjl]
   rfl
  rw [cH (s:=(m,(fa k x ys).take j,qT k x ys j,(j:Int))) hst]
  exact zF hx hys hn hi hB q (j+1) m' (by omega) hm'
end
section
variable {s:ab} {V:Int→List Int} {kN vN:Nat} {N:Int} {K:List (List Int)} {rc:RcT} {kp:List Int} {r:ae} {i:Nat}
theorem Dt(l:List Int)(k:Nat):(l.drop k).take (l.length - k)=l.drop k:=by
 rw [List.take_of_length_le]
 rw [List.length_drop]
 omega
theorem rn{fuel:Nat}{ys A:List (List Int)}{l:List Int}{b:Bool}{y1:Int}(h:ot s V kp r)(hi:s.rules.getD i default=r)(hl:l.length≤300)(h0:0<l.length)(hlo:∀ y∈l,okI .i64 y)
  (hA:A.length=r.a.length) (hA0:A.getD 0 default=V (bx r 0)) (ha:0<r.a.length) (ho:r.op≠13)
  (hB:∀ j a x m,j<l.length→cr s V m→∃ m',bw fuel rc (i:Int) s.vars s.in_ s.out_ s.rules kN vN N K A (l.length:Int) m a x (j:Int)=cL (i:Int) s.rules a x (j:Int) m' (l.getD j default)∧cr s V m') {m:List (List Int)} (hm:cr s V m) :
  ∃ m',dN fuel rc (i:Int) s.vars s.in_ s.out_ s.rules kN vN N K m A (l.length:Int)=some (if r.op=6∨r.op=15 then rO (fa r.k ((V (bx r 0)).getD 0 default) l) else fa r.k ((V (bx r 0)).getD 0 default) l,m')∧cr s V m':=by
 have e0:=h.a 0 ha (fun h=>absurd h ho)
 have c0:=jN s (bx r 0)
 have l0:=e0.len
 obtain ⟨m',e,hm'⟩:=zF (ys:=l) (k:=r.k) (x:=(V (bx r 0)).getD 0 default) (A:=A) (cN e0.ok 0) hlo hl (by rw [hi]) hB l.length 0 m (by omega) hm
 refine ⟨m',?_,hm'⟩
 unfold dN
 rw [hA0,iP (by omega)]
 rw [show (fa r.k ((V (bx r 0)).getD 0 default) l).take 0=[] from rfl,show qT r.k ((V (bx r 0)).getD 0 default) l 0=(V (bx r 0)).getD 0 default from rfl] at e
 show (aM (fun (z:List (List Int)×List Int×Int×Int)=>bw fuel rc (i:Int) s.vars s.in_ s.out_ s.rules kN vN N K A (l.length:Int) z.1 z.2.1 z.2.2.1 z.2.2.2) (m,[],(V (bx r 0)).getD 0 default,((0:Nat):Int))).bind _=_
 rw [e]
 simp only [bSq]
 unfold eU
 simp only [tN,hi]
 have hlast:(if (0≤(IntKind.wrap .i64 ((l.length:Int) - 1))∧(IntKind.wrap .i64 ((l.length:Int) - 1))≤((fa r.k ((V (bx r 0)).getD 0 default) l).length:Int)) then (some ((((fa r.k ((V (bx r 0)).getD 0 default) l).drop ((IntKind.wrap .i64 ((l.length:Int) - 1)).toNat)).take ((fa r.k ((V (bx r 0)).getD 0 default) l).length - ((IntKind.wrap .i64 ((l.length:Int) - 1)).toNat))),m')) else none)=some (rO (fa r.k ((V (bx r 0)).getD 0 default) l),m'):=by
  rw [wr (n:=(l.length:Int) - 1) (by omega) (by omega),ft,iP (by omega)]
  unfold rO
  rw [ft,show ((l.length:Int) - 1).toNat=l.length - 1 by omega]
  have:=Dt (fa r.k ((V (bx r 0)).getD 0 default) l) (l.length - 1)
  rw [ft] at this
  rw [this]
 rw [hlast]
 by_cases o6:r.op=6
 ·rw [iP o6,iP (.inl o6)]
 ·by_cases o15:r.op=15
  ·rw [iN o6,iP o15,iP (.inr o15)]
  ·rw [iN o6,iN o15,iN (by omega)]
end
theorem Du{s:ab}{V:Int→List Int}{kN vN:Nat}{N:Int}{K:List (List Int)}{rc:RcT}{kp:List Int}{r:ae}{i:Nat}(h:ot s V kp r)(hi:s.rules.getD i default=r)(hil:i<s.rules.length)(hnr:s.rules.length≤100000)
  (hr:∀ v∈bU r,yA s V kN vN N K rc v) (hK:r.op=13→EI N kN K i kp) {fuel:Nat} (hf:24≤fuel) {m:List (List Int)} (hm:cr s V m) :
  ∃ m',i0 fuel rc (i:Int) s.vars s.in_ s.out_ s.rules kN vN N K m=some (mj s V kp r,m')∧cr s V m':=by
 have hop:=h.op
 have har:=h.ar
 have h3:r.a.length≤3:=by have:=pD r.op;omega
 have hcs:r.op=1∨r.op=2∨r.op=3∨r.op=4∨r.op=5∨r.op=6∨r.op=7∨r.op=8∨r.op=9∨r.op=10∨r.op=11∨r.op=12∨r.op=13∨r.op=14∨r.op=15∨r.op=16:=by omega
 have E:∀ i,i<r.a.length→(r.op=13→i=0)→e9 s V (bx r i):=h.a
 have ho:=h.g.o
 have ho':=ho
 have hn:=ml h.v ho
 have hc1:=jN s r.out_
 unfold inV at ho'
 have cl:∀ v,inV s v→e9 s V v→(V v).length≤300∧0<(V v).length:=fun v hv e=>by
  have:=ml h.v hv
  have:=jN s v
  rw [e.len];omega
 have ain:∀ i,i<r.a.length→inV s (bx r i):=fun i hi=>h.g.a _ (aI hi)
 have T:14≤r.op→∀ {n:Int} {k:Nat},(k:Int)<n→n≤300→li s n r.e≠0→∀ {m},cr s V m→∃ m',fj fuel rc r.e (k:Int) s.vars s.in_ s.out_ s.rules kN vN N K m=some (rB V (k:Int) r.e,m')∧cr s V m':=fun ho n k hk hn ht m hm =>
  BY h.v (h.g.u ho) h.g.e ⟨by omega,hk⟩ hn h.e (h.p ho) (fun p hp hh=>hr _ (qV ho hp hh)) ht hf hm
 unfold i0
 rw [iP (inI hil)]
 simp only [tN,hi]
 rw [iP ho',bC,lF]
 simp only [bSq]
 by_cases o13:r.op=13
 ·have p13:aH 13=2:=by decide
  rw [o13] at har
  obtain ⟨m1,e1,hm1⟩:=AF hr hi (by omega) o13 hm
  show ∃ m',(aM (fun (x:List (List Int)×List (List Int)×Int)=>bp rc (i:Int) s.vars s.in_ s.out_ s.rules kN vN N K x.1 x.2.1 x.2.2) (m,[],((0:Nat):Int))).bind _=_∧_
  rw [e1]
  simp only [bSq]
  refine ⟨m1,?_,hm1⟩
  have e0:=E 0 (by omega) (fun _=>rfl)
  have c0:=cl _ (ain 0 (by omega)) e0
  obtain ⟨k0,k1,k2⟩:=hK o13
  unfold bk
  simp only [tN,hi]
  rw [iP o13]
  simp only [mj,o13,Int.reduceEq,if_true,if_false,reduceIte]
  by_cases z:N>0
  ·obtain ⟨q1,q2,q3,q4⟩:=k2 z
   rw [iP z,iP ⟨by omega,q2⟩,q3,iN q4,iN q4]
  ·rw [iN z,k1 (by omega),iP rfl]
   simp only [List.getD_cons_zero,List.length_cons,List.length_nil]
   rw [iP ⟨by omega,dz _ (by omega)⟩]
 obtain ⟨m1,e1,hm1⟩:=zE hr hi h3 o13 r.a.length 0 m (by omega) hm
 show ∃ m',(aM (fun (x:List (List Int)×List (List Int)×Int)=>bp rc (i:Int) s.vars s.in_ s.out_ s.rules kN vN N K x.1 x.2.1 x.2.2) (m,dZ 0 (fun u=>V (bx r u)),((0:Nat):Int))).bind _=_∧_
 rw [e1]
 simp only [bSq]
 have hAl:(dZ r.a.length (fun u=>V (bx r u))).length=r.a.length:=jD _ _
 have hA:∀ j,j<r.a.length→(dZ r.a.length (fun u=>V (bx r u))).getD j default=V (bx r j):=fun j hj=>qM hj
 revert hAl hA
 generalize dZ r.a.length (fun u=>V (bx r u))=A
 intro hAl hA
 have cells:(¬ r.op=5∧¬ r.op=12∧¬ r.op=9∧¬ r.op=6∧¬ r.op=7∧¬ r.op=15∧¬ r.op=16)→∀ g:Nat→Int,(∀ j l m,j<clN s r.out_→l.length=j→cr s V m→∃ m',bh fuel rc (i:Int) s.vars s.in_ s.out_ s.rules kN vN N K (clN s r.out_:Int) A m l (j:Int)=some (.inl (m',l++[g j],((j+1:Nat):Int)))∧cr s V m') →
   ∃ m',bk fuel rc (i:Int) s.vars s.in_ s.out_ s.rules kN vN N K (clN s r.out_:Int) m1 A=some (dZ (clN s r.out_) g,m')∧cr s V m':=by
  intro ⟨a1,a2,a3,a4,a5,a6,a7⟩ g hB
  obtain ⟨m',e,hm'⟩:=xD g hn hB (clN s r.out_) 0 m1 (by omega) hm1
  refine ⟨m',?_,hm'⟩
  unfold bk
  simp only [tN,hi]
  rw [iN o13,iN a1,iN a2,iN a3,iN a4,iN a5,iN a6,nB a7]
  unfold bP
  rw [iN (by decide)]
  unfold gc
  show (aM (fun (x:List (List Int)×List Int×Int)=>bh fuel rc (i:Int) s.vars s.in_ s.out_ s.rules kN vN N K (clN s r.out_:Int) A x.1 x.2.1 x.2.2) (m1,dZ 0 g,((0:Nat):Int))).bind _=_
  rw [e]
  rfl
 rcases hcs with o|o|o|o|o|o|o|o|o|o|o|o|o|o|o|o<;>(rw [o] at har;simp only [mj,o,Int.reduceEq,if_true,if_false,reduceIte])
 ·have q:=tt (h.sh.h1 o)
  have r1:[r.n]=dZ (clN s r.out_) (fun _=>r.n):=by rw [q];rfl
  rw [r1]
  refine cells (by omega) _ fun j l m hj hl hm=>⟨m,?_,hm⟩
  unfold bh
  simp only [tN,hi]
  rw [iP (by omega),iP o,iP (dz _ (by omega)),wrs j (by omega)]
  rfl
 ·have hp:aH 2=1:=by decide
  have e0:=E 0 (by omega) (fun h=>by omega)
  have l0:(V (bx r 0)).length=clN s r.out_:=by rw [e0.len];exact km (h.sh.h2 o)
  have r1:V (bx r 0)=dZ (clN s r.out_) (fun j=>(V (bx r 0)).getD j default):=by rw [← l0];exact yk _
  rw [r1]
  refine cells (by omega) _ fun j l m hj hl hm=>⟨m,?_,hm⟩
  unfold bh
  simp only [tN,hi]
  rw [hA 0 (by omega),iP (by omega),iN (by omega),iP o,iP ⟨by omega,by omega⟩,iP (dz _ (by omega)),wrs j (by omega)]
  rfl
 ·have hp:aH 3=1:=by decide
  have e0:=E 0 (by omega) (fun h=>by omega)
  have l0:(V (bx r 0)).length=clN s r.out_:=by rw [e0.len];exact km (h.sh.h3 o)
  refine cells (by omega) _ fun j l m hj hl hm=>⟨m,?_,hm⟩
  unfold bh
  simp only [tN,hi]
  rw [hA 0 (by omega),iP (by omega),iN (by omega),iN (by omega),iP o,iP ⟨by omega,by omega⟩,(eP r.k _ 0 (cN e0.ok j) oq).2.1]
  simp only [bSq]
  rw [iP (dz _ (by omega)),wrs j (by omega)]
  rfl
 ·have hp:aH 4=2:=by decide
  have e0:=E 0 (by omega) (fun h=>by omega)
  have e1:=E 1 (by omega) (fun h=>by omega)
  obtain ⟨q0,q1⟩:=h.sh.h4 o
  have l0:(V (bx r 0)).length=clN s r.out_:=by rw [e0.len];exact km q0
  have l1:(V (bx r 1)).length=clN s r.out_:=by rw [e1.len];exact km q1
  refine cells (by omega) _ fun j l m hj hl hm=>⟨m,?_,hm⟩
  unfold bh
  simp only [tN,hi]
  rw [hA 0 (by omega),hA 1 (by omega),iP (by omega),iN (by omega),iN (by omega),iN (by omega),iP o,iP ⟨by omega,by omega,by omega,by omega⟩,(eP r.k _ _ (cN e0.ok j) (cN e1.ok j)).2.1]
  simp only [bSq]
  rw [iP (dz _ (by omega)),wrs j (by omega)]
  rfl
 ·have hp:aH 5=3:=by decide
  have c0:=cl _ (ain 0 (by omega)) (E 0 (by omega) (fun h=>by omega))
  have c1:=cl _ (ain 1 (by omega)) (E 1 (by omega) (fun h=>by omega))
  have c2:=cl _ (ain 2 (by omega)) (E 2 (by omega) (fun h=>by omega))
  refine ⟨m1,?_,hm1⟩
  unfold bk
  simp only [tN,hi]
  rw [hA 0 (by omega),hA 1 (by omega),hA 2 (by omega),iN o13,iP o,iP ⟨by omega,by omega⟩]
  by_cases z:(V (bx r 0)).getD 0 default=0
  ·rw [iP z,iP ⟨by omega,dz _ (by omega)⟩,iP z]
  ·rw [iN z,iP ⟨by omega,dz _ (by omega)⟩,iN z]
 ·have hp:aH 6=2:=by decide
  have e1:=E 1 (by omega) (fun h=>by omega)
  have c1:=cl _ (ain 1 (by omega)) e1
  obtain ⟨m',e,hm'⟩:=rn (fuel:=fuel) (kN:=kN) (vN:=vN) (N:=N) (K:=K) (rc:=rc) (l:=V (bx r 1)) (A:=A) (ys:=[]) (b:=true) (y1:=0) h hi c1.1 c1.2 e1.ok hAl (hA 0 (by omega)) (by omega) o13 (fun j a x m hj hm=>⟨m,by
   unfold bw
   simp only [tN,hi]
   rw [hA 1 (by omega),iP (by omega),iP o,iP ⟨by omega,by omega⟩],hm⟩) hm1
  refine ⟨m',?_,hm'⟩
  unfold bk
  simp only [tN,hi]
  rw [iN o13,iN (by omega),iN (by omega),iN (by omega),iP o,eQ o]
  unfold bP
  simp only [tN,hi]
  rw [iP trivial,iP o,hA 1 (by omega),iP (by omega)]
  unfold cM
  simp only [tN,hi]
  rw [iN (by omega),e,iP (.inl o)]
 ·have hp:aH 7=2:=by decide
  have e1:=E 1 (by omega) (fun h=>by omega)
  have c1:=cl _ (ain 1 (by omega)) e1
  have l1:(V (bx r 1)).length=clN s r.out_:=by rw [e1.len];exact km (h.sh.h7 o).2.1
  obtain ⟨m',e,hm'⟩:=rn (fuel:=fuel) (kN:=kN) (vN:=vN) (N:=N) (K:=K) (rc:=rc) (l:=V (bx r 1)) (A:=A) (ys:=[]) (b:=true) (y1:=0) h hi c1.1 c1.2 e1.ok hAl (hA 0 (by omega)) (by omega) o13 (fun j a x m hj hm=>⟨m,by
   unfold bw
   simp only [tN,hi]
   rw [hA 1 (by omega),iP (by omega),iN (by omega),iP o,iP ⟨by omega,by omega⟩],hm⟩) hm1
  refine ⟨m',?_,hm'⟩
  unfold bk
  simp only [tN,hi]
  rw [iN o13,iN (by omega),iN (by omega),iN (by omega),iN (by omega),iP o,eQ o]
  unfold bP
  simp only [tN,hi]
  rw [iP trivial,iN (by omega)]
  unfold cM
  simp only [tN,hi]
  rw [l1] at e
  rw [iN (by omega),e,iN (by omega)]
 ·have hp:aH 8=1:=by decide
  have c0:=cl _ (ain 0 (by omega)) (E 0 (by omega) (fun h=>by omega))
  refine cells (by omega) _ fun j l m hj hl hm=>⟨m,?_,hm⟩
  unfold bh
  simp only [tN,hi]
  rw [hA 0 (by omega),iP (by omega),iN (by omega),iN (by omega),iN (by omega),iN (by omega),iP o,iP ⟨by omega,by omega⟩,iP (dz _ (by omega)),wrs j (by omega)]
  rfl
 ·have hp:aH 9=3:=by decide
  have c1:=cl _ (ain 1 (by omega)) (E 1 (by omega) (fun h=>by omega))
  have c2:=cl _ (ain 2 (by omega)) (E 2 (by omega) (fun h=>by omega))
  refine ⟨m1,?_,hm1⟩
  unfold bk
  simp only [tN,hi]
  rw [hA 0 (by omega),hA 1 (by omega),hA 2 (by omega),iN o13,iN (by omega),iN (by omega),iP o,iP ⟨by omega,by omega,by omega,by omega,by omega⟩,zC]
  rfl
 ·have hp:aH 10=3:=by decide
  have e0:=E 0 (by omega) (fun h=>by omega)
  have l0:(V (bx r 0)).length=clN s r.out_:=by rw [e0.len];exact km (h.sh.h10 o).1
  have c1:=cl _ (ain 1 (by omega)) (E 1 (by omega) (fun h=>by omega))
  have c2:=cl _ (ain 2 (by omega)) (E 2 (by omega) (fun h=>by omega))
  refine cells (by omega) _ fun j l m hj hl hm=>⟨m,?_,hm⟩
  unfold bh
  simp only [tN,hi]
  rw [hA 0 (by omega),hA 1 (by omega),hA 2 (by omega),iP (by omega),iN (by omega),iN (by omega),iN (by omega),iN (by omega),iN (by omega),iP o,iP ⟨by omega,by omega⟩,iP ⟨by omega,by omega⟩,wrs j (by omega)]
  by_cases z:(j:Int)=(V (bx r 1)).getD 0 default
  ·rw [iP z.symm,iP ⟨by omega,by omega⟩,iP (dz _ (by omega)),iP z];rfl
  ·rw [iN (fun e=>z e.symm),iP (dz _ (by omega)),iN z];rfl
 ·have hp:aH 11=1:=by decide
  have e0:=E 0 (by omega) (fun h=>by omega)
  obtain ⟨q1,q2,q3,q4⟩:=h.sh.h11 o
  have l0:=e0.len
  have a0:=mi q1
  have a1:=mi q2
  have g0':nV s (bx r 0)≤300:=(aF h.v (ain 0 (by omega))).2.2
  refine cells (by omega) _ fun j l m hj hl hm=>⟨m,?_,hm⟩
  unfold bh
  simp only [tN,hi]
  rw [hA 0 (by omega),iP (by omega),iN (by omega),iN (by omega),iN (by omega),iN (by omega),iN (by omega),iN (by omega),iP o,wr (n:=(j:Int)+r.n) (by omega) (by omega),iP ⟨by omega,by omega⟩,iP (dz _ (by omega)),wrs j (by omega)]
  rfl
 ·have hp:aH 12=2:=by decide
  have c0:=cl _ (ain 0 (by omega)) (E 0 (by omega) (fun h=>by omega))
  have c1:=cl _ (ain 1 (by omega)) (E 1 (by omega) (fun h=>by omega))
  refine ⟨m1,?_,hm1⟩
  unfold bk
  simp only [tN,hi]
  rw [hA 0 (by omega),hA 1 (by omega),iN o13,iN (by omega),iP o,iP ⟨by omega,dz _ (by omega),by omega,dz _ (by omega)⟩]
 ·exact absurd o o13
 ·have q:=h.sh.h14 o
  have hcc:(clN s r.out_:Int)=d9 (nV s r.out_):=(lF s r.out_).symm
  refine cells (by omega) (fun j=>rB V (j:Int) r.e) fun j l m hj hl hm=>?_
  obtain ⟨m',e,hm'⟩:=T (by omega) (n:=d9 (nV s r.out_)) (k:=j) (by omega) (by omega) q hm
  refine ⟨m',?_,hm'⟩
  unfold bh
  simp only [tN,hi]
  rw [iP (by omega),iN (by omega),iN (by omega),iN (by omega),iN (by omega),iN (by omega),iN (by omega),iN (by omega),iP o,e]
  simp only [bSq]
  rw [iP (dz _ (by omega)),wrs j (by omega)]
  rfl
 ·have hp:aH 15=1:=by decide
  obtain ⟨_,q1,q2,q3,q4⟩:=h.sh.h15 o
  have hlen:(jK V r.n.toNat r.e).length=r.n.toNat:=iH _ _ _
  have hcast:((jK V r.n.toNat r.e).length:Int)=r.n:=by omega
  obtain ⟨m',e,hm'⟩:=rn (fuel:=fuel) (kN:=kN) (vN:=vN) (N:=N) (K:=K) (rc:=rc) (l:=jK V r.n.toNat r.e) (A:=A) (ys:=[]) (b:=true) (y1:=0) h hi (by omega) (by omega) (lm fun i _=>(nE h.e (h.p (by omega)) q4).2) hAl (hA 0 (by omega)) (by omega) o13 (fun j a x m hj hm=>by
   rw [hlen] at hj
   obtain ⟨m',e,hm'⟩:=T (by omega) (n:=r.n) (k:=j) (by omega) (by omega) q4 hm
   refine ⟨m',?_,hm'⟩
   unfold bw
   simp only [tN,hi]
   rw [iP (by omega),iN (by omega),iN (by omega),e]
   simp only [bSq]
   rw [show (jK V r.n.toNat r.e).getD j default=rB V (j:Int) r.e from qM hj]) hm1
  refine ⟨m',?_,hm'⟩
  unfold bk
  simp only [tN,hi]
  rw [iN o13,iN (by omega),iN (by omega),iN (by omega),iN (by omega),iN (by omega),iP o,eQ o]
  unfold bP
  simp only [tN,hi]
  rw [iP trivial,iN (by omega)]
  unfold cM
  simp only [tN,hi]
  rw [hcast] at e
  rw [iP o,e,iP (.inr o)]
 ·have hp:aH 16=1:=by decide
  obtain ⟨_,q1,q2⟩:=h.sh.h16 o
  have a1:=mi q1
  have g0':nV s r.out_≤300:=(aF h.v ho).2.2
  have hlen:(jK V (clN s r.out_) r.e).length=clN s r.out_:=iH _ _ _
  obtain ⟨m',e,hm'⟩:=rn (fuel:=fuel) (kN:=kN) (vN:=vN) (N:=N) (K:=K) (rc:=rc) (l:=jK V (clN s r.out_) r.e) (A:=A) (ys:=[]) (b:=true) (y1:=0) h hi (by omega) (by omega) (lm fun i _=>(nE h.e (h.p (by omega)) q2).2) hAl (hA 0 (by omega)) (by omega) o13 (fun j a x m hj hm=>by
   rw [hlen] at hj
   obtain ⟨m',e,hm'⟩:=T (by omega) (n:=nV s r.out_) (k:=j) (by omega) (by omega) q2 hm
   refine ⟨m',?_,hm'⟩
   unfold bw
   simp only [tN,hi]
   rw [iP (by omega),iN (by omega),iN (by omega),e]
   simp only [bSq]
   rw [show (jK V (clN s r.out_) r.e).getD j default=rB V (j:Int) r.e from qM hj]) hm1
  refine ⟨m',?_,hm'⟩
  unfold bk
  simp only [tN,hi]
  rw [iN o13,iN (by omega),iN (by omega),iN (by omega),iN (by omega),iN (by omega),iN (by omega),eQ o]
  unfold bP
  simp only [tN,hi]
  rw [iP trivial,iN (by omega)]
  unfold cM
  simp only [tN,hi]
  rw [hlen] at e
  rw [iN (by omega),e,iN (by omega)]
theorem cr.set{s:ab}{V:Int→List Int}{m:List (List Int)}(g:∀ v∈s.in_,inV s v)(h:cr s V m){v:Int}(hv:inV s v):cr s V (m.set v.toNat (V v))∧eR (m.set v.toNat (V v)) v=V v:=by
 have hl:=h.len
 have hv':=hv
 unfold inV at hv'
 have at_v:eR (m.set v.toNat (V v)) v=V v:=by
  unfold eR
  rw [List.getD_eq_getElem?_getD,List.getElem?_set_self (by omega)]
  rfl
 have at_w:∀ w,inV s w→w≠v→eR (m.set v.toNat (V v)) w=eR m w:=by
  intro w hw e
  unfold inV at hw
  unfold eR
  rw [List.getD_eq_getElem?_getD,List.getElem?_set_ne (by omega),← List.getD_eq_getElem?_getD]
 refine ⟨⟨by rw [List.length_set];exact hl,fun w hw=>?_,fun w hw=>?_⟩,at_v⟩
 ·by_cases e:w=v
  ·subst e;exact .inr at_v
  ·rw [at_w w hw e];exact h.at_ w hw
 ·by_cases e:w=v
  ·subst e;exact at_v
  ·rw [at_w w (g w hw) e];exact h.i w hw
def zG(s:ab)(P:Int→List Int)(N:Int)(K:List (List Int)):Prop :=
 K.length=s.rules.length∧0≤N∧∀ i,i<s.rules.length→(rl s i).op=13→EI N K.length K i (mm P (rl s i))
section
variable {s A:ab} {P W V:Int→List Int} {N:Int} {K:List (List Int)}
theorem zH{fuel n vN kN:Nat}(hvN:vN=s.vars.length){v:Int}(hv:inV s v){m:List (List Int)}(hm:cr s V m)(hk:eR m v=V v)(hne:V v≠[]) :
  cj fuel (n+1) v s.vars s.in_ s.out_ s.rules kN vN N K m=some (V v,m):=by
 have hl:=hm.len
 unfold inV at hv
 have hk':m.getD v.toNat default=V v:=hk
 show fm fuel _ v s.vars s.in_ s.out_ s.rules kN vN N K m=_
 unfold fm
 rw [iP ⟨by omega,by omega⟩,hk',iN hne,iN hne]
theorem yB{fuel:Nat}{rcf:RcT}{kN vN:Nat}{v:Int}{m:List (List Int)}(hn:s.rules.length≤400):∀ (k i:Nat),i+k≤s.rules.length→(∀ j,i≤j→j<i+k→(rl s j).out_≠v) →
  aM (fun (x:List (List Int)×Int)=>cg fuel rcf v s.vars s.in_ s.out_ s.rules kN vN N K x.1 x.2) (m,(i:Int))=aM (fun (x:List (List Int)×Int)=>cg fuel rcf v s.vars s.in_ s.out_ s.rules kN vN N K x.1 x.2) (m,((i+k:Nat):Int))
 |0,i,_,_=>rfl
 |k+1,i,hi,h=>by
  have hil:i<s.rules.length:=by omega
  have hst:cg fuel rcf v s.vars s.in_ s.out_ s.rules kN vN N K m (i:Int)=some (.inl (m,((i+1:Nat):Int))):=by
   unfold cg
   simp only [tN]
   rw [iP (ltI hil),iP (inI hil),iN (show ¬ (s.rules.getD i default).out_=v from h i (by omega) (by omega)),wrs i (by omega)]
  rw [cH (s:=(m,(i:Int))) hst,yB hn k (i+1) (by omega) (fun j h1 h2=>h j (by omega) (by omega)),show i+1+k=i+(k+1) by omega]
theorem Fw(gs:gg s)(hs:s.ok)(gA:gg A)(hA:A.ok)(sA:kB A)(hsub:yy s A)(F:Eu s P W V)(hP:ng s P)(E:∀ v∈bI A A.rules.length,e9 s V v)(hK:zG s P N K){fuel:Nat}(hf:24≤fuel) :
  ∀ (p:Nat),p≤A.rules.length→∀ n,p+1≤n→∀ v∈bI A p,yA s V K.length s.vars.length N K (cj fuel n) v:=by
 have hnr:=gs.h.nr
 intro p
 induction p with
 |zero =>
  intro _ n hn v hv m hm
  obtain ⟨n,rfl⟩:∃ k,n=k+1:=⟨n - 1,by omega⟩
  have hi:v∈s.in_:=by rw [hsub.i];simpa [bI] using hv
  have hin:inV s v:=gs.h.i _ hi
  have e:=E v (by unfold bI;rw [List.mem_append];left;rw [← hsub.i];exact hi)
  have hne:V v≠[]:=fun h=>by
   have:=e.len;rw [h] at this;have:=jN s v;simp at *;omega
  exact ⟨m,zH rfl hin hm (hm.i v hi) hne,hm⟩
 |succ p ih =>
  intro hp n hn v hv m hm
  have hpl:p<A.rules.length:=by omega
  rw [qa A hpl,List.mem_append,List.mem_singleton] at hv
  rcases hv with hv|hv
  ·exact ih (by omega) n (by omega) v hv m hm
  obtain ⟨n,rfl⟩:∃ k,n=k+1:=⟨n - 1,by omega⟩
  obtain ⟨q,hq,eq⟩:=hsub.r p hpl
  have hv':v=(rl s q).out_:=by rw [eq];exact hv
  have hmade:v∈bI A A.rules.length:=by
   rw [mh A _ (Nat.le_refl _)]
   exact .inr ⟨p,hpl,hv.symm⟩
  have e:=E v hmade
  have hne:V v≠[]:=fun h=>by
   have:=e.len;rw [h] at this;have:=jN s v;simp at *;omega
  have Kq:=qf gs hs hq
  have hin:inV s v:=by rw [hv'];exact Kq.g.o
  rcases hm.at_ v hin with h0|h0
  ·
   have hneed:∀ u∈bU (rl s q),u∈bI A p:=fun u hu=>sA p hpl u (by rw [eq] at hu;exact hu)
   have hE:∀ u∈bU (rl s q),e9 s V u:=fun u hu=>E u (by
    have:=hneed u hu
    rw [mh A _ (by omega)] at this ⊢
    rcases this with h|⟨k,hk,h⟩
    ·exact .inl h
    ·exact .inr ⟨k,by omega,h⟩)
   have R:=Kq.ok hE (yw gs hs hP hq)
   obtain ⟨m',e1,hm'⟩:=Du (rc:=cj fuel n) (N:=N) (K:=K) (kN:=K.length) (vN:=s.vars.length) R rfl hq (by omega) (fun u hu=>ih (by omega) n (by omega) u (hneed u hu)) (fun o=>hK.2.2 q hq o) hf hm
   have hfit:=F.r q hq
   rw [← hv'] at hfit
   rw [← hfit] at e1
   obtain ⟨hm2,hat⟩:=hm'.set gs.h.i hin
   have hl:=hm.len
   have hl2:=hm'.len
   have hin':=hin
   unfold inV at hin'
   have other:∀ j,j<s.rules.length→j≠q→(rl s j).out_≠v:=fun j hj hne h=>hne (zm gs hq hj (h.trans hv'))
   have hst:cg fuel (cj fuel n) v s.vars s.in_ s.out_ s.rules K.length s.vars.length N K m (q:Int)=some (.inl (m'.set v.toNat (V v),((q+1:Nat):Int))):=by
    unfold cg
    simp only [tN]
    rw [iP (ltI hq),iP (inI hq),iP (show (s.rules.getD q default).out_=v from hv'.symm),e1]
    simp only [bSq]
    rw [iP ⟨by omega,hne⟩,wrs q (by omega)]
   have s1:=yB (s:=s) (N:=N) (K:=K) (fuel:=fuel) (rcf:=cj fuel n) (kN:=K.length) (vN:=s.vars.length) (v:=v) (m:=m) hnr q 0 (by omega) (fun j h1 h2=>other j (by omega) (by omega))
   have s2:=yB (s:=s) (N:=N) (K:=K) (fuel:=fuel) (rcf:=cj fuel n) (kN:=K.length) (vN:=s.vars.length) (v:=v) (m:=m'.set v.toNat (V v)) hnr (s.rules.length - (q+1)) (q+1) (by omega) (fun j h1 h2=>other j (by omega) (by omega))
   rw [show q+1+(s.rules.length - (q+1))=s.rules.length by omega] at s2
   rw [show 0+q=q by omega] at s1
   have hend:aM (fun (x:List (List Int)×Int)=>cg fuel (cj fuel n) v s.vars s.in_ s.out_ s.rules K.length s.vars.length N K x.1 x.2) (m,((0:Nat):Int))=some (m'.set v.toNat (V v)):=by
    rw [s1,cH (s:=(m,(q:Int))) hst,s2]
    refine cP ?_
    show cg fuel (cj fuel n) v s.vars s.in_ s.out_ s.rules K.length s.vars.length N K _ _=_
    unfold cg
    rw [iN (aW _)]
   refine ⟨m'.set v.toNat (V v),?_,hm2⟩
   show fm fuel _ v s.vars s.in_ s.out_ s.rules K.length s.vars.length N K m=_
   unfold fm
   have h0':m.getD v.toNat default=[]:=h0
   rw [iP ⟨by omega,by omega⟩,iP h0']
   show (aM (fun (x:List (List Int)×Int)=>cg fuel (cj fuel n) v s.vars s.in_ s.out_ s.rules K.length s.vars.length N K x.1 x.2) (m,((0:Nat):Int))).bind _=_
   rw [hend]
   simp only [bSq]
   unfold fR
   have hat':(m'.set v.toNat (V v)).getD v.toNat default=V v:=hat
   rw [iP (by rw [List.length_set];omega),hat',iN hne]
  ·exact ⟨m,zH rfl hin hm h0 hne,hm⟩
end
theorem uI{s:ab}(hv:e7 s){l:List Int}(hl:∀ x∈l,inV s x)(hb:l.length≤1000):lB s l=some (qq s l l.length:Int):=by
 have k:=e8 (S:=Int×Int) (fun i=>((qq s l i:Int),(i:Int))) (body:=fun x=>eO s l x.1 x.2) l.length (qq s l l.length:Int) (fun i hi=>by
  show eO s l _ (i:Int)=_
  have g:=hl _ (aI hi)
  have m:=m6 hv hl i (by omega)
  have c:=ml hv g
  unfold inV at g
  unfold eO
  rw [iP (ltI hi)]
  simp only [tN]
  rw [iP ⟨inI hi,g⟩,bC,lF]
  simp only [bSq]
  rw [wr (by omega) (by omega),wrs i (by omega),jI s l hi]
  rfl) (by
  show eO s l _ (l.length:Int)=_
  unfold eO
  rw [iN (aW _)])
 unfold lB
 show (aM (fun (x:Int×Int)=>eO s l x.1 x.2) (((qq s l 0:Nat):Int),((0:Nat):Int))).bind _=_
 rw [k]
 rfl
theorem AG{s:ab}(g:nq s){inn:List Int}(hl:inn.length=ofI s s.in_.length){i:Nat}(hi:i<s.in_.length) :
  aM (fun (x:Int×Int)=>dB s inn (i:Int) x.1 x.2) ((ofI s i:Int),0)=some (match dG (clN s (ivI s i)) (rC s inn i) () with|.inl _=>.inl ((ofI s i+clN s (ivI s i):Nat):Int)|.inr z=>.inr z):=by
 have h1:ofI s (i+1)=ofI s i+clN s (ivI s i):=jI s s.in_ hi
 have h2:ofI s (i+1)≤ofI s s.in_.length:=rm s s.in_ (by omega) (Nat.le_refl _)
 have hb:=m6 g.v g.i s.in_.length (Nat.le_refl _)
 have hni:=g.ni
 have hb':ofI s s.in_.length≤120000:=by unfold ofI;omega
 have hc:=ml g.v (g.i _ (aI hi))
 have k:=u4 (S:=Int×Int) (fun j=>(((ofI s i+j:Nat):Int),(j:Int))) (body:=fun x=>dB s inn (i:Int) x.1 x.2) (clN s (ivI s i)) (rC s inn i) (((ofI s i+clN s (ivI s i):Nat):Int)) (fun j hj=>by
  show dB s inn (i:Int) ((ofI s i+j:Nat):Int) (j:Int)=_
  unfold dB
  simp only [tN]
  rw [bC,lF]
  simp only [bSq]
  rw [show clN s (s.in_.getD i default)=clN s (ivI s i) from rfl,iP (by omega),wrs (ofI s i+j) (by omega),wrs j (by omega),iP (show 0≤((ofI s i+j:Nat):Int)∧((ofI s i+j:Nat):Int)<(inn.length:Int) by omega)]
  unfold rC
  show (if (vOf s (ivI s i)).elem=98 then _ else _)=_
  by_cases c1:(vOf s (ivI s i)).elem=98
  ·rw [iP c1]
   by_cases c2:inn.getD (ofI s i+j) default=0
   ·rw [iN (by simpa using c2),iN (fun h=>h.2.1 c2)];rfl
   ·rw [iP c2]
    by_cases c3:inn.getD (ofI s i+j) default=1
    ·rw [iN (by simpa using c3),iN (fun h=>h.2.2 c3)];rfl
    ·rw [iP c3,iP ⟨c1,c2,c3⟩,zg];rfl
  ·rw [iN c1,iN (fun h=>c1 h.1)];rfl) (by
  show dB s inn (i:Int) ((ofI s i+clN s (ivI s i):Nat):Int) (clN s (ivI s i):Int)=_
  unfold dB
  simp only [tN]
  rw [bC,lF]
  simp only [bSq]
  rw [show clN s (s.in_.getD i default)=clN s (ivI s i) from rfl,iN (by omega)])
 have k':aM (fun (x:Int×Int)=>dB s inn (i:Int) x.1 x.2) ((ofI s i:Int),0)=_:=k
 rw [k']
 rcases zx (clN s (ivI s i)) (rC s inn i) (fun _ z=>z) (((ofI s i+clN s (ivI s i):Nat):Int)) () with ⟨j,z,_,_,e1,e2⟩|⟨e1,e2⟩
 all_goals
  rw [show (fun j=>Option.map (fun z=>z) (rC s inn i j))=rC s inn i from funext fun j=>by cases rC s inn i j<;>rfl] at e1
  rw [e1,e2]
theorem ww{s:ab}(g:nq s)(inn:List Int):ma s inn=some (kG s inn):=by
 have hni:=g.ni
 unfold ma
 rw [uI g.v g.i (by omega)]
 simp only [bSq]
 by_cases hl:inn.length=ofI s s.in_.length
 ·rw [iN (by unfold ofI at hl;omega)]
  have hb:=m6 g.v g.i s.in_.length (Nat.le_refl _)
  have hb':ofI s s.in_.length≤120000:=by unfold ofI;omega
  have k:=u4 (S:=Int×Int) (fun i=>((ofI s i:Int),(i:Int))) (body:=fun x=>d5 s inn x.1 x.2) s.in_.length (uk s inn) () (fun i hi=>by
   show d5 s inn (ofI s i:Int) (i:Int)=_
   have gi:=g.i _ (aI hi)
   have h1:ofI s (i+1)=ofI s i+clN s (ivI s i):=jI s s.in_ hi
   unfold inV at gi
   unfold d5
   rw [iP (ltI hi)]
   simp only [tN]
   rw [iP ⟨inI hi,gi⟩,AG g hl hi]
   unfold uk
   cases hu:dG (clN s (ivI s i)) (rC s inn i) () with
   |inr z=>rfl
   |inl u =>
    simp only [bSq,Sum.elim_inl]
    unfold gX
    rw [wrs i (by omega),h1]) (by
   show d5 s inn _ (s.in_.length:Int)=_
   unfold d5
   rw [iN (aW _)])
  show (aM (fun (x:Int×Int)=>d5 s inn x.1 x.2) (((ofI s 0:Nat):Int),((0:Nat):Int))).bind _=_
  rw [k]
  unfold kG
  rw [iN (not_not_intro hl)]<;>(cases dG s.in_.length (uk s inn) ()<;>rfl)
 ·rw [iP (by unfold ofI at hl;omega),zg]
  unfold kG
  rw [iP hl]
  rfl
section
variable {s A:ab} {P:Int→List Int} {N:Int} {K C:List (List Int)}
theorem AH(g:nq s){inn:List Int}(hl:inn.length=ofI s s.in_.length) :
  aM (fun (x:List (List Int)×Int×Int)=>cG inn s.vars s.in_ x.1 x.2.1 x.2.2) (List.replicate s.vars.length [],0,0)=some (inL s inn s.in_.length):=by
 have hni:=g.ni
 have hb:=m6 g.v g.i s.in_.length (Nat.le_refl _)
 have hb':ofI s s.in_.length≤120000:=by unfold ofI;omega
 have k:=e8 (S:=List (List Int)×Int×Int) (fun i=>(inL s inn i,(ofI s i:Int),(i:Int))) (body:=fun x=>cG inn s.vars s.in_ x.1 x.2.1 x.2.2) s.in_.length (inL s inn s.in_.length) (fun i hi=>by
  show cG inn s.vars s.in_ (inL s inn i) (ofI s i:Int) (i:Int)=_
  have gi:=g.i _ (aI hi)
  have gi':=gi
  have h1:ofI s (i+1)=ofI s i+clN s (ivI s i):=jI s s.in_ hi
  have h2:ofI s (i+1)≤ofI s s.in_.length:=rm s s.in_ (by omega) (Nat.le_refl _)
  have hL:=(tw g inn i (by omega)).len
  have hc:=Bf hl hi
  have hp:=jN s (ivI s i)
  have hw2:IntKind.wrap .i64 ((ofI s i:Int)+(clN s (ivI s i):Int))=((ofI s i+clN s (ivI s i):Nat):Int):=by
   rw [wr (by omega) (by omega)];omega
  have hdef:((inn.take (ofI s i+clN s (ivI s i))).drop (ofI s i))=inC s inn i:=rfl
  unfold inV at gi'
  unfold cG
  rw [iP (ltI hi)]
  simp only [tN]
  rw [iP ⟨inI hi,gi'⟩,bC,lF]
  simp only [bSq]
  rw [show clN s (s.in_.getD i default)=clN s (ivI s i) from rfl,hw2]
  simp only [tN]
  rw [hdef,iP ⟨by omega,by omega,fun e=>by rw [e] at hc;simp at hc;omega⟩,wrs i (by omega),h1]
  rfl) (by
  show cG inn s.vars s.in_ _ _ (s.in_.length:Int)=_
  unfold cG
  rw [iN (aW _)])
 exact k
theorem Ex(g:nq s)(inn:List Int){V:Int→List Int}(hV:∀ v∈s.in_,V v=inE s inn v):cr s V (inL s inn s.in_.length):=by
 have R:=tw g inn s.in_.length (Nat.le_refl _)
 have key:∀ i,i≤s.in_.length→∀ v,(¬ v∈s.in_.take i→inW s inn i v=[]):=by
  intro i
  induction i with
  |zero=>intro _ v _;rfl
  |succ i ih =>
   intro h v hv
   rw [b8 _ (by omega),List.mem_append,List.mem_singleton] at hv
   show upd _ _ _ v=_
   rw [sF _ (show v≠ivI s i from fun e=>hv (.inr e))]
   exact ih (by omega) v (fun e=>hv (.inl e))
 refine ⟨R.len,fun v hv=>?_,fun v hv=>?_⟩
 ·by_cases e:v∈s.in_
  ·right;rw [R.at_ v hv,hV v e];rfl
  ·left;rw [R.at_ v hv];exact key _ (Nat.le_refl _) v (fun h=>e (List.mem_of_mem_take h))
 ·rw [R.at_ v (g.i v hv),hV v hv];rfl
theorem BZ{inn:List Int}(c:(kG s inn).code=0):kG s inn=an.mk 0 0:=by
 have hlen:=qW c
 unfold kG at c ⊢
 rw [iN (not_not_intro hlen)] at c ⊢
 rcases cS s.in_.length (uk s inn) () with ⟨e,_⟩|⟨i,z,_,hf,e⟩
 ·rw [e]
 ·rw [e] at c
  have:=ul hf
  simp only at c
  omega
theorem Dv{V:Int→List Int}{l:List Int}(h:∀ v∈l,(V v).length≤300):((l.map V).flatten).length≤300 * l.length:=by
 induction l with
 |nil=>simp
 |cons v l ih =>
  have:=ih fun w hw=>h w (by simp [hw])
  have:=h v (by simp)
  rw [List.map_cons,List.flatten_cons,List.length_append,List.length_cons]
  omega
theorem uJ(g:gg s){V:Int→List Int}{fuel:Nat}{L:List (List Int)}(hrc:∀ v∈s.out_,yA s V K.length L.length N K (kg fuel) v)(hl:∀ v∈s.out_,(V v).length≤300):∀ (k i:Nat) (m:List (List Int)),i+k=s.out_.length→cr s V m →
  ∃ m',aM (fun (x:List (List Int)×List Int×Int)=>cF fuel s.vars s.in_ s.out_ s.rules N K L x.1 x.2.1 x.2.2) (m,((s.out_.take i).map V).flatten,(i:Int))=some (m',um s V)∧cr s V m'
 |0,i,m,hi,hm=>by
  obtain rfl:i=s.out_.length:=by omega
  refine ⟨m,cP ?_,hm⟩
  show cF fuel s.vars s.in_ s.out_ s.rules N K L m _ _=_
  unfold cF
  rw [iN (aW _),List.take_length]
  rfl
 |k+1,i,m,hi,hm=>by
  have hil:i<s.out_.length:=by omega
  have hno:=g.h.no
  obtain ⟨m',e,hm'⟩:=hrc _ (aI hil) m hm
  have q1:=Dv (V:=V) (l:=s.out_.take i) (fun v hv=>hl v (List.mem_of_mem_take hv))
  have q2:=hl _ (aI hil)
  rw [List.length_take] at q1
  have hst:cF fuel s.vars s.in_ s.out_ s.rules N K L m (((s.out_.take i).map V).flatten) (i:Int)=some (.inl (m',((s.out_.take (i+1)).map V).flatten,((i+1:Nat):Int))):=by
   unfold cF
   rw [iP (ltI hil),iP (inI hil)]
   simp only [tN]
   rw [e]
   simp only [bSq]
   rw [iP (dz _ (by omega)),wrs i (by omega),b8 _ hil,List.map_append,List.flatten_append]
   simp
  rw [cH (s:=(m,((s.out_.take i).map V).flatten,(i:Int))) hst]
  exact uJ g hrc hl k (i+1) m' (by omega) hm'
theorem qg(g:gg s)(hs:s.ok){V:Int→List Int}{fuel:Nat}{L:List (List Int)}(hrc:∀ j,j<s.rules.length→(rl s j).op=13→yA s V K.length L.length N K (kg fuel) (bx (rl s j) 1))(hl:∀ j,j<s.rules.length→(rl s j).op=13→(V (bx (rl s j) 1)).length≤300∧V (bx (rl s j) 1)≠[]):∀ (k i:Nat) (m K':List (List Int)),i+k=s.rules.length→cr s V m→K'.length=s.rules.length→(∀ j,j<i→(rl s j).op=13→K'.getD j default=V (bx (rl s j) 1)) →
  ∃ m' K2,aM (fun (x:List (List Int)×List (List Int)×Int)=>cq fuel s.vars s.in_ s.out_ s.rules N K L x.1 x.2.1 x.2.2) (m,K',(i:Int))=some (m',K2)∧K2.length=s.rules.length∧(∀ j,j<s.rules.length→(rl s j).op=13→K2.getD j default=V (bx (rl s j) 1))∧m'.length=s.vars.length
 |0,i,m,K',hi,hm,h1,h2=>by
  obtain rfl:i=s.rules.length:=by omega
  refine ⟨m,K',cP ?_,h1,h2,hm.len⟩
  show cq fuel s.vars s.in_ s.out_ s.rules N K L m _ _=_
  unfold cq
  rw [iN (aW _)]
 |k+1,i,m,K',hi,hm,h1,h2=>by
  have hil:i<s.rules.length:=by omega
  have hnr:=g.h.nr
  by_cases o:(rl s i).op=13
  ·have har:=(qf g hs hil).ar
   rw [o] at har
   have p13:aH 13=2:=by decide
   obtain ⟨m',e,hm'⟩:=hrc i hil o m hm
   obtain ⟨q1,q2⟩:=hl i hil o
   have hst:cq fuel s.vars s.in_ s.out_ s.rules N K L m K' (i:Int)=some (.inl (m',K'.set i (V (bx (rl s i) 1)),((i+1:Nat):Int))):=by
    unfold cq
    rw [iP (ltI hil),iP (inI hil)]
    simp only [tN]
    rw [iP (show (s.rules.getD i default).op=13 from o),iP (show 0≤1∧1<((s.rules.getD i default).a.length:Int) from ⟨by omega,by unfold rl at har;omega⟩),show (s.rules.getD i default).a.getD 1 default=bx (rl s i) 1 from rfl,e]
    simp only [bSq]
    rw [iP ⟨dz _ (by omega),by omega,by omega⟩,iP q2,wrs i (by omega)]
   rw [cH (s:=(m,K',(i:Int))) hst]
   refine qg g hs hrc hl k (i+1) m' _ (by omega) hm' (by rw [List.length_set];exact h1) (fun j hj oj=>?_)
   by_cases e2:j=i
   ·subst e2
    rw [List.getD_eq_getElem?_getD,List.getElem?_set_self (by omega)]
    rfl
   ·rw [List.getD_eq_getElem?_getD,List.getElem?_set_ne (by omega),← List.getD_eq_getElem?_getD]
    exact h2 j (by omega) oj
  ·have hst:cq fuel s.vars s.in_ s.out_ s.rules N K L m K' (i:Int)=some (.inl (m,K',((i+1:Nat):Int))):=by
    unfold cq
    rw [iP (ltI hil),iP (inI hil)]
    simp only [tN]
    rw [iN (show ¬ (s.rules.getD i default).op=13 from o),wrs i (by omega)]
   rw [cH (s:=(m,K',(i:Int))) hst]
   refine qg g hs hrc hl k (i+1) m K' (by omega) hm h1 (fun j hj oj=>?_)
   by_cases e2:j=i
   ·subst e2;exact absurd oj o
   ·exact h2 j (by omega) oj
theorem B0(gs:gg s)(hs:s.ok)(gA:gg A)(hA:A.ok)(sA:kB A)(h1:yy s A)(h2:yy A s)(hP:ng s P)(hK:zG s P N K)(hN:N≤1000){fuel:Nat}(hf:500≤fuel)(inn:List Int)(hin:∀ y∈inn,okI .i64 y) :
  ∃ N' K' C',jv fuel inn s.vars s.in_ s.out_ s.rules N K C=some (if (kG s inn).code=0 then um s (pF A P (inE s inn)) else [],kG s inn,N',K',C')∧((kG s inn).code≠0→N'=N∧K'=K) ∧
   ((kG s inn).code=0→zG s (pF A P (inE s inn)) N' K'∧ng s (pF A P (inE s inn))∧N'=N+1):=by
 have hnv:=gs.h.nv
 have hnr:=gs.h.nr
 have hnrA:=gA.h.nr
 unfold jv
 rw [ww gs.h]
 simp only [bSq]
 by_cases c:(kG s inn).code=0
 ·rw [iN (by simpa using c),iP ⟨by omega,om (by omega) (by omega)⟩,iP c]
  have hIn:=AH gs.h (qW c)
  have hW:=Dg c hin
  obtain ⟨hE,hF⟩:=Dl h1 inn
  have hPA:ng A P:=fun i hi o=>by
   obtain ⟨q,hq,e⟩:=h1.r i hi
   rw [← e] at o ⊢
   rcases hP q hq o with h|h
   ·exact .inl h
   ·exact .inr (h.vars h1.v)
  have F:=Dk h2 (P:=P) (P':=P) (W:=inE s inn) (fun j _=>rfl) (De gA hA sA P (inE s inn))
  have EA:∀ v∈bI A A.rules.length,e9 A (pF A P (inE s inn)) v:=yx gA hA sA hPA (fun v hv=>(hW v (by rw [h1.i];exact hv)).vars h1.v) A.rules.length (Nat.le_refl _)
  have E:∀ v∈bI A A.rules.length,e9 s (pF A P (inE s inn)) v:=fun v hv=>(EA v hv).vars h2.v
  revert F E
  clear EA
  generalize pF A P (inE s inn)=V
  intro F E
  have rc:=Fw gs hs gA hA sA h1 F hP E hK (fuel:=fuel) (by omega) A.rules.length (Nat.le_refl _) fuel (by omega)
  have hM:=Ex gs.h inn F.i
  have hLl:(inL s inn s.in_.length).length=s.vars.length:=hM.len
  have hmade:∀ v∈bI s s.rules.length,v∈bI A A.rules.length:=fun v hv=>by
   rw [mh _ _ (Nat.le_refl _)] at hv ⊢
   rcases hv with h|⟨k,hk,h⟩
   ·exact .inl (by rw [← h1.i];exact h)
   ·obtain ⟨q,hq,e⟩:=h2.r k hk
    refine .inr ⟨q,hq,?_⟩
    have e':A.rules.getD q default=s.rules.getD k default:=e
    rw [e'];exact h
  have hle:∀ v∈bI s s.rules.length,inV s v→(V v).length≤300∧V v≠[]:=fun v hv hv2=>by
   have q:=(E v (hmade v hv)).len
   have:=ml gs.h.v hv2
   have:=jN s v
   refine ⟨by omega,fun e=>?_⟩
   rw [e] at q
   simp at q
   omega
  have hkin:∀ j,j<s.rules.length→(rl s j).op=13→bx (rl s j) 1∈bI s s.rules.length∧inV s (bx (rl s j) 1):=fun j hj o=>by
   have K:=qf gs hs hj
   have har:=K.ar
   rw [o] at har
   have p13:aH 13=2:=by decide
   exact ⟨gs.u j hj _ (lC (aI (by unfold rl at har;omega))),K.g.a _ (aI (by omega))⟩
  obtain ⟨m1,e1,hm1⟩:=uJ (N:=N) (K:=K) (L:=inL s inn s.in_.length) gs (fuel:=fuel) (fun v hv=>by rw [hLl];exact rc v (hmade v (gs.o v hv))) (fun v hv=>(hle v (gs.o v hv) (gs.h.o v hv)).1) s.out_.length 0 _ (by omega) hM
  obtain ⟨m2,K2,e2,k1,k2,k3⟩:=qg (N:=N) (K:=K) (L:=inL s inn s.in_.length) gs hs (fuel:=fuel) (V:=V) (fun j hj o=>by rw [hLl];exact rc _ (hmade _ (hkin j hj o).1)) (fun j hj o=>hle _ (hkin j hj o).1 (hkin j hj o).2) s.rules.length 0 m1 (List.replicate s.rules.length []) (by omega) hm1 (by simp) (fun j hj=>by omega)
  obtain ⟨_,hN0,_⟩:=hK
  refine ⟨N+1,K2,(m2.take (inL s inn s.in_.length).length),?_,fun h=>absurd c h,fun _=>⟨⟨k1,by omega,fun i hi o=>?_⟩,fun i hi o=>.inr (E _ (hmade _ (hkin i hi o).1)),rfl⟩⟩
  ·show (aM (fun (x:List (List Int)×Int×Int)=>cG inn s.vars s.in_ x.1 x.2.1 x.2.2) (List.replicate s.vars.length [],0,0)).bind _=_
   rw [hIn]
   simp only [bSq]
   unfold fq
   show (aM (fun (x:List (List Int)×List Int×Int)=>cF fuel s.vars s.in_ s.out_ s.rules N K (inL s inn s.in_.length) x.1 x.2.1 x.2.2) (inL s inn s.in_.length,[],((0:Nat):Int))).bind _=_
   have e1':aM (fun (x:List (List Int)×List Int×Int)=>cF fuel s.vars s.in_ s.out_ s.rules N K (inL s inn s.in_.length) x.1 x.2.1 x.2.2) (inL s inn s.in_.length,[],((0:Nat):Int))=some (m1,um s V):=e1
   rw [e1']
   simp only [bSq]
   unfold fp
   rw [iP ⟨by omega,om (by omega) (by omega)⟩]
   show (aM (fun (x:List (List Int)×List (List Int)×Int)=>cq fuel s.vars s.in_ s.out_ s.rules N K (inL s inn s.in_.length) x.1 x.2.1 x.2.2) (m1,List.replicate s.rules.length [],((0:Nat):Int))).bind _=_
   rw [e2]
   simp only [bSq]
   unfold fo
   rw [BZ c,wr (by omega) (by omega),iP (by omega)]
  ·have hk:mm V (rl s i)=V (bx (rl s i) 1):=by unfold mm;rw [iP o]
   rw [hk]
   exact ⟨by omega,fun h=>by omega,fun _=>⟨by omega,by omega,k2 i hi o,(hle _ (hkin i hi o).1 (hkin i hi o).2).2⟩⟩
 ·rw [iP c,iN c]
  exact ⟨N,K,C,rfl,fun _=>⟨rfl,rfl⟩,fun h=>absurd h c⟩
end
theorem B1{s:ab}(hc:(eY s).code=0)(hs:kB s):mP s=some (.inr (an.mk 0 0,[],0,0,s.vars,s.in_,s.out_,s.rules)):=by
 rw [Dn,iP hc,iP (by rw [uE hs];simp),yo hs]
theorem wx:kX=some true:=by
 have hc:(eY s0M).code=0:=by rw [BW]
 obtain ⟨g,_⟩:=mE hc
 unfold kX
 show (mP s0M).bind _=_
 rw [B1 hc sG]
 simp only [bSq,Sum.elim_inr]
 have c1:(kG s0M [1]).code=0:=by rfl
 have c2:(kG s0M [2]).code=0:=by rfl
 obtain ⟨M1,r1,_,k1⟩:=AC (s:=s0M) (P:=fun _=>[]) (M:=[]) g Dr sG (wv _) (zz _) (by simp) [1] (fun y hy=>by rw [List.mem_singleton] at hy;subst hy;exact ⟨by decide,by decide⟩)
 obtain ⟨q1,q2,q3,_⟩:=k1 c1
 obtain ⟨M2,r2,_,k2⟩:=AC (s:=s0M) g Dr sG q2 q1 (by simp only [List.length_nil] at q3;omega) [2] (fun y hy=>by rw [List.mem_singleton] at hy;subst hy;exact ⟨by decide,by decide⟩)
 rw [iP c1] at r1
 rw [iP c2] at r2
 have o1:um s0M (pF s0M (fun _=>[]) (inE s0M [1]))=[5]:=by rfl
 have o2:um s0M (pF s0M (pF s0M (fun _=>[]) (inE s0M [1])) (inE s0M [2]))=[1]:=by rfl
 rw [o1] at r1
 rw [o2] at r2
 rw [iN (by simp)]
 rw [show lit ([1]:List Int)=[1] from rfl,show lit ([2]:List Int)=[2] from rfl,show lit ([5]:List Int)=[5] from rfl,r1]
 simp only [bSq]
 rw [r2]
 simp only [bSq]
 rw [iP c1,iP c2,mn _ (by simp),mn _ (by simp)]
 simp only [bSq,if_true]
 have hw:iD s0M [0,1]=some (qq s0M [0,1] 2:Int):=wu g.h.v (by decide) (by simp)
 show (iD s0M [0,1]).bind _=_
 rw [hw]
 rfl
theorem B2(v:Int)(l:List Int)(hl:l.length≤9000000):qF v l=some (l.contains v):=by
 unfold qF
 rw [bW l.length (fun k=>if l.getD k default=v then some true else none) () (fun k hk=>by
  unfold mY
  rw [iP (ltI hk),iP (inI hk),wrs k (by omega)]
  simp only [tN]
  by_cases h:l.getD k default=v
  ·rw [iP h,iP h]
  ·rw [iN h,iN h]) (by unfold mY;rw [iN (aW _)])]
 rcases cS l.length (fun k=>if l.getD k default=v then some true else none) () with ⟨e,h⟩|⟨j,z,hj,hz,e⟩
 ·rw [e]
  have:l.contains v=false:=by
   cases hq:l.contains v
   ·rfl
   ·obtain ⟨i,hi,e2⟩:=List.mem_iff_getElem.1 (List.contains_iff_mem.1 hq)
    have:=h i hi
    rw [tn hi,iP e2] at this
    cases this
  rw [this];rfl
 ·rw [e]
  split at hz
  ·rename_i h
   simp only [sJ] at hz
   rw [List.contains_iff_mem.2 (h ▸ aI hj),← hz];rfl
  ·cases hz
theorem Dw{s:ab}{k:Nat}(hk:k≤(bz s).length):((bz s).take k).length=k:=by rw [List.length_take];omega
theorem Dx{s:ab}(g:gg s){d:List Nat}(hd:∀ k∈d,k<s.rules.length)(hl:d.length≤100000) :
  aM (fun x=>fH s (dI d) x) 0=some (match jM s.rules.length (to s) d with|some i=>(dI (d++[i]),true)|none=>(dI d,false)):=by
 have hn:=g.h.nr
 have hni:=g.h.ni
 have hdl:=sx d
 have:=BQ (S:=Int) (fun i=>(i:Int)) (body:=fun x=>fH s (dI d) x) s.rules.length (fun i=>!d.contains i && to s d i) (fun i=>(dI (d++[i]),true)) (dI d,false)
  (by
   intro i hi
   show fH s (dI d) (i:Int)=_
   obtain ⟨gr,hu,ha,_⟩:=g.rule hi
   have he:=gr.e
   unfold fH
   rw [iP (ltI hi),B2 _ _ (by omega)]
   simp only [bSq]
   rw [wrs i (by omega)]
   by_cases hm:i∈d
   ·have h1:(dI d).contains (i:Int)=true:=List.contains_iff_mem.2 (yn.2 hm)
    have h2:d.contains i=true:=List.contains_iff_mem.2 hm
    rw [h1,h2];rfl
   ·have h1:¬ (dI d).contains (i:Int)=true:=fun h=>hm (yn.1 (List.contains_iff_mem.1 h))
    have h2:d.contains i=false:=by
     cases hq:d.contains i
     ·rfl
     ·exact absurd (List.contains_iff_mem.1 hq) hm
    rw [iN h1,iP (inI hi),h2,tN,Ej hd (by omega) (by omega) (by omega) (by omega) (by omega)]
    simp only [bSq]
    rw [iP (om (by rw [hdl];omega) (by omega))]
    unfold to
    rw [Ft]
    cases decide (oP (lj s d) (s.rules.getD i default))<;>rfl)
  (by
   show fH s (dI d) (s.rules.length:Int)=_
   unfold fH
   rw [iN (aW _)])
 unfold jM
 exact this
theorem Dy{s:ab}(g:gg s):pw s=some (dI (bz s)):=by
 have hn:=g.h.nr
 have hle:=u5 s
 unfold pw
 have:=e8 (S:=List Int×Bool) (T:=List Int) (fun k=>(dI ((bz s).take k),decide (k≤(bz s).length))) (body:=fun x=>gl s x.1 x.2) ((bz s).length+1) (dI (bz s))
  (by
   intro i hi
   show gl s (dI ((bz s).take i)) (decide (i≤(bz s).length))=_
   unfold gl
   rw [iP (dT (show i≤(bz s).length from by omega))]
   show (aM (fun x=>fH s (dI ((bz s).take i)) x) 0).bind _=_
   rw [Dx g (fun k hk=>El hk) (by have:=Dw (s:=s) (k:=i) (by omega);omega)]
   by_cases h:i<(bz s).length
   ·rw [wh h,b8 _ h]
    simp only [bSq]
    rw [dT (show i+1≤(bz s).length from by omega)]
   ·have e:i=(bz s).length:=by omega
    subst e
    rw [List.take_length,zn]
    simp only [bSq]
    rw [dF (show ¬ (bz s).length+1≤(bz s).length from by omega),List.take_of_length_le (by omega)])
  (by
   show gl s (dI ((bz s).take ((bz s).length+1))) (decide ((bz s).length+1≤(bz s).length))=_
   unfold gl
   rw [dF (show ¬ (bz s).length+1≤(bz s).length from by omega),List.take_of_length_le (by omega)]
   rfl)
 show (aM (fun (x:List Int×Bool)=>gl s x.1 x.2) ([],true)).bind _=_
 have e:(dI ((bz s).take 0),decide (0≤(bz s).length))=(([]:List Int),true):=by simp [dI]
 rw [e] at this
 rw [this]
 rfl
theorem Dz{s:ab}(g:gg s):iZ s=some (s.vars,s.in_,s.out_,s.rules):=by
 unfold iZ
 have h1:=g.h.nv
 have h2:=g.h.nr
 have h3:=g.h.ni
 have h4:=g.h.no
 rw [iP ⟨om (by omega) (by omega),om (by omega) (by omega),om (by omega) (by omega)⟩]
 have:=e8 (S:=List ae×Int) (T:=List ae) (fun i=>(s.rules.take i,(i:Int))) (body:=fun x=>cK s x.1 x.2) s.rules.length s.rules
  (by
   intro i hi
   obtain ⟨gr,hu,ha,_⟩:=g.rule hi
   have he:=gr.e
   show cK s (s.rules.take i) (i:Int)=_
   unfold cK
   rw [iP (ltI hi),iP (inI hi)]
   simp only [tN]
   rw [qQ _ ⟨by omega,by omega⟩]
   simp only [bSq]
   rw [iP (om (by simp;omega) (by omega)),wrs i (by omega),b8 _ hi]
   rfl)
  (by
   show cK s (s.rules.take s.rules.length) (s.rules.length:Int)=_
   unfold cK
   rw [iN (aW _),List.take_length])
 show (aM (fun x=>cK s x.1 x.2) ([],0)).bind (fun z21=>eT s z21)=_
 have e0:s.rules.take 0=[]:=rfl
 rw [e0,show ((0:Nat):Int)=0 from rfl] at this
 rw [this]
 rfl
theorem Fx{s:ab}(g:gg s)(hK:(bz s).length=s.rules.length):aM (fun (x:List ae×Int)=>gw s (dI (bz s)) x.1 x.2) (s.rules,0)=some ((bz s).map (fun k=>s.rules.getD k default)):=by
 have hn:=g.h.nr
 have hdl:=sx (bz s)
 have:=e8 (S:=List ae×Int) (T:=List ae) (fun i=>(dZ s.rules.length (fun u=>if u<i then s.rules.getD ((bz s).getD u default) default else s.rules.getD u default),(i:Int))) (body:=fun x=>gw s (dI (bz s)) x.1 x.2) s.rules.length ((bz s).map (fun k=>s.rules.getD k default))
  (by
   intro i hi
   show gw s (dI (bz s)) (dZ s.rules.length (fun u=>if u<i then s.rules.getD ((bz s).getD u default) default else s.rules.getD u default)) (i:Int)=_
   have hi2:i<(bz s).length:=by omega
   have hb:=oH (aI hi2)
   obtain ⟨gr,hu,ha,_⟩:=g.rule hb
   have he:=gr.e
   unfold gw
   rw [iP (by omega),tN,wc hi2,iP ⟨⟨by omega,by omega⟩,inI hb⟩,tN,qQ _ ⟨by omega,by omega⟩]
   simp only [bSq]
   rw [jD,iP (inI hi),wrs i (by omega),vU]
   congr 3
   apply kj
   intro v hv
   by_cases h:v=i
   ·subst h;simp
   ·rw [iN h]
    by_cases h2:v<i
    ·rw [iP h2,iP (by omega)]
    ·rw [iN h2,iN (by omega)])
  (by
   show gw s (dI (bz s)) (dZ s.rules.length (fun u=>if u<s.rules.length then s.rules.getD ((bz s).getD u default) default else s.rules.getD u default)) (s.rules.length:Int)=_
   unfold gw
   rw [iN (by omega)]
   congr 2
   rw [yk ((bz s).map (fun k=>s.rules.getD k default)),List.length_map,hK]
   apply kj
   intro v hv
   have hv2:v<(bz s).length:=by omega
   have hv3:v<((bz s).map (fun k=>s.rules.getD k default)).length:=by rw [List.length_map];exact hv2
   show (if v<s.rules.length then s.rules.getD ((bz s).getD v default) default else s.rules.getD v default)=_
   rw [iP hv,tn hv3,List.getElem_map,tn hv2])
 have e:dZ s.rules.length (fun u=>if u<0 then s.rules.getD ((bz s).getD u default) default else s.rules.getD u default)=s.rules:=by
  refine Eq.trans ?_ (yk s.rules).symm
  apply kj
  intro v _
  rw [iN (by omega)]
 rw [e,show ((0:Nat):Int)=0 from rfl] at this
 exact this
theorem AI(s:ab):py s=some (if (eY s).code=0 then qR s else (noS,eY s)):=by
 unfold py
 rw [zi]
 simp only [bSq]
 by_cases hc:(eY s).code=0
 ·obtain ⟨g,_⟩:=mE hc
  have hn:=g.h.nr
  have hdl:=sx (bz s)
  have hle:=u5 s
  rw [iN (by simpa using hc),iP hc,Dy g]
  simp only [bSq]
  unfold qR
  by_cases hK:(bz s).length=s.rules.length
  ·rw [iN (by omega),iP hK]
   unfold m0
   rw [Dz g]
   simp only [bSq]
   show (aM (fun (x:List ae×Int)=>gw s (dI (bz s)) x.1 x.2) (s.rules,0)).bind _=_
   rw [Fx g hK]
   rfl
  ·have hLl:=xu (n:=s.rules.length) (qc s) (fun i hi=>oH hi)
   obtain ⟨f1,f2,f3⟩:=zl (n:=s.rules.length) (d:=bz s) (by omega)
   rw [iP (by omega),iN hK]
   have:=e8 (S:=Int) (T:=ab×an) (fun i=>(i:Int)) (body:=fun x=>i5 (dI (bz s)) x) ((cA s.rules.length (bz s)).getD 0 default) (noS,an.mk 15 (((cA s.rules.length (bz s)).getD 0 default:Nat):Int))
    (by
     intro i hi
     show i5 (dI (bz s)) (i:Int)=_
     unfold i5
     rw [lg _ _ (by omega),List.contains_iff_mem.2 (yn.2 (f3 i hi)),wrs i (by omega)]
     rfl)
    (by
     show i5 (dI (bz s)) (((cA s.rules.length (bz s)).getD 0 default:Nat):Int)=_
     unfold i5
     have hq:(dI (bz s)).contains (((cA s.rules.length (bz s)).getD 0 default:Nat):Int)=false:=by
      cases hq:(dI (bz s)).contains (((cA s.rules.length (bz s)).getD 0 default:Nat):Int)
      ·rfl
      ·exact absurd (yn.1 (List.contains_iff_mem.1 hq)) f2
     rw [lg _ _ (by omega),hq,zg]
     rfl)
   rw [show ((0:Nat):Int)=0 from rfl] at this
   rw [this]
   rfl
 ·rw [iP hc,iN hc]
  rfl
theorem zI(rows:List (List Int))(hl:rows.length≤60)(h:∀ i,i<rows.length→(rows.getD i default).length≤10000):lT rows=some rows:=by
 have k:=e8 (S:=List (List Int)×Int) (fun i=>(rows.take i,(i:Int))) (body:=fun x=>d4 rows x.1 x.2) rows.length rows (fun i hi=>by
  show d4 rows (rows.take i) (i:Int)=_
  have:=h i hi
  unfold d4
  simp only [tN]
  rw [iP (ltI hi),iP ⟨inI hi,dz _ (by omega)⟩,iP (om (by rw [List.length_take];omega) (by omega)),wrs i (by omega),b8 _ hi]
  rfl) (by
  show d4 rows _ (rows.length:Int)=_
  unfold d4
  rw [iN (aW _),List.take_length])
 unfold lT
 show (aM (fun (x:List (List Int)×Int)=>d4 rows x.1 x.2) (rows.take 0,((0:Nat):Int))).bind _=_
 rw [k]
 rfl
theorem wW(rows:List (List Int))(hl:rows.length≤60)(h:∀ i,i<rows.length→(rows.getD i default).length≤10000):md rows rows=some true:=by
 unfold md
 rw [iN (by simp),bW rows.length (fun _=>none) ()]
 ·rw [jH (fun _ _=>rfl)];rfl
 ·intro i hi
  unfold jC
  have:=h i hi
  simp only [tN]
  rw [iP (ltI hi),iP ⟨inI hi,inI hi⟩,mn _ (by omega)]
  simp only [bSq,if_true]
  rw [wrs i (by omega)]
 ·unfold jC;rw [iN (aW _)]
theorem DA{s:ab}(hK:(bz s).length=s.rules.length):yy s (lE s)∧yy (lE s) s:=by
 refine ⟨⟨rfl,rfl,rfl,fun j hj=>?_⟩,⟨rfl,rfl,rfl,fun j hj=>?_⟩⟩
 ·rw [xC] at hj
  exact ⟨_,oH (aI hj),(zB s hj).symm⟩
 ·obtain ⟨i,hi,e⟩:=List.mem_iff_getElem.1 (sv (qc s) (fun _ h=>oH h) hK j hj)
  exact ⟨i,by rw [xC];exact hi,by rw [zB s hi,tn hi,e]⟩
theorem B3(s:ab):zG s (fun _=>[]) 0 (List.replicate s.rules.length []):=by
 refine ⟨by simp,Int.le_refl 0,fun i hi o=>⟨Int.le_refl 0,fun _=>?_,fun h=>absurd h (by omega)⟩⟩
 unfold mm
 split<;>rfl
def GS(s A:ab)(M:List (Int×List Int))(N:Int)(K:List (List Int))(i:Nat):Prop :=
 ∃ P,ng A P∧zy A M P∧ng s P∧zG s P N K∧M.length≤400 * i∧N≤i
section
variable {s A:ab}
theorem xE(gs:gg s)(hs:s.ok)(gA:gg A)(hA:A.ok)(sA:kB A)(a1:yy s A)(a2:yy A s){fuel:Nat}(hf:500≤fuel){z1 z2 y1:Int}{y2 y3:List (List Int)}{z0:List (Int×List Int)}
  {rows:List (List Int)} (hr:okL (okL (okI .i64)) rows) (hl:rows.length≤60):∀ (k i:Nat) (M:List (Int×List Int)) (N:Int) (K C:List (List Int)),i+k=rows.length→GS s A M N K i →
  ∃ z,aM (fun (x:List (Int×List Int)×Int×List (List Int)×List (List Int)×Int)=>d6 fuel rows rows (an.mk 0 0,z0,z1,z2,A.vars,A.in_,A.out_,A.rules) (s.vars,s.in_,s.out_,s.rules,y1,y2,y3) x.1 x.2.1 x.2.2.1 x.2.2.2.1 x.2.2.2.2) (M,N,K,C,(i:Int))=some (.inl z)
 |0,i,M,N,K,C,hi,_=>by
  obtain rfl:i=rows.length:=by omega
  refine ⟨_,cP (o:=Sum.inl (M,N,K,C)) ?_⟩
  show d6 fuel rows rows _ _ M N K C _=_
  unfold d6
  rw [iN (aW _)]
 |k+1,i,M,N,K,C,hi,hb=>by
  have hil:i<rows.length:=by omega
  obtain ⟨P,p1,p2,p3,p4,p5,p6⟩:=hb
  have hin:=Ew hr hil
  obtain ⟨M',e1,u1,u2⟩:=AC gA hA sA p1 p2 (by omega) _ hin
  obtain ⟨N',K',C',e2,v1,v2⟩:=B0 (C:=C) gs hs gA hA sA a1 a2 p3 p4 (by omega) hf _ hin
  obtain ⟨hE,hF⟩:=Dl a2 (rows.getD i default)
  rw [hE,hF] at e1 u2
  rw [hF] at u1
  have hO:um A (pF A P (inE s (rows.getD i default)))=um s (pF A P (inE s (rows.getD i default))):=by unfold um;rw [a1.o]
  have hlen:(if (kG s (rows.getD i default)).code=0 then um s (pF A P (inE s (rows.getD i default))) else []).length≤9000000:=by
   by_cases c:(kG s (rows.getD i default)).code=0
   ·rw [iP c,← hO]
    have:=Do gA (u2 c).2.2.2
    omega
   ·rw [iN c];simp
  have hst:d6 fuel rows rows (an.mk 0 0,z0,z1,z2,A.vars,A.in_,A.out_,A.rules) (s.vars,s.in_,s.out_,s.rules,y1,y2,y3) M N K C (i:Int)=some (.inl (M',N',K',C',((i+1:Nat):Int))):=by
   unfold d6
   simp only [tN]
   rw [iP (ltI hil),iP (inI hil),e1]
   simp only [bSq]
   rw [iP (inI hil),e2]
   simp only [bSq]
   rw [hO]
   simp only [and_self,if_true]
   rw [mn _ hlen]
   simp only [bSq,if_true]
   rw [wrs i (by omega)]
  rw [cH (s:=(M,N,K,C,(i:Int))) hst]
  refine xE gs hs gA hA sA a1 a2 hf hr hl k (i+1) M' N' K' C' (by omega) ?_
  by_cases c:(kG s (rows.getD i default)).code=0
  ·obtain ⟨f1,f2,f3,_⟩:=u2 c
   obtain ⟨g1,g2,g3⟩:=v2 c
   exact ⟨_,f2,f1,g2,g1,by omega,by omega⟩
  ·have f1:=u1 c
   obtain ⟨g1,g2⟩:=v1 c
   subst f1;subst g1;subst g2
   exact ⟨P,p1,p2,p3,p4,by omega,by omega⟩
end
theorem tx(s:ab)(rows:List (List Int))(hs:s.ok)(hr:okL (okL (okI .i64)) rows)(hz:s.sz+(szL (szL szI)) rows≤1048576):∃ fuel,nA fuel s rows=some true:=by
 have z5:=DR (f:=szL (α:=Int) szI) (fun l=>by unfold szL;omega) rows
 refine ⟨500,?_⟩
 unfold nA
 rw [wx]
 simp only [bSq,if_true]
 obtain ⟨b,hb,hf⟩:=C5 s 150 (by omega)
 rw [show ((150:Nat):Int)=150 from rfl] at hb
 rw [hb]
 simp only [bSq]
 cases b
 ·have hng:=hf rfl
  simp only [Bool.false_eq_true,if_false]
  obtain ⟨b2,hb2,hf2⟩:=yz rows (by omega)
  rw [hb2]
  simp only [bSq]
  cases b2
  ·obtain ⟨hr60,hr1⟩:=hf2 rfl
   simp only [Bool.false_eq_true,if_false]
   rw [Ek hng (by omega)]
   simp only [bSq]
   rw [zI rows hr60 hr1]
   simp only [bSq]
   rw [Dn,AI]
   simp only [bSq]
   by_cases c:(eY s).code=0
   ·rw [iP c,iP c]
    obtain ⟨gs,_⟩:=mE c
    have hnr:=gs.h.nr
    by_cases hK:(bz s).length=s.rules.length
    ·have hso:qR s=(lE s,an.mk 0 0):=by unfold qR;rw [iP hK]
     rw [iP hK,hso]
     simp only [Sum.elim_inr]
     obtain ⟨a1,a2⟩:=DA hK
     obtain ⟨z,ez⟩:=xE (s:=s) (A:=lE s) (z0:=[]) (z1:=0) (z2:=0) (y1:=0) (y2:=List.replicate s.rules.length []) (y3:=[]) gs hs (AE c hK) (Dm hs) zq a1 a2 (Nat.le_refl 500) hr hr60 rows.length 0 [] 0 (List.replicate s.rules.length []) [] (by omega)
      ⟨fun _=>[],wv _,zz _,wv _,B3 s,by simp,by omega⟩
     have hbeg:nK s=some (s.vars,s.in_,s.out_,s.rules,0,List.replicate s.rules.length [],[]):=by
      unfold nK
      rw [iP ⟨by omega,om (by omega) (by omega)⟩]
     rw [iP ⟨trivial,trivial⟩,iN (by simp),hbeg]
     simp only [bSq]
     show (aM (fun (x:List (Int×List Int)×Int×List (List Int)×List (List Int)×Int)=>d6 500 rows rows (an.mk 0 0,[],0,0,(lE s).vars,(lE s).in_,(lE s).out_,(lE s).rules) (s.vars,s.in_,s.out_,s.rules,0,List.replicate s.rules.length [],[]) x.1 x.2.1 x.2.2.1 x.2.2.2.1 x.2.2.2.2) ([],0,List.replicate s.rules.length [],[],((0:Nat):Int))).bind _=_
     rw [ez]
     simp only [bSq,Sum.elim_inl]
     unfold gY
     have hni:=gs.h.ni
     rw [yp hng (by omega)]
     simp only [bSq,if_true]
     rw [wW rows hr60 hr1]
     simp only [bSq,if_true]
     rw [wu gs.h.v gs.h.i (by omega),uI gs.h.v gs.h.i (by omega)]
     simp
    ·rw [iN hK]
     simp only [Sum.elim_inl]
     have f1:¬ (qR s).2.code=0:=by unfold qR;rw [iN hK];simp
     rw [iP ⟨trivial,trivial⟩,iP f1]
   ·rw [iN c,iN c]
    simp only [Sum.elim_inl]
    rw [iP ⟨trivial,trivial⟩,iP c]
  ·rfl
 ·rfl
end Pam
