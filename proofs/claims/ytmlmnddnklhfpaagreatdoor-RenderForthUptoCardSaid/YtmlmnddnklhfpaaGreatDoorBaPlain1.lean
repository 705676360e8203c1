/- what is parsed may be printed: names, sizes, declarations, rows -/
import Derived.Test.YtmlmnddnklhfpaaGreatDoorBBase3
import Derived.Test.YtmlmnddnklhfpaaGreatDoorBabcPlain2
import Derived.Test.YtmlmnddnklhfpaaGreatDoorBaFun1
set_option linter.all false
namespace Pam
open Go
def wt(l:List aa):Nat:=vc (fun t=>t.text.length+40) l
theorem Fx(a b:List aa):wt (a++b)=wt a+wt b:=by
 unfold wt
 induction a with
 |nil=>simp [vc]
 |cons x a ih=>simp only [List.cons_append,vc,ih];omega
theorem zG(t:aa)(l:List aa):wt (t :: l)=t.text.length+40+wt l:=rfl
theorem Fy(l:List aa):40 * l.length≤wt l:=by
 unfold wt
 induction l with
 |nil=>simp
 |cons x l ih=>simp only [vc,List.length_cons];omega
theorem Rd.wt{a b:List aa}(h:Rd a b):Pam.wt b≤Pam.wt a:=by obtain ⟨c,rfl,_⟩:=h;rw [Fx];omega
theorem Cs.wt{a b:List aa}(h:Cs a b):Pam.wt b+40≤Pam.wt a:=by
 obtain ⟨⟨c,rfl,_⟩,h2⟩:=h
 rw [Fx]
 have:=Fy c
 rw [List.length_append] at h2
 omega
def TkO(t:aa):Prop:=(t.kind=2→fJ t.text=true)∧(t.kind=3→0≤t.n∧t.n<1000000000000000000)
structure Gd (E:Int) (l:List aa):Prop where
 good:xn E l
 tk:∀ t∈l,TkO t
theorem Rd.gd{E:Int}{a b:List aa}(h:Rd a b)(g:Gd E a):Gd E b:=by
 refine ⟨h.good g.good,fun t ht=>g.tk t ?_⟩
 obtain ⟨c,rfl,_⟩:=h
 exact List.mem_append_right _ ht
theorem Cs.gd{E:Int}{a b:List aa}(h:Cs a b)(g:Gd E a):Gd E b:=h.1.gd g
section
variable {E o t:Int} {l:List aa}
theorem xD(hE:0≤E)(g:Gd E l):Pn (bg ⟨l,E,o,t⟩) (Po E fun r=>Cs l r.2∧fJ r.1=true∧r.1.length+40+wt r.2≤wt l):=by
 unfold bg
 refine fF (zy 2 hE g.good) fun a ha=>jb ?_
 obtain ⟨h1,h2⟩:=ha
 have hm:a.1∈l:=by rw [h1];simp
 refine ⟨by rw [h1];exact vi (Gu h2),(g.tk _ hm).1 h2,?_⟩
 rw [h1,zG]
 exact Nat.le_refl _
theorem Kj(hE:0≤E)(g:Gd E l):Pn (ce 3 ⟨l,E,o,t⟩) (Po E fun r=>Cs l r.2∧0≤r.1.n∧r.1.n<1000000000000000000) :=
 lT (zy 3 hE g.good) fun a ha=>by
  obtain ⟨h1,h2⟩:=ha
  have hm:a.1∈l:=by rw [h1];simp
  have g':=g.good
  rw [h1] at g'
  exact ⟨by rw [h1];exact vi (Fh g' h2),(g.tk _ hm).2 h2⟩
theorem xE{n:Int}{w:Ω}(h0:-1000000000000000000<n)(h1:n<1000000000000000000)(h2:w=[]∨fJ w=true):oB (ag.mk n w)=0:=by
 unfold oB
 rw [iN (by simp only;omega),iP h2]
theorem zH(x:ag):x.sz=x.name.length+3:=by unfold ag.sz szI szS;omega
theorem GW{n:Int}(hn:n=1∨n = -1)(hE:0≤E)(g:Gd E l):Pn (dl n ⟨l,E,o,t⟩) (Po E fun r=>Cs l r.2∧oB r.1=0∧r.1.sz+20+wt r.2≤wt l):=by
 have hj:Pn (cg n ⟨l,E,o,t⟩) (Po E fun r=>Cs l r.2∧oB r.1=0∧r.1.sz+20+wt r.2≤wt l):=by
  unfold cg
  refine fF (Kj hE g) fun a ha=>?_
  obtain ⟨h1,h2,h3⟩:=ha
  have hw:IntKind.wrap .i64 (n * a.1.n)=n * a.1.n:=by rcases hn with rfl|rfl<;>exact wr oM oM
  have hb:-1000000000000000000<n * a.1.n∧n * a.1.n<1000000000000000000:=by rcases hn with rfl|rfl<;>omega
  have w1:=h1.wt
  refine cQ (qa [42] dM) fun b hb'=>?_
  have w2:=hb'.wt
  simp only [hw]
  split
  ·refine fF (xD hE (hb'.gd (h1.gd g))) fun c hc=>jb ⟨(h1.rd hb').trans hc.1,xE hb.1 hb.2 (.inr hc.2.1),?_⟩
   have:=hc.2.2
   rw [zH]
   show c.1.length+3+20+wt c.2≤wt l
   omega
  ·refine jb ⟨h1.rd hb',xE hb.1 hb.2 (.inl rfl),?_⟩
   rw [zH]
   show 0+3+20+wt b.2≤wt l
   omega
 unfold dl
 cases l with
 |nil=>rw [iN (by simp)];exact hj
 |cons x r =>
  rw [iP (by simp),iP (by simp)]
  split
  ·refine fF (xD hE g) fun c hc=>jb ⟨hc.1,xE (by rcases hn with rfl|rfl<;>decide) (by rcases hn with rfl|rfl<;>decide) (.inr hc.2.1),?_⟩
   have:=hc.2.2
   rw [zH]
   show c.1.length+3+20+wt c.2≤_
   omega
  ·exact hj
theorem pQ{T:Type}{F:T→Int}{l:List T}(h:∀ x∈l,F x=0):fsF F l=0:=by
 induction l with
 |nil=>rfl
 |cons x l ih =>
  show sq (F x) (fsF F l)=0
  rw [h x (by simp),ih fun y hy=>h y (by simp [hy])];rfl
theorem FA{s:List ag}(h:∀ x∈s,oB x=0)(h0:0<s.length)(h1:s.length≤30):gn s=0:=by
 unfold gn
 rw [iN oM,iN oM,pQ h]
theorem ro{T:Type}(f:T→Nat)(a b:List T):szL f (a++b)+1=szL f a+szL f b:=by
 unfold szL
 rw [List.map_append,List.sum_append];omega
theorem oH{T:Type}(f:T→Nat)(x:T):szL f [x]=f x+1:=by
 unfold szL;simp
abbrev Zs(l:List aa)(r:List ag×List aa):Prop:=Cs l r.2∧gn r.1=0∧szL ag.sz r.1+15+wt r.2≤wt l
theorem FB(hE:0≤E)(g:Gd E l):Pn (cS ⟨l,E,o,t⟩) (Po E (Zs l)):=by
 have hj:∀ (l1:List aa) (n:Int),(n=1∨n = -1)→Rd l l1→Pn (cm ⟨l,E,o,t⟩ l1 n) (Po E (Zs l)):=by
  intro l1 n hn h1
  unfold cm
  refine fF (GW hn hE (h1.gd g)) fun a ha=>?_
  have w1:=h1.wt
  refine sX (fun s=>Cs l s.1∧szL ag.sz s.2+15+wt s.1≤wt l∧(∀ x∈s.2,oB x=0)∧0<s.2.length∧s.2.length≤30) (fun s=>s.1.length) (fun s=>Zs l (s.2,s.1)) ⟨h1.cs ha.1,?_,fun x hx=>by rw [List.mem_singleton.1 hx];exact ha.2.1,Nat.le_refl 1,show 1≤30 by decide⟩ ?_ fun b hb=>jb hb
  ·show szL ag.sz [a.1]+15+wt a.2≤wt l
   have:=ha.2.2
   rw [oH];omega
  ·rintro ⟨l25,l26⟩ ⟨hc,hl,hz,h0,h30⟩
   have hc:Cs l l25:=hc
   have hl:szL ag.sz l26+15+wt l25≤wt l:=hl
   have hz:∀ x∈l26,oB x=0:=hz
   have h0:0<l26.length:=h0
   have h30:l26.length≤30:=h30
   show Pn (bz ⟨l,E,o,t⟩ l25 l26) _
   unfold bz
   refine cQ (nC _ (by simp [lit])) fun b hb=>?_
   subst hb
   split
   ·rename_i hi
    split
    ·exact vY (jv dM hE (hc.good g.good))
    ·rename_i hne
     refine cQ (Fi hi (by simp [lit])) fun c hcn=>?_
     have key:∀ n,(n=1∨n = -1)→Pn (cj ⟨l,E,o,t⟩ l26 c.2 n) (Pl E (fun s'=>(Cs l s'.1∧szL ag.sz s'.2+15+wt s'.1≤wt l∧(∀ x∈s'.2,oB x=0)∧0<s'.2.length∧s'.2.length≤30)∧s'.1.length<l25.length) (fun s=>Zs l (s.2,s.1)) (Zs l)):=by
      intro n hn
      unfold cj
      refine sw (GW hn hE ((hc.trans hcn.1).gd g)) fun d hd=>?_
      have w2:=hcn.1.wt
      have w3:=hd.2.2
      have e1:=hcn.1.2
      have e2:=hd.1.2
      rw [iP (nD oM dM)]
      refine bV ⟨⟨(hc.trans hcn.1).trans hd.1,?_,fun x hx=>?_,?_,?_⟩,?_⟩
      ·show szL ag.sz (l26++[d.1])+15+wt d.2≤wt l
       have:=ro ag.sz l26 [d.1]
       rw [oH] at this;omega
      ·rcases List.mem_append.1 hx with h|h
       ·exact hz x h
       ·rw [List.mem_singleton.1 h];exact hd.2.1
      ·show 0<(l26++[d.1]).length
       simp
      ·show (l26++[d.1]).length≤30
       rw [List.length_append,List.length_singleton];omega
      ·show d.2.length<l25.length
       omega
     split
     ·exact key _ (.inr rfl)
     ·exact key _ (.inl rfl)
   ·exact bV ⟨hc,FA hz h0 h30,hl⟩
 unfold cS
 refine cQ (qa [45] dM) fun b hb=>?_
 split
 ·exact hj _ _ (.inr rfl) hb
 ·exact hj _ _ (.inl rfl) hb
theorem zI(y:gu):y.sz=szL ag.sz y.n+2:=by unfold gu.sz szI;omega
theorem Kk(hE:0≤E)(g:Gd E l):Pn (fZ ⟨l,E,o,t⟩) (Po E fun r=>Cs l r.2∧Au r.1=0∧r.1.sz+10+wt r.2≤wt l):=by
 unfold fZ
 refine cQ (nC _ (by simp [lit])) fun b hb=>?_
 subst hb
 split
 ·rename_i hi
  refine cQ (Fi hi (by simp [lit])) fun c hc=>?_
  have w1:=hc.1.wt
  have htx:((c.1.text.getD 0 0).toNat:Int)=105∨((c.1.text.getD 0 0).toNat:Int)=98:=by
   have:=hc.2.2
   simp only [lit,List.mem_cons,List.not_mem_nil,or_false] at this
   rcases this with h|h<;>rw [h]
   ·exact .inl dM
   ·exact .inr dM
  rw [iP (by
   have:=hc.2.2
   simp only [lit,List.mem_cons,List.not_mem_nil,or_false] at this
   rcases this with h|h<;>rw [h]<;>decide)]
  have mk:∀ n:List ag,(n.length>0→gn n=0)→Au (gu.mk ((c.1.text.getD 0 0).toNat:Int) n)=0:=fun n hn=>by
   unfold Au
   simp only
   rw [iP htx]
   by_cases h:n.length>0
   ·rw [iP h,hn h];rfl
   ·rw [iN h];rfl
  refine cQ (qa [94] dM) fun d hd=>?_
  have w2:=hd.wt
  split
  ·refine fF (FB hE (hd.gd (hc.1.gd g))) fun e he=>jb ⟨(hc.1.rd hd).trans he.1,mk _ fun _=>he.2.1,?_⟩
   have:=he.2.2
   rw [zI]
   show szL ag.sz e.1+2+10+wt e.2≤wt l
   omega
  ·refine jb ⟨hc.1.rd hd,mk _ fun h=>absurd h (by simp),?_⟩
   rw [zI]
   show 1+2+10+wt d.2≤wt l
   omega
 ·exact sV (jv dM hE g.good)
theorem GX(hE:0≤E)(g:Gd E l):Pn (fD ⟨l,E,o,t⟩) (Po E fun r=>Cs l r.2∧ku r.1=0∧r.1.sz+20+wt r.2≤wt l):=by
 unfold fD
 refine fF (xD hE g) fun a ha=>?_
 refine fF (iB _ hE (ha.1.good g.good) (by simp [lit])) fun b hb=>?_
 have w1:=ha.2.2
 have w2:=hb.wt
 refine fF (Kk hE ((ha.1.trans hb).gd g)) fun c hc=>jb ⟨(ha.1.trans hb).trans hc.1,?_,?_⟩
 ·unfold ku
  simp only
  rw [iP ha.2.1,hc.2.1];rfl
 ·have w3:=hc.2.2
  have e:=zo (aw.mk a.1 c.1)
  rw [zI] at w3
  unfold szS szI at e
  simp only at e
  show (aw.mk a.1 c.1).sz+20+wt c.2≤wt l
  omega
abbrev Rw{T:Type}(F:T→Int)(w:T→Nat)(most:Int)(l:List aa)(r:List T×List aa):Prop:=Cs l r.2∧(∀ x∈r.1,F x=0)∧szL w r.1+10+wt r.2≤wt l∧0<r.1.length∧(r.1.length:Int)≤most
theorem vl{T:Type}{F:T→Int}{w:T→Nat}{most:Int}(g:Gd E l){body:List aa×List T→Option ((List aa×List T) ⊕ ((List T×List aa) ⊕ (Int×Int)))}
  (hb:∀ (m:List aa) (acc:List T),Rd l m→(acc.length:Int)≤most→acc.length≤9000000→(acc.length:Int)=most→Pn (body (m,acc)) (Sum.elim (fun _=>False) (Po E fun _=>False)))
  (hs:∀ (m:List aa) (acc:List T),Rd l m→¬ (acc.length:Int)=most→acc.length≤9000000→Pn (body (m,acc)) (Sum.elim (fun s=>∃ x m',s=(m',acc++[x])∧Cs m m'∧F x=0∧w x+11+wt m'≤wt m) (Po E fun r=>∃ x m',r=(acc++[x],m')∧Cs m m'∧F x=0∧w x+11+wt m'≤wt m))) (hm:0≤most∧most≤1000) :
  Pn (dh body (l,[])) (Po E (Rw F w most l)):=by
 refine sW (fun s=>Rd l s.1∧(∀ x∈s.2,F x=0)∧szL w s.2+wt s.1≤wt l+1∧(s.2.length:Int)≤most) (fun s=>s.1.length) ⟨Rd.refl _,(fun _ h=>nomatch h),by show 1+wt l≤_;omega,by show ((0:Nat):Int)≤most;omega⟩ ?_
 rintro ⟨m,acc⟩ ⟨h1,h2,h3,h4⟩
 have h1:Rd l m:=h1
 have h2:∀ x∈acc,F x=0:=h2
 have h3:szL w acc+wt m≤wt l+1:=h3
 have h4:(acc.length:Int)≤most:=h4
 have app:∀ x,F x=0→∀ y∈acc++[x],F y=0:=fun x hx y hy=>by
  rcases List.mem_append.1 hy with h|h
  ·exact h2 y h
  ·rw [List.mem_singleton.1 h];exact hx
 have sz:∀ x,szL w (acc++[x])=szL w acc+w x:=fun x=>by
  have:=ro w acc [x]
  rw [oH] at this;omega
 by_cases hc:(acc.length:Int)=most
 ·refine vX (hb m acc h1 h4 oM hc) fun a ha=>?_
  cases a with
  |inl s=>exact ha.elim
  |inr r =>
   cases r with
   |inl r=>exact ha.elim
   |inr f=>exact ha
 ·refine vX (hs m acc h1 hc oM) fun a ha=>?_
  cases a with
  |inl s =>
   obtain ⟨x,m',rfl,k1,k2,k3⟩:=ha
   refine ⟨⟨(h1.cs k1).1,app x k2,?_,?_⟩,k1.2⟩
   ·show szL w (acc++[x])+wt m'≤_
    rw [sz];omega
   ·show ((acc++[x]).length:Int)≤most
    rw [List.length_append,List.length_singleton];omega
  |inr r =>
   cases r with
   |inl r =>
    obtain ⟨x,m',rfl,k1,k2,k3⟩:=ha
    refine ⟨h1.cs k1,app x k2,?_,?_,?_⟩
    ·show szL w (acc++[x])+10+wt m'≤wt l
     have:=k1.wt
     rw [sz]
     have:=ip (f:=w)
     omega
    ·show 0<(acc++[x]).length
     simp
    ·show ((acc++[x]).length:Int)≤most
     rw [List.length_append,List.length_singleton];omega
   |inr f=>exact ha
end
theorem vm{α β:Type}{E:Int}{m1:List aa}{acc:List β}{m:Option (α ⊕ (Int×Int))}{mb:α→Option (Bool×List aa)}{tl:α→List aa}{f:α→β}{F:β→Int}{w:β→Nat}{rm:Nat}
  (hm:Pn m (Po E fun a=>Cs m1 (tl a)∧F (f a)=0∧w (f a)+11+wt (tl a)≤wt m1)) (hb:∀ a,Cs m1 (tl a)→Pn (mb a) (fun r=>Rd (tl a) r.2)) (hr:acc.length+1≤9000001) (hrm:rm≤1000) :
  Pn (m.bind fun y=>Sum.elim (fun a=>if lK (acc.length+1) rm then ((mb a).bind fun b=>if b.1=true then some (.inl (b.2,acc++lit [f a])) else some (.inr (.inl (acc++lit [f a],b.2)))) else none) (fun z=>some (.inr (.inr (z.1,z.2)))) y:Option ((List aa×List β) ⊕ ((List β×List aa) ⊕ (Int×Int))))
   (Sum.elim (fun s=>∃ x m',s=(m',acc++[x])∧Cs m1 m'∧F x=0∧w x+11+wt m'≤wt m1) (Po E fun r=>∃ x m',r=(acc++[x],m')∧Cs m1 m'∧F x=0∧w x+11+wt m'≤wt m1)):=by
 obtain ⟨y,rfl,hy⟩:=hm
 cases y with
 |inr z=>exact bV hy
 |inl a =>
  have hy:Cs m1 (tl a)∧F (f a)=0∧w (f a)+11+wt (tl a)≤wt m1:=hy
  show Pn (if lK (acc.length+1) rm then _ else none) _
  rw [iP (nD hr hrm)]
  refine cQ (hb a hy.1) fun b hb'=>?_
  have hw:=hb'.wt
  split
  ·exact bV ⟨f a,b.2,rfl,hy.1.rd hb',hy.2.1,by omega⟩
  ·exact bV ⟨f a,b.2,rfl,hy.1.rd hb',hy.2.1,by omega⟩
section
variable {E o t:Int} {l:List aa}
theorem xF{w:Ω}(h:fJ w=true):jq w=0:=by unfold jq;rw [iP h]
theorem xG(n:Int)(hn:0≤n∧n≤1000)(hE:0≤E)(g:Gd E l):Pn (fm n ⟨l,E,o,t⟩) (Po E (Rw jq szS n l)):=by
 unfold fm
 refine cQ (P:=Po E (Rw jq szS n l)) ?_ fun a ha=>bV ha
 refine vl g (fun m acc h1 h2 h3 h4=>?_) (fun m acc h1 h2 h3=>?_) hn
 ·show Pn (cD n ⟨l,E,o,t⟩ m acc) _
  unfold cD
  rw [iP h4]
  exact cQ (jv dM hE (h1.good g.good)) fun a ha=>bV ha
 ·show Pn (cD n ⟨l,E,o,t⟩ m acc) _
  unfold cD
  rw [iN h2]
  exact vm (acc:=acc) (F:=jq) (w:=szS) (rm:=16) (tl:=fun a=>a.2) (f:=fun a=>a.1) (lT (xD hE (h1.gd g)) fun a ha=>⟨ha.1,xF ha.2.1,by have:=ha.2.2;unfold szS;omega⟩) (fun a _=>qa [44] dM) oM dM
theorem xH(n:Int)(hn:0≤n∧n≤1000)(hE:0≤E)(g:Gd E l):Pn (fb n ⟨l,E,o,t⟩) (Po E (Rw ku aw.sz n l)):=by
 unfold fb
 refine cQ (P:=Po E (Rw ku aw.sz n l)) ?_ fun a ha=>bV ha
 refine vl g (fun m acc h1 h2 h3 h4=>?_) (fun m acc h1 h2 h3=>?_) hn
 ·show Pn (cG n ⟨l,E,o,t⟩ m acc) _
  unfold cG
  rw [iP h4]
  exact cQ (jv dM hE (h1.good g.good)) fun a ha=>bV ha
 ·show Pn (cG n ⟨l,E,o,t⟩ m acc) _
  unfold cG
  rw [iN h2]
  exact vm (acc:=acc) (F:=ku) (w:=aw.sz) (rm:=48) (tl:=fun a=>a.2) (f:=fun a=>aw.mk a.1.name a.1.t) (lT (GX hE (h1.gd g)) fun a ha=>⟨ha.1,ha.2.1,by have:=ha.2.2;show a.1.sz+11+wt a.2≤wt m;omega⟩) (fun a _=>qa [44] dM) oM dM
theorem BY(n:Int)(hn:0≤n∧n≤1000)(hE:0≤E)(g:Gd E l):Pn (fO n ⟨l,E,o,t⟩) (Po E (Rw gn (szL ag.sz) n l)):=by
 unfold fO
 refine cQ (P:=Po E (Rw gn (szL ag.sz) n l)) ?_ fun a ha=>bV ha
 refine vl g (fun m acc h1 h2 h3 h4=>?_) (fun m acc h1 h2 h3=>?_) hn
 ·show Pn (cH n ⟨l,E,o,t⟩ m acc) _
  unfold cH
  rw [iP h4]
  exact cQ (jv dM hE (h1.good g.good)) fun a ha=>bV ha
 ·show Pn (cH n ⟨l,E,o,t⟩ m acc) _
  unfold cH
  rw [iN h2]
  exact vm (acc:=acc) (F:=gn) (w:=szL ag.sz) (rm:=24) (tl:=fun a=>a.2) (f:=fun a=>a.1) (lT (FB hE (h1.gd g)) fun a ha=>⟨ha.1,ha.2.1,by have:=ha.2.2;omega⟩) (fun a _=>qa [44] dM) oM dM
end
theorem sD{op k n:Int}{w:Ω}{S:List (List ag)}{L:List ae}(hf:jX op k n w S.length L.length)(hw:op=3→fJ w=true)(h0:0≤n)(h1:n<1000000000000000000)(hS:∀ s∈S,gn s=0)(hL:∀ y∈L,exF y=0):exF (ae.mk op k n w S L)=0:=by
 rw [u9]
 simp only
 rw [iP hf,iN (show ¬ (n<0∨1000000000000000000≤n) by omega),pQ hS,pQ hL]
 by_cases h3:op=3
 ·rw [iP h3,iP (hw h3)];rfl
 ·rw [iN h3];rfl
theorem yJ(op k n:Int)(w:Ω)(S:List (List ag))(L:List ae):(ae.mk op k n w S L).sz=w.length+szL (szL ag.sz) S+ae.szs L+6:=by rw [nP];simp only;omega
theorem yK(op k n:Int)(w:Ω)(S:List (List ag))(L:List ae):pn (ae.mk op k n w S L)=1+pns L:=tB _
theorem ky(x:ae)(l:List ae):ae.szs (x :: l)=x.sz+ae.szs l:=by rw [ae.szs]
theorem pR:ae.szs []=0:=by rw [ae.szs]
theorem pS:pns []=0:=by rw [pns]
theorem GG(a b:List ae):ae.szs (a++b)=ae.szs a+ae.szs b:=by
 induction a with
 |nil=>rw [List.nil_append,pR,Nat.zero_add]
 |cons x a ih=>rw [List.cons_append,ky,ky,ih];omega
theorem GH(a b:List ae):pns (a++b)=pns a+pns b:=by
 induction a with
 |nil=>rw [List.nil_append,pS,Nat.zero_add]
 |cons x a ih=>rw [List.cons_append,fl,fl,ih];omega
abbrev Ex2(l:List aa)(o t:Int)(r:ae×List aa×Int×Int):Prop:=Cs l r.2.1∧r.2.2.1=o∧exF r.1=0∧r.1.sz+12+wt r.2.1≤wt l∧r.2.2.2=t+(pn r.1:Int)
abbrev Tm(t:Int)(l:List aa):Prop:=0≤t∧t+(wt l:Int)≤10000000
theorem Ex2.tr{l:List aa}{o t:Int}{r:ae×List aa×Int×Int}(h:Ex2 l o t r)(k:Tm t l):Tm r.2.2.2 r.2.1:=by
 obtain ⟨h1,h2,h3,h4,h5⟩:=h
 have:=CC r.1
 exact ⟨by rw [h5];have:=k.1;omega,by rw [h5];have:=k.2;omega⟩
theorem Tm.rd{t:Int}{a b:List aa}(h:Tm t a)(k:Rd a b):Tm t b:=⟨h.1,by have:=k.wt;have:=h.2;omega⟩
def RK2(E:Int)(rc:Int→af→Option RX)(k:Int):Prop :=
 ∀ (n o t:Int) (l:List aa),0≤n→n≤5→0≤o→o≤60→7 * (60 - o)+(6 - n)≤k→Gd E l→Tm t l→Pn (rc n ⟨l,E,o,t⟩) (Po E (Ex2 l o t))
def AK2(E om:Int)(rc:af→Option RX)(k:Int):Prop :=
 ∀ (o t:Int) (l:List aa),om≤o→o≤60→61 - o≤k→Gd E l→Tm t l→Pn (rc ⟨l,E,o,t⟩) (Po E (Ex2 l o t))
section
variable {E o t k:Int} {l:List aa} {rc:Int→af→Option RX}
theorem v7(ho0:0≤o)(ho:o≤60)(hE:0≤E)(g:Gd E l)(hx:Nx l){X:af→Option RX}{H:List aa→ae→List aa→Int→Prop}
  (hX:∀ l1,Cs l l1→o<60→Pn (X ⟨l1,E,o+1,t⟩) (Po E fun r=>Cs l1 r.2.1∧r.2.2.1=o+1∧H l1 r.1 r.2.1 r.2.2.2)) :
  Pn (if o=60 then (aD 6 ⟨l,E,o,t⟩).bind (fun y=>some (.inr (y.1,y.2))) else (aM ⟨l,E,IntKind.wrap .i64 (o+1),t⟩).bind fun y2 =>
   (X ⟨y2.2,E,IntKind.wrap .i64 (o+1),t⟩).bind fun y3=>Sum.elim (fun y6=>some (.inl (y6.1,y6.2.1,IntKind.wrap .i64 (y6.2.2.1 - 1),y6.2.2.2))) (fun y7=>some (.inr (y7.1,y7.2))) y3) (Po E fun r=>Cs l r.2.1∧r.2.2.1=o∧∃ l1,Cs l l1∧H l1 r.1 r.2.1 r.2.2.2):=by
 split
 ·exact sV (jv dM hE g.good)
 ·rw [wr oM oM]
  refine cQ (AW hx) fun y hy=>?_
  refine fF (hX _ hy oM) fun a ha=>jb ⟨hy.trans ha.1,?_,_,hy,ha.2.2⟩
  show IntKind.wrap .i64 (a.2.2.1 - 1)=o
  rw [ha.2.1,wr oM oM];omega
theorem FC(ho0:0≤o)(ho:o≤60)(hE:0≤E)(g:Gd E l)(ht:Tm t l)(hr:RK2 E rc k)(hk:7 * (60 - o)+6≤k):Pn (dr rc ⟨l,E,o,t⟩) (Po E (Ex2 l o t)):=by
 unfold dr
 refine fF (hr 0 o t l dM dM ho0 ho oM g ht) fun a ha=>?_
 refine fF (iB _ hE (ha.1.good g.good) (by simp [lit])) fun b hb=>jb ⟨ha.1.trans hb,ha.2.1,ha.2.2.1,?_,ha.2.2.2.2⟩
 have:=ha.2.2.2.1
 have:=hb.wt
 show a.1.sz+12+wt b≤wt l
 omega
theorem Jt:jX 6 0 0 [] 0 3:=by unfold jX nL;simp
theorem Ij:jX 11 0 0 [] 0 3:=by unfold jX nL;simp
theorem Ju{k:Int}(h:k=13∨k=14):jX 4 k 0 [] 0 1:=by unfold jX nL;rcases h with rfl|rfl<;>simp
theorem Jv{k:Int}(h:1≤k∧k≤12):jX 5 k 0 [] 0 2:=by unfold jX nL;simp;omega
theorem Jw(n:Int):jX 1 0 n [] 0 0:=by unfold jX nL;simp
theorem Jx{n:Int}(h:n=0∨n=1):jX 2 0 n [] 0 0:=by unfold jX nL;rcases h with rfl|rfl<;>simp
theorem Jy(w:Ω):jX 3 0 0 w 0 0:=by unfold jX nL;simp
theorem FD(ho0:0≤o)(ho:o≤60)(hE:0≤E)(g:Gd E l)(ht:Tm t l)(hr:RK2 E rc k)(hk:7 * (60 - o)+6≤k):Pn (dt rc ⟨l,E,o,t⟩) (Po E (Ex2 l o t)):=by
 unfold dt
 refine fF (hr 0 o t l dM dM ho0 ho oM g ht) fun a ha=>?_
 have ga:=ha.1.gd g
 have ta:=Ex2.tr ha ht
 refine fF (iB _ hE ga.good (by simp [lit])) fun b hb=>?_
 have gb:=hb.gd ga
 simp only [ha.2.1]
 refine fF (hr 0 o _ _ dM dM ho0 ho oM gb (ta.rd hb.1)) fun c hc=>?_
 have gc:=hc.1.gd gb
 have tc:=Ex2.tr hc (ta.rd hb.1)
 refine fF (iB _ hE gc.good (by simp [lit])) fun d hd=>?_
 have gd':=hd.gd gc
 simp only [hc.2.1]
 refine fF (hr 0 o _ _ dM dM ho0 ho oM gd' (tc.rd hd.1)) fun e he=>?_
 have te:=Ex2.tr he (tc.rd hd.1)
 have h1:=ha.2.2.2.1
 have h2:=hb.wt
 have h3:=hc.2.2.2.1
 have h4:=hd.wt
 have h5:=he.2.2.2.1
 have k1:=ha.2.2.2.2
 have k3:=hc.2.2.2.2
 have k5:=he.2.2.2.2
 refine jb ⟨(((ha.1.trans hb).trans hc.1).trans hd).trans he.1,he.2.1,sD Jt (fun h=>absurd h (show ¬ (6:Int)=3 by decide)) (show (0:Int)≤0 by decide) (show (0:Int)<1000000000000000000 by decide) (fun _ h=>nomatch h) fun y hy=>?_,?_,?_⟩
 ·simp only [lit,List.mem_cons,List.not_mem_nil,or_false] at hy
  rcases hy with rfl|rfl|rfl
  ·exact ha.2.2.1
  ·exact hc.2.2.1
  ·exact he.2.2.1
 ·show (ae.mk 6 0 0 [] [] [a.1,c.1,e.1]).sz+12+wt e.2.1≤wt l
  rw [yJ,ky,ky,ky,pR]
  show 0+1+_+6+12+wt e.2.1≤wt l
  omega
 ·show IntKind.wrap .i64 (e.2.2.2+1)=t+((pn (ae.mk 6 0 0 [] [] [a.1,c.1,e.1]):Nat):Int)
  have:=te.1
  have:=te.2
  rw [wr oM oM,yK]
  rw [fl,fl,fl,pS]
  omega
theorem DP(x:ae)(hx:exF x=0)(ho0:0≤o)(ho:o≤60)(hE:0≤E)(g:Gd E l)(ht:Tm t l)(hr:RK2 E rc k)(hk:7 * (60 - o)+6≤k) :
  Pn (db rc x ⟨l,E,o,t⟩) (Po E fun r=>Cs l r.2.1∧r.2.2.1=o∧exF r.1=0∧r.1.sz+12+wt r.2.1≤x.sz+wt l∧r.2.2.2+(pn x:Int)=t+(pn r.1:Int)):=by
 unfold db
 refine fF (hr 0 o t l dM dM ho0 ho oM g ht) fun a ha=>?_
 have ga:=ha.1.gd g
 have ta:=Ex2.tr ha ht
 refine fF (iB _ hE ga.good (by simp [lit])) fun b hb=>?_
 have gb:=hb.gd ga
 simp only [ha.2.1]
 refine fF (hr 0 o _ _ dM dM ho0 ho oM gb (ta.rd hb.1)) fun c hc=>?_
 have gc:=hc.1.gd gb
 have tc:=Ex2.tr hc (ta.rd hb.1)
 refine yC rfl ?_
 refine fF (iB _ hE gc.good (by simp [lit])) fun d hd=>?_
 have h1:=ha.2.2.2.1
 have h2:=hb.wt
 have h3:=hc.2.2.2.1
 have h4:=hd.wt
 have k1:=ha.2.2.2.2
 have k3:=hc.2.2.2.2
 refine jb ⟨((ha.1.trans hb).trans hc.1).trans hd,hc.2.1,sD Ij (fun h=>absurd h (show ¬ (11:Int)=3 by decide)) (show (0:Int)≤0 by decide) (show (0:Int)<1000000000000000000 by decide) (fun _ h=>nomatch h) fun y hy=>?_,?_,?_⟩
 ·simp only [lit,List.mem_cons,List.not_mem_nil,or_false] at hy
  rcases hy with rfl|rfl|rfl
  ·exact hx
  ·exact ha.2.2.1
  ·exact hc.2.2.1
 ·show (ae.mk 11 0 0 [] [] [x,a.1,c.1]).sz+12+wt d≤x.sz+wt l
  rw [yJ,ky,ky,ky,pR]
  show 0+1+_+6+12+wt d≤x.sz+wt l
  omega
 ·show IntKind.wrap .i64 (c.2.2.2+1)+(pn x:Int)=t+((pn (ae.mk 11 0 0 [] [] [x,a.1,c.1]):Nat):Int)
  have:=tc.1
  have:=tc.2
  rw [wr oM oM,yK]
  rw [fl,fl,fl,pS]
  omega
theorem BZ{om n:Int}{ra:af→Option RX}(hn:n=13∨n=14)(ho0:om≤o)(ho:o≤60)(g:Gd E l)(ht:Tm t l)(hr:AK2 E om ra k)(hk:61 - o≤k) :
  Pn (cJ ra n ⟨l,E,o,t⟩) (Po E fun r=>Cs l r.2.1∧r.2.2.1=o∧exF r.1=0∧r.1.sz+5+wt r.2.1≤wt l∧r.2.2.2=t+(pn r.1:Int)):=by
 unfold cJ
 refine fF (hr o t l ho0 ho hk g ht) fun a ha=>jb ⟨ha.1,ha.2.1,sD (Ju hn) (fun h=>absurd h (show ¬ (4:Int)=3 by decide)) (show (0:Int)≤0 by decide) (show (0:Int)<1000000000000000000 by decide) (fun _ h=>nomatch h) fun y hy=>by rw [List.mem_singleton.1 hy];exact ha.2.2.1,?_,?_⟩
 ·have h1:=ha.2.2.2.1
  show (ae.mk 4 n 0 [] [] [a.1]).sz+5+wt a.2.1≤wt l
  rw [yJ,ky,pR]
  show 0+1+_+6+5+wt a.2.1≤wt l
  omega
 ·show IntKind.wrap .i64 (a.2.2.2+1)=t+((pn (ae.mk 4 n 0 [] [] [a.1]):Nat):Int)
  have tc:=Ex2.tr ha ht
  have:=tc.1
  have:=tc.2
  have:=ha.2.2.2.2
  rw [wr oM oM,yK]
  rw [fl,pS]
  omega
theorem DQ(hE:0≤E)(g:Gd E l):Pn (cP ⟨l,E,o,t⟩) (Po E fun r=>Cs l r.2∧1≤r.1∧r.1≤14):=by
 unfold cP
 refine cQ CQ fun w hw=>?_
 refine yC (sZ _ _ (by simp [lit])) ?_
 split
 ·exact sV (jv dM hE g.good)
 ·rename_i h
  have hlt:=vZ (L:=lit [([]:Ω),[97,100,100],[115,117,98],[109,117,108],[100,105,118],[109,111,100],[109,105,110],[109,97,120],[108,101,115,115],[101,113],[97,110,100],[111,114],[120,111,114],[110,101,103],[110,111,116]]) (x:=w)
  have hlt:lS (lit [([]:Ω),[97,100,100],[115,117,98],[109,117,108],[100,105,118],[109,111,100],[109,105,110],[109,97,120],[108,101,115,115],[101,113],[97,110,100],[111,114],[120,111,114],[110,101,103],[110,111,116]]) w<15:=hlt
  have hm:=uD (L:=lit [([]:Ω),[97,100,100],[115,117,98],[109,117,108],[100,105,118],[109,111,100],[109,105,110],[109,97,120],[108,101,115,115],[101,113],[97,110,100],[111,114],[120,111,114],[110,101,103],[110,111,116]]) (x:=w) oM
  have hne:w≠[]:=fun e=>h (by rw [e];decide)
  obtain ⟨x,r,rfl,hx⟩:=hw hne
  refine cQ (AW ⟨x,r,rfl,rj (W:=lit _) (hx ▸ hm) (by simp [lit])⟩) fun y hy=>jb ⟨hy,?_,?_⟩
  ·show 1≤lS _ w
   omega
  ·show lS _ w≤14
   omega
def Np(op:Int)(n:Nat):Prop:=(op=7∧(n=1∨n=2))∨(op=12∧n=3)∨((op=10∨op=13)∧n=1)∨(¬ (op=7∨op=12∨op=10∨op=13)∧n=2)
theorem Ik{n:Int}(hn:0≤n∧n≤100)(ho0:0≤o)(ho:o≤60)(hE:0≤E)(g:Gd E l)(ht:Tm t l)(hr:RK2 E rc k)(hk:7 * (60 - o)+6≤k) :
  Pn (dy rc n ⟨l,E,o,t⟩) (Po E fun r=>Cs l r.2.1∧r.2.2.1=o∧(∀ y∈r.1,exF y=0)∧ae.szs r.1+12+wt r.2.1≤wt l∧r.2.2.2=t+(pns r.1:Int)∧Np n r.1.length):=by
 unfold dy
 refine fF (hr 0 o t l dM dM ho0 ho oM g ht) fun a ha=>?_
 have hj:∀ x6:Int,1≤x6→x6≤3→Np n x6.toNat→Pn (bp rc ⟨l,E,o,t⟩ a x6) (Po E fun r=>Cs l r.2.1∧r.2.2.1=o∧(∀ y∈r.1,exF y=0)∧ae.szs r.1+12+wt r.2.1≤wt l∧r.2.2.2=t+(pns r.1:Int)∧Np n r.1.length):=by
  intro x6 h61 h63 hnp
  unfold bp
  refine sX (fun s=>Cs l s.1∧s.2.1=o∧(∀ y∈s.2.2.2,exF y=0)∧ae.szs s.2.2.2+12+wt s.1≤wt l∧s.2.2.1=t+(pns s.2.2.2:Int)∧(s.2.2.2.length:Int)≤x6) (fun s=>s.1.length) (fun s=>Cs l s.1∧s.2.1=o∧(∀ y∈s.2.2.2,exF y=0)∧ae.szs s.2.2.2+12+wt s.1≤wt l∧s.2.2.1=t+(pns s.2.2.2:Int)∧(s.2.2.2.length:Int)=x6)
   ⟨ha.1,ha.2.1,fun y hy=>by rw [List.mem_singleton.1 hy];exact ha.2.2.1,?_,?_,?_⟩ ?_ fun b hb=>jb ⟨hb.1,hb.2.1,hb.2.2.1,hb.2.2.2.1,hb.2.2.2.2.1,by have:=hb.2.2.2.2.2;rw [← this,tN] at hnp;exact hnp⟩
  ·have:=ha.2.2.2.1
   show ae.szs [a.1]+12+wt a.2.1≤wt l
   rw [ky,pR];omega
  ·have:=ha.2.2.2.2
   show a.2.2.2=t+((pns [a.1]:Nat):Int)
   rw [fl,pS];omega
  ·show ((1:Nat):Int)≤x6
   omega
  ·rintro ⟨l30,x31,x32,l33⟩ ⟨hc,hx,hv,hz,hp,hl⟩
   have hc:Cs l l30:=hc
   have hx:x31=o:=hx
   have hv:∀ y∈l33,exF y=0:=hv
   have hz:ae.szs l33+12+wt l30≤wt l:=hz
   have hp:x32=t+(pns l33:Int):=hp
   have hl:(l33.length:Int)≤x6:=hl
   subst hx
   have hpl:=w6 l33
   have t30:Tm x32 l30:=⟨by have:=ht.1;omega,by have:=ht.2;omega⟩
   show Pn (bC rc ⟨l,E,x31,t⟩ x6 l30 x31 x32 l33) _
   unfold bC
   split
   ·rename_i hlt
    refine sw (iB _ hE (hc.good g.good) (by simp [lit])) fun b hb=>?_
    refine sw (hr 0 x31 _ _ dM dM ho0 ho oM ((hc.trans hb).gd g) (t30.rd hb.1)) fun c hcc=>?_
    have e1:=hb.wt
    have e2:=hcc.2.2.2.1
    have e3:=hcc.2.2.2.2
    rw [iP (nD oM dM)]
    refine bV ⟨⟨(hc.trans hb).trans hcc.1,hcc.2.1,fun y hy=>?_,?_,?_,?_⟩,?_⟩
    ·rcases List.mem_append.1 hy with h|h
     ·exact hv y h
     ·rw [List.mem_singleton.1 h];exact hcc.2.2.1
    ·show ae.szs (l33++[c.1])+12+wt c.2.1≤wt l
     rw [GG,ky,pR];omega
    ·show c.2.2.2=t+((pns (l33++[c.1]):Nat):Int)
     rw [GH,fl,pS];omega
    ·show ((l33++[c.1]).length:Int)≤x6
     rw [List.length_append,List.length_singleton];omega
    ·have:=(hb.trans hcc.1).2
     show c.2.1.length<l30.length
     omega
   ·rename_i hlt
    exact bV ⟨hc,rfl,hv,hz,hp,by show (l33.length:Int)=x6;omega⟩
 rw [iP dM,iP dM,iP dM,iP oM]
 have tab:∀ v:Int,v=(pY (((12,3):Int×Int) :: (((7,1):Int×Int) :: (((13,1):Int×Int) :: (((10,1):Int×Int) :: ([]:List (Int×Int)))))) n).getD 0→(n=12∧v=3)∨((n=7∨n=13∨n=10)∧v=1)∨(¬ (n=7∨n=12∨n=10∨n=13)∧v=0):=by
  intro v hv
  by_cases c12:n=12
  ·subst c12;exact .inl ⟨rfl,hv⟩
  by_cases c7:n=7
  ·subst c7;exact .inr (.inl ⟨.inl rfl,hv⟩)
  by_cases c13:n=13
  ·subst c13;exact .inr (.inl ⟨.inr (.inl rfl),hv⟩)
  by_cases c10:n=10
  ·subst c10;exact .inr (.inl ⟨.inr (.inr rfl),hv⟩)
  ·refine .inr (.inr ⟨by omega,?_⟩)
   rw [hv]
   simp [pY,c12,c7,c13,c10,Ne.symm c12,Ne.symm c7,Ne.symm c13,Ne.symm c10]
 obtain ⟨v,hv⟩:∃ v,v=(pY (((12,3):Int×Int) :: (((7,1):Int×Int) :: (((13,1):Int×Int) :: (((10,1):Int×Int) :: ([]:List (Int×Int)))))) n).getD 0:=⟨_,rfl⟩
 have hT:=tab v hv
 rw [← hv]
 split
 ·exact hj _ dM dM (by show Np n 2;unfold Np;omega)
 ·split
  ·rename_i c7
   refine cQ (nC _ (by simp [lit])) fun b hb=>?_
   split
   ·exact hj _ dM dM (by show Np n 2;unfold Np;omega)
   ·exact hj v oM oM (by unfold Np;omega)
  ·exact hj v oM oM (by unfold Np;omega)
end
section
variable {E o t k:Int} {l:List aa} {rc:Int→af→Option RX}
def Ns(op:Int):Nat:=if op=13 then 2 else if op=10 then 1 else 0
theorem Il(op:Int):(pY (((13,2):Int×Int) :: (((10,1):Int×Int) :: ([]:List (Int×Int)))) op).getD 0=(Ns op:Int):=by
 unfold Ns
 by_cases c13:op=13
 ·subst c13;rfl
 by_cases c10:op=10
 ·subst c10;rfl
 simp [pY,c13,c10,Ne.symm c13,Ne.symm c10]
theorem Ba{op k:Int}{L:List ae}{S:List (List ag)}(hop:op=5∨op=7∨op=8∨op=9∨op=10∨op=12∨op=13∨op=14∨op=15)(hk:(op=5→k=6∨k=7)∧(op=7∨op=8∨op=9→1≤k∧k≤14)∧(¬ (op=5∨op=7∨op=8∨op=9)→k=0))(hL:Np op L.length)(hS:S.length=Ns op):jX op k 0 [] S.length L.length:=by
 rw [hS]
 unfold Np at hL
 unfold jX Ns
 obtain ⟨h5,h7,h0⟩:=hk
 rcases hop with rfl|rfl|rfl|rfl|rfl|rfl|rfl|rfl|rfl<;>simp [nL] at h5 h7 h0 hL ⊢<;>omega
abbrev Fm(l:List aa)(o t op:Int)(r:Int×Int×Int×Ω×List ae×Int×List ae×List aa×Int×Int×List (List ag)):Prop :=
 Cs l r.2.2.2.2.2.2.2.1∧r.2.2.2.2.2.2.2.2.1=o∧exF (ae.mk r.1 r.2.1 r.2.2.1 r.2.2.2.1 r.2.2.2.2.2.2.2.2.2.2 r.2.2.2.2.1)=0∧(ae.mk r.1 r.2.1 r.2.2.1 r.2.2.2.1 r.2.2.2.2.2.2.2.2.2.2 r.2.2.2.2.1).sz+10+wt r.2.2.2.2.2.2.2.1≤wt l∧r.2.2.2.2.2.2.2.2.2.1=t+((pn (ae.mk r.1 r.2.1 r.2.2.1 r.2.2.2.1 r.2.2.2.2.2.2.2.2.2.2 r.2.2.2.2.1):Nat):Int)
theorem FE{op k0:Int}{p6:List ae}(hop:op=5∨op=7∨op=8∨op=9∨op=10∨op=12∨op=13∨op=14∨op=15)(hk0:(op=5→k0=6∨k0=7)∧(¬ op=5→k0=0))(ho0:0≤o)(ho:o≤60)(hE:0≤E)(g:Gd E l)(ht:Tm t l)(hr:RK2 E rc k)(hk:7 * (60 - o)+6≤k) :
  Pn (du rc op op k0 0 [] p6 ⟨l,E,o,t⟩ []) (Po E (Fm l o t op)):=by
 have hj:∀ (x6:Int) (l7:List aa),Cs l l7→((op=5→x6=6∨x6=7)∧(op=7∨op=8∨op=9→1≤x6∧x6≤14)∧(¬ (op=5∨op=7∨op=8∨op=9)→x6=0))→Pn (bD rc op op 0 [] ⟨l,E,o,t⟩ [] x6 l7) (Po E (Fm l o t op)):=by
  intro x6 l7 h7 hx6
  unfold bD
  refine fF (Ik oM ho0 ho hE (h7.gd g) (ht.rd h7.1) hr hk) fun a ha=>?_
  obtain ⟨a1,a2,a3,a4,a5,a6⟩:=ha
  have a2:a.2.2.1=o:=a2
  have a5:a.2.2.2=t+(pns a.1:Int):=a5
  rw [iP dM,iP oM]
  have w7:=h7.wt
  refine sX (fun s=>Rd a.2.1 s.1∧szL (szL ag.sz) s.2.1+wt s.1≤wt a.2.1+1∧(∀ y∈s.2.1,gn y=0)∧s.2.2=(s.2.1.length:Int)∧s.2.1.length≤Ns op) (fun s=>s.1.length) (fun s=>Rd a.2.1 s.1∧szL (szL ag.sz) s.2+wt s.1≤wt a.2.1+1∧(∀ y∈s.2,gn y=0)∧s.2.length=Ns op) ⟨Rd.refl _,?_,(fun _ h=>nomatch h),rfl,Nat.zero_le _⟩ ?_ ?_
  ·show 1+wt a.2.1≤_
   omega
  ·rintro ⟨l38,l39,x41⟩ ⟨hc0,hl,hs,hx,hn⟩
   have hc0:Rd a.2.1 l38:=hc0
   have hs:∀ y∈l39,gn y=0:=hs
   have hc:Cs l l38:=(h7.trans a1).rd hc0
   have hl:szL (szL ag.sz) l39+wt l38≤wt a.2.1+1:=hl
   have hx:x41=(l39.length:Int):=hx
   have hn:l39.length≤Ns op:=hn
   have hns:Ns op≤2:=by unfold Ns;split<;>(try split)<;>omega
   subst hx
   show Pn (bq op ⟨l,E,o,t⟩ a l38 l39 (l39.length:Int)) _
   unfold bq
   rw [Il]
   split
   ·rename_i hlt
    refine sw (iB _ hE (hc.good g.good) (by simp [lit])) fun b hb=>?_
    refine sw (FB hE ((hc.trans hb).gd g)) fun c hcs=>?_
    have e1:=hb.wt
    have e2:=hcs.2.2
    rw [iP (nD oM dM),wrs l39.length oM]
    refine bV ⟨⟨(hc0.cs (hb.trans hcs.1)).1,?_,fun y hy=>?_,?_,?_⟩,?_⟩
    ·show szL (szL ag.sz) (l39++[c.1])+wt c.2≤wt a.2.1+1
     have:=ro (szL ag.sz) l39 [c.1]
     rw [oH] at this;omega
    ·rcases List.mem_append.1 hy with h|h
     ·exact hs y h
     ·rw [List.mem_singleton.1 h];exact hcs.2.1
    ·show ((l39.length+1:Nat):Int)=((l39++[c.1]).length:Int)
     rw [List.length_append,List.length_singleton]
    ·show (l39++[c.1]).length≤Ns op
     rw [List.length_append,List.length_singleton];omega
    ·have:=(hb.trans hcs.1).2
     show c.2.length<l38.length
     omega
   ·rename_i hlt
    exact bV ⟨hc0,hl,hs,by show l39.length=Ns op;omega⟩
  ·rintro ⟨l15,l16⟩ ⟨hc0,hl,hs,hn⟩
   show Pn (cC op 0 [] ⟨l,E,o,t⟩ x6 a l15 l16) _
   unfold cC
   have hc0:Rd a.2.1 l15:=hc0
   have hs:∀ y∈l16,gn y=0:=hs
   have hl:szL (szL ag.sz) l16+wt l15≤wt a.2.1+1:=hl
   have hn:l16.length=Ns op:=hn
   have hc:Cs l l15:=(h7.trans a1).rd hc0
   refine fF (iB _ hE (hc.good g.good) (by simp [lit])) fun b hb=>?_
   have e1:=hb.wt
   have hpl:=w6 a.1
   refine jb ⟨hc.trans hb,a2,sD (Ba hop hx6 a6 hn) (fun h=>absurd h (show ¬ op=3 by omega)) (show (0:Int)≤0 by decide) (show (0:Int)<1000000000000000000 by decide) hs a3,?_,?_⟩
   ·show (ae.mk op x6 0 [] l16 a.1).sz+10+wt b≤wt l
    rw [yJ]
    show 0+_+_+6+10+wt b≤wt l
    omega
   ·show IntKind.wrap .i64 (a.2.2.2+1)=t+((pn (ae.mk op x6 0 [] l16 a.1):Nat):Int)
    have:=ht.1
    have:=ht.2
    rw [wr oM oM,yK]
    omega
 unfold du
 refine fF (iB _ hE g.good (by simp [lit])) fun a ha=>?_
 split
 ·split
  ·refine fF (DQ hE (ha.gd g)) fun b hb=>?_
   refine fF (iB _ hE ((ha.trans hb.1).good g.good) (by simp [lit])) fun c hc=>?_
   exact hj _ _ ((ha.trans hb.1).trans hc) ⟨fun h=>by omega,fun _=>hb.2,fun h=>by omega⟩
  ·exact hj _ _ ha ⟨hk0.1,fun h=>by omega,fun h=>hk0.2 oM⟩
 ·exact hj _ _ ha ⟨hk0.1,fun h=>by omega,fun h=>hk0.2 oM⟩
theorem Im(ho0:0≤o)(ho:o≤60)(hE:0≤E)(g:Gd E l)(ht:Tm t l)(hr:RK2 E rc k)(hk:7 * (60 - o)≤k):Pn (dY rc ⟨l,E,o,t⟩) (Po E (Ex2 l o t)):=by
 unfold dY
 refine cQ CQ fun w hw=>?_
 refine yC (sZ _ _ (by simp [lit])) ?_
 split
 ·exact sV (jv dM hE g.good)
 ·rename_i h
  have h:¬ lS nM w<0:=h
  have hm:=uD (Int.not_lt.1 h)
  have hlt:lS nM w<10:=vZ (L:=nM) (x:=w)
  have hne:w≠[]:=fun e=>by rw [e] at hm;revert hm;decide
  obtain ⟨x,r,rfl,hx⟩:=hw hne
  have hx:Nx (x :: r):=⟨x,r,rfl,rj (hx ▸ hm) (by simp [nM,lit])⟩
  show Pn (if 0≤lS nM w∧lS nM w<10 then (if lS nM w=8 then bo rc ⟨x :: r,E,o,t⟩ (lS nM w) 6 else (if lS nM w=9 then bo rc ⟨x :: r,E,o,t⟩ (lS nM w) 7 else bo rc ⟨x :: r,E,o,t⟩ (lS nM w) 0)) else none) _
  generalize lS nM w=y2 at *
  rw [iP ⟨by omega,hlt⟩]
  have hops:∀ i:Nat,i<10→(nh.getD i default=5∨nh.getD i default=7∨nh.getD i default=8∨nh.getD i default=9∨nh.getD i default=10∨nh.getD i default=12∨nh.getD i default=13∨nh.getD i default=14∨nh.getD i default=15)∧(nh.getD i default=5↔i=8∨i=9):=by decide
  have hj:∀ x4:Int,((y2=8∨y2=9)→x4=6∨x4=7)→(¬ (y2=8∨y2=9)→x4=0)→Pn (bo rc ⟨x :: r,E,o,t⟩ y2 x4) (Po E (Ex2 (x :: r) o t)):=by
   intro x4 h8 h9
   obtain ⟨q1,q2⟩:=hops y2.toNat oM
   unfold bo
   show Pn ((cX rc ⟨x :: r,E,o,t⟩ (nh.getD y2.toNat default) (nh.getD y2.toNat default) x4 0 [] [] []).bind _) _
   generalize nh.getD y2.toNat default=op at q1 q2
   unfold cX
   split
   ·obtain ⟨f,hf,hf2⟩:=jv (E:=E) (o:=o) (t:=t) (c:=6) dM hE g.good
    rw [hf]
    exact BP hf2
   ·rename_i h60
    have h60:¬ o=60:=h60
    simp only [wr (n:=o+1) oM oM]
    obtain ⟨y,hy,hyc⟩:=AW (E:=E) (o:=o+1) (t:=t) hx
    rw [hy,bSq]
    obtain ⟨z,hz,hzp⟩:=FE (p6:=[]) (k0:=x4) q1 ⟨fun h=>h8 (by have:=q2.1 h;omega),fun h=>h9 (fun hh=>h (q2.2 oM))⟩ (show 0≤o+1 by omega) oM hE (hyc.gd g) (ht.rd hyc.1) hr oM
    rw [hz,bSq]
    cases z with
    |inr f=>exact BP hzp
    |inl a =>
     obtain ⟨z1,z2,z3,z4,z5⟩:Fm y.2 (o+1) t op a:=hzp
     have e1:=hyc.wt
     refine jb ⟨hyc.trans z1,?_,z3,?_,z5⟩
     ·show IntKind.wrap .i64 (a.2.2.2.2.2.2.2.2.1 - 1)=o
      rw [z2,wr oM oM];omega
     ·show (ae.mk a.1 a.2.1 a.2.2.1 a.2.2.2.1 a.2.2.2.2.2.2.2.2.2.2 a.2.2.2.2.1).sz+12+wt a.2.2.2.2.2.2.2.1≤wt (x :: r)
      omega
  split
  ·rename_i c;exact hj _ (fun _=>.inl rfl) (fun h=>absurd (.inl c) h)
  ·split
   ·rename_i c;exact hj _ (fun _=>.inr rfl) (fun h=>absurd (.inr c) h)
   ·rename_i c8 c9;exact hj _ (fun h=>absurd h oM) (fun _=>rfl)
end
section
variable {E o t k:Int} {l:List aa} {rc:Int→af→Option RX}
theorem Bb{Q:ae×List aa×Int×Int→Prop}{m:Option RX}(h:Pn m (Po E Q)):Pn (m.bind fun y1=>Sum.elim (fun y4=>some (.inl (y4.1,y4.2.1,y4.2.2.1,y4.2.2.2))) (fun y5=>some (.inr (y5.1,y5.2))) y1) (Po E Q):=by
 obtain ⟨a,rfl,ha⟩:=h
 cases a with
 |inl a=>exact bV ha
 |inr f=>exact bV ha
theorem zJ(op k n:Int)(w:Ω):(ae.mk op k n w [] []).sz=w.length+7∧pn (ae.mk op k n w [] [])=1:=by
 rw [yJ,yK,pR,pS]
 exact ⟨rfl,rfl⟩
theorem FF(ho0:0≤o)(ho:o≤60)(hE:0≤E)(g:Gd E l)(ht:Tm t l)(hr:RK2 E rc k)(hk:7 * (60 - o)≤k):Pn (aV rc ⟨l,E,o,t⟩) (Po E (Ex2 l o t)):=by
 have wt1:IntKind.wrap .i64 (t+1)=t+1:=wr (by have:=ht.1;omega) (by have:=ht.2;omega)
 have hf:Pn (bI rc ⟨l,E,o,t⟩) (Po E (Ex2 l o t)):=by
  unfold bI
  exact Bb (Im ho0 ho hE g ht hr hk)
 have h8:isB (lit [[40]]) l=true→Pn (cr rc ⟨l,E,o,t⟩) (Po E (Ex2 l o t)):=fun hi=>by
  unfold cr
  refine lT (v7 (H:=fun l1 x l' t'=>exF x=0∧x.sz+12+wt l'≤wt l1∧t'=t+(pn x:Int)) ho0 ho hE g (AV hi (by simp [lit])) fun l1 h1 h=>lT (FC oM oM hE (h1.gd g) (ht.rd h1.1) hr oM) fun a ha=>⟨ha.1,ha.2.1,ha.2.2⟩) fun a ha=>?_
  obtain ⟨l1,q1,q2,q3,q4⟩:=ha.2.2
  exact ⟨ha.1,ha.2.1,q2,by have:=q1.wt;omega,q4⟩
 have h9:isB (lit [[105,102]]) l=true→Pn (cw rc ⟨l,E,o,t⟩) (Po E (Ex2 l o t)):=fun hi=>by
  unfold cw
  refine lT (v7 (H:=fun l1 x l' t'=>exF x=0∧x.sz+12+wt l'≤wt l1∧t'=t+(pn x:Int)) ho0 ho hE g (AV hi (by simp [lit])) fun l1 h1 h=>lT (FD oM oM hE (h1.gd g) (ht.rd h1.1) hr oM) fun a ha=>⟨ha.1,ha.2.1,ha.2.2⟩) fun a ha=>?_
  obtain ⟨l1,q1,q2,q3,q4⟩:=ha.2.2
  exact ⟨ha.1,ha.2.1,q2,by have:=q1.wt;omega,q4⟩
 unfold aV
 cases l with
 |nil =>
  rw [iN (by simp),iN (by simp)]
  refine cQ (nC _ (by simp [lit])) fun b hb=>?_
  subst hb
  rw [iN (by simp [isB])]
  refine cQ (nC _ (by simp [lit])) fun b hb=>?_
  subst hb
  rw [iN (by simp [isB])]
  refine cQ (nC _ (by simp [lit])) fun b hb=>?_
  subst hb
  rw [iN (by simp [isB])]
  exact hf
 |cons x r =>
  rw [iP (by simp),iP (by simp)]
  simp only [List.getD_cons_zero]
  split
  ·rename_i h3
   rw [gq]
   have hc:Cs (x :: r) r:=vi (Fh g.good h3)
   obtain ⟨n0,n1⟩:=(g.tk x (by simp)).2 h3
   obtain ⟨s1,s2⟩:=zJ 1 0 x.n []
   have:=hc.wt
   refine bV ⟨hc,rfl,sD (Jw x.n) (fun h=>absurd h (show ¬ (1:Int)=3 by decide)) n0 n1 (fun _ h=>nomatch h) (fun _ h=>nomatch h),?_,?_⟩
   ·show (ae.mk 1 0 x.n [] [] []).sz+12+wt r≤_
    rw [s1];simp only [List.length_nil];omega
   ·show IntKind.wrap .i64 (t+1)=t+((pn (ae.mk 1 0 x.n [] [] []):Nat):Int)
    rw [s2,wt1];rfl
  ·rw [iP (by simp)]
   split
   ·refine fF (xD hE g) fun a ha=>?_
    obtain ⟨s1,s2⟩:=zJ 3 0 0 a.1
    have:=ha.2.2
    refine bV ⟨ha.1,rfl,sD (Jy a.1) (fun _=>ha.2.1) (show (0:Int)≤0 by decide) (show (0:Int)<1000000000000000000 by decide) (fun _ h=>nomatch h) (fun _ h=>nomatch h),?_,?_⟩
    ·show (ae.mk 3 0 0 a.1 [] []).sz+12+wt a.2≤_
     rw [s1];omega
    ·show IntKind.wrap .i64 (t+1)=t+((pn (ae.mk 3 0 0 a.1 [] []):Nat):Int)
     rw [s2,wt1];rfl
   ·refine cQ (nC _ (by simp [lit])) fun b hb=>?_
    subst hb
    split
    ·rename_i hi
     refine cQ (Fi hi (by simp [lit])) fun y hy=>?_
     have hw:=hy.1.wt
     have hj:∀ v:Int,(v=0∨v=1)→Pn (cE ⟨x :: r,E,o,t⟩ y.2 v) (Po E (Ex2 (x :: r) o t)):=by
      intro v hv
      obtain ⟨s1,s2⟩:=zJ 2 0 v []
      unfold cE cW
      refine bV ⟨hy.1,rfl,sD (Jx hv) (fun h=>absurd h (show ¬ (2:Int)=3 by decide)) (show 0≤v by omega) (show v<1000000000000000000 by omega) (fun _ h=>nomatch h) (fun _ h=>nomatch h),?_,?_⟩
      ·show (ae.mk 2 0 v [] [] []).sz+12+wt y.2≤_
       rw [s1];simp only [List.length_nil];omega
      ·show IntKind.wrap .i64 (t+1)=t+((pn (ae.mk 2 0 v [] [] []):Nat):Int)
       rw [s2,wt1];rfl
     split
     ·exact hj _ (.inr rfl)
     ·exact hj _ (.inl rfl)
    ·refine cQ (nC _ (by simp [lit])) fun b hb=>?_
     subst hb
     split
     ·rename_i hi
      exact Bb (h8 hi)
     ·refine cQ (nC _ (by simp [lit])) fun b hb=>?_
      subst hb
      split
      ·rename_i hi
       exact Bb (h9 hi)
      ·exact hf
abbrev SA:=List aa×Int×Int×Int×Int×Int×Ω×List (List ag)×List ae
abbrev xA(s:SA):ae:=ae.mk s.2.2.2.1 s.2.2.2.2.1 s.2.2.2.2.2.1 s.2.2.2.2.2.2.1 s.2.2.2.2.2.2.2.1 s.2.2.2.2.2.2.2.2
theorem FG{om ka:Int}{ra:af→Option RX}(ho0:0≤o)(ho:o≤60)(hE:0≤E)(g:Gd E l)(ht:Tm t l)(hr:RK2 E rc k)(hk:7 * (60 - o)≤k)(hom:om≤o)(ha:AK2 E om ra ka)(hka:60 - o≤ka):Pn (bB rc ra ⟨l,E,o,t⟩) (Po E (Ex2 l o t)):=by
 unfold bB
 refine cQ (nC _ (by simp [lit])) fun b hb=>?_
 subst hb
 split
 ·rename_i hi
  have hj:∀ n,(n=13∨n=14)→Pn (cz ra ⟨l,E,o,t⟩ n) (Po E (Ex2 l o t)):=by
   intro n hn
   unfold cz
   refine Bb ?_
   unfold dD
   refine lT (v7 (H:=fun l1 x l' t'=>exF x=0∧x.sz+5+wt l'≤wt l1∧t'=t+(pn x:Int)) ho0 ho hE g (AV hi (by simp [lit])) fun l1 h1 h=>lT (BZ hn oM oM (h1.gd g) (ht.rd h1.1) ha oM) fun a ha=>⟨ha.1,ha.2.1,ha.2.2⟩) fun a ha=>?_
   obtain ⟨l1,q1,q2,q3,q4⟩:=ha.2.2
   exact ⟨ha.1,ha.2.1,q2,by have:=q1.wt;omega,q4⟩
  refine cQ (nC _ (by simp [lit])) fun b hb=>?_
  split
  ·exact hj _ (.inr rfl)
  ·exact hj _ (.inl rfl)
 ·refine fF (FF ho0 ho hE g ht hr hk) fun a hae=>?_
  refine sX (fun s:SA=>Ex2 l o t (xA s,s.1,s.2.1,s.2.2.1)) (fun s=>s.1.length) (fun s:SA=>Ex2 l o t (xA s,s.1,s.2.1,s.2.2.1)) (by cases a with|mk x y=>cases x;exact hae) ?_ ?_
  ·rintro ⟨l41,x42,x43,x44,x45,x46,s47,l48,l49⟩ h
   obtain ⟨hc,hx,hd,hz,hp⟩:=h
   have hc:Cs l l41:=hc
   have hx:x42=o:=hx
   have hd:exF (ae.mk x44 x45 x46 s47 l48 l49)=0:=hd
   have hz:(ae.mk x44 x45 x46 s47 l48 l49).sz+12+wt l41≤wt l:=hz
   have hp:x43=t+((pn (ae.mk x44 x45 x46 s47 l48 l49):Nat):Int):=hp
   subst hx
   show Pn (bJ rc ⟨l,E,x42,t⟩ l41 x42 x43 x44 x45 x46 s47 l48 l49) _
   unfold bJ
   refine cQ (nC _ (by simp [lit])) fun b hb=>?_
   subst hb
   split
   ·rename_i hi
    have t41:Tm x43 l41:=by
     have:=CC (ae.mk x44 x45 x46 s47 l48 l49)
     exact ⟨by have:=ht.1;omega,by have:=ht.2;omega⟩
    refine sw (A:=fun r=>Cs l41 r.2.1∧r.2.2.1=x42∧∃ l1,Cs l41 l1∧exF r.1=0∧r.1.sz+12+wt r.2.1≤(ae.mk x44 x45 x46 s47 l48 l49).sz+wt l1∧r.2.2.2+((pn (ae.mk x44 x45 x46 s47 l48 l49):Nat):Int)=x43+(pn r.1:Int)) ?_ fun a ha=>?_
    ·unfold cY
     exact v7 (H:=fun l1 x l' t'=>exF x=0∧x.sz+12+wt l'≤(ae.mk x44 x45 x46 s47 l48 l49).sz+wt l1∧t'+((pn (ae.mk x44 x45 x46 s47 l48 l49):Nat):Int)=x43+(pn x:Int)) ho0 ho hE (hc.gd g) (AV hi (by simp [lit])) fun l1 h1 h=>lT (DP _ hd oM oM hE (h1.gd (hc.gd g)) (t41.rd h1.1) hr oM) fun a ha=>⟨ha.1,ha.2.1,ha.2.2⟩
    ·obtain ⟨l1,q1,q2,q3,q4⟩:=ha.2.2
     have:=q1.wt
     refine bV ⟨?_,ha.1.2⟩
     have e:ae.mk a.1.op a.1.k a.1.n a.1.name a.1.s a.1.l=a.1:=ou a.1
     refine ⟨hc.trans ha.1,ha.2.1,?_,?_,?_⟩
     ·show exF (ae.mk a.1.op a.1.k a.1.n a.1.name a.1.s a.1.l)=0
      rw [e];exact q2
     ·show (ae.mk a.1.op a.1.k a.1.n a.1.name a.1.s a.1.l).sz+12+wt a.2.1≤wt l
      rw [e];omega
     ·show a.2.2.2=t+((pn (ae.mk a.1.op a.1.k a.1.n a.1.name a.1.s a.1.l):Nat):Int)
      rw [e];omega
   ·exact bV ⟨hc,rfl,hd,hz,hp⟩
  ·rintro ⟨l41,x42,x43,x44,x45,x46,s47,l48,l49⟩ hc
   exact jb hc
theorem Bc(hE:0≤E)(hr:RK2 E rc k)(om:Int)(h0:0≤om)(hk:7 * (60 - om)≤k):∀ m:Nat,AK2 E om (dd rc m) m
 |0,o,t,l,_,h2,h3,_,_=>absurd h3 oM
 |m+1,o,t,l,h1,h2,h3,g,ht=>by
  show Pn (bB rc (dd rc m) ⟨l,E,o,t⟩) _
  exact FG oM h2 hE g ht hr oM h1 (Bc hE hr om h0 hk m) oM
theorem DR:∀ i:Nat,i<5→∀ j:Nat,j<3→0≤(opN.getD i default).getD j default∧(opN.getD i default).getD j default≤12∧(j<(opN.getD i default).length→1≤(opN.getD i default).getD j default):=by decide
theorem op2{n:Int}(h0:0≤n)(h5:n<5):Pn (bw n ⟨l,E,o,t⟩) (fun k=>k≠0→Nx l∧1≤k∧k≤12):=by
 obtain ⟨y,hy,hy2⟩:=GS (E:=E) (o:=o) (t:=t) (l:=l) h0 h5
 refine ⟨y,hy,fun hne=>⟨hy2 hne,?_⟩⟩
 obtain ⟨f1,f2,f3⟩:=uF n.toNat oM
 rw [BT,iP ⟨h0,h5⟩,ef _ _ _ _ _ (show (opL.getD n.toNat default).length≤9000000 by omega),bSq] at hy
 split at hy
 ·rename_i hi
  obtain ⟨x,r,rfl,hk,hx⟩:=pw hi
  rw [iP (by simp)] at hy
  have e:=iI (opL.getD n.toNat default) x.text oM
  simp only [List.getD_cons_zero] at hy
  rw [e,bSq] at hy
  have h1:=zx hx
  have h2:=vZ (L:=opL.getD n.toNat default) (x:=x.text)
  rw [f1] at h2
  split at hy
  ·have hf:=DR n.toNat oM (lS (opL.getD n.toNat default) x.text).toNat oM
   have hy':=sI hy
   rw [hy'] at hf
   exact ⟨hf.2.2 oM,hf.2.1⟩
  ·cases hy
 ·exact absurd (sI hy).symm hne
abbrev SB:=List aa×Int×Int×Int×Int×Int×Ω×List (List ag)×List ae×Int
abbrev xB(s:SB):ae:=ae.mk s.2.2.2.1 s.2.2.2.2.1 s.2.2.2.2.2.1 s.2.2.2.2.2.2.1 s.2.2.2.2.2.2.2.1 s.2.2.2.2.2.2.2.2.1
theorem GI{n:Int}{fuel:Nat}(hf:61≤fuel)(h0:0≤n)(h5:n≤5)(ho0:0≤o)(ho:o≤60)(hE:0≤E)(g:Gd E l)(ht:Tm t l)(hr:RK2 E rc k)(hk:7 * (60 - o)+(5 - n)≤k):Pn (ca fuel rc n ⟨l,E,o,t⟩) (Po E (Ex2 l o t)):=by
 unfold ca
 split
 ·exact Bb (Bc hE hr o ho0 oM fuel o t l (Int.le_refl _) ho oM g ht)
 ·rename_i h
  simp only [wr (n:=n+1) oM oM]
  refine fF (hr (n+1) o t l oM oM ho0 ho oM g ht) fun a ha=>?_
  refine cQ (op2 h0 oM) fun x20 hx20=>?_
  refine sX (fun s:SB=>Ex2 l o t (xB s,s.1,s.2.1,s.2.2.1)∧(s.2.2.2.2.2.2.2.2.2≠0→Nx s.1∧1≤s.2.2.2.2.2.2.2.2.2∧s.2.2.2.2.2.2.2.2.2≤12)) (fun s=>s.1.length) (fun s:SA=>Ex2 l o t (xA s,s.1,s.2.1,s.2.2.1)) ⟨by cases a with|mk x y=>cases x;exact ha,hx20⟩ ?_ ?_
  ·rintro ⟨l41,x42,x43,x44,x45,x46,s47,l48,l49,x50⟩ ⟨⟨hc,hx,hd,hz,hp⟩,hn⟩
   have hc:Cs l l41:=hc
   have hx:x42=o:=hx
   have hd:exF (ae.mk x44 x45 x46 s47 l48 l49)=0:=hd
   have hz:(ae.mk x44 x45 x46 s47 l48 l49).sz+12+wt l41≤wt l:=hz
   have hp:x43=t+((pn (ae.mk x44 x45 x46 s47 l48 l49):Nat):Int):=hp
   have hn:x50≠0→Nx l41∧1≤x50∧x50≤12:=hn
   have t41:Tm x43 l41:=by
    have:=CC (ae.mk x44 x45 x46 s47 l48 l49)
    exact ⟨by have:=ht.1;omega,by have:=ht.2;omega⟩
   subst hx
   show Pn (de rc n ⟨l,E,x42,t⟩ l41 x42 x43 x44 x45 x46 s47 l48 l49 x50) _
   unfold de
   split
   ·rename_i hne
    obtain ⟨nx,k1,k12⟩:=hn hne
    refine cQ (AW nx) fun b hb=>?_
    simp only [wr (n:=n+1) oM oM]
    refine sw (hr (n+1) x42 _ _ oM oM ho0 ho oM ((hc.trans hb).gd g) (t41.rd hb.1)) fun c hcc=>?_
    refine yC rfl ?_
    have tc:=Ex2.tr hcc (t41.rd hb.1)
    have hw:=hb.wt
    have hz2:=hcc.2.2.2.1
    have hp2:=hcc.2.2.2.2
    have hE2:∀ o',o'=x42→Ex2 l x42 t (ae.mk 5 x50 0 [] [] [ae.mk x44 x45 x46 s47 l48 l49,c.1],c.2.1,o',IntKind.wrap .i64 (c.2.2.2+1)):=fun o' ho'=>by
     refine ⟨(hc.trans hb).trans hcc.1,ho',sD (Jv ⟨k1,k12⟩) (fun h=>absurd h (show ¬ (5:Int)=3 by decide)) (show (0:Int)≤0 by decide) (show (0:Int)<1000000000000000000 by decide) (fun _ h=>nomatch h) fun y hy=>?_,?_,?_⟩
     ·simp only [List.mem_cons,List.not_mem_nil,or_false] at hy
      rcases hy with rfl|rfl
      ·exact hd
      ·exact hcc.2.2.1
     ·show (ae.mk 5 x50 0 [] [] [ae.mk x44 x45 x46 s47 l48 l49,c.1]).sz+12+wt c.2.1≤wt l
      rw [yJ,ky,ky,pR]
      show 0+1+_+6+12+wt c.2.1≤wt l
      omega
     ·show IntKind.wrap .i64 (c.2.2.2+1)=t+((pn (ae.mk 5 x50 0 [] [] [ae.mk x44 x45 x46 s47 l48 l49,c.1]):Nat):Int)
      have:=tc.1
      have:=tc.2
      rw [wr oM oM,yK,fl,fl,pS]
      omega
    split
    ·exact bV (hE2 _ hcc.2.1)
    ·refine cQ (op2 h0 oM) fun d hd2=>bV ⟨⟨hE2 _ hcc.2.1,hd2⟩,?_⟩
     exact (hb.trans hcc.1).2
   ·exact bV ⟨hc,rfl,hd,hz,hp⟩
  ·rintro ⟨l41,x42,x43,x44,x45,x46,s47,l48,l49⟩ hc
   exact jb hc
theorem CU{fuel:Nat}(hf:61≤fuel)(hE:0≤E):∀ m:Nat,RK2 E (av fuel m) m
 |0,n,o,t,l,h0,h5,ho0,ho,hk,_,_=>absurd hk oM
 |m+1,n,o,t,l,h0,h5,ho0,ho,hk,g,ht=>by
  show Pn (ca fuel (av fuel m) n ⟨l,E,o,t⟩) _
  exact GI hf h0 h5 ho0 ho hE g ht (CU hf hE m) oM
abbrev Ew(l:List aa)(o:Int)(r:ae×List aa×Int×Int):Prop:=Cs l r.2.1∧r.2.2.1=o∧n7 r.1=0∧r.1.sz+12+wt r.2.1≤wt l
theorem GY{fuel:Nat}(hf:430≤fuel)(ho0:0≤o)(ho:o≤60)(hE:0≤E)(g:Gd E l)(hw:wt l≤9000000):Pn (eV fuel ⟨l,E,o,t⟩) (Po E (Ew l o)):=by
 have hj:∀ x1,0≤x1→x1≤E→Pn (dO fuel ⟨l,E,o,t⟩ x1) (Po E (Ew l o)):=by
  intro x1 h1 h2
  unfold dO
  refine fF (A:=Ex2 l o 0) (CU oM hE fuel 0 o 0 l dM dM ho0 ho oM g ⟨Int.le_refl _,by omega⟩) fun a ha=>?_
  split
  ·exact BP (a:=(7,x1)) ⟨show (7:Int)≠0 by decide,h1,h2⟩
  ·rename_i h30
   refine jb ⟨ha.1,ha.2.1,?_,ha.2.2.2.1⟩
   have:=ha.2.2.2.2
   show n7 a.1=0
   unfold n7
   rw [iN oM,ha.2.2.1];rfl
 unfold eV
 cases l with
 |nil=>rw [iN (by simp)];exact hj _ hE (Int.le_refl _)
 |cons x r =>
  rw [iP (by simp),iP (by simp)]
  exact hj _ (g.good.2 x (by simp)).2.1 (g.good.2 x (by simp)).2.2
theorem B0{fuel:Nat}(hf:430≤fuel)(ho0:0≤o)(ho:o≤60)(hE:0≤E)(g:Gd E l)(hw:wt l≤9000000) :
  Pn (fP fuel 30 ⟨l,E,o,t⟩) (Po E fun r=>Cs l r.2.1∧r.2.2.1=o∧(∀ y∈r.1,n7 y=0)∧szL ae.sz r.1+10+wt r.2.1≤wt l∧r.1.length≤30):=by
 unfold fP
 refine cQ (P:=Po E fun r=>Cs l r.2.1∧r.2.2.1=o∧(∀ y∈r.1,n7 y=0)∧szL ae.sz r.1+10+wt r.2.1≤wt l∧r.1.length≤30) ?_ fun a ha=>bV ha
 refine sW (fun s=>Rd l s.1∧s.2.1=o∧(∀ y∈s.2.2.2,n7 y=0)∧szL ae.sz s.2.2.2+wt s.1≤wt l+1∧s.2.2.2.length≤30) (fun s=>s.1.length) ⟨Rd.refl _,rfl,(fun _ h=>nomatch h),by show 1+wt l≤_;omega,Nat.zero_le _⟩ ?_
 rintro ⟨l17,x18,x19,l20⟩ ⟨hc,hx,hv,hz,hl⟩
 have hc:Rd l l17:=hc
 have hx:x18=o:=hx
 have hv:∀ y∈l20,n7 y=0:=hv
 have hz:szL ae.sz l20+wt l17≤wt l+1:=hz
 have hl:l20.length≤30:=hl
 subst hx
 show Pn (dp fuel 30 ⟨l,E,x18,t⟩ l17 x18 x19 l20) _
 unfold dp
 split
 ·exact cQ (jv dM hE (hc.good g.good)) fun a ha=>bV ha
 ·rename_i hne
  have hw17:=hc.wt
  obtain ⟨y,hy,hpy⟩:=GY (t:=x19) hf ho0 ho hE (hc.gd g) oM
  rw [hy]
  cases y with
  |inr z=>exact bV hpy
  |inl a =>
   have hpy:Ew l17 x18 a:=hpy
   have hkk:∀ y∈l20++[a.1],n7 y=0:=fun y hy=>by
    rcases List.mem_append.1 hy with h|h
    ·exact hv y h
    ·rw [List.mem_singleton.1 h];exact hpy.2.2.1
   have hsz:szL ae.sz (l20++[a.1])=szL ae.sz l20+a.1.sz:=by
    have:=ro ae.sz l20 [a.1]
    rw [oH] at this;omega
   have h3:=hpy.2.2.2
   show Pn (if lK (l20.length+1) 88 then _ else none) _
   rw [iP (nD oM dM)]
   refine cQ (qa [44] dM) fun b hb=>?_
   have hb':=(hc.cs hpy.1).rd hb
   have hbw:=hb.wt
   split
   ·refine bV ⟨⟨hb'.1,hpy.2.1,hkk,?_,?_⟩,(hpy.1.rd hb).2⟩
    ·show szL ae.sz (l20++[a.1])+wt b.2≤wt l+1
     rw [hsz];omega
    ·show (l20++[a.1]).length≤30
     rw [List.length_append,List.length_singleton];omega
   ·refine bV ⟨hb',hpy.2.1,hkk,?_,?_⟩
    ·show szL ae.sz (l20++[a.1])+10+wt b.2≤wt l
     rw [hsz];omega
    ·show (l20++[a.1]).length≤30
     rw [List.length_append,List.length_singleton];omega
end
theorem xI:∀ (w:Ω) (n:Int),0≤n→(∀ c∈w,tDg c)→0≤vM n w∧vM n w<(n+1) * ((10 ^ w.length:Nat):Int)
 |[],n,h0,_=>by show 0≤n∧n<(n+1) * ((1:Nat):Int);omega
 |c :: w,n,h0,h=>by
  have hc:=h c (by simp)
  unfold tDg at hc
  obtain ⟨h1,h2⟩:=xI w (10 * n+((c.toNat:Int) - 48)) oM (fun d hd=>h d (by simp [hd]))
  refine ⟨h1,?_⟩
  have h3:vM n (c :: w)=vM (10 * n+((c.toNat:Int) - 48)) w:=rfl
  rw [h3]
  have hp:(0:Int)<((10 ^ w.length:Nat):Int):=by have:=Nat.pow_pos (n:=w.length) (show 0<10 by decide);omega
  refine Int.lt_of_lt_of_le h2 ?_
  rw [List.length_cons,Nat.pow_succ,Int.natCast_mul,← Int.mul_assoc,Int.mul_assoc (n+1),Int.mul_comm ((10 ^ w.length:Nat):Int),← Int.mul_assoc]
  refine Int.mul_le_mul_of_nonneg_right ?_ (Int.le_of_lt hp)
  show 10 * n+((c.toNat:Int) - 48)+1≤(n+1) * 10
  omega
theorem B1{w:Ω}{n:Int}(h:xX w=some n):0≤n∧n<1000000000000000000:=by
 unfold xX at h
 split at h
 ·cases h
 ·rename_i hn
  have hd:∀ c∈w,tDg c:=Classical.byContradiction fun k=>hn (.inr (.inr k))
  have hl:¬ w.length>18:=fun k=>hn (.inl k)
  have h:=sI h
  obtain ⟨h1,h2⟩:=xI w 0 dM hd
  have hp:(10:Nat) ^ w.length≤10 ^ 18:=Nat.pow_le_pow_right dM oM
  have he:(10:Nat) ^ 18=1000000000000000000:=by decide
  omega
theorem Jz{p:Nat}{c:UInt8}{l:Ω}{t:aa}(h:sg p (c :: l)=.inl t):TkO t∧(t.kind=3→t.text≠[125]):=by
 have hw:∀ q:UInt8→Bool,q c=true→∃ w,(c :: l).takeWhile q=c :: w:=fun q hq=>⟨l.takeWhile q,by rw [List.takeWhile_cons,iP hq]⟩
 unfold sg at h
 simp only at h
 split at h
 ·rename_i hs
  split at h
  ·cases h;exact ⟨⟨fun h=>(by simp at h),fun h=>(by simp at h)⟩,fun h=>(by simp at h)⟩
  ·split at h
   ·cases h
   ·rename_i h1 h2
    cases h
    refine ⟨⟨fun _=>?_,fun h=>(by simp at h)⟩,fun h=>(by simp at h)⟩
    show fJ ((c :: l).takeWhile tAn)=true
    obtain ⟨w,hw⟩:=hw tAn (re (.inl hs))
    have hall:∀ d∈(c :: l).takeWhile tAn,tAn d=true:=fun d hd=>by
     have:∀ (z:Ω),d∈z.takeWhile tAn→tAn d=true:=by
      intro z
      induction z with
      |nil=>intro h;simp at h
      |cons y z ih =>
       rw [List.takeWhile_cons]
       split
       ·rename_i hy
        intro h
        rcases List.mem_cons.1 h with rfl|h
        ·exact hy
        ·exact ih h
       ·intro h;simp at h
     exact this _ hd
    unfold fJ
    refine dT ⟨by rw [hw];simp,by omega,⟨c,by rw [hw];rfl,hs⟩,by simpa using h1,fun i hi=>?_⟩
    rw [List.getD_eq_getElem?_getD,List.getElem?_eq_getElem hi,Option.getD_some]
    exact hall _ (List.getElem_mem hi)
 ·split at h
  ·rename_i hd
   split at h
   ·rename_i n hn
    cases h
    obtain ⟨w,hw⟩:=hw tAn (re (.inr hd))
    refine ⟨⟨fun h=>(by simp at h),fun _=>B1 hn⟩,fun _ e=>?_⟩
    have e:(c :: l).takeWhile tAn=[125]:=e
    rw [hw] at e
    rw [(List.cons.inj e).1] at hd
    exact absurd hd dM
   ·cases h
  ·split at h
   ·cases h;exact ⟨⟨fun h=>(by simp at h),fun h=>(by simp at h)⟩,fun h=>(by simp at h)⟩
   ·split at h
    ·cases h;exact ⟨⟨fun h=>(by simp at h),fun h=>(by simp at h)⟩,fun h=>(by simp at h)⟩
    ·cases h
theorem CW:∀ (k p:Nat) (s:Ω) (L:List aa),rA k p s=.inl L→wt L≤41 * s.length∧∀ t∈L,(TkO t∧(t.kind=3→t.text≠[125]))∧(p:Int)≤t.at_∧t.at_≤((p+s.length:Nat):Int)
 |0,p,s,L,h=>by cases h;exact ⟨Nat.zero_le _,fun _ h=>nomatch h⟩
 |k+1,p,s,L,h=>by
  rw [ph] at h
  have hle:=zh false s
  cases hb:blk false s with
  |nil=>rw [hb] at h;cases h;exact ⟨Nat.zero_le _,fun _ h=>nomatch h⟩
  |cons c l =>
   rw [hb] at hle h
   simp only at h
   cases ht:sg (p+(s.length - (c :: l).length)) (c :: l) with
   |inr e=>rw [ht] at h;cases h
   |inl t =>
    rw [ht] at h
    simp only at h
    obtain ⟨h1,h2,h3⟩:=yq ht
    have hl:=h3.length_le
    have hw1:1≤t.text.length:=List.length_pos_iff.2 h2
    have hd:((c :: l).drop t.text.length).length=(c :: l).length - t.text.length:=List.length_drop
    cases hs:rA k (p+(s.length - (c :: l).length)+t.text.length) ((c :: l).drop t.text.length) with
    |inr f=>rw [hs] at h;cases h
    |inl m =>
     rw [hs] at h
     cases h
     obtain ⟨a,b⟩:=CW k _ _ m hs
     rw [hd] at a b
     refine ⟨by rw [zG];omega,fun x hx=>?_⟩
     rcases List.mem_cons.1 hx with rfl|hx
     ·exact ⟨Jz ht,by omega,by omega⟩
     ·obtain ⟨b1,b2,b3⟩:=b x hx
      exact ⟨b1,by omega,by omega⟩
theorem FH(src:Ω)(hl:src.length≤12000):Gd src.length (vA src).1∧wt (vA src).1≤41 * src.length:=by
 unfold vA
 rw [iN oM]
 cases hs:rA (src.length+1) 0 src with
 |inr f=>exact ⟨⟨⟨by simp,fun _ h=>nomatch h⟩,fun _ h=>nomatch h⟩,Nat.zero_le _⟩
 |inl m =>
  obtain ⟨a,b⟩:=CW _ _ _ _ hs
  have:=Fy m
  show Gd src.length m∧wt m≤41 * src.length
  refine ⟨⟨⟨by omega,fun t ht=>?_⟩,fun t ht=>(b t ht).1.1⟩,a⟩
  obtain ⟨⟨k1,k2⟩,k4,k5⟩:=b t ht
  exact ⟨k2,by omega,by omega⟩
theorem FI{a:Int}{N:List Ω}{w:Ω}{S:List (List ag)}{X:List ae}(h1:(∀ x∈N,jq x=0)∧0<N.length∧N.length≤30)(h2:w=[]→N.length=1∧X.length=1∧S.length=0)(h3:w≠[]→jq w=0)(h4:(∀ s∈S,gn s=0)∧S.length≤3)(h5:(∀ y∈X,n7 y=0)∧X.length≤30):eqF (TEq.mk a N w S X)=0:=by
 unfold eqF
 simp only
 rw [iN (by
  rintro (h|⟨h,k⟩)
  ·omega
  ·exact k (h2 h)),iN oM,pQ h1.1,pQ h4.1,pQ h5.1]
 by_cases c:w=[]
 ·rw [iP c];rfl
 ·rw [iN c,h3 c];rfl
theorem FJ{w:Ω}(h:fJ w=true):w≠[]:=by obtain ⟨⟨c,r,e,_⟩,_⟩:=uW h;rw [e];simp
section
variable {E o t:Int} {fuel:Nat} {l:List aa}
abbrev Qe(l:List aa)(o:Int)(r:TEq×List aa×Int×Int):Prop:=Cs l r.2.1∧r.2.2.1=o∧eqF r.1=0∧r.1.sz+12+wt r.2.1≤wt l
theorem eq2(hf:430≤fuel)(ho0:0≤o)(ho:o≤60)(hE:0≤E)(g:Gd E l)(hw:wt l≤9000000)(hl:l≠[]):Pn (fM fuel ⟨l,E,o,t⟩) (Po E (Qe l o)):=by
 have h3:∀ (y4:(List Ω)×(List aa)) (y19:Ω×(List aa)) (l22:List (List ag)) (l28:List aa) (x30:Int) (l31:List ae),Cs l l28→((∀ x∈y4.1,jq x=0)∧0<y4.1.length∧y4.1.length≤30)→fJ y19.1=true→((∀ s∈l22,gn s=0)∧l22.length≤3)→((∀ y∈l31,n7 y=0)∧l31.length≤30) →
   szL szS y4.1+y19.1.length+szL (szL ag.sz) l22+szL ae.sz l31+wt l28≤wt l+20→Pn (eC ⟨l,E,o,t⟩ y4 y19 l22 l28 o x30 l31) (Po E (Qe l o)):=by
  intro y4 y19 l22 l28 x30 l31 h k1 k2 k3 k4 k5
  unfold eC
  refine fF (iB _ hE (h.good g.good) (by simp [lit])) fun b hb=>jb ⟨h.trans hb,rfl,FI k1 (fun c=>absurd c (FJ k2)) (fun _=>xF k2) k3 k4,?_⟩
  have:=hb.wt
  show (TEq.mk (l.getD 0 default).at_ y4.1 y19.1 l22 l31).sz+12+wt b≤wt l
  rw [AF]
  simp only
  omega
 have h2:∀ (y4:(List Ω)×(List aa)) (y19:Ω×(List aa)) (l21:List aa) (l22:List (List ag)),Cs l l21→((∀ x∈y4.1,jq x=0)∧0<y4.1.length∧y4.1.length≤30)→fJ y19.1=true→((∀ s∈l22,gn s=0)∧l22.length≤3)→szL szS y4.1+y19.1.length+szL (szL ag.sz) l22+wt l21≤wt l+19 →
   Pn (eD fuel ⟨l,E,o,t⟩ y4 y19 l21 l22) (Po E (Qe l o)):=by
  intro y4 y19 l21 l22 h k1 k2 k3 k5
  unfold eD
  refine fF (iB _ hE (h.good g.good) (by simp [lit])) fun b hb=>?_
  have e1:=hb.wt
  refine cQ (nC _ (by simp [lit])) fun c hc=>?_
  split
  ·exact h3 _ _ _ _ _ _ (h.trans hb) k1 k2 k3 ⟨(fun _ h=>nomatch h),Nat.zero_le _⟩ (by show _+1+wt b≤_;omega)
  ·have hwl:=(h.trans hb).wt
   refine fF (B0 hf ho0 ho hE ((h.trans hb).gd g) oM) fun d hd=>?_
   simp only [hd.2.1]
   exact h3 _ _ _ _ _ _ ((h.trans hb).trans hd.1) k1 k2 k3 ⟨hd.2.2.1,hd.2.2.2.2⟩ (by have:=hd.2.2.2.1;omega)
 have h1:∀ (y4:(List Ω)×(List aa)) (y9:List aa),Cs l y9→((∀ x∈y4.1,jq x=0)∧0<y4.1.length∧y4.1.length≤30)→szL szS y4.1+wt y9≤wt l →
   Pn (eE fuel ⟨l,E,o,t⟩ y4 y9) (Po E (Qe l o)):=by
  intro y4 y9 h k1 k5
  unfold eE
  refine fF (iB _ hE (h.good g.good) (by simp [lit])) fun b hb=>?_
  refine fF (xD hE ((h.trans hb).gd g)) fun c hc=>?_
  have hc':=(h.trans hb).trans hc.1
  have e1:=hb.wt
  have e2:=hc.2.2
  refine cQ (qa [60] dM) fun d hd=>?_
  have e3:=hd.wt
  have hd':=hc'.rd hd
  split
  ·refine fF (BY 3 dM hE (hd'.gd g)) fun e hes=>?_
   obtain ⟨he,s1,s2,s3,s4⟩:=hes
   refine fF (iB _ hE ((hd'.trans he).good g.good) (by simp [lit])) fun f hf'=>?_
   have e4:=hf'.wt
   exact h2 _ _ _ _ ((hd'.trans he).trans hf') k1 hc.2.1 ⟨s1,by omega⟩ oM
  ·exact h2 _ _ _ _ hd' k1 hc.2.1 ⟨(fun _ h=>nomatch h),Nat.zero_le _⟩ (by show _+_+1+wt d.2≤_;omega)
 unfold fM
 rw [iP ⟨by decide,by cases l with|nil=>exact absurd rfl hl|cons x r=>simp⟩]
 refine fF (xG 30 dM hE g) fun a has=>?_
 obtain ⟨ha,s1,s2,s3,s4⟩:=has
 refine fF (iB _ hE (ha.good g.good) (by simp [lit])) fun b hb=>?_
 have e1:=hb.wt
 have kn:(∀ x∈a.1,jq x=0)∧0<a.1.length∧a.1.length≤30:=⟨s1,s3,by omega⟩
 split
 ·rename_i hone
  refine cQ (nC _ (by simp [lit])) fun c hc=>?_
  split
  ·exact h1 _ _ (ha.trans hb) kn oM
  ·have hwl:=(ha.trans hb).wt
   refine fF (GY hf ho0 ho hE ((ha.trans hb).gd g) oM) fun d hd=>jb ⟨(ha.trans hb).trans hd.1,hd.2.1,FI kn (fun _=>⟨by omega,rfl,rfl⟩) (fun c=>absurd rfl c) ⟨(fun _ h=>nomatch h),Nat.zero_le _⟩ ⟨fun y hy=>by rw [List.mem_singleton.1 hy];exact hd.2.2.1,show 1≤30 by decide⟩,?_⟩
   have e2:=hd.2.2.2
   show (TEq.mk (l.getD 0 default).at_ a.1 [] [] [d.1]).sz+12+wt d.2.1≤wt l
   rw [AF]
   simp only
   rw [oH]
   show 1+szL szS a.1+(0+1)+1+(d.1.sz+1)+1+12+wt d.2.1≤wt l
   omega
 ·exact h1 _ _ (ha.trans hb) kn oM
theorem JA{x:aa}{r:List aa}(hx:x.kind≠2)(hE:0≤E)(g:Gd E (x :: r)):Pn (fM fuel ⟨x :: r,E,o,t⟩) (Po E fun _=>False):=by
 unfold fM
 rw [iP ⟨by decide,by simp⟩]
 refine fF (A:=fun _=>False) ?_ fun a ha=>ha.elim
 unfold fm
 refine cQ (P:=Po E fun _=>False) ?_ fun a ha=>bV ha
 refine sW (fun s=>s=(x :: r,[])) (fun _=>0) rfl ?_
 rintro s rfl
 show Pn (cD 30 ⟨x :: r,E,o,t⟩ (x :: r) []) _
 unfold cD
 rw [iN (show ¬ ((([]:List Ω).length:Nat):Int)=30 by decide)]
 have:Pn (bg ⟨x :: r,E,o,t⟩) (Po E fun _=>False):=by
  unfold bg
  refine fF (A:=fun _=>False) (lT (zy 2 hE g.good) fun a ha=>?_) fun a ha=>ha.elim
  obtain ⟨e,k⟩:=ha
  rw [(List.cons.inj e).1] at hx
  exact hx k
 obtain ⟨y,hy,hpy⟩:=this
 rw [hy]
 cases y with
 |inl a=>exact hpy.elim
 |inr f=>exact bV hpy
end
theorem vn{l:List aw}(h:∀ d∈l,ku d=0)(h2:l.length≤30):ke l=0:=by
 unfold ke
 rw [iN oM,pQ h]
theorem FK{w:Ω}{a:Int}{S:List Ω}{I O L:List aw}{Q:List TEq}(h1:fJ w=true)(h2:(∀ x∈S,jq x=0)∧S.length≤3)(h3:(∀ d∈I,ku d=0)∧I.length≤30)(h4:(∀ d∈O,ku d=0)∧O.length≤30∧0<O.length)(h5:(∀ d∈L,ku d=0)∧L.length≤30)(h6:Q.length≤60):rB (aE.mk w a S I O L Q)=0:=by
 unfold rB
 simp only
 rw [xF h1,iN oM,pQ h2.1,iN oM,vn h3.1 h3.2,vn h4.1 h4.2.1,vn h5.1 h5.2]
 rfl
theorem CX:∀ (l:List TEq) (b:Int) (f:aq),(∀ q∈l,eqF q=0)→pD b l f=f
 |[],_,_,_=>rfl
 |q :: l,b,f,h=>by rw [pD,h q (by simp),BE,CX l _ _ fun x hx=>h x (by simp [hx])]
theorem yL:∀ (l:List aE) (b i:Int) (f:aq),(∀ x∈l,pt x)→mE b i l f=f
 |[],_,_,_,_=>rfl
 |x :: l,b,i,f,h=>by rw [mE,(h x (by simp)).1,BE,CX _ _ _ (h x (by simp)).2,yL l _ _ _ fun y hy=>h y (by simp [hy])]
theorem DS{p:az}(h:∀ x∈p.nodes,pt x)(h0:0<p.nodes.length)(h1:p.nodes.length≤10):(lv p).code=0:=by
 unfold lv
 rw [yL _ _ _ _ h,iN oM,iN oM]
 rfl
section
variable {E o t:Int} {fuel:Nat} {l:List aa}
abbrev Qn(l:List aa)(o:Int)(r:aE×List aa×Int×Int):Prop:=(∃ b,Cs l (b :: r.2.1))∧r.2.2.1=o∧pt r.1∧r.1.sz+10+wt r.2.1≤wt l
abbrev Ni(l:List aa)(o:Int)(c:Nat)(s:List aa×Int×Int×List aw×List TEq):Prop :=
 Cs l s.1∧s.2.1=o∧((∀ d∈s.2.2.2.1,ku d=0)∧s.2.2.2.1.length≤30)∧((∀ q∈s.2.2.2.2,eqF q=0)∧s.2.2.2.2.length≤60)∧szL aw.sz s.2.2.2.1+szL TEq.sz s.2.2.2.2+wt s.1≤c
theorem JB(hf:430≤fuel)(ho0:0≤o)(ho:o≤60)(hE:0≤E)(g:Gd E l)(hw:wt l≤9000000)(hx:Nx l):Pn (gB fuel ⟨l,E,o,t⟩) (Po E (Qn l o)):=by
 have h2:∀ (y5:Ω×(List aa)) (l8:List Ω) (l14:List aa) (l15:List aw),Cs l l14→fJ y5.1=true→((∀ x∈l8,jq x=0)∧l8.length≤3)→((∀ d∈l15,ku d=0)∧l15.length≤30)→y5.1.length+szL szS l8+szL aw.sz l15+wt l14≤wt l→Pn (dQ fuel ⟨l,E,o,t⟩ y5 l8 l14 l15) (Po E (Qn l o)):=by
  intro y5 l8 l14 l15 h k1 k2 k3 kw
  unfold dQ
  refine fF (iB _ hE (h.good g.good) (by simp [lit])) fun b hb=>?_
  refine fF (xH 30 dM hE ((h.trans hb).gd g)) fun c hcs=>?_
  obtain ⟨hc,d1,d2,d3,d4⟩:=hcs
  refine fF (iB _ hE (((h.trans hb).trans hc).good g.good) (by simp [lit])) fun d hd=>?_
  have hd':=((h.trans hb).trans hc).trans hd
  have e1:=hb.wt
  have e2:=hd.wt
  obtain ⟨C,hC⟩:∃ C,C=2+wt d:=⟨_,rfl⟩
  refine sX (Ni l o C) (fun s=>s.1.length) (fun s=>Ni l o C s∧isB (lit [[125]]) s.1=true) ⟨hd',rfl,⟨(fun _ h=>nomatch h),Nat.zero_le _⟩,⟨(fun _ h=>nomatch h),Nat.zero_le _⟩,by show 1+1+wt d≤C;omega⟩ ?_ ?_
  ·rintro ⟨l69,x70,x71,l72,l74⟩ ⟨hc,hx,⟨hk1,hl1⟩,⟨hk2,hl2⟩,hz⟩
   have hk1:∀ d∈l72,ku d=0:=hk1
   have hk2:∀ q∈l74,eqF q=0:=hk2
   have hc:Cs l l69:=hc
   have hx:x70=o:=hx
   have hl1:l72.length≤30:=hl1
   have hl2:l74.length≤60:=hl2
   have hz:szL aw.sz l72+szL TEq.sz l74+wt l69≤C:=hz
   have hwl:=hc.wt
   subst hx
   show Pn (co fuel ⟨l,E,x70,t⟩ l69 x70 x71 l72 l74) _
   have h4:∀ (l81:List aa) (x83:Int) (l84:List aw) (l86:List TEq),Cs l69 l81→((∀ d∈l84,ku d=0)∧l84.length≤30)→((∀ q∈l86,eqF q=0)∧l86.length≤60)→szL aw.sz l84+szL TEq.sz l86+wt l81≤C →
     Pn (dP ⟨l,E,x70,t⟩ l81 x70 x83 l84 l86) (Pl E (fun s'=>Ni l x70 C s'∧s'.1.length<l69.length) (fun s=>Ni l x70 C s∧isB (lit [[125]]) s.1=true) (Qn l x70)):=by
    intro l81 x83 l84 l86 h81 k3 k4 k5
    unfold dP
    refine sw (iB _ hE ((hc.trans h81).good g.good) (by simp [lit])) fun b hb=>?_
    have e3:=hb.wt
    exact bV ⟨⟨(hc.trans h81).trans hb,rfl,k3,k4,by show szL aw.sz l84+szL TEq.sz l86+wt b≤C;omega⟩,(h81.trans hb).2⟩
   have h5:∀ y93:Bool×List aa,Rd l69 y93.2→(∀ x r,y93.2=x :: r→x.kind=2→l74.length<60)→Pn (dw fuel ⟨l,E,x70,t⟩ x70 x71 l72 l74 y93) (Pl E (fun s'=>Ni l x70 C s'∧s'.1.length<l69.length) (fun s=>Ni l x70 C s∧isB (lit [[125]]) s.1=true) (Qn l x70)):=by
    intro y93 h93 hlt
    unfold dw
    split
    ·exact vY (jv dM hE ((hc.rd h93).good g.good))
    ·rename_i hne
     have hw93:=h93.wt
     cases hy:y93.2 with
     |nil=>rw [hy] at hne;exact absurd rfl hne
     |cons x r =>
      rw [hy] at h93 hw93
      by_cases hk:x.kind=2
      ·have h60:=hlt x r hy hk
       refine sw (eq2 hf ho0 ho hE ((hc.rd h93).gd g) oM (by simp)) fun b hb=>?_
       obtain ⟨b1,b2,b3,b4⟩:=hb
       rw [iP (nD oM dM)]
       simp only [b2]
       refine h4 _ _ _ _ (h93.cs b1) ⟨hk1,hl1⟩ ⟨fun q hq=>(List.mem_append.1 hq).elim (hk2 q) fun h=>by rw [List.mem_singleton.1 h];exact b3,by show (l74++[b.1]).length≤60;rw [List.length_append,List.length_singleton];omega⟩ ?_
       show _+szL TEq.sz (l74++[b.1])+wt b.2.1≤C
       have:=ro TEq.sz l74 [b.1]
       rw [oH] at this;omega
      ·exact sw (JA hk hE ((hc.rd h93).gd g)) fun b hb=>hb.elim
   unfold co
   refine cQ (nC _ (by simp [lit])) fun b hb=>?_
   subst hb
   split
   ·rename_i hi
    exact bV ⟨⟨hc,rfl,⟨hk1,hl1⟩,⟨hk2,hl2⟩,hz⟩,hi⟩
   ·refine cQ (qa [118,97,114] dM) fun b hb=>?_
    have e4:=hb.wt
    split
    ·split
     ·exact vY (jv dM hE ((hc.rd hb).good g.good))
     ·rename_i h30
      refine sw (GX hE ((hc.rd hb).gd g)) fun c hccs=>?_
      obtain ⟨c1,c2,c3⟩:=hccs
      rw [iP (nD oM dM)]
      refine h4 _ _ _ _ (hb.cs c1) ⟨fun q hq=>(List.mem_append.1 hq).elim (hk1 q) fun h=>by rw [List.mem_singleton.1 h];exact c2,by show (l72++[aw.mk c.1.name c.1.t]).length≤30;rw [List.length_append,List.length_singleton];omega⟩ ⟨hk2,hl2⟩ ?_
      show szL aw.sz (l72++[c.1])+_+wt c.2≤C
      have:=ro aw.sz l72 [c.1]
      rw [oH] at this;omega
    ·split
     ·rename_i hlen
      rw [iP (by simpa using hlen)]
      split
      ·split
       ·exact vY (jv dM hE ((hc.rd hb).good g.good))
       ·rename_i h60;exact h5 _ hb fun x r _ _=>by omega
      ·rename_i hk
       exact h5 _ hb fun x r he hk2=>by rw [he] at hk;exact absurd hk2 hk
     ·rename_i hlen
      exact h5 _ hb fun x r he _=>by rw [he] at hlen;exact absurd (by simp only [List.length_cons];omega) hlen
  ·rintro ⟨l35,x36,x37,l38,l40⟩ ⟨⟨hc,hx,hk1,hk2,hz⟩,hi⟩
   have hc:Cs l l35:=hc
   have hx:x36=o:=hx
   have hi:isB (lit [[125]]) l35=true:=hi
   have hz:szL aw.sz l38+szL TEq.sz l40+wt l35≤C:=hz
   show Pn (ew ⟨l,E,o,t⟩ y5 l8 l15 c l35 x36 x37 l38 l40) _
   unfold ew
   obtain ⟨x,r,rfl,hk,ht⟩:=pw hi
   rw [gq]
   rw [zG] at hz
   refine jb ⟨⟨x,hc⟩,hx,⟨FK k1 k2 k3 ⟨d1,by omega,d3⟩ hk1 hk2.2,hk2.1⟩,?_⟩
   show (aE.mk y5.1 (l.getD 0 default).at_ l8 l15 c.1 l38 l40).sz+10+wt r≤wt l
   rw [vV]
   simp only
   omega
 have h1:∀ (y5:Ω×(List aa)) (l7:List aa) (l8:List Ω),Cs l l7→fJ y5.1=true→((∀ x∈l8,jq x=0)∧l8.length≤3)→y5.1.length+szL szS l8+wt l7≤wt l→Pn (dR fuel ⟨l,E,o,t⟩ y5 l7 l8) (Po E (Qn l o)):=by
  intro y5 l7 l8 h k1 k2 kw
  unfold dR
  refine fF (iB _ hE (h.good g.good) (by simp [lit])) fun b hb=>?_
  have e1:=hb.wt
  refine cQ (nC _ (by simp [lit])) fun c hc=>?_
  split
  ·exact h2 _ _ _ _ (h.trans hb) k1 k2 ⟨(fun _ h=>nomatch h),Nat.zero_le _⟩ (by show _+_+1+wt b≤_;omega)
  ·exact fF (xH 30 dM hE ((h.trans hb).gd g)) fun d hd=>h2 _ _ _ _ ((h.trans hb).trans hd.1) k1 k2 ⟨hd.2.1,by have:=hd.2.2.2.2;omega⟩ (by have:=hd.2.2.1;omega)
 unfold gB
 rw [iP ⟨by decide,by obtain ⟨x,r,rfl,_⟩:=hx;simp⟩]
 refine cQ (AW hx) fun a ha=>?_
 have e0:=ha.wt
 refine fF (xD hE (ha.gd g)) fun b hb=>?_
 have e1:=hb.2.2
 refine cQ (qa [60] dM) fun c hc=>?_
 have e2:=hc.wt
 have hc':=(ha.trans hb.1).rd hc
 split
 ·refine fF (xG 3 dM hE (hc'.gd g)) fun d hds=>?_
  obtain ⟨hd,s1,s2,s3,s4⟩:=hds
  refine fF (iB _ hE ((hc'.trans hd).good g.good) (by simp [lit])) fun e he=>?_
  have e3:=he.wt
  exact h1 _ _ _ ((hc'.trans hd).trans he) hb.2.1 ⟨s1,by omega⟩ oM
 ·exact h1 _ _ _ hc' hb.2.1 ⟨(fun _ h=>nomatch h),Nat.zero_le _⟩ (by show _+1+wt c.2≤_;omega)
theorem FL(hf:430≤fuel)(src:Ω)(hs:src.length≤12000):∃ p f,fE fuel src=some (p,f)∧(f.code=0→(lv p).code=0∧p.sz≤1048576):=by
 obtain ⟨g,hw⟩:=FH src hs
 have hsc:=zj src oM
 obtain ⟨l,f,hlf⟩:∃ l f,vA src=(l,f):=⟨_,_,rfl⟩
 rw [hlf] at g hw hsc
 have g:Gd src.length l:=g
 have hw:wt l≤41 * src.length:=hw
 unfold fE
 rw [hsc,bSq]
 by_cases h0:f.code=0
 ·rw [iN (fun x=>x h0)]
  have hE:(0:Int)≤(src.length:Int):=by omega
  have key:Pn (dh (fun (l25,x26,x27,l28)=>eh fuel src l25 x26 x27 l28) (l,0,0,[])) (Sum.elim (fun s=>(∀ x∈s.2.2.2,pt x)∧0<s.2.2.2.length∧s.2.2.2.length≤10∧szL aE.sz s.2.2.2≤wt l+1) (fun r=>r.2.code≠0)):=by
   refine sW (fun s=>Gd src.length s.1∧s.2.1=0∧(∀ x∈s.2.2.2,pt x)∧s.2.2.2.length≤10∧szL aE.sz s.2.2.2+wt s.1≤wt l+1) (fun s=>s.1.length) ⟨g,rfl,(fun _ h=>nomatch h),Nat.zero_le _,by show 1+wt l≤_;omega⟩ ?_
   rintro ⟨l25,x26,x27,l28⟩ ⟨g',hx,hk,hl,hz⟩
   have hk:∀ x∈l28,pt x:=hk
   have g':Gd src.length l25:=g'
   have hx:x26=0:=hx
   have hl:l28.length≤10:=hl
   have hz:szL aE.sz l28+wt l25≤wt l+1:=hz
   subst hx
   have hj:Pn (gQ fuel src l25 0 x27 l28) (Sum.elim (fun s'=>(Gd src.length s'.1∧s'.2.1=0∧(∀ x∈s'.2.2.2,pt x)∧s'.2.2.2.length≤10∧szL aE.sz s'.2.2.2+wt s'.1≤wt l+1)∧s'.1.length<l25.length)
     (Sum.elim (fun s=>(∀ x∈s.2.2.2,pt x)∧0<s.2.2.2.length∧s.2.2.2.length≤10∧szL aE.sz s.2.2.2≤wt l+1) (fun r=>r.2.code≠0))):=by
    unfold gQ
    refine cQ (nC _ (by simp [lit])) fun b hb'=>?_
    subst hb'
    split
    ·rename_i hi
     split
     ·exact cQ (jv dM hE g'.good) fun a ha=>bV ha.1
     ·rename_i h10
      have hlen1:=ip (f:=aE.sz) aE.sz_pos l28
      obtain ⟨y,hy,hpy⟩:=JB (t:=x27) hf (Int.le_refl 0) dM hE g' oM (AV hi (by simp [lit]))
      rw [hy]
      cases y with
      |inr z=>exact bV hpy.1
      |inl a =>
       obtain ⟨⟨b,hcs⟩,ho,hnd,hsz⟩:Qn l25 0 a:=hpy
       show Pn (if lK (l28.length+1) 144 then _ else none) _
       rw [iP (nD oM dM)]
       have gb:=hcs.gd g'
       have e1:=hcs.2
       simp only [List.length_cons] at e1
       refine bV ⟨⟨⟨⟨by have:=gb.good.1;simp only [List.length_cons] at this;show a.2.1.length≤_;omega,fun t ht=>gb.good.2 t (List.mem_cons_of_mem _ ht)⟩,fun t ht=>gb.tk t (List.mem_cons_of_mem _ ht)⟩,ho,fun x hx=>(List.mem_append.1 hx).elim (hk x) fun h=>by rw [List.mem_singleton.1 h];exact hnd,?_,?_⟩,?_⟩
       ·show (l28++[a.1]).length≤10
        rw [List.length_append,List.length_singleton];omega
       ·show szL aE.sz (l28++[a.1])+wt a.2.1≤wt l+1
        have:=ro aE.sz l28 [a.1]
        rw [oH] at this;omega
       ·show a.2.1.length<l25.length
        omega
    ·exact cQ (jv dM hE g'.good) fun a ha=>bV ha.1
   show Pn (eh fuel src l25 0 x27 l28) _
   unfold eh
   split
   ·exact hj
   ·split
    ·exact hj
    ·rename_i hz'
     exact bV ⟨hk,by show 0<l28.length;omega,hl,by show szL aE.sz l28≤_;omega⟩
  obtain ⟨a,ha,hpa⟩:=key
  rw [ha,bSq]
  cases a with
  |inl s =>
   refine ⟨az.mk s.2.2.2,aq.mk 0 0,rfl,fun _=>⟨DS hpa.1 hpa.2.1 hpa.2.2.1,?_⟩⟩
   have h4:=hpa.2.2.2
   unfold az.sz
   simp only
   omega
  |inr r=>exact ⟨r.1,r.2,rfl,fun h=>absurd h hpa⟩
 ·rw [iP h0]
  exact ⟨_,_,rfl,fun h=>absurd h h0⟩
end
theorem DT(n:Nat)(hn:9000000<n)(src:Ω):kV (n+40) src=some true:=by
 unfold kV
 rw [xz n oM,bSq,iP rfl]
 by_cases hl:(src.length:Int)>12000
 ·rw [iP hl]
 rw [iN hl]
 obtain ⟨p,f,h1,h2⟩:=FL (fuel:=n+40) oM src oM
 rw [h1,bSq]
 by_cases c:f.code=0
 ·obtain ⟨k1,k2⟩:=h2 c
  rw [iN (fun x=>x c),qB _ oM p k2,bSq]
  by_cases k:(kf (n+40) p).code=0
  ·obtain ⟨q,h3,h4⟩:=uH (n+40) oM p k2 k
   obtain ⟨q',f',h5,h6⟩:=FL (fuel:=n+40) oM (iH (n+40) p) (rn k).2
   rw [h3] at h5
   simp only [sJ,Prod.mk.injEq] at h5
   obtain ⟨rfl,rfl⟩:=h5
   obtain ⟨k3,k4⟩:=h6 rfl
   have hw:=uG (n+40) h4
   have hf:kf (n+40) q=aq.mk 0 0:=by
    unfold kf
    rw [iP k3,iN (by rw [← hw];have:=(rn k).2;omega)]
   simp only [k,not_true,if_false,if_true]
   rw [h3,bSq,qB _ oM q k4,bSq,hf,hw]
   simp
  ·have hf:kf (n+40) p=aq.mk 7 (-1):=by
    unfold kf at k ⊢
    rw [iP k1] at k ⊢
    split at k
    ·rename_i hlt;rw [iP hlt]
    ·exact absurd rfl k
   rw [hf]
   rfl
 ·rw [iP c]
theorem sE(src:Ω)(_:okT src)(_:szS src≤1048576):∃ fuel,kV fuel src=some true:=⟨9000041,DT 9000001 dM src⟩
end Pam
