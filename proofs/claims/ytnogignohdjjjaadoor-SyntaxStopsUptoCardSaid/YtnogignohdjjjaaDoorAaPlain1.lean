/- Tokens: what a text's tokens are, and plain laws on them. No program in sight. -/
import Derived.Test.YtnogignohdjjjaaDoorAaFun1
import Derived.Test.YtnogignohdjjjaaDoorAWide1
set_option linter.all false
namespace Pam
open Go
def tSm(c:UInt8):Prop:=97≤c.toNat∧c.toNat≤122
def tDg(c:UInt8):Prop:=48≤c.toNat∧c.toNat≤57
instance (c:UInt8):Decidable (tSm c):=inferInstanceAs (Decidable (_∧_))
instance (c:UInt8):Decidable (tDg c):=inferInstanceAs (Decidable (_∧_))
def tAn(c:UInt8):Bool:=decide (tSm c∨tDg c)
def tBl(c:UInt8):Prop:=c.toNat=32∨c.toNat=9∨c.toNat=13
instance (c:UInt8):Decidable (tBl c):=inferInstanceAs (Decidable (_∨_))
def blk:Bool→List UInt8→List UInt8
 |_,[]=>[]
 |r,c :: l=>if c.toNat=10 then blk false l else if r=true∨tBl c then blk r l else if c.toNat=35 then blk true l else c :: l
theorem l3(r:Bool)(s:List UInt8):(blk r s).length≤s.length:=by
 induction s generalizing r with
 |nil=>simp [blk]
 |cons c l ih =>
  unfold blk
  have h1:=ih false;have h2:=ih r;have h3:=ih true
  split
  ·simp;omega
  ·split
   ·simp;omega
   ·split
    ·simp;omega
    ·simp
theorem sN(r:Bool)(s:List UInt8):blk r s=s.drop (s.length - (blk r s).length):=by
 induction s generalizing r with
 |nil=>simp [blk]
 |cons c l ih =>
  have key:∀ q,blk q l=(c :: l).drop ((c :: l).length - (blk q l).length):=by
   intro q
   have h1:=ih q;have h2:=l3 q l
   rw [List.length_cons,show l.length+1 - (blk q l).length=(l.length - (blk q l).length)+1 by omega,List.drop_succ_cons]
   exact h1
  unfold blk
  split
  ·exact key _
  ·split
   ·exact key _
   ·split
    ·exact key _
    ·simp
def jC:List (List UInt8):=[[97,100,100],[97,110,100],[98,111,111,108],[99,97,108,108],[99,97,116],[100,105,118],[101,108,115,101],[101,113],[102,97,108,115,101],[102,105,108,108],[102,111,108,100],[105,102],[105,110,116],[108,101,115,115],[109,97,112],[109,97,120],[109,105,110],[109,111,100],[109,117,108],[110,101,103],[110,111,100,101],[110,111,116],[111,114],[112,114,101],[115,99,97,110],[115,108,105,99,101],[115,117,98],[116,104,101,110],[116,114,117,101],[118,97,114],[119,105,116,104],[120,111,114]]
def jf(s:List UInt8):Bool:=jC.contains s
def mF:List Nat:=[40,41,123,125,91,93,60,62,44,59,58,43,45,42,47,37,61,94]
def mX(n:Int)(w:List UInt8):Int:=w.foldl (fun n c=>10 * n+((c.toNat:Int) - 48)) n
def pL(w:List UInt8):Option Int :=
 if w.length>18∨(w.length>1∧w.head?.map UInt8.toNat=some 48)∨¬ (∀ c∈w,tDg c) then none else some (mX 0 w)
def hN(p:Nat)(s:List UInt8):aa ⊕ Int :=
 match s with
 |[]=>.inr 1
 |c :: l =>
  if tSm c then
   let w:=(c :: l).takeWhile tAn
   if jf w then .inl (aa.mk 1 p w 0) else if w.length>12 then .inr 3 else .inl (aa.mk 2 p w 0)
  else if tDg c then
   let w:=(c :: l).takeWhile tAn
   match pL w with
   |some n=>.inl (aa.mk 3 p w n)
   |none=>.inr 2
  else if (c :: l).take 2=[61,61]∨(c :: l).take 2=[45,62] then .inl (aa.mk 4 p ((c :: l).take 2) 0)
  else if c.toNat∈mF then .inl (aa.mk 4 p [c] 0)
  else .inr 1
theorem o9{c:UInt8}(h:tSm c∨tDg c):tAn c=true:=by simpa [tAn] using h
theorem jX{p:Nat}{s:List UInt8}{t:aa}(h:hN p s=.inl t):t.at_=p∧t.text≠[]∧t.text <+: s:=by
 cases s with
 |nil=>simp [hN] at h
 |cons c l =>
  have tw:(c :: l).takeWhile tAn <+: c :: l:=List.takeWhile_prefix _
  have ne:∀ {c:UInt8},tAn c=true→(c :: l).takeWhile tAn≠[]:=by intro c h;rw [List.takeWhile_cons,iP h];simp
  unfold hN at h
  simp only at h
  split at h
  ·rename_i hc
   split at h
   ·cases h;exact ⟨rfl,ne (o9 (.inl hc)),tw⟩
   ·split at h
    ·cases h
    ·cases h;exact ⟨rfl,ne (o9 (.inl hc)),tw⟩
  ·split at h
   ·rename_i hc
    split at h
    ·cases h;exact ⟨rfl,ne (o9 (.inr hc)),tw⟩
    ·cases h
   ·split at h
    ·cases h;exact ⟨rfl,by simp,List.take_prefix _ _⟩
    ·split at h
     ·cases h;exact ⟨rfl,by simp,⟨l,rfl⟩⟩
     ·cases h
def fR:Nat→Nat→List UInt8→List aa ⊕ bl
 |0,_,_=>.inl []
 |k+1,p,s =>
  match blk false s with
  |[]=>.inl []
  |c :: l =>
   match hN (p+(s.length - (c :: l).length)) (c :: l) with
   |.inr e=>.inr (bl.mk e ((p+(s.length - (c :: l).length):Nat):Int))
   |.inl t =>
    match fR k (p+(s.length - (c :: l).length)+t.text.length) ((c :: l).drop t.text.length) with
    |.inl m=>.inl (t :: m)
    |.inr f=>.inr f
theorem gN(k p:Nat)(s:List UInt8):fR (k+1) p s=match blk false s with
  |[]=>.inl []
  |c :: l =>
   match hN (p+(s.length - (c :: l).length)) (c :: l) with
   |.inr e=>.inr (bl.mk e ((p+(s.length - (c :: l).length):Nat):Int))
   |.inl t =>
    match fR k (p+(s.length - (c :: l).length)+t.text.length) ((c :: l).drop t.text.length) with
    |.inl m=>.inl (t :: m)
    |.inr f=>.inr f:=rfl
theorem nM:∀ (k k' p:Nat) (s:List UInt8),s.length<k→s.length<k'→fR k p s=fR k' p s:=by
 intro k
 induction k with
 |zero=>intro k' p s h;omega
 |succ k ih =>
  intro k' p s h h'
  cases k' with
  |zero=>omega
  |succ k' =>
   unfold fR
   have hb:=l3 false s
   cases e:blk false s with
   |nil=>rfl
   |cons c l =>
    simp only
    cases ht:hN (p+(s.length - (c :: l).length)) (c :: l) with
    |inr e=>rfl
    |inl t =>
     simp only
     obtain ⟨_,h2,_⟩:=jX ht
     have:0<t.text.length:=List.length_pos_iff.2 h2
     rw [e] at hb
     have hcl:(c :: l).length=l.length+1:=rfl
     rw [ih k' _ _ (by rw [List.length_drop];omega) (by rw [List.length_drop];omega)]
theorem mS(l:List UInt8)(i:Nat)(h:i<l.length):l.drop i=l.getD i 0 :: l.drop (i+1):=by
 rw [List.drop_eq_getElem_cons h]
 simp [List.getD,h]
theorem wr1(p:Nat)(h:p<1000000):IntKind.wrap .i64 ((p:Int)+1)=((p+1:Nat):Int):=wrs p (by omega)
theorem mG(c:UInt8):gw (c.toNat:Int)=some (decide (tSm c)):=by
 unfold gw
 by_cases h:(c.toNat:Int)≥97
 ·rw [iP h];congr 1;exact decide_eq_decide.2 (by unfold tSm;omega)
 ·rw [iN h];congr 1;symm;rw [decide_eq_false_iff_not];unfold tSm;omega
theorem mu(c:UInt8):gk (c.toNat:Int)=some (decide (tDg c)):=by
 unfold gk
 by_cases h:(c.toNat:Int)≥48
 ·rw [iP h];congr 1;exact decide_eq_decide.2 (by unfold tDg;omega)
 ·rw [iN h];congr 1;symm;rw [decide_eq_false_iff_not];unfold tDg;omega
theorem nN(src:List UInt8)(hl:src.length≤100000):∀ (k p:Nat) (r:Bool),p+k=src.length →
  dX (fun (x5,b6)=>bo src x5 b6) ((p:Int),r)=some ((src.length - (blk r (src.drop p)).length:Nat):Int)
 |0,p,r,h=>by
  have:p=src.length:=by omega
  subst this
  rw [List.drop_length]
  refine cP ?_
  show bo _ _ _=_
  unfold bo
  rw [iN (iK _)]
  simp [blk]
 |k+1,p,r,h=>by
  have hp:p<src.length:=by omega
  have hd:=mS src p hp
  have hdl:(src.drop (p+1)).length=src.length - (p+1):=List.length_drop
  obtain ⟨c,hc⟩:∃ c,src.getD p 0=c:=⟨_,rfl⟩
  rw [hc] at hd
  have e:blk r (c :: src.drop (p+1))=if c.toNat=10 then blk false (src.drop (p+1)) else if r=true∨tBl c then blk r (src.drop (p+1)) else if c.toNat=35 then blk true (src.drop (p+1)) else c :: src.drop (p+1):=rfl
  have stp:∀ q,bo src (p:Int) r=some (.inl ((p+1:Nat),q))→blk r (c :: src.drop (p+1))=blk q (src.drop (p+1)) →
    dX (fun (x5,b6)=>bo src x5 b6) ((p:Int),r)=some ((src.length - (blk r (src.drop p)).length:Nat):Int):=fun q h1 h2=>by
   rw [fj (s':=(((p+1:Nat):Int),q)) h1,nN src hl k (p+1) q (by omega),hd,h2]
  have hb:bo src (p:Int) r=if (c.toNat:Int)=10 then some (.inl ((p+1:Nat),false)) else if r=true∨tBl c then some (.inl ((p+1:Nat),r)) else if (c.toNat:Int)=35 then some (.inl ((p+1:Nat),true)) else some (.inr (p:Int)):=by
   unfold bo
   rw [iP (ltI hp),iP (inI hp),tN,hc]
   unfold bO cr
   rw [wr1 p (by omega)]
   simp only [tN,hc]
   by_cases h1:(c.toNat:Int)=10
   ·rw [iP h1,iP h1]
   rw [iN h1,iN h1]
   by_cases h2:r=true
   ·rw [iP h2,iP h2,iP (Or.inl h2)]
   rw [iN h2]
   have key:∀ b:Bool,(b=true↔tBl c)→(if b=true then (some (.inl (((p+1:Nat):Int),r)):Option ((Int×Bool) ⊕ Int)) else if ((src.getD p 0).toNat:Int)=35 then some (.inl (((p+1:Nat):Int),true)) else some (.inr (p:Int))) =
     if r=true∨tBl c then some (.inl (((p+1:Nat):Int),r)) else if (c.toNat:Int)=35 then some (.inl (((p+1:Nat):Int),true)) else some (.inr (p:Int)):=by
    intro b hb
    rw [hc]
    by_cases hh:tBl c
    ·rw [iP (hb.2 hh),iP (Or.inr hh)]
    ·rw [iN (fun x=>hh (hb.1 x)),iN (show ¬ (r=true∨tBl c) from fun x=>x.elim h2 hh)]
   rw [hc] at key
   by_cases h3:(c.toNat:Int)=32
   ·rw [iP h3];exact key ((c.toNat:Int) == 32) (by rw [beq_iff_eq];unfold tBl;omega)
   rw [iN h3]
   by_cases h4:(c.toNat:Int)=9
   ·rw [iP h4];exact key ((c.toNat:Int) == 9) (by rw [beq_iff_eq];unfold tBl;omega)
   rw [iN h4]
   exact key ((c.toNat:Int) == 13) (by rw [beq_iff_eq];unfold tBl;omega)
  by_cases h1:c.toNat=10
  ·rw [iP h1] at e
   rw [iP (by omega)] at hb
   exact stp false hb e
  rw [iN h1] at e
  rw [iN (by omega)] at hb
  by_cases h2:r=true∨tBl c
  ·rw [iP h2] at e hb
   exact stp r hb e
  rw [iN h2] at e hb
  by_cases h3:c.toNat=35
  ·rw [iP h3] at e
   rw [iP (by omega)] at hb
   exact stp true hb e
  rw [iN h3] at e
  rw [iN (by omega)] at hb
  rw [cP (o:=(p:Int)) hb,hd,e,List.length_cons,hdl]
  congr 2;omega
theorem pM(src:List UInt8)(hl:src.length≤100000)(p:Nat)(hp:p≤src.length)(l:List aa) :
  dQ src p l=some ((src.length - (blk false (src.drop p)).length:Nat):Int):=by
 unfold dQ
 rw [nN src hl (src.length - p) p false (by omega)]
 rfl
theorem pN(src:List UInt8)(hl:src.length≤100000):∀ (k p:Nat),p+k=src.length →
  dX (fun x4=>cT src x4) (p:Int)=some ((p+((src.drop p).takeWhile tAn).length:Nat):Int)
 |0,p,h=>by
  have:p=src.length:=by omega
  subst this
  rw [List.drop_length]
  refine cP ?_
  unfold cT
  rw [iN (iK _)];rfl
 |k+1,p,h=>by
  have hp:p<src.length:=by omega
  rw [mS src p hp]
  have hb:cT src (p:Int)=if tAn (src.getD p 0)=true then some (.inl ((p+1:Nat):Int)) else some (.inr (p:Int)):=by
   unfold cT dv
   rw [iP (ltI hp),iP (inI hp),tN,wr1 p (by omega),mG,mu]
   simp only [bSq,decide_eq_true_eq]
   unfold tAn
   simp only [decide_eq_true_eq]
   by_cases h1:tSm (src.getD p 0)
   ·rw [iP h1,iP (Or.inl h1)]
   ·rw [iN h1]
    by_cases h2:tDg (src.getD p 0)
    ·rw [iP h2,iP (Or.inr h2)]
    ·rw [iN h2,iN (fun x=>x.elim h1 h2)]
  rw [List.takeWhile_cons]
  by_cases h1:tAn (src.getD p 0)=true
  ·rw [iP h1] at hb ⊢
   rw [fj hb,pN src hl k (p+1) (by omega),List.length_cons]
   congr 2;omega
  ·rw [iN h1] at hb ⊢
   rw [cP hb];rfl
theorem uz(src:List UInt8)(hl:src.length≤100000)(p:Nat)(hp:p≤src.length)(l:List aa) :
  dg src p l=some ((src.drop p).takeWhile tAn,((p+((src.drop p).takeWhile tAn).length:Nat):Int)):=by
 unfold dg
 rw [pN src hl (src.length - p) p (by omega)]
 simp only [bSq]
 unfold cS
 have tw:(src.drop p).takeWhile tAn <+: src.drop p:=List.takeWhile_prefix _
 have hle:=tw.length_le
 rw [List.length_drop] at hle
 rw [iP ⟨by omega,by omega,by omega⟩,tN,tN,List.drop_take,show p+((src.drop p).takeWhile tAn).length - p=((src.drop p).takeWhile tAn).length by omega,← List.prefix_iff_eq_take.1 tw]
theorem tq(w:List UInt8):il w=some (jf w):=by
 unfold il aK
 by_cases h:w∈jC
 ·have:jf w=true:=by unfold jf;rw [List.contains_iff_mem];exact h
  rw [this]
  unfold jC at h
  simp only [List.mem_cons,List.not_mem_nil,or_false] at h
  rcases h with rfl|rfl|rfl|rfl|rfl|rfl|rfl|rfl|rfl|rfl|rfl|rfl|rfl|rfl|rfl|rfl|rfl|rfl|rfl|rfl|rfl|rfl|rfl|rfl|rfl|rfl|rfl|rfl|rfl|rfl|rfl|rfl
  all_goals rfl
 ·have:jf w=false:=by unfold jf;rw [← Bool.not_eq_true,List.contains_iff_mem];exact h
  rw [this]
  have hn:∀ x,x∈jC→¬ w=x:=fun x hx e=>h (e ▸ hx)
  have hb:∀ x,x∈jC→(w == x)=false:=fun x hx=>by rw [beq_eq_false_iff_ne];exact hn x hx
  rw [iN (hn _ (by decide)),iN (hn _ (by decide)),iN (hn _ (by decide)),iN (hn _ (by decide)),iN (hn _ (by decide)),iN (hn _ (by decide)),iN (hn _ (by decide)),iN (hn _ (by decide)),iN (hn _ (by decide)),iN (hn _ (by decide)),iN (hn _ (by decide)),iN (hn _ (by decide)),iN (hn _ (by decide)),iN (hn _ (by decide)),iN (hn _ (by decide)),iN (hn _ (by decide)),iN (hn _ (by decide)),iN (hn _ (by decide)),iN (hn _ (by decide)),iN (hn _ (by decide)),iN (hn _ (by decide)),iN (hn _ (by decide)),iN (hn _ (by decide)),iN (hn _ (by decide)),iN (hn _ (by decide)),iN (hn _ (by decide)),iN (hn _ (by decide)),iN (hn _ (by decide)),iN (hn _ (by decide)),iN (hn _ (by decide)),iN (hn _ (by decide))]
  rw [hb _ (by decide)]
  rfl
theorem mT:∀ (l:List UInt8) (acc:Nat),(∀ c∈l,tDg c)→∃ m:Nat,Go.Lib.decFrom acc l=some m∧(m:Int)=mX acc l
 |[],acc,_=>⟨acc,rfl,rfl⟩
 |c :: l,acc,h=>by
  have hc:tDg c:=h c List.mem_cons_self
  have hc':48≤c.toNat∧c.toNat≤57:=hc
  obtain ⟨m,h1,h2⟩:=mT l (acc * 10+(c.toNat - 48)) (fun d hd=>h d (List.mem_cons_of_mem _ hd))
  refine ⟨m,?_,?_⟩
  ·unfold Go.Lib.decFrom Go.Lib.digitVal
   rw [iP hc']
   exact h1
  ·rw [h2]
   unfold mX
   rw [List.foldl_cons]
   congr 1
   omega
theorem sO(w:List UInt8)(hn:w≠[])(hl:w.length≤18)(h:∀ c∈w,tDg c):pG w=some (mX 0 w):=by
 unfold pG
 rw [iP hl]
 cases w with
 |nil=>exact absurd rfl hn
 |cons c l =>
  have hc:48≤c.toNat∧c.toNat≤57:=h c List.mem_cons_self
  unfold Go.Lib.atoi
  have n1:(c == 45)=false:=by rw [beq_eq_false_iff_ne];intro e;subst e;revert hc;decide
  have n2:(c == 43)=false:=by rw [beq_eq_false_iff_ne];intro e;subst e;revert hc;decide
  simp only [n1,n2]
  obtain ⟨m,h1,h2⟩:=mT (c :: l) 0 h
  show (Go.Lib.decNat (c :: l)).map (fun m:Nat=>(m:Int))=_
  unfold Go.Lib.decNat
  rw [iN (by simp),h1,Option.map_some,h2]
  rfl
theorem qY(w:List UInt8):(∀ c∈w,tDg c)↔∀ i,i<w.length→tDg (w.getD i 0):=by
 constructor
 ·intro h i hi
  have:w.getD i 0=w[i]:=by simp [List.getD,hi]
  rw [this];exact h _ (List.getElem_mem hi)
 ·intro h c hc
  obtain ⟨i,hi,rfl⟩:=List.getElem_of_mem hc
  have:=h i hi
  have e:w.getD i 0=w[i]:=by simp [List.getD,hi]
  rwa [e] at this
theorem rM(w:List UInt8)(hn:w≠[]):gA w=some (match pL w with|some n=>(n,true)|none=>(0,false)):=by
 unfold gA
 unfold pL
 by_cases h1:w.length>18
 ·rw [iP (by omega),iP (Or.inl h1)]
 rw [iN (by omega)]
 have hj:eP w=some (match (if ¬ ∀ c∈w,tDg c then none else some (mX 0 w):Option Int) with|some n=>(n,true)|none=>(0,false)):=by
  unfold eP
  rw [mE (body:=fun x4=>dS w x4) w.length (fun i=>if tDg (w.getD i 0) then none else some ((0:Int),false)) ()
   (by
    intro i hi
    show dS w i=_
    unfold dS
    rw [iP (ltI hi),iP (inI hi),tN,mu,wr1 i (by omega)]
    simp only [bSq,decide_eq_true_eq]
    by_cases hd:tDg (w.getD i 0)
    ·rw [iP hd,iP hd]
    ·rw [iN hd,iN hd])
   (by
    show dS w w.length=_
    unfold dS
    rw [iN (iK _)])]
  simp only [bSq]
  by_cases ha:∀ c∈w,tDg c
  ·have hg:=(qY w).1 ha
   rw [rL (fun i hi=>by rw [iP (hg i hi)])]
   rw [iN (fun h=>h ha)]
   simp only [Sum.elim_inl]
   unfold fl gy
   rw [iP ⟨rfl,rfl⟩,sO w hn (by omega) ha]
   rfl
  ·rw [iP ha]
   rcases je w.length (fun i=>if tDg (w.getD i 0) then none else some ((0:Int),false)) () with ⟨e,hall⟩|⟨i,z,hi,hf,e⟩
   ·exfalso
    refine ha ((qY w).2 fun i hi=>?_)
    have:=hall i hi
    split at this
    ·assumption
    ·cases this
   ·rw [e]
    split at hf
    ·cases hf
    ·simp only [sJ] at hf
     subst hf;rfl
 by_cases h2:w.length>1
 ·rw [iP (by omega),iP ⟨by omega,by omega⟩]
  cases w with
  |nil=>exact absurd rfl hn
  |cons c l =>
   by_cases h3:c.toNat=48
   ·rw [iP (show (((c :: l).getD 0 0).toNat:Int)=48 by simp [h3]),iP (Or.inr (Or.inl ⟨h2,by simp [h3]⟩))]
   ·rw [iN (show ¬ (((c :: l).getD 0 0).toNat:Int)=48 by simp;omega),hj]
    by_cases ha:∀ d∈c :: l,tDg d
    ·rw [iN (fun h=>h ha),iN (fun h=>h.elim h1 (fun h=>h.elim (fun h=>h3 (by simpa using h.2)) (fun h=>h ha)))]
    ·rw [iP ha,iP (Or.inr (Or.inr ha))]
 ·rw [iN (by omega),hj]
  by_cases ha:∀ d∈w,tDg d
  ·rw [iN (fun h=>h ha),iN (fun h=>h.elim h1 (fun h=>h.elim (fun h=>h2 h.1) (fun h=>h ha)))]
  ·rw [iP ha,iP (Or.inr (Or.inr ha))]
theorem oG(s l:List UInt8)(hl:l.length=2):dI s l=some (decide (s.take 2=l)):=by
 unfold dI cY
 by_cases h:(s.length:Int)≥(l.length:Int)
 ·rw [iP h,iP ⟨by omega,by omega⟩,hl]
  simp only [bSq]
  congr 1
  rw [Bool.eq_iff_iff]
  simp
 ·rw [iN h]
  simp only [bSq]
  congr 1;symm
  rw [decide_eq_false_iff_not]
  intro e
  have:(s.take 2).length=2:=by rw [e,hl]
  rw [List.length_take] at this
  omega
theorem tt(src:List UInt8)(p:Nat)(hp:p<src.length)(l:List aa) :
  ep src p l=some (if (src.drop p).take 2=[61,61]∨(src.drop p).take 2=[45,62] then (src.drop p).take 2 else if (src.getD p 0).toNat∈mF then [src.getD p 0] else []):=by
 unfold ep
 have b0:bD src p 0=if (src.drop p).take 2=[61,61] then some (.inr (.inr [61,61])) else some (.inl 1):=by
  unfold bD
  rw [iP (by decide),iP (by decide),iP ⟨by omega,by omega⟩,tN]
  show (dI (src.drop p) [61,61]).bind _=_
  rw [oG _ _ rfl]
  simp only [bSq,decide_eq_true_eq]
  rfl
 have b1:bD src p 1=if (src.drop p).take 2=[45,62] then some (.inr (.inr [45,62])) else some (.inl 2):=by
  unfold bD
  rw [iP (by decide),iP (by decide),iP ⟨by omega,by omega⟩,tN]
  show (dI (src.drop p) [45,62]).bind _=_
  rw [oG _ _ rfl]
  simp only [bSq,decide_eq_true_eq]
  rfl
 have b2:bD src p 2=some (.inr (.inl ())):=by
  unfold bD
  rw [iN (by decide)]
 by_cases h1:(src.drop p).take 2=[61,61]
 ·rw [iP h1] at b0
  rw [cP b0,iP (Or.inl h1),h1];rfl
 rw [iN h1] at b0
 rw [fj b0]
 by_cases h2:(src.drop p).take 2=[45,62]
 ·rw [iP h2] at b1
  rw [cP b1,iP (Or.inr h2),h2];rfl
 rw [iN h2] at b1
 rw [fj b1,cP b2,iN (fun h=>h.elim h1 h2)]
 simp only [bSq,Sum.elim_inl]
 unfold dh
 rw [iP (inI hp),tN]
 obtain ⟨c,hc⟩:∃ c,src.getD p 0=c:=⟨_,rfl⟩
 rw [hc]
 have hw:c.toNat<128→UInt8.ofNat ((IntKind.wrap .i32 (c.toNat:Int)).toNat)=c∧0≤IntKind.wrap .i32 (c.toNat:Int)∧IntKind.wrap .i32 (c.toNat:Int)<128:=fun h=>by
  have:IntKind.wrap .i32 (c.toNat:Int)=(c.toNat:Int):=by rw [IntKind.wrap_i32];omega
  rw [this]
  refine ⟨?_,by omega,by omega⟩
  simp
 have hj:∀ b:Bool,(b=true→c.toNat<128)→az src p b=some (if b=true then [c] else []):=fun b hb=>by
  unfold az
  rw [tN,hc]
  by_cases h:b=true
  ·obtain ⟨w1,w2,w3⟩:=hw (hb h)
   rw [iP h,iP h,iP ⟨w2,w3⟩,w1]
  ·rw [iN h,iN h]
 have step:∀ (n:Int) (ns:List Nat) (X:Option (List UInt8)),0≤n→n<128→X=some (if c.toNat∈ns then [c] else []) →
   (if (c.toNat:Int)=n then az src p ((c.toNat:Int) == n) else X)=some (if c.toNat∈n.toNat :: ns then [c] else []):=fun n ns X h0 h1 hX=>by
  by_cases h:(c.toNat:Int)=n
  ·rw [iP h,hj _ (fun _=>by omega),iP (eQ h),iP (by rw [List.mem_cons];left;omega)]
  ·rw [iN h,hX]
   congr 1
   have:(c.toNat∈n.toNat :: ns)↔c.toNat∈ns:=by
    rw [List.mem_cons]
    constructor
    ·rintro (h'|h')
     ·exact absurd (by omega) h
     ·exact h'
    ·exact Or.inr
   simp only [this]
 have last:az src p ((c.toNat:Int) == 94)=some (if c.toNat∈[94] then [c] else []):=by
  rw [hj _ (fun h=>by have:=beq_iff_eq.1 h;omega)]
  congr 1
  have:((c.toNat:Int) == 94)=true↔c.toNat∈[94]:=by rw [beq_iff_eq,List.mem_singleton];omega
  simp only [this]
 exact step 40 _ _ (by decide) (by decide) (step 41 _ _ (by decide) (by decide) (step 123 _ _ (by decide) (by decide) (step 125 _ _ (by decide) (by decide) (step 91 _ _ (by decide) (by decide) (step 93 _ _ (by decide) (by decide) (step 60 _ _ (by decide) (by decide)
  (step 62 _ _ (by decide) (by decide) (step 44 _ _ (by decide) (by decide) (step 59 _ _ (by decide) (by decide) (step 58 _ _ (by decide) (by decide) (step 43 _ _ (by decide) (by decide) (step 45 _ _ (by decide) (by decide) (step 42 _ _ (by decide) (by decide)
  (step 47 _ _ (by decide) (by decide) (step 37 _ _ (by decide) (by decide) (step 61 _ _ (by decide) (by decide) last))))))))))))))))
theorem mH(n:Nat)(h:n≤1000000):du n 40:=by
 unfold du
 have:maxLen=9223372036854775807:=rfl
 omega
theorem uA(src:List UInt8)(hl:src.length≤100000)(p:Nat)(hp:p<src.length)(l:List aa)(hll:l.length≤200000) :
  match hN p (src.drop p) with
  |.inl t=>dJ src p l=some (0,((p+t.text.length:Nat):Int),l++[t])
  |.inr e=>e≠0∧∃ x,dJ src p l=some (e,x,l):=by
 have hd:=mS src p hp
 obtain ⟨c,hc⟩:∃ c,src.getD p 0=c:=⟨_,rfl⟩
 have hs:=tt src p hp l
 have hr:=uz src hl p (by omega) l
 rw [hc] at hd hs
 have hone:dJ src p l=(some (decide (tSm c))).bind fun y5=>if y5=true then ((dg src p l).bind fun y6=>(il y6.1).bind fun y7=>if y7=true then (bj p l y6.2 1 y6.1 0) else (if (y6.1.length:Int)>12 then (some (3,y6.2,l)) else (bj p l y6.2 2 y6.1 0))) else ((some (decide (tDg c))).bind fun y8=>if y8=true then ((dg src p l).bind fun y9=>(gA y9.1).bind fun y10=>if y10.2=true then (bj p l y9.2 3 y9.1 y10.1) else (some (2,y9.2,l))) else ((ep src p l).bind fun y11=>if y11=([]:List UInt8) then (some (1,(p:Int),l)) else (bj p l (IntKind.wrap .i64 (p+(y11.length:Int))) 4 y11 0))):=by
  unfold dJ
  rw [iP (inI hp),tN,hc,mG,mu]
 have hj:∀ x1 x2 s3 x4,bj (p:Int) l x1 x2 s3 x4=some (0,x1,l++[aa.mk x2 p s3 x4]):=fun x1 x2 s3 x4=>by
  unfold bj
  rw [iP (mH _ (by omega))];rfl
 have hlen:(src.drop p).length=src.length - p:=List.length_drop
 rw [hone,hr]
 simp only [bSq,decide_eq_true_eq,hj,tq]
 rw [hs]
 simp only [bSq]
 clear hone hr hs hj
 generalize hsd:src.drop p=s at *
 subst hd
 unfold hN
 simp only
 by_cases h1:tSm c
 ·rw [iP h1,iP h1]
  by_cases hw:jf ((c :: src.drop (p+1)).takeWhile tAn)=true
  ·rw [iP hw,iP hw]
  ·rw [iN hw,iN hw]
   by_cases h12:((c :: src.drop (p+1)).takeWhile tAn).length>12
   ·rw [iP h12,iP (by omega)]
    exact ⟨by decide,_,rfl⟩
   ·rw [iN h12,iN (by omega)]
 ·rw [iN h1,iN h1]
  by_cases h2:tDg c
  ·rw [iP h2,iP h2]
   have hne:(c :: src.drop (p+1)).takeWhile tAn≠[]:=by rw [List.takeWhile_cons,iP (o9 (.inr h2))];simp
   rw [rM _ hne]
   simp only [bSq]
   cases hn:pL ((c :: src.drop (p+1)).takeWhile tAn) with
   |some n=>rfl
   |none=>exact ⟨by decide,_,rfl⟩
  ·rw [iN h2,iN h2]
   have hwr:∀ k:Nat,k≤2→IntKind.wrap .i64 ((p:Int)+(k:Int))=((p+k:Nat):Int):=fun k hk=>by rw [wr (by omega) (by omega)];omega
   have htk:((c :: src.drop (p+1)).take 2).length≤2:=by rw [List.length_take];omega
   by_cases h3:(c :: src.drop (p+1)).take 2=[61,61]∨(c :: src.drop (p+1)).take 2=[45,62]
   ·rw [iP h3,iP h3,iN (by simp),hwr _ htk]
   ·rw [iN h3,iN h3]
    by_cases h4:c.toNat∈mF
    ·rw [iP h4,iP h4,iN (by simp)]
     have:=hwr [c].length (by simp)
     rw [this]
    ·rw [iN h4,iN h4,iP rfl]
     exact ⟨by decide,_,rfl⟩
theorem rN(src:List UInt8)(hl:src.length≤100000):∀ (k p:Nat) (l:List aa),p≤src.length→src.length - p<k→l.length≤p →
  dX (fun (x19,l20)=>dD src x19 l20) (((src.length - (blk false (src.drop p)).length:Nat):Int),l)=some (match fR k p (src.drop p) with
   |.inl m=>.inl ((src.length:Int),l++m)
   |.inr f=>.inr ([],f)):=by
 intro k
 induction k with
 |zero=>intro p l _ h;omega
 |succ k ih =>
  intro p l hp hk hll
  have hb:=l3 false (src.drop p)
  have hbd:=sN false (src.drop p)
  have hlen:(src.drop p).length=src.length - p:=List.length_drop
  rw [gN]
  cases e:blk false (src.drop p) with
  |nil =>
   simp only [List.length_nil,Nat.sub_zero]
   rw [cP (o:=.inl ((src.length:Int),l)) (by
    show dD src src.length l=_
    unfold dD
    rw [iN (iK _)])]
   simp
  |cons c m =>
   simp only
   rw [e] at hb hbd
   have hcm:(c :: m).length=m.length+1:=rfl
   obtain ⟨q,hq⟩:∃ q,q=src.length - (c :: m).length:=⟨_,rfl⟩
   have hqp:p+((src.drop p).length - (c :: m).length)=q:=by omega
   have hdq:src.drop q=c :: m:=by
    rw [hbd,List.drop_drop,← hqp]
   have h1:=uA src hl q (by omega) l (by omega)
   rw [← hq,hqp]
   rw [hdq] at h1
   cases ht:hN q (c :: m) with
   |inr er =>
    rw [ht] at h1
    obtain ⟨hne,x,h1⟩:=h1
    rw [cP (o:=.inr ([],bl.mk er q)) (by
     show dD src q l=_
     unfold dD
     rw [iP (by omega),h1]
     simp only [bSq]
     rw [iP hne])]
   |inl t =>
    rw [ht] at h1
    simp only at h1
    obtain ⟨t1,t2,t3⟩:=jX ht
    have hpos:0<t.text.length:=List.length_pos_iff.2 t2
    have hle:=t3.length_le
    have hdt:src.drop (q+t.text.length)=(c :: m).drop t.text.length:=by rw [← List.drop_drop,hdq]
    rw [fj (s':=(((src.length - (blk false (src.drop (q+t.text.length))).length:Nat):Int),l++[t])) (by
     show dD src q l=_
     unfold dD
     rw [iP (by omega),h1]
     simp only [bSq]
     rw [iN (by simp),pM src hl _ (by omega)]
     rfl),ih (q+t.text.length) (l++[t]) (by omega) (by omega) (by simp;omega),hdt]
    simp only
    cases fR k (q+t.text.length) ((c :: m).drop t.text.length) with
    |inr f=>rfl
    |inl m2=>simp
def iz(src:List UInt8):List aa×bl :=
 if src.length>12000 then ([],bl.mk 7 12000) else match fR (src.length+1) 0 src with
  |.inl m=>(m,bl.mk 0 0)
  |.inr f=>([],f)
theorem pd(src:List UInt8)(hl:src.length≤100000):gK src=some (iz src):=by
 unfold gK iz
 by_cases h:src.length>12000
 ·rw [iP (by omega),iP h]
 rw [iN (by omega),iN h]
 have hb:=pM src hl 0 (by omega) []
 simp only [Int.natCast_zero] at hb
 rw [hb]
 simp only [bSq]
 rw [rN src hl (src.length+1) 0 [] (by omega) (by omega) (by simp)]
 rw [List.drop_zero]
 cases fR (src.length+1) 0 src with
 |inr f=>rfl
 |inl m=>rfl
def mw(l:List (List UInt8))(x:List UInt8):Int:=match pK (T:=Unit) l.length (fun i=>if x=l.getD i default then some (i:Int) else none) () with|.inl _=>-1|.inr z=>z
theorem my(l:List (List UInt8))(x:List UInt8)(h:l.length≤9000000):ci l x=some (mw l x):=by
 unfold ci
 rw [mE l.length (fun i=>if x=l.getD i default then some (i:Int) else none) () (fun i hi=>by
  unfold cn
  rw [iP (ltI hi),iP (inI hi),tN]
  by_cases e:x=l.getD i default
  ·rw [iP e,iP e]
  ·rw [iN e,iN e,wrs i (by omega)]) (by unfold cn;rw [iN (iK _)])]
 simp only [bSq]
 unfold mw bH
 split<;>rename_i h2<;>rw [h2]<;>rfl
theorem pO(l:List (List UInt8))(x:List UInt8)(h:l.length≤9000000):co l x=some (decide (mw l x≥0)):=by
 unfold co;rw [my l x h];rfl
def isB(l:List (List UInt8)):List aa→Bool
 |t :: _=>decide (¬ t.kind=2) && decide (mw l t.text≥0)
 |[]=>false
theorem vH(l:List (List UInt8))(p:ae)(h:l.length≤9000000):aC l p=some (isB l p.l):=by
 unfold aC
 cases hl:p.l with
 |nil=>rfl
 |cons t r =>
  rw [iP (by simp),iP (by simp),pO _ _ h]
  simp only [List.getD_cons_zero,isB]
  by_cases hk:t.kind=2
  ·rw [iN (fun x=>x hk)];simp [hk]
  ·rw [iP hk];simp [hk]
theorem ju(t:aa)(r:List aa)(a b c:Int):aG (ae.mk (t :: r) a b c)=some (t,r):=by
 unfold aG
 rw [iP (by simp),iP (by simp;omega)]
 rfl
theorem pP{S O:Type}(body:S→Option (S ⊕ O))(s:S):dX body s=(body s).bind (Sum.elim (dX body) some):=by
 rw [oV];cases body s with
 |none=>rfl
 |some x=>cases x<;>rfl
theorem nO(l:List (List UInt8))(a:List aa)(b c d:Int)(h:l.length≤9000000):aC l (ae.mk a b c d)=some (isB l a):=vH l _ h
def nP:List UInt8:=[110,111,100,101,32,109,97,105,110,40,120,58,32,105,110,116,41,32,45,62,32,40,121,58,32,105,110,116,41,32,123,32,121,32,61,32,120,32,45,32,49,32,45,32,50,59,32,125]
def qp:List aa:=[aa.mk 1 0 [110,111,100,101] 0,aa.mk 2 5 [109,97,105,110] 0,aa.mk 4 9 [40] 0,aa.mk 2 10 [120] 0,aa.mk 4 11 [58] 0,aa.mk 1 13 [105,110,116] 0,aa.mk 4 16 [41] 0,aa.mk 4 18 [45,62] 0,aa.mk 4 21 [40] 0,aa.mk 2 22 [121] 0,aa.mk 4 23 [58] 0,aa.mk 1 25 [105,110,116] 0,aa.mk 4 28 [41] 0,aa.mk 4 30 [123] 0,aa.mk 2 32 [121] 0,aa.mk 4 34 [61] 0,aa.mk 2 36 [120] 0,aa.mk 4 38 [45] 0,aa.mk 3 40 [49] 1,aa.mk 4 42 [45] 0,aa.mk 3 44 [50] 2,aa.mk 4 45 [59] 0,aa.mk 4 47 [125] 0]
theorem qq:iz nP=(qp,bl.mk 0 0):=by decide
set_option maxHeartbeats 8000000
set_option maxRecDepth 100000
theorem qr(m:Nat)(o:Int):cW (m+40) (ae.mk [aa.mk 2 36 [120] 0,aa.mk 4 38 [45] 0,aa.mk 3 40 [49] 1,aa.mk 4 42 [45] 0,aa.mk 3 44 [50] 2,aa.mk 4 45 [59] 0,aa.mk 4 47 [125] 0] 48 0 o) =
  some (.inl (ai.mk 5 2 0 [] [] [ai.mk 5 2 0 [] [] [ai.mk 3 0 0 [120] [] [],ai.mk 1 0 1 [] [] []],ai.mk 1 0 2 [] [] []],[aa.mk 4 45 [59] 0,aa.mk 4 47 [125] 0],0,5)):=by
 simp (decide:=true) [cW,ca,gL,cp,cV,cL,dj,gE,b9,cK,c7,c8,ew,bq,ez,et,cU,bm,cw,ju,nO,my,pP,lit,isB,IntKind.wrap]
theorem qs(m:Nat):fW (m+40)=some true:=by
 have hs:gK nP=some (qp,bl.mk 0 0):=by rw [pd _ (by decide),qq]
 have hp:e9 (m+40) nP=some (cN.mk [cC.mk [109,97,105,110] 0 [] [aX.mk [120] (iG.mk 105 [])] [aX.mk [121] (iG.mk 105 [])] [] [TEq.mk 32 [[121]] [] [] [ai.mk 5 2 0 [] [] [ai.mk 5 2 0 [] [] [ai.mk 3 0 0 [120] [] [],ai.mk 1 0 1 [] [] []],ai.mk 1 0 2 [] [] []]]]],bl.mk 0 0):=by
  unfold e9
  rw [hs]
  simp (decide:=true) [qp,nP,fo,fm,dU,eA,cg,ce,cb,cd,bG,dk,dd,cZ,dK,dw,dr,eJ,aE,di,bg,fb,cF,cE,cD,qr,bm,cw,ju,nO,pP,lit,isB,IntKind.wrap,du,maxLen]
 unfold fW
 rw [show ([110,111,100,101,32,109,97,105,110,40,120,58,32,105,110,116,41,32,45,62,32,40,121,58,32,105,110,116,41,32,123,32,121,32,61,32,120,32,45,32,49,32,45,32,50,59,32,125]:List UInt8)=nP from rfl,hp]
 simp
def Pn{α:Type}(m:Option α)(Q:α→Prop):Prop:=∃ a,m=some a∧Q a
theorem aW{α:Type}{a:α}{Q:α→Prop}(h:Q a):Pn (some a) Q:=⟨a,rfl,h⟩
theorem aZ{α β:Type}{m:Option α}{f:α→Option β}{P:α→Prop}{Q:β→Prop}(h:Pn m P)(hf:∀ a,P a→Pn (f a) Q):Pn (m.bind f) Q:=by
 obtain ⟨a,rfl,ha⟩:=h;exact hf a ha
theorem pe{α:Type}{m:Option α}{P Q:α→Prop}(h:Pn m P)(hf:∀ a,P a→Q a):Pn m Q:=by
 obtain ⟨a,rfl,ha⟩:=h;exact ⟨a,rfl,hf a ha⟩
theorem nR{α β:Type}{m:Option α}{a:α}{f:α→Option β}{Q:β→Prop}(h:m=some a)(hf:Pn (f a) Q):Pn (m.bind f) Q:=by
 rw [h];exact hf
def At(E:Int)(f:Int×Int):Prop:=f.1≠0∧0≤f.2∧f.2≤E
abbrev Po{α:Type}(E:Int)(Q:α→Prop):α ⊕ (Int×Int)→Prop:=Sum.elim Q (At E)
theorem de{α:Type}{E:Int}{a:α}{Q:α→Prop}(h:Q a):Pn (some (.inl a)) (Po E Q):=aW h
theorem uB{α:Type}{E:Int}{a:Int×Int}{Q:α→Prop}(h:At E a):Pn (some (.inr (a.1,a.2))) (Po E Q):=aW h
theorem bW{α β:Type}{E:Int}{m:Option (α ⊕ (Int×Int))}{f:α→Option (β ⊕ (Int×Int))}{A:α→Prop}{Q:β→Prop}(h:Pn m (Po E A))
  (hf:∀ a,A a→Pn (f a) (Po E Q)):Pn (m.bind fun y=>Sum.elim f (fun z=>some (.inr (z.1,z.2))) y) (Po E Q):=by
 obtain ⟨a,rfl,ha⟩:=h
 cases a with
 |inl a=>exact hf a ha
 |inr b=>exact aW ha
theorem ky{α:Type}{E:Int}{m:Option (Int×Int)}{Q:α→Prop}(h:Pn m (At E)):Pn (m.bind fun y=>some (.inr (y.1,y.2))) (Po E Q):=by
 obtain ⟨a,rfl,ha⟩:=h;exact aW ha
theorem qZ{α:Type}{E:Int}{m:Option (α ⊕ (Int×Int))}{P Q:α→Prop}(h:Pn m (Po E P))(hf:∀ a,P a→Q a):Pn m (Po E Q) :=
 pe h fun a ha=>by
  cases a with
  |inl a=>exact hf a ha
  |inr b=>exact ha
abbrev Pl{S T R:Type}(E:Int)(C:S→Prop)(B:T→Prop)(Q:R→Prop):S ⊕ (T ⊕ (R ⊕ (Int×Int)))→Prop:=Sum.elim C (Sum.elim B (Po E Q))
theorem lI{α S T R:Type}{E:Int}{m:Option (α ⊕ (Int×Int))}{f:α→Option (S ⊕ (T ⊕ (R ⊕ (Int×Int))))}{A:α→Prop}{C:S→Prop}{B:T→Prop}{Q:R→Prop}(h:Pn m (Po E A))
  (hf:∀ a,A a→Pn (f a) (Pl E C B Q)):Pn (m.bind fun y=>Sum.elim f (fun z=>some (.inr (.inr (.inr (z.1,z.2))))) y) (Pl E C B Q):=by
 obtain ⟨a,rfl,ha⟩:=h
 cases a with
 |inl a=>exact hf a ha
 |inr b=>exact aW ha
theorem m7{S T R:Type}{E:Int}{m:Option (Int×Int)}{C:S→Prop}{B:T→Prop}{Q:R→Prop}(h:Pn m (At E)):Pn (m.bind fun y=>some (.inr (.inr (.inr (y.1,y.2))))) (Pl E C B Q):=by
 obtain ⟨a,rfl,ha⟩:=h;exact aW ha
theorem kz{S O:Type}{body:S→Option (S ⊕ O)}(I:S→Prop)(μ:S→Nat){post:O→Prop}{s:S}(h:I s)
  (step:∀ s,I s→Pn (body s) (Sum.elim (fun s'=>I s'∧μ s'<μ s) post)):Pn (dX body s) post :=
 rF I μ post (fun s hs=>by
  obtain ⟨a,h1,h2⟩:=step s hs
  cases a with
  |inl s'=>exact .inl ⟨s',h1,h2⟩
  |inr o=>exact .inr ⟨o,h1,h2⟩) s h
theorem lm{S T R:Type}{E:Int}{body:S→Option (S ⊕ (T ⊕ (R ⊕ (Int×Int))))}{k:T→Option (R ⊕ (Int×Int))}(I:S→Prop)(μ:S→Nat)(B:T→Prop){Q:R→Prop}{s:S}(h:I s)
  (step:∀ s,I s→Pn (body s) (Pl E (fun s'=>I s'∧μ s'<μ s) B Q)) (hk:∀ b,B b→Pn (k b) (Po E Q)):Pn ((dX body s).bind (Sum.elim k (fun z=>some z))) (Po E Q) :=
 aZ (kz I μ h step) fun a ha=>by
  cases a with
  |inl b=>exact hk b ha
  |inr r=>exact aW ha
def br(t:aa):Bool:=decide (t.kind≠2) && decide (t.text=[125])
def fw(E:Int)(l:List aa):Prop:=l.length≤9000000∧∀ t∈l,(t.kind=3→t.text≠[125])∧0≤t.at_∧t.at_≤E
def Rd(l l':List aa):Prop:=∃ c,l=c++l'∧∀ t∈c,br t=false
def Cs(l l':List aa):Prop:=Rd l l'∧l'.length<l.length
theorem Rd.refl(l:List aa):Rd l l:=⟨[],rfl,fun _ h=>nomatch h⟩
theorem Rd.trans{a b c:List aa}(h:Rd a b)(k:Rd b c):Rd a c:=by
 obtain ⟨x,rfl,hx⟩:=h;obtain ⟨y,rfl,hy⟩:=k
 exact ⟨x++y,by simp,fun t ht=>by rcases List.mem_append.1 ht with h|h;exact hx t h;exact hy t h⟩
theorem Rd.len{a b:List aa}(h:Rd a b):b.length≤a.length:=by obtain ⟨x,rfl,_⟩:=h;simp
theorem Rd.good{E:Int}{a b:List aa}(h:Rd a b)(g:fw E a):fw E b:=by
 obtain ⟨x,rfl,_⟩:=h;exact ⟨by have:=g.1;simp only [List.length_append] at this;omega,fun t ht=>g.2 t (List.mem_append_right _ ht)⟩
theorem Cs.trans{a b c:List aa}(h:Cs a b)(k:Cs b c):Cs a c:=⟨h.1.trans k.1,by have:=h.2;have:=k.2;omega⟩
theorem Cs.rd{a b c:List aa}(h:Cs a b)(k:Rd b c):Cs a c:=⟨h.1.trans k,by have:=h.2;have:=k.len;omega⟩
theorem Rd.cs{a b c:List aa}(h:Rd a b)(k:Cs b c):Cs a c:=⟨h.trans k.1,by have:=h.len;have:=k.2;omega⟩
theorem Cs.good{E:Int}{a b:List aa}(h:Cs a b)(g:fw E a):fw E b:=h.1.good g
theorem nS{t:aa}{l:List aa}(h:br t=false):Cs (t :: l) l:=⟨⟨[t],rfl,fun x hx=>by rw [List.mem_singleton.1 hx];exact h⟩,by simp⟩
theorem tu{t:aa}(h:t.kind=2):br t=false:=by simp [br,h]
theorem sP{E:Int}{t:aa}{l:List aa}(g:fw E (t :: l))(h:t.kind=3):br t=false:=by simp [br,(g.2 t (by simp)).1 h]
theorem kA{t:aa}{W:List (List UInt8)}(h:t.text∈W)(hw:([125]:List UInt8) ∉ W):br t=false:=by
 have:t.text≠[125]:=fun e=>hw (e ▸ h)
 simp [br,this]
theorem nT{L:List (List UInt8)}{x:List UInt8}(h:mw L x≥0):x∈L:=by
 unfold mw at h
 rcases je (T:=Unit) L.length (fun i=>if x=L.getD i default then some (i:Int) else none) () with ⟨he,_⟩|⟨i,z,hi,hf,he⟩
 ·rw [he] at h;exact absurd h (by decide)
 ·by_cases e:x=L.getD i default
  ·rw [e];exact sM hi
  ·rw [iN e] at hf;cases hf
theorem q9{L:List (List UInt8)}{x:List UInt8}:mw L x<(L.length:Int):=by
 unfold mw
 rcases je (T:=Unit) L.length (fun i=>if x=L.getD i default then some (i:Int) else none) () with ⟨he,_⟩|⟨i,z,hi,hf,he⟩
 ·rw [he];show (-1:Int)<_;omega
 ·rw [he]
  by_cases e:x=L.getD i default
  ·rw [iP e] at hf;cases hf;show (i:Int)<_;omega
  ·rw [iN e] at hf;cases hf
theorem tv{L:List (List UInt8)}{x:List UInt8}(h:x∈L):0≤mw L x:=by
 unfold mw
 rcases je (T:=Unit) L.length (fun i=>if x=L.getD i default then some (i:Int) else none) () with ⟨he,hn⟩|⟨i,z,hi,hf,he⟩
 ·obtain ⟨i,hi,e⟩:=List.mem_iff_getElem.1 h
  have:=hn i hi
  rw [iP (by rw [List.getD_eq_getElem?_getD,List.getElem?_eq_getElem hi,Option.getD_some,e])] at this
  cases this
 ·rw [he]
  by_cases e:x=L.getD i default
  ·rw [iP e] at hf;cases hf;show (0:Int)≤i;omega
  ·rw [iN e] at hf;cases hf
theorem jY{L:List (List UInt8)}{l:List aa}(h:isB L l=true):∃ t r,l=t :: r∧t.kind≠2∧t.text∈L:=by
 cases l with
 |nil=>cases h
 |cons t r =>
  simp only [isB,Bool.and_eq_true,decide_eq_true_eq] at h
  exact ⟨t,r,rfl,h.1,nT h.2⟩
theorem ff{E c o t:Int}{l:List aa}(hc:c≠0)(hE:0≤E)(g:fw E l):Pn (aF c ⟨l,E,o,t⟩) (At E):=by
 unfold aF
 cases l with
 |nil =>
  rw [iN (by simp)]
  by_cases h:c=4
  ·rw [iP h];exact aW ⟨show (5:Int)≠0 by decide,hE,Int.le_refl _⟩
  ·rw [iN h];exact aW ⟨hc,hE,Int.le_refl _⟩
 |cons x r =>
  rw [iP (by simp),iP (by simp)]
  exact aW ⟨hc,(g.2 x (by simp)).2⟩
theorem ie{E o t:Int}{l:List aa}(L:List (List UInt8))(h:L.length≤9000000):Pn (aC L ⟨l,E,o,t⟩) (fun b=>b=isB L l) :=
 ⟨_,nO L l E o t h,rfl⟩
theorem uC{E o t:Int}{l:List aa}(w:List UInt8):Pn (bg w ⟨l,E,o,t⟩) (fun r=>(r.1=true∧∃ x,l=x :: r.2∧x.kind≠2∧x.text=w)∨(r.1=false∧r.2=l∧isB [w] l=false)):=by
 unfold bg
 rw [nO _ _ _ _ _ (by simp [lit])]
 simp only [bSq]
 by_cases h:isB [w] l=true
 ·obtain ⟨x,r,rfl,hk,hx⟩:=jY h
  rw [show isB (lit [w]) (x :: r)=true from h,iP rfl,ju]
  exact aW (.inl ⟨rfl,x,rfl,hk,by simpa using hx⟩)
 ·have h':isB [w] l=false:=by simpa using h
  rw [show isB (lit [w]) l=false from h',iN (by decide)]
  exact aW (.inr ⟨rfl,rfl,h'⟩)
theorem jD{E o t:Int}{l:List aa}(w:List UInt8)(hw:w≠[125]):Pn (bg w ⟨l,E,o,t⟩) (fun r=>Rd l r.2) :=
 pe (uC w) fun r hr=>by
  rcases hr with ⟨_,x,h,_,hx⟩|⟨_,h,_⟩
  ·rw [h];exact (nS (kA (W:=[w]) (by simp [hx]) (by simpa using hw.symm))).1
  ·rw [h];exact Rd.refl _
theorem re{E o t:Int}{l:List aa}(k:Int)(hE:0≤E)(g:fw E l):Pn (cw k ⟨l,E,o,t⟩) (Po E fun r=>l=r.1 :: r.2∧r.1.kind=k):=by
 unfold cw
 cases l with
 |nil=>rw [iP (by simp)];exact ky (ff (by decide) hE g)
 |cons x r =>
  rw [iN (by simp;omega),iP (by simp)]
  simp only [List.getD_cons_zero]
  by_cases h:x.kind=k
  ·rw [iN (fun z=>z h),ju];exact de ⟨rfl,h⟩
  ·rw [iP h];exact ky (ff (by decide) hE g)
theorem kB{E o t:Int}{l:List aa}(hE:0≤E)(g:fw E l):Pn (bm ⟨l,E,o,t⟩) (Po E fun r=>Cs l r.2):=by
 unfold bm
 refine bW (re 2 hE g) fun a ha=>de ?_
 rw [ha.1];exact nS (tu ha.2)
theorem uD{E o t:Int}{l:List aa}(hE:0≤E)(g:fw E l):Pn (cw 3 ⟨l,E,o,t⟩) (Po E fun r=>Cs l r.2) :=
 qZ (re 3 hE g) fun a ha=>by
  have g':=g
  rw [ha.1] at g' ⊢;exact nS (sP g' ha.2)
theorem tx{E o t:Int}(W:List (List UInt8))(hW:W.length≤1000){l:List aa}(hE:0≤E)(g:fw E l) :
  Pn (aE W ⟨l,E,o,t⟩) (Po E fun l'=>∃ c,l=c++l'∧c.map (·.text)=W∧∀ x∈c,x.kind≠2):=by
 unfold aE
 refine aZ (P:=Po E fun l'=>∃ c,l=c++l'∧c.map (·.text)=W∧∀ x∈c,x.kind≠2) ?_ fun a ha=>aW ha
 refine kz (I:=fun s=>∃ k:Nat,s.2=(k:Int)∧k≤W.length∧∃ c,l=c++s.1∧c.map (·.text)=W.take k∧∀ x∈c,x.kind≠2) (μ:=fun s=>W.length - s.2.toNat) ⟨0,rfl,by omega,[],rfl,rfl,fun _ h=>nomatch h⟩ ?_
 rintro ⟨l5,x6⟩ ⟨k,hk,hkl,c,hc,hcm,hck⟩
 cases hk
 show Pn (di W ⟨l,E,o,t⟩ l5 (k:Int)) _
 unfold di
 by_cases hlt:k<W.length
 ·rw [iP (ltI hlt),iP (inI hlt),tN]
  refine aZ (ie _ (by simp [lit])) fun b hb=>?_
  subst hb
  by_cases h:isB (lit [W.getD k default]) l5=true
  ·rw [iP h]
   obtain ⟨x,r,rfl,hx,hxt⟩:=jY h
   rw [ju]
   simp only [bSq]
   rw [wrs k (by omega)]
   refine aW ⟨⟨k+1,rfl,by omega,c++[x],by rw [hc];simp,?_,fun y hy=>?_⟩,?_⟩
   ·rw [List.map_append,hcm,nQ W hlt]
    simp only [lit,List.mem_singleton] at hxt
    simp [hxt]
   ·rcases List.mem_append.1 hy with h|h
    ·exact hck y h
    ·rw [List.mem_singleton.1 h];exact hx
   ·show W.length - ((k+1:Nat):Int).toNat<W.length - ((k:Nat):Int).toNat
    omega
  ·rw [iN h]
   have g':fw E l5:=⟨by have:=g.1;rw [hc,List.length_append] at this;exact Nat.le_trans (Nat.le_add_left _ _) this,fun x hx=>g.2 x (by rw [hc];exact List.mem_append_right _ hx)⟩
   refine aZ (ff (by decide) hE g') fun a ha=>aW ha
 ·rw [iN (by omega)]
  refine aW ⟨c,hc,?_,hck⟩
  rw [hcm,List.take_of_length_le (by omega)]
theorem eD{E o t:Int}(W:List (List UInt8)){l:List aa}(hE:0≤E)(g:fw E l)(hW:W.length≤1000∧0<W.length∧([125]:List UInt8) ∉ W) :
  Pn (aE W ⟨l,E,o,t⟩) (Po E fun l'=>Cs l l') :=
 qZ (tx W hW.1 hE g) fun l' ⟨c,h,hm,hk⟩=>by
  refine ⟨⟨c,h,fun x hx=>kA (W:=W) (by rw [← hm];exact List.mem_map_of_mem hx) hW.2.2⟩,?_⟩
  rw [h,List.length_append]
  have:c.length=W.length:=by rw [← hm,List.length_map]
  omega
theorem mU{n b:Nat}(h:n≤9000001)(hb:b≤1000):du n b:=by
 unfold du maxLen
 have:=Nat.mul_le_mul h hb
 omega
theorem sQ{E o t:Int}{l:List aa}{L:List (List UInt8)}(h:isB L l=true)(hL:([125]:List UInt8) ∉ L):Pn (aG ⟨l,E,o,t⟩) (fun r=>Cs l r.2∧l=r.1 :: r.2∧r.1.text∈L):=by
 obtain ⟨x,r,rfl,_,hx⟩:=jY h
 rw [ju];exact aW ⟨nS (kA hx hL),rfl,hx⟩
theorem rf{E o t:Int}{l:List aa}(n:Int)(hE:0≤E)(g:fw E l):Pn (eq n ⟨l,E,o,t⟩) (Po E fun r=>Cs l r.2):=by
 have hj:Pn (cH n ⟨l,E,o,t⟩) (Po E fun r=>Cs l r.2):=by
  unfold cH
  refine bW (uD hE g) fun a ha=>?_
  refine aZ (jD [42] (by decide)) fun b hb=>?_
  split
  ·exact bW (kB hE (hb.good (ha.good g))) fun c hc=>de ((ha.rd hb).trans hc)
  ·exact de (ha.rd hb)
 unfold eq
 cases l with
 |nil=>rw [iN (by simp)];exact hj
 |cons x r =>
  rw [iP (by simp),iP (by simp)]
  split
  ·exact bW (kB hE g) fun c hc=>de hc
  ·exact hj
theorem pf{E o t:Int}{l:List aa}(hE:0≤E)(g:fw E l):Pn (dq ⟨l,E,o,t⟩) (Po E fun r=>Cs l r.2):=by
 have hj:∀ (l1:List aa) (n:Int),Rd l l1→Pn (cJ ⟨l,E,o,t⟩ l1 n) (Po E fun r=>Cs l r.2):=by
  intro l1 n h1
  unfold cJ
  refine bW (rf n hE (h1.good g)) fun a ha=>?_
  refine lm (fun s=>Cs l s.1∧s.2.length+s.1.length≤l.length) (fun s=>s.1.length) (fun s=>Cs l s.1) ⟨h1.cs ha,?_⟩ ?_ fun b hb=>de hb
  ·have:=(h1.cs ha).2;simp only [lit,List.length_cons,List.length_nil];omega
  ·rintro ⟨l25,l26⟩ ⟨hc,hl⟩
   have hc:Cs l l25:=hc
   have hl:l26.length+l25.length≤l.length:=hl
   show Pn (d9 ⟨l,E,o,t⟩ l25 l26) _
   unfold d9
   refine aZ (ie _ (by simp [lit])) fun b hb=>?_
   subst hb
   split
   ·rename_i hi
    split
    ·exact m7 (ff (by decide) hE (hc.good g))
    ·refine aZ (sQ hi (by simp [lit])) fun c hcn=>?_
     have key:∀ n,Pn (cI ⟨l,E,o,t⟩ l26 c.2 n) (Pl E (fun s'=>(Cs l s'.1∧s'.2.length+s'.1.length≤l.length)∧s'.1.length<l25.length) (fun s=>Cs l s.1) (fun r=>Cs l r.2)):=by
      intro n
      unfold cI
      refine lI (rf n hE ((hc.trans hcn.1).good g)) fun d hd=>?_
      have:=hcn.1.2
      have:=hd.2
      have:=g.1
      rw [iP (mU (by omega) (by decide))]
      refine aW ⟨⟨(hc.trans hcn.1).trans hd,?_⟩,?_⟩
      ·show (l26++lit [d.1]).length+d.2.length≤l.length
       rw [List.length_append];simp only [lit,List.length_cons,List.length_nil];omega
      ·show d.2.length<l25.length
       omega
     split
     ·exact key _
     ·exact key _
   ·exact aW hc
 unfold dq
 refine aZ (jD [45] (by decide)) fun b hb=>?_
 split
 ·exact hj _ _ hb
 ·exact hj _ _ hb
theorem uE{E o t:Int}{l:List aa}(hE:0≤E)(g:fw E l):Pn (eJ ⟨l,E,o,t⟩) (Po E fun r=>Cs l r.2):=by
 unfold eJ
 refine aZ (ie _ (by simp [lit])) fun b hb=>?_
 subst hb
 split
 ·rename_i hi
  refine aZ (sQ hi (by simp [lit])) fun c hc=>?_
  rw [iP (by
   have:=hc.2.2
   simp only [lit,List.mem_cons,List.not_mem_nil,or_false] at this
   rcases this with h|h<;>rw [h]<;>decide)]
  refine aZ (jD [94] (by decide)) fun d hd=>?_
  split
  ·exact bW (pf hE (hd.good (hc.1.good g))) fun e he=>de ((hc.1.rd hd).trans he)
  ·exact de (hc.1.rd hd)
 ·exact ky (ff (by decide) hE g)
theorem rg{E o t:Int}{l:List aa}(hE:0≤E)(g:fw E l):Pn (dr ⟨l,E,o,t⟩) (Po E fun r=>Cs l r.2):=by
 unfold dr
 refine bW (kB hE g) fun a ha=>?_
 refine bW (eD _ hE (ha.good g) (by simp [lit])) fun b hb=>?_
 refine bW (uE hE ((ha.trans hb).good g)) fun c hc=>de ((ha.trans hb).trans hc)
theorem nU{α β:Type}{E:Int}{l1:List aa}{acc:List β}{m:Option (α ⊕ (Int×Int))}{mb:α→Option (Bool×List aa)}{A:α→List aa}
  {S:Type} {R:Type} {st:α→Bool×List aa→S} {rs:α→Bool×List aa→R} {rm:Nat} {C:S→Prop} {Q:R→Prop}
  (hm:Pn m (Po E fun a=>Cs l1 (A a))) (hb:∀ a,Cs l1 (A a)→Pn (mb a) (fun r=>Rd (A a) r.2)) (hr:acc.length+1≤9000001) (hrm:rm≤1000)
  (hC:∀ a b,Cs l1 b.2→C (st a b)) (hQ:∀ a b,Cs l1 b.2→Q (rs a b)) :
  Pn (m.bind fun y=>Sum.elim (fun a=>if du (acc.length+1) rm then ((mb a).bind fun b=>if b.1=true then some (.inl (st a b)) else some (.inr (.inl (rs a b)))) else none) (fun z=>some (.inr (.inr (z.1,z.2)))) y)
   (Sum.elim C (Po E Q)):=by
 obtain ⟨x,rfl,hx⟩:=hm
 cases x with
 |inr z=>exact aW hx
 |inl a =>
  show Pn (if du (acc.length+1) rm then _ else none) _
  rw [iP (mU hr hrm)]
  refine aZ (hb a hx) fun b hb'=>?_
  split
  ·exact aW (hC a b (Cs.rd hx hb'))
  ·exact aW (hQ a b (Cs.rd hx hb'))
theorem lJ{E o t:Int}{l:List aa}(n:Int)(hE:0≤E)(g:fw E l):Pn (dK n ⟨l,E,o,t⟩) (Po E fun r=>Cs l r.2):=by
 unfold dK
 refine aZ (P:=Po E fun r=>Cs l r.2) ?_ fun a ha=>aW ha
 refine kz (fun s=>Rd l s.1∧s.2.length+s.1.length≤l.length) (fun s=>s.1.length) ⟨Rd.refl _,by simp⟩ ?_
 rintro ⟨l13,l14⟩ ⟨hc,hl⟩
 have hc:Rd l l13:=hc
 have hl:l14.length+l13.length≤l.length:=hl
 show Pn (dw n ⟨l,E,o,t⟩ l13 l14) _
 unfold dw
 have:=g.1
 split
 ·exact aZ (ff (by decide) hE (hc.good g)) fun a ha=>aW ha
 ·refine nU (A:=fun a=>a.2) (kB hE (hc.good g)) (fun a _=>jD [44] (by decide)) (by omega) (by decide) (fun a b h=>⟨⟨(hc.cs h).1,?_⟩,h.2⟩) (fun a b h=>hc.cs h)
  have:=h.2
  show (l14++lit [a.1]).length+b.2.length≤l.length
  rw [List.length_append];simp only [lit,List.length_cons,List.length_nil];omega
theorem kG{E o t:Int}{l:List aa}(n:Int)(hE:0≤E)(g:fw E l):Pn (dd n ⟨l,E,o,t⟩) (Po E fun r=>Cs l r.2):=by
 unfold dd
 refine aZ (P:=Po E fun r=>Cs l r.2) ?_ fun a ha=>aW ha
 refine kz (fun s=>Rd l s.1∧s.2.length+s.1.length≤l.length) (fun s=>s.1.length) ⟨Rd.refl _,by simp⟩ ?_
 rintro ⟨l13,l14⟩ ⟨hc,hl⟩
 have hc:Rd l l13:=hc
 have hl:l14.length+l13.length≤l.length:=hl
 show Pn (cZ n ⟨l,E,o,t⟩ l13 l14) _
 unfold cZ
 have:=g.1
 split
 ·exact aZ (ff (by decide) hE (hc.good g)) fun a ha=>aW ha
 ·refine nU (A:=fun a=>a.2) (rg hE (hc.good g)) (fun a _=>jD [44] (by decide)) (by omega) (by decide) (fun a b h=>⟨⟨(hc.cs h).1,?_⟩,h.2⟩) (fun a b h=>hc.cs h)
  have:=h.2
  show (l14++lit [aX.mk a.1.name a.1.t]).length+b.2.length≤l.length
  rw [List.length_append];simp only [lit,List.length_cons,List.length_nil];omega
theorem mY{E o t:Int}{l:List aa}(n:Int)(hE:0≤E)(g:fw E l):Pn (eX n ⟨l,E,o,t⟩) (Po E fun r=>Cs l r.2):=by
 unfold eX
 refine aZ (P:=Po E fun r=>Cs l r.2) ?_ fun a ha=>aW ha
 refine kz (fun s=>Rd l s.1∧s.2.length+s.1.length≤l.length) (fun s=>s.1.length) ⟨Rd.refl _,by simp⟩ ?_
 rintro ⟨l13,l14⟩ ⟨hc,hl⟩
 have hc:Rd l l13:=hc
 have hl:l14.length+l13.length≤l.length:=hl
 show Pn (dO n ⟨l,E,o,t⟩ l13 l14) _
 unfold dO
 have:=g.1
 split
 ·exact aZ (ff (by decide) hE (hc.good g)) fun a ha=>aW ha
 ·refine nU (A:=fun a=>a.2) (pf hE (hc.good g)) (fun a _=>jD [44] (by decide)) (by omega) (by decide) (fun a b h=>⟨⟨(hc.cs h).1,?_⟩,h.2⟩) (fun a b h=>hc.cs h)
  have:=h.2
  show (l14++lit [a.1]).length+b.2.length≤l.length
  rw [List.length_append];simp only [lit,List.length_cons,List.length_nil];omega
abbrev RX:=(ai×(List aa)×Int×Int) ⊕ (Int×Int)
abbrev Ex(l:List aa)(o:Int)(r:ai×(List aa)×Int×Int):Prop:=Cs l r.2.1∧r.2.2.1=o
def RK(E:Int)(rc:Int→ae→Option RX)(k:Int):Prop :=
 ∀ (n o t:Int) (l:List aa),0≤n→n≤5→0≤o→o≤60→7 * (60 - o)+(6 - n)≤k→fw E l→Pn (rc n ⟨l,E,o,t⟩) (Po E (Ex l o))
def AK(E om:Int)(rc:ae→Option RX)(k:Int):Prop :=
 ∀ (o t:Int) (l:List aa),om≤o→o≤60→61 - o≤k→fw E l→Pn (rc ⟨l,E,o,t⟩) (Po E (Ex l o))
def Nx(l:List aa):Prop:=∃ x r,l=x :: r∧br x=false
theorem pQ{L:List (List UInt8)}{l:List aa}(h:isB L l=true)(hL:([125]:List UInt8) ∉ L):Nx l:=by
 obtain ⟨x,r,rfl,_,hx⟩:=jY h;exact ⟨x,r,rfl,kA hx hL⟩
theorem oH{E o t:Int}{l:List aa}(h:Nx l):Pn (aG ⟨l,E,o,t⟩) (fun r=>Cs l r.2):=by
 obtain ⟨x,r,rfl,hx⟩:=h
 rw [ju];exact aW (nS hx)
theorem ln{E o t:Int}{l:List aa}(ho0:0≤o)(ho:o≤60)(hE:0≤E)(g:fw E l)(hx:Nx l){X:ae→Option RX}
  (hX:∀ l1,Cs l l1→o<60→Pn (X ⟨l1,E,o+1,t⟩) (Po E (Ex l1 (o+1)))) :
  Pn (if o=60 then (aF 6 ⟨l,E,o,t⟩).bind (fun y=>some (.inr (y.1,y.2))) else (aG ⟨l,E,IntKind.wrap .i64 (o+1),t⟩).bind fun y2 =>
   (X ⟨y2.2,E,IntKind.wrap .i64 (o+1),t⟩).bind fun y3=>Sum.elim (fun y6=>some (.inl (y6.1,y6.2.1,IntKind.wrap .i64 (y6.2.2.1 - 1),y6.2.2.2))) (fun y7=>some (.inr (y7.1,y7.2))) y3) (Po E (Ex l o)):=by
 split
 ·exact ky (ff (by decide) hE g)
 ·rw [wr (by omega) (by omega)]
  refine aZ (oH hx) fun y hy=>?_
  refine bW (hX _ hy (by omega)) fun a ha=>de ⟨hy.trans ha.1,?_⟩
  show IntKind.wrap .i64 (a.2.2.1 - 1)=o
  rw [ha.2,wr (by omega) (by omega)];omega
theorem rO{E o t k:Int}{l:List aa}{rc:Int→ae→Option RX}(ho0:0≤o)(ho:o≤60)(hE:0≤E)(g:fw E l)(hr:RK E rc k)(hk:7 * (60 - o)+6≤k) :
  Pn (eF rc ⟨l,E,o,t⟩) (Po E (Ex l o)):=by
 unfold eF
 refine bW (hr 0 o t l (by decide) (by decide) ho0 ho (by omega) g) fun a ha=>?_
 refine bW (eD _ hE (ha.1.good g) (by simp [lit])) fun b hb=>de ⟨ha.1.trans hb,ha.2⟩
theorem rP{E o t k:Int}{l:List aa}{rc:Int→ae→Option RX}(ho0:0≤o)(ho:o≤60)(hE:0≤E)(g:fw E l)(hr:RK E rc k)(hk:7 * (60 - o)+6≤k) :
  Pn (eG rc ⟨l,E,o,t⟩) (Po E (Ex l o)):=by
 unfold eG
 refine bW (hr 0 o t l (by decide) (by decide) ho0 ho (by omega) g) fun a ha=>?_
 have ga:=ha.1.good g
 refine bW (eD _ hE ga (by simp [lit])) fun b hb=>?_
 have gb:=hb.good ga
 simp only [ha.2]
 refine bW (hr 0 o _ _ (by decide) (by decide) ho0 ho (by omega) gb) fun c hc=>?_
 have gc:=hc.1.good gb
 refine bW (eD _ hE gc (by simp [lit])) fun d hd=>?_
 have gd':=hd.good gc
 simp only [hc.2]
 refine bW (hr 0 o _ _ (by decide) (by decide) ho0 ho (by omega) gd') fun e he=>?_
 exact de ⟨(((ha.1.trans hb).trans hc.1).trans hd).trans he.1,he.2⟩
theorem qt{E o t k:Int}{l:List aa}{rc:Int→ae→Option RX}(x:ai)(ho0:0≤o)(ho:o≤60)(hE:0≤E)(g:fw E l)(hr:RK E rc k)(hk:7 * (60 - o)+6≤k) :
  Pn (eh rc x ⟨l,E,o,t⟩) (Po E (Ex l o)):=by
 unfold eh
 refine bW (hr 0 o t l (by decide) (by decide) ho0 ho (by omega) g) fun a ha=>?_
 have ga:=ha.1.good g
 refine bW (eD _ hE ga (by simp [lit])) fun b hb=>?_
 have gb:=hb.good ga
 simp only [ha.2]
 refine bW (hr 0 o _ _ (by decide) (by decide) ho0 ho (by omega) gb) fun c hc=>?_
 have gc:=hc.1.good gb
 refine nR rfl ?_
 refine bW (eD _ hE gc (by simp [lit])) fun d hd=>?_
 exact de ⟨((ha.1.trans hb).trans hc.1).trans hd,hc.2⟩
theorem qu{E om o t k n:Int}{l:List aa}{rc:ae→Option RX}(ho0:om≤o)(ho:o≤60)(g:fw E l)(hr:AK E om rc k)(hk:61 - o≤k) :
  Pn (dA rc n ⟨l,E,o,t⟩) (Po E (Ex l o)):=by
 unfold dA
 exact bW (hr o t l ho0 ho hk g) fun a ha=>de ⟨ha.1,ha.2⟩
theorem oI(x:List UInt8)(l:List (List UInt8))(h:l.length≤9000000):cA x l=some (mw l x):=by
 rw [← my l x h];rfl
theorem rh{E o t:Int}{l:List aa}:Pn (eu ⟨l,E,o,t⟩) (fun w=>w≠[]→∃ x r,l=x :: r∧x.text=w):=by
 unfold eu
 cases l with
 |nil=>rw [iP (by simp)];exact aW fun h=>absurd rfl h
 |cons x r =>
  rw [iN (by simp;omega),iP (by simp)]
  split
  ·exact aW fun h=>absurd rfl h
  ·exact aW fun _=>⟨x,r,rfl,rfl⟩
theorem pR{E o t:Int}{l:List aa}(hE:0≤E)(g:fw E l):Pn (dL ⟨l,E,o,t⟩) (Po E fun r=>Cs l r.2):=by
 unfold dL
 refine aZ rh fun w hw=>?_
 refine nR (oI _ _ (by simp [lit])) ?_
 split
 ·exact ky (ff (by decide) hE g)
 ·rename_i h
  have hm:=nT (L:=lit [([]:List UInt8),[97,100,100],[115,117,98],[109,117,108],[100,105,118],[109,111,100],[109,105,110],[109,97,120],[108,101,115,115],[101,113],[97,110,100],[111,114],[120,111,114],[110,101,103],[110,111,116]]) (x:=w) (by omega)
  have hne:w≠[]:=fun e=>h (by rw [e];decide)
  obtain ⟨x,r,rfl,hx⟩:=hw hne
  refine aZ (oH ⟨x,r,rfl,kA (W:=lit _) (hx ▸ hm) (by simp [lit])⟩) fun y hy=>de hy
theorem sR{E o t k n:Int}{l:List aa}{rc:Int→ae→Option RX}(hn:0≤n∧n≤100)(ho0:0≤o)(ho:o≤60)(hE:0≤E)(g:fw E l)(hr:RK E rc k)(hk:7 * (60 - o)+6≤k) :
  Pn (eW rc n ⟨l,E,o,t⟩) (Po E fun r=>Cs l r.2.1∧r.2.2.1=o):=by
 unfold eW
 refine bW (hr 0 o t l (by decide) (by decide) ho0 ho (by omega) g) fun a ha=>?_
 have hj:∀ x6,Pn (bz rc ⟨l,E,o,t⟩ a x6) (Po E fun r=>Cs l r.2.1∧r.2.2.1=o):=by
  intro x6
  unfold bz
  refine lm (fun s=>Cs l s.1∧s.2.1=o∧s.2.2.2.length+s.1.length≤l.length) (fun s=>s.1.length) (fun s=>Cs l s.1∧s.2.1=o) ⟨ha.1,ha.2,?_⟩ ?_ fun b hb=>de hb
  ·have:=ha.1.2;simp only [lit,List.length_cons,List.length_nil];omega
  ·rintro ⟨l30,x31,x32,l33⟩ ⟨hc,hx,hl⟩
   have hc:Cs l l30:=hc
   have hx:x31=o:=hx
   have hl:l33.length+l30.length≤l.length:=hl
   subst hx
   show Pn (dN rc ⟨l,E,x31,t⟩ x6 l30 x31 x32 l33) _
   unfold dN
   split
   ·refine lI (eD _ hE (hc.good g) (by simp [lit])) fun b hb=>?_
    refine lI (hr 0 x31 _ _ (by decide) (by decide) ho0 ho (by omega) ((hc.trans hb).good g)) fun c hcc=>?_
    have:=hb.2
    have:=hcc.1.2
    have:=g.1
    rw [iP (mU (by omega) (by decide))]
    refine aW ⟨⟨(hc.trans hb).trans hcc.1,hcc.2,?_⟩,?_⟩
    ·show (l33++lit [c.1]).length+c.2.1.length≤l.length
     rw [List.length_append];simp only [lit,List.length_cons,List.length_nil];omega
    ·show c.2.1.length<l30.length
     omega
   ·exact aW ⟨hc,rfl⟩
 rw [iP (by decide),iP (by decide),iP (by decide),iP (by omega)]
 split
 ·exact hj _
 ·split
  ·refine aZ (ie _ (by simp [lit])) fun b hb=>?_
   split
   ·exact hj _
   ·exact hj _
  ·exact hj _
theorem rQ{E o t k n p2 p3 p4:Int}{p5:List UInt8}{p6:List ai}{l:List aa}{rc:Int→ae→Option RX}(hn:0≤n∧n≤100)(ho0:0≤o)(ho:o≤60)(hE:0≤E)(g:fw E l)(hr:RK E rc k)(hk:7 * (60 - o)+6≤k) :
  Pn (eH rc n p2 p3 p4 p5 p6 ⟨l,E,o,t⟩ []) (Po E fun r=>Cs l r.2.2.2.2.2.2.2.1∧r.2.2.2.2.2.2.2.2.1=o):=by
 have hj:∀ (x6:Int) (l7:List aa),Cs l l7→Pn (bI rc n p2 p4 p5 ⟨l,E,o,t⟩ [] x6 l7) (Po E fun r=>Cs l r.2.2.2.2.2.2.2.1∧r.2.2.2.2.2.2.2.2.1=o):=by
  intro x6 l7 h7
  unfold bI
  refine bW (sR hn ho0 ho hE (h7.good g) hr hk) fun a ha=>?_
  rw [iP (by decide),iP (by omega)]
  refine lm (fun s=>Cs l s.1∧s.2.1.length+s.1.length≤l.length) (fun s=>s.1.length) (fun s=>Cs l s.1) ⟨h7.trans ha.1,?_⟩ ?_ ?_
  ·have:=(h7.trans ha.1).2;simp only [List.length_nil];omega
  ·rintro ⟨l38,l39,x41⟩ ⟨hc,hl⟩
   have hc:Cs l l38:=hc
   have hl:l39.length+l38.length≤l.length:=hl
   show Pn (dy n ⟨l,E,o,t⟩ a l38 l39 x41) _
   unfold dy
   split
   ·refine lI (eD _ hE (hc.good g) (by simp [lit])) fun b hb=>?_
    refine lI (pf hE ((hc.trans hb).good g)) fun c hcc=>?_
    have:=hb.2
    have:=hcc.2
    have:=g.1
    rw [iP (mU (by omega) (by decide))]
    refine aW ⟨⟨(hc.trans hb).trans hcc,?_⟩,?_⟩
    ·show (l39++lit [c.1]).length+c.2.length≤l.length
     rw [List.length_append];simp only [lit,List.length_cons,List.length_nil];omega
    ·show c.2.length<l38.length
     omega
   ·exact aW hc
  ·rintro ⟨l15,l16⟩ hc
   show Pn (cj p2 p4 p5 ⟨l,E,o,t⟩ x6 a l15 l16) _
   unfold cj
   have hc:Cs l l15:=hc
   refine bW (eD _ hE (hc.good g) (by simp [lit])) fun b hb=>?_
   exact de ⟨hc.trans hb,ha.2⟩
 unfold eH
 refine bW (eD _ hE g (by simp [lit])) fun a ha=>?_
 split
 ·split
  ·refine bW (pR hE (ha.good g)) fun b hb=>?_
   refine bW (eD _ hE ((ha.trans hb).good g) (by simp [lit])) fun c hc=>?_
   exact hj _ _ ((ha.trans hb).trans hc)
  ·exact hj _ _ ha
 ·exact hj _ _ ha
theorem pg{E o t k n p3 p4 p5:Int}{p6:List UInt8}{p7:List ai}{l:List aa}{rc:Int→ae→Option RX}(hn:0≤n∧n≤100)(ho0:0≤o)(ho:o≤60)(hE:0≤E)(g:fw E l)(hx:Nx l)(hr:RK E rc k)(hk:7 * (60 - o)≤k) :
  Pn (dz rc ⟨l,E,o,t⟩ n p3 p4 p5 p6 p7 []) (Po E fun r=>Cs l r.2.2.2.2.2.1∧r.2.2.2.2.2.2.1=o):=by
 unfold dz
 split
 ·exact ky (ff (by decide) hE g)
 ·rename_i h60
  have h60:¬ o=60:=h60
  simp only [wr (n:=o+1) (by omega) (by omega)]
  refine aZ (oH hx) fun y hy=>?_
  refine bW (rQ hn (by omega) (by omega) hE (hy.good g) hr (by omega)) fun a ha=>de ⟨hy.trans ha.1,?_⟩
  show IntKind.wrap .i64 (a.2.2.2.2.2.2.2.2.1 - 1)=o
  rw [ha.2,wr (by omega) (by omega)];omega
theorem tz{E o t k:Int}{l:List aa}{rc:Int→ae→Option RX}(ho0:0≤o)(ho:o≤60)(hE:0≤E)(g:fw E l)(hr:RK E rc k)(hk:7 * (60 - o)≤k) :
  Pn (fd rc ⟨l,E,o,t⟩) (Po E (Ex l o)):=by
 unfold fd
 refine aZ rh fun w hw=>?_
 refine nR (oI _ _ (by simp [lit])) ?_
 split
 ·exact ky (ff (by decide) hE g)
 ·rename_i h
  have h:¬ mw (lit [([109,97,112]:List UInt8),[102,111,108,100],[115,99,97,110],[102,105,108,108],[119,105,116,104],[115,108,105,99,101],[99,97,116],[112,114,101],[109,105,110],[109,97,120]]) w<0:=h
  have hm:=nT (Int.not_lt.1 h)
  have hlt:=q9 (L:=lit [([109,97,112]:List UInt8),[102,111,108,100],[115,99,97,110],[102,105,108,108],[119,105,116,104],[115,108,105,99,101],[99,97,116],[112,114,101],[109,105,110],[109,97,120]]) (x:=w)
  have hne:w≠[]:=fun e=>by rw [e] at hm;revert hm;decide
  obtain ⟨x,r,rfl,hx⟩:=hw hne
  have hx:Nx (x :: r):=⟨x,r,rfl,kA (hx ▸ hm) (by simp [lit])⟩
  have hlt:mw (lit [([109,97,112]:List UInt8),[102,111,108,100],[115,99,97,110],[102,105,108,108],[119,105,116,104],[115,108,105,99,101],[99,97,116],[112,114,101],[109,105,110],[109,97,120]]) w<10:=hlt
  generalize mw (lit [([109,97,112]:List UInt8),[102,111,108,100],[115,99,97,110],[102,105,108,108],[119,105,116,104],[115,108,105,99,101],[99,97,116],[112,114,101],[109,105,110],[109,97,120]]) w=y2 at *
  rw [iP ⟨by omega,hlt⟩]
  have hj:∀ x4,Pn (bY rc ⟨x :: r,E,o,t⟩ y2 x4) (Po E (Ex (x :: r) o)):=by
   intro x4
   unfold bY
   refine bW (pg ?_ ho0 ho hE g hx hr hk) fun a ha=>de ⟨ha.1,ha.2⟩
   have:∀ i,i<10→0≤(lit ([7,8,9,10,12,13,14,15,5,5]:List Int)).getD i default∧(lit ([7,8,9,10,12,13,14,15,5,5]:List Int)).getD i default≤100:=by decide
   exact this y2.toNat (by omega)
  split
  ·exact hj _
  ·split
   ·exact hj _
   ·exact hj _
theorem tA{E o t k:Int}{l:List aa}{rc:Int→ae→Option RX}(ho0:0≤o)(ho:o≤60)(hE:0≤E)(g:fw E l)(hr:RK E rc k)(hk:7 * (60 - o)≤k) :
  Pn (ew rc ⟨l,E,o,t⟩) (Po E (Ex l o)):=by
 have hf:Pn (bq rc ⟨l,E,o,t⟩) (Po E (Ex l o)):=by
  unfold bq
  exact bW (tz ho0 ho hE g hr hk) fun a ha=>de ⟨ha.1,ha.2⟩
 have h8:isB (lit [[40]]) l=true→Pn (bP rc ⟨l,E,o,t⟩) (Po E (Ex l o)):=fun hi=>by
  unfold bP
  exact ln ho0 ho hE g (pQ hi (by simp [lit])) fun l1 h1 h=>rO (by omega) (by omega) hE (h1.good g) hr (by omega)
 have h9:isB (lit [[105,102]]) l=true→Pn (bQ rc ⟨l,E,o,t⟩) (Po E (Ex l o)):=fun hi=>by
  unfold bQ
  exact ln ho0 ho hE g (pQ hi (by simp [lit])) fun l1 h1 h=>rP (by omega) (by omega) hE (h1.good g) hr (by omega)
 unfold ew
 cases l with
 |nil =>
  rw [iN (by simp),iN (by simp)]
  refine aZ (ie _ (by simp [lit])) fun b hb=>?_
  subst hb
  rw [iN (by simp [isB])]
  refine aZ (ie _ (by simp [lit])) fun b hb=>?_
  subst hb
  rw [iN (by simp [isB])]
  refine aZ (ie _ (by simp [lit])) fun b hb=>?_
  subst hb
  rw [iN (by simp [isB])]
  exact hf
 |cons x r =>
  rw [iP (by simp),iP (by simp)]
  simp only [List.getD_cons_zero]
  split
  ·rename_i h3
   refine aZ (oH ⟨x,r,rfl,sP g h3⟩) fun y hy=>de ⟨hy,rfl⟩
  ·rw [iP (by simp)]
   split
   ·exact bW (kB hE g) fun a ha=>de ⟨ha,rfl⟩
   ·refine aZ (ie _ (by simp [lit])) fun b hb=>?_
    subst hb
    split
    ·rename_i hi
     refine aZ (sQ hi (by simp [lit])) fun y hy=>?_
     split<;>exact de ⟨hy.1,rfl⟩
    ·refine aZ (ie _ (by simp [lit])) fun b hb=>?_
     subst hb
     split
     ·rename_i hi
      exact bW (h8 hi) fun a ha=>de ⟨ha.1,ha.2⟩
     ·refine aZ (ie _ (by simp [lit])) fun b hb=>?_
      subst hb
      split
      ·rename_i hi
       exact bW (h9 hi) fun a ha=>de ⟨ha.1,ha.2⟩
      ·exact hf
theorem qv{E om o t k ka:Int}{l:List aa}{rc:Int→ae→Option RX}{ra:ae→Option RX}(ho0:0≤o)(ho:o≤60)(hE:0≤E)(g:fw E l)(hr:RK E rc k)(hk:7 * (60 - o)≤k)(hom:om≤o)(ha:AK E om ra ka)(hka:60 - o≤ka) :
  Pn (cK rc ra ⟨l,E,o,t⟩) (Po E (Ex l o)):=by
 unfold cK
 refine aZ (ie _ (by simp [lit])) fun b hb=>?_
 subst hb
 split
 ·rename_i hi
  have hj:∀ n,Pn (cx ra ⟨l,E,o,t⟩ n) (Po E (Ex l o)):=by
   intro n
   unfold cx
   refine bW (A:=Ex l o) ?_ fun a ha=>de ⟨ha.1,ha.2⟩
   unfold e8
   exact ln ho0 ho hE g (pQ hi (by simp [lit])) fun l1 h1 h=>qu (by omega) (by omega) (h1.good g) ha (by omega)
  refine aZ (ie _ (by simp [lit])) fun b hb=>?_
  split
  ·exact hj _
  ·exact hj _
 ·refine bW (tA ho0 ho hE g hr hk) fun a hae=>?_
  refine lm (fun s=>Cs l s.1∧s.2.1=o) (fun s=>s.1.length) (fun s=>Cs l s.1∧s.2.1=o) ⟨hae.1,hae.2⟩ ?_ ?_
  ·rintro ⟨l41,x42,x43,x44,x45,x46,s47,l48,l49⟩ ⟨hc,hx⟩
   have hc:Cs l l41:=hc
   have hx:x42=o:=hx
   subst hx
   show Pn (c8 rc ⟨l,E,x42,t⟩ l41 x42 x43 x44 x45 x46 s47 l48 l49) _
   unfold c8
   refine aZ (ie _ (by simp [lit])) fun b hb=>?_
   subst hb
   split
   ·rename_i hi
    refine lI (A:=Ex l41 x42) ?_ fun a ha=>aW ⟨⟨hc.trans ha.1,ha.2⟩,ha.1.2⟩
    unfold eM
    exact ln ho0 ho hE (hc.good g) (pQ hi (by simp [lit])) fun l1 h1 h=>qt _ (by omega) (by omega) hE (h1.good (hc.good g)) hr (by omega)
   ·exact aW ⟨hc,rfl⟩
  ·rintro ⟨l41,x42,x43,x44,x45,x46,s47,l48,l49⟩ hc
   exact de hc
theorem nV{E k:Int}{rc:Int→ae→Option RX}(hE:0≤E)(hr:RK E rc k)(om:Int)(h0:0≤om)(hk:7 * (60 - om)≤k):∀ m:Nat,AK E om (b9 rc m) m
 |0,o,t,l,_,h2,h3,_=>absurd h3 (by omega)
 |m+1,o,t,l,h1,h2,h3,g=>by
  show Pn (cK rc (b9 rc m) ⟨l,E,o,t⟩) _
  exact qv (by omega) h2 hE g hr (by omega) h1 (nV hE hr om h0 hk m) (by omega)
def opL:List (List (List UInt8)):=lit [lit [[111,114],[120,111,114]],lit [[97,110,100]],lit [[60],[61,61]],lit [[43],[45]],lit [[42],[47],[37]]]
def opN:List (List Int):=lit [lit [11,12],lit [10],lit [8,9],lit [1,2],lit [3,4,5]]
theorem sS:∀ i,i<5→(opL.getD i default).length=(opN.getD i default).length∧([125]:List UInt8) ∉ opL.getD i default∧(opL.getD i default).length≤3:=by decide
theorem tQ{E o t n:Int}{l:List aa}(h0:0≤n)(h5:n<5):Pn (ez n ⟨l,E,o,t⟩) (fun k=>k≠0→Nx l):=by
 obtain ⟨f1,f2,f3⟩:=sS n.toNat (by omega)
 unfold ez
 rw [iP ⟨h0,h5⟩]
 refine nR (nO (opL.getD n.toNat default) l E o t (by omega)) ?_
 split
 ·rename_i hi
  obtain ⟨x,r,rfl,hk,hx⟩:=jY hi
  rw [iP (by simp)]
  refine nR (my (opL.getD n.toNat default) x.text (by omega)) ?_
  have h1:=tv hx
  have h2:=q9 (L:=opL.getD n.toNat default) (x:=x.text)
  rw [f1] at h2
  split
  ·exact aW fun _=>⟨x,r,rfl,kA hx f2⟩
  ·rename_i hh
   exact absurd (And.intro h1 h2) hh
 ·exact aW fun h=>absurd rfl h
theorem rR{E o t k n:Int}{fuel:Nat}{l:List aa}{rc:Int→ae→Option RX}(hf:61≤fuel)(h0:0≤n)(h5:n≤5)(ho0:0≤o)(ho:o≤60)(hE:0≤E)(g:fw E l)(hr:RK E rc k)(hk:7 * (60 - o)+(5 - n)≤k) :
  Pn (cV fuel rc n ⟨l,E,o,t⟩) (Po E (Ex l o)):=by
 unfold cV
 split
 ·rename_i h
  refine bW (A:=Ex l o) (nV hE hr o ho0 (by omega) fuel o t l (Int.le_refl _) ho (by omega) g) fun a ha=>de ⟨ha.1,ha.2⟩
 ·rename_i h
  simp only [wr (n:=n+1) (by omega) (by omega)]
  refine bW (hr (n+1) o t l (by omega) (by omega) ho0 ho (by omega) g) fun a ha=>?_
  refine aZ (tQ h0 (by omega)) fun x20 hx20=>?_
  refine lm (fun s=>Cs l s.1∧s.2.1=o∧(s.2.2.2.2.2.2.2.2.2≠0→Nx s.1)) (fun s=>s.1.length) (fun s=>Cs l s.1∧s.2.1=o) ⟨ha.1,ha.2,hx20⟩ ?_ ?_
  ·rintro ⟨l41,x42,x43,x44,x45,x46,s47,l48,l49,x50⟩ ⟨hc,hx,hn⟩
   have hc:Cs l l41:=hc
   have hx:x42=o:=hx
   have hn:x50≠0→Nx l41:=hn
   subst hx
   show Pn (dj rc n ⟨l,E,x42,t⟩ l41 x42 x43 x44 x45 x46 s47 l48 l49 x50) _
   unfold dj
   split
   ·rename_i hne
    refine aZ (oH (hn hne)) fun b hb=>?_
    simp only [wr (n:=n+1) (by omega) (by omega)]
    refine lI (hr (n+1) x42 _ _ (by omega) (by omega) ho0 ho (by omega) ((hc.trans hb).good g)) fun c hcc=>?_
    refine nR rfl ?_
    split
    ·exact aW ⟨(hc.trans hb).trans hcc.1,hcc.2⟩
    ·refine aZ (tQ h0 (by omega)) fun d hd=>aW ⟨⟨(hc.trans hb).trans hcc.1,hcc.2,hd⟩,?_⟩
     exact (hb.trans hcc.1).2
   ·exact aW ⟨hc,rfl⟩
  ·rintro ⟨l41,x42,x43,x44,x45,x46,s47,l48,l49⟩ hc
   exact de hc
theorem oJ{E:Int}{fuel:Nat}(hf:61≤fuel)(hE:0≤E):∀ m:Nat,RK E (cp fuel m) m
 |0,n,o,t,l,h0,h5,ho0,ho,hk,_=>absurd hk (by omega)
 |m+1,n,o,t,l,h0,h5,ho0,ho,hk,g=>by
  show Pn (cV fuel (cp fuel m) n ⟨l,E,o,t⟩) _
  exact rR hf h0 h5 ho0 ho hE g (oJ hf hE m) (by omega)
theorem ri{E o t:Int}{fuel:Nat}{l:List aa}(hf:430≤fuel)(ho0:0≤o)(ho:o≤60)(hE:0≤E)(g:fw E l):Pn (cW fuel ⟨l,E,o,t⟩) (Po E (Ex l o)):=by
 have hj:∀ x1,0≤x1→x1≤E→Pn (ca fuel ⟨l,E,o,t⟩ x1) (Po E (Ex l o)):=by
  intro x1 h1 h2
  unfold ca
  refine bW (A:=Ex l o) (oJ (by omega) hE fuel 0 o 0 l (by decide) (by decide) ho0 ho (by omega) g) fun a ha=>?_
  split
  ·exact uB (a:=(7,x1)) ⟨show (7:Int)≠0 by decide,h1,h2⟩
  ·exact de ⟨ha.1,ha.2⟩
 unfold cW
 cases l with
 |nil=>rw [iN (by simp)];exact hj _ hE (Int.le_refl _)
 |cons x r =>
  rw [iP (by simp),iP (by simp)]
  exact hj _ (g.2 x (by simp)).2.1 (g.2 x (by simp)).2.2
theorem mZ{E o t:Int}{fuel:Nat}{l:List aa}(n:Int)(hf:430≤fuel)(ho0:0≤o)(ho:o≤60)(hE:0≤E)(g:fw E l):Pn (eY fuel n ⟨l,E,o,t⟩) (Po E fun r=>Cs l r.2.1∧r.2.2.1=o):=by
 unfold eY
 refine aZ (P:=Po E fun r=>Cs l r.2.1∧r.2.2.1=o) ?_ fun a ha=>aW ha
 refine kz (fun s=>Rd l s.1∧s.2.1=o∧s.2.2.2.length+s.1.length≤l.length) (fun s=>s.1.length) ⟨Rd.refl _,rfl,by simp⟩ ?_
 rintro ⟨l17,x18,x19,l20⟩ ⟨hc,hx,hl⟩
 have hc:Rd l l17:=hc
 have hx:x18=o:=hx
 have hl:l20.length+l17.length≤l.length:=hl
 subst hx
 show Pn (dP fuel n ⟨l,E,x18,t⟩ l17 x18 x19 l20) _
 unfold dP
 have:=g.1
 split
 ·exact aZ (ff (by decide) hE (hc.good g)) fun a ha=>aW ha
 ·obtain ⟨y,hy,hpy⟩:=ri (t:=x19) hf ho0 ho hE (hc.good g)
  rw [hy]
  cases y with
  |inr z=>exact aW hpy
  |inl a =>
   have hpy:Ex l17 x18 a:=hpy
   show Pn (if du (l20.length+1) 88 then _ else none) _
   rw [iP (mU (by omega) (by decide))]
   refine aZ (jD [44] (by decide)) fun b hb=>?_
   have hb':=(hc.cs hpy.1).rd hb
   split
   ·refine aW ⟨⟨hb'.1,hpy.2,?_⟩,(hpy.1.rd hb).2⟩
    have:=(hpy.1.rd hb).2
    show (l20++lit [a.1]).length+b.2.length≤l.length
    rw [List.length_append];simp only [lit,List.length_cons,List.length_nil];omega
   ·exact aW ⟨hb',hpy.2⟩
theorem vI{E o t:Int}{fuel:Nat}{l:List aa}(hf:430≤fuel)(ho0:0≤o)(ho:o≤60)(hE:0≤E)(g:fw E l)(hl:l≠[]):Pn (fb fuel ⟨l,E,o,t⟩) (Po E fun r=>Cs l r.2.1∧r.2.2.1=o):=by
 have h3:∀ (y4:(List (List UInt8))×(List aa)) (y19:(List UInt8)×(List aa)) (l22:List (List aw)) (l28:List aa) (x30:Int) (l31:List ai),Cs l l28 →
   Pn (cD ⟨l,E,o,t⟩ y4 y19 l22 l28 o x30 l31) (Po E fun r=>Cs l r.2.1∧r.2.2.1=o):=by
  intro y4 y19 l22 l28 x30 l31 h
  unfold cD
  exact bW (eD _ hE (h.good g) (by simp [lit])) fun b hb=>de ⟨h.trans hb,rfl⟩
 have h2:∀ (y4:(List (List UInt8))×(List aa)) (y19:(List UInt8)×(List aa)) (l21:List aa) (l22:List (List aw)),Cs l l21 →
   Pn (cE fuel ⟨l,E,o,t⟩ y4 y19 l21 l22) (Po E fun r=>Cs l r.2.1∧r.2.2.1=o):=by
  intro y4 y19 l21 l22 h
  unfold cE
  refine bW (eD _ hE (h.good g) (by simp [lit])) fun b hb=>?_
  refine aZ (ie _ (by simp [lit])) fun c hc=>?_
  split
  ·exact h3 _ _ _ _ _ _ (h.trans hb)
  ·refine bW (mZ 30 hf ho0 ho hE ((h.trans hb).good g)) fun d hd=>?_
   simp only [hd.2]
   exact h3 _ _ _ _ _ _ ((h.trans hb).trans hd.1)
 have h1:∀ (y4:(List (List UInt8))×(List aa)) (y9:List aa),Cs l y9 →
   Pn (cF fuel ⟨l,E,o,t⟩ y4 y9) (Po E fun r=>Cs l r.2.1∧r.2.2.1=o):=by
  intro y4 y9 h
  unfold cF
  refine bW (eD _ hE (h.good g) (by simp [lit])) fun b hb=>?_
  refine bW (kB hE ((h.trans hb).good g)) fun c hc=>?_
  have hc':=(h.trans hb).trans hc
  refine aZ (jD [60] (by decide)) fun d hd=>?_
  have hd':=hc'.rd hd
  split
  ·refine bW (mY 3 hE (hd'.good g)) fun e he=>?_
   refine bW (eD _ hE ((hd'.trans he).good g) (by simp [lit])) fun f hf'=>?_
   exact h2 _ _ _ _ ((hd'.trans he).trans hf')
  ·exact h2 _ _ _ _ hd'
 unfold fb
 rw [iP ⟨by decide,by cases l with|nil=>exact absurd rfl hl|cons x r=>simp⟩]
 refine bW (lJ 30 hE g) fun a ha=>?_
 refine bW (eD _ hE (ha.good g) (by simp [lit])) fun b hb=>?_
 split
 ·refine aZ (ie _ (by simp [lit])) fun c hc=>?_
  split
  ·exact h1 _ _ (ha.trans hb)
  ·exact bW (ri hf ho0 ho hE ((ha.trans hb).good g)) fun d hd=>de ⟨(ha.trans hb).trans hd.1,hd.2⟩
 ·exact h1 _ _ (ha.trans hb)
abbrev Nd(l:List aa)(o:Int)(r:cC×(List aa)×Int×Int):Prop:=(∃ b,br b=true∧Cs l (b :: r.2.1))∧r.2.2.1=o
theorem tB{E o t:Int}{fuel:Nat}{l:List aa}(hf:430≤fuel)(ho0:0≤o)(ho:o≤60)(hE:0≤E)(g:fw E l)(hx:Nx l):Pn (eA fuel ⟨l,E,o,t⟩) (Po E (Nd l o)):=by
 have h2:∀ (y5:(List UInt8)×(List aa)) (l8:List (List UInt8)) (l14:List aa) (l15:List aX),Cs l l14→Pn (ce fuel ⟨l,E,o,t⟩ y5 l8 l14 l15) (Po E (Nd l o)):=by
  intro y5 l8 l14 l15 h
  unfold ce
  refine bW (eD _ hE (h.good g) (by simp [lit])) fun b hb=>?_
  refine bW (kG 30 hE ((h.trans hb).good g)) fun c hc=>?_
  refine bW (eD _ hE (((h.trans hb).trans hc).good g) (by simp [lit])) fun d hd=>?_
  have hd':=((h.trans hb).trans hc).trans hd
  refine lm (fun s=>Cs l s.1∧s.2.1=o∧s.2.2.2.1.length+s.1.length≤l.length∧s.2.2.2.2.length+s.1.length≤l.length) (fun s=>s.1.length) (fun s=>Cs l s.1∧s.2.1=o∧isB (lit [[125]]) s.1=true) ⟨hd',rfl,?_,?_⟩ ?_ ?_
  ·have:=hd'.2;simp only [List.length_nil];omega
  ·have:=hd'.2;simp only [List.length_nil];omega
  ·rintro ⟨l69,x70,x71,l72,l74⟩ ⟨hc,hx,hl1,hl2⟩
   have hc:Cs l l69:=hc
   have hx:x70=o:=hx
   have hl1:l72.length+l69.length≤l.length:=hl1
   have hl2:l74.length+l69.length≤l.length:=hl2
   subst hx
   show Pn (dk fuel ⟨l,E,x70,t⟩ l69 x70 x71 l72 l74) _
   have h4:∀ (l81:List aa) (x83:Int) (l84:List aX) (l86:List TEq),Cs l69 l81→l84.length+l81.length≤l.length→l86.length+l81.length≤l.length →
     Pn (cd ⟨l,E,x70,t⟩ l81 x70 x83 l84 l86) (Pl E (fun s'=>(Cs l s'.1∧s'.2.1=x70∧s'.2.2.2.1.length+s'.1.length≤l.length∧s'.2.2.2.2.length+s'.1.length≤l.length)∧s'.1.length<l69.length) (fun s=>Cs l s.1∧s.2.1=x70∧isB (lit [[125]]) s.1=true) (Nd l x70)):=by
    intro l81 x83 l84 l86 h81 e1 e2
    unfold cd
    refine lI (eD _ hE ((hc.trans h81).good g) (by simp [lit])) fun b hb=>?_
    have e3:=hb.2
    refine aW ⟨⟨(hc.trans h81).trans hb,rfl,?_,?_⟩,(h81.trans hb).2⟩
    ·show l84.length+b.length≤l.length
     omega
    ·show l86.length+b.length≤l.length
     omega
   have h5:∀ y93:Bool×List aa,Rd l69 y93.2→Pn (bG fuel ⟨l,E,x70,t⟩ x70 x71 l72 l74 y93) (Pl E (fun s'=>(Cs l s'.1∧s'.2.1=x70∧s'.2.2.2.1.length+s'.1.length≤l.length∧s'.2.2.2.2.length+s'.1.length≤l.length)∧s'.1.length<l69.length) (fun s=>Cs l s.1∧s.2.1=x70∧isB (lit [[125]]) s.1=true) (Nd l x70)):=by
    intro y93 h93
    unfold bG
    split
    ·exact m7 (ff (by decide) hE ((hc.rd h93).good g))
    ·rename_i hne
     refine lI (vI hf ho0 ho hE ((hc.rd h93).good g) (fun e=>hne (by rw [e];rfl))) fun b hb=>?_
     have e1:=h93.len
     have e2:=hb.1.2
     have e3:=g.1
     rw [iP (mU (by omega) (by decide))]
     simp only [hb.2]
     refine h4 _ _ _ _ (h93.cs hb.1) (by omega) ?_
     rw [List.length_append];simp only [lit,List.length_cons,List.length_nil];omega
   unfold dk
   refine aZ (ie _ (by simp [lit])) fun b hb=>?_
   subst hb
   split
   ·rename_i hi
    exact aW ⟨hc,rfl,hi⟩
   ·refine aZ (jD [118,97,114] (by decide)) fun b hb=>?_
    split
    ·split
     ·exact m7 (ff (by decide) hE ((hc.rd hb).good g))
     ·refine lI (rg hE ((hc.rd hb).good g)) fun c hcc=>?_
      have e1:=hb.len
      have e2:=hcc.2
      have e3:=g.1
      rw [iP (mU (by omega) (by decide))]
      refine h4 _ _ _ _ (hb.cs hcc) ?_ (by omega)
      rw [List.length_append];simp only [lit,List.length_cons,List.length_nil];omega
    ·split
     ·rename_i hlen
      rw [iP (by simpa using hlen)]
      split
      ·split
       ·exact m7 (ff (by decide) hE ((hc.rd hb).good g))
       ·exact h5 _ hb
      ·exact h5 _ hb
     ·exact h5 _ hb
  ·rintro ⟨l35,x36,x37,l38,l40⟩ ⟨hc,hx,hi⟩
   have hc:Cs l l35:=hc
   have hx:x36=o:=hx
   have hi:isB (lit [[125]]) l35=true:=hi
   show Pn (cb ⟨l,E,o,t⟩ y5 l8 l15 c l35 x36 x37 l38 l40) _
   unfold cb
   obtain ⟨x,r,rfl,hk,ht⟩:=jY hi
   rw [ju]
   refine de ⟨⟨x,?_,hc⟩,hx⟩
   simp only [lit,List.mem_singleton] at ht
   simp [br,hk,ht]
 have h1:∀ (y5:(List UInt8)×(List aa)) (l7:List aa) (l8:List (List UInt8)),Cs l l7→Pn (cg fuel ⟨l,E,o,t⟩ y5 l7 l8) (Po E (Nd l o)):=by
  intro y5 l7 l8 h
  unfold cg
  refine bW (eD _ hE (h.good g) (by simp [lit])) fun b hb=>?_
  refine aZ (ie _ (by simp [lit])) fun c hc=>?_
  split
  ·exact h2 _ _ _ _ (h.trans hb)
  ·exact bW (kG 30 hE ((h.trans hb).good g)) fun d hd=>h2 _ _ _ _ ((h.trans hb).trans hd)
 unfold eA
 rw [iP ⟨by decide,by obtain ⟨x,r,rfl,_⟩:=hx;simp⟩]
 refine aZ (oH hx) fun a ha=>?_
 refine bW (kB hE (ha.good g)) fun b hb=>?_
 refine aZ (jD [60] (by decide)) fun c hc=>?_
 have hc':=(ha.trans hb).rd hc
 split
 ·refine bW (lJ 3 hE (hc'.good g)) fun d hd=>?_
  refine bW (eD _ hE ((hc'.trans hd).good g) (by simp [lit])) fun e he=>?_
  exact h1 _ _ _ ((hc'.trans hd).trans he)
 ·exact h1 _ _ _ hc'
theorem Rd.count{a b:List aa}(h:Rd a b):a.countP br=b.countP br:=by
 obtain ⟨c,rfl,hc⟩:=h
 rw [List.countP_append,List.countP_eq_zero.2 fun t ht=>by rw [hc t ht];decide,Nat.zero_add]
def PQ(E:Int)(l:List aa)(r:cN×bl):Prop :=
 (r.2.code=0∧r.1.nodes.length=l.countP br∧∃ c b,l=c++[b]∧br b=true)∨(r.2.code≠0∧r.1.nodes=[]∧0≤r.2.at_∧r.2.at_≤E)
theorem pS{fuel:Nat}{src:List UInt8}{l:List aa}{f:bl}(hf:430≤fuel)(hs:gK src=some (l,f))(g:fw src.length l) :
  Pn (e9 fuel src) (fun r=>(f.code≠0∧r=(cN.mk [],f))∨(f.code=0∧PQ src.length l r)):=by
 unfold e9
 rw [hs]
 refine nR rfl ?_
 by_cases h0:f.code=0
 ·rw [iN (fun x=>x h0)]
  refine pe (P:=PQ src.length l) ?_ fun r hr=>.inr ⟨h0,hr⟩
  have hE:(0:Int)≤(src.length:Int):=by omega
  refine aZ (P:=Sum.elim (fun s=>s.2.2.2.length=l.countP br∧∃ c b,l=c++[b]∧br b=true) (PQ src.length l)) ?_ ?_
  ·refine kz (fun s=>fw src.length s.1∧s.2.1=0∧s.2.2.2.length+s.1.countP br=l.countP br∧((s.2.2.2=[]∧s.1=l)∨∃ c b,l=c++b :: s.1∧br b=true)∧s.2.2.2.length+s.1.length≤l.length) (fun s=>s.1.length) ⟨g,rfl,by simp,.inl ⟨rfl,rfl⟩,by simp⟩ ?_
   rintro ⟨l25,x26,x27,l28⟩ ⟨g',hx,hn,hb,hl⟩
   have g':fw src.length l25:=g'
   have hx:x26=0:=hx
   have hn:l28.length+l25.countP br=l.countP br:=hn
   have hb:(l28=[]∧l25=l)∨∃ c b,l=c++b :: l25∧br b=true:=hb
   have hl:l28.length+l25.length≤l.length:=hl
   subst hx
   have key:Pn (dU fuel src l25 0 x27 l28) (Sum.elim (fun s'=>(fw src.length s'.1∧s'.2.1=0∧s'.2.2.2.length+s'.1.countP br=l.countP br∧((s'.2.2.2=[]∧s'.1=l)∨∃ c b,l=c++b :: s'.1∧br b=true)∧s'.2.2.2.length+s'.1.length≤l.length)∧s'.1.length<l25.length)
     (Sum.elim (fun s=>s.2.2.2.length=l.countP br∧∃ c b,l=c++[b]∧br b=true) (PQ src.length l))):=by
    unfold dU
    refine aZ (ie _ (by simp [lit])) fun b hb'=>?_
    subst hb'
    split
    ·rename_i hi
     split
     ·exact aZ (ff (by decide) hE g') fun a ha=>aW (.inr ⟨ha.1,rfl,ha.2⟩)
     ·obtain ⟨y,hy,hpy⟩:=tB (t:=x27) hf (Int.le_refl 0) (by decide) hE g' (pQ hi (by simp [lit]))
      rw [hy]
      cases y with
      |inr z=>exact aW (.inr ⟨hpy.1,rfl,hpy.2⟩)
      |inl a =>
       obtain ⟨⟨b,hbb,hcs⟩,ho⟩:Nd l25 0 a:=hpy
       show Pn (if du (l28.length+1) 144 then _ else none) _
       have e1:=hcs.2
       have e2:=g'.1
       have e3:l.length≤9000000:=g.1
       simp only [List.length_cons] at e1
       rw [iP (mU (by omega) (by decide))]
       have hc:=hcs.1.count
       rw [List.countP_cons,iP hbb] at hc
       refine aW ⟨⟨(Rd.good hcs.1 g':fw _ (b :: a.2.1)) |> fun z=>⟨by have:=z.1;simp only [List.length_cons] at this;show a.2.1.length≤_;omega,fun t ht=>z.2 t (List.mem_cons_of_mem _ ht)⟩,ho,?_,.inr ?_,?_⟩,?_⟩
       ·show (l28++lit [a.1]).length+a.2.1.countP br=l.countP br
        rw [List.length_append];simp only [lit,List.length_cons,List.length_nil];omega
       ·obtain ⟨c,hc1,_⟩:=hcs.1
        rcases hb with ⟨_,rfl⟩|⟨c0,b0,h0',_⟩
        ·exact ⟨c,b,hc1,hbb⟩
        ·exact ⟨c0++b0 :: c,b,by rw [h0',hc1];simp,hbb⟩
       ·show (l28++lit [a.1]).length+a.2.1.length≤l.length
        rw [List.length_append];simp only [lit,List.length_cons,List.length_nil];omega
       ·show a.2.1.length<l25.length
        omega
    ·exact aZ (ff (by decide) hE g') fun a ha=>aW (.inr ⟨ha.1,rfl,ha.2⟩)
   show Pn (fo fuel src l25 0 x27 l28) _
   unfold fo
   split
   ·exact key
   ·rename_i he
    split
    ·exact key
    ·rename_i hz
     have he:l25=[]:=by cases l25 with
      |nil=>rfl
      |cons x r=>exact absurd (by simp) he
     subst he
     refine aW ⟨by simpa using hn,?_⟩
     rcases hb with ⟨h,_⟩|⟨c,b,h,hb⟩
     ·have h:l28=[]:=h;exact absurd (by rw [h];rfl) hz
     ·exact ⟨c,b,h,hb⟩
  ·intro a ha
   cases a with
   |inl s=>exact aW (.inl ⟨rfl,ha⟩)
   |inr r=>exact aW ha
 ·rw [iP h0]
  exact aW (.inl ⟨h0,rfl⟩)
theorem ph{α:Type}(p:α→Bool):∀ (s:List α) (m:Nat),(s.take m).takeWhile p=(s.takeWhile p).take m
 |[],m=>by simp
 |c :: l,0=>by simp
 |c :: l,m+1=>by
  rw [List.take_succ_cons,List.takeWhile_cons,List.takeWhile_cons,ph p l m]
  split
  ·rw [List.take_succ_cons]
  ·simp
theorem pT:∀ (s:List UInt8) (r:Bool) (m:Nat),blk r (s.take m)=(blk r s).take (m - (s.length - (blk r s).length))
 |[],r,m=>by simp [blk]
 |c :: l,r,0=>by simp [blk]
 |c :: l,r,m+1=>by
  have key:∀ q,blk q (l.take m)=(blk q l).take (m+1 - ((c :: l).length - (blk q l).length)):=by
   intro q
   have h:=l3 q l
   rw [pT l q m,List.length_cons,show m+1 - (l.length+1 - (blk q l).length)=m - (l.length - (blk q l).length) by omega]
  rw [List.take_succ_cons]
  unfold blk
  split
  ·exact key _
  ·split
   ·exact key _
   ·split
    ·exact key _
    ·simp
theorem mI{p:Nat}{c:UInt8}{l:List UInt8}{t:aa}(h:hN p (c :: l)=.inl t):t.at_=p∧∃ w,t.text=c :: w:=by
 obtain ⟨h1,h2,h3⟩:=jX h
 refine ⟨h1,?_⟩
 cases ht:t.text with
 |nil=>exact absurd ht h2
 |cons d w =>
  rw [ht] at h3
  obtain ⟨e,he⟩:=h3
  rw [List.cons_append] at he
  exact ⟨w,by rw [(List.cons.inj he).1]⟩
theorem tC{p:Nat}{s:List UInt8}{t:aa}(h:hN p s=.inl t):t.text.length≤s.length:=(jX h).2.2.length_le
theorem sT{p:Nat}{c:UInt8}{l:List UInt8}{t:aa}(h:hN p (c :: l)=.inl t)(hk:t.kind=3):tDg c:=by
 unfold hN at h
 simp only at h
 split at h
 ·split at h
  ·cases h;cases hk
  ·split at h
   ·cases h
   ·cases h;cases hk
 ·split at h
  ·assumption
  ·split at h
   ·cases h;cases hk
   ·split at h
    ·cases h;cases hk
    ·cases h
theorem tD{p:Nat}{c:UInt8}{l:List UInt8}{t:aa}(h:hN p (c :: l)=.inl t)(hk:t.kind=3):t.text≠[125]:=by
 obtain ⟨w,hw⟩:=(mI h).2
 intro e
 rw [hw] at e
 have:=sT h hk
 rw [(List.cons.inj e).1] at this
 exact absurd this (by decide)
theorem tE{p:Nat}{s:List UInt8}{e:Int}(h:hN p s=.inr e):e≠0:=by
 unfold hN at h
 split at h
 ·cases h;decide
 ·simp only at h
  split at h
  ·split at h
   ·cases h
   ·split at h
    ·cases h;decide
    ·cases h
  ·split at h
   ·split at h
    ·cases h
    ·cases h;decide
   ·split at h
    ·cases h
    ·split at h
     ·cases h
     ·cases h;decide
theorem nW:∀ (k p:Nat) (s:List UInt8),(∀ L,fR k p s=.inl L→L.length≤s.length∧∀ t∈L,(t.kind=3→t.text≠[125])∧(p:Int)≤t.at_∧t.at_≤((p+s.length:Nat):Int)) ∧
  (∀ f,fR k p s=.inr f→f.code≠0∧(p:Int)≤f.at_∧f.at_≤((p+s.length:Nat):Int))
 |0,p,s=>⟨fun L h=>by cases h;simp,fun f h=>by cases h⟩
 |k+1,p,s=>by
  rw [gN]
  have hle:=l3 false s
  cases hb:blk false s with
  |nil=>exact ⟨fun L h=>by cases h;simp,fun f h=>by cases h⟩
  |cons c l =>
   rw [hb] at hle
   simp only
   cases ht:hN (p+(s.length - (c :: l).length)) (c :: l) with
   |inr e =>
    refine ⟨fun L h=>(by cases h),fun f h=>?_⟩
    cases h
    exact ⟨tE ht,by show (p:Int)≤((_:Nat):Int);omega,by show ((_:Nat):Int)≤_;omega⟩
   |inl t =>
    have hl:=tC ht
    obtain ⟨h1,w,hw⟩:=mI ht
    have hw1:1≤t.text.length:=by rw [hw];simp
    have ih:=nW k (p+(s.length - (c :: l).length)+t.text.length) ((c :: l).drop t.text.length)
    simp only
    have hd:((c :: l).drop t.text.length).length=(c :: l).length - t.text.length:=List.length_drop
    cases hs:fR k (p+(s.length - (c :: l).length)+t.text.length) ((c :: l).drop t.text.length) with
    |inr f =>
     refine ⟨fun L h=>(by cases h),fun f' h=>?_⟩
     cases h
     obtain ⟨a,b,c'⟩:=ih.2 f hs
     rw [hd] at c'
     exact ⟨a,by omega,by omega⟩
    |inl m =>
     refine ⟨fun L h=>?_,fun f' h=>(by cases h)⟩
     cases h
     obtain ⟨a,b⟩:=ih.1 m hs
     rw [hd] at a b
     refine ⟨by rw [List.length_cons];omega,fun x hx=>?_⟩
     rcases List.mem_cons.1 hx with rfl|hx
     ·exact ⟨tD ht,by rw [h1];omega,by rw [h1];omega⟩
     ·obtain ⟨b1,b2,b3⟩:=b x hx
      exact ⟨b1,by omega,by omega⟩
theorem sU{p m:Nat}{c:UInt8}{l:List UInt8}{t:aa}(h:hN p (c :: l)=.inl t)(hm:t.text.length≤m):hN p ((c :: l).take m)=.inl t:=by
 obtain ⟨_,w,hw⟩:=mI h
 obtain ⟨m,rfl⟩:∃ q,m=q+1:=⟨m - 1,by rw [hw] at hm;simp at hm;omega⟩
 have e:((c :: l).take (m+1)).takeWhile tAn=((c :: l).takeWhile tAn).take (m+1):=ph tAn _ _
 rw [List.take_succ_cons] at e ⊢
 unfold hN at h ⊢
 simp only at h ⊢
 rw [e]
 have tw:∀ k n,(aa.mk k p ((c :: l).takeWhile tAn) n).text.length≤m+1→((c :: l).takeWhile tAn).take (m+1)=(c :: l).takeWhile tAn:=fun k n h=>List.take_of_length_le h
 split at h
 ·split at h
  ·rename_i h1 h2
   cases h
   rw [tw 1 0 hm,iP h1,iP h2]
  ·split at h
   ·cases h
   ·rename_i h1 h2 h3
    cases h
    rw [tw 2 0 hm,iP h1,iN h2,iN h3]
 ·split at h
  ·rename_i h1 h2
   split at h
   ·rename_i n hn
    cases h
    rw [tw 3 n hm,iN h1,iP h2,hn]
   ·cases h
  ·rename_i h1 h2
   rw [iN h1,iN h2]
   split at h
   ·rename_i h3
    cases h
    have h4:(c :: l.take m).take 2=(c :: l).take 2:=by
     have:2≤m+1:=by
      rcases h3 with h3|h3<;>(rw [show (aa.mk 4 p ((c :: l).take 2) 0).text=(c :: l).take 2 from rfl,h3] at hm;simpa using hm)
     rw [← List.take_succ_cons,List.take_take,Nat.min_eq_left this]
    rw [h4,iP h3]
   ·rename_i h3
    have h4:¬ ((c :: l.take m).take 2=[61,61]∨(c :: l.take m).take 2=[45,62]):=by
     cases m with
     |zero=>simp
     |succ m=>rw [← List.take_succ_cons,List.take_take,Nat.min_eq_left (by omega)];exact h3
    rw [iN h4]
    exact h
theorem tF{p m:Nat}{c:UInt8}{l:List UInt8}{t t':aa}(h:hN p (c :: l)=.inl t)(hm0:0<m)(hm:m<t.text.length)(h':hN p ((c :: l).take m)=.inl t'):br t'=false∧t'.text.length=m:=by
 obtain ⟨m,rfl⟩:∃ q,m=q+1:=⟨m - 1,by omega⟩
 have e:((c :: l).take (m+1)).takeWhile tAn=((c :: l).takeWhile tAn).take (m+1):=ph tAn _ _
 rw [List.take_succ_cons] at e h'
 have hc:t.text≠[125]:=by
  intro e1
  rw [e1] at hm
  simp at hm
 obtain ⟨_,w,hw⟩:=mI h
 obtain ⟨_,w',hw'⟩:=mI h'
 have hne:∀ k n,c≠125→(aa.mk k p t'.text n).text≠[125]:=by
  intro k n h1 h2
  rw [show (aa.mk k p t'.text n).text=t'.text from rfl,hw'] at h2
  exact h1 (List.cons.inj h2).1
 have hbr:c≠125→br t'=false:=by
  intro h1
  have:t'.text≠[125]:=fun h2=>by rw [hw'] at h2;exact h1 (List.cons.inj h2).1
  simp [br,this]
 unfold hN at h h'
 simp only at h h'
 rw [e] at h'
 split at h
 ·rename_i h1
  rw [iP h1] at h'
  have hl:m+1≤((c :: l).takeWhile tAn).length:=by
   split at h
   ·cases h;exact Nat.le_of_lt hm
   ·split at h
    ·cases h
    ·cases h;exact Nat.le_of_lt hm
  have hl':(((c :: l).takeWhile tAn).take (m+1)).length=m+1:=by rw [List.length_take];omega
  have h125:c≠125:=fun e=>by rw [e] at h1;exact absurd h1 (by decide)
  refine ⟨hbr h125,?_⟩
  split at h'
  ·cases h';exact hl'
  ·split at h'
   ·cases h'
   ·cases h';exact hl'
 ·rename_i h1
  rw [iN h1] at h'
  split at h
  ·rename_i h2
   rw [iP h2] at h'
   have hl:m+1≤((c :: l).takeWhile tAn).length:=by
    split at h
    ·cases h;exact Nat.le_of_lt hm
    ·cases h
   have hl':(((c :: l).takeWhile tAn).take (m+1)).length=m+1:=by rw [List.length_take];omega
   have h125:c≠125:=fun e=>by rw [e] at h2;exact absurd h2 (by decide)
   refine ⟨hbr h125,?_⟩
   split at h'
   ·cases h';exact hl'
   ·cases h'
  ·rename_i h2
   rw [iN h2] at h'
   split at h
   ·rename_i h3
    cases h
    have hm2:m=0:=by
     have hm:m+1<((c :: l).take 2).length:=hm
     rw [List.length_take] at hm;omega
    subst hm2
    rw [iN (by simp)] at h'
    have h125:c≠125:=by
     rcases h3 with h3|h3<;>(rw [List.take_succ_cons] at h3;intro e;rw [e] at h3;exact absurd (List.cons.inj h3).1 (by decide))
    refine ⟨hbr h125,?_⟩
    split at h'
    ·cases h';rfl
    ·cases h'
   ·split at h
    ·cases h
     exact absurd hm (by simp)
    ·cases h
theorem oK(c:UInt8):jP (c.toNat:Int)=some (decide (tSm c)):=mG c
theorem lp(c:UInt8):iQ (c.toNat:Int)=some (decide (tDg c)):=mu c
theorem tG(src:List UInt8)(hl:src.length≤100000)(p:Nat)(hp:p≤src.length) :
  jQ src p=some ((p+((src.drop p).takeWhile tAn).length:Nat):Int):=by
 unfold jQ
 have key:∀ (k p:Nat),p+k=src.length→dX (fun x4=>gn src x4) (p:Int)=some ((p+((src.drop p).takeWhile tAn).length:Nat):Int):=by
  intro k
  induction k with
  |zero =>
   intro p h
   have:p=src.length:=by omega
   subst this
   rw [List.drop_length]
   refine cP ?_
   unfold gn
   rw [iN (iK _)];rfl
  |succ k ih =>
   intro p h
   have hp:p<src.length:=by omega
   rw [mS src p hp]
   have hb:gn src (p:Int)=if tAn (src.getD p 0)=true then some (.inl ((p+1:Nat):Int)) else some (.inr (p:Int)):=by
    unfold gn
    rw [iP (ltI hp),iP (inI hp),tN,wr1 p (by omega),oK,lp]
    simp only [bSq,decide_eq_true_eq]
    unfold tAn
    simp only [decide_eq_true_eq]
    by_cases h1:tSm (src.getD p 0)
    ·rw [iP h1,iP (Or.inl h1)]
    ·rw [iN h1]
     by_cases h2:tDg (src.getD p 0)
     ·rw [iP h2,iP (Or.inr h2)]
     ·rw [iN h2,iN (fun x=>x.elim h1 h2)]
   rw [List.takeWhile_cons]
   by_cases h1:tAn (src.getD p 0)=true
   ·rw [iP h1] at hb ⊢
    rw [fj hb,ih (p+1) (by omega),List.length_cons]
    congr 2;omega
   ·rw [iN h1] at hb ⊢
    rw [cP hb];rfl
 rw [key (src.length - p) p (by omega)]
 rfl
theorem sV(w:List UInt8):i8 w=some (jf w):=by
 unfold i8
 have hb:∀ x:Int,fD w x=if x<(32:Int) then (if (0≤x∧x<(32:Int)) then (if jC.getD x.toNat default=w then (some (.inr (.inr true))) else (some (.inl (IntKind.wrap .i64 (x+1))))) else none) else (some (.inr (.inl ()))):=fun _=>rfl
 rw [mE (body:=fun x3=>fD w x3) 32 (fun i=>if jC.getD i default=w then some true else none) ()
  (by
   intro i hi
   show fD w i=_
   rw [hb,iP (by omega),iP ⟨by omega,by omega⟩,tN,wr1 i (by omega)]
   by_cases h:jC.getD i default=w
   ·rw [iP h,iP h]
   ·rw [iN h,iN h])
  (by
   show fD w (32:Nat)=_
   rw [hb,iN (by omega)])]
 simp only [bSq]
 rcases je 32 (fun i=>if jC.getD i default=w then some true else none) () with ⟨e,hall⟩|⟨i,z,hi,hf,e⟩
 ·rw [e]
  simp only [Sum.elim_inl]
  unfold fZ
  congr 1;symm
  unfold jf
  rw [← Bool.not_eq_true,List.contains_iff_mem]
  intro hm
  obtain ⟨i,hi,he⟩:=List.getElem_of_mem hm
  have hi':i<32:=hi
  have:=hall i hi'
  rw [iP (by simp only [List.getD,List.getElem?_eq_getElem hi,Option.getD_some];exact he)] at this
  cases this
 ·rw [e]
  split at hf
  ·rename_i hw
   simp only [sJ] at hf
   subst hf
   simp only [Sum.elim_inr]
   congr 1;symm
   unfold jf
   rw [List.contains_iff_mem,← hw]
   have hi':i<jC.length:=hi
   simp only [List.getD,List.getElem?_eq_getElem hi',Option.getD_some]
   exact List.getElem_mem hi'
  ·cases hf
theorem sW(i:Nat)(h:i≤18):(10:Nat) ^ i≤1000000000000000000:=by
 have:(10:Nat) ^ i≤10 ^ 18:=Nat.pow_le_pow_right (by decide) h
 exact this
theorem pU(w:List UInt8)(hl:w.length≤18):∀ (k i n:Nat),i+k=w.length→n<10 ^ i →
  dX (fun (x6,x7)=>fE w x6 x7) ((n:Int),(i:Int))=some (if ∀ c∈w.drop i,tDg c then .inl (mX n (w.drop i)) else .inr (-1))∧((∀ c∈w.drop i,tDg c)→0≤mX n (w.drop i))
 |0,i,n,h,_=>by
  have:i=w.length:=by omega
  subst this
  rw [List.drop_length,iP (by simp)]
  refine ⟨cP ?_,fun _=>by simp [mX]⟩
  show fE _ _ _=_
  unfold fE
  rw [iN (iK _)];rfl
 |k+1,i,n,h,hn=>by
  have hi:i<w.length:=by omega
  rw [mS w i hi]
  obtain ⟨c,hc⟩:∃ c,w.getD i 0=c:=⟨_,rfl⟩
  rw [hc]
  by_cases hd:tDg c
  case neg =>
   rw [iN (fun h=>hd (h c List.mem_cons_self))]
   refine ⟨cP ?_,fun h=>absurd (h c List.mem_cons_self) hd⟩
   show fE _ _ _=_
   unfold fE
   rw [iP (ltI hi),iP (inI hi),tN,hc,lp]
   simp only [bSq,decide_eq_true_eq]
   rw [iN hd]
  have hd':48≤c.toNat∧c.toNat≤57:=hd
  have hp:=sW (i+1) (by omega)
  have hps:(10:Nat) ^ (i+1)=10 ^ i * 10:=Nat.pow_succ 10 i
  obtain ⟨q,hq⟩:∃ q,q=(10:Nat) ^ i:=⟨_,rfl⟩
  rw [← hq] at hn hps
  rw [hps] at hp
  have hb:fE w (n:Int) (i:Int)=some (.inl (((10 * n+(c.toNat - 48):Nat):Int),((i+1:Nat):Int))):=by
   unfold fE
   rw [iP (ltI hi),iP (inI hi),tN,hc,lp]
   simp only [bSq,decide_eq_true_eq]
   rw [iP hd,wr1 i (by omega)]
   have e1:IntKind.wrap .u8 ((c.toNat:Int) - 48)=(c.toNat:Int) - 48:=by rw [IntKind.wrap_u8];omega
   rw [e1,wr (n:=10 * (n:Int)) (by omega) (by omega),wr (n:=(c.toNat:Int) - 48) (by omega) (by omega),wr (by omega) (by omega)]
   congr 4
   omega
  obtain ⟨g1,g2⟩:=pU w hl k (i+1) (10 * n+(c.toNat - 48)) (by omega) (by rw [hps];omega)
  have hnv:mX (n:Int) (c :: w.drop (i+1))=mX ((10 * n+(c.toNat - 48):Nat):Int) (w.drop (i+1)):=by
   unfold mX
   rw [List.foldl_cons]
   congr 1;omega
  rw [hnv,fj hb,g1]
  have hall:(∀ d∈c :: w.drop (i+1),tDg d)↔∀ d∈w.drop (i+1),tDg d:=by
   constructor
   ·intro h d hdm;exact h d (List.mem_cons_of_mem _ hdm)
   ·intro h d hdm
    rcases List.mem_cons.1 hdm with rfl|hdm
    ·exact hd
    ·exact h d hdm
  refine ⟨?_,fun h=>g2 (hall.1 h)⟩
  by_cases ha:∀ d∈w.drop (i+1),tDg d
  ·rw [iP ha,iP (hall.2 ha)]
  ·rw [iN ha,iN (fun h=>ha (hall.1 h))]
theorem tH(w:List UInt8):mr w=some (match pL w with|some n=>n|none=>-1)∧∀ n,pL w=some n→0≤n:=by
 unfold mr pL
 by_cases h1:w.length>18
 ·rw [iP (by omega),iP (Or.inl h1)];exact ⟨rfl,fun n h=>by cases h⟩
 rw [iN (by omega)]
 obtain ⟨g1,g2⟩:=pU w (by omega) w.length 0 0 (by omega) (by decide)
 simp only [List.drop_zero,Int.natCast_zero] at g1 g2
 have hj:gM w=some (if ∀ c∈w,tDg c then mX 0 w else -1):=by
  unfold gM im
  rw [g1]
  simp only [bSq]
  by_cases ha:∀ c∈w,tDg c
  ·rw [iP ha,iP ha];rfl
  ·rw [iN ha,iN ha];rfl
 by_cases h2:w.length>1
 ·rw [iP (by omega),iP ⟨by omega,by omega⟩]
  cases w with
  |nil=>simp at h2
  |cons c l =>
   by_cases h3:c.toNat=48
   ·rw [iP (show (((c :: l).getD 0 0).toNat:Int)=48 by simp [h3]),iP (Or.inr (Or.inl ⟨h2,by simp [h3]⟩))];exact ⟨rfl,fun n h=>by cases h⟩
   ·rw [iN (show ¬ (((c :: l).getD 0 0).toNat:Int)=48 by simp;omega),hj]
    by_cases ha:∀ d∈c :: l,tDg d
    ·rw [iP ha,iN (fun h=>h.elim h1 (fun h=>h.elim (fun h=>h3 (by simpa using h.2)) (fun h=>h ha)))]
     exact ⟨rfl,fun n h=>by simp only [sJ] at h;rw [← h];exact g2 ha⟩
    ·rw [iN ha,iP (Or.inr (Or.inr ha))];exact ⟨rfl,fun n h=>by cases h⟩
 ·rw [iN (by omega),hj]
  by_cases ha:∀ d∈w,tDg d
  ·rw [iP ha,iN (fun h=>h.elim h1 (fun h=>h.elim (fun h=>h2 h.1) (fun h=>h ha)))]
   exact ⟨rfl,fun n h=>by simp only [sJ] at h;rw [← h];exact g2 ha⟩
  ·rw [iN ha,iP (Or.inr (Or.inr ha))];exact ⟨rfl,fun n h=>by cases h⟩
theorem tI(src:List UInt8)(hl:src.length≤100000)(p:Nat)(hp:p<src.length)(l:List aa)(hll:l.length≤200000)
  (hb:(src.getD p 0).toNat≠10∧¬ tBl (src.getD p 0)∧(src.getD p 0).toNat≠35) :
  dV src l p=match hN p (src.drop p) with
   |.inl t=>some (.inl (l++[t],((p+t.text.length:Nat):Int)))
   |.inr e=>some (.inr (.inr ([],bl.mk e p))):=by
 have hd:=mS src p hp
 have hlg:=tG src hl p (by omega)
 obtain ⟨c,hc⟩:∃ c,src.getD p 0=c:=⟨_,rfl⟩
 rw [hc] at hd hb
 obtain ⟨b1,b2,b3⟩:=hb
 unfold tBl at b2
 have tw:(src.drop p).takeWhile tAn <+: src.drop p:=List.takeWhile_prefix _
 have htw:=tw.length_le
 have hlen:(src.drop p).length=src.length - p:=List.length_drop
 have hpart:∀ n:Nat,(src.take (p+n)).drop p=(src.drop p).take n:=fun n=>by rw [List.drop_take,show p+n - p=n by omega]
 have htk:(src.take (p+((src.drop p).takeWhile tAn).length)).drop p=(src.drop p).takeWhile tAn:=by rw [hpart,← List.prefix_iff_eq_take.1 tw]
 obtain ⟨T,hT⟩:∃ T,T=(src.drop p).takeWhile tAn:=⟨_,rfl⟩
 rw [← hT] at hlg htw htk
 have hj2:∀ k:Int,gq src l p ((p+T.length:Nat):Int) k=some (.inl (l++[aa.mk k p T 0],((p+T.length:Nat):Int))):=fun k=>by
  unfold gq
  rw [iP ⟨⟨by omega,by omega,by omega⟩,mH _ (by omega)⟩,tN,tN,htk];rfl
 unfold dV
 rw [iP (ltI hp),iP (inI hp)]
 simp only [tN,hc]
 rw [iN (by omega),iN (by omega),iN (by omega),iN (by omega),iN (by omega),oK,lp,hlg]
 simp only [bSq,decide_eq_true_eq,tN,htk,sV,hj2]
 have hgd:0≤(p:Int)∧(p:Int)≤((p+T.length:Nat):Int)∧((p+T.length:Nat):Int)≤(src.length:Int):=⟨by omega,by omega,by omega⟩
 unfold mQ
 simp only [bSq]
 unfold hN
 rw [hd] at hT ⊢
 simp only
 rw [← hT]
 by_cases h1:tSm c
 ·rw [iP h1,iP h1,iP hgd]
  by_cases hw:jf T=true
  ·rw [iP hw,iP hw]
  ·rw [iN hw,iN hw]
   have e:IntKind.wrap .i64 (((p+T.length:Nat):Int) - (p:Int))=(T.length:Int):=by rw [wr (by omega) (by omega)];omega
   rw [e]
   by_cases h12:T.length>12
   ·rw [iP h12,iP (by omega)]
   ·rw [iN h12,iN (by omega)]
 rw [iN h1,iN h1]
 by_cases h2:tDg c
 ·rw [iP h2,iP h2,iP hgd]
  obtain ⟨n1,n2⟩:=tH T
  rw [n1]
  simp only [bSq]
  cases hn:pL T with
  |some n =>
   simp only
   have:=n2 n hn
   rw [iN (by omega),iP (mH _ (by omega))];rfl
  |none =>
   simp only
   rw [iP (by decide)]
 rw [iN h2,iN h2]
 have w1:IntKind.wrap .i64 ((p:Int)+1)=((p+1:Nat):Int):=wr1 p (by omega)
 have w2:IntKind.wrap .i64 ((p:Int)+2)=((p+2:Nat):Int):=by rw [wr (by omega) (by omega)];omega
 rw [w1,w2]
 simp only [tN,hpart]
 rw [hd]
 obtain ⟨A,hA⟩:∃ A:Option ((List aa×Int) ⊕ (List aa ⊕ (List aa×bl))),A=some (.inl (l++[aa.mk 4 p [c] 0],((p+1:Nat):Int))):=⟨_,rfl⟩
 obtain ⟨B,hB⟩:∃ B:Option ((List aa×Int) ⊕ (List aa ⊕ (List aa×bl))),B=some (.inr (.inr ([],bl.mk 1 p))):=⟨_,rfl⟩
 have hA':(if (0≤(p:Int)∧(p:Int)≤((p+1:Nat):Int)∧((p+1:Nat):Int)≤(src.length:Int))∧du (l.length+1) 40 then (some (.inl (l++lit [aa.mk 4 p ((c :: src.drop (p+1)).take 1) 0],((p+1:Nat):Int))):Option ((List aa×Int) ⊕ (List aa ⊕ (List aa×bl)))) else none)=A:=by
  rw [iP ⟨⟨by omega,by omega,by omega⟩,mH _ (by omega)⟩,hA];rfl
 rw [hA',← hB]
 have hfin:(if c.toNat∈mF then A else B)=match (if c.toNat∈mF then (.inl (aa.mk 4 p [c] 0):aa ⊕ Int) else .inr 1) with
   |.inl t=>some (.inl (l++[t],((p+t.text.length:Nat):Int)))
   |.inr e=>some (.inr (.inr ([],bl.mk e p))):=by
  by_cases h:c.toNat∈mF
  ·rw [iP h,iP h,hA];rfl
  ·rw [iN h,iN h,hB]
 have step:∀ (n:Int) (ns:List Nat) (X:Option ((List aa×Int) ⊕ (List aa ⊕ (List aa×bl)))),0≤n→X=(if c.toNat∈ns then A else B) →
   (if (c.toNat:Int)=n then A else X)=if c.toNat∈n.toNat :: ns then A else B:=fun n ns X h0 hX=>by
  by_cases h:(c.toNat:Int)=n
  ·rw [iP h,iP (by rw [List.mem_cons];left;omega)]
  ·rw [iN h,hX]
   have:(c.toNat∈n.toNat :: ns)↔c.toNat∈ns:=by
    rw [List.mem_cons]
    constructor
    ·rintro (h'|h')
     ·exact absurd (by omega) h
     ·exact h'
    ·exact Or.inr
   simp only [this]
 have chain:=step 40 _ _ (by decide) (step 41 _ _ (by decide) (step 123 _ _ (by decide) (step 125 _ _ (by decide) (step 91 _ _ (by decide) (step 93 _ _ (by decide) (step 60 _ _ (by decide) (step 62 _ _ (by decide) (step 44 _ _ (by decide) (step 59 _ _ (by decide) (step 58 _ _ (by decide)
  (step 43 _ _ (by decide) (step 45 _ _ (by decide) (step 42 _ _ (by decide) (step 47 _ _ (by decide) (step 37 _ _ (by decide) (step 61 _ _ (by decide) (step 94 [] B (by decide) (by simp))))))))))))))))))
 have ht2:∀ a b:UInt8,(c :: src.drop (p+1)).take 2=[a,b]→p+2≤src.length:=fun a b h=>by
  have:((c :: src.drop (p+1)).take 2).length=2:=by rw [h];rfl
  rw [List.length_take,List.length_cons,List.length_drop] at this
  omega
 by_cases h3:((p+1:Nat):Int)<(src.length:Int)
 ·rw [iP h3,iP ⟨by omega,by omega,by omega⟩]
  by_cases h4:(c :: src.drop (p+1)).take 2=[61,61]
  ·rw [iP h4,iP (Or.inl h4),iP (mH _ (by omega)),h4];rfl
  ·rw [iN h4]
   by_cases h5:(c :: src.drop (p+1)).take 2=[45,62]
   ·rw [iP h5,iP (Or.inr h5),iP (mH _ (by omega)),h5];rfl
   ·have hno:¬ ((c :: src.drop (p+1)).take 2=[61,61]∨(c :: src.drop (p+1)).take 2=[45,62]):=fun h=>h.elim h4 h5
    rw [iN h5,iN hno,← hfin]
    exact chain
 ·have hno:¬ ((c :: src.drop (p+1)).take 2=[61,61]∨(c :: src.drop (p+1)).take 2=[45,62]):=fun h=>h.elim (fun h=>by have:=ht2 _ _ h;omega) (fun h=>by have:=ht2 _ _ h;omega)
  rw [iN h3,iN hno,← hfin]
  exact chain
theorem qw(src:List UInt8)(k p q:Nat)(hpq:p≤q)(hq:q≤src.length)(h:blk false (src.drop p)=blk false (src.drop q)):fR (k+1) p (src.drop p)=fR (k+1) q (src.drop q):=by
 rw [gN,gN,h]
 have hb:=l3 false (src.drop q)
 have h1:(src.drop p).length=src.length - p:=List.length_drop
 have h2:(src.drop q).length=src.length - q:=List.length_drop
 cases e:blk false (src.drop q) with
 |nil=>rfl
 |cons c l =>
  rw [e] at hb
  simp only
  rw [show p+((src.drop p).length - (c :: l).length)=q+((src.drop q).length - (c :: l).length) by omega]
theorem mV(src:List UInt8)(hl:src.length≤100000)(l:List aa):∀ (k p:Nat),p+k=src.length →
  ∃ q:Nat,dX (fun x31=>fP src l x31) (p:Int)=some (l,(q:Int))∧p≤q∧q≤src.length∧blk true (src.drop p)=blk false (src.drop q)∧(p<src.length→(src.getD p 0).toNat≠10→p<q)
 |0,p,h=>by
  have:p=src.length:=by omega
  subst this
  refine ⟨src.length,cP ?_,by omega,by omega,by rw [List.drop_length];rfl,by omega⟩
  show fP _ _ _=_
  unfold fP
  rw [iN (iK _)]
 |k+1,p,h=>by
  have hp:p<src.length:=by omega
  have hb:fP src l (p:Int)=if (src.getD p 0).toNat=10 then some (.inr (l,(p:Int))) else some (.inl ((p+1:Nat):Int)):=by
   unfold fP
   rw [iP (ltI hp),iP (inI hp),tN,wr1 p (by omega)]
   by_cases hc:(src.getD p 0).toNat=10
   ·rw [iN (by omega),iP hc]
   ·rw [iP (by omega),iN hc]
  have hd:=mS src p hp
  by_cases hc:(src.getD p 0).toNat=10
  ·rw [iP hc] at hb
   refine ⟨p,cP hb,by omega,by omega,?_,fun _ h=>absurd hc h⟩
   rw [hd]
   unfold blk
   rw [iP hc,iP hc]
  ·rw [iN hc] at hb
   obtain ⟨q,h1,h2,h3,h4,_⟩:=mV src hl l k (p+1) (by omega)
   refine ⟨q,by rw [fj hb];exact h1,by omega,h3,?_,fun _ _=>by omega⟩
   rw [hd,← h4]
   conv=>lhs;unfold blk
   rw [iN hc,iP (Or.inl rfl)]
theorem qx(src:List UInt8)(hl:src.length≤100000):∀ (n p:Nat) (l:List aa),p≤src.length→src.length - p<n→l.length≤p →
  dX (fun (l18,x20)=>dV src l18 x20) (l,(p:Int))=some (match fR (src.length+1) p (src.drop p) with
   |.inl m=>.inl (l++m)
   |.inr f=>.inr ([],f)):=by
 intro n
 induction n with
 |zero=>intro p l _ h;omega
 |succ n ih =>
  intro p l hp hk hll
  rcases Nat.lt_or_ge p src.length with hlt|hge
  case inr =>
   have:p=src.length:=by omega
   subst this
   rw [List.drop_length,cP (o:=.inl l) (by
    show dV _ _ _=_
    unfold dV
    rw [iN (iK _)])]
   rw [gN]
   simp [blk]
  have hd:=mS src p hlt
  obtain ⟨c,hc⟩:∃ c,src.getD p 0=c:=⟨_,rfl⟩
  have e:blk false (c :: src.drop (p+1))=if c.toNat=10 then blk false (src.drop (p+1)) else if false=true∨tBl c then blk false (src.drop (p+1)) else if c.toNat=35 then blk true (src.drop (p+1)) else c :: src.drop (p+1):=rfl
  rw [hc] at hd
  have skip:∀ q:Nat,p<q→q≤src.length→dV src l p=some (.inl (l,(q:Int)))→blk false (src.drop p)=blk false (src.drop q) →
    dX (fun (l18,x20)=>dV src l18 x20) (l,(p:Int))=some (match fR (src.length+1) p (src.drop p) with
     |.inl m=>.inl (l++m)
     |.inr f=>.inr ([],f)):=fun q h1 h2 h3 h4=>by
   rw [fj (s':=(l,(q:Int))) h3,ih q l h2 (by omega) (by omega),qw src src.length p q (by omega) h2 h4]
  by_cases hb:c.toNat=10∨tBl c
  ·refine skip (p+1) (by omega) (by omega) ?_ ?_
   ·unfold dV
    rw [iP (ltI hlt),iP (inI hlt),tN,hc,wr1 p (by omega)]
    unfold tBl at hb
    by_cases h1:(c.toNat:Int)=32
    ·rw [iP h1]
    rw [iN h1]
    by_cases h2:(c.toNat:Int)=9
    ·rw [iP h2]
    rw [iN h2]
    by_cases h3:(c.toNat:Int)=10
    ·rw [iP h3]
    rw [iN h3,iP (by omega)]
   ·rw [hd,e]
    by_cases h1:c.toNat=10
    ·rw [iP h1]
    ·rw [iN h1,iP (Or.inr (hb.resolve_left h1))]
  have h10:c.toNat≠10:=fun h=>hb (.inl h)
  have hbl:¬ tBl c:=fun h=>hb (.inr h)
  rw [iN h10,iN (fun h=>h.elim (by simp) hbl)] at e
  by_cases h35:c.toNat=35
  ·rw [iP h35] at e
   obtain ⟨q,q1,q2,q3,q4,q5⟩:=mV src hl l (src.length - p) p (by omega)
   refine skip q (q5 hlt (by rw [hc];exact h10)) q3 ?_ ?_
   ·unfold dV
    rw [iP (ltI hlt),iP (inI hlt),tN,hc]
    unfold tBl at hbl
    rw [iN (by omega),iN (by omega),iN (by omega),iN (by omega),iP (by omega),q1]
    rfl
   ·rw [← q4,hd,e]
    conv=>rhs;unfold blk
    rw [iN h10,iP (Or.inl rfl)]
  rw [iN h35] at e
  have h1:=tI src hl p hlt l (by omega) (by rw [hc];exact ⟨h10,hbl,h35⟩)
  rw [gN,hd,e]
  simp only
  rw [hd] at h1
  rw [show p+((c :: src.drop (p+1)).length - (c :: src.drop (p+1)).length)=p by omega]
  cases ht:hN p (c :: src.drop (p+1)) with
  |inr er =>
   rw [ht] at h1
   rw [cP (o:=.inr ([],bl.mk er p)) h1]
  |inl t =>
   rw [ht] at h1
   simp only at h1 ⊢
   obtain ⟨t1,t2,t3⟩:=jX ht
   have hpos:0<t.text.length:=List.length_pos_iff.2 t2
   have hle:=t3.length_le
   rw [List.length_cons,List.length_drop] at hle
   have hdt:(c :: src.drop (p+1)).drop t.text.length=src.drop (p+t.text.length):=by rw [← hd,List.drop_drop]
   rw [fj (s':=(l++[t],((p+t.text.length:Nat):Int))) h1,ih (p+t.text.length) (l++[t]) (by omega) (by omega) (by simp;omega),hdt,
    nM src.length (src.length+1) _ _ (by rw [List.length_drop];omega) (by rw [List.length_drop];omega)]
   cases fR (src.length+1) (p+t.text.length) (src.drop (p+t.text.length)) with
   |inr f=>rfl
   |inl m=>simp
theorem sX(src:List UInt8)(hl:src.length≤100000):kV src=some (iz src):=by
 unfold kV iz
 by_cases h:src.length>12000
 ·rw [iP (by omega),iP h];rfl
 rw [iN (by omega),iN h]
 have h0:=qx src hl (src.length+1) 0 [] (by omega) (by omega) (by simp)
 rw [List.drop_zero] at h0
 simp only [Int.natCast_zero] at h0
 rw [h0]
 cases fR (src.length+1) 0 src with
 |inr f=>rfl
 |inl m=>rfl
theorem uw(p:Int):0≤IntKind.wrap .u64 p∧IntKind.wrap .u64 p<18446744073709551616:=by
 simp only [IntKind.wrap_u64];omega
theorem uwi{n:Int}(h:0≤n∧n<18446744073709551616):IntKind.wrap .u64 n=n:=by
 simp only [IntKind.wrap_u64];omega
theorem oL:∀ (k p:Nat) (s:List UInt8) (m:Nat) (L l':List aa),m≤s.length→fR k p s=.inl L→fR k p (s.take m)=.inl l' →
  l'.countP br≤(L.filter (fun t=>decide (t.at_<((p+m:Nat):Int)))).countP br
 |0,p,s,m,L,l',_,h,h'=>by cases h';simp
 |k+1,p,s,m,L,l',hm,h,h'=>by
  rw [gN] at h h'
  have hle:=l3 false s
  rw [pT] at h'
  cases hb:blk false s with
  |nil=>rw [hb] at h';simp only [List.take_nil] at h';cases h';simp
  |cons c l =>
   rw [hb] at h h' hle
   simp only at h
   cases hm':m - (s.length - (c :: l).length) with
   |zero=>rw [hm'] at h';simp only [List.take_zero] at h';cases h';simp
   |succ q =>
    rw [hm',List.take_succ_cons] at h'
    simp only at h'
    have hq:q+1≤(c :: l).length:=by omega
    have hlen:(c :: l.take q).length=q+1:=by rw [← List.take_succ_cons,List.length_take];omega
    have hpos:p+((s.take m).length - (c :: l.take q).length)=p+(s.length - (c :: l).length):=by rw [hlen,List.length_take];omega
    rw [hpos] at h'
    cases ht:hN (p+(s.length - (c :: l).length)) (c :: l) with
    |inr e=>rw [ht] at h;cases h
    |inl t =>
     rw [ht] at h
     simp only at h
     obtain ⟨hat,w,hw⟩:=mI ht
     by_cases hc:t.text.length≤q+1
     ·have ht':=sU ht hc
      rw [List.take_succ_cons] at ht'
      rw [ht'] at h'
      simp only at h'
      rw [← List.take_succ_cons,List.drop_take] at h'
      cases hs:fR k (p+(s.length - (c :: l).length)+t.text.length) ((c :: l).drop t.text.length) with
      |inr f=>rw [hs] at h;cases h
      |inl L1 =>
       rw [hs] at h
       cases hs':fR k (p+(s.length - (c :: l).length)+t.text.length) (((c :: l).drop t.text.length).take (q+1 - t.text.length)) with
       |inr f=>rw [hs'] at h';cases h'
       |inl l1 =>
        rw [hs'] at h'
        cases h;cases h'
        have ih:=oL k _ _ (q+1 - t.text.length) L1 l1 (by rw [List.length_drop];omega) hs hs'
        have hpm:p+(s.length - (c :: l).length)+t.text.length+(q+1 - t.text.length)=p+m:=by omega
        rw [hpm] at ih
        rw [List.filter_cons,iP (by rw [decide_eq_true_eq,hat];omega),List.countP_cons,List.countP_cons]
        omega
     ·cases ht':hN (p+(s.length - (c :: l).length)) (c :: l.take q) with
      |inr e=>rw [ht'] at h';cases h'
      |inl t' =>
       rw [ht'] at h'
       simp only at h'
       have ht2:hN (p+(s.length - (c :: l).length)) ((c :: l).take (q+1))=.inl t':=by rw [List.take_succ_cons];exact ht'
       obtain ⟨hb',hl'⟩:=tF ht (by omega) (by omega) ht2
       rw [List.drop_of_length_le (by omega)] at h'
       have h0:∀ k p,fR k p []=.inl []:=by intro k p;cases k<;>rfl
       rw [h0] at h'
       cases h'
       simp [hb']
theorem nX(src:List UInt8)(hl:src.length≤12000):fw src.length (iz src).1∧((iz src).2.code≠0→0≤(iz src).2.at_∧(iz src).2.at_≤src.length) ∧
  ((iz src).2.code=0→fR (src.length+1) 0 src=.inl (iz src).1):=by
 unfold iz
 rw [iN (by omega)]
 obtain ⟨h1,h2⟩:=nW (src.length+1) 0 src
 cases hs:fR (src.length+1) 0 src with
 |inl m =>
  obtain ⟨a,b⟩:=h1 m hs
  refine ⟨⟨by show m.length≤_;omega,fun t ht=>?_⟩,fun h=>absurd rfl h,fun _=>rfl⟩
  obtain ⟨b1,b2,b3⟩:=b t ht
  exact ⟨b1,by omega,by omega⟩
 |inr f =>
  obtain ⟨a,b,c⟩:=h2 f hs
  refine ⟨⟨Nat.zero_le _,fun t ht=>nomatch ht⟩,fun _=>⟨?_,?_⟩,fun h=>absurd h a⟩
  ·show 0≤f.at_;omega
  ·show f.at_≤_;omega
theorem lz(m:Nat)(src:List UInt8)(cut:Int):fX (m+440) src cut=some true:=by
 unfold fX
 rw [show m+440=(m+400)+40 from rfl,qs]
 simp only [bSq]
 rw [iP True.intro]
 by_cases h0:(src.length:Int)=0
 ·rw [iP h0]
 rw [iN h0]
 by_cases h1:(src.length:Int)>6000
 ·rw [iP h1]
 rw [iN h1]
 have hl:src.length≤6000:=by omega
 obtain ⟨g,gf,gs⟩:=nX src (by omega)
 obtain ⟨y2,hy2,hq⟩:=pS (fuel:=m+400+40) (src:=src) (l:=(iz src).1) (f:=(iz src).2) (by omega) (pd src (by omega)) g
 rw [hy2]
 simp only [bSq]
 by_cases hc:y2.2.code=0
 ·rw [iN (fun x=>x hc),sX src (by omega)]
  simp only [bSq]
  rcases hq with ⟨hf,rfl⟩|⟨hf,hq⟩
  ·exact absurd hc hf
  rcases hq with ⟨_,hn,c,b,hL,hb⟩|⟨h,_⟩
  ·generalize hR:iz src=R at *
   obtain ⟨L,f⟩:=R
   simp only at hL hn g gs hf
   subst hL
   have hlen:(c++[b]).length=c.length+1:=by simp
   have hg:=g.1
   rw [hlen] at hg
   have hi:IntKind.wrap .i64 (((c++[b]).length:Int) - 1)=(c.length:Int):=by rw [hlen,wr (by omega) (by omega)];omega
   simp only [hi,tN]
   have hlast:(c++[b]).getD c.length default=b:=by simp
   simp only [hlast]
   obtain ⟨_,hb1,hb2⟩:=g.2 b (by simp)
   have hw:IntKind.wrap .i64 (b.at_+1)=b.at_+1:=wr (by omega) (by omega)
   simp only [hw]
   have hu:IntKind.wrap .u64 (b.at_+1)=b.at_+1:=uwi (by omega)
   simp only [hu]
   obtain ⟨hm1,hm2⟩:=uw cut
   generalize IntKind.wrap .u64 cut=C at *
   have ht0:0≤C.tmod (b.at_+1):=Int.tmod_nonneg _ hm1
   have ht1:C.tmod (b.at_+1)<b.at_+1:=Int.tmod_lt_of_pos _ (by omega)
   generalize C.tmod (b.at_+1)=n at *
   have hwn:IntKind.wrap .i64 n=n:=wr (by omega) (by omega)
   simp only [hwn]
   obtain ⟨n,rfl⟩:=Int.eq_ofNat_of_zero_le ht0
   rw [iP ⟨⟨by omega,by rw [hlen];omega⟩,by omega⟩,iP ⟨by omega,by omega⟩]
   rw [tN]
   have hnl:n≤src.length:=by omega
   have htl:(src.take n).length=n:=by rw [List.length_take];omega
   obtain ⟨g',gf',gs'⟩:=nX (src.take n) (by omega)
   obtain ⟨y4,hy4,hq4⟩:=pS (fuel:=m+400+40) (src:=src.take n) (l:=(iz (src.take n)).1) (f:=(iz (src.take n)).2) (by omega) (pd _ (by omega)) g'
   rw [hy4]
   simp only [bSq]
   rw [htl] at gf' hq4 gs'
   by_cases hc4:y4.2.code=0
   ·rw [iN (fun x=>x hc4)]
    rcases hq4 with ⟨hf4,rfl⟩|⟨hf4,hq4⟩
    ·exact absurd hc4 hf4
    rcases hq4 with ⟨_,hn4,_⟩|⟨h,_⟩
    ·have hs1:=gs hf
     have hs2:=gs' hf4
     rw [nM (n+1) (src.length+1) 0 (src.take n) (by omega) (by omega)] at hs2
     have:=oL _ 0 src n _ _ hnl hs1 hs2
     rw [Nat.zero_add,List.filter_append,List.countP_append,List.filter_cons,iN (by rw [decide_eq_true_eq];omega),List.filter_nil,List.countP_nil] at this
     have h5:(c.filter (fun t=>decide (t.at_<((n:Nat):Int)))).countP br≤c.countP br:=List.Sublist.countP_le (List.filter_sublist)
     rw [List.countP_append,List.countP_singleton,iP hb] at hn
     rw [dT (show ((y4.1.nodes.length:Nat):Int)<(y2.1.nodes.length:Int) by omega)]
    ·exact absurd hc4 h
   ·rw [iP hc4]
    have hx:y4.1.nodes=[]∧0≤y4.2.at_∧y4.2.at_≤(n:Int):=by
     rcases hq4 with ⟨hf4,rfl⟩|⟨hf4,hq4⟩
     ·exact ⟨rfl,gf' hf4⟩
     ·rcases hq4 with ⟨h,_⟩|⟨_,h⟩
      ·exact absurd h hc4
      ·exact h
    rw [iP hx.2.1,iP hx.2.2,hx.1]
    rfl
  ·exact absurd hc h
 ·rw [iP hc]
theorem lb(src:List UInt8)(cut:Int)(_:okT src)(_:okI .i64 cut)(_:szS src+szI cut≤1048576):∃ fuel,fX fuel src cut=some true :=
 ⟨0+440,lz 0 src cut⟩
end Pam
