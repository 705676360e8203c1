/- Tokens: what a text's tokens are, and plain laws on them. No program in sight. -/
import Derived.Test.YtmlkpniimpahoaaGreatDoorRBase3
import Derived.Test.YtmlkpniimpahoaaGreatDoorRaFun1
import Derived.Test.YtmlkpniimpahoaaGreatDoorRWide1
import Derived.Lib.ItoaLen
set_option linter.all false
namespace Pam
open Go
def tSm(c:UInt8):Prop:=97≤c.toNat∧c.toNat≤122
def tDg(c:UInt8):Prop:=48≤c.toNat∧c.toNat≤57
instance (c:UInt8):Decidable (tSm c):=inferInstanceAs (Decidable (_∧_))
instance (c:UInt8):Decidable (tDg c):=inferInstanceAs (Decidable (_∧_))
def tAn(c:UInt8):Bool:=decide (tSm c∨tDg c)
def tBl(c:UInt8):Prop:=c.toNat=32∨c.toNat=9∨c.toNat=13
instance (c:UInt8):Decidable (tBl c):=inferInstanceAs (Decidable (_∨_))
def blk:Bool→Ω→Ω
 |_,[]=>[]
 |r,c :: l=>if c.toNat=10 then blk false l else if r=true∨tBl c then blk r l else if c.toNat=35 then blk true l else c :: l
theorem Cr(r:Bool)(s:Ω):(blk r s).length≤s.length:=by
 induction s generalizing r with
 |nil=>simp [blk]
 |cons c l ih =>
  unfold blk
  have h1:=ih false;have h2:=ih r;have h3:=ih true
  split
  ·simp;omega
  ·split
   ·simp;omega
   ·split
    ·simp;omega
    ·simp
theorem Cs(r:Bool)(s:Ω):blk r s=s.drop (s.length - (blk r s).length):=by
 induction s generalizing r with
 |nil=>simp [blk]
 |cons c l ih =>
  have key:∀ q,blk q l=(c :: l).drop ((c :: l).length - (blk q l).length):=by
   intro q
   have h1:=ih q;have h2:=Cr q l
   rw [List.length_cons,show l.length+1 - (blk q l).length=(l.length - (blk q l).length)+1 by omega,List.drop_succ_cons]
   exact h1
  unfold blk
  split
  ·exact key _
  ·split
   ·exact key _
   ·split
    ·exact key _
    ·simp
def qu:List Ω:=[[97,100,100],[97,110,100],[98,111,111,108],[99,97,108,108],[99,97,116],[100,105,118],[101,108,115,101],[101,113],[102,97,108,115,101],[102,105,108,108],[102,111,108,100],[105,102],[105,110,116],[108,101,115,115],[109,97,112],[109,97,120],[109,105,110],[109,111,100],[109,117,108],[110,101,103],[110,111,100,101],[110,111,116],[111,114],[112,114,101],[115,99,97,110],[115,108,105,99,101],[115,117,98],[116,104,101,110],[116,114,117,101],[118,97,114],[119,105,116,104],[120,111,114]]
def oU(s:Ω):Bool:=qu.contains s
def Ai:List Nat:=[40,41,123,125,91,93,60,62,44,59,58,43,45,42,47,37,61,94]
def Ct(n:Int)(w:Ω):Int:=w.foldl (fun n c=>10 * n+((c.toNat:Int) - 48)) n
def Dm(w:Ω):Option Int :=
 if w.length>18∨(w.length>1∧w.head?.map UInt8.toNat=some 48)∨¬ (∀ c∈w,tDg c) then none else some (Ct 0 w)
def zc(p:Nat)(s:Ω):ab ⊕ Int :=
 match s with
 |[]=>.inr 1
 |c :: l =>
  if tSm c then
   let w:=(c :: l).takeWhile tAn
   if oU w then .inl (ab.mk 1 p w 0) else if w.length>12 then .inr 3 else .inl (ab.mk 2 p w 0)
  else if tDg c then
   let w:=(c :: l).takeWhile tAn
   match Dm w with
   |some n=>.inl (ab.mk 3 p w n)
   |none=>.inr 2
  else if (c :: l).take 2=[61,61]∨(c :: l).take 2=[45,62] then .inl (ab.mk 4 p ((c :: l).take 2) 0)
  else if c.toNat∈Ai then .inl (ab.mk 4 p [c] 0)
  else .inr 1
theorem yo{c:UInt8}(h:tSm c∨tDg c):tAn c=true:=by simpa [tAn] using h
theorem Bt{p:Nat}{s:Ω}{t:ab}(h:zc p s=.inl t):t.at_=p∧t.text≠[]∧t.text <+: s:=by
 cases s with
 |nil=>simp [zc] at h
 |cons c l =>
  have tw:(c :: l).takeWhile tAn <+: c :: l:=List.takeWhile_prefix _
  have ne:∀ {c:UInt8},tAn c=true→(c :: l).takeWhile tAn≠[]:=by intro c h;rw [List.takeWhile_cons,iP h];simp
  unfold zc at h
  simp only at h
  split at h
  ·rename_i hc
   split at h
   ·cases h;exact ⟨rfl,ne (yo (.inl hc)),tw⟩
   ·split at h
    ·cases h
    ·cases h;exact ⟨rfl,ne (yo (.inl hc)),tw⟩
  ·split at h
   ·rename_i hc
    split at h
    ·cases h;exact ⟨rfl,ne (yo (.inr hc)),tw⟩
    ·cases h
   ·split at h
    ·cases h;exact ⟨rfl,by simp,List.take_prefix _ _⟩
    ·split at h
     ·cases h;exact ⟨rfl,by simp,⟨l,rfl⟩⟩
     ·cases h
def wE:Nat→Nat→Ω→List ab ⊕ ap
 |0,_,_=>.inl []
 |k+1,p,s =>
  match blk false s with
  |[]=>.inl []
  |c :: l =>
   match zc (p+(s.length - (c :: l).length)) (c :: l) with
   |.inr e=>.inr (ap.mk e ((p+(s.length - (c :: l).length):Nat):Int))
   |.inl t =>
    match wE k (p+(s.length - (c :: l).length)+t.text.length) ((c :: l).drop t.text.length) with
    |.inl m=>.inl (t :: m)
    |.inr f=>.inr f
theorem Aj(k p:Nat)(s:Ω):wE (k+1) p s=match blk false s with
  |[]=>.inl []
  |c :: l =>
   match zc (p+(s.length - (c :: l).length)) (c :: l) with
   |.inr e=>.inr (ap.mk e ((p+(s.length - (c :: l).length):Nat):Int))
   |.inl t =>
    match wE k (p+(s.length - (c :: l).length)+t.text.length) ((c :: l).drop t.text.length) with
    |.inl m=>.inl (t :: m)
    |.inr f=>.inr f:=rfl
theorem Cu(l:Ω)(i:Nat)(h:i<l.length):l.drop i=l.getD i 0 :: l.drop (i+1):=by
 rw [List.drop_eq_getElem_cons h]
 simp [List.getD,h]
theorem wr1(p:Nat)(h:p<1000000):IntKind.wrap .i64 ((p:Int)+1)=((p+1:Nat):Int):=wrs p oM
theorem sW(c:UInt8):jL (c.toNat:Int)=some (decide (tSm c)):=by
 unfold jL
 by_cases h:(c.toNat:Int)≥97
 ·rw [iP h];congr 1;exact decide_eq_decide.2 (by unfold tSm;omega)
 ·rw [iN h];congr 1;symm;rw [decide_eq_false_iff_not];unfold tSm;omega
theorem uA(c:UInt8):kQ (c.toNat:Int)=some (decide (tDg c)):=by
 unfold kQ
 by_cases h:(c.toNat:Int)≥48
 ·rw [iP h];congr 1;exact decide_eq_decide.2 (by unfold tDg;omega)
 ·rw [iN h];congr 1;symm;rw [decide_eq_false_iff_not];unfold tDg;omega
theorem wF(src:Ω)(hl:src.length≤100000):∀ (k p:Nat) (r:Bool),p+k=src.length →
  bD (fun (x5,b6)=>cy src x5 b6) ((p:Int),r)=some ((src.length - (blk r (src.drop p)).length:Nat):Int)
 |0,p,r,h=>by
  have:p=src.length:=by omega
  subst this
  rw [List.drop_length]
  refine gn ?_
  show cy _ _ _=_
  unfold cy
  rw [iN (bq _)]
  simp [blk]
 |k+1,p,r,h=>by
  have hp:p<src.length:=by omega
  have hd:=Cu src p hp
  have hdl:(src.drop (p+1)).length=src.length - (p+1):=List.length_drop
  obtain ⟨c,hc⟩:∃ c,src.getD p 0=c:=⟨_,rfl⟩
  rw [hc] at hd
  have e:blk r (c :: src.drop (p+1))=if c.toNat=10 then blk false (src.drop (p+1)) else if r=true∨tBl c then blk r (src.drop (p+1)) else if c.toNat=35 then blk true (src.drop (p+1)) else c :: src.drop (p+1):=rfl
  have stp:∀ q,cy src (p:Int) r=some (.inl ((p+1:Nat),q))→blk r (c :: src.drop (p+1))=blk q (src.drop (p+1)) →
    bD (fun (x5,b6)=>cy src x5 b6) ((p:Int),r)=some ((src.length - (blk r (src.drop p)).length:Nat):Int):=fun q h1 h2=>by
   rw [mn (s':=(((p+1:Nat):Int),q)) h1,wF src hl k (p+1) q oM,hd,h2]
  have hb:cy src (p:Int) r=if (c.toNat:Int)=10 then some (.inl ((p+1:Nat),false)) else if r=true∨tBl c then some (.inl ((p+1:Nat),r)) else if (c.toNat:Int)=35 then some (.inl ((p+1:Nat),true)) else some (.inr (p:Int)):=by
   unfold cy
   rw [iP (ltI hp),iP (inI hp),tN,hc]
   unfold dv eg
   rw [wr1 p oM]
   simp only [tN,hc]
   by_cases h1:(c.toNat:Int)=10
   ·rw [iP h1,iP h1]
   rw [iN h1,iN h1]
   by_cases h2:r=true
   ·rw [iP h2,iP h2,iP (Or.inl h2)]
   rw [iN h2]
   have key:∀ b:Bool,(b=true↔tBl c)→(if b=true then (some (.inl (((p+1:Nat):Int),r)):Option ((Int×Bool) ⊕ Int)) else if ((src.getD p 0).toNat:Int)=35 then some (.inl (((p+1:Nat):Int),true)) else some (.inr (p:Int))) =
     if r=true∨tBl c then some (.inl (((p+1:Nat):Int),r)) else if (c.toNat:Int)=35 then some (.inl (((p+1:Nat):Int),true)) else some (.inr (p:Int)):=by
    intro b hb
    rw [hc]
    by_cases hh:tBl c
    ·rw [iP (hb.2 hh),iP (Or.inr hh)]
    ·rw [iN (fun x=>hh (hb.1 x)),iN (show ¬ (r=true∨tBl c) from fun x=>x.elim h2 hh)]
   rw [hc] at key
   by_cases h3:(c.toNat:Int)=32
   ·rw [iP h3];exact key ((c.toNat:Int) == 32) (by rw [beq_iff_eq];unfold tBl;omega)
   rw [iN h3]
   by_cases h4:(c.toNat:Int)=9
   ·rw [iP h4];exact key ((c.toNat:Int) == 9) (by rw [beq_iff_eq];unfold tBl;omega)
   rw [iN h4]
   exact key ((c.toNat:Int) == 13) (by rw [beq_iff_eq];unfold tBl;omega)
  by_cases h1:c.toNat=10
  ·rw [iP h1] at e
   rw [iP oM] at hb
   exact stp false hb e
  rw [iN h1] at e
  rw [iN oM] at hb
  by_cases h2:r=true∨tBl c
  ·rw [iP h2] at e hb
   exact stp r hb e
  rw [iN h2] at e hb
  by_cases h3:c.toNat=35
  ·rw [iP h3] at e
   rw [iP oM] at hb
   exact stp true hb e
  rw [iN h3] at e
  rw [iN oM] at hb
  rw [gn (o:=(p:Int)) hb,hd,e,List.length_cons,hdl]
  congr 2;omega
theorem zd(src:Ω)(hl:src.length≤100000)(p:Nat)(hp:p≤src.length)(l:List ab) :
  gq src p l=some ((src.length - (blk false (src.drop p)).length:Nat):Int):=by
 unfold gq
 rw [wF src hl (src.length - p) p false oM]
 rfl
theorem ze(src:Ω)(hl:src.length≤100000):∀ (k p:Nat),p+k=src.length →
  bD (fun x4=>eY src x4) (p:Int)=some ((p+((src.drop p).takeWhile tAn).length:Nat):Int)
 |0,p,h=>by
  have:p=src.length:=by omega
  subst this
  rw [List.drop_length]
  refine gn ?_
  unfold eY
  rw [iN (bq _)];rfl
 |k+1,p,h=>by
  have hp:p<src.length:=by omega
  rw [Cu src p hp]
  have hb:eY src (p:Int)=if tAn (src.getD p 0)=true then some (.inl ((p+1:Nat):Int)) else some (.inr (p:Int)):=by
   unfold eY fU
   rw [iP (ltI hp),iP (inI hp),tN,wr1 p oM,sW,uA]
   simp only [bSq,decide_eq_true_eq]
   unfold tAn
   simp only [decide_eq_true_eq]
   by_cases h1:tSm (src.getD p 0)
   ·rw [iP h1,iP (Or.inl h1)]
   ·rw [iN h1]
    by_cases h2:tDg (src.getD p 0)
    ·rw [iP h2,iP (Or.inr h2)]
    ·rw [iN h2,iN (fun x=>x.elim h1 h2)]
  rw [List.takeWhile_cons]
  by_cases h1:tAn (src.getD p 0)=true
  ·rw [iP h1] at hb ⊢
   rw [mn hb,ze src hl k (p+1) oM,List.length_cons]
   congr 2;omega
  ·rw [iN h1] at hb ⊢
   rw [gn hb];rfl
theorem Ez(src:Ω)(hl:src.length≤100000)(p:Nat)(hp:p≤src.length)(l:List ab) :
  fl src p l=some ((src.drop p).takeWhile tAn,((p+((src.drop p).takeWhile tAn).length:Nat):Int)):=by
 unfold fl
 rw [ze src hl (src.length - p) p oM]
 simp only [bSq]
 unfold eX
 have tw:(src.drop p).takeWhile tAn <+: src.drop p:=List.takeWhile_prefix _
 have hle:=tw.length_le
 rw [List.length_drop] at hle
 rw [iP ⟨by omega,by omega,by omega⟩,tN,tN,List.drop_take,show p+((src.drop p).takeWhile tAn).length - p=((src.drop p).takeWhile tAn).length by omega,← List.prefix_iff_eq_take.1 tw]
theorem yp(w:Ω):m4 w=some (oU w):=by
 unfold m4 aT
 by_cases h:w∈qu
 ·have:oU w=true:=by unfold oU;rw [List.contains_iff_mem];exact h
  rw [this]
  unfold qu at h
  simp only [List.mem_cons,List.not_mem_nil,or_false] at h
  rcases h with rfl|rfl|rfl|rfl|rfl|rfl|rfl|rfl|rfl|rfl|rfl|rfl|rfl|rfl|rfl|rfl|rfl|rfl|rfl|rfl|rfl|rfl|rfl|rfl|rfl|rfl|rfl|rfl|rfl|rfl|rfl|rfl
  all_goals rfl
 ·have:oU w=false:=by unfold oU;rw [← Bool.not_eq_true,List.contains_iff_mem];exact h
  rw [this]
  have hn:∀ x,x∈qu→¬ w=x:=fun x hx e=>h (e ▸ hx)
  have hb:∀ x,x∈qu→(w == x)=false:=fun x hx=>by rw [beq_eq_false_iff_ne];exact hn x hx
  rw [iN (hn _ dM),iN (hn _ dM),iN (hn _ dM),iN (hn _ dM),iN (hn _ dM),iN (hn _ dM),iN (hn _ dM),iN (hn _ dM),iN (hn _ dM),iN (hn _ dM),iN (hn _ dM),iN (hn _ dM),iN (hn _ dM),iN (hn _ dM),iN (hn _ dM),iN (hn _ dM),iN (hn _ dM),iN (hn _ dM),iN (hn _ dM),iN (hn _ dM),iN (hn _ dM),iN (hn _ dM),iN (hn _ dM),iN (hn _ dM),iN (hn _ dM),iN (hn _ dM),iN (hn _ dM),iN (hn _ dM),iN (hn _ dM),iN (hn _ dM),iN (hn _ dM)]
  rw [hb _ dM]
  rfl
theorem vu:∀ (l:Ω) (acc:Nat),(∀ c∈l,tDg c)→∃ m:Nat,Go.Lib.decFrom acc l=some m∧(m:Int)=Ct acc l
 |[],acc,_=>⟨acc,rfl,rfl⟩
 |c :: l,acc,h=>by
  have hc:tDg c:=h c List.mem_cons_self
  have hc':48≤c.toNat∧c.toNat≤57:=hc
  obtain ⟨m,h1,h2⟩:=vu l (acc * 10+(c.toNat - 48)) (fun d hd=>h d (List.mem_cons_of_mem _ hd))
  refine ⟨m,?_,?_⟩
  ·unfold Go.Lib.decFrom Go.Lib.digitVal
   rw [iP hc']
   exact h1
  ·rw [h2]
   unfold Ct
   rw [List.foldl_cons]
   congr 1
   omega
theorem Cv(w:Ω)(hn:w≠[])(hl:w.length≤18)(h:∀ c∈w,tDg c):yR w=some (Ct 0 w):=by
 unfold yR
 rw [iP hl]
 cases w with
 |nil=>exact absurd rfl hn
 |cons c l =>
  have hc:48≤c.toNat∧c.toNat≤57:=h c List.mem_cons_self
  unfold Go.Lib.atoi
  have n1:(c == 45)=false:=by rw [beq_eq_false_iff_ne];intro e;subst e;revert hc;decide
  have n2:(c == 43)=false:=by rw [beq_eq_false_iff_ne];intro e;subst e;revert hc;decide
  simp only [n1,n2]
  obtain ⟨m,h1,h2⟩:=vu (c :: l) 0 h
  show (Go.Lib.decNat (c :: l)).map (fun m:Nat=>(m:Int))=_
  unfold Go.Lib.decNat
  rw [iN (by simp),h1,Option.map_some,h2]
  rfl
theorem AW(w:Ω):(∀ c∈w,tDg c)↔∀ i,i<w.length→tDg (w.getD i 0):=by
 constructor
 ·intro h i hi
  have:w.getD i 0=w[i]:=by simp [List.getD,hi]
  rw [this];exact h _ (List.getElem_mem hi)
 ·intro h c hc
  obtain ⟨i,hi,rfl⟩:=List.getElem_of_mem hc
  have:=h i hi
  have e:w.getD i 0=w[i]:=by simp [List.getD,hi]
  rwa [e] at this
theorem Bu(w:Ω)(hn:w≠[]):mt w=some (match Dm w with|some n=>(n,true)|none=>(0,false)):=by
 unfold mt
 unfold Dm
 by_cases h1:w.length>18
 ·rw [iP oM,iP (Or.inl h1)]
 rw [iN oM]
 have hj:it w=some (match (if ¬ ∀ c∈w,tDg c then none else some (Ct 0 w):Option Int) with|some n=>(n,true)|none=>(0,false)):=by
  unfold it
  rw [sV (body:=fun x4=>gA w x4) w.length (fun i=>if tDg (w.getD i 0) then none else some ((0:Int),false)) ()
   (by
    intro i hi
    show gA w i=_
    unfold gA
    rw [iP (ltI hi),iP (inI hi),tN,uA,wr1 i oM]
    simp only [bSq,decide_eq_true_eq]
    by_cases hd:tDg (w.getD i 0)
    ·rw [iP hd,iP hd]
    ·rw [iN hd,iN hd])
   (by
    show gA w w.length=_
    unfold gA
    rw [iN (bq _)])]
  simp only [bSq]
  by_cases ha:∀ c∈w,tDg c
  ·have hg:=(AW w).1 ha
   rw [Br (fun i hi=>by rw [iP (hg i hi)])]
   rw [iN (fun h=>h ha)]
   simp only [Sum.elim_inl]
   unfold jz mr
   rw [iP ⟨rfl,rfl⟩,Cv w hn oM ha]
   rfl
  ·rw [iP ha]
   rcases tY w.length (fun i=>if tDg (w.getD i 0) then none else some ((0:Int),false)) () with ⟨e,hall⟩|⟨i,z,hi,hf,e⟩
   ·exfalso
    refine ha ((AW w).2 fun i hi=>?_)
    have:=hall i hi
    split at this
    ·assumption
    ·cases this
   ·rw [e]
    split at hf
    ·cases hf
    ·simp only [sJ] at hf
     subst hf;rfl
 by_cases h2:w.length>1
 ·rw [iP oM,iP ⟨by omega,by omega⟩]
  cases w with
  |nil=>exact absurd rfl hn
  |cons c l =>
   by_cases h3:c.toNat=48
   ·rw [iP (show (((c :: l).getD 0 0).toNat:Int)=48 by simp [h3]),iP (Or.inr (Or.inl ⟨h2,by simp [h3]⟩))]
   ·rw [iN (show ¬ (((c :: l).getD 0 0).toNat:Int)=48 by simp;omega),hj]
    by_cases ha:∀ d∈c :: l,tDg d
    ·rw [iN (fun h=>h ha),iN (fun h=>h.elim h1 (fun h=>h.elim (fun h=>h3 (by simpa using h.2)) (fun h=>h ha)))]
    ·rw [iP ha,iP (Or.inr (Or.inr ha))]
 ·rw [iN oM,hj]
  by_cases ha:∀ d∈w,tDg d
  ·rw [iN (fun h=>h ha),iN (fun h=>h.elim h1 (fun h=>h.elim (fun h=>h2 h.1) (fun h=>h ha)))]
  ·rw [iP ha,iP (Or.inr (Or.inr ha))]
theorem xF(s l:Ω)(hl:l.length=2):gj s l=some (decide (s.take 2=l)):=by
 unfold gj fe
 by_cases h:(s.length:Int)≥(l.length:Int)
 ·rw [iP h,iP ⟨by omega,by omega⟩,hl]
  simp only [bSq]
  congr 1
  rw [Bool.eq_iff_iff]
  simp
 ·rw [iN h]
  simp only [bSq]
  congr 1;symm
  rw [decide_eq_false_iff_not]
  intro e
  have:(s.take 2).length=2:=by rw [e,hl]
  rw [List.length_take] at this
  omega
theorem Dn(src:Ω)(p:Nat)(hp:p<src.length)(l:List ab) :
  gQ src p l=some (if (src.drop p).take 2=[61,61]∨(src.drop p).take 2=[45,62] then (src.drop p).take 2 else if (src.getD p 0).toNat∈Ai then [src.getD p 0] else []):=by
 unfold gQ
 have b0:cW src p 0=if (src.drop p).take 2=[61,61] then some (.inr (.inr [61,61])) else some (.inl 1):=by
  unfold cW
  rw [iP dM,iP dM,iP ⟨by omega,by omega⟩,tN]
  show (gj (src.drop p) [61,61]).bind _=_
  rw [xF _ _ rfl]
  simp only [bSq,decide_eq_true_eq]
  rfl
 have b1:cW src p 1=if (src.drop p).take 2=[45,62] then some (.inr (.inr [45,62])) else some (.inl 2):=by
  unfold cW
  rw [iP dM,iP dM,iP ⟨by omega,by omega⟩,tN]
  show (gj (src.drop p) [45,62]).bind _=_
  rw [xF _ _ rfl]
  simp only [bSq,decide_eq_true_eq]
  rfl
 have b2:cW src p 2=some (.inr (.inl ())):=by
  unfold cW
  rw [iN dM]
 by_cases h1:(src.drop p).take 2=[61,61]
 ·rw [iP h1] at b0
  rw [gn b0,iP (Or.inl h1),h1];rfl
 rw [iN h1] at b0
 rw [mn b0]
 by_cases h2:(src.drop p).take 2=[45,62]
 ·rw [iP h2] at b1
  rw [gn b1,iP (Or.inr h2),h2];rfl
 rw [iN h2] at b1
 rw [mn b1,gn b2,iN (fun h=>h.elim h1 h2)]
 simp only [bSq,Sum.elim_inl]
 unfold fm
 rw [iP (inI hp),tN]
 obtain ⟨c,hc⟩:∃ c,src.getD p 0=c:=⟨_,rfl⟩
 rw [hc]
 have hw:c.toNat<128→UInt8.ofNat ((IntKind.wrap .i32 (c.toNat:Int)).toNat)=c∧0≤IntKind.wrap .i32 (c.toNat:Int)∧IntKind.wrap .i32 (c.toNat:Int)<128:=fun h=>by
  have:IntKind.wrap .i32 (c.toNat:Int)=(c.toNat:Int):=by rw [IntKind.wrap_i32];omega
  rw [this]
  refine ⟨?_,by omega,by omega⟩
  simp
 have hj:∀ b:Bool,(b=true→c.toNat<128)→aK src p b=some (if b=true then [c] else []):=fun b hb=>by
  unfold aK
  rw [tN,hc]
  by_cases h:b=true
  ·obtain ⟨w1,w2,w3⟩:=hw (hb h)
   rw [iP h,iP h,iP ⟨w2,w3⟩,w1]
  ·rw [iN h,iN h]
 have step:∀ (n:Int) (ns:List Nat) (X:Option Ω),0≤n→n<128→X=some (if c.toNat∈ns then [c] else []) →
   (if (c.toNat:Int)=n then aK src p ((c.toNat:Int) == n) else X)=some (if c.toNat∈n.toNat :: ns then [c] else []):=fun n ns X h0 h1 hX=>by
  by_cases h:(c.toNat:Int)=n
  ·rw [iP h,hj _ (fun _=>by omega),iP (eQ h),iP (by rw [List.mem_cons];left;omega)]
  ·rw [iN h,hX]
   congr 1
   have:(c.toNat∈n.toNat :: ns)↔c.toNat∈ns:=by
    rw [List.mem_cons]
    constructor
    ·rintro (h'|h')
     ·exact absurd oM h
     ·exact h'
    ·exact Or.inr
   simp only [this]
 have last:aK src p ((c.toNat:Int) == 94)=some (if c.toNat∈[94] then [c] else []):=by
  rw [hj _ (fun h=>by have:=beq_iff_eq.1 h;omega)]
  congr 1
  have:((c.toNat:Int) == 94)=true↔c.toNat∈[94]:=by rw [beq_iff_eq,List.mem_singleton];omega
  simp only [this]
 exact step 40 _ _ dM dM (step 41 _ _ dM dM (step 123 _ _ dM dM (step 125 _ _ dM dM (step 91 _ _ dM dM (step 93 _ _ dM dM (step 60 _ _ dM dM
  (step 62 _ _ dM dM (step 44 _ _ dM dM (step 59 _ _ dM dM (step 58 _ _ dM dM (step 43 _ _ dM dM (step 45 _ _ dM dM (step 42 _ _ dM dM
  (step 47 _ _ dM dM (step 37 _ _ dM dM (step 61 _ _ dM dM last))))))))))))))))
theorem EA(n:Nat)(h:n≤1000000):lQ n 40:=by
 unfold lQ
 have:maxLen=9223372036854775807:=rfl
 omega
theorem EB(src:Ω)(hl:src.length≤100000)(p:Nat)(hp:p<src.length)(l:List ab)(hll:l.length≤200000) :
  match zc p (src.drop p) with
  |.inl t=>gk src p l=some (0,((p+t.text.length:Nat):Int),l++[t])
  |.inr e=>e≠0∧∃ x,gk src p l=some (e,x,l):=by
 have hd:=Cu src p hp
 obtain ⟨c,hc⟩:∃ c,src.getD p 0=c:=⟨_,rfl⟩
 have hs:=Dn src p hp l
 have hr:=Ez src hl p oM l
 rw [hc] at hd hs
 have hone:gk src p l=(some (decide (tSm c))).bind fun y5=>if y5=true then ((fl src p l).bind fun y6=>(m4 y6.1).bind fun y7=>if y7=true then (bK p l y6.2 1 y6.1 0) else (if (y6.1.length:Int)>12 then (some (3,y6.2,l)) else (bK p l y6.2 2 y6.1 0))) else ((some (decide (tDg c))).bind fun y8=>if y8=true then ((fl src p l).bind fun y9=>(mt y9.1).bind fun y10=>if y10.2=true then (bK p l y9.2 3 y9.1 y10.1) else (some (2,y9.2,l))) else ((gQ src p l).bind fun y11=>if y11=([]:Ω) then (some (1,(p:Int),l)) else (bK p l (IntKind.wrap .i64 (p+(y11.length:Int))) 4 y11 0))):=by
  unfold gk
  rw [iP (inI hp),tN,hc,sW,uA]
 have hj:∀ x1 x2 s3 x4,bK (p:Int) l x1 x2 s3 x4=some (0,x1,l++[ab.mk x2 p s3 x4]):=fun x1 x2 s3 x4=>by
  unfold bK
  rw [iP (EA _ oM)];rfl
 have hlen:(src.drop p).length=src.length - p:=List.length_drop
 rw [hone,hr]
 simp only [bSq,decide_eq_true_eq,hj,yp]
 rw [hs]
 simp only [bSq]
 clear hone hr hs hj
 generalize hsd:src.drop p=s at *
 subst hd
 unfold zc
 simp only
 by_cases h1:tSm c
 ·rw [iP h1,iP h1]
  by_cases hw:oU ((c :: src.drop (p+1)).takeWhile tAn)=true
  ·rw [iP hw,iP hw]
  ·rw [iN hw,iN hw]
   by_cases h12:((c :: src.drop (p+1)).takeWhile tAn).length>12
   ·rw [iP h12,iP oM]
    exact ⟨by decide,_,rfl⟩
   ·rw [iN h12,iN oM]
 ·rw [iN h1,iN h1]
  by_cases h2:tDg c
  ·rw [iP h2,iP h2]
   have hne:(c :: src.drop (p+1)).takeWhile tAn≠[]:=by rw [List.takeWhile_cons,iP (yo (.inr h2))];simp
   rw [Bu _ hne]
   simp only [bSq]
   cases hn:Dm ((c :: src.drop (p+1)).takeWhile tAn) with
   |some n=>rfl
   |none=>exact ⟨by decide,_,rfl⟩
  ·rw [iN h2,iN h2]
   have hwr:∀ k:Nat,k≤2→IntKind.wrap .i64 ((p:Int)+(k:Int))=((p+k:Nat):Int):=fun k hk=>by rw [wr oM oM];omega
   have htk:((c :: src.drop (p+1)).take 2).length≤2:=by rw [List.length_take];omega
   by_cases h3:(c :: src.drop (p+1)).take 2=[61,61]∨(c :: src.drop (p+1)).take 2=[45,62]
   ·rw [iP h3,iP h3,iN (by simp),hwr _ htk]
   ·rw [iN h3,iN h3]
    by_cases h4:c.toNat∈Ai
    ·rw [iP h4,iP h4,iN (by simp)]
     have:=hwr [c].length (by simp)
     rw [this]
    ·rw [iN h4,iN h4,iP rfl]
     exact ⟨by decide,_,rfl⟩
theorem Bv(src:Ω)(hl:src.length≤100000):∀ (k p:Nat) (l:List ab),p≤src.length→src.length - p<k→l.length≤p →
  bD (fun (x19,l20)=>f9 src x19 l20) (((src.length - (blk false (src.drop p)).length:Nat):Int),l)=some (match wE k p (src.drop p) with
   |.inl m=>.inl ((src.length:Int),l++m)
   |.inr f=>.inr ([],f)):=by
 intro k
 induction k with
 |zero=>intro p l _ h;omega
 |succ k ih =>
  intro p l hp hk hll
  have hb:=Cr false (src.drop p)
  have hbd:=Cs false (src.drop p)
  have hlen:(src.drop p).length=src.length - p:=List.length_drop
  rw [Aj]
  cases e:blk false (src.drop p) with
  |nil =>
   simp only [List.length_nil,Nat.sub_zero]
   rw [gn (o:=.inl ((src.length:Int),l)) (by
    show f9 src src.length l=_
    unfold f9
    rw [iN (bq _)])]
   simp
  |cons c m =>
   simp only
   rw [e] at hb hbd
   have hcm:(c :: m).length=m.length+1:=rfl
   obtain ⟨q,hq⟩:∃ q,q=src.length - (c :: m).length:=⟨_,rfl⟩
   have hqp:p+((src.drop p).length - (c :: m).length)=q:=by omega
   have hdq:src.drop q=c :: m:=by
    rw [hbd,List.drop_drop,← hqp]
   have h1:=EB src hl q oM l oM
   rw [← hq,hqp]
   rw [hdq] at h1
   cases ht:zc q (c :: m) with
   |inr er =>
    rw [ht] at h1
    obtain ⟨hne,x,h1⟩:=h1
    rw [gn (o:=.inr ([],ap.mk er q)) (by
     show f9 src q l=_
     unfold f9
     rw [iP oM,h1]
     simp only [bSq]
     rw [iP hne])]
   |inl t =>
    rw [ht] at h1
    simp only at h1
    obtain ⟨t1,t2,t3⟩:=Bt ht
    have hpos:0<t.text.length:=List.length_pos_iff.2 t2
    have hle:=t3.length_le
    have hdt:src.drop (q+t.text.length)=(c :: m).drop t.text.length:=by rw [← List.drop_drop,hdq]
    rw [mn (s':=(((src.length - (blk false (src.drop (q+t.text.length))).length:Nat):Int),l++[t])) (by
     show f9 src q l=_
     unfold f9
     rw [iP oM,h1]
     simp only [bSq]
     rw [iN (by simp),zd src hl _ oM]
     rfl),ih (q+t.text.length) (l++[t]) oM oM (by simp;omega),hdt]
    simp only
    cases wE k (q+t.text.length) ((c :: m).drop t.text.length) with
    |inr f=>rfl
    |inl m2=>simp
def Cw(src:Ω):List ab×ap :=
 if src.length>12000 then ([],ap.mk 7 12000) else match wE (src.length+1) 0 src with
  |.inl m=>(m,ap.mk 0 0)
  |.inr f=>([],f)
theorem Do(src:Ω)(hl:src.length≤100000):n8 src=some (Cw src):=by
 unfold n8 Cw
 by_cases h:src.length>12000
 ·rw [iP oM,iP h]
 rw [iN oM,iN h]
 have hb:=zd src hl 0 oM []
 simp only [Int.natCast_zero] at hb
 rw [hb]
 simp only [bSq]
 rw [Bv src hl (src.length+1) 0 [] oM oM (by simp)]
 rw [List.drop_zero]
 cases wE (src.length+1) 0 src with
 |inr f=>rfl
 |inl m=>rfl
def ir(w:Ω):Bool:=decide (w≠[]∧w.length≤12∧(∃ c,w.head? = some c∧tSm c)∧oU w=false∧∀ i,i<w.length→tAn (w.getD i 0)=true)
theorem Cx(w:Ω):pH w=some (oU w):=by
 unfold pH
 have hb:∀ x:Int,kd w x=if x<(32:Int) then (if (0≤x∧x<(32:Int)) then (if qu.getD x.toNat default=w then (some (.inr (.inr true))) else (some (.inl (IntKind.wrap .i64 (x+1))))) else none) else (some (.inr (.inl ()))):=fun _=>rfl
 rw [sV (body:=fun x3=>kd w x3) 32 (fun i=>if qu.getD i default=w then some true else none) ()
  (by
   intro i hi
   show kd w i=_
   rw [hb,iP oM,iP ⟨by omega,by omega⟩,tN,wr1 i oM]
   by_cases h:qu.getD i default=w
   ·rw [iP h,iP h]
   ·rw [iN h,iN h])
  (by
   show kd w (32:Nat)=_
   rw [hb,iN oM])]
 simp only [bSq]
 rcases tY 32 (fun i=>if qu.getD i default=w then some true else none) () with ⟨e,hall⟩|⟨i,z,hi,hf,e⟩
 ·rw [e]
  simp only [Sum.elim_inl]
  unfold lE
  congr 1;symm
  unfold oU
  rw [← Bool.not_eq_true,List.contains_iff_mem]
  intro hm
  obtain ⟨i,hi,he⟩:=List.getElem_of_mem hm
  have hi':i<32:=hi
  have:=hall i hi'
  rw [iP (by simp only [List.getD,List.getElem?_eq_getElem hi,Option.getD_some];exact he)] at this
  cases this
 ·rw [e]
  split at hf
  ·rename_i hw
   simp only [sJ] at hf
   subst hf
   simp only [Sum.elim_inr]
   congr 1;symm
   unfold oU
   rw [List.contains_iff_mem,← hw]
   have hi':i<qu.length:=hi
   simp only [List.getD,List.getElem?_eq_getElem hi',Option.getD_some]
   exact List.getElem_mem hi'
  ·cases hf
theorem Dp(w:Ω)(hl:w.length≤100000):kW w=some (ir w):=by
 unfold ir
 unfold kW
 cases w with
 |nil=>rw [iP rfl];simp
 |cons c l =>
  rw [iN (by simp)]
  by_cases h1:((c :: l).length:Int)>12
  ·rw [iP h1];congr 1;symm;rw [decide_eq_false_iff_not];intro h;omega
  rw [iN h1,iP ⟨by omega,by simp⟩]
  rw [show (c :: l).getD 0 0=c from rfl,sW,yp]
  simp only [bSq,decide_eq_true_eq]
  by_cases h2:tSm c
  case neg=>rw [iN h2];congr 1;symm;rw [decide_eq_false_iff_not];rintro ⟨_,_,⟨d,hd,hs⟩,_⟩;simp at hd;subst hd;exact h2 hs
  rw [iP h2]
  by_cases h3:oU (c :: l)=true
  ·rw [iP h3];congr 1;symm;rw [decide_eq_false_iff_not];rintro ⟨_,_,_,h,_⟩;rw [h3] at h;cases h
  rw [iN h3]
  generalize hw:c :: l=w at *
  rw [sV (body:=fun x5=>iX w x5) w.length (fun i=>if tAn (w.getD i 0)=true then none else some false) ()
   (by
    intro i hi
    show iX w i=_
    unfold iX
    rw [iP (ltI hi),iP (inI hi),tN,sW,uA,wr1 i oM]
    simp only [bSq,decide_eq_true_eq]
    unfold tAn
    simp only [decide_eq_true_eq]
    by_cases g1:tSm (w.getD i 0)
    ·rw [iP g1,iP (Or.inl g1)]
    ·rw [iN g1]
     by_cases g2:tDg (w.getD i 0)
     ·rw [iP g2,iP (Or.inr g2)]
     ·rw [iN g2,iN (fun x=>x.elim g1 g2)])
   (by
    show iX w w.length=_
    unfold iX
    rw [iN (bq _)])]
  simp only [bSq]
  rcases tY w.length (fun i=>if tAn (w.getD i 0)=true then none else some false) () with ⟨e,hall⟩|⟨i,z,hi,hf,e⟩
  ·rw [e]
   simp only [Sum.elim_inl]
   unfold lz
   congr 1;symm
   rw [decide_eq_true_iff]
   refine ⟨by rw [← hw];simp,by omega,⟨c,by rw [← hw];rfl,h2⟩,by simpa using h3,fun i hi=>?_⟩
   have:=hall i hi
   split at this
   ·assumption
   ·cases this
  ·rw [e]
   split at hf
   ·cases hf
   ·rename_i hn
    simp only [sJ] at hf
    subst hf
    simp only [Sum.elim_inr]
    congr 1;symm
    rw [decide_eq_false_iff_not]
    rintro ⟨_,_,_,_,h⟩
    exact hn (h i hi)
theorem Cy(w:Ω):iu w=kW w:=by
 unfold iu kW
 by_cases h:w=[]
 ·rw [iP h,iP (by rw [h];decide)]
 ·have:0<w.length:=List.length_pos_iff.2 h
  rw [iN h,iN oM,yp,Cx]
  rfl
theorem zf(w:Ω):kW w=some (ir w):=by
 by_cases h:w.length≤100000
 ·exact Dp w h
 ·have h1:ir w=false:=by unfold ir;exact dF (fun k=>by omega)
  rw [h1]
  unfold kW
  rw [iN (by rintro rfl;simp at h),iP oM]
theorem oj(w:Ω):iu w=some (ir w):=by rw [Cy,zf]
def wf(f:ap)(at_ e:Int):ap:=if f.code=0∧¬ e=0 then ap.mk e at_ else f
def sq(a b:Int):Int:=if a=0 then b else a
theorem iK(f:ap)(at_ a b:Int):wf (wf f at_ a) at_ b=wf f at_ (sq a b):=by
 unfold wf sq
 by_cases h1:f.code=0<;>by_cases h2:a=0<;>by_cases h3:b=0<;>simp [h1,h2,h3]
theorem zg(f:ap)(at_:Int):wf f at_ 0=f:=by simp [wf]
theorem Dq(f:ap)(at_ e:Int):(wf f at_ e).code=0↔f.code=0∧e=0:=by
 unfold wf
 split
 ·rename_i h;simp [h.2]
 ·rename_i h;constructor
  ·intro k;refine ⟨k,?_⟩;by_cases e0:e=0;exact e0;exact absurd ⟨k,e0⟩ h
  ·exact fun k=>k.1
def fsF{T:Type}(F:T→Int):List T→Int
 |[]=>0
 |x :: l=>sq (F x) (fsF F l)
theorem F4(a:Int):sq a 0=a:=by unfold sq;split<;>simp_all
def pr(f:ap):Int×Int:=(f.code,f.at_)
theorem hQ(b:Bool)(c:Int)(f:ap)(a:Int)(hc:¬ c=0):aw b c (ao.mk f a)=some (pr (wf f a (if b=true then c else 0))):=by
 unfold aw wf pr
 by_cases h1:b=true
 ·by_cases h2:f.code=0<;>simp [h1,h2,hc]
 ·simp [h1]
theorem pM(s:Ω)(f:ap)(a:Int):br s (ao.mk f a)=some (pr (wf f a (if ir s=true then 0 else 3))):=by
 unfold br
 rw [zf,bSq,hQ _ _ _ _ dM]
 cases ir s<;>rfl
theorem pm{T:Type}[Inhabited T](l:List T)(F:T→Int)(at_:Int){body:Int×Int×Int→Option ((Int×Int×Int) ⊕ (Int×Int))}(f0:ap)
  (hb:∀ (i:Nat) (f:ap),i<l.length→f.code=0→body (f.code,f.at_,(i:Int))=some (.inl ((wf f at_ (F (l.getD i default))).code,(wf f at_ (F (l.getD i default))).at_,((i+1:Nat):Int))))
  (hs:∀ (i:Nat) (f:ap),i<l.length→¬ f.code=0→body (f.code,f.at_,(i:Int))=some (.inr (pr f)))
  (he:∀ (f:ap),body (f.code,f.at_,(l.length:Int))=some (.inr (pr f))) :
  bD body (f0.code,f0.at_,0)=some (pr (wf f0 at_ (fsF F l))):=by
 have key:∀ (k i:Nat) (f:ap),i+k=l.length→bD body (f.code,f.at_,(i:Int))=some (pr (wf f at_ (fsF F (l.drop i)))):=by
  intro k
  induction k with
  |zero =>
   intro i f hi
   obtain rfl:i=l.length:=by omega
   rw [dW,he,List.drop_length]
   simp only [fsF,zg]
  |succ k ih =>
   intro i f hi
   have hlt:i<l.length:=by omega
   have hd:l.drop i=l.getD i default :: l.drop (i+1):=by
    rw [List.drop_eq_getElem_cons hlt];simp [List.getD,hlt]
   by_cases hc:f.code=0
   ·rw [dW,hb i f hlt hc]
    simp only
    rw [ih (i+1) _ oM,iK,hd]
    rfl
   ·rw [dW,hs i f hlt hc]
    simp only
    congr 1
    unfold wf
    rw [iN (fun k=>hc k.1)]
 exact key l.length 0 f0 oM
theorem nN{T:Type}[Inhabited T](l:List T)(F:T→Int){body:Int→Option (Int ⊕ (Unit ⊕ Int))}
  (hb:∀ (i:Nat),i<l.length→body i=some (if F (l.getD i default)=0 then .inl ((i+1:Nat):Int) else .inr (.inr (F (l.getD i default)))))
  (he:body l.length=some (.inr (.inl ()))):bD body 0=some (if fsF F l=0 then .inl () else .inr (fsF F l)):=by
 have key:∀ (k i:Nat),i+k=l.length→bD body (i:Int)=some (if fsF F (l.drop i)=0 then .inl () else .inr (fsF F (l.drop i))):=by
  intro k
  induction k with
  |zero =>
   intro i hi
   obtain rfl:i=l.length:=by omega
   rw [dW,he,List.drop_length]
   simp [fsF]
  |succ k ih =>
   intro i hi
   have hlt:i<l.length:=by omega
   have hd:l.drop i=l.getD i default :: l.drop (i+1):=by
    rw [List.drop_eq_getElem_cons hlt];simp [List.getD,hlt]
   rw [dW,hb i hlt,hd]
   by_cases h:F (l.getD i default)=0
   ·rw [iP h]
    simp only
    rw [ih (i+1) oM]
    simp only [fsF,sq,h,if_true]
   ·rw [iN h]
    simp only [fsF,sq,h,if_false]
 exact key l.length 0 oM
theorem uB(e:Int):((some (if e=0 then Sum.inl () else Sum.inr e):Option (Unit ⊕ Int)).bind (Sum.elim (fun _=>some 0) (fun z=>some z)))=some e:=by
 by_cases h:e=0<;>simp [h]
def uC(t:ah):Int:=if t.n≤-1000000000000000000∨1000000000000000000≤t.n then 2 else if t.name=[]∨ir t.name=true then 0 else 3
def iL(s:List ah):Int:=if s.length=0 then 4 else if s.length>30 then 7 else fsF uC s
def Bw(t:gK):Int:=sq (if t.elem=105∨t.elem=98 then 0 else 10) (if t.n.length>0 then iL t.n else 0)
def xG(d:ax):Int:=sq (if ir d.name=true then 0 else 3) (Bw d.t)
def fh(l:List ax):Int:=if l.length>30 then 7 else fsF xG l
theorem wG(s:List ah)(hs:s.length≤9000000)(f:ap)(a:Int):fL s (ao.mk f a)=some (pr (wf f a (iL s))):=by
 unfold fL
 rw [hQ _ _ _ _ dM,bSq]
 simp only [pr]
 rw [hQ _ _ _ _ dM,bSq]
 simp only [pr]
 rw [iK]
 rw [pm s uC a (body:=fun (x9,x10,x11)=>cF s (ao.mk f a) x9 x10 x11) _
  (fun i f' hi hc => by
   show cF s (ao.mk f a) f'.code f'.at_ i=_
   unfold cF
   rw [iP (ltI hi),iP hc,iP (inI hi),tN]
   generalize ht:s.getD i default=t
   have j1:∀ g:ap,dI s (ao.mk f a) i g.code g.at_=some (.inl ((wf g a (if t.name=[]∨ir t.name=true then 0 else 3)).code,(wf g a (if t.name=[]∨ir t.name=true then 0 else 3)).at_,((i+1:Nat):Int))):=by
    intro g
    unfold dI
    rw [tN,ht,wrs i oM]
    by_cases h:t.name=[]
    ·rw [iP h,iP (Or.inl h),zg]
    ·rw [iN h,pM]
     simp only [bSq,pr,h,false_or]
   have step:∀ e:Int,((some (pr (wf f' a e)):Option (Int×Int)).bind fun y=>dI s (ao.mk f a) i y.1 y.2) =
     some (.inl ((wf f' a (sq e (if t.name=[]∨ir t.name=true then 0 else 3))).code,(wf f' a (sq e (if t.name=[]∨ir t.name=true then 0 else 3))).at_,((i+1:Nat):Int))):=by
    intro e
    rw [bSq]
    simp only [pr]
    rw [j1,iK]
   by_cases h1:t.n≤-1000000000000000000
   ·rw [iP h1,hQ _ _ _ _ dM,step]
    simp only [uC,h1,true_or,if_true,sq]
    simp
   ·rw [iN h1,hQ _ _ _ _ dM,step]
    by_cases h2:1000000000000000000≤t.n
    ·simp only [uC,h1,h2,ge_iff_le,decide_true,or_true,if_true,sq];simp
    ·simp only [uC,h1,h2,ge_iff_le,decide_false,or_self,if_false,sq];simp)
  (fun i f' hi hc => by
   show cF s (ao.mk f a) f'.code f'.at_ i=_
   unfold cF
   rw [iP (ltI hi),iN hc];rfl)
  (fun f' => by
   show cF s (ao.mk f a) f'.code f'.at_ s.length=_
   unfold cF
   rw [iN (bq _)];rfl)]
 rw [bSq,iK]
 congr 3
 unfold iL sq
 by_cases h1:s.length=0
 ·simp [h1]
 ·by_cases h2:s.length>30
  ·have:(30:Int)<s.length:=by omega
   have h3:¬ s=[]:=by rintro rfl;simp at h1
   simp [h3,h2,this]
  ·have:¬ (30:Int)<s.length:=by omega
   have h3:¬ s=[]:=by rintro rfl;simp at h1
   simp [h3,h2,this]
theorem Dr(t:gK)(hs:t.n.length≤9000000)(f:ap)(a:Int):jM t (ao.mk f a)=some (pr (wf f a (Bw t))):=by
 have j1:∀ (g:ap),eW t (ao.mk f a) g.code g.at_=some (pr (wf g a (if t.n.length>0 then iL t.n else 0))):=by
  intro g
  unfold eW
  by_cases h:t.n.length>0
  ·rw [iP oM,iP h,wG _ hs];rfl
  ·rw [iN oM,iN h,zg];rfl
 unfold jM
 by_cases h:t.elem=105
 ·rw [iN (by simp [h]),hQ _ _ _ _ dM,bSq]
  simp only [pr]
  rw [j1,iK]
  simp [Bw,h,sq,pr]
 ·rw [iP h,hQ _ _ _ _ dM,bSq]
  simp only [pr]
  rw [j1,iK]
  by_cases h2:t.elem=98<;>simp [Bw,h,h2,pr]
theorem u7(l:List ax)(hl:l.length≤9000000)(hd:∀ d∈l,d.t.n.length≤9000000)(f:ap)(a:Int):fg l (ao.mk f a)=some (pr (wf f a (fh l))):=by
 unfold fg
 rw [hQ _ _ _ _ dM,bSq]
 simp only [pr]
 rw [pm l xG a (body:=fun (x8,x9,x10)=>cx l (ao.mk f a) x8 x9 x10) _
  (fun i f' hi hc => by
   show cx l (ao.mk f a) f'.code f'.at_ i=_
   unfold cx
   have hm:l.getD i default∈l:=by simp [List.getD,hi]
   rw [iP (ltI hi),iP hc,iP (inI hi),tN,pM,bSq]
   simp only [pr]
   rw [Dr _ (hd _ hm),bSq,iK,wrs i oM]
   rfl)
  (fun i f' hi hc => by
   show cx l (ao.mk f a) f'.code f'.at_ i=_
   unfold cx
   rw [iP (ltI hi),iN hc];rfl)
  (fun f' => by
   show cx l (ao.mk f a) f'.code f'.at_ l.length=_
   unfold cx
   rw [iN (bq _)];rfl)]
 rw [bSq,iK]
 congr 3
 unfold fh sq
 by_cases h2:l.length>30
 ·have:(30:Int)<l.length:=by omega
  simp [h2,this]
 ·have:¬ (30:Int)<l.length:=by omega
  simp [h2,this]
theorem wH(s:List ah)(hs:s.length≤9000000):ke s=some (iL s):=by
 unfold ke iL
 by_cases h1:s.length=0
 ·rw [iP oM,iP h1]
 ·rw [iN oM,iN h1]
  by_cases h2:s.length>30
  ·rw [iP oM,iP h2]
  ·rw [iN oM,iN h2,nN s uC (fun i hi=>by
    unfold kE
    rw [iP (ltI hi),iP (inI hi),tN,oj,wrs i oM]
    generalize s.getD i default=t
    unfold uC
    by_cases k1:t.n≤-1000000000000000000
    ·simp [k1]
    ·by_cases k2:1000000000000000000≤t.n
     ·simp [k1,k2]
     ·by_cases k3:t.name=[]
      ·simp [k1,k2,k3]
      ·cases k4:ir t.name<;>simp [k1,k2,k3]) (by unfold kE;rw [iN (bq _)])]
   exact uB _
theorem u9(l:List ax)(hl:l.length≤9000000)(hd:∀ d∈l,d.t.n.length≤9000000):kF l=some (fh l):=by
 unfold kF fh
 by_cases h2:l.length>30
 ·rw [iP oM,iP h2]
 ·rw [iN oM,iN h2,nN l xG (fun i hi=>by
   unfold jT
   have hm:l.getD i default∈l:=by simp [List.getD,hi]
   have hn:=hd _ hm
   have j2:gm l i=some (if (if (l.getD i default).t.n.length>0 then iL (l.getD i default).t.n else 0)=0 then .inl ((i+1:Nat):Int) else .inr (.inr (if (l.getD i default).t.n.length>0 then iL (l.getD i default).t.n else 0))):=by
    unfold gm
    rw [tN,wrs i oM]
    generalize l.getD i default=d at hn ⊢
    by_cases h:d.t.n.length>0
    ·rw [iP oM,wH _ hn,bSq,iP h]
     by_cases e:iL d.t.n=0<;>simp [e]
    ·rw [iN oM,iN h];simp
   rw [iP (ltI hi),iP (inI hi),j2,tN,oj,bSq]
   generalize l.getD i default=d
   unfold xG Bw sq
   cases k1:ir d.name
   ·simp
   ·by_cases k2:d.t.elem=105
    ·simp [k2]
    ·by_cases k3:d.t.elem=98<;>simp [k2,k3]) (by unfold jT;rw [iN (bq _)])]
  exact uB _
def mX(l:List ax):Prop:=l.length≤9000000∧∀ d∈l,d.t.n.length≤9000000
def rG(l:List (List ah)):Prop:=l.length≤9000000∧∀ d∈l,d.length≤9000000
theorem ot{l:List ae}{x:ae}(h:x∈l):x.sz≤ae.szs l:=by
 have h1:=ae.szs_eq l
 have:=iO (f:=ae.sz) h
 omega
theorem ou(l:List ae):l.length≤ae.szs l:=by
 have h1:=ae.szs_eq l
 have:=ef ae.sz_pos l
 omega
theorem uD(x:ah):1≤x.sz:=ah.sz_pos x
theorem wJ{l:List (List ah)}(h:szL (szL ah.sz) l≤9000000):rG l:=by
 refine ⟨?_,fun d hd=>?_⟩
 ·have:=ef (f:=szL ah.sz) (fun x=>by have:=ef uD x;omega) l;omega
 ·have:=iO (f:=szL ah.sz) hd
  have:=ef uD d
  omega
theorem vc{x:ae}(h:x.sz≤9000000):rG x.s∧ae.szs x.l+1<x.sz:=by
 have h1:=ae.sz_eq x
 have h2:=ae.szs_eq x.l
 simp only [szI] at h1
 exact ⟨wJ oM,by omega⟩
def F5(p:TEq):Prop:=p.names.length≤9000000∧rG p.s∧ae.szs p.e≤9000000
def FI(l:List TEq):Prop:=l.length≤9000000∧∀ q∈l,F5 q
def EC(x:aJ):Prop:=x.sizes.length≤9000000∧mX x.in_∧mX x.out_∧mX x.local_∧FI x.eqs
def ED(p:aD):Prop:=p.nodes.length≤9000000∧∀ x∈p.nodes,EC x
section
variable {α:Type} {p q:Prop} {A B:α}
end
theorem qh{n b:Nat}(h:n≤9000000)(hb:b≤1000):lQ n b:=by
 unfold lQ maxLen
 have:n * b≤9000000 * 1000:=Nat.mul_le_mul h hb
 omega
theorem qU{T:Type}[Inhabited T](l0:List T)(hl:l0.length≤9000000 - 1){body:List T×Int→Option ((List T×Int) ⊕ List T)}
  (hb:∀ i:Nat,i<l0.length→body (l0.take i,(i:Int))=some (.inl (l0.take i++[l0.getD i default],IntKind.wrap .i64 ((i:Int)+1))))
  (he:body (l0,(l0.length:Int))=some (.inr l0)):bD body ([],0)=some l0:=by
 have key:∀ (k i:Nat),i+k=l0.length→bD body (l0.take i,(i:Int))=some l0:=by
  intro k
  induction k with
  |zero =>
   intro i hi
   have:i=l0.length:=by omega
   subst this
   rw [List.take_length]
   exact gn he
  |succ k ih =>
   intro i hi
   rw [mn (hb i oM),wrs i oM,← wI l0 oM]
   exact ih (i+1) oM
 simpa using key l0.length 0 oM
theorem sD{T:Type}(l:List T){i:Nat}(h:i<l.length):(l.take i).length=i:=by simp;omega
theorem uE(l:List Ω)(h:l.length≤8000000):lC l=some l:=by
 unfold lC;rw [iP (qh oM oM)]
theorem rH(l:List ax)(h:mX l)(h2:l.length≤8000000):kc l=some l:=by
 unfold kc
 rw [qU l oM (fun i hi=>by
  show gS l (l.take i) i=_
  unfold gS
  rw [iP (ltI hi),iP (inI hi),tN,iP (qh (h.2 _ (bm hi)) oM),sD l hi,iP (qh oM oM)]
  rfl) (by show gS l l _=_;unfold gS;rw [iN (bq _)])]
 rfl
theorem uF(l:List (List ah))(h:rG l)(h2:l.length≤8000000):lD l=some l:=by
 unfold lD
 rw [qU l oM (fun i hi=>by
  show gT l (l.take i) i=_
  unfold gT
  rw [iP (ltI hi),tN,iP ⟨inI hi,qh (h.2 _ (bm hi)) oM⟩,sD l hi,iP (qh oM oM)]
  rfl) (by show gT l l _=_;unfold gT;rw [iN (bq _)])]
 rfl
theorem Ak{x:ae}(h:x.sz≤8000000):x.s.length≤8000000:=by
 have h1:=ae.sz_eq x
 have:=ef (f:=szL ah.sz) (fun x=>by have:=ef uD x;omega) x.s
 omega
theorem uG:∀ (n:Nat) (l:List ae),ae.szs l<n→ae.szs l≤8000000→fE n l=some l
 |0,_,h,_=>by omega
 |n+1,l,h,hs=>by
  have hlen:=ou l
  show lm (fE n) l=_
  unfold lm
  rw [qU l oM (fun i hi=>by
   show gU (fE n) l (l.take i) i=_
   unfold gU
   rw [iP (ltI hi),iP (inI hi),tN]
   obtain ⟨a,ha⟩:∃ a,a=l.getD i default:=⟨_,rfl⟩
   have hm:a∈l:=by rw [ha];exact bm hi
   have hsz:=ot hm
   obtain ⟨e1,e2⟩:=vc (x:=a) oM
   rw [← ha,uF _ e1 (Ak oM),uG n a.l oM oM]
   simp only [bSq]
   rw [sD l hi,iP (qh oM oM)]
   clear ha hm hsz e1 e2
   cases a;rfl) (by show gU (fE n) l l _=_;unfold gU;rw [iN (bq _)])]
  rfl
structure tz (p:aD):Prop where
 nodes:p.nodes.length≤8000000
 names:∀ x∈p.nodes,x.sizes.length≤8000000
 decls:∀ x∈p.nodes,(mX x.in_∧x.in_.length≤8000000)∧(mX x.out_∧x.out_.length≤8000000)∧(mX x.local_∧x.local_.length≤8000000)
 eqs:∀ x∈p.nodes,x.eqs.length≤8000000∧∀ q∈x.eqs,q.names.length≤8000000∧(rG q.s∧q.s.length≤8000000)∧ae.szs q.e≤8000000
theorem vN(s:Ω):1≤szS s:=by unfold szS;omega
theorem uH(x:List ah):1≤szL ah.sz x:=by have:=ef uD x;omega
theorem tZ{l:List ax}(h:szL ax.sz l≤8000000):mX l∧l.length≤8000000:=by
 have:=ef ax.sz_pos l
 refine ⟨⟨by omega,fun d hd=>?_⟩,by omega⟩
 have h1:=iO (f:=ax.sz) hd
 have h2:=ef uD d.t.n
 have h3:d.sz=szS d.name+d.t.sz+1:=by unfold ax.sz;omega
 have h4:d.t.sz=szI d.t.elem+szL ah.sz d.t.n+1:=by unfold gK.sz;omega
 omega
theorem wK{p:aD}(h:p.sz≤1048576):tz p:=by
 have hp:p.sz=szL aJ.sz p.nodes+1:=by unfold aD.sz;omega
 have hn:=ef aJ.sz_pos p.nodes
 have node:∀ x∈p.nodes,szL szS x.sizes+szL ax.sz x.in_+szL ax.sz x.out_+szL ax.sz x.local_+szL TEq.sz x.eqs≤1048576:=fun x hx=>by
  have h1:=iO (f:=aJ.sz) hx
  have h2:x.sz=szS x.name+szI x.at_+szL szS x.sizes+szL ax.sz x.in_+szL ax.sz x.out_+szL ax.sz x.local_+szL TEq.sz x.eqs+1:=by unfold aJ.sz;omega
  omega
 refine ⟨by omega,fun x hx=>?_,fun x hx=>?_,fun x hx=>⟨?_,fun q hq=>?_⟩⟩
 ·have h1:=node x hx
  have h2:=ef vN x.sizes
  omega
 ·have h1:=node x hx
  exact ⟨tZ oM,tZ oM,tZ oM⟩
 ·have h1:=node x hx
  have h2:=ef TEq.sz_pos x.eqs
  omega
 ·have h1:=node x hx
  have h2:=iO (f:=TEq.sz) hq
  have h3:q.sz=szI q.at_+szL szS q.names+szS q.node+szL (szL ah.sz) q.s+szL ae.sz q.e+1:=by unfold TEq.sz;omega
  have h4:=ef vN q.names
  have h5:=ae.szs_eq q.e
  have h6:=ef (f:=szL ah.sz) uH q.s
  exact ⟨by omega,⟨wJ oM,by omega⟩,by omega⟩
theorem tz.ok{p:aD}(h:tz p):ED p:=⟨by have:=h.nodes;omega,fun x hx=>⟨by have:=h.names x hx;omega,(h.decls x hx).1.1,(h.decls x hx).2.1.1,(h.decls x hx).2.2.1,by have:=(h.eqs x hx).1;omega,fun q hq=>by
 obtain ⟨h1,h2,h3⟩:=(h.eqs x hx).2 q hq
 exact ⟨by omega,h2.1,by omega⟩⟩⟩
theorem Ds(n:Nat)(p:aD)(h:tz p)(hn:9000000<n):ln n p=some p:=by
 unfold ln
 rw [qU p.nodes (by have:=h.nodes;omega) (fun i hi=>by
  show fN n p (p.nodes.take i) i=_
  have hm:=bm hi
  obtain ⟨d1,d2,d3⟩:=h.decls _ hm
  obtain ⟨q1,q2⟩:=h.eqs _ hm
  unfold fN
  rw [iP (ltI hi),iP (inI hi),tN,uE _ (h.names _ hm),rH _ d1.1 d1.2,rH _ d2.1 d2.2,rH _ d3.1 d3.2]
  simp only [bSq]
  rw [qU (p.nodes.getD i default).eqs oM (fun j hj=>by
   show fM n p i ((p.nodes.getD i default).eqs.take j) j=_
   have hq:=bm hj
   obtain ⟨r1,r2,r3⟩:=q2 _ hq
   unfold fM qp
   rw [tN,iP (ltI hj),iP (inI hj),tN,uE _ r1,uF _ r2.1 r2.2,uG n _ oM r3]
   simp only [bSq]
   rw [sD _ hj,iP (qh oM oM)]
   rfl) (by show fM n p i _ _=_;unfold fM;rw [tN,iN (bq _)])]
  simp only [bSq]
  unfold gV jk
  have:=h.nodes
  rw [sD _ hi,iP (qh oM oM),tN]
  rfl) (by show fN n p p.nodes _=_;unfold fN;rw [iN (bq _)])]
 rfl
theorem pN{A O:Type}{body:A×Int→Option ((A×Int) ⊕ O)}(n:Nat)(hn:n≤9000000)
  (h:∀ (i:Nat) (a:A),i<n→(∃ o,body (a,(i:Int))=some (.inr o))∨∃ a',body (a,(i:Int))=some (.inl (a',IntKind.wrap .i64 ((i:Int)+1)))) (he:∀ a,∃ o,body (a,(n:Int))=some (.inr o)) (a0:A):∃ o,bD body (a0,0)=some o:=by
 have key:∀ (k i:Nat) (a:A),i+k=n→∃ o,bD body (a,(i:Int))=some o:=by
  intro k
  induction k with
  |zero =>
   intro i a hi
   obtain ⟨o,ho⟩:=he a
   have:i=n:=by omega
   subst this
   exact ⟨o,gn ho⟩
  |succ k ih =>
   intro i a hi
   rcases h i a oM with ⟨o,ho⟩|⟨a',ha⟩
   ·exact ⟨o,gn ho⟩
   ·rw [mn ha,wrs i oM]
    exact ih (i+1) a' oM
 exact key n 0 a0 oM
theorem vw{O:Type}{body:Int→Option (Int ⊕ O)}(n:Nat)(hn:n≤9000000)
  (h:∀ (i:Nat),i<n→(∃ o,body (i:Int)=some (.inr o))∨body (i:Int)=some (.inl (IntKind.wrap .i64 ((i:Int)+1)))) (he:∃ o,body (n:Int)=some (.inr o)):∃ o,bD body 0=some o:=by
 have key:∀ (k i:Nat),i+k=n→∃ o,bD body (i:Int)=some o:=by
  intro k
  induction k with
  |zero =>
   intro i hi
   obtain ⟨o,ho⟩:=he
   have:i=n:=by omega
   subst this
   exact ⟨o,gn ho⟩
  |succ k ih =>
   intro i hi
   rcases h i oM with ⟨o,ho⟩|ha
   ·exact ⟨o,gn ho⟩
   ·rw [mn ha,wrs i oM]
    exact ih (i+1) oM
 exact key n 0 oM
theorem sE(l:List Ω)(h:l.length≤9000000)(z:Int):∃ o,ky l z=some o:=by
 unfold ky
 split
 ·exact ⟨_,rfl⟩
 ·obtain ⟨o,ho⟩:=vw (body:=fun x3=>eM l x3) l.length h (fun i hi=>by
   show (∃ o,eM l i=_)∨eM l i=_
   unfold eM
   rw [iP (ltI hi),iP (inI hi)]
   split
   ·exact .inl ⟨_,rfl⟩
   ·exact .inr rfl) ⟨_,by show eM l _=_;unfold eM;rw [iN (bq _)]⟩
  rw [ho]
  rcases o with _|o<;>exact ⟨_,rfl⟩
theorem pO(l:List (List ah))(h:rG l)(z:Int):∃ o,jh l z=some o:=by
 unfold jh
 obtain ⟨o,ho⟩:=pN (body:=fun x=>eO l x.1 x.2) l.length h.1 (fun i a hi=>by
  show (∃ o,eO l a i=_)∨∃ a',eO l a i=_
  unfold eO
  rw [iP (ltI hi)]
  split
  ·rw [iP (inI hi)]
   split
   ·exact .inl ⟨_,rfl⟩
   ·obtain ⟨o,ho⟩:=vw (body:=fun x10=>eN l i x10) (l.getD i default).length (h.2 _ (bm hi)) (fun j hj=>by
     show (∃ o,eN l i j=_)∨eN l i j=_
     unfold eN
     rw [tN,iP (ltI hj),iP (inI hj)]
     split
     ·exact .inl ⟨_,rfl⟩
     ·exact .inr rfl) ⟨_,by show eN l i _=_;unfold eN;rw [tN,iN (bq _)]⟩
    rw [ho]
    rcases o with _|o
    ·exact .inr ⟨_,rfl⟩
    ·exact .inl ⟨_,rfl⟩
  ·exact .inl ⟨_,rfl⟩) (fun a=>⟨_,by show eO l a _=_;unfold eO;rw [iN (bq _)]⟩) (IntKind.wrap .i64 (z - (l.length:Int)))
 rw [ho]
 rcases o with o|o<;>exact ⟨_,rfl⟩
theorem pP(l:List ax)(h:mX l)(z:Int):∃ o,ji l z=some o:=by
 unfold ji
 obtain ⟨o,ho⟩:=pN (body:=fun x=>eP l x.1 x.2) l.length h.1 (fun i a hi=>by
  show (∃ o,eP l a i=_)∨∃ a',eP l a i=_
  unfold eP
  rw [iP (ltI hi)]
  split
  ·rw [iP (inI hi)]
   split
   ·exact .inl ⟨_,rfl⟩
   ·rw [tN]
    obtain ⟨o,ho⟩:=pO (lit ([(l.getD i default).t.n]:List (List ah))) ⟨by simp [lit],fun d hd=>by
     have:d=(l.getD i default).t.n:=by simpa [lit] using hd
     rw [this];exact h.2 _ (bm hi)⟩ a
    rw [ho]
    exact .inr ⟨_,rfl⟩
  ·exact .inl ⟨_,rfl⟩) (fun a=>⟨_,by show eP l a _=_;unfold eP;rw [iN (bq _)]⟩) (IntKind.wrap .i64 (z - (l.length:Int)))
 rw [ho]
 rcases o with o|o<;>exact ⟨_,rfl⟩
theorem sF:∀ (n:Nat) (l:List ae) (z:Int),ae.szs l<n→ae.szs l≤8000000→∃ o,eu n l z=some o
 |0,_,_,h,_=>by omega
 |n+1,l,z,h,hs=>by
  have hlen:=ou l
  show ∃ o,kz (eu n) l z=some o
  unfold kz
  obtain ⟨o,ho⟩:=pN (body:=fun x=>eR (eu n) l x.1 x.2) l.length oM (fun i a hi=>by
   show (∃ o,eR (eu n) l a i=_)∨∃ a',eR (eu n) l a i=_
   have hsz:=ot (bm hi)
   obtain ⟨e1,e2⟩:=vc (x:=l.getD i default) oM
   unfold eR
   rw [iP (ltI hi)]
   split
   ·rw [iP (inI hi)]
    split
    ·exact .inl ⟨_,rfl⟩
    ·rw [tN]
     obtain ⟨o,ho⟩:=pO _ e1 a
     rw [ho]
     simp only [bSq]
     split
     ·obtain ⟨o2,ho2⟩:=sF n (l.getD i default).l o oM oM
      rw [ho2]
      exact .inr ⟨_,rfl⟩
     ·exact .inr ⟨_,rfl⟩
   ·exact .inl ⟨_,rfl⟩) (fun a=>⟨_,by show eR _ l a _=_;unfold eR;rw [iN (bq _)]⟩) (IntKind.wrap .i64 (z - (l.length:Int)))
  rw [ho]
  rcases o with o|o<;>exact ⟨_,rfl⟩
theorem zh(n:Nat)(p:aD)(x j:Nat)(hn:9000000<n)(h:ae.szs ((p.nodes.getD x default).eqs.getD j default).e≤8000000)(z:Int):∃ a',lc n p x j z=some (.inl (a',IntKind.wrap .i64 ((j:Int)+1))):=by
 unfold lc pG
 split
 ·simp only [tN]
  obtain ⟨o,ho⟩:=sF n _ z oM h
  rw [ho];exact ⟨_,rfl⟩
 ·exact ⟨_,rfl⟩
theorem By(n:Nat)(p:aD)(h:tz p)(hn:9000000<n):∃ b,qH n p=some b:=by
 unfold qH
 split
 ·exact ⟨_,rfl⟩
 ·obtain ⟨o,ho⟩:=pN (body:=fun x=>iV n p x.1 x.2) p.nodes.length (by have:=h.nodes;omega) (fun i a hi=>by
   show (∃ o,iV n p a i=_)∨∃ a',iV n p a i=_
   have hm:=bm hi
   obtain ⟨d1,d2,d3⟩:=h.decls _ hm
   obtain ⟨q1,q2⟩:=h.eqs _ hm
   unfold iV
   rw [iP (ltI hi)]
   split
   ·rw [iP (inI hi)]
    split
    ·exact .inl ⟨_,rfl⟩
    ·split
     ·exact .inl ⟨_,rfl⟩
     ·rw [tN]
      obtain ⟨o1,ho1⟩:=sE (p.nodes.getD i default).sizes (by have:=h.names _ hm;omega) a
      rw [ho1];simp only [bSq]
      obtain ⟨o2,ho2⟩:=pP (p.nodes.getD i default).in_ d1.1 o1
      rw [ho2];simp only [bSq]
      obtain ⟨o3,ho3⟩:=pP (p.nodes.getD i default).out_ d2.1 o2
      rw [ho3];simp only [bSq]
      obtain ⟨o4,ho4⟩:=pP (p.nodes.getD i default).local_ d3.1 o3
      rw [ho4];simp only [bSq]
      obtain ⟨o,ho⟩:=pN (body:=fun x=>iU n p i x.1 x.2) (p.nodes.getD i default).eqs.length oM (fun j c hj=>by
       show (∃ o,iU n p i c j=_)∨∃ a',iU n p i c j=_
       have hq:=bm hj
       obtain ⟨r1,r2,r3⟩:=q2 _ hq
       unfold iU
       rw [tN,iP (ltI hj)]
       split
       ·rw [iP (inI hj)]
        split
        ·exact .inl ⟨_,rfl⟩
        ·rw [tN]
         obtain ⟨w1,hw1⟩:=sE _ (show ((p.nodes.getD i default).eqs.getD j default).names.length≤9000000 by omega) c
         rw [hw1];simp only [bSq]
         split
         ·obtain ⟨w2,hw2⟩:=pO _ r2.1 w1
          rw [hw2];simp only [bSq]
          exact .inr (zh n p i j hn r3 w2)
         ·exact .inr (zh n p i j hn r3 w1)
       ·exact .inl ⟨_,rfl⟩) (fun c=>⟨_,by show iU n p i c _=_;unfold iU;rw [tN,iN (bq _)]⟩) o4
      rw [ho]
      rcases o with o|o
      ·exact .inr ⟨_,rfl⟩
      ·exact .inl ⟨_,rfl⟩
   ·exact .inl ⟨_,rfl⟩) (fun a=>⟨_,by show iV n p a _=_;unfold iV;rw [iN (bq _)]⟩) 8000
  rw [ho]
  rcases o with o|o<;>exact ⟨_,rfl⟩
theorem wL{T:Type}[Inhabited T](l:List T)(F:T→Int)(at_:Int){body:Int×Int×Int→Option ((Int×Int×Int) ⊕ (Int×Int))}(f0:ap)
  (hb:∀ (i:Nat) (f:ap),i<l.length→body (f.code,f.at_,(i:Int))=some (.inl ((wf f at_ (F (l.getD i default))).code,(wf f at_ (F (l.getD i default))).at_,((i+1:Nat):Int))))
  (he:∀ (f:ap),body (f.code,f.at_,(l.length:Int))=some (.inr (pr f))) :
  bD body (f0.code,f0.at_,0)=some (pr (wf f0 at_ (fsF F l))):=by
 have key:∀ (k i:Nat) (f:ap),i+k=l.length→bD body (f.code,f.at_,(i:Int))=some (pr (wf f at_ (fsF F (l.drop i)))):=by
  intro k
  induction k with
  |zero =>
   intro i f hi
   obtain rfl:i=l.length:=by omega
   rw [dW,he,List.drop_length]
   simp only [fsF,zg]
  |succ k ih =>
   intro i f hi
   have hlt:i<l.length:=by omega
   have hd:l.drop i=l.getD i default :: l.drop (i+1):=by
    rw [List.drop_eq_getElem_cons hlt];simp [List.getD,hlt]
   rw [dW,hb i f hlt]
   simp only
   rw [ih (i+1) _ oM,iK,hd]
   rfl
 exact key l.length 0 f0 oM
def pV(op:Int):fJ×Bool :=
 if op=1∨op=2∨op=3 then (fJ.mk 0 0 0 0,true) else if op=4 then (fJ.mk 1 0 13 14,true) else if op=5 then (fJ.mk 2 0 1 12,true)
 else if op=6∨op=11∨op=12 then (fJ.mk 3 0 0 0,true) else if op=7 then (fJ.mk (-1) 0 1 14,true) else if op=8∨op=9 then (fJ.mk 2 0 1 14,true)
 else if op=10 then (fJ.mk 1 1 0 0,true) else if op=13 then (fJ.mk 1 2 0 0,true) else if op=14∨op=15 then (fJ.mk 2 0 0 0,true) else (fJ.mk 0 0 0 0,false)
theorem EE(op:Int):pE op=some (pV op):=by
 unfold pE pV
 by_cases h1:op=1
 ·subst h1;rfl
 by_cases h2:op=2
 ·subst h2;rfl
 by_cases h3:op=3
 ·subst h3;rfl
 by_cases h4:op=4
 ·subst h4;rfl
 by_cases h5:op=5
 ·subst h5;rfl
 by_cases h6:op=6
 ·subst h6;rfl
 by_cases h7:op=7
 ·subst h7;rfl
 by_cases h8:op=8
 ·subst h8;rfl
 by_cases h9:op=9
 ·subst h9;rfl
 by_cases h10:op=10
 ·subst h10;rfl
 by_cases h11:op=11
 ·subst h11;rfl
 by_cases h12:op=12
 ·subst h12;rfl
 by_cases h13:op=13
 ·subst h13;rfl
 by_cases h14:op=14
 ·subst h14;rfl
 by_cases h15:op=15
 ·subst h15;rfl
 simp [j9,jZ,lB,lA,h1,h2,h3,h4,h5,h6,h7,h8,h9,h10,h11,h12,h13,h14,h15]
def o7(op k n:Int)(name:Ω)(ns nl:Nat):Prop :=
 (pV op).2=true∧((nl:Int)=(pV op).1.parts∨(pV op).1.parts<0∧(nl=1∨nl=2))∧((pV op).1.from_≤k∧k≤(pV op).1.to)∧(ns:Int)=(pV op).1.sizes ∧
 ¬ (2<op∧¬ n=0)∧¬ (op=2∧¬ n=0∧¬ n=1)∧(op=3∨name=[])
instance (op k n:Int) (name:Ω) (ns nl:Nat):Decidable (o7 op k n name ns nl):=by unfold o7;infer_instance
mutual
def exF:ae→Int
 |⟨op,k,n,name,s,l⟩=>sq (if o7 op k n name s.length l.length then 0 else 4) (sq (if op=3 then (if ir name=true then 0 else 3) else 0) (sq (if n<0∨1000000000000000000≤n then 2 else 0) (sq (fsF iL s) (Bz l))))
def Bz:List ae→Int
 |[]=>0
 |x :: l=>sq (exF x) (Bz l)
end
theorem AX:∀ l:List ae,Bz l=fsF exF l
 |[]=>by simp [Bz,fsF]
 |x :: l=>by rw [Bz,AX l];rfl
theorem Al(x:ae):exF x=sq (if o7 x.op x.k x.n x.name x.s.length x.l.length then 0 else 4) (sq (if x.op=3 then (if ir x.name=true then 0 else 3) else 0) (sq (if x.n<0∨1000000000000000000≤x.n then 2 else 0) (sq (fsF iL x.s) (fsF exF x.l)))):=by
 cases x;rw [exF,AX]
theorem ifC{p q:Prop}[Decidable p][Decidable q](h:p↔q){a b:Int}:(if p then a else b)=if q then a else b:=by
 by_cases hp:p
 ·rw [iP hp,iP (h.1 hp)]
 ·rw [iN hp,iN (fun k=>hp (h.2 k))]
theorem zi:∀ (n:Nat) (x:ae) (f:ap) (a:Int),x.sz<n→x.sz≤8000000→bh n x (ao.mk f a)=some (pr (wf f a (exF x)))
 |0,_,_,_,h,_=>by omega
 |n+1,x,f,a,h,hs=>by
  obtain ⟨ok1,ok2⟩:=vc (x:=x) oM
  show ie (bh n) x (ao.mk f a)=_
  have j6:∀ g:ap,eF (bh n) x (ao.mk f a) g.code g.at_=some (pr (wf g a (fsF exF x.l))):=by
   intro g
   unfold eF
   rw [wL x.l exF a (body:=fun (x18,x19,x20)=>dJ (bh n) x (ao.mk f a) x18 x19 x20) g
    (fun i f' hi => by
     show dJ (bh n) x (ao.mk f a) f'.code f'.at_ i=_
     unfold dJ
     have hm:x.l.getD i default∈x.l:=by simp [List.getD,hi]
     have:=ot hm
     have hll:=ou x.l
     rw [iP (ltI hi),iP (inI hi),tN,zi n _ _ _ oM oM,bSq,wrs i oM]
     rfl)
    (fun f' => by
     show dJ (bh n) x (ao.mk f a) f'.code f'.at_ x.l.length=_
     unfold dJ
     rw [iN (bq _)];rfl)]
   rfl
  have j5:∀ g:ap,eG (bh n) x (ao.mk f a) g.code g.at_=some (pr (wf g a (sq (fsF iL x.s) (fsF exF x.l)))):=by
   intro g
   unfold eG
   rw [wL x.s iL a (body:=fun (x29,x30,x31)=>dK x (ao.mk f a) x29 x30 x31) g
    (fun i f' hi => by
     show dK x (ao.mk f a) f'.code f'.at_ i=_
     unfold dK
     have hm:x.s.getD i default∈x.s:=by simp [List.getD,hi]
     rw [iP (ltI hi),iP (inI hi),tN,wG _ (ok1.2 _ hm),bSq,wrs i (by have:=ok1.1;omega)]
     rfl)
    (fun f' => by
     show dK x (ao.mk f a) f'.code f'.at_ x.s.length=_
     unfold dK
     rw [iN (bq _)];rfl)]
   rw [bSq]
   simp only [pr]
   rw [j6,iK];rfl
  have j4:∀ g:ap,eH (bh n) x (ao.mk f a) g.code g.at_=some (pr (wf g a (sq (if x.n<0∨1000000000000000000≤x.n then 2 else 0) (sq (fsF iL x.s) (fsF exF x.l))))):=by
   intro g
   unfold eH
   by_cases h1:x.n<0
   ·rw [iP h1,hQ _ _ _ _ dM,bSq]
    simp only [pr]
    rw [j5,iK];simp [h1,pr]
   ·rw [iN h1,hQ _ _ _ _ dM,bSq]
    simp only [pr]
    rw [j5,iK]
    by_cases h2:1000000000000000000≤x.n<;>simp [h1,h2,pr]
  have j3:∀ g:ap,aP (bh n) x (ao.mk f a) g.code g.at_=some (pr (wf g a (sq (if x.op=3 then (if ir x.name=true then 0 else 3) else 0) (sq (if x.n<0∨1000000000000000000≤x.n then 2 else 0) (sq (fsF iL x.s) (fsF exF x.l)))))):=by
   intro g
   unfold aP
   by_cases h1:x.op=3
   ·rw [iP h1,pM,bSq]
    simp only [pr]
    rw [j4,iK];simp [h1,pr]
   ·rw [iN h1,j4];simp [h1,sq]
  have fin:∀ (b:Bool) (p:Prop) [Decidable p],(b=true↔¬ p)→((aw b 4 (ao.mk f a)).bind fun y=>aP (bh n) x (ao.mk f a) y.1 y.2) =
    some (pr (wf f a (sq (if p then 0 else 4) (sq (if x.op=3 then (if ir x.name=true then 0 else 3) else 0) (sq (if x.n<0∨1000000000000000000≤x.n then 2 else 0) (sq (fsF iL x.s) (fsF exF x.l))))))):=by
   intro b p _ hb
   rw [hQ _ _ _ _ dM,bSq]
   simp only [pr]
   rw [j3,iK]
   by_cases hp:p
   ·have:b=false:=by cases b;rfl;exact absurd hp (hb.1 rfl)
    simp [hp,this,pr]
   ·have:b=true:=hb.2 hp
    simp [hp,this,pr]
  rw [Al]
  unfold ie
  by_cases hc:f.code=0
  ·rw [iN (by simpa using hc),EE,bSq]
   have j2:∀ (y:fJ×Bool) (b2 b3:Bool),eI (bh n) x (ao.mk f a) y b2 b3 =
     some (pr (wf f a (sq (if y.2=true∧b2=true∧b3=true∧(x.s.length:Int)=y.1.sizes∧¬ (2<x.op∧¬ x.n=0)∧¬ (x.op=2∧¬ x.n=0∧¬ x.n=1)∧(x.op=3∨x.name=[]) then 0 else 4) (sq (if x.op=3 then (if ir x.name=true then 0 else 3) else 0) (sq (if x.n<0∨1000000000000000000≤x.n then 2 else 0) (sq (fsF iL x.s) (fsF exF x.l))))))):=by
    intro y b2 b3
    unfold eI
    by_cases c1:y.2=true
    rotate_left
    ·rw [iN c1];exact fin _ _ (by simp [c1])
    rw [iP c1]
    by_cases c2:b2=true
    rotate_left
    ·rw [iN c2];exact fin _ _ (by simp [c2])
    rw [iP c2]
    by_cases c3:b3=true
    rotate_left
    ·rw [iN c3];exact fin _ _ (by simp [c3])
    rw [iP c3]
    by_cases c4:(x.s.length:Int)=y.1.sizes
    rotate_left
    ·rw [iP c4];exact fin _ _ (by simp [c4])
    rw [iN (by simp [c4])]
    by_cases c5:x.op>2
    ·have c6:¬ x.op=2:=by omega
     rw [iP c5,iN c6]
     by_cases c7:x.n=0
     rotate_left
     ·rw [iP c7];exact fin _ _ (by simp [c7,c5])
     rw [iN (by simp [c7])]
     by_cases c8:x.op=3
     ·rw [iN (by simp [c8])];exact fin _ _ (by simp [c1,c2,c3,c4,c6,c7,c8])
     ·rw [iP c8];exact fin _ _ (by simp [c1,c2,c3,c4,c6,c7,c8])
    ·have c8:¬ x.op=3:=by omega
     have c5':¬ 2<x.op:=c5
     rw [iN c5]
     by_cases c6:x.op=2
     ·rw [iP c6]
      by_cases c7:x.n=0
      ·rw [iN (by simp [c7]),iP c8];exact fin _ _ (by simp [c1,c2,c3,c4,c5',c7,c8])
      ·rw [iP c7]
       by_cases c9:x.n=1
       ·rw [iN (by simp [c9]),iP c8];exact fin _ _ (by simp [c1,c2,c3,c4,c5',c9,c8])
       ·rw [iP c9];exact fin _ _ (by simp [c6,c7,c9])
     ·rw [iN c6,iP c8];exact fin _ _ (by simp [c1,c2,c3,c4,c5',c6,c8])
   have j1:∀ (b2:Bool) (p:Prop),(b2=true↔p)→p=((x.l.length:Int)=(pV x.op).1.parts∨(pV x.op).1.parts<0∧(x.l.length=1∨x.l.length=2))→cV (bh n) x (ao.mk f a) (pV x.op) b2 =
     some (pr (wf f a (sq (if o7 x.op x.k x.n x.name x.s.length x.l.length then 0 else 4) (sq (if x.op=3 then (if ir x.name=true then 0 else 3) else 0) (sq (if x.n<0∨1000000000000000000≤x.n then 2 else 0) (sq (fsF iL x.s) (fsF exF x.l))))))):=by
    intro b2 p hb hp
    unfold cV
    by_cases c1:x.k≥(pV x.op).1.from_
    ·rw [iP c1,j2]
     refine congrArg (fun z=>some (pr (wf f a (sq z _)))) (ifC ?_)
     unfold o7
     rw [hb,hp]
     have c1':(pV x.op).1.from_≤x.k:=c1
     simp only [decide_eq_true_eq,c1',true_and]
    ·rw [iN c1,j2]
     refine congrArg (fun z=>some (pr (wf f a (sq z _)))) (ifC ?_)
     unfold o7
     have c1':¬ (pV x.op).1.from_≤x.k:=c1
     simp [c1']
   by_cases c1:(x.l.length:Int)=(pV x.op).1.parts
   ·rw [iP c1];exact j1 _ True (by simp) (by simp [c1])
   rw [iN c1]
   by_cases c2:(pV x.op).1.parts<0
   rotate_left
   ·rw [iN c2];exact j1 _ False (by simp) (by simp [c1,c2])
   rw [iP c2]
   by_cases c3:(x.l.length:Int)=1
   ·rw [iP c3];exact j1 _ True (by simp) (by simp [c2,show x.l.length=1 by omega])
   ·rw [iN c3];exact j1 _ (x.l.length=2) (by rw [beq_iff_eq];omega) (by
     have c3':¬ x.l.length=1:=by omega
     simp [c1,c2,c3'])
  ·rw [iP (by simpa using hc)]
   unfold wf pr
   rw [iN (fun k=>hc k.1)]
theorem ifS(e i:Int):(if ¬ e=0 then some (.inr (.inr e)) else some (.inl i):Option (Int ⊕ (Unit ⊕ Int)))=some (if e=0 then .inl i else .inr (.inr e)):=by
 by_cases h:e=0<;>simp [h]
theorem EF(x:ae)(x1 x2:Int)(b:Bool):bo x x1 x2 b=some (decide ((x.l.length:Int)=x1∧(x.s.length:Int)=x2∧b=true∧(x.name=[]∨x.op=3)∧(x.op=1∨x.n=0∨x.op=2∧x.n=1))):=by
 have j2:iv x=some (decide (x.op=1∨x.n=0∨x.op=2∧x.n=1)):=by
  unfold iv
  by_cases h1:x.op=1
  ·simp [h1]
  by_cases h2:x.n=0
  ·simp [h2]
  by_cases h3:x.op=2
  ·rw [iN h1,iN h2,iP h3];by_cases h4:x.n=1<;>simp [h1,h2,h3,h4]
  ·simp [h1,h2,h3]
 unfold bo
 rw [j2]
 by_cases h1:(x.l.length:Int)=x1
 ·by_cases h2:(x.s.length:Int)=x2
  ·cases b
   ·simp
   ·by_cases h3:x.name=[]
    ·simp [h1,h2,h3]
    ·by_cases h4:x.op=3
     ·simp [h1,h2,h3,h4]
     ·simp [h3,h4]
  ·simp [h2]
 ·simp [h1]
theorem Dt(x:ae):nG x=some (decide (o7 x.op x.k x.n x.name x.s.length x.l.length)):=by
 have dd:∀ {p q:Prop} [Decidable p] [Decidable q],(p↔q)→some (decide p)=some (decide q):=fun h=>congrArg some (decide_eq_decide.2 h)
 have key:∀ (o:Int) (t:fJ),x.op=o→pV o=(t,true)→∀ (x1 x2:Int) (b:Bool),((x.l.length:Int)=x1∧(x.s.length:Int)=x2∧b=true∧(o=1∨x.n=0∨o=2∧x.n=1)↔(((x.l.length:Int)=t.parts∨t.parts<0∧(x.l.length=1∨x.l.length=2))∧(t.from_≤x.k∧x.k≤t.to)∧(x.s.length:Int)=t.sizes ∧
   ¬ (2<o∧¬ x.n=0)∧¬ (o=2∧¬ x.n=0∧¬ x.n=1)))→bo x x1 x2 b=some (decide (o7 x.op x.k x.n x.name x.s.length x.l.length)):=by
  intro o t ho ht x1 x2 b h
  rw [EF]
  refine dd ?_
  unfold o7
  rw [ho,ht]
  constructor
  ·rintro ⟨a1,a2,a3,a4,a5⟩
   obtain ⟨b1,b2,b3,b4,b5⟩:=h.1 ⟨a1,a2,a3,a5⟩
   exact ⟨rfl,b1,b2,b3,b4,b5,a4.symm⟩
  ·rintro ⟨_,b1,b2,b3,b4,b5,b6⟩
   obtain ⟨a1,a2,a3,a5⟩:=h.2 ⟨b1,b2,b3,b4,b5⟩
   exact ⟨a1,a2,a3,b6.symm,a5⟩
 have bt:∀ (c d:Int),(c == d)=true↔c=d:=fun c d=>beq_iff_eq
 unfold nG
 by_cases h1:x.op=1
 ·rw [iP h1];unfold fG;rw [iP (by simp [h1])]
  exact key 1 _ h1 rfl _ _ _ (by simp only [bt,true_or,true_and,and_true,or_true];omega)
 rw [iN h1]
 by_cases h2:x.op=2
 ·rw [iP h2];unfold fG;rw [iP (by simp [h2])]
  exact key 2 _ h2 rfl _ _ _ (by simp only [bt,true_or,true_and,and_true,or_true];omega)
 rw [iN h2]
 unfold fG
 by_cases h3:x.op=3
 ·rw [iP (by simp [h3])]
  exact key 3 _ h3 rfl _ _ _ (by simp only [bt,true_or,true_and,and_true,or_true];omega)
 rw [iN (by simp [h3])]
 by_cases h4:x.op=4
 ·rw [iP h4]
  by_cases k:x.k=13
  ·rw [iP k];exact key 4 _ h4 rfl _ _ _ (by simp only [true_and];omega)
  ·rw [iN k];exact key 4 _ h4 rfl _ _ _ (by simp only [bt,true_or,true_and,and_true,or_true];omega)
 rw [iN h4]
 by_cases h5:x.op=5
 ·rw [iP h5]
  by_cases k:x.k≥1
  ·rw [iP k];exact key 5 _ h5 rfl _ _ _ (by simp only [decide_eq_true_eq];omega)
  ·rw [iN k];exact key 5 _ h5 rfl _ _ _ (by simp only [Bool.false_eq_true,false_and,and_false,false_iff];omega)
 rw [iN h5]
 by_cases h6:x.op=6
 ·rw [iP h6];unfold fF;rw [iP (by simp [h6])]
  exact key 6 _ h6 rfl _ _ _ (by simp only [bt,true_or,true_and,and_true,or_true];omega)
 rw [iN h6]
 by_cases h11:x.op=11
 ·rw [iP h11];unfold fF;rw [iP (by simp [h11])]
  exact key 11 _ h11 rfl _ _ _ (by simp only [bt,true_or,true_and,and_true,or_true];omega)
 rw [iN h11]
 unfold fF
 by_cases h12:x.op=12
 ·rw [iP (by simp [h12])]
  exact key 12 _ h12 rfl _ _ _ (by simp only [bt,true_or,true_and,and_true,or_true];omega)
 rw [iN (by simp [h12])]
 by_cases h7:x.op=7
 ·rw [iP h7]
  unfold jC
  by_cases k:x.k≥1
  ·rw [iP k]
   by_cases l:(x.l.length:Int)=1
   ·rw [iP l];exact key 7 _ h7 rfl _ _ _ (by simp only [decide_eq_true_eq];omega)
   ·rw [iN l];exact key 7 _ h7 rfl _ _ _ (by simp only [decide_eq_true_eq];omega)
  ·rw [iN k]
   by_cases l:(x.l.length:Int)=1
   ·rw [iP l];exact key 7 _ h7 rfl _ _ _ (by simp only [Bool.false_eq_true,false_and,and_false,false_iff];omega)
   ·rw [iN l];exact key 7 _ h7 rfl _ _ _ (by simp only [Bool.false_eq_true,false_and,and_false,false_iff];omega)
 rw [iN h7]
 have six:∀ o:Int,x.op=o→pV o=(fJ.mk 2 0 1 14,true)→¬ o=1→¬ o=2→2<o→(if x.k≥1 then (bo x 2 0 (decide (x.k≤14))) else (bo x 2 0 false))=some (decide (o7 x.op x.k x.n x.name x.s.length x.l.length)):=by
  intro o ho ht o1 o2 o3
  by_cases k:x.k≥1
  ·rw [iP k];exact key o _ ho ht _ _ _ (by simp only [decide_eq_true_eq];omega)
  ·rw [iN k];exact key o _ ho ht _ _ _ (by simp only [Bool.false_eq_true,false_and,and_false,false_iff];omega)
 by_cases h8:x.op=8
 ·rw [iP h8];unfold ix;rw [iP (by simp [h8])]
  exact six 8 h8 rfl dM dM dM
 rw [iN h8]
 unfold ix
 by_cases h9:x.op=9
 ·rw [iP (by simp [h9])]
  exact six 9 h9 rfl dM dM dM
 rw [iN (by simp [h9])]
 by_cases h10:x.op=10
 ·rw [iP h10];exact key 10 _ h10 rfl _ _ _ (by simp only [bt,true_or,true_and,and_true,or_true];omega)
 rw [iN h10]
 by_cases h13:x.op=13
 ·rw [iP h13];exact key 13 _ h13 rfl _ _ _ (by simp only [bt,true_or,true_and,and_true,or_true];omega)
 rw [iN h13]
 by_cases h14:x.op=14
 ·rw [iP h14];unfold iw;rw [iP (by simp [h14])]
  exact key 14 _ h14 rfl _ _ _ (by simp only [bt,true_or,true_and,and_true,or_true];omega)
 rw [iN h14]
 unfold iw
 by_cases h15:x.op=15
 ·rw [iP (by simp [h15])]
  exact key 15 _ h15 rfl _ _ _ (by simp only [bt,true_or,true_and,and_true,or_true];omega)
 rw [iN (by simp [h15])]
 have:(pV x.op).2=false:=by simp [pV,h1,h2,h3,h4,h5,h6,h7,h8,h9,h10,h11,h12,h13,h14,h15]
 have:¬ o7 x.op x.k x.n x.name x.s.length x.l.length:=fun k=>by rw [k.1] at this;exact absurd this dM
 simp [this]
theorem zj:∀ (n:Nat) (x:ae),x.sz<n→x.sz≤8000000→fH n x=some (exF x)
 |0,_,h,_=>by omega
 |n+1,x,h,hs=>by
  obtain ⟨ok1,ok2⟩:=vc (x:=x) oM
  have hll:=ou x.l
  show lq (fH n) x=_
  have j2:gX (fH n) x=some (fsF exF x.l):=by
   unfold gX
   rw [nN x.l exF (fun i hi=>by
    unfold kJ
    have hm:x.l.getD i default∈x.l:=by simp [List.getD,hi]
    have:=ot hm
    rw [iP (ltI hi),iP (inI hi),tN,zj n _ oM oM,bSq,wrs i oM]
    exact ifS _ _) (by unfold kJ;rw [iN (bq _)])]
   exact uB _
  have j1:gY (fH n) x=some (sq (if x.n<0∨1000000000000000000≤x.n then 2 else 0) (sq (fsF iL x.s) (fsF exF x.l))):=by
   unfold gY
   by_cases h1:x.n<0
   ·rw [iP h1];simp [h1,sq]
   rw [iN h1]
   by_cases h2:x.n≥1000000000000000000
   ·have h2':1000000000000000000≤x.n:=h2
    rw [iP h2];simp [h2',sq]
   have h2':¬ 1000000000000000000≤x.n:=h2
   rw [iN h2,nN x.s iL (fun i hi=>by
    unfold kK
    have hm:x.s.getD i default∈x.s:=by simp [List.getD,hi]
    have:=ok1.1
    rw [iP (ltI hi),iP (inI hi),tN,wH _ (ok1.2 _ hm),bSq,wrs i oM]
    exact ifS _ _) (by unfold kK;rw [iN (bq _)]),bSq]
   by_cases e:fsF iL x.s=0
   ·simp only [e,if_true,Sum.elim_inl,j2,h1,h2',or_self,if_false,sq]
   ·simp only [e,if_false,Sum.elim_inr,h1,h2',or_self,sq,if_true]
  rw [Al]
  unfold lq
  rw [Dt,bSq,j1]
  by_cases h1:o7 x.op x.k x.n x.name x.s.length x.l.length
  ·rw [iP (dT h1),iP h1]
   by_cases h2:x.op=3
   ·rw [iP h2,iP h2,oj,bSq]
    cases ir x.name<;>simp [sq]
   ·rw [iN h2,iN h2];simp [sq]
  ·rw [iN (by simpa using h1),iN h1];simp [sq]
mutual
def pn:ae→Nat
 |⟨_,_,_,_,_,l⟩=>1+pns l
def pns:List ae→Nat
 |[]=>0
 |x :: l=>pn x+pns l
end
theorem DE(x:ae):pn x=1+pns x.l:=by cases x;rw [pn]
mutual
theorem FJ:∀ x:ae,pn x≤x.sz
 |⟨op,k,n,name,s,l⟩=>by
  have:=yq l
  rw [pn,ae.sz];omega
theorem yq:∀ l:List ae,pns l≤ae.szs l
 |[]=>by simp [pns]
 |x :: l=>by
  have:=FJ x
  have:=yq l
  rw [pns,ae.szs];omega
end
theorem zk(l:List ae)(i:Nat)(h:i<l.length):pns (l.take (i+1))=pns (l.take i)+pn (l.getD i default):=by
 induction l generalizing i with
 |nil=>simp at h
 |cons a l ih =>
  cases i with
  |zero=>simp [pns]
  |succ i =>
   simp only [List.take_succ_cons,pns]
   rw [ih i (by simpa using h)]
   simp [List.getD];omega
theorem zl(l:List ae)(i:Nat):pns (l.take i)≤pns l:=by
 induction l generalizing i with
 |nil=>simp
 |cons a l ih =>
  cases i with
  |zero=>simp [pns]
  |succ i=>simp only [List.take_succ_cons,pns];have:=ih i;omega
theorem xH:∀ (n:Nat) (x:ae),x.sz<n→x.sz≤8000000→jU n x=some (pn x:Int)
 |0,_,h,_=>by omega
 |n+1,x,h,hs=>by
  obtain ⟨ok1,ok2⟩:=vc (x:=x) oM
  have hll:=ou x.l
  have hps:=yq x.l
  show oG (jU n) x=_
  unfold oG
  have key:∀ (k i:Nat),i+k=x.l.length→bD (fun (x6,x7)=>lf (jU n) x x6 x7) (((1+pns (x.l.take i):Nat):Int),(i:Int))=some ((1+pns x.l:Nat):Int):=by
   intro k
   induction k with
   |zero =>
    intro i hi
    obtain rfl:i=x.l.length:=by omega
    rw [dW]
    simp only
    unfold lf
    rw [iN (bq _),List.take_length]
   |succ k ih =>
    intro i hi
    have hlt:i<x.l.length:=by omega
    have hm:x.l.getD i default∈x.l:=by simp [List.getD,hlt]
    have h1:=ot hm
    have h2:=zk x.l i hlt
    have h3:=zl x.l (i+1)
    rw [dW]
    simp only
    unfold lf
    rw [iP (ltI hlt),iP (inI hlt),tN,xH n _ oM oM,bSq,wrs i oM]
    simp only
    rw [show IntKind.wrap .i64 (((1+pns (x.l.take i):Nat):Int)+(pn (x.l.getD i default):Int))=((1+pns (x.l.take (i+1)):Nat):Int) by
     rw [wr oM oM];omega]
    exact ih (i+1) oM
  have k0:=key x.l.length 0 oM
  rw [show (bD (fun (x6,x7)=>lf (jU n) x x6 x7) (1,0))=some ((1+pns x.l:Nat):Int) from by simpa [pns] using k0]
  rw [DE];rfl
theorem xI:∀ (n:Nat) (x:ae) (m:Nat),x.sz<n→x.sz≤8000000→m≤30→ib n x m=some (if (pn x:Int)≤m then (m:Int) - pn x else -1)
 |0,_,_,h,_,_=>by omega
 |n+1,x,m,h,hs,hm0=>by
  obtain ⟨ok1,ok2⟩:=vc (x:=x) oM
  have hll:=ou x.l
  have hps:=yq x.l
  show lV (ib n) x m=_
  unfold lV
  have key:∀ (k i:Nat),i+k=x.l.length→bD (fun (x6,x7)=>jx (ib n) x x6 x7) ((if ((1+pns (x.l.take i):Nat):Int)≤m then (m:Int) - ((1+pns (x.l.take i):Nat):Int) else -1),(i:Int)) =
    some (if ((1+pns x.l:Nat):Int)≤m then (m:Int) - ((1+pns x.l:Nat):Int) else -1):=by
   intro k
   induction k with
   |zero =>
    intro i hi
    obtain rfl:i=x.l.length:=by omega
    rw [dW]
    simp only
    unfold jx
    rw [iN (bq _),List.take_length]
   |succ k ih =>
    intro i hi
    have hlt:i<x.l.length:=by omega
    have hm:x.l.getD i default∈x.l:=by simp [List.getD,hlt]
    have h1:=ot hm
    have h2:=zk x.l i hlt
    have h3:=zl x.l (i+1)
    rw [dW]
    simp only
    unfold jx
    rw [iP (ltI hlt)]
    by_cases hp:((1+pns (x.l.take i):Nat):Int)≤m
    ·rw [iP hp,iP oM,iP (inI hlt),tN]
     rw [show (m:Int) - ((1+pns (x.l.take i):Nat):Int)=((m - (1+pns (x.l.take i)):Nat):Int) by omega]
     rw [xI n _ _ oM oM oM,bSq,wrs i oM]
     simp only
     rw [show (if ((pn (x.l.getD i default):Nat):Int)≤((m - (1+pns (x.l.take i)):Nat):Int) then ((m - (1+pns (x.l.take i)):Nat):Int) - ((pn (x.l.getD i default):Nat):Int) else -1) =
      (if ((1+pns (x.l.take (i+1)):Nat):Int)≤m then (m:Int) - ((1+pns (x.l.take (i+1)):Nat):Int) else -1) by
      split<;>split<;>omega]
     exact ih (i+1) oM
    ·rw [iN hp,iN oM,iN oM]
  have k0:=key x.l.length 0 oM
  have e0:IntKind.wrap .i64 ((m:Int) - 1)=if ((1+pns (x.l.take 0):Nat):Int)≤m then (m:Int) - ((1+pns (x.l.take 0):Nat):Int) else -1:=by
   rw [wr oM oM]
   simp only [List.take_zero,pns]
   split<;>omega
  rw [e0,show (0:Int)=((0:Nat):Int) from rfl,k0,DE]
  rfl
def kT(w:Ω):Int:=if ir w=true then 0 else 3
def qV(e:ae):Int:=sq (if pn e>30 then 7 else 0) (exF e)
def eqF(q:TEq):Int :=
 sq (if q.names.length=0∨q.node=[]∧¬ (q.names.length=1∧q.e.length=1∧q.s.length=0) then 4 else 0) (sq (if q.names.length>30∨q.e.length>30∨q.s.length>3 then 7 else 0) (sq (fsF kT q.names)
  (sq (if q.node=[] then 0 else kT q.node) (sq (fsF iL q.s) (fsF qV q.e)))))
theorem zm(a b c:Int):sq (sq a b) c=sq a (sq b c):=by unfold sq;split<;>simp_all
def EG(q:TEq):Prop:=q.names.length≤8000000∧rG q.s∧q.s.length≤8000000∧ae.szs q.e≤8000000
theorem EH(n:Nat)(hn:8000000<n)(q:TEq)(hq:EG q)(f:ap)(a:Int):kw n q (ao.mk f a)=some (pr (wf f a (eqF q))):=by
 obtain ⟨q1,q2,q3,q4⟩:=hq
 have q5:=ou q.e
 have j4:∀ g:ap,ew n q (ao.mk f a) g.code g.at_=some (pr (wf g a (fsF qV q.e))):=by
  intro g
  unfold ew
  rw [pm q.e qV a (body:=fun (x15,x16,x17)=>di n q (ao.mk f a) x15 x16 x17) g
   (fun i f' hi hc => by
    show di n q (ao.mk f a) f'.code f'.at_ i=_
    unfold di
    have hm:q.e.getD i default∈q.e:=by simp [List.getD,hi]
    have:=ot hm
    rw [iP (ltI hi),iP hc,iP (inI hi),tN]
    have ht:rz n (q.e.getD i default) 30=some (if (pn (q.e.getD i default):Int)≤30 then (30:Int) - pn (q.e.getD i default) else -1):=xI n _ 30 oM oM oM
    have he:∀ g:ap,m5 n (q.e.getD i default) (ao.mk (ap.mk g.code g.at_) a)=some (pr (wf g a (exF (q.e.getD i default)))):=fun g=>zi n _ _ _ oM oM
    rw [ht,bSq,hQ _ _ _ _ dM,bSq]
    simp only [pr]
    rw [he,bSq]
    simp only [pr]
    rw [iK,wrs i oM]
    have e1:(if (decide ((if (pn (q.e.getD i default):Int)≤30 then (30:Int) - pn (q.e.getD i default) else -1)<0))=true then (7:Int) else 0)=if pn (q.e.getD i default)>30 then 7 else 0:=by
     by_cases h:(pn (q.e.getD i default):Int)≤30
     ·have h1:¬ ((30:Int) - pn (q.e.getD i default)<0):=by omega
      have h2:¬ (pn (q.e.getD i default)>30):=by omega
      rw [iP h,iN (by simpa using h1),iN h2]
     ·have h2:pn (q.e.getD i default)>30:=by omega
      rw [iN h,iP h2];rfl
    rw [e1]
    rfl)
   (fun i f' hi hc => by
    show di n q (ao.mk f a) f'.code f'.at_ i=_
    unfold di
    rw [iP (ltI hi),iN hc];rfl)
   (fun f' => by
    show di n q (ao.mk f a) f'.code f'.at_ q.e.length=_
    unfold di
    rw [iN (bq _)];rfl)]
  rfl
 have j3:∀ g:ap,ez n q (ao.mk f a) g.code g.at_=some (pr (wf g a (sq (fsF iL q.s) (fsF qV q.e)))):=by
  intro g
  unfold ez
  rw [pm q.s iL a (body:=fun (x28,x29,x30)=>dj q (ao.mk f a) x28 x29 x30) g
   (fun i f' hi hc => by
    show dj q (ao.mk f a) f'.code f'.at_ i=_
    unfold dj
    have hm:q.s.getD i default∈q.s:=by simp [List.getD,hi]
    rw [iP (ltI hi),iP hc,iP (inI hi),tN,wG _ (q2.2 _ hm),bSq,wrs i oM]
    rfl)
   (fun i f' hi hc => by
    show dj q (ao.mk f a) f'.code f'.at_ i=_
    unfold dj
    rw [iP (ltI hi),iN hc];rfl)
   (fun f' => by
    show dj q (ao.mk f a) f'.code f'.at_ q.s.length=_
    unfold dj
    rw [iN (bq _)];rfl),bSq]
  simp only [pr]
  rw [j4,iK];rfl
 have j2:∀ g:ap,bI n q (ao.mk f a) g.code g.at_=some (pr (wf g a (sq (if q.node=[] then 0 else kT q.node) (sq (fsF iL q.s) (fsF qV q.e))))):=by
  intro g
  unfold bI
  by_cases h1:q.node=[]
  ·rw [iP h1,iP h1,j3];simp [sq]
  rw [iN h1,iN h1]
  by_cases h2:g.code=0
  ·rw [iP h2,pM,bSq]
   simp only [pr]
   rw [j3,iK];rfl
  ·rw [iN h2,j3]
   unfold wf
   rw [iN (fun k=>h2 k.1),iN (fun k=>h2 k.1)]
 have names:∀ (body:Int×Int×Int→Option ((Int×Int×Int) ⊕ (Int×Int))) (g:ap),(∀ x y z,body (x,y,z)=if z<(q.names.length:Int) then (if x=0 then (if (0≤z∧z<(q.names.length:Int)) then ((br (q.names.getD z.toNat default) (ao.mk (ap.mk x y) a)).bind fun y71=>some (.inl (y71.1,y71.2,(IntKind.wrap .i64 (z+1))))) else none) else (some (.inr (x,y)))) else (some (.inr (x,y)))) →
   bD body (g.code,g.at_,0)=some (pr (wf g a (fsF kT q.names))):=fun body g hb =>
  pm q.names kT a g
   (fun i f' hi hc => by
    rw [hb,iP (ltI hi),iP hc,iP (inI hi),tN,pM,bSq,wrs i oM]
    rfl)
   (fun i f' hi hc => by
    rw [hb,iP (ltI hi),iN hc];rfl)
   (fun f' => by
    rw [hb,iN (bq _)];rfl)
 have j1:∀ g:ap,cN n q (ao.mk f a) g.code g.at_=some (pr (wf g a (sq (if q.names.length>30∨q.e.length>30∨q.s.length>3 then 7 else 0) (sq (fsF kT q.names) (sq (if q.node=[] then 0 else kT q.node) (sq (fsF iL q.s) (fsF qV q.e))))))):=by
  intro g
  unfold cN
  by_cases h1:q.names.length>30
  ·rw [iP oM,hQ _ _ _ _ dM,bSq]
   simp only [pr]
   rw [names _ _ (fun x y z=>rfl),bSq]
   simp only [pr]
   rw [j2,iK,iK,iP (Or.inl h1),iP trivial];rfl
  rw [iN oM]
  by_cases h2:q.e.length>30
  ·rw [iP oM,hQ _ _ _ _ dM,bSq]
   simp only [pr]
   rw [names _ _ (fun x y z=>rfl),bSq]
   simp only [pr]
   rw [j2,iK,iK,iP (Or.inr (Or.inl h2)),iP trivial];rfl
  rw [iN oM,hQ _ _ _ _ dM,bSq]
  simp only [pr]
  rw [names _ _ (fun x y z=>rfl),bSq]
  simp only [pr]
  rw [j2,iK,iK]
  have e1:(if decide ((q.s.length:Int)>3)=true then (7:Int) else 0)=if q.names.length>30∨q.e.length>30∨q.s.length>3 then 7 else 0:=by
   refine ifC ?_
   rw [decide_eq_true_eq];omega
  rw [e1];rfl
 have fin:∀ (b:Bool),(b=true↔(q.names.length=0∨q.node=[]∧¬ (q.names.length=1∧q.e.length=1∧q.s.length=0)))→((aw b 4 (ao.mk f a)).bind fun y=>cN n q (ao.mk f a) y.1 y.2)=some (pr (wf f a (eqF q))):=by
  intro b hb
  rw [hQ _ _ _ _ dM,bSq]
  simp only [pr]
  rw [j1,iK,ifC hb];rfl
 unfold kw
 by_cases h1:q.names.length=0
 ·rw [iP oM];exact fin _ (by simp [h1])
 rw [iN oM]
 by_cases h2:q.node=[]
 ·rw [iP h2]
  by_cases h3:q.names.length=1
  ·rw [iN oM]
   by_cases h4:q.e.length=1
   ·rw [iN oM]
    exact fin _ (by simp only [h2,true_and,h3,h4,decide_eq_true_eq];omega)
   ·rw [iP oM];exact fin _ (by simp only [h2,h4,true_and,false_and,and_false,not_false_eq_true,or_true])
  ·rw [iP oM];exact fin _ (by simp only [h2,h3,true_and,false_and,and_false,not_false_eq_true,or_true])
 ·rw [iN h2];exact fin _ (by simp only [h1,h2,false_and,or_self,Bool.false_eq_true])
theorem Cz(n:Nat)(hn:8000000<n)(q:TEq)(hq:EG q):oH n q=some (eqF q):=by
 obtain ⟨q1,q2,q3,q4⟩:=hq
 have q5:=ou q.e
 have j4:jl n q=some (fsF qV q.e):=by
  unfold jl
  rw [nN q.e qV (fun i hi=>by
   unfold lY
   have hm:q.e.getD i default∈q.e:=by simp [List.getD,hi]
   have:=ot hm
   have hp:uT n (q.e.getD i default)=some (pn (q.e.getD i default):Int):=xH n _ oM oM
   have he:qr n (q.e.getD i default)=some (exF (q.e.getD i default)):=zj n _ oM oM
   rw [iP (ltI hi),iP (inI hi),tN,hp,he,bSq,bSq,wrs i oM,ifS]
   unfold qV
   by_cases h:pn (q.e.getD i default)>30
   ·rw [iP oM,iP h];simp [sq]
   ·rw [iN oM,iN h];simp only [sq,if_true]) (by unfold lY;rw [iN (bq _)])]
  exact uB _
 have Du:∀ (e:Int) (k:Option Int) (v:Int),k=some v→((some (if e=0 then Sum.inl () else Sum.inr e):Option (Unit ⊕ Int)).bind (Sum.elim (fun _=>k) (fun z=>some z)))=some (sq e v):=by
  intro e k v hk
  by_cases h:e=0
  ·simp [h,sq,hk]
  ·simp [h,sq]
 have j3:jm n q=some (sq (fsF iL q.s) (fsF qV q.e)):=by
  unfold jm
  rw [nN q.s iL (fun i hi=>by
   unfold lZ
   have hm:q.s.getD i default∈q.s:=by simp [List.getD,hi]
   rw [iP (ltI hi),iP (inI hi),tN,wH _ (q2.2 _ hm),bSq,wrs i oM]
   exact ifS _ _) (by unfold lZ;rw [iN (bq _)])]
  exact Du _ _ _ j4
 have j2:jn n q=some (sq (if q.node=[] then 0 else kT q.node) (sq (fsF iL q.s) (fsF qV q.e))):=by
  unfold jn
  by_cases h:q.node=[]
  ·rw [iP h,iP h,j3];simp [sq]
  ·rw [iN h,iN h,oj,bSq,j3]
   unfold kT
   cases ir q.node<;>simp [sq]
 have j1:jo n q=some (sq (if q.names.length>30∨q.e.length>30∨q.s.length>3 then 7 else 0) (sq (fsF kT q.names) (sq (if q.node=[] then 0 else kT q.node) (sq (fsF iL q.s) (fsF qV q.e))))):=by
  unfold jo
  by_cases h1:q.names.length>30
  ·rw [iP oM,iP (Or.inl h1)];simp [sq]
  rw [iN oM]
  by_cases h2:q.e.length>30
  ·rw [iP oM,iP (Or.inr (Or.inl h2))];simp [sq]
  rw [iN oM]
  by_cases h3:q.s.length>3
  ·rw [iP oM,iP (Or.inr (Or.inr h3))];simp [sq]
  rw [iN oM,iN oM,nN q.names kT (fun i hi=>by
   unfold ma
   rw [iP (ltI hi),iP (inI hi),tN,oj,bSq,wrs i oM]
   unfold kT
   cases ir (q.names.getD i default)<;>simp) (by unfold ma;rw [iN (bq _)])]
  rw [Du _ _ _ j2]
  simp only [sq,if_true]
 unfold oH eqF
 rw [j1]
 by_cases h1:q.names.length=0
 ·rw [iP oM,iP (Or.inl h1)];simp [sq]
 rw [iN oM]
 by_cases h2:q.node=[]
 ·rw [iP h2]
  by_cases h3:q.names.length>1
  ·rw [iP oM,iP (Or.inr ⟨h2,fun k=>by omega⟩)];simp [sq]
  rw [iN oM]
  by_cases h4:q.e.length=1
  ·rw [iN oM]
   by_cases h5:q.s.length>0
   ·rw [iP oM,iP (Or.inr ⟨h2,fun k=>by omega⟩)];simp [sq]
   ·rw [iN oM]
    have:¬ (q.names.length=0∨q.node=[]∧¬ (q.names.length=1∧q.e.length=1∧q.s.length=0)):=by
     rintro (k|⟨_,k⟩)
     ·omega
     ·exact k ⟨by omega,by omega,by omega⟩
    rw [iN this]
    simp [sq]
  ·rw [iP oM,iP (Or.inr ⟨h2,fun k=>by omega⟩)];simp [sq]
 ·have:¬ (q.names.length=0∨q.node=[]∧¬ (q.names.length=1∧q.e.length=1∧q.s.length=0)):=by
   rintro (k|⟨k,_⟩)
   ·omega
   ·exact h2 k
  rw [iN h2,iN this]
  simp [sq]
def o8(x:aJ):Int:=sq (kT x.name) (sq (if x.sizes.length>3∨x.eqs.length>60 then 7 else 0) (sq (fsF kT x.sizes) (sq (if x.out_.length=0 then 4 else 0) (sq (fh x.in_) (sq (fh x.out_) (fh x.local_))))))
def m7:Int→List TEq→ap→ap
 |_,[],f=>f
 |b,q :: l,f=>m7 (b+1) l (wf f b (eqF q))
def mi:Int→Int→List aJ→ap→ap
 |_,_,[],f=>f
 |b,i,x :: l,f=>mi (b+x.eqs.length) (i+1) l (m7 b x.eqs (wf f (-2 - i) (o8 x)))
def mj(p:aD):ap:=mi 0 0 p.nodes (wf (ap.mk 0 0) (-1) (sq (if p.nodes.length=0 then 9 else 0) (if p.nodes.length>10 then 7 else 0)))
theorem AY(f:ap)(a e:Int)(h:¬ f.code=0):wf f a e=f:=by unfold wf;rw [iN (fun k=>h k.1)]
theorem qW(l:List TEq):∀ (b:Int) (f:ap),¬ f.code=0→m7 b l f=f:=by
 induction l with
 |nil=>intro b f h;rfl
 |cons q l ih=>intro b f h;rw [m7,AY _ _ _ h,ih _ _ h]
theorem oN(l:List aJ):∀ (b i:Int) (f:ap),¬ f.code=0→mi b i l f=f:=by
 induction l with
 |nil=>intro b i f h;rfl
 |cons x l ih=>intro b i f h;rw [mi,AY _ _ _ h,qW _ _ _ h,ih _ _ _ h]
def CA(x:aJ):Prop:=x.sizes.length≤8000000∧(mX x.in_∧x.in_.length≤8000000)∧(mX x.out_∧x.out_.length≤8000000)∧(mX x.local_∧x.local_.length≤8000000)∧x.eqs.length≤8000000∧∀ q∈x.eqs,EG q
theorem tz.node{p:aD}(h:tz p){x:aJ}(hx:x∈p.nodes):CA x:=by
 obtain ⟨d1,d2,d3⟩:=h.decls _ hx
 obtain ⟨q1,q2⟩:=h.eqs _ hx
 refine ⟨h.names _ hx,d1,d2,d3,q1,fun q hq=>?_⟩
 obtain ⟨r1,r2,r3⟩:=q2 _ hq
 exact ⟨r1,r2.1,r2.2,r3⟩
theorem CB(n:Nat)(hn:8000000<n)(x:aJ)(hx:CA x)(b:Nat)(hb:b≤1000000000000)(f:ap)(a:Int) :
  ∃ z,i8 n x b (ao.mk f a)=some ((m7 b x.eqs (wf f a (o8 x))).code,(m7 b x.eqs (wf f a (o8 x))).at_,z):=by
 obtain ⟨x1,x2,x3,x4,x5,x6⟩:=hx
 have eqs:∀ (k i:Nat) (g:ap) (z:Int),i+k=x.eqs.length→∃ z',bD (fun (x16,x17,x18,x19)=>dL n x b x16 x17 x18 x19) (g.code,g.at_,z,(i:Int)) =
   some ((m7 ((b+i:Nat):Int) (x.eqs.drop i) g).code,(m7 ((b+i:Nat):Int) (x.eqs.drop i) g).at_,z'):=by
  intro k
  induction k with
  |zero =>
   intro i g z hi
   obtain rfl:i=x.eqs.length:=by omega
   refine ⟨z,?_⟩
   rw [dW]
   simp only
   unfold dL
   rw [iN (bq _),List.drop_length]
   rfl
  |succ k ih =>
   intro i g z hi
   have hlt:i<x.eqs.length:=by omega
   by_cases hc:g.code=0
   ·have hm:x.eqs.getD i default∈x.eqs:=by simp [List.getD,hlt]
    obtain ⟨z',hz⟩:=ih (i+1) (wf g ((b+i:Nat):Int) (eqF (x.eqs.getD i default))) ((b+i:Nat):Int) oM
    refine ⟨z',?_⟩
    have e:dL n x b g.code g.at_ z (i:Int)=some (.inl ((wf g ((b+i:Nat):Int) (eqF (x.eqs.getD i default))).code,(wf g ((b+i:Nat):Int) (eqF (x.eqs.getD i default))).at_,((b+i:Nat):Int),((i+1:Nat):Int))):=by
     unfold dL
     rw [iP (ltI hlt),iP hc,iP (inI hlt),tN,wrs i oM,wr (n:=(b:Int)+(i:Int)) oM oM,show (b:Int)+(i:Int)=((b+i:Nat):Int) by omega]
     rw [EH n hn _ (x6 _ hm),bSq]
     rfl
    rw [dW]
    simp only
    rw [e]
    simp only
    rw [hz,oi _ _ hlt]
    rw [m7,show ((b+(i+1):Nat):Int)=((b+i:Nat):Int)+1 by omega]
   ·refine ⟨z,?_⟩
    rw [dW]
    simp only
    unfold dL
    rw [iP (ltI hlt),iN hc,qW _ _ _ hc]
 have j1:∀ g:ap,∃ z,ce n x b (ao.mk f a) g.code g.at_=some ((m7 b x.eqs (wf g a (sq (if x.out_.length=0 then 4 else 0) (sq (fh x.in_) (sq (fh x.out_) (fh x.local_)))))).code,(m7 b x.eqs (wf g a (sq (if x.out_.length=0 then 4 else 0) (sq (fh x.in_) (sq (fh x.out_) (fh x.local_)))))).at_,z):=by
  intro g
  have e1:(if ((x.out_.length:Int) == 0)=true then (4:Int) else 0)=if x.out_.length=0 then 4 else 0:=by
   refine ifC ?_
   rw [beq_iff_eq];omega
  obtain ⟨z,hz⟩:=eqs x.eqs.length 0 (wf g a (sq (if x.out_.length=0 then 4 else 0) (sq (fh x.in_) (sq (fh x.out_) (fh x.local_))))) a oM
  refine ⟨z,?_⟩
  unfold ce
  rw [hQ _ _ _ _ dM,bSq]
  simp only [pr]
  rw [u7 _ (by have:=x2.2;omega) x2.1.2,bSq]
  simp only [pr]
  rw [u7 _ (by have:=x3.2;omega) x3.1.2,bSq]
  simp only [pr]
  rw [u7 _ (by have:=x4.2;omega) x4.1.2,bSq]
  simp only [pr]
  rw [iK,iK,iK,e1]
  have hz':=hz
  rw [show ((0:Nat):Int)=0 from rfl,List.drop_zero,Nat.add_zero] at hz'
  rw [hz']
  rfl
 have names:∀ (body:Int×Int×Int→Option ((Int×Int×Int) ⊕ (Int×Int))) (g:ap),(∀ u v w,body (u,v,w)=if w<(x.sizes.length:Int) then (if u=0 then (if (0≤w∧w<(x.sizes.length:Int)) then ((br (x.sizes.getD w.toNat default) (ao.mk (ap.mk u v) a)).bind fun y71=>some (.inl (y71.1,y71.2,(IntKind.wrap .i64 (w+1))))) else none) else (some (.inr (u,v)))) else (some (.inr (u,v)))) →
   bD body (g.code,g.at_,0)=some (pr (wf g a (fsF kT x.sizes))):=fun body g hb =>
  pm x.sizes kT a g
   (fun i f' hi hc => by
    rw [hb,iP (ltI hi),iP hc,iP (inI hi),tN,pM,bSq,wrs i oM]
    rfl)
   (fun i f' hi hc => by
    rw [hb,iP (ltI hi),iN hc];rfl)
   (fun f' => by
    rw [hb,iN (bq _)];rfl)
 unfold i8
 rw [pM,bSq]
 simp only [pr]
 obtain ⟨z,hz⟩:=j1 (wf f a (sq (kT x.name) (sq (if x.sizes.length>3∨x.eqs.length>60 then 7 else 0) (fsF kT x.sizes))))
 refine ⟨z,?_⟩
 rw [iK,zm,zm] at hz
 by_cases h1:x.sizes.length>3
 ·rw [iP oM,hQ _ _ _ _ dM,bSq]
  simp only [pr]
  rw [names _ _ (fun u v w=>rfl),bSq]
  simp only [pr]
  rw [iK,iK,iP trivial]
  rw [iP (Or.inl h1)] at hz
  rw [show (if ir x.name=true then (0:Int) else 3)=kT x.name from rfl]
  unfold o8
  rw [iP (Or.inl h1)]
  exact hz
 ·have e1:(if decide ((x.eqs.length:Int)>60)=true then (7:Int) else 0)=if x.sizes.length>3∨x.eqs.length>60 then 7 else 0:=by
   refine ifC ?_
   rw [decide_eq_true_eq];omega
  rw [iN oM,hQ _ _ _ _ dM,bSq]
  simp only [pr]
  rw [names _ _ (fun u v w=>rfl),bSq]
  simp only [pr]
  rw [iK,iK,e1]
  exact hz
theorem Du(e:Int)(k:Option Int)(v:Int)(hk:k=some v):((some (if e=0 then Sum.inl () else Sum.inr e):Option (Unit ⊕ Int)).bind (Sum.elim (fun _=>k) (fun z=>some z)))=some (sq e v):=by
 by_cases h:e=0
 ·simp [h,sq,hk]
 ·simp [h,sq]
theorem wM(x:aJ)(hx:CA x):mQ x=some (o8 x):=by
 obtain ⟨x1,x2,x3,x4,x5,x6⟩:=hx
 have j1:gW x=some (sq (if x.out_.length=0 then 4 else 0) (sq (fh x.in_) (sq (fh x.out_) (fh x.local_)))):=by
  unfold gW
  by_cases h:x.out_.length=0
  ·rw [iP oM,iP h];simp [sq]
  rw [iN oM,iN h]
  have lp:bD (fun x4=>iZ x x4) 0=some (if fsF fh [x.in_,x.out_,x.local_]=0 then .inl () else .inr (fsF fh [x.in_,x.out_,x.local_])) :=
   nN [x.in_,x.out_,x.local_] fh (fun i hi=>by
    unfold iZ lit
    have hi':i<3:=hi
    have hd:kF ([x.in_,x.out_,x.local_].getD i default)=some (fh ([x.in_,x.out_,x.local_].getD i default)):=by
     obtain rfl|rfl|rfl:i=0∨i=1∨i=2:=by omega
     ·exact u9 x.in_ (by have:=x2.2;omega) x2.1.2
     ·exact u9 x.out_ (by have:=x3.2;omega) x3.1.2
     ·exact u9 x.local_ (by have:=x4.2;omega) x4.1.2
    rw [iP oM,iP ⟨by omega,by omega⟩,tN,hd,bSq,wrs i oM]
    exact ifS _ _) (by unfold iZ;rw [iN (by simp)])
  rw [lp]
  have e:fsF fh [x.in_,x.out_,x.local_]=sq (fh x.in_) (sq (fh x.out_) (fh x.local_)):=by simp only [fsF,F4]
  rw [e]
  have:=uB (sq (fh x.in_) (sq (fh x.out_) (fh x.local_)))
  simp only [sq,if_true] at this ⊢
  exact this
 have hN:∀ w,(if ir w=true then (0:Int) else 3)=kT w:=fun w=>rfl
 unfold mQ o8
 rw [oj,bSq]
 by_cases h0:ir x.name=true
 ·rw [iP h0,show kT x.name=0 by rw [← hN,iP h0]]
  by_cases h1:x.sizes.length>3
  ·rw [iP oM,iP (Or.inl h1)];simp [sq]
  rw [iN oM]
  by_cases h2:x.eqs.length>60
  ·rw [iP oM,iP (Or.inr h2)];simp [sq]
  rw [iN oM,nN x.sizes kT (fun i hi=>by
   unfold kH
   rw [iP (ltI hi),iP (inI hi),tN,oj,bSq,wrs i oM]
   unfold kT
   cases ir (x.sizes.getD i default)<;>simp) (by unfold kH;rw [iN (bq _)])]
  rw [iN (show ¬ (x.sizes.length>3∨x.eqs.length>60) by omega),Du _ _ _ j1]
  simp only [sq,if_true]
 ·rw [iN h0,show kT x.name=3 by rw [← hN,iN h0]]
  simp [sq]
theorem BA(n:Nat)(hn:8000000<n)(p:aD)(hp:tz p):nE n p=some (mj p):=by
 have e1:(if ((p.nodes.length:Int) == 0)=true then (9:Int) else 0)=if p.nodes.length=0 then 9 else 0:=by
  refine ifC ?_
  rw [beq_iff_eq];omega
 have e2:(if decide ((p.nodes.length:Int)>10)=true then (7:Int) else 0)=if p.nodes.length>10 then 7 else 0:=by
  refine ifC ?_
  rw [decide_eq_true_eq];omega
 unfold nE mj
 rw [hQ _ _ _ _ dM,bSq]
 simp only [pr]
 rw [hQ _ _ _ _ dM,bSq,iK,e1,e2]
 simp only [pr]
 generalize hf:wf (ap.mk 0 0) (-1) (sq (if p.nodes.length=0 then 9 else 0) (if p.nodes.length>10 then 7 else 0))=f0
 by_cases h10:p.nodes.length>10
 ·have hc:¬ f0.code=0:=by
   rw [← hf]
   unfold wf sq
   rw [iN (show ¬ p.nodes.length=0 by omega),iP rfl,iP h10]
   decide
  have e:dQ n p f0.code f0.at_ (-1) 0 0=some (.inr (f0.code,f0.at_,-1)):=by
   unfold dQ
   rw [iP oM,iN hc]
  rw [oN _ _ _ _ hc,dW]
  simp only
  rw [e]
  rfl
 ·have key:∀ (k i b:Nat) (g:ap) (z:Int),i+k=p.nodes.length→b≤8000000 * i→∃ z',bD (fun (x16,x17,x18,x19,x20)=>dQ n p x16 x17 x18 x19 x20) (g.code,g.at_,z,(b:Int),(i:Int)) =
    some ((mi b i (p.nodes.drop i) g).code,(mi b i (p.nodes.drop i) g).at_,z'):=by
   intro k
   induction k with
   |zero =>
    intro i b g z hi hb
    obtain rfl:i=p.nodes.length:=by omega
    refine ⟨z,?_⟩
    have e:dQ n p g.code g.at_ z b p.nodes.length=some (.inr (g.code,g.at_,z)):=by
     unfold dQ
     rw [iN (bq _)]
    rw [dW]
    simp only
    rw [e,List.drop_length]
    rfl
   |succ k ih =>
    intro i b g z hi hb
    have hlt:i<p.nodes.length:=by omega
    by_cases hc:g.code=0
    ·have hm:p.nodes.getD i default∈p.nodes:=by simp [List.getD,hlt]
     have hns:=hp.node hm
     obtain ⟨z1,hz1⟩:=CB n hn _ hns b oM g (-2 - (i:Int))
     have h8:=hns.2.2.2.2.1
     obtain ⟨z',hz⟩:=ih (i+1) (b+(p.nodes.getD i default).eqs.length) (m7 b (p.nodes.getD i default).eqs (wf g (-2 - (i:Int)) (o8 (p.nodes.getD i default)))) z1 oM oM
     refine ⟨z',?_⟩
     have e:dQ n p g.code g.at_ z b i=some (.inl ((m7 b (p.nodes.getD i default).eqs (wf g (-2 - (i:Int)) (o8 (p.nodes.getD i default)))).code,(m7 b (p.nodes.getD i default).eqs (wf g (-2 - (i:Int)) (o8 (p.nodes.getD i default)))).at_,z1,((b+(p.nodes.getD i default).eqs.length:Nat):Int),((i+1:Nat):Int))):=by
      unfold dQ
      rw [iP (ltI hlt),iP hc,iP (inI hlt),tN,wrs i oM,wr (n:=-2 - (i:Int)) oM oM,wr (n:=(b:Int)+((p.nodes.getD i default).eqs.length:Int)) oM oM,hz1,bSq]
      simp only [Int.natCast_add]
     rw [dW]
     simp only
     rw [e]
     simp only
     rw [hz,oi _ _ hlt]
     rw [mi]
     simp only [Int.natCast_add,Int.natCast_one,Int.cast_ofNat_Int]
    ·refine ⟨z,?_⟩
     have e:dQ n p g.code g.at_ z b i=some (.inr (g.code,g.at_,z)):=by
      unfold dQ
      rw [iP (ltI hlt),iN hc]
     rw [dW]
     simp only
     rw [e,oN _ _ _ _ hc]
  obtain ⟨z',hz⟩:=key p.nodes.length 0 0 f0 (-1) oM oM
  rw [show ((0:Nat):Int)=0 from rfl,List.drop_zero] at hz
  rw [hz]
  rfl
theorem EI(n:Nat)(hn:8000000<n)(p:aD)(hp:tz p)(i:Nat)(hi:i<p.nodes.length)(b:Nat)(hb:b≤1000000000000) :
  bD (fun (x18,x19)=>cT n p i x18 x19) ((b:Int),0)=some (if (m7 b (p.nodes.getD i default).eqs (ap.mk 0 0)).code=0 then .inl ((b+(p.nodes.getD i default).eqs.length:Nat):Int) else .inr (m7 b (p.nodes.getD i default).eqs (ap.mk 0 0))):=by
 have hm:p.nodes.getD i default∈p.nodes:=by simp [List.getD,hi]
 obtain ⟨x1,x2,x3,x4,x5,x6⟩:=hp.node hm
 have key:∀ (k j:Nat),j+k=(p.nodes.getD i default).eqs.length→bD (fun (x18,x19)=>cT n p i x18 x19) (((b+j:Nat):Int),(j:Int)) =
   some (if (m7 ((b+j:Nat):Int) ((p.nodes.getD i default).eqs.drop j) (ap.mk 0 0)).code=0 then .inl ((b+(p.nodes.getD i default).eqs.length:Nat):Int) else .inr (m7 ((b+j:Nat):Int) ((p.nodes.getD i default).eqs.drop j) (ap.mk 0 0))):=by
  intro k
  induction k with
  |zero =>
   intro j hj
   obtain rfl:j=(p.nodes.getD i default).eqs.length:=by omega
   have e:cT n p i ((b+(p.nodes.getD i default).eqs.length:Nat):Int) (p.nodes.getD i default).eqs.length=some (.inr (.inl ((b+(p.nodes.getD i default).eqs.length:Nat):Int))):=by
    unfold cT
    rw [tN,iN (bq _)]
   rw [dW]
   simp only
   rw [e,List.drop_length]
   rfl
  |succ k ih =>
   intro j hj
   have hlt:j<(p.nodes.getD i default).eqs.length:=by omega
   have hq:(p.nodes.getD i default).eqs.getD j default∈(p.nodes.getD i default).eqs:=bm hlt
   rw [oi _ _ hlt,m7]
   by_cases h:eqF ((p.nodes.getD i default).eqs.getD j default)=0
   ·have e:cT n p i ((b+j:Nat):Int) j=some (.inl (((b+(j+1):Nat):Int),((j+1:Nat):Int))):=by
     unfold cT
     rw [tN,iP (ltI hlt),iP (inI hlt),tN,Cz n hn _ (x6 _ hq),bSq,iN (fun k=>k h),wrs j oM,wrs (b+j) oM]
     rfl
    rw [dW]
    simp only
    rw [e]
    simp only
    rw [ih (j+1) oM,h,zg]
    rfl
   ·have e:cT n p i ((b+j:Nat):Int) j=some (.inr (.inr (ap.mk (eqF ((p.nodes.getD i default).eqs.getD j default)) ((b+j:Nat):Int)))):=by
     unfold cT so
     rw [tN,iP (ltI hlt),iP (inI hlt),tN,Cz n hn _ (x6 _ hq),bSq,iP h]
     rfl
    have w:wf (ap.mk 0 0) ((b+j:Nat):Int) (eqF ((p.nodes.getD i default).eqs.getD j default))=ap.mk (eqF ((p.nodes.getD i default).eqs.getD j default)) ((b+j:Nat):Int):=by
     unfold wf;rw [iP ⟨rfl,h⟩]
    rw [dW]
    simp only
    rw [e,w,qW _ _ _ h]
    simp only
    rw [iN h]
 have k0:=key (p.nodes.getD i default).eqs.length 0 oM
 rw [Nat.add_zero,List.drop_zero] at k0
 exact k0
theorem BB(n:Nat)(hn:8000000<n)(p:aD)(hp:tz p):jE n p=if (mj p).code=0 then fO n p else some (mj p):=by
 unfold jE mj so
 by_cases h0:p.nodes.length=0
 ·have hn:p.nodes=[]:=List.length_eq_zero_iff.1 h0
  rw [iP oM,hn]
  rfl
 rw [iN oM]
 by_cases h10:p.nodes.length>10
 ·have w:wf (ap.mk 0 0) (-1) (sq (if p.nodes.length=0 then 9 else 0) (if p.nodes.length>10 then 7 else 0))=ap.mk 7 (-1):=by
   unfold wf sq
   rw [iN h0,iP rfl,iP h10];rfl
  rw [iP oM,w,oN _ _ _ _ dM,iN dM]
  rfl
 have w:wf (ap.mk 0 0) (-1) (sq (if p.nodes.length=0 then 9 else 0) (if p.nodes.length>10 then 7 else 0))=ap.mk 0 0:=by
  unfold wf sq
  rw [iN h0,iP rfl,iN h10];rfl
 have key:∀ (k i b:Nat),i+k=p.nodes.length→b≤8000000 * i→bD (fun (x9,x10)=>cM n p x9 x10) ((b:Int),(i:Int)) =
   some (if (mi b i (p.nodes.drop i) (ap.mk 0 0)).code=0 then .inl () else .inr (mi b i (p.nodes.drop i) (ap.mk 0 0))):=by
  intro k
  induction k with
  |zero =>
   intro i b hi hb
   obtain rfl:i=p.nodes.length:=by omega
   have e:cM n p b p.nodes.length=some (.inr (.inl ())):=by
    unfold cM
    rw [iN (bq _)]
   rw [dW]
   simp only
   rw [e,List.drop_length]
   rfl
  |succ k ih =>
   intro i b hi hb
   have hlt:i<p.nodes.length:=by omega
   have hm:p.nodes.getD i default∈p.nodes:=by simp [List.getD,hlt]
   have hns:=hp.node hm
   have h8:=hns.2.2.2.2.1
   rw [oi _ _ hlt,mi]
   by_cases h:o8 (p.nodes.getD i default)=0
   ·rw [h,zg]
    have hl:=EI n hn p hp i hlt b oM
    by_cases hc:(m7 b (p.nodes.getD i default).eqs (ap.mk 0 0)).code=0
    ·rw [iP hc] at hl
     have hz:m7 b (p.nodes.getD i default).eqs (ap.mk 0 0)=ap.mk 0 0:=by
      have:∀ (l:List TEq) (b:Int),(m7 b l (ap.mk 0 0)).code=0→m7 b l (ap.mk 0 0)=ap.mk 0 0:=by
       intro l
       induction l with
       |nil=>intro b _;rfl
       |cons q l il =>
        intro b hq
        rw [m7] at hq ⊢
        by_cases h9:eqF q=0
        ·rw [h9,zg] at hq ⊢;exact il _ hq
        ·have w9:wf (ap.mk 0 0) b (eqF q)=ap.mk (eqF q) b:=by unfold wf;rw [iP ⟨rfl,h9⟩]
         rw [w9,qW _ _ _ h9] at hq
         exact absurd hq h9
      exact this _ _ hc
     have e:cM n p b i=some (.inl (((b+(p.nodes.getD i default).eqs.length:Nat):Int),((i+1:Nat):Int))):=by
      unfold cM
      rw [iP (ltI hlt),iP (inI hlt),tN,wM _ hns,bSq,iN (fun k=>k h),hl,bSq]
      show fP _ _=_
      unfold fP
      rw [wrs i oM]
     rw [dW]
     simp only
     rw [e]
     simp only
     rw [ih (i+1) (b+(p.nodes.getD i default).eqs.length) oM oM,hz]
     simp only [Int.natCast_add,Int.natCast_one,Int.cast_ofNat_Int]
    ·rw [iN hc] at hl
     have e:cM n p b i=some (.inr (.inr (m7 b (p.nodes.getD i default).eqs (ap.mk 0 0)))):=by
      unfold cM
      rw [iP (ltI hlt),iP (inI hlt),tN,wM _ hns,bSq,iN (fun k=>k h),hl,bSq]
      rfl
     rw [dW]
     simp only
     rw [e,oN _ _ _ _ hc]
     simp only
     rw [iN hc]
   ·have w9:wf (ap.mk 0 0) (-2 - (i:Int)) (o8 (p.nodes.getD i default))=ap.mk (o8 (p.nodes.getD i default)) (-2 - (i:Int)):=by unfold wf;rw [iP ⟨rfl,h⟩]
    have e:cM n p b i=some (.inr (.inr (ap.mk (o8 (p.nodes.getD i default)) (-2 - (i:Int))))):=by
     unfold cM so
     rw [iP (ltI hlt),iP (inI hlt),tN,wM _ hns,bSq,iP h,wr (n:=-2 - (i:Int)) oM oM]
     rfl
    rw [dW]
    simp only
    rw [e,w9,qW _ _ _ h,oN _ _ _ _ h]
    simp only
    rw [iN h]
 have k0:=key p.nodes.length 0 0 oM oM
 rw [show ((0:Nat):Int)=0 from rfl,List.drop_zero] at k0
 rw [iN oM,k0,w]
 by_cases hc:(mi 0 0 p.nodes (ap.mk 0 0)).code=0
 ·rw [iP hc,iP hc];rfl
 ·rw [iN hc,iN hc];rfl
def m8{T:Type}(F:Nat→T→Ω):Nat→List T→Ω
 |_,[]=>[]
 |i,x :: l=>F i x++m8 F (i+1) l
def uI{T:Type}(w:T→Nat):List T→Nat
 |[]=>0
 |x :: l=>w x+uI w l
theorem ep{T:Type}(w:T→Nat)(l:List T):uI w l+1=szL w l:=by
 unfold szL
 induction l with
 |nil=>rfl
 |cons x l ih=>simp only [uI,List.map_cons,List.sum_cons] at *;omega
theorem mR{T:Type}(F:Nat→T→Ω)(w:T→Nat)(l:List T):∀ (i:Nat),(∀ i,∀ x∈l,(F i x).length≤32 * w x)→(m8 F i l).length≤32 * uI w l:=by
 induction l with
 |nil=>intro i _;simp [m8]
 |cons x l ih =>
  intro i h
  have h1:=h i x (by simp)
  have h2:=ih (i+1) (fun i y hy=>h i y (by simp [hy]))
  simp only [m8,uI,List.length_append];omega
theorem mS{T:Type}[Inhabited T](l:List T)(F:Nat→T→Ω)(w:T→Nat){body:Ω×Int→Option ((Ω×Int) ⊕ Ω)}(s0:Ω)(M:Nat)
  (hM:s0.length+32 * uI w l≤M) (hw:∀ i,∀ x∈l,(F i x).length≤32 * w x)
  (hb:∀ (i:Nat) (s:Ω),i<l.length→s.length+32 * w (l.getD i default)≤M→body (s,(i:Int))=some (.inl (s++F i (l.getD i default),((i+1:Nat):Int))))
  (he:∀ s,body (s,(l.length:Int))=some (.inr s)):bD body (s0,0)=some (s0++m8 F 0 l):=by
 have key:∀ (k i:Nat) (s:Ω),i+k=l.length→s.length+32 * uI w (l.drop i)≤M→bD body (s,(i:Int))=some (s++m8 F i (l.drop i)):=by
  intro k
  induction k with
  |zero =>
   intro i s hi _
   obtain rfl:i=l.length:=by omega
   rw [dW,he,List.drop_length]
   simp [m8]
  |succ k ih =>
   intro i s hi hs
   have hlt:i<l.length:=by omega
   have hm:=hw i _ (bm hlt)
   rw [oi _ _ hlt,uI] at hs
   rw [dW,hb i s hlt oM]
   simp only
   rw [ih (i+1) _ oM (by rw [List.length_append];omega),oi _ _ hlt,m8,List.append_assoc]
 exact key l.length 0 s0 oM hM
theorem qX{T U:Type}[Inhabited T](l:List T)(F:T→U){body:List U×Int→Option ((List U×Int) ⊕ List U)}
  (hb:∀ (i:Nat) (s:List U),i<l.length→s.length=i→body (s,(i:Int))=some (.inl (s++[F (l.getD i default)],((i+1:Nat):Int))))
  (he:∀ s,body (s,(l.length:Int))=some (.inr s)):bD body ([],0)=some (l.map F):=by
 have key:∀ (k i:Nat) (s:List U),i+k=l.length→s.length=i→bD body (s,(i:Int))=some (s++(l.drop i).map F):=by
  intro k
  induction k with
  |zero =>
   intro i s hi _
   obtain rfl:i=l.length:=by omega
   rw [dW,he,List.drop_length]
   simp
  |succ k ih =>
   intro i s hi hs
   have hlt:i<l.length:=by omega
   rw [dW,hb i s hlt hs]
   simp only
   rw [ih (i+1) _ oM (by simp [hs]),oi _ _ hlt]
   simp
 have:=key l.length 0 [] oM rfl
 simpa using this
def wN{T:Type}(F:T→Ω)(i:Nat)(x:T):Ω:=(if 0<i then [44,32] else [])++F x
def com(l:List Ω):Ω:=Go.Lib.join l [44,32]
theorem CC{T:Type}(F:T→Ω)(l:List T):∀ i,m8 (wN F) (i+1) l=Go.Lib.joinTail [44,32] (l.map F):=by
 induction l with
 |nil=>intro i;rfl
 |cons x l ih=>intro i;rw [m8,ih];simp [wN,Go.Lib.joinTail]
theorem uJ{T:Type}(F:T→Ω)(l:List T):m8 (wN F) 0 l=com (l.map F):=by
 cases l with
 |nil=>rfl
 |cons x l =>
  rw [m8,CC,com,List.map_cons,Go.Lib.join_cons];rfl
theorem uK{T:Type}{F:T→Ω}{w:Nat}{x:T}(h:(F x).length+2≤w)(i:Nat):(wN F i x).length≤w:=by
 unfold wN
 split<;>simp<;>omega
theorem qj{T:Type}(F:T→Ω)(w:T→Nat)(l:List T)(h:∀ x∈l,(F x).length+2≤32 * w x):(com (l.map F)).length≤32 * uI w l:=by
 rw [← uJ]
 exact mR _ _ _ _ (fun i x hx=>uK (h x hx) i)
def lP(s:List ah):Ω:=fd true (s.map fun t=>(t.n,t.name))
theorem vO(n:Int)(h0:-9223372036854775808≤n)(h1:n≤9223372036854775807):(Go.Lib.itoa n).length≤21:=Go.Lib.itoa_length_le n h0 h1
theorem zn(n:Int)(w:Ω)(h0:-9223372036854775808≤n)(h1:n≤9223372036854775807):(ka n w).length≤22+w.length:=by
 have:=vO n h0 h1
 unfold ka
 split
 ·omega
 ·split
  ·omega
  ·simp;omega
def wO(t:ah):Prop:=-1000000000000000000<t.n∧t.n<1000000000000000000
theorem vd(f:Bool)(t:ah)(h:wO t):(mL f t.n t.name).length+2≤32 * t.sz:=by
 obtain ⟨h0,h1⟩:=h
 have hz:t.sz=t.name.length+3:=by unfold ah.sz szI szS;omega
 have k1:=zn (-t.n) t.name oM oM
 have k2:=zn t.n t.name oM oM
 unfold mL
 split<;>cases f<;>simp only [List.length_append,List.length_cons,List.length_nil,if_true,if_false,Bool.false_eq_true]<;>omega
theorem Am(l:List ah):∀ i,fd (i == 0) (l.map fun t=>(t.n,t.name))=m8 (fun i t=>mL (i == 0) t.n t.name) i l:=by
 induction l with
 |nil=>intro i;rfl
 |cons t l ih =>
  intro i
  rw [List.map_cons,fd,m8,← ih (i+1)]
  rfl
theorem xJ(s:List ah):lP s=m8 (fun i t=>mL (i == 0) t.n t.name) 0 s:=Am s 0
theorem mC(s:List ah)(h:∀ t∈s,wO t):(lP s).length+32≤32 * szL ah.sz s:=by
 rw [xJ]
 have:=mR (fun i t=>mL (i == 0) t.n t.name) ah.sz s 0 (fun i t ht=>by have:=vd (i == 0) t (h t ht);omega)
 have:=ep ah.sz s
 omega
theorem wP(s:List ah)(h:∀ t∈s,wO t)(hs:szL ah.sz s≤1048576):nc s=some (lP s):=by
 have h1:=mC s h
 have h2:=ef ah.sz_pos s
 unfold nc
 rw [iP ⟨by omega,fun t ht=>⟨by have:=(h t ht).1;omega,by have:=(h t ht).2;omega⟩,by
  show (lP s).length≤_
  omega⟩]
 rfl
theorem EJ(n:Int)(h0:-9223372036854775808≤n)(h1:n≤9223372036854775807):fj n 10=some (Go.Lib.itoa n):=by
 unfold fj
 rw [iP ⟨rfl,h0,h1⟩]
theorem ve(s:List ah)(h:∀ t∈s,wO t)(hs:szL ah.sz s≤1048576):lg s=some (lP s):=by
 have h2:=ef ah.sz_pos s
 have h3:=ep ah.sz s
 unfold lg
 rw [mS s (fun i t=>mL (i == 0) t.n t.name) ah.sz [] 100000000 (by simp only [List.length_nil];omega) (fun i t ht=>by have:=vd (i == 0) t (h t ht);omega)
  (fun i z hi hz => by
   have ht:=h _ (bm hi)
   have hl:=vd (i == 0) _ ht
   have hZ:(s.getD i default).sz=(s.getD i default).name.length+3:=by unfold ah.sz szI szS;omega
   show iz s z i=_
   unfold iz
   rw [iP (ltI hi),iP (inI hi),tN]
   obtain ⟨t0,t1⟩:=ht
   have j5:∀ (m:Int) (z':Ω),0≤m→m≤1000000000000000000→z'.length+60+(s.getD i default).name.length≤200000000→gB s i m z'=some (.inl (z'++ka m (s.getD i default).name,((i+1:Nat):Int))):=by
    intro m z' hm0 hm1 hz'
    have hlen:=vO m oM oM
    have j6:∀ z'':Ω,z''.length+(s.getD i default).name.length≤300000000→e9 s i z''=some (.inl (z''++(s.getD i default).name,((i+1:Nat):Int))):=by
     intro z'' hz''
     unfold e9 maxLen
     rw [tN,iP oM,wrs i oM]
    unfold gB ka
    rw [tN,EJ m oM oM,bSq]
    by_cases hn:(s.getD i default).name=[]
    ·rw [iP hn,iP hn,iP hn,iP (by unfold maxLen;omega),j6 _ (by rw [List.length_append];omega),hn,List.append_nil]
    ·rw [iN hn,iN hn,iN hn]
     by_cases h1:m=1
     ·rw [iN (fun k=>k h1),iP h1,j6 _ oM]
     ·rw [iP h1,iN h1,iP (by unfold maxLen;omega),iP (by unfold maxLen;omega),j6 _ (by simp only [List.length_append,List.length_cons,List.length_nil];omega)]
      simp
   unfold mL
   by_cases hneg:(s.getD i default).n<0
   ·rw [iP hneg,iP hneg,wr (n:=0 - (s.getD i default).n) oM oM]
    unfold iy
    rw [tN]
    by_cases hi0:i=0
    ·subst hi0
     unfold fb fa
     rw [iN (by simp),iN (by simp),iP (by simp),tN,iP hneg,iP (by unfold maxLen;omega)]
     rw [j5 _ _ oM oM (by simp only [List.length_append,List.length_cons,List.length_nil];omega)]
     simp
    ·rw [iP oM,iP hneg,iP (by unfold maxLen;omega)]
     unfold fb fa
     rw [iP oM,tN,iP hneg,iN oM]
     rw [j5 _ _ oM oM (by simp only [List.length_append,List.length_cons,List.length_nil];omega)]
     simp [hi0]
   ·rw [iN hneg,iN hneg]
    unfold iy
    rw [tN]
    by_cases hi0:i=0
    ·subst hi0
     unfold fb fa
     rw [iN (by simp),iN (by simp),iP (by simp),tN,iN hneg]
     rw [j5 _ _ oM oM oM]
     simp
    ·rw [iP oM,iN hneg]
     unfold fb fa
     rw [iP oM,tN,iN hneg,iP (by unfold maxLen;omega),iN oM]
     rw [j5 _ _ oM oM (by simp only [List.length_append,List.length_cons,List.length_nil];omega)]
     simp [hi0])
  (fun z => by
   show iz s z s.length=_
   unfold iz
   rw [iN (bq _)])]
 rw [xJ]
 rfl
theorem xK{T:Type}{F:T→Int}{l:List T}(h:fsF F l=0):∀ x∈l,F x=0:=by
 induction l with
 |nil=>intro x hx;simp at hx
 |cons a l ih =>
  have h':sq (F a) (fsF F l)=0:=h
  unfold sq at h'
  by_cases ha:F a=0
  ·rw [iP ha] at h'
   intro x hx
   rcases List.mem_cons.1 hx with rfl|hx
   ·exact ha
   ·exact ih h' x hx
  ·rw [iN ha] at h';exact absurd h' ha
theorem nX{a b:Int}(h:sq a b=0):a=0∧b=0:=by
 unfold sq at h
 by_cases ha:a=0
 ·rw [iP ha] at h;exact ⟨ha,h⟩
 ·rw [iN ha] at h;exact absurd h ha
theorem yr{s:List ah}(h:iL s=0):∀ t∈s,wO t:=by
 unfold iL at h
 split at h
 ·omega
 ·split at h
  ·omega
  ·intro t ht
   have:=xK h t ht
   unfold uC at this
   split at this
   ·omega
   ·rename_i k;exact ⟨by omega,by omega⟩
def qY(d:ax):Prop:=∀ t∈d.t.n,wO t
theorem Dv{d:ax}(h:xG d=0):qY d:=by
 obtain ⟨_,h1⟩:=nX h
 obtain ⟨_,h2⟩:=nX h1
 split at h2
 ·exact yr h2
 ·intro t ht
  have:=List.length_pos_of_mem ht
  omega
theorem wQ{l:List ax}(h:fh l=0):∀ d∈l,qY d:=by
 unfold fh at h
 split at h
 ·omega
 ·intro d hd;exact Dv (xK h d hd)
theorem zo(w:Ω):w.length+2≤32 * szS w:=by unfold szS;omega
theorem pQ(l:List Ω):(com l).length+32≤32 * szL szS l:=by
 have h1:=qj (F:=id) szS l (fun x _=>zo x)
 have h2:=ep szS l
 rw [List.map_id] at h1
 omega
theorem zp{l:List Ω}(h:l.length≤1048576)(h2:(com l).length≤140737488355328):gh l ([44,32]:Ω)=some (com l):=by
 unfold gh
 rw [iP ⟨h,h2⟩];rfl
theorem CD(l:List Ω)(h:szL szS l≤1048576):gh l ([44,32]:Ω)=some (com l):=by
 have h1:=pQ l
 have h2:=ef vN l
 exact zp oM oM
theorem wR(l:List Ω)(w:Ω→Nat)(h:∀ x∈l,x.length+2≤32 * w x)(hl:l.length≤1048576)(hs:uI w l≤10000000):gc l=some (com l):=by
 unfold gc
 rw [mS l (wN id) w [] 400000000 (by simp only [List.length_nil];omega) (fun i x hx=>uK (h x hx) i)
  (fun i s hi hz => by
   have hx:=h _ (bm hi)
   show hI l s i=_
   unfold hI
   rw [iP (ltI hi)]
   have j2:∀ s':Ω,s'.length≤500000000→gZ l i s'=some (.inl (s'++l.getD i default,((i+1:Nat):Int))):=by
    intro s' hs'
    unfold gZ maxLen
    rw [tN,iP ⟨inI hi,by omega⟩,wrs i oM]
   unfold wN
   by_cases h0:0<i
   ·rw [iP oM,iP h0,iP (by unfold maxLen;omega),j2 _ (by simp only [List.length_append,List.length_cons,List.length_nil];omega),List.append_assoc]
    rfl
   ·rw [iN oM,iN h0,j2 _ oM]
    rfl)
  (fun s => by
   show hI l s l.length=_
   unfold hI
   rw [iN (bq _)])]
 rw [uJ,List.map_id]
 rfl
theorem xL(l:List Ω)(h:szL szS l≤1048576):gc l=some (com l):=by
 have h2:=ef vN l
 have h3:=ep szS l
 exact wR l szS (fun x _=>zo x) oM oM
def An(t:gK):Ω:=(if t.elem=98 then [98,111,111,108] else [105,110,116])++(if t.n.length>0 then 94 :: lP t.n else [])
def lu(d:ax):Ω:=d.name++([58,32]++An d.t)
theorem sX(d:ax)(h:qY d):(lu d).length+2≤32 * d.sz:=by
 have h1:=mC d.t.n h
 have h2:d.sz=szS d.name+(szI d.t.elem+szL ah.sz d.t.n+1)+1:=by unfold ax.sz gK.sz;omega
 unfold szS szI at h2
 unfold lu An
 split<;>split<;>simp only [List.length_append,List.length_cons,List.length_nil]<;>omega
theorem yt(d:ax):d.sz=szS d.name+(szI d.t.elem+szL ah.sz d.t.n+1)+1:=by unfold ax.sz gK.sz;omega
theorem wS(d:ax)(h:qY d)(hs:d.sz≤1048576):lW d=some (lu d):=by
 have h1:=mC d.t.n h
 have h2:=yt d
 unfold szS szI at h2
 have j1:∀ s:Ω,s.length≤10→kb d.t s=some (s++(if d.t.n.length>0 then 94 :: lP d.t.n else [])):=by
  intro s hsl
  unfold kb
  by_cases h0:d.t.n.length>0
  ·rw [iP oM,iP h0,wP _ h oM,bSq,iP (by unfold maxLen;omega)];rfl
  ·rw [iN oM,iN h0,List.append_nil]
 have ht:pF d.t=some (An d.t):=by
  unfold pF An
  by_cases h9:d.t.elem=98
  ·rw [iP h9,iP h9,j1 _ dM]
  ·rw [iN h9,iN h9,j1 _ dM]
 have hl:=sX d h
 unfold lu at hl ⊢
 simp only [List.length_append,List.length_cons,List.length_nil] at hl
 unfold lW maxLen
 rw [iP oM,ht,bSq,iP oM,List.append_assoc]
theorem zq(d:ax)(h:qY d)(hs:d.sz≤1048576):jV d=some (lu d):=by
 have h1:=mC d.t.n h
 have h2:=yt d
 unfold szS szI at h2
 have j1:∀ s:Ω,s.length≤2000000→iA d s=some (s++(if d.t.n.length>0 then 94 :: lP d.t.n else [])):=by
  intro s hsl
  unfold iA
  by_cases h0:d.t.n.length>0
  ·rw [iP oM,iP h0,ve _ h oM,bSq,iP (by unfold maxLen;omega)];rfl
  ·rw [iN oM,iN h0,List.append_nil]
 unfold jV lu An maxLen
 rw [iP oM]
 by_cases h9:d.t.elem=98
 ·rw [iP h9,iP h9,iP oM,j1 _ (by simp only [List.length_append,List.length_cons,List.length_nil];omega)]
  simp only [List.append_assoc]
 ·rw [iN h9,iN h9,iP oM,j1 _ (by simp only [List.length_append,List.length_cons,List.length_nil];omega)]
  simp only [List.append_assoc]
theorem oO(l:List ax)(h:∀ d∈l,qY d):(com (l.map lu)).length+32≤32 * szL ax.sz l:=by
 have h1:=qj (F:=lu) ax.sz l (fun x hx=>sX x (h x hx))
 have h2:=ep ax.sz l
 omega
theorem vx(l:List ax)(h:∀ d∈l,qY d)(hs:szL ax.sz l≤1048576):fR l=some (com (l.map lu)):=by
 have h1:=oO l h
 have h2:=ef ax.sz_pos l
 unfold fR
 rw [qX l lu (fun i s hi hsl=>by
  have hm:=iO (f:=ax.sz) (bm hi)
  show dR l s i=_
  unfold dR
  rw [iP (ltI hi),iP (inI hi),tN,wS _ (h _ (bm hi)) oM,bSq,iP (qh oM oM),wrs i oM]
  rfl) (fun s=>by
  show dR l s l.length=_
  unfold dR
  rw [iN (bq _)]),bSq]
 unfold eT
 rw [zp (by rw [List.length_map];omega) oM]
 rfl
theorem wT(l:List ax)(h:∀ d∈l,qY d)(hs:szL ax.sz l≤1048576):lF l=some (40 :: (com (l.map lu)++[41])):=by
 have h1:=oO l h
 have h2:=ef ax.sz_pos l
 have h3:=ep ax.sz l
 unfold lF
 rw [mS l (wN lu) ax.sz [] 400000000 (by simp only [List.length_nil];omega) (fun i x hx=>uK (sX x (h x hx)) i)
  (fun i s hi hz => by
   have hx:=sX _ (h _ (bm hi))
   have hm:=iO (f:=ax.sz) (bm hi)
   show hO l s i=_
   unfold hO
   rw [iP (ltI hi)]
   have j2:∀ s':Ω,s'.length≤500000000→hK l i s'=some (.inl (s'++lu (l.getD i default),((i+1:Nat):Int))):=by
    intro s' hs'
    unfold hK maxLen
    rw [iP (inI hi),tN,zq _ (h _ (bm hi)) oM,bSq,iP oM,wrs i oM]
   unfold wN
   by_cases h0:0<i
   ·rw [iP oM,iP h0,iP (by unfold maxLen;omega),j2 _ (by simp only [List.length_append,List.length_cons,List.length_nil];omega),List.append_assoc]
   ·rw [iN oM,iN h0,j2 _ oM]
    rfl)
  (fun s => by
   show hO l s l.length=_
   unfold hO
   rw [iN (bq _)])]
 rw [uJ,bSq]
 unfold i6 maxLen
 rw [List.nil_append,iP oM]
 rfl
def vf(l:List (List ah)):Prop:=∀ s∈l,∀ t∈s,wO t
theorem wU{l:List (List ah)}(h:vf l):∀ s∈l,(lP s).length+2≤32 * szL ah.sz s:=fun s hs=>by
 have:=mC s (h s hs);omega
theorem sG(l:List (List ah))(h:vf l):(com (l.map lP)).length+32≤32 * szL (szL ah.sz) l:=by
 have h1:=qj (F:=lP) (szL ah.sz) l (wU h)
 have h2:=ep (szL ah.sz) l
 omega
theorem vy(l:List (List ah))(h:vf l)(hs:szL (szL ah.sz) l≤1048576):fS l=some (com (l.map lP)):=by
 have h1:=sG l h
 have h2:=ef uH l
 unfold fS
 rw [qX l lP (fun i s hi hsl=>by
  have hm:=iO (f:=szL ah.sz) (bm hi)
  show dS l s i=_
  unfold dS
  rw [iP (ltI hi),iP (inI hi),tN,wP _ (h _ (bm hi)) oM,bSq,iP (qh oM oM),wrs i oM]
  rfl) (fun s=>by
  show dS l s l.length=_
  unfold dS
  rw [iN (bq _)]),bSq]
 unfold eU
 rw [zp (by rw [List.length_map];omega) oM]
 rfl
def wV:List Int:=[0,4,4,5,5,5,0,0,3,3,2,1,1]
def CE:List Ω:=[[],[97,100,100],[115,117,98],[109,117,108],[100,105,118],[109,111,100],[109,105,110],[109,97,120],[108,101,115,115],[101,113],[97,110,100],[111,114],[120,111,114],[110,101,103],[110,111,116]]
def AZ:List Ω:=[[],[43],[45],[42],[47],[37],[],[],[60],[61,61],[97,110,100],[111,114],[120,111,114]]
def yu:List Ω:=[[109,97,112],[102,111,108,100],[115,99,97,110],[102,105,108,108],[],[119,105,116,104],[115,108,105,99,101],[99,97,116],[112,114,101]]
def qk(k:Int):Ω:=CE.getD k.toNat []
def rS(k:Int):Ω:=AZ.getD k.toNat []
def sH(op:Int):Ω:=yu.getD (op - 7).toNat []
def rkE(x:ae):Int:=if x.op=6 then 0 else if x.op=4 then 6 else if x.op=5 then (if x.k=6∨x.k=7 then 7 else wV.getD x.k.toNat 0) else 7
def paT(r m:Int)(t:Ω):Ω:=if r<m then 40 :: (t++[41]) else t
def atT(T:ae→Ω)(x:ae)(m:Int):Ω:=paT (rkE x) m (T x)
def nO(l:List (List ah)):Ω:=m8 (fun _ s=>44 :: 32 :: lP s) 0 l
def ow(T:ae→Ω)(x:ae):Ω :=
 (if x.op=5 then qk x.k else sH x.op)++(40 :: ((if x.op=7∨x.op=8∨x.op=9 then qk x.k++[44,32] else [])++(com (x.l.map T)++(nO x.s++[41]))))
def exB(T:ae→Ω)(x:ae):Ω :=
 if x.op=1 then Go.Lib.itoa x.n else if x.op=2 then (if x.n=1 then [116,114,117,101] else [102,97,108,115,101]) else if x.op=3 then x.name
 else if x.op=4 then (if x.k=13 then [45] else [110,111,116,32])++atT T (x.l.getD 0 default) 6
 else if x.op=6 then [105,102,32]++(T (x.l.getD 0 default)++([32,116,104,101,110,32]++(T (x.l.getD 1 default)++([32,101,108,115,101,32]++T (x.l.getD 2 default)))))
 else if x.op=11 then atT T (x.l.getD 0 default) 7++([91]++(T (x.l.getD 1 default)++([32,58,32]++(T (x.l.getD 2 default)++[93]))))
 else if x.op=5∧rkE x<7 then atT T (x.l.getD 0 default) (if rkE x=3 then 4 else rkE x)++([32]++(rS x.k++([32]++atT T (x.l.getD 1 default) (rkE x+1))))
 else ow T x
def exT:Nat→ae→Ω
 |0=>fun _=>[]
 |n+1=>exB (exT n)
theorem vg(k:Int):(qk k).length≤4:=by
 have:∀ i:Nat,i<15→(CE.getD i []).length≤4:=by decide
 unfold qk
 by_cases h:k.toNat<15
 ·exact this _ h
 ·rw [List.getD_eq_getElem?_getD,List.getElem?_eq_none (by simp [CE];omega)];simp
theorem vh(k:Int):(rS k).length≤4:=by
 have:∀ i:Nat,i<13→(AZ.getD i []).length≤4:=by decide
 unfold rS
 by_cases h:k.toNat<13
 ·exact this _ h
 ·rw [List.getD_eq_getElem?_getD,List.getElem?_eq_none (by simp [AZ];omega)];simp
theorem vi(k:Int):(sH k).length≤5:=by
 have:∀ i:Nat,i<9→(yu.getD i []).length≤5:=by decide
 unfold sH
 by_cases h:(k - 7).toNat<9
 ·exact this _ h
 ·rw [List.getD_eq_getElem?_getD,List.getElem?_eq_none (by simp [yu];omega)];simp
theorem yv(r m:Int)(t:Ω):(paT r m t).length≤t.length+2:=by
 unfold paT;split<;>simp
theorem uL{op k n:Int}{name:Ω}{ns nl:Nat}(h:o7 op k n name ns nl):(1≤op∧op≤15)∧(op=4→nl=1∧(k=13∨k=14))∧(op=5→nl=2∧1≤k∧k≤12)∧(op=6∨op=11→nl=3)∧(op=7∨op=8∨op=9→1≤k∧k≤14)∧(op=2→n=0∨n=1)∧(op=5→ns=0):=by
 obtain ⟨h1,h2,h3,h4,h5,h6,h7⟩:=h
 unfold pV at h1 h2 h3 h4
 split at h1
 ·rename_i c;simp only [c,if_true] at h2 h3 h4;omega
 rename_i c1
 split at h1
 ·rename_i c;subst c;simp at h2 h3 h4;omega
 rename_i c2
 split at h1
 ·rename_i c;subst c;simp at h2 h3 h4;omega
 rename_i c3
 split at h1
 ·rename_i c;simp only [c1,c2,c3,c,if_true,if_false] at h2 h3 h4;omega
 rename_i c4
 split at h1
 ·rename_i c;subst c;simp at h2 h3 h4;omega
 rename_i c5
 split at h1
 ·rename_i c;simp only [c1,c2,c3,c4,c5,c,if_true,if_false] at h2 h3 h4;omega
 rename_i c6
 split at h1
 ·rename_i c;subst c;simp at h2 h3 h4;omega
 rename_i c7
 split at h1
 ·rename_i c;subst c;simp at h2 h3 h4;omega
 rename_i c8
 split at h1
 ·rename_i c;simp only [c1,c2,c3,c4,c5,c6,c7,c8,c,if_true,if_false] at h2 h3 h4;omega
 ·exact absurd h1 dM
structure EOk (x:ae):Prop where
 form:o7 x.op x.k x.n x.name x.s.length x.l.length
 num:0≤x.n∧x.n<1000000000000000000
 sizes:vf x.s
 parts:∀ y∈x.l,exF y=0
theorem eok{x:ae}(h:exF x=0):EOk x:=by
 rw [Al] at h
 obtain ⟨h1,h2⟩:=nX h
 obtain ⟨h3,h4⟩:=nX h2
 obtain ⟨h5,h6⟩:=nX h4
 obtain ⟨h7,h8⟩:=nX h6
 refine ⟨?_,?_,fun s hs=>yr (xK h7 s hs),xK h8⟩
 ·split at h1
  ·assumption
  ·omega
 ·split at h5
  ·omega
  ·omega
theorem F6{T:Type}{l:List T}(h:l.length=1):∃ a,l=[a]:=by
 match l,h with
 |[a],_=>exact ⟨a,rfl⟩
theorem F7{T:Type}{l:List T}(h:l.length=2):∃ a b,l=[a,b]:=by
 match l,h with
 |[a,b],_=>exact ⟨a,b,rfl⟩
theorem FK{T:Type}{l:List T}(h:l.length=3):∃ a b c,l=[a,b,c]:=by
 match l,h with
 |[a,b,c],_=>exact ⟨a,b,c,rfl⟩
theorem ua(l:List (List ah))(h:vf l):(nO l).length+32≤32 * szL (szL ah.sz) l:=by
 have h1:=mR (fun _ s=>44 :: 32 :: lP s) (szL ah.sz) l 0 (fun i s hs=>by have:=mC s (h s hs);simp only [List.length_cons];omega)
 have h2:=ep (szL ah.sz) l
 unfold nO
 omega
theorem yw(x:ae):x.sz=x.name.length+szL (szL ah.sz) x.s+(ae.szs x.l+1)+5:=by
 have h1:=ae.sz_eq x
 have h2:=ae.szs_eq x.l
 unfold szI szS at h1
 omega
theorem mY:∀ (n:Nat) (x:ae),exF x=0→(exT n x).length+4≤32 * x.sz
 |0,x,_=>by
  have:=ae.sz_pos x
  show 0+4≤_
  omega
 |n+1,x,h=>by
  have ok:=eok h
  obtain ⟨f0,f4,f5,f6,f7,f2,fs⟩:=uL ok.form
  have hz:=yw x
  have ih:∀ y∈x.l,(exT n y).length+4≤32 * y.sz:=fun y hy=>mY n y (ok.parts y hy)
  have hs:=ua x.s ok.sizes
  have hc:(com (x.l.map (exT n))).length≤32 * ae.szs x.l:=by
   have h1:=qj (F:=exT n) ae.sz x.l (fun y hy=>by have:=ih y hy;omega)
   have h2:=ep ae.sz x.l
   have h3:=ae.szs_eq x.l
   omega
  have at_:∀ y∈x.l,∀ m,(atT (exT n) y m).length+2≤32 * y.sz:=fun y hy m=>by
   have h1:=ih y hy
   have h2:=yv (rkE y) m (exT n y)
   unfold atT
   omega
  show (exB (exT n) x).length+4≤_
  unfold exB
  split
  ·have:=vO x.n (by have:=ok.num;omega) (by have:=ok.num;omega);omega
  split
  ·split<;>simp only [List.length_cons,List.length_nil]<;>omega
  split
  ·omega
  split
  ·rename_i c
   obtain ⟨a,ha⟩:=F6 (f4 c).1
   have h1:=at_ a (by simp [ha]) 6
   have h2:ae.szs x.l=a.sz:=by rw [ha];simp [ae.szs]
   rw [ha]
   show (_++atT (exT n) a 6).length+4≤_
   split<;>simp only [List.length_append,List.length_cons,List.length_nil]<;>omega
  split
  ·rename_i c
   obtain ⟨a,b,d,ha⟩:=FK (f6 (Or.inl c))
   have h1:=ih a (by simp [ha])
   have h3:=ih b (by simp [ha])
   have h4:=ih d (by simp [ha])
   have h2:ae.szs x.l=a.sz+(b.sz+d.sz):=by rw [ha];simp [ae.szs]
   rw [ha]
   show ([105,102,32]++(exT n a++([32,116,104,101,110,32]++(exT n b++([32,101,108,115,101,32]++exT n d))))).length+4≤_
   simp only [List.length_append,List.length_cons,List.length_nil]
   omega
  split
  ·rename_i c
   obtain ⟨a,b,d,ha⟩:=FK (f6 (Or.inr c))
   have h1:=at_ a (by simp [ha]) 7
   have h3:=ih b (by simp [ha])
   have h4:=ih d (by simp [ha])
   have h2:ae.szs x.l=a.sz+(b.sz+d.sz):=by rw [ha];simp [ae.szs]
   rw [ha]
   show (atT (exT n) a 7++([91]++(exT n b++([32,58,32]++(exT n d++[93]))))).length+4≤_
   simp only [List.length_append,List.length_cons,List.length_nil]
   omega
  split
  ·rename_i c
   obtain ⟨a,b,ha⟩:=F7 (f5 c.1).1
   have h1:=at_ a (by simp [ha]) (if rkE x=3 then 4 else rkE x)
   have h3:=at_ b (by simp [ha]) (rkE x+1)
   have h2:ae.szs x.l=a.sz+b.sz:=by rw [ha];simp [ae.szs]
   have h5:=vh x.k
   have e0:x.l.getD 0 default=a:=by rw [ha];rfl
   have e1:x.l.getD 1 default=b:=by rw [ha];rfl
   rw [e0,e1]
   simp only [List.length_append,List.length_cons,List.length_nil]
   omega
  ·have h1:=vg x.k
   have h2:=vi x.op
   unfold ow
   split<;>split<;>simp only [List.length_append,List.length_cons,List.length_nil]<;>omega
theorem A0(x:ae)(h:x.op=5→1≤x.k∧x.k≤12):nf x=some (rkE x):=by
 unfold nf rkE
 by_cases h6:x.op=6
 ·rw [iP h6,iP h6]
 rw [iN h6,iN h6]
 by_cases h4:x.op=4
 ·rw [iP h4,iP h4]
 rw [iN h4,iN h4]
 by_cases h5:x.op=5
 ·rw [iN (fun k=>k h5),iP h5]
  have:=h h5
  by_cases k6:x.k=6
  ·rw [iP k6,iP (Or.inl k6)]
  rw [iN k6]
  by_cases k7:x.k=7
  ·rw [iP k7,iP (Or.inr k7)]
  rw [iN k7,iP ⟨by omega,by omega⟩,iN oM]
  rfl
 ·rw [iP h5,iN h5]
theorem CF(x:ae)(h:x.op=5→1≤x.k∧x.k≤12):qI x=some (rkE x):=by
 unfold qI rkE
 by_cases h6:x.op=6
 ·rw [iP h6,iP h6]
 rw [iN h6,iN h6]
 by_cases h4:x.op=4
 ·rw [iP h4,iP h4]
 rw [iN h4,iN h4]
 by_cases h5:x.op=5
 ·have:=h h5
  rw [iP h5,iP h5,iP ⟨by omega,by omega⟩]
  have key:∀ k:Nat,1≤k→k≤12→([7,4,4,5,5,5,7,7,3,3,2,1,1]:List Int).getD k default=if k=6∨k=7 then 7 else wV.getD k 0:=by
   intro k k1 k2
   match k,k1,k2 with
   |1,_,_|2,_,_|3,_,_|4,_,_|5,_,_|6,_,_|7,_,_|8,_,_|9,_,_|10,_,_|11,_,_|12,_,_=>rfl
  show some (([7,4,4,5,5,5,7,7,3,3,2,1,1]:List Int).getD x.k.toNat default)=_
  rw [key x.k.toNat oM oM]
  refine congrArg some ?_
  by_cases k:x.k=6∨x.k=7
  ·rw [iP k,iP oM]
  ·rw [iN k,iN oM]
 ·rw [iN h5,iN h5]
theorem sY(x:ae):rkE x≤7∧0≤rkE x:=by
 have key:∀ i:Nat,i<13→wV.getD i 0≤7∧0≤wV.getD i 0:=by decide
 unfold rkE
 split
 ·omega
 split
 ·omega
 split
 ·split
  ·omega
  ·by_cases h:x.k.toNat<13
   ·exact key _ h
   ·rw [List.getD_eq_getElem?_getD,List.getElem?_eq_none (by simp [wV];omega)];simp
 ·omega
theorem tA{T:Type}[Inhabited T]{l:List T}(h:0<l.length):l.getD 0 default∈l:=bm h
theorem wW(l:List (List ah)):∀ i,m8 (fun _ s=>44 :: 32 :: lP s) i l=Go.Lib.joinTail [44,32] (l.map lP):=by
 induction l with
 |nil=>intro i;rfl
 |cons x l ih=>intro i;rw [m8,ih];simp [Go.Lib.joinTail]
theorem Ao(l:List (List ah))(h:0<l.length):nO l=44 :: 32 :: com (l.map lP):=by
 cases l with
 |nil=>simp at h
 |cons s l =>
  unfold nO com
  rw [m8,wW,List.map_cons,Go.Lib.join_cons]
  rfl
theorem wX:∀ (n:Nat) (x:ae),exF x=0→x.sz<n→x.sz≤1048576→dA n x=some (exT n x)
 |0,_,_,h,_=>by omega
 |n+1,x,h,hn,hs=>by
  have ok:=eok h
  obtain ⟨f0,f4,f5,f6,f7,f2,fs⟩:=uL ok.form
  have hz:=yw x
  have hnum:=ok.num
  have ih:∀ y∈x.l,dA n y=some (exT n y)∧(exT n y).length≤40000000∧y.sz≤ae.szs x.l:=fun y hy=>by
   have h1:=ot hy
   have h2:=mY n y (ok.parts y hy)
   exact ⟨wX n y (ok.parts y hy) oM oM,by omega,h1⟩
  have at_:∀ y∈x.l,∀ m,ng (dA n) y m=some (atT (exT n) y m)∧(atT (exT n) y m).length≤40000002:=fun y hy m=>by
   obtain ⟨i1,i2,i3⟩:=ih y hy
   have hp:=yv (rkE y) m (exT n y)
   refine ⟨?_,by unfold atT;omega⟩
   unfold ng
   rw [i1,bSq,A0 y (fun c=>((uL (eok (ok.parts y hy)).form).2.2.1 c).2),bSq]
   unfold atT paT
   by_cases c:rkE y<m
   ·rw [iP c,iP c,iP (by unfold maxLen;omega)];rfl
   ·rw [iN c,iN c]
  have called:x.op=5∨x.op=7∨x.op=8∨x.op=9∨x.op=10∨x.op=12∨x.op=13∨x.op=14∨x.op=15→mM (dA n) x=some (ow (exT n) x):=by
   intro hop
   have hl:=ou x.l
   have hlist:ig (dA n) x.l=some (com (x.l.map (exT n))):=by
    have hc:(com (x.l.map (exT n))).length≤32 * ae.szs x.l:=by
     have h1:=qj (F:=exT n) ae.sz x.l (fun y hy=>by have:=mY n y (ok.parts y hy);omega)
     have h2:=ep ae.sz x.l
     have h3:=ae.szs_eq x.l
     omega
    unfold ig
    rw [qX x.l (exT n) (fun i s hi hsl=>by
     show dU (dA n) x.l s i=_
     unfold dU
     rw [iP (ltI hi),iP (inI hi),tN,(ih _ (bm hi)).1,bSq,iP (qh oM oM),wrs i oM]
     rfl) (fun s=>by
     show dU (dA n) x.l s x.l.length=_
     unfold dU
     rw [iN (bq _)]),bSq]
    unfold eV
    rw [zp (by rw [List.length_map];omega) oM]
    rfl
   have hc:(com (x.l.map (exT n))).length≤32 * ae.szs x.l:=by
    have h1:=qj (F:=exT n) ae.sz x.l (fun y hy=>by have:=mY n y (ok.parts y hy);omega)
    have h2:=ep ae.sz x.l
    have h3:=ae.szs_eq x.l
    omega
   have hsz:=ua x.s ok.sizes
   have hcs:=sG x.s ok.sizes
   have ho:ll x.k=if 0≤x.k∧x.k<15 then some (qk x.k) else none:=rfl
   have hol:=vg x.k
   have hcl:=vi x.op
   have j1:∀ s:Ω,s.length≤100000000→s=com (x.l.map (exT n))++nO x.s→gP x s=some (ow (exT n) x):=by
    intro s hsl hse
    unfold gP ow
    by_cases c5:x.op=5
    ·have:=(f5 c5).2
     rw [iP c5,ho,iP ⟨by omega,by omega⟩,bSq,iP (by unfold maxLen;omega),iP c5,iN oM,hse]
     simp
    rw [iN c5,iN c5]
    have j2:∀ z:Ω,z.length≤200000000→gO x z=some (sH x.op++(40 :: (z++[41]))):=by
     intro z hzl
     unfold gO
     rw [wr (n:=x.op - 7) oM oM,iP ⟨by omega,by omega⟩]
     show (if (sH x.op).length+1≤maxLen∧(sH x.op).length+1+z.length≤maxLen∧((sH x.op).length+1)+z.length+1≤maxLen then (some (((sH x.op++([40]:Ω))++z)++([41]:Ω))) else none)=_
     rw [iP (by unfold maxLen;omega)]
     simp
    have j3:∀ b:Bool,(b=true↔(x.op=7∨x.op=8∨x.op=9))→fT x s b=some (sH x.op++(40 :: ((if x.op=7∨x.op=8∨x.op=9 then qk x.k++[44,32] else [])++(com (x.l.map (exT n))++(nO x.s++[41]))))):=by
     intro b hb
     unfold fT
     by_cases c:x.op=7∨x.op=8∨x.op=9
     ·have:=f7 c
      rw [iP (hb.2 c),iP c,ho,iP ⟨by omega,by omega⟩,bSq,iP (by unfold maxLen;omega),j2 _ (by simp only [List.length_append,List.length_cons,List.length_nil];omega),hse]
      simp
     ·rw [iN (fun k=>c (hb.1 k)),iN c,j2 _ oM,hse]
      simp
    by_cases c7:x.op=7
    ·rw [iP c7];exact j3 _ (by simp [c7])
    rw [iN c7]
    by_cases c8:x.op=8
    ·rw [iP c8];exact j3 _ (by simp [c8])
    ·rw [iN c8];exact j3 _ (by rw [beq_iff_eq];omega)
   unfold mM
   rw [hlist,bSq]
   by_cases c:x.s.length>0
   ·rw [iP oM,vy x.s ok.sizes oM,bSq,iP (by unfold maxLen;omega)]
    exact j1 _ (by simp only [List.length_append,List.length_cons,List.length_nil];omega) (by rw [Ao _ c];rfl)
   ·rw [iN oM]
    have:x.s=[]:=List.length_eq_zero_iff.1 oM
    exact j1 _ oM (by rw [this];exact (List.append_nil _).symm)
  show mN (dA n) x=some (exB (exT n) x)
  unfold mN exB
  rw [A0 x (fun c=>(f5 c).2),bSq]
  by_cases c1:x.op=1
  ·rw [iP c1,iP c1,EJ _ oM oM];rfl
  rw [iN c1,iN c1]
  by_cases c2:x.op=2
  ·rw [iP c2,iP c2]
   unfold kX fZ
   by_cases c:x.n=1
   ·rw [iP (by simp [c]),iP c];rfl
   ·rw [iN (by simp [c]),iN c];rfl
  rw [iN c2,iN c2]
  by_cases c3:x.op=3
  ·rw [iP c3,iP c3]
  rw [iN c3,iN c3]
  by_cases c4:x.op=4
  ·have hl:=(f4 c4).1
   obtain ⟨a1,a2⟩:=at_ _ (tA (show 0<x.l.length by omega)) 6
   have hr:rkE x=6:=by unfold rkE;rw [iN oM,iP c4]
   rw [iP c4,iP c4,wr (n:=x.k - 13) oM oM,iP ⟨by omega,by omega⟩,iP ⟨by omega,by omega⟩,hr,a1,bSq]
   rcases (f4 c4).2 with k|k
   ·rw [k]
    show (if 1+(atT (exT n) (x.l.getD 0 default) 6).length≤maxLen then some ([45]++atT (exT n) (x.l.getD 0 default) 6) else none)=_
    rw [iP (by unfold maxLen;omega),iP rfl]
   ·rw [k]
    show (if 4+(atT (exT n) (x.l.getD 0 default) 6).length≤maxLen then some ([110,111,116,32]++atT (exT n) (x.l.getD 0 default) 6) else none)=_
    rw [iP (by unfold maxLen;omega),iN dM]
  rw [iN c4,iN c4]
  by_cases c6:x.op=6
  ·have hl:=f6 (Or.inl c6)
   obtain ⟨a1,a2,_⟩:=ih _ (tA (show 0<x.l.length by omega))
   obtain ⟨b1,b2,_⟩:=ih _ (bm (show 1<x.l.length by omega))
   obtain ⟨d1,d2,_⟩:=ih _ (bm (show 2<x.l.length by omega))
   rw [iP c6,iP c6,iP ⟨by omega,by omega⟩,a1,bSq,iP ⟨by unfold maxLen;omega,by unfold maxLen;omega,by omega,by omega⟩,b1,bSq,iP ⟨by unfold maxLen;omega,by unfold maxLen;omega,by omega,by omega⟩,d1,bSq,iP (by unfold maxLen;omega)]
   simp
  rw [iN c6,iN c6]
  by_cases c11:x.op=11
  ·have hl:=f6 (Or.inr c11)
   obtain ⟨a1,a2⟩:=at_ _ (tA (show 0<x.l.length by omega)) 7
   obtain ⟨b1,b2,_⟩:=ih _ (bm (show 1<x.l.length by omega))
   obtain ⟨d1,d2,_⟩:=ih _ (bm (show 2<x.l.length by omega))
   have hr:rkE x=7:=by unfold rkE;rw [iN oM,iN oM,iN oM]
   rw [iP c11,iP c11,hr,iP ⟨by omega,by omega⟩,a1,bSq,iP ⟨by unfold maxLen;omega,by omega,by omega⟩,b1,bSq,iP ⟨by unfold maxLen;omega,by unfold maxLen;omega,by omega,by omega⟩,d1,bSq,iP (by unfold maxLen;omega)]
   simp
  rw [iN c11,iN c11]
  have j1:∀ (hop:x.op=5∨x.op=7∨x.op=8∨x.op=9∨x.op=10∨x.op=12∨x.op=13∨x.op=14∨x.op=15),ja (dA n) x=some (ow (exT n) x):=fun hop=>by
   unfold ja
   rw [called hop];rfl
  by_cases c5:x.op=5
  ·rw [iP c5]
   have hb:=sY x
   by_cases c7:rkE x=7
   ·rw [iP c7,iN oM];exact j1 (Or.inl c5)
   ·have hl:=(f5 c5).1
    have hk:=(f5 c5).2
    have hsl:=vh x.k
    have hsg:oE x.k=some (rS x.k):=by unfold oE;rw [iP ⟨by omega,by omega⟩];rfl
    rw [iN c7,iP (show x.op=5∧rkE x<7 from ⟨c5,by omega⟩)]
    have j2:∀ m,jb (dA n) x (rkE x) m=some (atT (exT n) (x.l.getD 0 default) m++([32]++(rS x.k++([32]++atT (exT n) (x.l.getD 1 default) (rkE x+1))))):=by
     intro m
     obtain ⟨a1,a2⟩:=at_ _ (tA (show 0<x.l.length by omega)) m
     obtain ⟨b1,b2⟩:=at_ _ (bm (show 1<x.l.length by omega)) (rkE x+1)
     unfold jb
     rw [iP ⟨by omega,by omega⟩,a1,bSq,iP (by unfold maxLen;omega),hsg,bSq,iP ⟨by unfold maxLen;omega,by unfold maxLen;omega,by omega,by omega⟩,wr (n:=rkE x+1) oM oM,b1,bSq,iP (by unfold maxLen;omega)]
     simp
    by_cases c3':rkE x=3
    ·rw [iP c3',iP c3',wr (n:=rkE x+1) oM oM,j2,c3'];rfl
    ·rw [iN c3',iN c3',j2]
  ·rw [iN c5,iN (fun k=>c5 k.1)]
   exact j1 oM
def Ap:List Ω:=[[],[],[],[],[],[],[],[109,97,112],[102,111,108,100],[115,99,97,110],[102,105,108,108],[],[119,105,116,104],[115,108,105,99,101],[99,97,116],[112,114,101]]
theorem BC(op:Int)(h:op=7∨op=8∨op=9∨op=10∨op=12∨op=13∨op=14∨op=15):Ap.getD op.toNat default=sH op:=by
 rcases h with rfl|rfl|rfl|rfl|rfl|rfl|rfl|rfl<;>rfl
theorem zr:∀ (n:Nat) (x:ae) (m:Int),exF x=0→x.sz<n→x.sz≤1048576→bO n x m=some (atT (exT n) x m)
 |0,_,_,_,h,_=>by omega
 |n+1,x,m,h,hn,hs=>by
  have ok:=eok h
  obtain ⟨f0,f4,f5,f6,f7,f2,fs⟩:=uL ok.form
  have hz:=yw x
  have hnum:=ok.num
  have ih:∀ y∈x.l,∀ m,bO n y m=some (atT (exT n) y m)∧(atT (exT n) y m).length≤40000002∧(atT (exT n) y m).length+2≤32 * y.sz:=fun y hy m=>by
   have h1:=ot hy
   have h2:=mY n y (ok.parts y hy)
   have h3:=yv (rkE y) m (exT n y)
   refine ⟨zr n y m (ok.parts y hy) oM oM,?_,?_⟩<;>unfold atT<;>omega
  have at0:∀ y,atT (exT n) y 0=exT n y:=fun y=>by
   have:=sY y
   unfold atT paT
   rw [iN oM]
  have j1:∀ s:Ω,s.length≤400000000→bY m (rkE x) s=some (paT (rkE x) m s):=by
   intro s hsl
   unfold bY paT
   by_cases c:rkE x<m
   ·rw [iP c,iP c,iP (by unfold maxLen;omega)];rfl
   ·rw [iN c,iN c]
  have hl:=ou x.l
  have hsz:=ua x.s ok.sizes
  have hol:=vg x.k
  have hcl:=vi x.op
  have hop:∀ z:Ω,z=qk x.k→True:=fun _ _=>trivial
  have called:∀ s:Ω,s.length≤100→x.op=5∨x.op=7∨x.op=8∨x.op=9∨x.op=10∨x.op=12∨x.op=13∨x.op=14∨x.op=15 →
    fI (bO n) x m (rkE x) s=some (paT (rkE x) m (s++((if x.op=7∨x.op=8∨x.op=9 then qk x.k++[44,32] else [])++(com (x.l.map (exT n))++(nO x.s++[41]))))):=by
   intro s hsl ho
   have hc:(com (x.l.map (exT n))).length≤32 * ae.szs x.l:=by
    have h1:=qj (F:=exT n) ae.sz x.l (fun y hy=>by have:=mY n y (ok.parts y hy);omega)
    have h2:=ep ae.sz x.l
    have h3:=ae.szs_eq x.l
    omega
   have j8:∀ z:Ω,z.length≤100000000→gC x m (rkE x) z=some (paT (rkE x) m (z++(nO x.s++[41]))):=by
    intro z hzl
    have h3:=ep (szL ah.sz) x.s
    unfold gC
    rw [mS x.s (fun _ s=>44 :: 32 :: lP s) (szL ah.sz) z 200000000 oM (fun i t ht=>by have:=mC t (ok.sizes t ht);simp only [List.length_cons];omega)
     (fun i w hi hw => by
      have ht:=ok.sizes _ (bm hi)
      have h5:=mC _ ht
      have hm:=iO (f:=szL ah.sz) (bm hi)
      show iC x w i=_
      unfold iC
      have hss:=ef uH x.s
      rw [iP (ltI hi),iP (inI hi),tN,ve _ ht oM,bSq,iP (by unfold maxLen;omega),wrs i oM]
      rfl)
     (fun w => by
      show iC x w x.s.length=_
      unfold iC
      rw [iN (bq _)]),bSq]
    unfold jD
    show (if (z++nO x.s).length+1≤maxLen then bY m (rkE x) ((z++nO x.s)++[41]) else none)=_
    rw [iP (by rw [List.length_append];unfold maxLen;omega),j1 _ (by simp only [List.length_append,List.length_cons,List.length_nil];omega),List.append_assoc]
   have j7:∀ z:Ω,z.length≤1000→gD (bO n) x m (rkE x) z=some (paT (rkE x) m (z++(com (x.l.map (exT n))++(nO x.s++[41])))):=by
    intro z hzl
    have h3:=ep ae.sz x.l
    have h4:=ae.szs_eq x.l
    unfold gD
    rw [mS x.l (wN (exT n)) ae.sz z 90000000 oM (fun i y hy=>uK (by have:=mY n y (ok.parts y hy);omega) i)
     (fun i w hi hw => by
      obtain ⟨i1,i2,i3⟩:=ih _ (bm hi) 0
      rw [at0] at i1 i2 i3
      show iD (bO n) x w i=_
      unfold iD
      rw [iP (ltI hi)]
      have j10:∀ w':Ω,w'.length≤90000100→hP (bO n) x i w'=some (.inl (w'++exT n (x.l.getD i default),((i+1:Nat):Int))):=by
       intro w' hw'
       unfold hP
       rw [iP (inI hi),tN,i1,bSq,iP (by unfold maxLen;omega),wrs i oM]
      unfold wN
      by_cases h0:0<i
      ·rw [iP oM,iP h0,iP (by unfold maxLen;omega),j10 _ (by simp only [List.length_append,List.length_cons,List.length_nil];omega),List.append_assoc]
      ·rw [iN oM,iN h0,j10 _ oM];rfl)
     (fun w => by
      show iD (bO n) x w x.l.length=_
      unfold iD
      rw [iN (bq _)]),bSq,uJ]
    show gC x m (rkE x) (z++com (x.l.map (exT n)))=_
    rw [j8 _ (by rw [List.length_append];omega),List.append_assoc]
   have j11:∀ b:Bool,(b=true↔(x.op=7∨x.op=8∨x.op=9))→fV (bO n) x m (rkE x) s b=some (paT (rkE x) m (s++((if x.op=7∨x.op=8∨x.op=9 then qk x.k++[44,32] else [])++(com (x.l.map (exT n))++(nO x.s++[41]))))):=by
    intro b hb
    unfold fV
    by_cases c:x.op=7∨x.op=8∨x.op=9
    ·have:=f7 c
     rw [iP (hb.2 c),iP c]
     show (if (0≤x.k∧x.k<(15:Int))∧(qk x.k).length+2≤maxLen∧s.length+(qk x.k).length+2≤maxLen then (gD (bO n) x m (rkE x) (s++(qk x.k++([44,32]:Ω)))) else none)=_
     rw [iP (by unfold maxLen;omega),j7 _ (by simp only [List.length_append,List.length_cons,List.length_nil];omega)]
     simp only [List.append_assoc]
    ·rw [iN (fun k=>c (hb.1 k)),iN c,j7 _ oM];rfl
   unfold fI
   by_cases c7:x.op=7
   ·rw [iP c7];exact j11 _ (by simp [c7])
   rw [iN c7]
   by_cases c8:x.op=8
   ·rw [iP c8];exact j11 _ (by simp [c8])
   ·rw [iN c8];exact j11 _ (by rw [beq_iff_eq];omega)
  show mb (bO n) x m=some (paT (rkE x) m (exB (exT n) x))
  unfold mb exB
  rw [CF x (fun c=>(f5 c).2),bSq]
  by_cases c1:x.op=1
  ·have:=vO x.n oM oM
   rw [iP c1,iP c1,EJ _ oM oM,bSq,j1 _ oM]
  rw [iN c1,iN c1]
  by_cases c2:x.op=2
  ·rw [iP c2,iP c2]
   unfold iG
   by_cases c:x.n=1
   ·rw [iP (by simp [c]),iP c,j1 _ dM]
   ·rw [iN (by simp [c]),iN c,iP c2,j1 _ dM]
  rw [iN c2,iN c2]
  unfold iG
  rw [iN dM,iN c2]
  by_cases c3:x.op=3
  ·rw [iP c3,iP c3,j1 _ oM]
  rw [iN c3,iN c3]
  by_cases c4:x.op=4
  ·have hl:=(f4 c4).1
   obtain ⟨a1,a2,_⟩:=ih _ (tA (show 0<x.l.length by omega)) 6
   rw [iP c4,iP c4]
   unfold iF
   by_cases k:x.k=13
   ·rw [iP (by simp [k]),iP k,iP ⟨by omega,by omega⟩,a1,bSq,iP (by unfold maxLen;omega),j1 _ (by simp only [List.length_append,List.length_cons,List.length_nil];omega)]
   ·rw [iN (by simp [k]),iN k,iP c4,iP ⟨by omega,by omega⟩,a1,bSq,iP (by unfold maxLen;omega),j1 _ (by simp only [List.length_append,List.length_cons,List.length_nil];omega)]
  rw [iN c4,iN c4]
  unfold iF
  rw [iN dM,iN c4]
  by_cases c6:x.op=6
  ·have hl:=f6 (Or.inl c6)
   obtain ⟨a1,a2,_⟩:=ih _ (tA (show 0<x.l.length by omega)) 0
   obtain ⟨b1,b2,_⟩:=ih _ (bm (show 1<x.l.length by omega)) 0
   obtain ⟨d1,d2,_⟩:=ih _ (bm (show 2<x.l.length by omega)) 0
   rw [at0] at a1 a2 b1 b2 d1 d2
   rw [iP c6,iP c6,iP ⟨by omega,by omega⟩,a1,bSq,iP ⟨by unfold maxLen;omega,by unfold maxLen;omega,by omega,by omega⟩,b1,bSq,iP ⟨by unfold maxLen;omega,by unfold maxLen;omega,by omega,by omega⟩,d1,bSq,iP (by unfold maxLen;omega),j1 _ (by simp only [List.length_append,List.length_cons,List.length_nil];omega)]
   simp only [List.append_assoc]
  rw [iN c6,iN c6]
  by_cases c11:x.op=11
  ·have hl:=f6 (Or.inr c11)
   obtain ⟨a1,a2,_⟩:=ih _ (tA (show 0<x.l.length by omega)) 7
   obtain ⟨b1,b2,_⟩:=ih _ (bm (show 1<x.l.length by omega)) 0
   obtain ⟨d1,d2,_⟩:=ih _ (bm (show 2<x.l.length by omega)) 0
   rw [at0] at b1 b2 d1 d2
   rw [iP c11,iP c11,iP ⟨by omega,by omega⟩,a1,bSq,iP ⟨by unfold maxLen;omega,by omega,by omega⟩,b1,bSq,iP ⟨by unfold maxLen;omega,by unfold maxLen;omega,by omega,by omega⟩,d1,bSq,iP (by unfold maxLen;omega),j1 _ (by simp only [List.length_append,List.length_cons,List.length_nil];omega)]
   simp only [List.append_assoc]
  rw [iN c11,iN c11]
  have hb:=sY x
  have j4:∀ b:Bool,(b=true↔(x.op=5∧rkE x<7))→iE (bO n) x m (rkE x) b=some (paT (rkE x) m (if x.op=5∧rkE x<7 then atT (exT n) (x.l.getD 0 default) (if rkE x=3 then 4 else rkE x)++([32]++(rS x.k++([32]++atT (exT n) (x.l.getD 1 default) (rkE x+1)))) else ow (exT n) x)):=by
   intro b hbb
   unfold iE
   by_cases c:x.op=5∧rkE x<7
   ·have hl:=(f5 c.1).1
    have hk:=(f5 c.1).2
    have hsl:=vh x.k
    rw [iP (hbb.2 c),iP c]
    have j5:∀ m',iB (bO n) x m (rkE x) m'=some (paT (rkE x) m (atT (exT n) (x.l.getD 0 default) m'++([32]++(rS x.k++([32]++atT (exT n) (x.l.getD 1 default) (rkE x+1)))))):=by
     intro m'
     obtain ⟨a1,a2,_⟩:=ih _ (tA (show 0<x.l.length by omega)) m'
     obtain ⟨b1,b2,_⟩:=ih _ (bm (show 1<x.l.length by omega)) (rkE x+1)
     unfold iB
     rw [iP ⟨by omega,by omega⟩,a1,bSq]
     show (if (atT (exT n) (x.l.getD 0 default) m').length+1≤maxLen∧(0≤x.k∧x.k<(13:Int))∧(atT (exT n) (x.l.getD 0 default) m').length+1+(rS x.k).length≤maxLen∧((atT (exT n) (x.l.getD 0 default) m').length+1)+(rS x.k).length+1≤maxLen∧(0≤(1:Nat)∧1<(x.l.length:Int)) then ((bO n (x.l.getD 1 default) (IntKind.wrap .i64 (rkE x+1))).bind fun y17=>if (((atT (exT n) (x.l.getD 0 default) m').length+1)+(rS x.k).length)+1+y17.length≤maxLen then (bY m (rkE x) (((((atT (exT n) (x.l.getD 0 default) m')++([32]:Ω))++(rS x.k))++([32]:Ω))++y17)) else none) else none)=_
     rw [iP (by unfold maxLen;omega),wr (n:=rkE x+1) oM oM,b1,bSq,iP (by unfold maxLen;omega),j1 _ (by simp only [List.length_append,List.length_cons,List.length_nil];omega)]
     simp only [List.append_assoc]
    by_cases c3':rkE x=3
    ·rw [iP c3',iP c3',j5]
    ·rw [iN c3',iN c3',j5]
   ·rw [iN (fun k=>c (hbb.1 k)),iN c]
    by_cases c5:x.op=5
    ·have hk:=(f5 c5).2
     rw [iP ⟨⟨by omega,by omega⟩,by rw [c5];decide⟩,iP c5]
     show (if (0≤x.k∧x.k<(15:Int))∧(qk x.k).length+1≤maxLen then (fI (bO n) x m (rkE x) (qk x.k++([40]:Ω))) else none)=_
     rw [iP (by unfold maxLen;omega),called _ (by simp only [List.length_append,List.length_cons,List.length_nil];omega) (Or.inl c5)]
     unfold ow
     rw [iP c5]
     simp only [List.append_assoc,List.cons_append,List.nil_append]
    ·have ho:x.op=7∨x.op=8∨x.op=9∨x.op=10∨x.op=12∨x.op=13∨x.op=14∨x.op=15:=by omega
     show (if (0≤x.op∧x.op<(16:Int))∧(Ap.getD x.op.toNat default).length+1≤maxLen then (if x.op=5 then _ else (fI (bO n) x m (rkE x) (Ap.getD x.op.toNat default++([40]:Ω)))) else none)=_
     rw [BC _ ho,iP (by unfold maxLen;omega),iN c5,called _ (by simp only [List.length_append,List.length_cons,List.length_nil];omega) (Or.inr ho)]
     unfold ow
     rw [iN c5]
     simp only [List.append_assoc,List.cons_append,List.nil_append]
  by_cases c5:x.op=5
  ·rw [iP c5];exact j4 _ (by rw [decide_eq_true_eq];exact ⟨fun k=>⟨c5,k⟩,fun k=>k.2⟩)
  ·rw [iN c5];exact j4 _ (by simp [c5])
theorem CG{q:TEq}(h:eqF q=0):(q.node=[]→q.names.length=1∧q.e.length=1∧q.s.length=0)∧vf q.s∧∀ y∈q.e,exF y=0:=by
 obtain ⟨h1,h2⟩:=nX h
 obtain ⟨h3,h4⟩:=nX h2
 obtain ⟨h5,h6⟩:=nX h4
 obtain ⟨h7,h8⟩:=nX h6
 obtain ⟨h9,h10⟩:=nX h8
 refine ⟨fun c=>?_,fun s hs=>yr (xK h9 s hs),fun y hy=>(nX (xK h10 y hy)).2⟩
 split at h1
 ·omega
 ·rename_i k
  by_cases g:q.names.length=1∧q.e.length=1∧q.s.length=0
  ·exact g
  ·exact absurd (Or.inr ⟨c,g⟩) k
def eqT(n:Nat)(q:TEq):Ω :=
 com q.names++([32,61,32]++(if q.node=[] then exT n (q.e.getD 0 default) else [99,97,108,108,32]++(q.node++((if q.s.length>0 then 60 :: (com (q.s.map lP)++[62]) else [])++(40 :: (com (q.e.map (exT n))++[41]))))))
theorem CH(q:TEq):q.sz=1+szL szS q.names+(q.node.length+1)+szL (szL ah.sz) q.s+szL ae.sz q.e+1:=by unfold TEq.sz szI;rw [show szS q.node=q.node.length+1 from rfl]
theorem wY(n:Nat)(l:List ae)(h:∀ y∈l,exF y=0):(com (l.map (exT n))).length+32≤32 * szL ae.sz l:=by
 have h1:=qj (F:=exT n) ae.sz l (fun y hy=>by have:=mY n y (h y hy);omega)
 have h2:=ep ae.sz l
 omega
theorem yx(n:Nat)(q:TEq)(h:eqF q=0):(eqT n q).length+32≤32 * q.sz:=by
 obtain ⟨h1,h2,h3⟩:=CG h
 have hz:=CH q
 have k1:=pQ q.names
 have k2:=sG q.s h2
 have k3:=wY n q.e h3
 unfold eqT
 split
 ·rename_i c
  have hl:=(h1 c).2.1
  have hm:q.e.getD 0 default∈q.e:=bm oM
  have k4:=mY n _ (h3 _ hm)
  have k5:=iO (f:=ae.sz) hm
  simp only [List.length_append,List.length_cons,List.length_nil]
  omega
 ·split<;>simp only [List.length_append,List.length_cons,List.length_nil]<;>omega
theorem CI(n:Nat)(hn:1048576<n)(q:TEq)(h:eqF q=0)(hs:q.sz≤1048576):qG n q=some (eqT n q):=by
 obtain ⟨h1,h2,h3⟩:=CG h
 have hz:=CH q
 have k1:=pQ q.names
 have k2:=sG q.s h2
 have k3:=wY n q.e h3
 have hee:∀ y∈q.e,qd n y=some (exT n y)∧(exT n y).length≤40000000:=fun y hy=>by
  have k5:=iO (f:=ae.sz) hy
  have k6:=mY n y (h3 y hy)
  exact ⟨wX n y (h3 y hy) oM oM,by omega⟩
 have hll:=ef ae.sz_pos q.e
 have hlist:gi n q.e=some (com (q.e.map (exT n))):=by
  unfold gi
  rw [qX q.e (exT n) (fun i s hi hsl=>by
   show dl n q.e s i=_
   unfold dl
   rw [iP (ltI hi),iP (inI hi),tN,(hee _ (bm hi)).1,bSq,iP (qh oM oM),wrs i oM]
   rfl) (fun s=>by
   show dl n q.e s q.e.length=_
   unfold dl
   rw [iN (bq _)]),bSq]
  unfold ed
  rw [zp (by rw [List.length_map];omega) oM]
  rfl
 have j1:∀ s:Ω,s.length≤200000000→kY n q s=some (s++(40 :: (com (q.e.map (exT n))++[41]))):=by
  intro s hsl
  unfold kY
  rw [iP (by unfold maxLen;omega),hlist,bSq,iP (by unfold maxLen;omega)]
  simp only [List.append_assoc,List.cons_append,List.nil_append]
 unfold qG eqT
 rw [CD _ oM,bSq,iP (by unfold maxLen;omega)]
 by_cases c:q.node=[]
 ·have hl:=(h1 c).2.1
  obtain ⟨e1,e2⟩:=hee _ (tA (show 0<q.e.length by omega))
  rw [iP c,iP c,iP ⟨by omega,by omega⟩,e1,bSq,iP (by unfold maxLen;omega),List.append_assoc]
 ·rw [iN c,iN c,iP (by unfold maxLen;omega)]
  by_cases g:q.s.length>0
  ·rw [iP oM,iP g,vy q.s h2 oM,bSq,iP (by unfold maxLen;omega),j1 _ (by simp only [List.length_append,List.length_cons,List.length_nil];omega)]
   simp only [List.append_assoc,List.cons_append,List.nil_append]
  ·rw [iN oM,iN g,j1 _ (by simp only [List.length_append,List.length_cons,List.length_nil];omega)]
   simp only [List.append_assoc,List.cons_append,List.nil_append]
theorem Dw(n:Nat)(hn:1048576<n)(q:TEq)(h:eqF q=0)(hs:q.sz≤1048576):n9 n q=some (eqT n q):=by
 obtain ⟨h1,h2,h3⟩:=CG h
 have hz:=CH q
 have k1:=pQ q.names
 have k2:=sG q.s h2
 have k3:=wY n q.e h3
 have at0:∀ y,atT (exT n) y 0=exT n y:=fun y=>by
  have:=sY y
  unfold atT paT
  rw [iN oM]
 have hee:∀ y∈q.e,pf n y 0=some (exT n y)∧(exT n y).length≤40000000:=fun y hy=>by
  have k5:=iO (f:=ae.sz) hy
  have k6:=mY n y (h3 y hy)
  refine ⟨?_,by omega⟩
  have:=zr n y 0 (h3 y hy) oM oM
  rw [at0] at this
  exact this
 have hll:=ef ae.sz_pos q.e
 have hsl:=ef uH q.s
 have hse:=ep ae.sz q.e
 have hss:=ep (szL ah.sz) q.s
 have map_len:∀ {T:Type} (F:T→Ω) (w:T→Nat) (l:List T),(∀ x∈l,(F x).length+2≤32 * w x)→l.length≤1048576→uI w l≤1048576→gc (l.map F)=some (com (l.map F)):=by
  intro T F w l hw hl1 hl2
  have hsum:∀ l:List T,(∀ x∈l,(F x).length+2≤32 * w x)→uI (fun x:Ω=>x.length / 32+2) (l.map F)≤uI w l+2 * l.length:=by
   intro l
   induction l with
   |nil=>intro _;exact Nat.le_refl _
   |cons x l ih =>
    intro h
    have i1:=ih (fun y hy=>h y (by simp [hy]))
    have i2:=h x (by simp)
    simp only [List.map_cons,uI,List.length_cons]
    omega
  have:=hsum l hw
  exact wR (l.map F) (fun x=>x.length / 32+2) (fun x hx=>by omega) (by rw [List.length_map];omega) oM
 have j1:∀ s:Ω,s.length≤200000000→kg n q s=some (s++(40 :: (com (q.e.map (exT n))++[41]))):=by
  intro s hsl
  unfold kg
  rw [qX q.e (exT n) (fun i s hi hsl=>by
   show kf n q s i=_
   unfold kf
   rw [iP (ltI hi),iP (inI hi),tN,(hee _ (bm hi)).1,bSq,iP (qh oM oM),wrs i oM]
   rfl) (fun s=>by
   show kf n q s q.e.length=_
   unfold kf
   rw [iN (bq _)]),bSq]
  unfold lG
  rw [iP (by unfold maxLen;omega),map_len (exT n) ae.sz q.e (fun y hy=>by have:=mY n y (h3 y hy);omega) oM oM,bSq,iP (by unfold maxLen;omega)]
  simp only [List.append_assoc,List.cons_append,List.nil_append]
 unfold n9 eqT
 rw [xL _ oM,bSq,iP (by unfold maxLen;omega)]
 by_cases c:q.node=[]
 ·have hl:=(h1 c).2.1
  obtain ⟨e1,e2⟩:=hee _ (tA (show 0<q.e.length by omega))
  rw [iP c,iP c,iP ⟨by omega,by omega⟩,e1,bSq,iP (by unfold maxLen;omega),List.append_assoc]
 ·rw [iN c,iN c,iP (by unfold maxLen;omega)]
  by_cases g:q.s.length>0
  ·rw [iP oM,iP g,qX q.s lP (fun i s hi hsl=>by
    have hm:=iO (f:=szL ah.sz) (bm hi)
    show kh q s i=_
    unfold kh
    rw [iP (ltI hi),iP (inI hi),tN,ve _ (h2 _ (bm hi)) oM,bSq,iP (qh oM oM),wrs i oM]
    rfl) (fun s=>by
    show kh q s q.s.length=_
    unfold kh
    rw [iN (bq _)]),bSq]
   unfold lH
   rw [map_len lP (szL ah.sz) q.s (wU h2) oM oM,bSq,iP (by unfold maxLen;omega),j1 _ (by simp only [List.length_append,List.length_cons,List.length_nil];omega)]
   simp only [List.append_assoc,List.cons_append,List.nil_append]
  ·rw [iN oM,iN g,j1 _ (by simp only [List.length_append,List.length_cons,List.length_nil];omega)]
   simp only [List.append_assoc,List.cons_append,List.nil_append]
theorem yy{x:aJ}(h:o8 x=0):(∀ d∈x.in_,qY d)∧(∀ d∈x.out_,qY d)∧(∀ d∈x.local_,qY d):=by
 obtain ⟨_,h1⟩:=nX h
 obtain ⟨_,h2⟩:=nX h1
 obtain ⟨_,h3⟩:=nX h2
 obtain ⟨_,h4⟩:=nX h3
 obtain ⟨h5,h6⟩:=nX h4
 obtain ⟨h7,h8⟩:=nX h6
 exact ⟨wQ h5,wQ h7,wQ h8⟩
def wZ(x:aJ):Prop:=o8 x=0∧∀ q∈x.eqs,eqF q=0
theorem CJ{f:ap}{a e:Int}(h:(wf f a e).code=0):f.code=0∧e=0:=(Dq f a e).1 h
theorem CK:∀ (l:List TEq) (b:Int) (f:ap),(m7 b l f).code=0→f.code=0∧∀ q∈l,eqF q=0
 |[],_,f,h=>⟨h,fun q hq=>by simp at hq⟩
 |q :: l,b,f,h=>by
  obtain ⟨h1,h2⟩:=CK l _ _ h
  obtain ⟨h3,h4⟩:=CJ h1
  refine ⟨h3,fun q' hq=>?_⟩
  rcases List.mem_cons.1 hq with rfl|hq
  ·exact h4
  ·exact h2 _ hq
theorem zt:∀ (l:List aJ) (b i:Int) (f:ap),(mi b i l f).code=0→f.code=0∧∀ x∈l,wZ x
 |[],_,_,f,h=>⟨h,fun q hq=>by simp at hq⟩
 |x :: l,b,i,f,h=>by
  obtain ⟨h1,h2⟩:=zt l _ _ _ h
  obtain ⟨h3,h4⟩:=CK _ _ _ h1
  obtain ⟨h5,h6⟩:=CJ h3
  refine ⟨h5,fun x' hx=>?_⟩
  rcases List.mem_cons.1 hx with rfl|hx
  ·exact ⟨h6,h4⟩
  ·exact h2 _ hx
theorem w6{p:aD}(h:(mj p).code=0):∀ x∈p.nodes,wZ x:=(zt _ _ _ _ h).2
def vj(_:Nat)(d:ax):Ω:=[9,118,97,114,32]++(lu d++[59,10])
def rT(n _:Nat)(q:TEq):Ω:=9 :: (eqT n q++[59,10])
def qZ(n:Nat)(x:aJ):Ω :=
 [110, 111, 100, 101, 32] ++ (x.name ++ ((if x.sizes.length > 0 then 60 :: (com x.sizes ++ [62]) else []) ++ (40 :: (com (x.in_.map lu) ++ ([41, 32, 45, 62, 32, 40] ++ (com (x.out_.map lu) ++ ([41, 32, 123, 10] ++
  (m8 vj 0 x.local_++(m8 (rT n) 0 x.eqs++[125,10])))))))))
theorem ub(d:ax)(h:qY d):(lu d).length+32≤32 * d.sz:=by
 have h1:=mC d.t.n h
 have h2:=yt d
 unfold szS szI at h2
 unfold lu An
 split<;>split<;>simp only [List.length_append,List.length_cons,List.length_nil]<;>omega
theorem vP(x:aJ):x.sz=(x.name.length+1)+1+szL szS x.sizes+szL ax.sz x.in_+szL ax.sz x.out_+szL ax.sz x.local_+szL TEq.sz x.eqs+1:=by unfold aJ.sz szI;rw [show szS x.name=x.name.length+1 from rfl]
theorem sK{l:List ax}(h:∀ d∈l,qY d):∀ i,∀ d∈l,(vj i d).length≤32 * d.sz:=fun i d hd=>by
 have:=ub d (h d hd)
 unfold vj
 simp only [List.length_append,List.length_cons,List.length_nil];omega
theorem q9(n:Nat){l:List TEq}(h:∀ q∈l,eqF q=0):∀ i,∀ q∈l,(rT n i q).length≤32 * q.sz:=fun i q hq=>by
 have:=yx n q (h q hq)
 unfold rT
 simp only [List.length_append,List.length_cons,List.length_nil];omega
theorem xM(n:Nat)(x:aJ)(h:wZ x):(qZ n x).length+32≤32 * x.sz:=by
 obtain ⟨h1,h2⟩:=h
 obtain ⟨d1,d2,d3⟩:=yy h1
 have hz:=vP x
 have k1:=pQ x.sizes
 have k2:=oO x.in_ d1
 have k3:=oO x.out_ d2
 have k4:=mR vj ax.sz x.local_ 0 (sK d3)
 have k5:=mR (rT n) TEq.sz x.eqs 0 (q9 n h2)
 have s4:=ep ax.sz x.local_
 have s5:=ep TEq.sz x.eqs
 unfold qZ
 split<;>simp only [List.length_append,List.length_cons,List.length_nil]<;>omega
theorem Aq(n:Nat)(hn:1048576<n)(x:aJ)(h:wZ x)(hs:x.sz≤1048576):jN n x=some (qZ n x):=by
 obtain ⟨h1,h2⟩:=h
 obtain ⟨d1,d2,d3⟩:=yy h1
 have hz:=vP x
 have k1:=pQ x.sizes
 have k2:=oO x.in_ d1
 have k3:=oO x.out_ d2
 have k4:=mR vj ax.sz x.local_ 0 (sK d3)
 have k5:=mR (rT n) TEq.sz x.eqs 0 (q9 n h2)
 have s4:=ep ax.sz x.local_
 have s5:=ep TEq.sz x.eqs
 have n4:=ef ax.sz_pos x.local_
 have n5:=ef TEq.sz_pos x.eqs
 have j2:∀ s:Ω,s.length≤200000000→jd n x s=some (s++(m8 (rT n) 0 x.eqs++[125,10])):=by
  intro s hsl
  unfold jd
  rw [mS x.eqs (rT n) TEq.sz s 400000000 oM (q9 n h2) (fun i w hi hw=>by
   have hm:=iO (f:=TEq.sz) (bm hi)
   have hq:=h2 _ (bm hi)
   have hl:=yx n _ hq
   show jc n x w i=_
   unfold jc
   rw [iP (ltI hi),iP (inI hi),tN,CI n hn _ hq oM,bSq,iP (by unfold maxLen;omega),wrs i oM]
   rfl) (fun w=>by
   show jc n x w x.eqs.length=_
   unfold jc
   rw [iN (bq _)]),bSq]
  unfold kx
  rw [iP (by rw [List.length_append];unfold maxLen;omega),List.append_assoc]
 have j1:∀ s:Ω,s.length≤40000000→jf n x s=some (s++(40 :: (com (x.in_.map lu)++([41,32,45,62,32,40]++(com (x.out_.map lu)++([41,32,123,10]++(m8 vj 0 x.local_++(m8 (rT n) 0 x.eqs++[125,10])))))))):=by
  intro s hsl
  unfold jf
  rw [vx _ d1 oM,bSq,iP (by unfold maxLen;omega),vx _ d2 oM,bSq,iP (by unfold maxLen;omega)]
  rw [mS x.local_ vj ax.sz _ 400000000 (by simp only [List.length_append,List.length_cons,List.length_nil];omega) (sK d3) (fun i w hi hw=>by
   have hm:=iO (f:=ax.sz) (bm hi)
   have hq:=d3 _ (bm hi)
   have hl:=ub _ hq
   have hde:lW (ax.mk (x.local_.getD i default).name (x.local_.getD i default).t)=some (lu (x.local_.getD i default)):=wS (x.local_.getD i default) hq oM
   show je x w i=_
   unfold je
   rw [iP (ltI hi),iP (inI hi),tN,hde,bSq]
   rw [iP (by unfold maxLen;omega),wrs i oM]
   unfold vj
   simp only [List.append_assoc]) (fun w=>by
   show je x w x.local_.length=_
   unfold je
   rw [iN (bq _)]),bSq]
  rw [j2 _ (by simp only [List.length_append,List.length_cons,List.length_nil];omega)]
  simp only [List.append_assoc,List.cons_append,List.nil_append]
 unfold jN qZ
 rw [iP (by unfold maxLen;omega)]
 by_cases c:x.sizes.length>0
 ·rw [iP oM,iP c,CD _ oM,bSq,iP (by unfold maxLen;omega),j1 _ (by simp only [List.length_append,List.length_cons,List.length_nil];omega)]
  simp only [List.append_assoc,List.cons_append,List.nil_append]
 ·rw [iN oM,iN c,j1 _ (by simp only [List.length_append,List.length_cons,List.length_nil];omega)]
  simp only [List.append_assoc,List.cons_append,List.nil_append]
def oV(n:Nat)(p:aD):Ω:=m8 (fun _ x=>qZ n x) 0 p.nodes
theorem CL{T:Type}(F:T→Ω)(l:List T):∀ i,Go.Lib.join (l.map F) []=m8 (fun _ x=>F x) i l:=by
 induction l with
 |nil=>intro i;rfl
 |cons x l ih =>
  intro i
  rw [m8,← ih (i+1),List.map_cons,Go.Lib.join_cons]
  cases l with
  |nil=>rfl
  |cons y l=>rw [List.map_cons,Go.Lib.join_cons];simp [Go.Lib.joinTail]
theorem Ar(n:Nat)(p:aD)(h:∀ x∈p.nodes,wZ x):(oV n p).length≤32 * p.sz:=by
 have h1:=mR (fun _ x=>qZ n x) aJ.sz p.nodes 0 (fun i x hx=>by have:=xM n x (h x hx);omega)
 have h2:=ep aJ.sz p.nodes
 have h3:p.sz=szL aJ.sz p.nodes+1:=by unfold aD.sz;omega
 unfold oV
 omega
theorem zv(n:Nat)(hn:1048576<n)(p:aD)(h:∀ x∈p.nodes,wZ x)(hs:p.sz≤1048576):mo n p=some (oV n p):=by
 have h1:=Ar n p h
 have h3:p.sz=szL aJ.sz p.nodes+1:=by unfold aD.sz;omega
 have h4:=ef aJ.sz_pos p.nodes
 have hm:List.mapM (jN n) p.nodes=some (p.nodes.map (qZ n)):=by
  have:∀ l:List aJ,(∀ x∈l,jN n x=some (qZ n x))→List.mapM (jN n) l=some (l.map (qZ n)):=by
   intro l
   induction l with
   |nil=>intro _;rfl
   |cons x l ih =>
    intro hx
    rw [List.mapM_cons,hx x (by simp),ih (fun y hy=>hx y (by simp [hy]))]
    rfl
  refine this _ (fun x hx=>?_)
  have:=iO (f:=aJ.sz) hx
  exact Aq n hn x (h x hx) oM
 unfold mo
 rw [hm,bSq,CL (qZ n) p.nodes 0]
 show (if p.nodes.length≤1048576∧(oV n p).length≤140737488355328 then some (oV n p) else none)=_
 rw [iP oM]
theorem BD(n:Nat)(hn:1048576<n)(p:aD)(h:∀ x∈p.nodes,wZ x)(hs:p.sz≤1048576):sr n p=some (oV n p):=by
 have hp3:p.sz=szL aJ.sz p.nodes+1:=by unfold aD.sz;omega
 have hp4:=ef aJ.sz_pos p.nodes
 have hp5:=ep aJ.sz p.nodes
 unfold sr
 rw [mS p.nodes (fun _ x=>qZ n x) aJ.sz [] 40000000 (by simp only [List.length_nil];omega) (fun i x hx=>by have:=xM n x (h x hx);omega)
  (fun i s hi hsM => by
   have hg:=h _ (bm hi)
   have hm:=iO (f:=aJ.sz) (bm hi)
   show mh n p s i=_
   unfold mh
   rw [iP (ltI hi),iP (inI hi),tN]
   have j3:∀ z:Ω,z.length≤100000000→mg n p i z=some (.inl (z++(40 :: (com ((p.nodes.getD i default).in_.map lu)++([41,32,45,62,32,40]++(com ((p.nodes.getD i default).out_.map lu)++([41,32,123,10]++(m8 vj 0 (p.nodes.getD i default).local_++(m8 (rT n) 0 (p.nodes.getD i default).eqs++[125,10]))))))),((i+1:Nat):Int))):=by
    intro z hzl
    unfold mg
    rw [tN]
    have hl2:∀ w j,kR n p i w j=if j<((p.nodes.getD i default).eqs.length:Int) then (if (0≤j∧j<((p.nodes.getD i default).eqs.length:Int)) then ((n9 n ((p.nodes.getD i default).eqs.getD j.toNat default)).bind fun y20=>if 1+y20.length≤maxLen∧1+y20.length+2≤maxLen∧w.length+(1+y20.length)+2≤maxLen then (some (.inl ((w++((([9]:Ω)++y20)++([59,10]:Ω))),(IntKind.wrap .i64 (j+1))))) else none) else none) else (some (.inr w)):=fun w j=>by
     unfold kR;rw [tN]
    have hl3:∀ w j,me p i w j=if j<((p.nodes.getD i default).local_.length:Int) then (if (0≤j∧j<((p.nodes.getD i default).local_.length:Int)) then ((jV (ax.mk (((p.nodes.getD i default).local_.getD j.toNat default).name) (((p.nodes.getD i default).local_.getD j.toNat default).t))).bind fun y28=>if 5+y28.length≤maxLen∧5+y28.length+2≤maxLen∧w.length+(5+y28.length)+2≤maxLen then (some (.inl ((w++((([9,118,97,114,32]:Ω)++y28)++([59,10]:Ω))),(IntKind.wrap .i64 (j+1))))) else none) else none) else (some (.inr w)):=fun w j=>by
     unfold me;rw [tN]
    have hj4:∀ w,nh n p i w=(bD (fun x:Ω×Int=>kR n p i x.1 x.2) (w,0)).bind (fun z21=>mc i z21):=fun w=>rfl
    generalize p.nodes.getD i default=x at hg hm hsM hl2 hl3 ⊢
    obtain ⟨h1,h2⟩:=hg
    obtain ⟨d1,d2,d3⟩:=yy h1
    have hz:=vP x
    have k2:=oO x.in_ d1
    have k3:=oO x.out_ d2
    have k4:=mR vj ax.sz x.local_ 0 (sK d3)
    have k5:=mR (rT n) TEq.sz x.eqs 0 (q9 n h2)
    have s4:=ep ax.sz x.local_
    have s5:=ep TEq.sz x.eqs
    have n4:=ef ax.sz_pos x.local_
    have n5:=ef TEq.sz_pos x.eqs
    rw [wT _ d1 oM,bSq,iP (by simp only [List.length_append,List.length_cons,List.length_nil];unfold maxLen;omega),wT _ d2 oM,bSq,iP (by simp only [List.length_append,List.length_cons,List.length_nil];unfold maxLen;omega)]
    rw [mS x.local_ vj ax.sz _ 400000000 (by simp only [List.length_append,List.length_cons,List.length_nil];omega) (sK d3) (fun j w hj hw=>by
     have hm:=iO (f:=ax.sz) (bm hj)
     have hq:=d3 _ (bm hj)
     have hl:=ub _ hq
     have hde:jV (ax.mk (x.local_.getD j default).name (x.local_.getD j default).t)=some (lu (x.local_.getD j default)):=zq (x.local_.getD j default) hq oM
     show me p i w j=_
     rw [hl3,iP (ltI hj),iP (inI hj),tN,hde,bSq]
     rw [iP (by unfold maxLen;omega),wrs j oM]
     unfold vj
     simp only [List.append_assoc]) (fun w=>by
     show me p i w x.local_.length=_
     rw [hl3,iN (bq _)]),bSq,hj4]
    rw [mS x.eqs (rT n) TEq.sz _ 800000000 (by simp only [List.length_append,List.length_cons,List.length_nil];omega) (q9 n h2) (fun j w hj hw=>by
     have hm:=iO (f:=TEq.sz) (bm hj)
     have hq:=h2 _ (bm hj)
     have hl:=yx n _ hq
     show kR n p i w j=_
     rw [hl2,iP (ltI hj),iP (inI hj),tN,Dw n hn _ hq oM,bSq,iP (by unfold maxLen;omega),wrs j oM]
     rfl) (fun w=>by
     show kR n p i w x.eqs.length=_
     rw [hl2,iN (bq _)]),bSq]
    unfold mc oJ
    rw [iP (by simp only [List.length_append,List.length_cons,List.length_nil];unfold maxLen;omega),wrs i oM]
    simp only [List.append_assoc,List.cons_append,List.nil_append]
   have hz:=vP (p.nodes.getD i default)
   have k1:=pQ (p.nodes.getD i default).sizes
   rw [iP (by unfold maxLen;omega)]
   unfold qZ
   by_cases c:(p.nodes.getD i default).sizes.length>0
   ·rw [iP oM,iP c,xL _ oM,bSq,iP (by unfold maxLen;omega),j3 _ (by simp only [List.length_append,List.length_cons,List.length_nil];omega)]
    simp only [List.append_assoc,List.cons_append,List.nil_append]
   ·rw [iN oM,iN c,j3 _ (by simp only [List.length_append,List.length_cons,List.length_nil];omega)]
    simp only [List.append_assoc,List.cons_append,List.nil_append])
  (fun s => by
   show mh n p s p.nodes.length=_
   unfold mh
   rw [iN (bq _)])]
 rfl
def Dx(l:List Ω)(x:Ω):Int:=match zb (T:=Unit) l.length (fun i=>if x=l.getD i default then some (i:Int) else none) () with|.inl _=>-1|.inr z=>z
theorem kM(l:List Ω)(x:Ω)(h:l.length≤9000000):cR l x=some (Dx l x):=by
 unfold cR
 rw [sV l.length (fun i=>if x=l.getD i default then some (i:Int) else none) () (fun i hi=>by
  unfold dY
  rw [iP (ltI hi),iP (inI hi),tN]
  by_cases e:x=l.getD i default
  ·rw [iP e,iP e]
  ·rw [iN e,iN e,wrs i oM]) (by unfold dY;rw [iN (bq _)])]
 simp only [bSq]
 unfold Dx da
 split<;>rename_i h2<;>rw [h2]<;>rfl
theorem zw(l:List Ω)(x:Ω)(h:l.length≤9000000):dZ l x=some (decide (Dx l x≥0)):=by
 unfold dZ;rw [kM l x h];rfl
def isB(l:List Ω):List ab→Bool
 |t :: _=>decide (¬ t.kind=2) && decide (Dx l t.text≥0)
 |[]=>false
theorem FL(l:List Ω)(p:af)(h:l.length≤9000000):aO l p=some (isB l p.l):=by
 unfold aO
 cases hl:p.l with
 |nil=>rfl
 |cons t r =>
  rw [iP (by simp),iP (by simp),zw _ _ h]
  simp only [List.getD_cons_zero,isB]
  by_cases hk:t.kind=2
  ·rw [iN (fun x=>x hk)];simp [hk]
  ·rw [iP hk];simp [hk]
theorem rI(t:ab)(r:List ab)(a b c:Int):aX (af.mk (t :: r) a b c)=some (t,r):=by
 unfold aX
 rw [iP (by simp),iP (by simp;omega)]
 rfl
theorem oP{S O:Type}(body:S→Option (S ⊕ O))(s:S):bD body s=(body s).bind (Sum.elim (bD body) some):=by
 rw [dW];cases body s with
 |none=>rfl
 |some x=>cases x<;>rfl
theorem pR(l:List Ω)(a:List ab)(b c d:Int)(h:l.length≤9000000):aO l (af.mk a b c d)=some (isB l a):=FL l _ h
def vl:Ω:=[110,111,100,101,32,97,40,41,32,45,62,32,40,121,58,32,105,110,116,94,50,41,32,123,32,121,32,61,32,102,105,108,108,40,45,40,49,32,43,32,50,41,44,32,50,41,59,32,125]
def As:List ab:=[ab.mk 1 0 [110,111,100,101] 0,ab.mk 2 5 [97] 0,ab.mk 4 6 [40] 0,ab.mk 4 7 [41] 0,ab.mk 4 9 [45,62] 0,ab.mk 4 12 [40] 0,ab.mk 2 13 [121] 0,ab.mk 4 14 [58] 0,ab.mk 1 16 [105,110,116] 0,ab.mk 4 19 [94] 0,ab.mk 3 20 [50] 2,ab.mk 4 21 [41] 0,ab.mk 4 23 [123] 0,ab.mk 2 25 [121] 0,ab.mk 4 27 [61] 0,ab.mk 1 29 [102,105,108,108] 0,ab.mk 4 33 [40] 0,ab.mk 4 34 [45] 0,ab.mk 4 35 [40] 0,ab.mk 3 36 [49] 1,ab.mk 4 38 [43] 0,ab.mk 3 40 [50] 2,ab.mk 4 41 [41] 0,ab.mk 4 42 [44] 0,ab.mk 3 44 [50] 2,ab.mk 4 45 [41] 0,ab.mk 4 46 [59] 0,ab.mk 4 48 [125] 0]
theorem F8{α β:Type}{x x':Option α}{f:α→Option β}(h:x=x'):x.bind f=x'.bind f:=by rw [h]
theorem FM{S O:Type}{body:S→Option (S ⊕ O)}{s s':S}(h:s=s'):bD body s=bD body s':=by rw [h]
theorem yz(f n:Nat)(a:Int)(b:af):aA f (n+1) a b=e8 f (aA f n) a b:=rfl
theorem sL(r:Int→af→Option ((ae×(List ab)×Int×Int) ⊕ (Int×Int)))(n:Nat)(b:af):dO r (n+1) b=cZ r (dO r n) b:=rfl
theorem At:Cw vl=(As,ap.mk 0 0):=by decide
set_option maxHeartbeats 8000000
attribute [local congr] F8 FM
set_option maxRecDepth 100000
theorem zx(k:Int)(hk:k=0∨k=1∨k=2∨k=3∨k=4)(a b:Int):cq k (af.mk [ab.mk 4 41 [41] 0,ab.mk 4 42 [44] 0,ab.mk 3 44 [50] 2,ab.mk 4 45 [41] 0,ab.mk 4 46 [59] 0,ab.mk 4 48 [125] 0] 49 a b)=some 0:=by
 rcases hk with rfl|rfl|rfl|rfl|rfl<;>simp (decide:=true) [cq,pR,kM,lit,isB]
theorem zy(k:Int)(hk:k=0∨k=1∨k=2∨k=3∨k=4)(a b:Int):cq k (af.mk [ab.mk 4 42 [44] 0,ab.mk 3 44 [50] 2,ab.mk 4 45 [41] 0,ab.mk 4 46 [59] 0,ab.mk 4 48 [125] 0] 49 a b)=some 0:=by
 rcases hk with rfl|rfl|rfl|rfl|rfl<;>simp (decide:=true) [cq,pR,kM,lit,isB]
theorem zz(k:Int)(hk:k=0∨k=1∨k=2∨k=3∨k=4)(a b:Int):cq k (af.mk [ab.mk 4 46 [59] 0,ab.mk 4 48 [125] 0] 49 a b)=some 0:=by
 rcases hk with rfl|rfl|rfl|rfl|rfl<;>simp (decide:=true) [cq,pR,kM,lit,isB]
theorem FN(k:Int)(hk:k=4)(a b:Int):cq k (af.mk [ab.mk 4 38 [43] 0,ab.mk 3 40 [50] 2,ab.mk 4 41 [41] 0,ab.mk 4 42 [44] 0,ab.mk 3 44 [50] 2,ab.mk 4 45 [41] 0,ab.mk 4 46 [59] 0,ab.mk 4 48 [125] 0] 49 a b)=some 0:=by
 subst hk;simp (decide:=true) [cq,pR,kM,lit,isB]
theorem EK(a b:Int):cq 3 (af.mk [ab.mk 4 38 [43] 0,ab.mk 3 40 [50] 2,ab.mk 4 41 [41] 0,ab.mk 4 42 [44] 0,ab.mk 3 44 [50] 2,ab.mk 4 45 [41] 0,ab.mk 4 46 [59] 0,ab.mk 4 48 [125] 0] 49 a b)=some 1:=by
 simp (decide:=true) [cq,pR,kM,lit,isB]
theorem yA(F n:Nat)(p:af){e:ae}{l:List ab}{a b:Int}(h:cr F (aA F n) p=some (.inl (e,l,a,b))):aA F (n+1) 5 p=some (.inl (e,l,a,b)):=by
 rw [yz];unfold e8;rw [iP rfl,h];rfl
theorem li(F n:Nat)(k k':Int)(p:af){e:ae}{l:List ab}{a b:Int}(hk:k=0∨k=1∨k=2∨k=3∨k=4)(hk':IntKind.wrap .i64 (k+1)=k')(h:aA F n k' p=some (.inl (e,l,a,b)))
  (ho:cq k (af.mk l p.end_ a b)=some 0):aA F (n+1) k p=some (.inl (e,l,a,b)):=by
 rw [yz];unfold e8;rw [iN oM,hk',h]
 simp only [bSq,Sum.elim_inl,ho]
 rw [oP]
 simp only [gL,not_true_eq_false,if_false,bSq,Sum.elim_inr,Sum.elim_inl,dP]
 cases e;rfl
theorem F9(rc:Int→af→Option ((ae×(List ab)×Int×Int) ⊕ (Int×Int)))(F:Nat):cr (F+1) rc (af.mk [ab.mk 3 36 [49] 1,ab.mk 4 38 [43] 0,ab.mk 3 40 [50] 2,ab.mk 4 41 [41] 0,ab.mk 4 42 [44] 0,ab.mk 3 44 [50] 2,ab.mk 4 45 [41] 0,ab.mk 4 46 [59] 0,ab.mk 4 48 [125] 0] 49 3 0) =
  some (.inl (ae.mk 1 0 1 [] [] [],[ab.mk 4 38 [43] 0,ab.mk 3 40 [50] 2,ab.mk 4 41 [41] 0,ab.mk 4 42 [44] 0,ab.mk 3 44 [50] 2,ab.mk 4 45 [41] 0,ab.mk 4 46 [59] 0,ab.mk 4 48 [125] 0],3,1)):=by
 simp (decide:=true) [aL,dB,bu,bp,cX,aM,cg,dC,cj,ck,cY,cm,cS,dD,cD,eh,dw,bW,d6,bU,d7,bV,cz,dx,bH,eA,d8,ca,db,bN,d9,de,co,eZ,bP,cG,cH,cI,cJ,e7,dN,dg,dh,dy,cA,cB,dz,cZ,sL,cr,rI,pR,kM,oP,↓Sum.elim_inl,↓Sum.elim_inr,lit,isB,IntKind.wrap,IntKind.bits,lQ,maxLen]
theorem Ga(rc:Int→af→Option ((ae×(List ab)×Int×Int) ⊕ (Int×Int)))(F:Nat):cr (F+1) rc (af.mk [ab.mk 3 40 [50] 2,ab.mk 4 41 [41] 0,ab.mk 4 42 [44] 0,ab.mk 3 44 [50] 2,ab.mk 4 45 [41] 0,ab.mk 4 46 [59] 0,ab.mk 4 48 [125] 0] 49 3 1) =
  some (.inl (ae.mk 1 0 2 [] [] [],[ab.mk 4 41 [41] 0,ab.mk 4 42 [44] 0,ab.mk 3 44 [50] 2,ab.mk 4 45 [41] 0,ab.mk 4 46 [59] 0,ab.mk 4 48 [125] 0],3,2)):=by
 simp (decide:=true) [aL,dB,bu,bp,cX,aM,cg,dC,cj,ck,cY,cm,cS,dD,cD,eh,dw,bW,d6,bU,d7,bV,cz,dx,bH,eA,d8,ca,db,bN,d9,de,co,eZ,bP,cG,cH,cI,cJ,e7,dN,dg,dh,dy,cA,cB,dz,cZ,sL,cr,rI,pR,kM,oP,↓Sum.elim_inl,↓Sum.elim_inr,lit,isB,IntKind.wrap,IntKind.bits,lQ,maxLen]
theorem Gc(F n:Nat):aA (F+1) (n+1) 5 (af.mk [ab.mk 3 36 [49] 1,ab.mk 4 38 [43] 0,ab.mk 3 40 [50] 2,ab.mk 4 41 [41] 0,ab.mk 4 42 [44] 0,ab.mk 3 44 [50] 2,ab.mk 4 45 [41] 0,ab.mk 4 46 [59] 0,ab.mk 4 48 [125] 0] 49 3 0)=some (.inl (ae.mk 1 0 1 [] [] [],[ab.mk 4 38 [43] 0,ab.mk 3 40 [50] 2,ab.mk 4 41 [41] 0,ab.mk 4 42 [44] 0,ab.mk 3 44 [50] 2,ab.mk 4 45 [41] 0,ab.mk 4 46 [59] 0,ab.mk 4 48 [125] 0],3,1)):=yA _ _ _ (F9 _ _)
theorem Gd(F n:Nat):aA (F+1) (n+2) 4 (af.mk [ab.mk 3 36 [49] 1,ab.mk 4 38 [43] 0,ab.mk 3 40 [50] 2,ab.mk 4 41 [41] 0,ab.mk 4 42 [44] 0,ab.mk 3 44 [50] 2,ab.mk 4 45 [41] 0,ab.mk 4 46 [59] 0,ab.mk 4 48 [125] 0] 49 3 0) =
  some (.inl (ae.mk 1 0 1 [] [] [],[ab.mk 4 38 [43] 0,ab.mk 3 40 [50] 2,ab.mk 4 41 [41] 0,ab.mk 4 42 [44] 0,ab.mk 3 44 [50] 2,ab.mk 4 45 [41] 0,ab.mk 4 46 [59] 0,ab.mk 4 48 [125] 0],3,1)):=li _ _ 4 5 _ oM dM (Gc F n) (FN _ oM _ _)
theorem Ge(F n:Nat):aA (F+1) (n+1) 5 (af.mk [ab.mk 3 40 [50] 2,ab.mk 4 41 [41] 0,ab.mk 4 42 [44] 0,ab.mk 3 44 [50] 2,ab.mk 4 45 [41] 0,ab.mk 4 46 [59] 0,ab.mk 4 48 [125] 0] 49 3 1)=some (.inl (ae.mk 1 0 2 [] [] [],[ab.mk 4 41 [41] 0,ab.mk 4 42 [44] 0,ab.mk 3 44 [50] 2,ab.mk 4 45 [41] 0,ab.mk 4 46 [59] 0,ab.mk 4 48 [125] 0],3,2)):=yA _ _ _ (Ga _ _)
theorem Gf(F n:Nat):aA (F+1) (n+2) 4 (af.mk [ab.mk 3 40 [50] 2,ab.mk 4 41 [41] 0,ab.mk 4 42 [44] 0,ab.mk 3 44 [50] 2,ab.mk 4 45 [41] 0,ab.mk 4 46 [59] 0,ab.mk 4 48 [125] 0] 49 3 1) =
  some (.inl (ae.mk 1 0 2 [] [] [],[ab.mk 4 41 [41] 0,ab.mk 4 42 [44] 0,ab.mk 3 44 [50] 2,ab.mk 4 45 [41] 0,ab.mk 4 46 [59] 0,ab.mk 4 48 [125] 0],3,2)):=li _ _ 4 5 _ oM dM (Ge F n) (zx _ oM _ _)
theorem Gg(F n:Nat):aA (F+1) (n+3) 3 (af.mk [ab.mk 3 36 [49] 1,ab.mk 4 38 [43] 0,ab.mk 3 40 [50] 2,ab.mk 4 41 [41] 0,ab.mk 4 42 [44] 0,ab.mk 3 44 [50] 2,ab.mk 4 45 [41] 0,ab.mk 4 46 [59] 0,ab.mk 4 48 [125] 0] 49 3 0) =
  some (.inl (ae.mk 5 1 0 [] [] [ae.mk 1 0 1 [] [] [],ae.mk 1 0 2 [] [] []],[ab.mk 4 41 [41] 0,ab.mk 4 42 [44] 0,ab.mk 3 44 [50] 2,ab.mk 4 45 [41] 0,ab.mk 4 46 [59] 0,ab.mk 4 48 [125] 0],3,3)):=by
 rw [yz]
 simp (decide:=true) [e8,gL,dP,Gd,Gf,EK,zx,oP,rI,bW,↓Sum.elim_inl,↓Sum.elim_inr,IntKind.wrap,IntKind.bits,lit]
theorem Gi(F n:Nat):aA (F+1) (n+4) 2 (af.mk [ab.mk 3 36 [49] 1,ab.mk 4 38 [43] 0,ab.mk 3 40 [50] 2,ab.mk 4 41 [41] 0,ab.mk 4 42 [44] 0,ab.mk 3 44 [50] 2,ab.mk 4 45 [41] 0,ab.mk 4 46 [59] 0,ab.mk 4 48 [125] 0] 49 3 0) =
  some (.inl (ae.mk 5 1 0 [] [] [ae.mk 1 0 1 [] [] [],ae.mk 1 0 2 [] [] []],[ab.mk 4 41 [41] 0,ab.mk 4 42 [44] 0,ab.mk 3 44 [50] 2,ab.mk 4 45 [41] 0,ab.mk 4 46 [59] 0,ab.mk 4 48 [125] 0],3,3)):=li _ _ 2 3 _ oM dM (Gg F n) (zx _ oM _ _)
theorem Gj(F n:Nat):aA (F+1) (n+5) 1 (af.mk [ab.mk 3 36 [49] 1,ab.mk 4 38 [43] 0,ab.mk 3 40 [50] 2,ab.mk 4 41 [41] 0,ab.mk 4 42 [44] 0,ab.mk 3 44 [50] 2,ab.mk 4 45 [41] 0,ab.mk 4 46 [59] 0,ab.mk 4 48 [125] 0] 49 3 0) =
  some (.inl (ae.mk 5 1 0 [] [] [ae.mk 1 0 1 [] [] [],ae.mk 1 0 2 [] [] []],[ab.mk 4 41 [41] 0,ab.mk 4 42 [44] 0,ab.mk 3 44 [50] 2,ab.mk 4 45 [41] 0,ab.mk 4 46 [59] 0,ab.mk 4 48 [125] 0],3,3)):=li _ _ 1 2 _ oM dM (Gi F n) (zx _ oM _ _)
theorem Gk(F n:Nat):aA (F+1) (n+6) 0 (af.mk [ab.mk 3 36 [49] 1,ab.mk 4 38 [43] 0,ab.mk 3 40 [50] 2,ab.mk 4 41 [41] 0,ab.mk 4 42 [44] 0,ab.mk 3 44 [50] 2,ab.mk 4 45 [41] 0,ab.mk 4 46 [59] 0,ab.mk 4 48 [125] 0] 49 3 0) =
  some (.inl (ae.mk 5 1 0 [] [] [ae.mk 1 0 1 [] [] [],ae.mk 1 0 2 [] [] []],[ab.mk 4 41 [41] 0,ab.mk 4 42 [44] 0,ab.mk 3 44 [50] 2,ab.mk 4 45 [41] 0,ab.mk 4 46 [59] 0,ab.mk 4 48 [125] 0],3,3)):=li _ _ 0 1 _ oM dM (Gj F n) (zx _ oM _ _)
theorem Gl(F F2 n:Nat):dO (aA (F+1) (n+6)) (F2+1) (af.mk [ab.mk 4 35 [40] 0,ab.mk 3 36 [49] 1,ab.mk 4 38 [43] 0,ab.mk 3 40 [50] 2,ab.mk 4 41 [41] 0,ab.mk 4 42 [44] 0,ab.mk 3 44 [50] 2,ab.mk 4 45 [41] 0,ab.mk 4 46 [59] 0,ab.mk 4 48 [125] 0] 49 2 0) =
  some (.inl (ae.mk 5 1 0 [] [] [ae.mk 1 0 1 [] [] [],ae.mk 1 0 2 [] [] []],[ab.mk 4 42 [44] 0,ab.mk 3 44 [50] 2,ab.mk 4 45 [41] 0,ab.mk 4 46 [59] 0,ab.mk 4 48 [125] 0],2,3)):=by
 simp (decide:=true) [aL,dB,bu,bp,cX,aM,cg,dC,cj,ck,cY,cm,cS,dD,cD,eh,dw,bW,d6,bU,d7,bV,cz,dx,bH,eA,d8,ca,db,bN,d9,de,co,eZ,bP,cG,cH,cI,cJ,e7,dN,dg,dh,dy,cA,cB,dz,cZ,sL,cr,Gk,rI,pR,kM,oP,↓Sum.elim_inl,↓Sum.elim_inr,lit,isB,IntKind.wrap,IntKind.bits,lQ,maxLen]
theorem Gm(F F2 n:Nat):cr (F2+2) (aA (F+1) (n+6)) (af.mk [ab.mk 4 34 [45] 0,ab.mk 4 35 [40] 0,ab.mk 3 36 [49] 1,ab.mk 4 38 [43] 0,ab.mk 3 40 [50] 2,ab.mk 4 41 [41] 0,ab.mk 4 42 [44] 0,ab.mk 3 44 [50] 2,ab.mk 4 45 [41] 0,ab.mk 4 46 [59] 0,ab.mk 4 48 [125] 0] 49 1 0) =
  some (.inl (ae.mk 4 13 0 [] [] [ae.mk 5 1 0 [] [] [ae.mk 1 0 1 [] [] [],ae.mk 1 0 2 [] [] []]],[ab.mk 4 42 [44] 0,ab.mk 3 44 [50] 2,ab.mk 4 45 [41] 0,ab.mk 4 46 [59] 0,ab.mk 4 48 [125] 0],1,4)):=by
 simp (decide:=true) [aL,dB,bu,bp,cX,aM,cg,dC,cj,ck,cY,cm,cS,dD,cD,eh,dw,bW,d6,bU,d7,bV,cz,dx,bH,eA,d8,ca,db,bN,d9,de,co,eZ,bP,cG,cH,cI,cJ,e7,dN,dg,dh,dy,cA,cB,dz,cZ,cr,sL _ (F2+1),Gl,rI,pR,kM,oP,↓Sum.elim_inl,↓Sum.elim_inr,lit,isB,IntKind.wrap,IntKind.bits,lQ,maxLen]
theorem Gn(F n:Nat):aA (F+2) (n+7) 5 (af.mk [ab.mk 4 34 [45] 0,ab.mk 4 35 [40] 0,ab.mk 3 36 [49] 1,ab.mk 4 38 [43] 0,ab.mk 3 40 [50] 2,ab.mk 4 41 [41] 0,ab.mk 4 42 [44] 0,ab.mk 3 44 [50] 2,ab.mk 4 45 [41] 0,ab.mk 4 46 [59] 0,ab.mk 4 48 [125] 0] 49 1 0)=some (.inl (ae.mk 4 13 0 [] [] [ae.mk 5 1 0 [] [] [ae.mk 1 0 1 [] [] [],ae.mk 1 0 2 [] [] []]],[ab.mk 4 42 [44] 0,ab.mk 3 44 [50] 2,ab.mk 4 45 [41] 0,ab.mk 4 46 [59] 0,ab.mk 4 48 [125] 0],1,4)):=yA _ _ _ (Gm _ _ _)
theorem Gp(F n:Nat):aA (F+2) (n+8) 4 (af.mk [ab.mk 4 34 [45] 0,ab.mk 4 35 [40] 0,ab.mk 3 36 [49] 1,ab.mk 4 38 [43] 0,ab.mk 3 40 [50] 2,ab.mk 4 41 [41] 0,ab.mk 4 42 [44] 0,ab.mk 3 44 [50] 2,ab.mk 4 45 [41] 0,ab.mk 4 46 [59] 0,ab.mk 4 48 [125] 0] 49 1 0) =
  some (.inl (ae.mk 4 13 0 [] [] [ae.mk 5 1 0 [] [] [ae.mk 1 0 1 [] [] [],ae.mk 1 0 2 [] [] []]],[ab.mk 4 42 [44] 0,ab.mk 3 44 [50] 2,ab.mk 4 45 [41] 0,ab.mk 4 46 [59] 0,ab.mk 4 48 [125] 0],1,4)):=li _ _ 4 5 _ oM dM (Gn F n) (zy _ oM _ _)
theorem Gq(F n:Nat):aA (F+2) (n+9) 3 (af.mk [ab.mk 4 34 [45] 0,ab.mk 4 35 [40] 0,ab.mk 3 36 [49] 1,ab.mk 4 38 [43] 0,ab.mk 3 40 [50] 2,ab.mk 4 41 [41] 0,ab.mk 4 42 [44] 0,ab.mk 3 44 [50] 2,ab.mk 4 45 [41] 0,ab.mk 4 46 [59] 0,ab.mk 4 48 [125] 0] 49 1 0) =
  some (.inl (ae.mk 4 13 0 [] [] [ae.mk 5 1 0 [] [] [ae.mk 1 0 1 [] [] [],ae.mk 1 0 2 [] [] []]],[ab.mk 4 42 [44] 0,ab.mk 3 44 [50] 2,ab.mk 4 45 [41] 0,ab.mk 4 46 [59] 0,ab.mk 4 48 [125] 0],1,4)):=li _ _ 3 4 _ oM dM (Gp F n) (zy _ oM _ _)
theorem Gr(F n:Nat):aA (F+2) (n+10) 2 (af.mk [ab.mk 4 34 [45] 0,ab.mk 4 35 [40] 0,ab.mk 3 36 [49] 1,ab.mk 4 38 [43] 0,ab.mk 3 40 [50] 2,ab.mk 4 41 [41] 0,ab.mk 4 42 [44] 0,ab.mk 3 44 [50] 2,ab.mk 4 45 [41] 0,ab.mk 4 46 [59] 0,ab.mk 4 48 [125] 0] 49 1 0) =
  some (.inl (ae.mk 4 13 0 [] [] [ae.mk 5 1 0 [] [] [ae.mk 1 0 1 [] [] [],ae.mk 1 0 2 [] [] []]],[ab.mk 4 42 [44] 0,ab.mk 3 44 [50] 2,ab.mk 4 45 [41] 0,ab.mk 4 46 [59] 0,ab.mk 4 48 [125] 0],1,4)):=li _ _ 2 3 _ oM dM (Gq F n) (zy _ oM _ _)
theorem Gs(F n:Nat):aA (F+2) (n+11) 1 (af.mk [ab.mk 4 34 [45] 0,ab.mk 4 35 [40] 0,ab.mk 3 36 [49] 1,ab.mk 4 38 [43] 0,ab.mk 3 40 [50] 2,ab.mk 4 41 [41] 0,ab.mk 4 42 [44] 0,ab.mk 3 44 [50] 2,ab.mk 4 45 [41] 0,ab.mk 4 46 [59] 0,ab.mk 4 48 [125] 0] 49 1 0) =
  some (.inl (ae.mk 4 13 0 [] [] [ae.mk 5 1 0 [] [] [ae.mk 1 0 1 [] [] [],ae.mk 1 0 2 [] [] []]],[ab.mk 4 42 [44] 0,ab.mk 3 44 [50] 2,ab.mk 4 45 [41] 0,ab.mk 4 46 [59] 0,ab.mk 4 48 [125] 0],1,4)):=li _ _ 1 2 _ oM dM (Gr F n) (zy _ oM _ _)
theorem Gt(F n:Nat):aA (F+2) (n+12) 0 (af.mk [ab.mk 4 34 [45] 0,ab.mk 4 35 [40] 0,ab.mk 3 36 [49] 1,ab.mk 4 38 [43] 0,ab.mk 3 40 [50] 2,ab.mk 4 41 [41] 0,ab.mk 4 42 [44] 0,ab.mk 3 44 [50] 2,ab.mk 4 45 [41] 0,ab.mk 4 46 [59] 0,ab.mk 4 48 [125] 0] 49 1 0) =
  some (.inl (ae.mk 4 13 0 [] [] [ae.mk 5 1 0 [] [] [ae.mk 1 0 1 [] [] [],ae.mk 1 0 2 [] [] []]],[ab.mk 4 42 [44] 0,ab.mk 3 44 [50] 2,ab.mk 4 45 [41] 0,ab.mk 4 46 [59] 0,ab.mk 4 48 [125] 0],1,4)):=li _ _ 0 1 _ oM dM (Gs F n) (zy _ oM _ _)
theorem Dy:dp [102,105,108,108] [[109,97,112],[102,111,108,100],[115,99,97,110],[102,105,108,108],[119,105,116,104],[115,108,105,99,101],[99,97,116],[112,114,101],[109,105,110],[109,97,120]]=some 3:=by
 have h:dp [102,105,108,108] [[109,97,112],[102,111,108,100],[115,99,97,110],[102,105,108,108],[119,105,116,104],[115,108,105,99,101],[99,97,116],[112,114,101],[109,105,110],[109,97,120]]=cR [[109,97,112],[102,111,108,100],[115,99,97,110],[102,105,108,108],[119,105,116,104],[115,108,105,99,101],[99,97,116],[112,114,101],[109,105,110],[109,97,120]] [102,105,108,108]:=rfl
 rw [h,kM _ _ dM]
 decide
theorem Gu(F n:Nat):cr (F+3) (aA (F+3) (n+12)) (af.mk [ab.mk 1 29 [102,105,108,108] 0,ab.mk 4 33 [40] 0,ab.mk 4 34 [45] 0,ab.mk 4 35 [40] 0,ab.mk 3 36 [49] 1,ab.mk 4 38 [43] 0,ab.mk 3 40 [50] 2,ab.mk 4 41 [41] 0,ab.mk 4 42 [44] 0,ab.mk 3 44 [50] 2,ab.mk 4 45 [41] 0,ab.mk 4 46 [59] 0,ab.mk 4 48 [125] 0] 49 0 0) =
  some (.inl (ae.mk 10 0 0 [] [[ah.mk 2 []]] [ae.mk 4 13 0 [] [] [ae.mk 5 1 0 [] [] [ae.mk 1 0 1 [] [] [],ae.mk 1 0 2 [] [] []]]],[ab.mk 4 46 [59] 0,ab.mk 4 48 [125] 0],0,5)):=by
 simp (decide:=true) [aL,dB,bu,bp,cX,aM,cg,dC,cj,ck,cY,cm,cS,dD,cD,eh,dw,bW,d6,bU,d7,bV,cz,dx,bH,eA,d8,ca,db,bN,d9,de,co,eZ,bP,cG,cH,cI,cJ,e7,dN,dg,dh,dy,cA,cB,dz,cZ,cr,sL _ (F+2),Gt,Dy,rI,pR,kM,oP,↓Sum.elim_inl,↓Sum.elim_inr,lit,isB,IntKind.wrap,IntKind.bits,lQ,maxLen]
theorem Gv(F n:Nat):aA (F+3) (n+13) 5 (af.mk [ab.mk 1 29 [102,105,108,108] 0,ab.mk 4 33 [40] 0,ab.mk 4 34 [45] 0,ab.mk 4 35 [40] 0,ab.mk 3 36 [49] 1,ab.mk 4 38 [43] 0,ab.mk 3 40 [50] 2,ab.mk 4 41 [41] 0,ab.mk 4 42 [44] 0,ab.mk 3 44 [50] 2,ab.mk 4 45 [41] 0,ab.mk 4 46 [59] 0,ab.mk 4 48 [125] 0] 49 0 0)=some (.inl (ae.mk 10 0 0 [] [[ah.mk 2 []]] [ae.mk 4 13 0 [] [] [ae.mk 5 1 0 [] [] [ae.mk 1 0 1 [] [] [],ae.mk 1 0 2 [] [] []]]],[ab.mk 4 46 [59] 0,ab.mk 4 48 [125] 0],0,5)):=yA _ _ _ (Gu _ _)
theorem Gw(F n:Nat):aA (F+3) (n+14) 4 (af.mk [ab.mk 1 29 [102,105,108,108] 0,ab.mk 4 33 [40] 0,ab.mk 4 34 [45] 0,ab.mk 4 35 [40] 0,ab.mk 3 36 [49] 1,ab.mk 4 38 [43] 0,ab.mk 3 40 [50] 2,ab.mk 4 41 [41] 0,ab.mk 4 42 [44] 0,ab.mk 3 44 [50] 2,ab.mk 4 45 [41] 0,ab.mk 4 46 [59] 0,ab.mk 4 48 [125] 0] 49 0 0) =
  some (.inl (ae.mk 10 0 0 [] [[ah.mk 2 []]] [ae.mk 4 13 0 [] [] [ae.mk 5 1 0 [] [] [ae.mk 1 0 1 [] [] [],ae.mk 1 0 2 [] [] []]]],[ab.mk 4 46 [59] 0,ab.mk 4 48 [125] 0],0,5)):=li _ _ 4 5 _ oM dM (Gv F n) (zz _ oM _ _)
theorem Gx(F n:Nat):aA (F+3) (n+15) 3 (af.mk [ab.mk 1 29 [102,105,108,108] 0,ab.mk 4 33 [40] 0,ab.mk 4 34 [45] 0,ab.mk 4 35 [40] 0,ab.mk 3 36 [49] 1,ab.mk 4 38 [43] 0,ab.mk 3 40 [50] 2,ab.mk 4 41 [41] 0,ab.mk 4 42 [44] 0,ab.mk 3 44 [50] 2,ab.mk 4 45 [41] 0,ab.mk 4 46 [59] 0,ab.mk 4 48 [125] 0] 49 0 0) =
  some (.inl (ae.mk 10 0 0 [] [[ah.mk 2 []]] [ae.mk 4 13 0 [] [] [ae.mk 5 1 0 [] [] [ae.mk 1 0 1 [] [] [],ae.mk 1 0 2 [] [] []]]],[ab.mk 4 46 [59] 0,ab.mk 4 48 [125] 0],0,5)):=li _ _ 3 4 _ oM dM (Gw F n) (zz _ oM _ _)
theorem Gy(F n:Nat):aA (F+3) (n+16) 2 (af.mk [ab.mk 1 29 [102,105,108,108] 0,ab.mk 4 33 [40] 0,ab.mk 4 34 [45] 0,ab.mk 4 35 [40] 0,ab.mk 3 36 [49] 1,ab.mk 4 38 [43] 0,ab.mk 3 40 [50] 2,ab.mk 4 41 [41] 0,ab.mk 4 42 [44] 0,ab.mk 3 44 [50] 2,ab.mk 4 45 [41] 0,ab.mk 4 46 [59] 0,ab.mk 4 48 [125] 0] 49 0 0) =
  some (.inl (ae.mk 10 0 0 [] [[ah.mk 2 []]] [ae.mk 4 13 0 [] [] [ae.mk 5 1 0 [] [] [ae.mk 1 0 1 [] [] [],ae.mk 1 0 2 [] [] []]]],[ab.mk 4 46 [59] 0,ab.mk 4 48 [125] 0],0,5)):=li _ _ 2 3 _ oM dM (Gx F n) (zz _ oM _ _)
theorem Gz(F n:Nat):aA (F+3) (n+17) 1 (af.mk [ab.mk 1 29 [102,105,108,108] 0,ab.mk 4 33 [40] 0,ab.mk 4 34 [45] 0,ab.mk 4 35 [40] 0,ab.mk 3 36 [49] 1,ab.mk 4 38 [43] 0,ab.mk 3 40 [50] 2,ab.mk 4 41 [41] 0,ab.mk 4 42 [44] 0,ab.mk 3 44 [50] 2,ab.mk 4 45 [41] 0,ab.mk 4 46 [59] 0,ab.mk 4 48 [125] 0] 49 0 0) =
  some (.inl (ae.mk 10 0 0 [] [[ah.mk 2 []]] [ae.mk 4 13 0 [] [] [ae.mk 5 1 0 [] [] [ae.mk 1 0 1 [] [] [],ae.mk 1 0 2 [] [] []]]],[ab.mk 4 46 [59] 0,ab.mk 4 48 [125] 0],0,5)):=li _ _ 1 2 _ oM dM (Gy F n) (zz _ oM _ _)
theorem GA(F n:Nat):aA (F+3) (n+18) 0 (af.mk [ab.mk 1 29 [102,105,108,108] 0,ab.mk 4 33 [40] 0,ab.mk 4 34 [45] 0,ab.mk 4 35 [40] 0,ab.mk 3 36 [49] 1,ab.mk 4 38 [43] 0,ab.mk 3 40 [50] 2,ab.mk 4 41 [41] 0,ab.mk 4 42 [44] 0,ab.mk 3 44 [50] 2,ab.mk 4 45 [41] 0,ab.mk 4 46 [59] 0,ab.mk 4 48 [125] 0] 49 0 0) =
  some (.inl (ae.mk 10 0 0 [] [[ah.mk 2 []]] [ae.mk 4 13 0 [] [] [ae.mk 5 1 0 [] [] [ae.mk 1 0 1 [] [] [],ae.mk 1 0 2 [] [] []]]],[ab.mk 4 46 [59] 0,ab.mk 4 48 [125] 0],0,5)):=li _ _ 0 1 _ oM dM (Gz F n) (zz _ oM _ _)
theorem Au(m:Nat)(o:Int):gR (m+40) (af.mk [ab.mk 1 29 [102,105,108,108] 0,ab.mk 4 33 [40] 0,ab.mk 4 34 [45] 0,ab.mk 4 35 [40] 0,ab.mk 3 36 [49] 1,ab.mk 4 38 [43] 0,ab.mk 3 40 [50] 2,ab.mk 4 41 [41] 0,ab.mk 4 42 [44] 0,ab.mk 3 44 [50] 2,ab.mk 4 45 [41] 0,ab.mk 4 46 [59] 0,ab.mk 4 48 [125] 0] 49 0 o) =
  some (.inl (ae.mk 10 0 0 [] [[ah.mk 2 []]] [ae.mk 4 13 0 [] [] [ae.mk 5 1 0 [] [] [ae.mk 1 0 1 [] [] [],ae.mk 1 0 2 [] [] []]]],[ab.mk 4 46 [59] 0,ab.mk 4 48 [125] 0],0,5)):=by
 simp (decide:=true) [gR,fo,m6,show aA (m+40) (m+40) 0 (af.mk [ab.mk 1 29 [102,105,108,108] 0,ab.mk 4 33 [40] 0,ab.mk 4 34 [45] 0,ab.mk 4 35 [40] 0,ab.mk 3 36 [49] 1,ab.mk 4 38 [43] 0,ab.mk 3 40 [50] 2,ab.mk 4 41 [41] 0,ab.mk 4 42 [44] 0,ab.mk 3 44 [50] 2,ab.mk 4 45 [41] 0,ab.mk 4 46 [59] 0,ab.mk 4 48 [125] 0] 49 0 0)=_ from GA (m+37) (m+22)]
theorem zA(m:Nat):lb (m+40) vl=some (aD.mk [aJ.mk [97] 0 [] [] [ax.mk [121] (gK.mk 105 [ah.mk 2 []])] [] [TEq.mk 25 [[121]] [] [] [ae.mk 10 0 0 [] [[ah.mk 2 []]] [ae.mk 4 13 0 [] [] [ae.mk 5 1 0 [] [] [ae.mk 1 0 1 [] [] [],ae.mk 1 0 2 [] [] []]]]]]],ap.mk 0 0):=by
 have hs:n8 vl=some (As,ap.mk 0 0):=by rw [Do _ dM,At]
 unfold lb
 rw [hs]
 simp (decide:=true) [As,vl,Au,jA,jB,mT,jO,jP,lO,jg,iR,iJ,iS,km,iT,ko,gu,gv,gy,mu,fp,fq,eJ,jq,ft,fv,kZ,aL,dB,bu,bp,cX,aM,cg,dC,cj,ck,cY,cm,cS,rI,pR,kM,oP,↓Sum.elim_inl,↓Sum.elim_inr,lit,isB,IntKind.wrap,IntKind.bits,lQ,maxLen]
theorem yB{f:ap}{a e:Int}(h:(wf f a e).code=0):wf f a e=f:=by rw [(CJ h).2,zg]
theorem xN:∀ (l:List TEq) (b:Int) (f:ap),(m7 b l f).code=0→m7 b l f=f
 |[],_,_,_=>rfl
 |q :: l,b,f,h=>by
  have h1:=xN l _ _ h
  rw [m7,h1]
  rw [m7,h1] at h
  exact yB h
theorem vz:∀ (l:List aJ) (b i:Int) (f:ap),(mi b i l f).code=0→mi b i l f=f
 |[],_,_,_,_=>rfl
 |x :: l,b,i,f,h=>by
  have h1:=vz l _ _ _ h
  rw [mi,h1]
  rw [mi,h1] at h
  have h2:=xN _ _ _ h
  rw [h2]
  rw [h2] at h
  exact yB h
theorem zB{p:aD}(h:(mj p).code=0):mj p=ap.mk 0 0:=by
 have h1:=vz _ _ _ _ h
 unfold mj at h ⊢
 rw [h1] at h ⊢
 exact yB h
def oW(n:Nat)(p:aD):ap:=if (mj p).code=0 then (if 12000<(oV n p).length then ap.mk 7 (-1) else ap.mk 0 0) else mj p
theorem zE(n:Nat)(hn:8000000<n)(p:aD)(h:p.sz≤1048576):mq n p=some (oW n p):=by
 unfold mq oW
 rw [BA n hn p (wK h),bSq]
 by_cases c:(mj p).code=0
 ·rw [iP c,iP c,zv n oM p (w6 c) h,bSq,zB c]
  by_cases g:12000<(oV n p).length
  ·rw [iP oM,iP g]
  ·rw [iN oM,iN g]
 ·rw [iN c,iN c]
theorem BE(n:Nat)(hn:8000000<n)(p:aD)(h:p.sz≤1048576):jE n p=some (oW n p):=by
 unfold oW
 rw [BB n hn p (wK h)]
 by_cases c:(mj p).code=0
 ·rw [iP c,iP c]
  unfold fO so
  rw [BD n oM p (w6 c) h,bSq]
  by_cases g:12000<(oV n p).length
  ·rw [iP oM,iP g];rfl
  ·rw [iN oM,iN g]
 ·rw [iN c,iN c]
theorem CM{n:Nat}{p:aD}(h:(oW n p).code=0):(mj p).code=0∧oW n p=ap.mk 0 0:=by
 unfold oW at h ⊢
 by_cases c:(mj p).code=0
 ·rw [iP c] at h ⊢
  refine ⟨c,?_⟩
  split at h
  ·exact absurd h dM
  ·rename_i g;rw [iN g]
 ·rw [iN c] at h;exact absurd h c
theorem CN(n:Nat)(hn:8000000<n)(p:aD)(h:p.sz≤1048576):mw n p=some (if (oW n p).code=0 then oV n p else [],oW n p):=by
 unfold mw
 rw [zE n hn p h,bSq]
 by_cases c:(oW n p).code=0
 ·obtain ⟨c1,c2⟩:=CM c
  rw [iN (fun k=>k c),zv n oM p (w6 c1) h,bSq,iP c,c2]
 ·rw [iP c,iN c]
def rJ:aD:=aD.mk [aJ.mk [97] 0 [] [] [ax.mk [121] (gK.mk 105 [ah.mk 2 []])] [] [TEq.mk 25 [[121]] [] [] [ae.mk 10 0 0 [] [[ah.mk 2 []]] [ae.mk 4 13 0 [] [] [ae.mk 5 1 0 [] [] [ae.mk 1 0 1 [] [] [],ae.mk 1 0 2 [] [] []]]]]]]
theorem BF:rJ.sz≤1048576:=by decide
theorem CO:ir [97]=true:=by
 unfold ir
 refine dT ⟨by decide,by decide,⟨97,rfl,by decide⟩,by decide,fun i hi=>?_⟩
 have:i=0:=by simp at hi;exact hi
 subst this;decide
theorem BG:ir [121]=true:=by
 unfold ir
 refine dT ⟨by decide,by decide,⟨121,rfl,by decide⟩,by decide,fun i hi=>?_⟩
 have:i=0:=by simp at hi;exact hi
 subst this;decide
theorem yC:mj rJ=ap.mk 0 0:=by
 simp [mj,rJ,mi,m7,o8,kT,CO,BG,fh,fsF,xG,Bw,iL,uC,eqF,qV,pn,pns,exF,Bz,o7,pV,sq,wf]
theorem zG(n:Nat):oV (n+9) rJ=[110,111,100,101,32,97,40,41,32,45,62,32,40,121,58,32,105,110,116,94,50,41,32,123,10,9,121,32,61,32,102,105,108,108,40,45,40,49,32,43,32,50,41,44,32,50,41,59,10,125,10]:=by
 have i1:Go.Lib.itoa 1=[49]:=by unfold Go.Lib.itoa;rw [iN dM];unfold Go.Lib.decDigits;rfl
 have i2:Go.Lib.itoa 2=[50]:=by unfold Go.Lib.itoa;rw [iN dM];unfold Go.Lib.decDigits;rfl
 have e1:exT (n+6) (ae.mk 1 0 1 [] [] [])=[49]:=by rw [← i1];rfl
 have e2:exT (n+6) (ae.mk 1 0 2 [] [] [])=[50]:=by rw [← i2];rfl
 have s2:lP [ah.mk 2 []]=[50]:=by
  unfold lP
  simp [fd,mL,ka,i2]
 have e3:exT (n+7) (ae.mk 5 1 0 [] [] [ae.mk 1 0 1 [] [] [],ae.mk 1 0 2 [] [] []])=[49,32,43,32,50]:=by
  show exB (exT (n+6)) _=_
  simp [exB,rkE,wV,atT,paT,rS,AZ,e1,e2]
 have e4:exT (n+8) (ae.mk 4 13 0 [] [] [ae.mk 5 1 0 [] [] [ae.mk 1 0 1 [] [] [],ae.mk 1 0 2 [] [] []]])=[45,40,49,32,43,32,50,41]:=by
  show exB (exT (n+7)) _=_
  simp [exB,rkE,wV,atT,paT,e3]
 have e5:exT (n+9) (ae.mk 10 0 0 [] [[ah.mk 2 []]] [ae.mk 4 13 0 [] [] [ae.mk 5 1 0 [] [] [ae.mk 1 0 1 [] [] [],ae.mk 1 0 2 [] [] []]]])=[102,105,108,108,40,45,40,49,32,43,32,50,41,44,32,50,41]:=by
  show exB (exT (n+8)) _=_
  simp [exB,ow,sH,yu,e4,com,Go.Lib.join_one,nO,m8,s2]
 simp [oV,rJ,m8,qZ,com,Go.Lib.join_one,Go.Lib.join_nil,lu,An,s2,vj,rT,eqT,e5]
theorem CP(n:Nat)(hn:8000000<n):mU (n+40)=some true:=by
 have hp:lb (n+40) vl=some (rJ,ap.mk 0 0):=zA n
 have ht:=zG (n+31)
 have hf:oW (n+40) rJ=ap.mk 0 0:=by
  unfold oW
  rw [yC,iP rfl,show n+40=n+31+9 from rfl,ht,iN dM]
 show (lb (n+40) vl).bind _=_
 rw [hp,bSq]
 show (mw (n+40) rJ).bind _=_
 rw [CN (n+40) oM rJ BF,bSq,hf]
 rw [show n+40=n+31+9 from rfl,ht]
 rfl
theorem r8(p:aD)(_:p.ok)(h:p.sz≤1048576):∃ fuel,mA fuel p=some true:=by
 refine ⟨9000001+40,?_⟩
 have hs:=wK h
 unfold mA
 rw [CP 9000001 dM,bSq,iP rfl]
 obtain ⟨g,hg⟩:=By (9000001+40) p hs dM
 rw [hg,bSq]
 by_cases c:g=true
 ·rw [iP c]
 rw [iN c,Ds _ _ hs dM,bSq,zE _ dM p h,bSq,BE _ dM p h,bSq]
 simp
end Pam
