/- Tokens: what a text's tokens are, and plain laws on them. No program in sight. -/
import Derived.Test.YtmlmnddnklhfpaaGreatDoorBBase3
import Derived.Test.YtmlmnddnklhfpaaGreatDoorBabcFun1
import Derived.Test.YtmlmnddnklhfpaaGreatDoorBWide1
import Derived.Lib.ItoaLen
import Derived.Lib.ItoaNum
set_option linter.all false
namespace Pam
open Go
def tSm(c:UInt8):Prop:=97≤c.toNat∧c.toNat≤122
def tDg(c:UInt8):Prop:=48≤c.toNat∧c.toNat≤57
instance (c:UInt8):Decidable (tSm c):=inferInstanceAs (Decidable (_∧_))
instance (c:UInt8):Decidable (tDg c):=inferInstanceAs (Decidable (_∧_))
def tAn(c:UInt8):Bool:=decide (tSm c∨tDg c)
def tBl(c:UInt8):Prop:=c.toNat=32∨c.toNat=9∨c.toNat=13
instance (c:UInt8):Decidable (tBl c):=inferInstanceAs (Decidable (_∨_))
def blk:Bool→Ω→Ω
 |_,[]=>[]
 |r,c :: l=>if c.toNat=10 then blk false l else if r=true∨tBl c then blk r l else if c.toNat=35 then blk true l else c :: l
theorem zh(r:Bool)(s:Ω):(blk r s).length≤s.length:=by
 induction s generalizing r with
 |nil=>simp [blk]
 |cons c l ih =>
  unfold blk
  have h1:=ih false;have h2:=ih r;have h3:=ih true
  split
  ·simp;omega
  ·split
   ·simp;omega
   ·split
    ·simp;omega
    ·simp
theorem EC(r:Bool)(s:Ω):blk r s=s.drop (s.length - (blk r s).length):=by
 induction s generalizing r with
 |nil=>simp [blk]
 |cons c l ih =>
  have key:∀ q,blk q l=(c :: l).drop ((c :: l).length - (blk q l).length):=by
   intro q
   have h1:=ih q;have h2:=zh q l
   rw [List.length_cons,show l.length+1 - (blk q l).length=(l.length - (blk q l).length)+1 by omega,List.drop_succ_cons]
   exact h1
  unfold blk
  split
  ·exact key _
  ·split
   ·exact key _
   ·split
    ·exact key _
    ·simp
def wP:List Ω:=[[97,100,100],[97,110,100],[98,111,111,108],[99,97,108,108],[99,97,116],[100,105,118],[101,108,115,101],[101,113],[102,97,108,115,101],[102,105,108,108],[102,111,108,100],[105,102],[105,110,116],[108,101,115,115],[109,97,112],[109,97,120],[109,105,110],[109,111,100],[109,117,108],[110,101,103],[110,111,100,101],[110,111,116],[111,114],[112,114,101],[115,99,97,110],[115,108,105,99,101],[115,117,98],[116,104,101,110],[116,114,117,101],[118,97,114],[119,105,116,104],[120,111,114]]
def kP(s:Ω):Bool:=wP.contains s
def zi:List Nat:=[40,41,123,125,91,93,60,62,44,59,58,43,45,42,47,37,61,94]
def vM(n:Int)(w:Ω):Int:=w.foldl (fun n c=>10 * n+((c.toNat:Int) - 48)) n
def xX(w:Ω):Option Int :=
 if w.length>18∨(w.length>1∧w.head?.map UInt8.toNat=some 48)∨¬ (∀ c∈w,tDg c) then none else some (vM 0 w)
def sg(p:Nat)(s:Ω):aa ⊕ Int :=
 match s with
 |[]=>.inr 1
 |c :: l =>
  if tSm c then
   let w:=(c :: l).takeWhile tAn
   if kP w then .inl (aa.mk 1 p w 0) else if w.length>12 then .inr 3 else .inl (aa.mk 2 p w 0)
  else if tDg c then
   let w:=(c :: l).takeWhile tAn
   match xX w with
   |some n=>.inl (aa.mk 3 p w n)
   |none=>.inr 2
  else if (c :: l).take 2=[61,61]∨(c :: l).take 2=[45,62] then .inl (aa.mk 4 p ((c :: l).take 2) 0)
  else if c.toNat∈zi then .inl (aa.mk 4 p [c] 0)
  else .inr 1
theorem re{c:UInt8}(h:tSm c∨tDg c):tAn c=true:=by simpa [tAn] using h
theorem yq{p:Nat}{s:Ω}{t:aa}(h:sg p s=.inl t):t.at_=p∧t.text≠[]∧t.text <+: s:=by
 cases s with
 |nil=>simp [sg] at h
 |cons c l =>
  have tw:(c :: l).takeWhile tAn <+: c :: l:=List.takeWhile_prefix _
  have ne:∀ {c:UInt8},tAn c=true→(c :: l).takeWhile tAn≠[]:=by intro c h;rw [List.takeWhile_cons,iP h];simp
  unfold sg at h
  simp only at h
  split at h
  ·rename_i hc
   split at h
   ·cases h;exact ⟨rfl,ne (re (.inl hc)),tw⟩
   ·split at h
    ·cases h
    ·cases h;exact ⟨rfl,ne (re (.inl hc)),tw⟩
  ·split at h
   ·rename_i hc
    split at h
    ·cases h;exact ⟨rfl,ne (re (.inr hc)),tw⟩
    ·cases h
   ·split at h
    ·cases h;exact ⟨rfl,by simp,List.take_prefix _ _⟩
    ·split at h
     ·cases h;exact ⟨rfl,by simp,⟨l,rfl⟩⟩
     ·cases h
def rA:Nat→Nat→Ω→List aa ⊕ aq
 |0,_,_=>.inl []
 |k+1,p,s =>
  match blk false s with
  |[]=>.inl []
  |c :: l =>
   match sg (p+(s.length - (c :: l).length)) (c :: l) with
   |.inr e=>.inr (aq.mk e ((p+(s.length - (c :: l).length):Nat):Int))
   |.inl t =>
    match rA k (p+(s.length - (c :: l).length)+t.text.length) ((c :: l).drop t.text.length) with
    |.inl m=>.inl (t :: m)
    |.inr f=>.inr f
theorem ph(k p:Nat)(s:Ω):rA (k+1) p s=match blk false s with
  |[]=>.inl []
  |c :: l =>
   match sg (p+(s.length - (c :: l).length)) (c :: l) with
   |.inr e=>.inr (aq.mk e ((p+(s.length - (c :: l).length):Nat):Int))
   |.inl t =>
    match rA k (p+(s.length - (c :: l).length)+t.text.length) ((c :: l).drop t.text.length) with
    |.inl m=>.inl (t :: m)
    |.inr f=>.inr f:=rfl
theorem ED(l:Ω)(i:Nat)(h:i<l.length):l.drop i=l.getD i 0 :: l.drop (i+1):=by
 rw [List.drop_eq_getElem_cons h]
 simp [List.getD,h]
theorem wr1(p:Nat)(h:p<1000000):IntKind.wrap .i64 ((p:Int)+1)=((p+1:Nat):Int):=wrs p oM
theorem sS(c:UInt8):jQ (c.toNat:Int)=some (decide (tSm c)):=by
 unfold jQ
 by_cases h:(c.toNat:Int)≥97
 ·rw [iP h];congr 1;exact decide_eq_decide.2 (by unfold tSm;omega)
 ·rw [iN h];congr 1;symm;rw [decide_eq_false_iff_not];unfold tSm;omega
theorem ux(c:UInt8):kC (c.toNat:Int)=some (decide (tDg c)):=by
 unfold kC
 by_cases h:(c.toNat:Int)≥48
 ·rw [iP h];congr 1;exact decide_eq_decide.2 (by unfold tDg;omega)
 ·rw [iN h];congr 1;symm;rw [decide_eq_false_iff_not];unfold tDg;omega
theorem wQ(src:Ω)(hl:src.length≤100000):∀ (k p:Nat) (r:Bool),p+k=src.length →
  dh (fun (x5,b6)=>dB src x5 b6) ((p:Int),r)=some ((src.length - (blk r (src.drop p)).length:Nat):Int)
 |0,p,r,h=>by
  have:p=src.length:=by omega
  subst this
  rw [List.drop_length]
  refine ee ?_
  show dB _ _ _=_
  unfold dB
  rw [iN (ep _)]
  simp [blk]
 |k+1,p,r,h=>by
  have hp:p<src.length:=by omega
  have hd:=ED src p hp
  have hdl:(src.drop (p+1)).length=src.length - (p+1):=List.length_drop
  obtain ⟨c,hc⟩:∃ c,src.getD p 0=c:=⟨_,rfl⟩
  rw [hc] at hd
  have e:blk r (c :: src.drop (p+1))=if c.toNat=10 then blk false (src.drop (p+1)) else if r=true∨tBl c then blk r (src.drop (p+1)) else if c.toNat=35 then blk true (src.drop (p+1)) else c :: src.drop (p+1):=rfl
  have stp:∀ q,dB src (p:Int) r=some (.inl ((p+1:Nat),q))→blk r (c :: src.drop (p+1))=blk q (src.drop (p+1)) →
    dh (fun (x5,b6)=>dB src x5 b6) ((p:Int),r)=some ((src.length - (blk r (src.drop p)).length:Nat):Int):=fun q h1 h2=>by
   rw [gi (s':=(((p+1:Nat):Int),q)) h1,wQ src hl k (p+1) q oM,hd,h2]
  have hb:dB src (p:Int) r=if (c.toNat:Int)=10 then some (.inl ((p+1:Nat),false)) else if r=true∨tBl c then some (.inl ((p+1:Nat),r)) else if (c.toNat:Int)=35 then some (.inl ((p+1:Nat),true)) else some (.inr (p:Int)):=by
   unfold dB
   rw [iP (ltI hp),iP (inI hp),tN,hc]
   unfold eR fC
   rw [wr1 p oM]
   simp only [tN,hc]
   by_cases h1:(c.toNat:Int)=10
   ·rw [iP h1,iP h1]
   rw [iN h1,iN h1]
   by_cases h2:r=true
   ·rw [iP h2,iP h2,iP (Or.inl h2)]
   rw [iN h2]
   have key:∀ b:Bool,(b=true↔tBl c)→(if b=true then (some (.inl (((p+1:Nat):Int),r)):Option ((Int×Bool) ⊕ Int)) else if ((src.getD p 0).toNat:Int)=35 then some (.inl (((p+1:Nat):Int),true)) else some (.inr (p:Int))) =
     if r=true∨tBl c then some (.inl (((p+1:Nat):Int),r)) else if (c.toNat:Int)=35 then some (.inl (((p+1:Nat):Int),true)) else some (.inr (p:Int)):=by
    intro b hb
    rw [hc]
    by_cases hh:tBl c
    ·rw [iP (hb.2 hh),iP (Or.inr hh)]
    ·rw [iN (fun x=>hh (hb.1 x)),iN (show ¬ (r=true∨tBl c) from fun x=>x.elim h2 hh)]
   rw [hc] at key
   by_cases h3:(c.toNat:Int)=32
   ·rw [iP h3];exact key ((c.toNat:Int) == 32) (by rw [beq_iff_eq];unfold tBl;omega)
   rw [iN h3]
   by_cases h4:(c.toNat:Int)=9
   ·rw [iP h4];exact key ((c.toNat:Int) == 9) (by rw [beq_iff_eq];unfold tBl;omega)
   rw [iN h4]
   exact key ((c.toNat:Int) == 13) (by rw [beq_iff_eq];unfold tBl;omega)
  by_cases h1:c.toNat=10
  ·rw [iP h1] at e
   rw [iP oM] at hb
   exact stp false hb e
  rw [iN h1] at e
  rw [iN oM] at hb
  by_cases h2:r=true∨tBl c
  ·rw [iP h2] at e hb
   exact stp r hb e
  rw [iN h2] at e hb
  by_cases h3:c.toNat=35
  ·rw [iP h3] at e
   rw [iP oM] at hb
   exact stp true hb e
  rw [iN h3] at e
  rw [iN oM] at hb
  rw [ee (o:=(p:Int)) hb,hd,e,List.length_cons,hdl]
  congr 2;omega
theorem Ap(src:Ω)(hl:src.length≤100000)(p:Nat)(hp:p≤src.length)(l:List aa) :
  ik src p l=some ((src.length - (blk false (src.drop p)).length:Nat):Int):=by
 unfold ik
 rw [wQ src hl (src.length - p) p false oM]
 rfl
theorem Aq(src:Ω)(hl:src.length≤100000):∀ (k p:Nat),p+k=src.length →
  dh (fun x4=>gA src x4) (p:Int)=some ((p+((src.drop p).takeWhile tAn).length:Nat):Int)
 |0,p,h=>by
  have:p=src.length:=by omega
  subst this
  rw [List.drop_length]
  refine ee ?_
  unfold gA
  rw [iN (ep _)];rfl
 |k+1,p,h=>by
  have hp:p<src.length:=by omega
  rw [ED src p hp]
  have hb:gA src (p:Int)=if tAn (src.getD p 0)=true then some (.inl ((p+1:Nat):Int)) else some (.inr (p:Int)):=by
   unfold gA gU
   rw [iP (ltI hp),iP (inI hp),tN,wr1 p oM,sS,ux]
   simp only [bSq,decide_eq_true_eq]
   unfold tAn
   simp only [decide_eq_true_eq]
   by_cases h1:tSm (src.getD p 0)
   ·rw [iP h1,iP (Or.inl h1)]
   ·rw [iN h1]
    by_cases h2:tDg (src.getD p 0)
    ·rw [iP h2,iP (Or.inr h2)]
    ·rw [iN h2,iN (fun x=>x.elim h1 h2)]
  rw [List.takeWhile_cons]
  by_cases h1:tAn (src.getD p 0)=true
  ·rw [iP h1] at hb ⊢
   rw [gi hb,Aq src hl k (p+1) oM,List.length_cons]
   congr 2;omega
  ·rw [iN h1] at hb ⊢
   rw [ee hb];rfl
theorem H5(src:Ω)(hl:src.length≤100000)(p:Nat)(hp:p≤src.length)(l:List aa) :
  gJ src p l=some ((src.drop p).takeWhile tAn,((p+((src.drop p).takeWhile tAn).length:Nat):Int)):=by
 unfold gJ
 rw [Aq src hl (src.length - p) p oM]
 simp only [bSq]
 unfold gy
 have tw:(src.drop p).takeWhile tAn <+: src.drop p:=List.takeWhile_prefix _
 have hle:=tw.length_le
 rw [List.length_drop] at hle
 rw [iP ⟨by omega,by omega,by omega⟩,tN,tN,List.drop_take,show p+((src.drop p).takeWhile tAn).length - p=((src.drop p).takeWhile tAn).length by omega,← List.prefix_iff_eq_take.1 tw]
theorem Cw(w:Ω):mz w=some (kP w):=by
 unfold mz aX
 by_cases h:w∈wP
 ·have:kP w=true:=by unfold kP;rw [List.contains_iff_mem];exact h
  rw [this]
  unfold wP at h
  simp only [List.mem_cons,List.not_mem_nil,or_false] at h
  rcases h with rfl|rfl|rfl|rfl|rfl|rfl|rfl|rfl|rfl|rfl|rfl|rfl|rfl|rfl|rfl|rfl|rfl|rfl|rfl|rfl|rfl|rfl|rfl|rfl|rfl|rfl|rfl|rfl|rfl|rfl|rfl|rfl
  all_goals rfl
 ·have:kP w=false:=by unfold kP;rw [← Bool.not_eq_true,List.contains_iff_mem];exact h
  rw [this]
  have hn:∀ x,x∈wP→¬ w=x:=fun x hx e=>h (e ▸ hx)
  have hb:∀ x,x∈wP→(w == x)=false:=fun x hx=>by rw [beq_eq_false_iff_ne];exact hn x hx
  rw [iN (hn _ dM),iN (hn _ dM),iN (hn _ dM),iN (hn _ dM),iN (hn _ dM),iN (hn _ dM),iN (hn _ dM),iN (hn _ dM),iN (hn _ dM),iN (hn _ dM),iN (hn _ dM),iN (hn _ dM),iN (hn _ dM),iN (hn _ dM),iN (hn _ dM),iN (hn _ dM),iN (hn _ dM),iN (hn _ dM),iN (hn _ dM),iN (hn _ dM),iN (hn _ dM),iN (hn _ dM),iN (hn _ dM),iN (hn _ dM),iN (hn _ dM),iN (hn _ dM),iN (hn _ dM),iN (hn _ dM),iN (hn _ dM),iN (hn _ dM),iN (hn _ dM)]
  rw [hb _ dM]
  rfl
theorem vz:∀ (l:Ω) (acc:Nat),(∀ c∈l,tDg c)→∃ m:Nat,Go.Lib.decFrom acc l=some m∧(m:Int)=vM acc l
 |[],acc,_=>⟨acc,rfl,rfl⟩
 |c :: l,acc,h=>by
  have hc:tDg c:=h c List.mem_cons_self
  have hc':48≤c.toNat∧c.toNat≤57:=hc
  obtain ⟨m,h1,h2⟩:=vz l (acc * 10+(c.toNat - 48)) (fun d hd=>h d (List.mem_cons_of_mem _ hd))
  refine ⟨m,?_,?_⟩
  ·unfold Go.Lib.decFrom Go.Lib.digitVal
   rw [iP hc']
   exact h1
  ·rw [h2]
   unfold vM
   rw [List.foldl_cons]
   congr 1
   omega
theorem EE(w:Ω)(hn:w≠[])(hl:w.length≤18)(h:∀ c∈w,tDg c):Ae w=some (vM 0 w):=by
 unfold Ae
 rw [iP hl]
 cases w with
 |nil=>exact absurd rfl hn
 |cons c l =>
  have hc:48≤c.toNat∧c.toNat≤57:=h c List.mem_cons_self
  unfold Go.Lib.atoi
  have n1:(c == 45)=false:=by rw [beq_eq_false_iff_ne];intro e;subst e;revert hc;decide
  have n2:(c == 43)=false:=by rw [beq_eq_false_iff_ne];intro e;subst e;revert hc;decide
  simp only [n1,n2]
  obtain ⟨m,h1,h2⟩:=vz (c :: l) 0 h
  show (Go.Lib.decNat (c :: l)).map (fun m:Nat=>(m:Int))=_
  unfold Go.Lib.decNat
  rw [iN (by simp),h1,Option.map_some,h2]
  rfl
theorem Cx(w:Ω):(∀ c∈w,tDg c)↔∀ i,i<w.length→tDg (w.getD i 0):=by
 constructor
 ·intro h i hi
  have:w.getD i 0=w[i]:=by simp [List.getD,hi]
  rw [this];exact h _ (List.getElem_mem hi)
 ·intro h c hc
  obtain ⟨i,hi,rfl⟩:=List.getElem_of_mem hc
  have:=h i hi
  have e:w.getD i 0=w[i]:=by simp [List.getD,hi]
  rwa [e] at this
theorem Dt(w:Ω)(hn:w≠[]):lM w=some (match xX w with|some n=>(n,true)|none=>(0,false)):=by
 unfold lM
 unfold xX
 by_cases h1:w.length>18
 ·rw [iP oM,iP (Or.inl h1)]
 rw [iN oM]
 have hj:iT w=some (match (if ¬ ∀ c∈w,tDg c then none else some (vM 0 w):Option Int) with|some n=>(n,true)|none=>(0,false)):=by
  unfold iT
  rw [sR (body:=fun x4=>il w x4) w.length (fun i=>if tDg (w.getD i 0) then none else some ((0:Int),false)) ()
   (by
    intro i hi
    show il w i=_
    unfold il
    rw [iP (ltI hi),iP (inI hi),tN,ux,wr1 i oM]
    simp only [bSq,decide_eq_true_eq]
    by_cases hd:tDg (w.getD i 0)
    ·rw [iP hd,iP hd]
    ·rw [iN hd,iN hd])
   (by
    show il w w.length=_
    unfold il
    rw [iN (ep _)])]
  simp only [bSq]
  by_cases ha:∀ c∈w,tDg c
  ·have hg:=(Cx w).1 ha
   rw [Ds (fun i hi=>by rw [iP (hg i hi)])]
   rw [iN (fun h=>h ha)]
   simp only [Sum.elim_inl]
   unfold jB lL
   rw [iP ⟨rfl,rfl⟩,EE w hn oM ha]
   rfl
  ·rw [iP ha]
   rcases nJ w.length (fun i=>if tDg (w.getD i 0) then none else some ((0:Int),false)) () with ⟨e,hall⟩|⟨i,z,hi,hf,e⟩
   ·exfalso
    refine ha ((Cx w).2 fun i hi=>?_)
    have:=hall i hi
    split at this
    ·assumption
    ·cases this
   ·rw [e]
    split at hf
    ·cases hf
    ·simp only [sJ] at hf
     subst hf;rfl
 by_cases h2:w.length>1
 ·rw [iP oM,iP ⟨by omega,by omega⟩]
  cases w with
  |nil=>exact absurd rfl hn
  |cons c l =>
   by_cases h3:c.toNat=48
   ·rw [iP (show (((c :: l).getD 0 0).toNat:Int)=48 by simp [h3]),iP (Or.inr (Or.inl ⟨h2,by simp [h3]⟩))]
   ·rw [iN (show ¬ (((c :: l).getD 0 0).toNat:Int)=48 by simp;omega),hj]
    by_cases ha:∀ d∈c :: l,tDg d
    ·rw [iN (fun h=>h ha),iN (fun h=>h.elim h1 (fun h=>h.elim (fun h=>h3 (by simpa using h.2)) (fun h=>h ha)))]
    ·rw [iP ha,iP (Or.inr (Or.inr ha))]
 ·rw [iN oM,hj]
  by_cases ha:∀ d∈w,tDg d
  ·rw [iN (fun h=>h ha),iN (fun h=>h.elim h1 (fun h=>h.elim (fun h=>h2 h.1) (fun h=>h ha)))]
  ·rw [iP ha,iP (Or.inr (Or.inr ha))]
theorem yr(s l:Ω)(hl:l.length=2):ib s l=some (decide (s.take 2=l)):=by
 unfold ib gE
 by_cases h:(s.length:Int)≥(l.length:Int)
 ·rw [iP h,iP ⟨by omega,by omega⟩,hl]
  simp only [bSq]
  congr 1
  rw [Bool.eq_iff_iff]
  simp
 ·rw [iN h]
  simp only [bSq]
  congr 1;symm
  rw [decide_eq_false_iff_not]
  intro e
  have:(s.take 2).length=2:=by rw [e,hl]
  rw [List.length_take] at this
  omega
theorem Gf(src:Ω)(p:Nat)(hp:p<src.length)(l:List aa) :
  iv src p l=some (if (src.drop p).take 2=[61,61]∨(src.drop p).take 2=[45,62] then (src.drop p).take 2 else if (src.getD p 0).toNat∈zi then [src.getD p 0] else []):=by
 unfold iv
 have b0:et src p 0=if (src.drop p).take 2=[61,61] then some (.inr (.inr [61,61])) else some (.inl 1):=by
  unfold et
  rw [iP dM,iP dM,iP ⟨by omega,by omega⟩,tN]
  show (ib (src.drop p) [61,61]).bind _=_
  rw [yr _ _ rfl]
  simp only [bSq,decide_eq_true_eq]
  rfl
 have b1:et src p 1=if (src.drop p).take 2=[45,62] then some (.inr (.inr [45,62])) else some (.inl 2):=by
  unfold et
  rw [iP dM,iP dM,iP ⟨by omega,by omega⟩,tN]
  show (ib (src.drop p) [45,62]).bind _=_
  rw [yr _ _ rfl]
  simp only [bSq,decide_eq_true_eq]
  rfl
 have b2:et src p 2=some (.inr (.inl ())):=by
  unfold et
  rw [iN dM]
 by_cases h1:(src.drop p).take 2=[61,61]
 ·rw [iP h1] at b0
  rw [ee b0,iP (Or.inl h1),h1];rfl
 rw [iN h1] at b0
 rw [gi b0]
 by_cases h2:(src.drop p).take 2=[45,62]
 ·rw [iP h2] at b1
  rw [ee b1,iP (Or.inr h2),h2];rfl
 rw [iN h2] at b1
 rw [gi b1,ee b2,iN (fun h=>h.elim h1 h2)]
 simp only [bSq,Sum.elim_inl]
 unfold gK
 rw [iP (inI hp),tN]
 obtain ⟨c,hc⟩:∃ c,src.getD p 0=c:=⟨_,rfl⟩
 rw [hc]
 have hw:c.toNat<128→UInt8.ofNat ((IntKind.wrap .i32 (c.toNat:Int)).toNat)=c∧0≤IntKind.wrap .i32 (c.toNat:Int)∧IntKind.wrap .i32 (c.toNat:Int)<128:=fun h=>by
  have:IntKind.wrap .i32 (c.toNat:Int)=(c.toNat:Int):=by rw [IntKind.wrap_i32];omega
  rw [this]
  refine ⟨?_,by omega,by omega⟩
  simp
 have hj:∀ b:Bool,(b=true→c.toNat<128)→aG src p b=some (if b=true then [c] else []):=fun b hb=>by
  unfold aG
  rw [tN,hc]
  by_cases h:b=true
  ·obtain ⟨w1,w2,w3⟩:=hw (hb h)
   rw [iP h,iP h,iP ⟨w2,w3⟩,w1]
  ·rw [iN h,iN h]
 have step:∀ (n:Int) (ns:List Nat) (X:Option Ω),0≤n→n<128→X=some (if c.toNat∈ns then [c] else []) →
   (if (c.toNat:Int)=n then aG src p ((c.toNat:Int) == n) else X)=some (if c.toNat∈n.toNat :: ns then [c] else []):=fun n ns X h0 h1 hX=>by
  by_cases h:(c.toNat:Int)=n
  ·rw [iP h,hj _ (fun _=>by omega),iP (eQ h),iP (by rw [List.mem_cons];left;omega)]
  ·rw [iN h,hX]
   congr 1
   have:(c.toNat∈n.toNat :: ns)↔c.toNat∈ns:=by
    rw [List.mem_cons]
    constructor
    ·rintro (h'|h')
     ·exact absurd oM h
     ·exact h'
    ·exact Or.inr
   simp only [this]
 have last:aG src p ((c.toNat:Int) == 94)=some (if c.toNat∈[94] then [c] else []):=by
  rw [hj _ (fun h=>by have:=beq_iff_eq.1 h;omega)]
  congr 1
  have:((c.toNat:Int) == 94)=true↔c.toNat∈[94]:=by rw [beq_iff_eq,List.mem_singleton];omega
  simp only [this]
 exact step 40 _ _ dM dM (step 41 _ _ dM dM (step 123 _ _ dM dM (step 125 _ _ dM dM (step 91 _ _ dM dM (step 93 _ _ dM dM (step 60 _ _ dM dM
  (step 62 _ _ dM dM (step 44 _ _ dM dM (step 59 _ _ dM dM (step 58 _ _ dM dM (step 43 _ _ dM dM (step 45 _ _ dM dM (step 42 _ _ dM dM
  (step 47 _ _ dM dM (step 37 _ _ dM dM (step 61 _ _ dM dM last))))))))))))))))
theorem H6(n:Nat)(h:n≤1000000):lK n 40:=by
 unfold lK
 have:maxLen=9223372036854775807:=rfl
 omega
theorem H7(src:Ω)(hl:src.length≤100000)(p:Nat)(hp:p<src.length)(l:List aa)(hll:l.length≤200000) :
  match sg p (src.drop p) with
  |.inl t=>ie src p l=some (0,((p+t.text.length:Nat):Int),l++[t])
  |.inr e=>e≠0∧∃ x,ie src p l=some (e,x,l):=by
 have hd:=ED src p hp
 obtain ⟨c,hc⟩:∃ c,src.getD p 0=c:=⟨_,rfl⟩
 have hs:=Gf src p hp l
 have hr:=H5 src hl p oM l
 rw [hc] at hd hs
 have hone:ie src p l=(some (decide (tSm c))).bind fun y5=>if y5=true then ((gJ src p l).bind fun y6=>(mz y6.1).bind fun y7=>if y7=true then (cV p l y6.2 1 y6.1 0) else (if (y6.1.length:Int)>12 then (some (3,y6.2,l)) else (cV p l y6.2 2 y6.1 0))) else ((some (decide (tDg c))).bind fun y8=>if y8=true then ((gJ src p l).bind fun y9=>(lM y9.1).bind fun y10=>if y10.2=true then (cV p l y9.2 3 y9.1 y10.1) else (some (2,y9.2,l))) else ((iv src p l).bind fun y11=>if y11=([]:Ω) then (some (1,(p:Int),l)) else (cV p l (IntKind.wrap .i64 (p+(y11.length:Int))) 4 y11 0))):=by
  unfold ie
  rw [iP (inI hp),tN,hc,sS,ux]
 have hj:∀ x1 x2 s3 x4,cV (p:Int) l x1 x2 s3 x4=some (0,x1,l++[aa.mk x2 p s3 x4]):=fun x1 x2 s3 x4=>by
  unfold cV
  rw [iP (H6 _ oM)];rfl
 have hlen:(src.drop p).length=src.length - p:=List.length_drop
 rw [hone,hr]
 simp only [bSq,decide_eq_true_eq,hj,Cw]
 rw [hs]
 simp only [bSq]
 clear hone hr hs hj
 generalize hsd:src.drop p=s at *
 subst hd
 unfold sg
 simp only
 by_cases h1:tSm c
 ·rw [iP h1,iP h1]
  by_cases hw:kP ((c :: src.drop (p+1)).takeWhile tAn)=true
  ·rw [iP hw,iP hw]
  ·rw [iN hw,iN hw]
   by_cases h12:((c :: src.drop (p+1)).takeWhile tAn).length>12
   ·rw [iP h12,iP oM]
    exact ⟨by decide,_,rfl⟩
   ·rw [iN h12,iN oM]
 ·rw [iN h1,iN h1]
  by_cases h2:tDg c
  ·rw [iP h2,iP h2]
   have hne:(c :: src.drop (p+1)).takeWhile tAn≠[]:=by rw [List.takeWhile_cons,iP (re (.inr h2))];simp
   rw [Dt _ hne]
   simp only [bSq]
   cases hn:xX ((c :: src.drop (p+1)).takeWhile tAn) with
   |some n=>rfl
   |none=>exact ⟨by decide,_,rfl⟩
  ·rw [iN h2,iN h2]
   have hwr:∀ k:Nat,k≤2→IntKind.wrap .i64 ((p:Int)+(k:Int))=((p+k:Nat):Int):=fun k hk=>by rw [wr oM oM];omega
   have htk:((c :: src.drop (p+1)).take 2).length≤2:=by rw [List.length_take];omega
   by_cases h3:(c :: src.drop (p+1)).take 2=[61,61]∨(c :: src.drop (p+1)).take 2=[45,62]
   ·rw [iP h3,iP h3,iN (by simp),hwr _ htk]
   ·rw [iN h3,iN h3]
    by_cases h4:c.toNat∈zi
    ·rw [iP h4,iP h4,iN (by simp)]
     have:=hwr [c].length (by simp)
     rw [this]
    ·rw [iN h4,iN h4,iP rfl]
     exact ⟨by decide,_,rfl⟩
theorem Du(src:Ω)(hl:src.length≤100000):∀ (k p:Nat) (l:List aa),p≤src.length→src.length - p<k→l.length≤p →
  dh (fun (x19,l20)=>hU src x19 l20) (((src.length - (blk false (src.drop p)).length:Nat):Int),l)=some (match rA k p (src.drop p) with
   |.inl m=>.inl ((src.length:Int),l++m)
   |.inr f=>.inr ([],f)):=by
 intro k
 induction k with
 |zero=>intro p l _ h;omega
 |succ k ih =>
  intro p l hp hk hll
  have hb:=zh false (src.drop p)
  have hbd:=EC false (src.drop p)
  have hlen:(src.drop p).length=src.length - p:=List.length_drop
  rw [ph]
  cases e:blk false (src.drop p) with
  |nil =>
   simp only [List.length_nil,Nat.sub_zero]
   rw [ee (o:=.inl ((src.length:Int),l)) (by
    show hU src src.length l=_
    unfold hU
    rw [iN (ep _)])]
   simp
  |cons c m =>
   simp only
   rw [e] at hb hbd
   have hcm:(c :: m).length=m.length+1:=rfl
   obtain ⟨q,hq⟩:∃ q,q=src.length - (c :: m).length:=⟨_,rfl⟩
   have hqp:p+((src.drop p).length - (c :: m).length)=q:=by omega
   have hdq:src.drop q=c :: m:=by
    rw [hbd,List.drop_drop,← hqp]
   have h1:=H7 src hl q oM l oM
   rw [← hq,hqp]
   rw [hdq] at h1
   cases ht:sg q (c :: m) with
   |inr er =>
    rw [ht] at h1
    obtain ⟨hne,x,h1⟩:=h1
    rw [ee (o:=.inr ([],aq.mk er q)) (by
     show hU src q l=_
     unfold hU
     rw [iP oM,h1]
     simp only [bSq]
     rw [iP hne])]
   |inl t =>
    rw [ht] at h1
    simp only at h1
    obtain ⟨t1,t2,t3⟩:=yq ht
    have hpos:0<t.text.length:=List.length_pos_iff.2 t2
    have hle:=t3.length_le
    have hdt:src.drop (q+t.text.length)=(c :: m).drop t.text.length:=by rw [← List.drop_drop,hdq]
    rw [gi (s':=(((src.length - (blk false (src.drop (q+t.text.length))).length:Nat):Int),l++[t])) (by
     show hU src q l=_
     unfold hU
     rw [iP oM,h1]
     simp only [bSq]
     rw [iN (by simp),Ap src hl _ oM]
     rfl),ih (q+t.text.length) (l++[t]) oM oM (by simp;omega),hdt]
    simp only
    cases rA k (q+t.text.length) ((c :: m).drop t.text.length) with
    |inr f=>rfl
    |inl m2=>simp
def vA(src:Ω):List aa×aq :=
 if src.length>12000 then ([],aq.mk 7 12000) else match rA (src.length+1) 0 src with
  |.inl m=>(m,aq.mk 0 0)
  |.inr f=>([],f)
theorem zj(src:Ω)(hl:src.length≤100000):mA src=some (vA src):=by
 unfold mA vA
 by_cases h:src.length>12000
 ·rw [iP oM,iP h]
 rw [iN oM,iN h]
 have hb:=Ap src hl 0 oM []
 simp only [Int.natCast_zero] at hb
 rw [hb]
 simp only [bSq]
 rw [Du src hl (src.length+1) 0 [] oM oM (by simp)]
 rw [List.drop_zero]
 cases rA (src.length+1) 0 src with
 |inr f=>rfl
 |inl m=>rfl
def fJ(w:Ω):Bool:=decide (w≠[]∧w.length≤12∧(∃ c,w.head? = some c∧tSm c)∧kP w=false∧∀ i,i<w.length→tAn (w.getD i 0)=true)
theorem Gg(w:Ω)(hl:w.length≤100000):mB w=some (fJ w):=by
 unfold fJ
 unfold mB
 cases w with
 |nil=>rw [iP rfl];simp
 |cons c l =>
  rw [iN (by simp)]
  by_cases h1:((c :: l).length:Int)>12
  ·rw [iP h1];congr 1;symm;rw [decide_eq_false_iff_not];intro h;omega
  rw [iN h1,iP ⟨by omega,by simp⟩]
  rw [show (c :: l).getD 0 0=c from rfl,sS,Cw]
  simp only [bSq,decide_eq_true_eq]
  by_cases h2:tSm c
  case neg=>rw [iN h2];congr 1;symm;rw [decide_eq_false_iff_not];rintro ⟨_,_,⟨d,hd,hs⟩,_⟩;simp at hd;subst hd;exact h2 hs
  rw [iP h2]
  by_cases h3:kP (c :: l)=true
  ·rw [iP h3];congr 1;symm;rw [decide_eq_false_iff_not];rintro ⟨_,_,_,h,_⟩;rw [h3] at h;cases h
  rw [iN h3]
  generalize hw:c :: l=w at *
  rw [sR (body:=fun x5=>je w x5) w.length (fun i=>if tAn (w.getD i 0)=true then none else some false) ()
   (by
    intro i hi
    show je w i=_
    unfold je
    rw [iP (ltI hi),iP (inI hi),tN,sS,ux,wr1 i oM]
    simp only [bSq,decide_eq_true_eq]
    unfold tAn
    simp only [decide_eq_true_eq]
    by_cases g1:tSm (w.getD i 0)
    ·rw [iP g1,iP (Or.inl g1)]
    ·rw [iN g1]
     by_cases g2:tDg (w.getD i 0)
     ·rw [iP g2,iP (Or.inr g2)]
     ·rw [iN g2,iN (fun x=>x.elim g1 g2)])
   (by
    show je w w.length=_
    unfold je
    rw [iN (ep _)])]
  simp only [bSq]
  rcases nJ w.length (fun i=>if tAn (w.getD i 0)=true then none else some false) () with ⟨e,hall⟩|⟨i,z,hi,hf,e⟩
  ·rw [e]
   simp only [Sum.elim_inl]
   unfold lh
   congr 1;symm
   rw [decide_eq_true_iff]
   refine ⟨by rw [← hw];simp,by omega,⟨c,by rw [← hw];rfl,h2⟩,by simpa using h3,fun i hi=>?_⟩
   have:=hall i hi
   split at this
   ·assumption
   ·cases this
  ·rw [e]
   split at hf
   ·cases hf
   ·rename_i hn
    simp only [sJ] at hf
    subst hf
    simp only [Sum.elim_inr]
    congr 1;symm
    rw [decide_eq_false_iff_not]
    rintro ⟨_,_,_,_,h⟩
    exact hn (h i hi)
abbrev Tk:=Int×Ω×Int
def st(t:aa):Tk:=(t.kind,t.text,t.n)
def Sc(s:Ω)(ks:List Tk):Prop:=∀ k p,s.length<k→∃ l,rA k p s=.inl l∧l.map st=ks
theorem H8:Sc [] []:=fun k p h=>by
 cases k with
 |zero=>omega
 |succ k=>exact ⟨[],by simp [rA,blk],rfl⟩
theorem Ar{c:UInt8}(hc:c=32∨c=9∨c=10){s:Ω}{ks:List Tk}(h:Sc s ks):Sc (c :: s) ks:=fun k p hk=>by
 cases k with
 |zero=>omega
 |succ k =>
  obtain ⟨l,h1,h2⟩:=h (k+1) (p+1) (by simp only [List.length_cons] at hk;omega)
  refine ⟨l,?_,h2⟩
  rw [← h1,ph,ph]
  have hb:blk false (c :: s)=blk false s:=by
   rcases hc with rfl|rfl|rfl<;>simp [blk,tBl]
  have hl:=zh false s
  rw [hb]
  cases e:blk false s with
  |nil=>rfl
  |cons d m =>
   rw [e] at hl
   simp only
   rw [show p+((c :: s).length - (d :: m).length)=p+1+(s.length - (d :: m).length) by simp only [List.length_cons] at hl ⊢;omega]
theorem BC{w s:Ω}{kd n:Int}{ks:List Tk}(hw:w≠[])(hb:blk false (w++s)=w++s)(ht:∀ p:Nat,sg p (w++s)=.inl (aa.mk kd p w n))(h:Sc s ks):Sc (w++s) ((kd,w,n) :: ks):=fun k p hk=>by
 cases k with
 |zero=>omega
 |succ k =>
  have hpos:0<w.length:=List.length_pos_iff.2 hw
  obtain ⟨l,h1,h2⟩:=h k (p+w.length) (by rw [List.length_append] at hk;omega)
  refine ⟨aa.mk kd p w n :: l,?_,by rw [List.map_cons,h2];rfl⟩
  rw [ph,hb]
  have hne:w++s≠[]:=by simp [hw]
  cases e:w++s with
  |nil=>exact absurd e hne
  |cons c m =>
   simp only
   rw [Nat.sub_self,Nat.add_zero,← e,ht p]
   simp only
   rw [List.drop_left,h1]
def Bd(s:Ω):Prop:=∀ c r,s=c :: r→tAn c=false
theorem Gi{c:UInt8}{r:Ω}(h:tAn c=false):Bd (c :: r):=fun _ _ e=>by cases e;exact h
theorem H9{w s:Ω}(hw:∀ c∈w,tAn c=true)(h:Bd s):(w++s).takeWhile tAn=w:=by
 induction w with
 |nil =>
  cases s with
  |nil=>rfl
  |cons c r=>rw [List.nil_append,List.takeWhile_cons,h c r rfl];rfl
 |cons c w ih =>
  rw [List.cons_append,List.takeWhile_cons,hw c (by simp),iP rfl,ih (fun d hd=>hw d (by simp [hd]))]
theorem wR{c:UInt8}{l:Ω}(h1:c.toNat≠10)(h2:¬ tBl c)(h3:c.toNat≠35):blk false (c :: l)=c :: l:=by
 unfold blk
 rw [iN h1,iN (by simp [h2]),iN h3]
theorem Gj{c:UInt8}(h:tAn c=true)(l:Ω):blk false (c :: l)=c :: l:=by
 have h':tSm c∨tDg c:=by simpa [tAn] using h
 unfold tSm tDg at h'
 exact wR oM (by unfold tBl;omega) oM
def LX(T:Ω)(k:List Tk):Prop:=∀ s ks,Bd s→Sc s ks→Sc (T++s) (k++ks)
def LY(T:Ω)(k:List Tk):Prop:=∀ s ks,Sc s ks→Sc (T++s) (k++ks)
def Hn(T:Ω):Prop:=∃ c r,T=c :: r∧tAn c=false
theorem Hn.bd{T s:Ω}(h:Hn T):Bd (T++s):=by obtain ⟨c,r,rfl,h⟩:=h;exact Gi h
theorem Hn.app{T s:Ω}(h:Hn T):Hn (T++s):=by obtain ⟨c,r,rfl,h⟩:=h;exact ⟨c,r++s,rfl,h⟩
theorem eU{c:UInt8}{r:Ω}(h:tAn c=false):Hn (c :: r):=⟨c,r,rfl,h⟩
theorem LY.x{T:Ω}{k:List Tk}(h:LY T k):LX T k:=fun s ks _ hs=>h s ks hs
theorem zk:LY [] []:=fun _ _ h=>h
theorem LX.x{A B:Ω}{a b:List Tk}(hA:LX A a)(hB:LX B b)(h:Hn B):LX (A++B) (a++b):=fun s ks hs hk=>by
 rw [List.append_assoc,List.append_assoc];exact hA _ _ h.bd (hB s ks hs hk)
theorem LX.y{A B:Ω}{a b:List Tk}(hA:LX A a)(hB:LY B b)(h:Hn B):LY (A++B) (a++b):=fun s ks hk=>by
 rw [List.append_assoc,List.append_assoc];exact hA _ _ h.bd (hB s ks hk)
theorem LY.ax{A B:Ω}{a b:List Tk}(hA:LY A a)(hB:LX B b):LX (A++B) (a++b):=fun s ks hs hk=>by
 rw [List.append_assoc,List.append_assoc];exact hA _ _ (hB s ks hs hk)
theorem LY.ay{A B:Ω}{a b:List Tk}(hA:LY A a)(hB:LY B b):LY (A++B) (a++b):=fun s ks hk=>by
 rw [List.append_assoc,List.append_assoc];exact hA _ _ (hB s ks hk)
theorem LY.cx{c:UInt8}{B:Ω}{a b:List Tk}(hA:LY [c] a)(hB:LX B b):LX (c :: B) (a++b):=LY.ax (A:=[c]) hA hB
theorem LY.cy{c:UInt8}{B:Ω}{a b:List Tk}(hA:LY [c] a)(hB:LY B b):LY (c :: B) (a++b):=LY.ay (A:=[c]) hA hB
theorem EF{c:UInt8}(hc:c=32∨c=9∨c=10):LY [c] []:=fun _ _ h=>Ar hc h
theorem lU:LY [32] []:=EF (.inl rfl)
theorem EG:LY [10] []:=EF (.inr (.inr rfl))
theorem Jh:LY [9] []:=EF (.inr (.inl rfl))
def kS(w:Ω):Tk:=(4,w,0)
def kW(w:Ω):Tk:=(1,w,0)
def kN(w:Ω):Tk:=(2,w,0)
def kD(n:Int):Tk:=(3,Go.Lib.itoa n,n)
def sg1(c:UInt8):Bool:=decide (¬ tSm c) && decide (¬ tDg c) && decide (c.toNat∈zi) && decide (c.toNat≠10) && decide (¬ tBl c) && decide (c.toNat≠35)
theorem wS{c:UInt8}{s:Ω}(h:sg1 c=true)(h2:(c=61→∀ r,s≠61 :: r)∧(c=45→∀ r,s≠62 :: r)){ks:List Tk}(hs:Sc s ks):Sc (c :: s) (kS [c] :: ks):=by
 simp only [sg1,Bool.and_eq_true,decide_eq_true_eq] at h
 obtain ⟨⟨⟨⟨⟨s1,s2⟩,s3⟩,s4⟩,s5⟩,s6⟩:=h
 refine BC (w:=[c]) (by simp) (wR s4 s5 s6) (fun p=>?_) hs
 have e:¬ ((c :: s).take 2=[61,61]∨(c :: s).take 2=[45,62]):=by
  cases s with
  |nil=>simp
  |cons d r =>
   simp only [List.take_succ_cons,List.take_zero,List.cons.injEq,and_true]
   rintro (⟨rfl,rfl⟩|⟨rfl,rfl⟩)
   ·exact h2.1 rfl r rfl
   ·exact h2.2 rfl r rfl
 show sg p (c :: s)=_
 unfold sg
 simp only
 rw [iN s1,iN s2,iN e,iP s3]
theorem hK{c:UInt8}(h:(sg1 c && decide (c≠61) && decide (c≠45))=true):LY [c] [kS [c]]:=fun s ks hs=>by
 simp only [Bool.and_eq_true,decide_eq_true_eq] at h
 exact wS h.1.1 ⟨fun e=>absurd e h.1.2,fun e=>absurd e h.2⟩ hs
theorem As{T:Ω}{k:List Tk}(h:LX T k)(hT:∃ c r,T=c :: r∧c≠62):LX (45 :: T) (kS [45] :: k):=fun s ks hb hs=>by
 obtain ⟨c,r,rfl,hc⟩:=hT
 exact wS dM ⟨fun e=>absurd e dM,fun _ r' e=>hc (List.cons.inj e).1⟩ (h s ks hb hs)
theorem sT{c:UInt8}(h:sg1 c=true):LY [c,32] [kS [c]]:=fun s ks hs =>
 wS h ⟨fun _ r e=>absurd (List.cons.inj e).1 dM,fun _ r e=>absurd (List.cons.inj e).1 dM⟩ (Ar (.inl rfl) hs)
theorem EH{a b:UInt8}(h:([a,b]:Ω)=[61,61]∨([a,b]:Ω)=[45,62]):LY [a,b] [kS [a,b]]:=fun s ks hs=>by
 refine BC (w:=[a,b]) (by simp) ?_ (fun p=>?_) hs
 ·rcases h with h|h<;>simp only [List.cons.injEq,and_true] at h<;>obtain ⟨rfl,rfl⟩:=h<;>exact wR dM dM dM
 ·show sg p (a :: b :: s)=_
  unfold sg
  simp only
  have n1:¬ tSm a∧¬ tDg a:=by rcases h with h|h<;>simp only [List.cons.injEq,and_true] at h<;>obtain ⟨rfl,rfl⟩:=h<;>decide
  rw [iN n1.1,iN n1.2,iP (by simpa using h)]
  rfl
theorem BD{w s:Ω}{kd n:Int}(hw:w≠[])(ha:∀ c∈w,tAn c=true)(hb:Bd s)(ht:∀ p:Nat,(match (generalizing:=false) w with|[]=>Sum.inr 1|c :: _=>if tSm c then (if kP w then .inl (aa.mk 1 p w 0) else if w.length>12 then .inr 3 else .inl (aa.mk 2 p w 0)) else if tDg c then (match xX w with|some n=>.inl (aa.mk 3 p w n)|none=>.inr 2) else .inr 1:aa ⊕ Int)=.inl (aa.mk kd p w n))
  {ks:List Tk} (hs:Sc s ks):Sc (w++s) ((kd,w,n) :: ks):=by
 refine BC hw ?_ (fun p=>?_) hs
 ·cases w with
  |nil=>exact absurd rfl hw
  |cons c r=>exact Gj (ha c (by simp)) _
 ·have htw:=H9 ha hb
  rw [← ht p]
  cases w with
  |nil=>exact absurd rfl hw
  |cons c r =>
   have hc:tSm c∨tDg c:=by simpa [tAn] using ha c (by simp)
   rw [List.cons_append] at htw ⊢
   unfold sg
   simp only
   rw [htw]
   by_cases h1:tSm c
   ·rw [iP h1,iP h1]
   ·rw [iN h1,iN h1,iP (hc.resolve_left h1),iP (hc.resolve_left h1)]
    first|done|(cases xX (c :: r)<;>rfl)
theorem nb{w:Ω}(h:(kP w && w.all tAn && decide (w.head?.any fun c=>decide (tSm c)))=true):LX w [kW w]:=fun s ks hb hs=>by
 simp only [Bool.and_eq_true,decide_eq_true_eq,List.all_eq_true] at h
 obtain ⟨⟨h1,h2⟩,h3⟩:=h
 cases w with
 |nil=>simp at h3
 |cons c r =>
  simp only [List.head?_cons,Option.any_some,decide_eq_true_eq] at h3
  exact BD (by simp) h2 hb (fun p=>by simp only;rw [iP h3,iP h1]) hs
theorem uW{w:Ω}(h:fJ w=true):(∃ c r,w=c :: r∧tSm c)∧w.length≤12∧kP w=false∧∀ c∈w,tAn c=true:=by
 unfold fJ at h
 obtain ⟨h1,h2,⟨c,h3,h4⟩,h5,h6⟩:=of_decide_eq_true h
 refine ⟨?_,h2,h5,fun d hd=>?_⟩
 ·cases w with
  |nil=>exact absurd rfl h1
  |cons d r=>simp only [List.head?_cons,sJ] at h3;subst h3;exact ⟨_,r,rfl,h4⟩
 ·obtain ⟨i,hi,rfl⟩:=List.getElem_of_mem hd
  have:=h6 i hi
  simpa [List.getD,hi] using this
theorem rf{w:Ω}(h:fJ w=true):LX w [kN w]:=fun s ks hb hs=>by
 obtain ⟨⟨c,r,rfl,h1⟩,h2,h3,h4⟩:=uW h
 exact BD (by simp) h4 hb (fun p=>by simp only;rw [iP h1,iN (by rw [h3];decide),iN oM]) hs
theorem uX:∀ u:Nat,(∀ c∈Go.Lib.decDigits u,tDg c)∧vM 0 (Go.Lib.decDigits u)=(u:Int)∧Go.Lib.decDigits u≠[]∧(10≤u→∃ c r,Go.Lib.decDigits u=c :: r∧c.toNat≠48∨False):=by
 intro u
 induction u using Nat.strongRecOn with
 |_ u ih =>
  have dgt:∀ d:Nat,d<10→(UInt8.ofNat (48+d)).toNat=48+d:=fun d hd=>by simp;omega
  by_cases h:u<10
  ·rw [Go.Lib.decDigits_one h]
   have e:=dgt u h
   refine ⟨fun c hc=>?_,?_,by simp,fun h'=>absurd h oM⟩
   ·rw [List.mem_singleton.1 hc];unfold tDg;omega
   ·simp only [vM,List.foldl_cons,List.foldl_nil];rw [e];omega
  ·have hu:Go.Lib.decDigits u=Go.Lib.decDigits (u / 10)++[UInt8.ofNat (48+u % 10)]:=by
    conv=>lhs;unfold Go.Lib.decDigits
    rw [dif_neg h]
   obtain ⟨i1,i2,i3,i4⟩:=ih (u / 10) oM
   have e:=dgt (u % 10) oM
   rw [hu]
   refine ⟨fun c hc=>?_,?_,by simp,fun _=>?_⟩
   ·rcases List.mem_append.1 hc with h|h
    ·exact i1 c h
    ·rw [List.mem_singleton.1 h];unfold tDg;omega
   ·unfold vM at i2 ⊢
    rw [List.foldl_append,i2]
    simp only [List.foldl_cons,List.foldl_nil];rw [e];omega
   ·by_cases h2:u / 10<10
    ·rw [Go.Lib.decDigits_one h2]
     exact ⟨_,_,.inl ⟨rfl,by rw [dgt _ h2];omega⟩⟩
    ·obtain ⟨c,r,h3⟩:=i4 oM
     rcases h3 with ⟨h3,h4⟩|h3
     ·rw [h3];exact ⟨c,_,.inl ⟨rfl,h4⟩⟩
     ·exact h3.elim
theorem EI{n:Int}(h0:0≤n)(h1:n<1000000000000000000):LX (Go.Lib.itoa n) [kD n]:=fun s ks hb hs=>by
 have e:Go.Lib.itoa n=Go.Lib.decDigits n.toNat:=by unfold Go.Lib.itoa;rw [iN oM]
 obtain ⟨d1,d2,d3,d4⟩:=uX n.toNat
 have hl:(Go.Lib.decDigits n.toNat).length≤18:=by
  rw [Go.Lib.decDigits_length]
  by_cases hz:n.toNat=0
  ·rw [hz,Go.Lib.nDigits_small oM];omega
  ·by_cases hk:Go.Lib.nDigits n.toNat≤18
   ·exact hk
   ·have hpos:=Go.Lib.nDigits_pos n.toNat
    have:(10:Nat) ^ 18≤n.toNat:=by
     rw [← Go.Lib.decDigits_length] at hk hpos
     exact Nat.le_of_not_lt fun hlt=>hk (by
      rw [Go.Lib.decDigits_length]
      have:∀ k u,u<10 ^ (k+1)→Go.Lib.nDigits u≤k+1:=by
       intro k
       induction k with
       |zero=>intro u hu;rw [Go.Lib.nDigits_small oM];omega
       |succ k ih =>
        intro u hu
        by_cases h9:u<10
        ·rw [Go.Lib.nDigits_small h9];omega
        ·rw [Go.Lib.nDigits_big h9]
         have:=ih (u / 10) (by rw [Nat.pow_succ] at hu;omega)
         omega
      exact this 17 _ hlt)
    have:(10:Nat) ^ 18=1000000000000000000:=by decide
    omega
 have hn:xX (Go.Lib.decDigits n.toNat)=some n:=by
  unfold xX
  rw [iN,d2]
  ·exact congrArg some (Int.toNat_of_nonneg h0)
  ·rintro (h|⟨h,h'⟩|h)
   ·omega
   ·by_cases h9:n.toNat<10
    ·rw [Go.Lib.decDigits_one h9] at h;simp at h
    ·obtain ⟨c,r,h3⟩:=d4 oM
     rcases h3 with ⟨h3,h4⟩|h3
     ·rw [h3] at h';simp only [List.head?_cons,Option.map_some,sJ] at h';exact h4 h'
     ·exact h3
   ·exact h d1
 unfold kD
 rw [e]
 refine BD d3 (fun c hc=>re (.inr (d1 c hc))) hb (fun p=>?_) hs
 cases hd:Go.Lib.decDigits n.toNat with
 |nil=>exact absurd hd d3
 |cons c r =>
  have hc:tDg c:=d1 c (by rw [hd];simp)
  have hc':¬ tSm c:=by unfold tDg at hc;unfold tSm;omega
  simp only
  rw [iN hc',iP hc,← hd,hn]
theorem EJ(w:Ω):mB w=some (fJ w):=by
 by_cases h:w.length≤100000
 ·exact Gg w h
 ·have h1:fJ w=false:=by unfold fJ;exact dF (fun k=>by omega)
  rw [h1]
  unfold mB
  rw [iN (by rintro rfl;simp at h),iP oM]
def wf(f:aq)(at_ e:Int):aq:=if f.code=0∧¬ e=0 then aq.mk e at_ else f
def sq(a b:Int):Int:=if a=0 then b else a
theorem iX(f:aq)(at_ a b:Int):wf (wf f at_ a) at_ b=wf f at_ (sq a b):=by
 unfold wf sq
 by_cases h1:f.code=0<;>by_cases h2:a=0<;>by_cases h3:b=0<;>simp [h1,h2,h3]
theorem BE(f:aq)(at_:Int):wf f at_ 0=f:=by simp [wf]
theorem Gk(f:aq)(at_ e:Int):(wf f at_ e).code=0↔f.code=0∧e=0:=by
 unfold wf
 split
 ·rename_i h;simp [h.2]
 ·rename_i h;constructor
  ·intro k;refine ⟨k,?_⟩;by_cases e0:e=0;exact e0;exact absurd ⟨k,e0⟩ h
  ·exact fun k=>k.1
def fsF{T:Type}(F:T→Int):List T→Int
 |[]=>0
 |x :: l=>sq (F x) (fsF F l)
def pr(f:aq):Int×Int:=(f.code,f.at_)
theorem iA(b:Bool)(c:Int)(f:aq)(a:Int)(hc:¬ c=0):au b c (am.mk f a)=some (pr (wf f a (if b=true then c else 0))):=by
 unfold au wf pr
 by_cases h1:b=true
 ·by_cases h2:f.code=0<;>simp [h1,h2,hc]
 ·simp [h1]
theorem pi(s:Ω)(f:aq)(a:Int):cK s (am.mk f a)=some (pr (wf f a (if fJ s=true then 0 else 3))):=by
 unfold cK
 rw [EJ,bSq,iA _ _ _ _ dM]
 cases fJ s<;>rfl
theorem oN{T:Type}[Inhabited T](l:List T)(F:T→Int)(at_:Int){body:Int×Int×Int→Option ((Int×Int×Int) ⊕ (Int×Int))}(f0:aq)
  (hb:∀ (i:Nat) (f:aq),i<l.length→f.code=0→body (f.code,f.at_,(i:Int))=some (.inl ((wf f at_ (F (l.getD i default))).code,(wf f at_ (F (l.getD i default))).at_,((i+1:Nat):Int))))
  (hs:∀ (i:Nat) (f:aq),i<l.length→¬ f.code=0→body (f.code,f.at_,(i:Int))=some (.inr (pr f)))
  (he:∀ (f:aq),body (f.code,f.at_,(l.length:Int))=some (.inr (pr f))) :
  dh body (f0.code,f0.at_,0)=some (pr (wf f0 at_ (fsF F l))):=by
 have key:∀ (k i:Nat) (f:aq),i+k=l.length→dh body (f.code,f.at_,(i:Int))=some (pr (wf f at_ (fsF F (l.drop i)))):=by
  intro k
  induction k with
  |zero =>
   intro i f hi
   obtain rfl:i=l.length:=by omega
   rw [iz,he,List.drop_length]
   simp only [fsF,BE]
  |succ k ih =>
   intro i f hi
   have hlt:i<l.length:=by omega
   have hd:l.drop i=l.getD i default :: l.drop (i+1):=by
    rw [List.drop_eq_getElem_cons hlt];simp [List.getD,hlt]
   by_cases hc:f.code=0
   ·rw [iz,hb i f hlt hc]
    simp only
    rw [ih (i+1) _ oM,iX,hd]
    rfl
   ·rw [iz,hs i f hlt hc]
    simp only
    congr 1
    unfold wf
    rw [iN (fun k=>hc k.1)]
 exact key l.length 0 f0 oM
def oB(t:ag):Int:=if t.n≤-1000000000000000000∨1000000000000000000≤t.n then 2 else if t.name=[]∨fJ t.name=true then 0 else 3
def gn(s:List ag):Int:=if s.length=0 then 4 else if s.length>30 then 7 else fsF oB s
def Au(t:gu):Int:=sq (if t.elem=105∨t.elem=98 then 0 else 10) (if t.n.length>0 then gn t.n else 0)
def ku(d:aw):Int:=sq (if fJ d.name=true then 0 else 3) (Au d.t)
def ke(l:List aw):Int:=if l.length>30 then 7 else fsF ku l
theorem wT(s:List ag)(hs:s.length≤9000000)(f:aq)(a:Int):gS s (am.mk f a)=some (pr (wf f a (gn s))):=by
 unfold gS
 rw [iA _ _ _ _ dM,bSq]
 simp only [pr]
 rw [iA _ _ _ _ dM,bSq]
 simp only [pr]
 rw [iX]
 rw [oN s oB a (body:=fun (x9,x10,x11)=>dS s (am.mk f a) x9 x10 x11) _
  (fun i f' hi hc => by
   show dS s (am.mk f a) f'.code f'.at_ i=_
   unfold dS
   rw [iP (ltI hi),iP hc,iP (inI hi),tN]
   generalize ht:s.getD i default=t
   have j1:∀ g:aq,e7 s (am.mk f a) i g.code g.at_=some (.inl ((wf g a (if t.name=[]∨fJ t.name=true then 0 else 3)).code,(wf g a (if t.name=[]∨fJ t.name=true then 0 else 3)).at_,((i+1:Nat):Int))):=by
    intro g
    unfold e7
    rw [tN,ht,wrs i oM]
    by_cases h:t.name=[]
    ·rw [iP h,iP (Or.inl h),BE]
    ·rw [iN h,pi]
     simp only [bSq,pr,h,false_or]
   have step:∀ e:Int,((some (pr (wf f' a e)):Option (Int×Int)).bind fun y=>e7 s (am.mk f a) i y.1 y.2) =
     some (.inl ((wf f' a (sq e (if t.name=[]∨fJ t.name=true then 0 else 3))).code,(wf f' a (sq e (if t.name=[]∨fJ t.name=true then 0 else 3))).at_,((i+1:Nat):Int))):=by
    intro e
    rw [bSq]
    simp only [pr]
    rw [j1,iX]
   by_cases h1:t.n≤-1000000000000000000
   ·rw [iP h1,iA _ _ _ _ dM,step]
    simp only [oB,h1,true_or,if_true,sq]
    simp
   ·rw [iN h1,iA _ _ _ _ dM,step]
    by_cases h2:1000000000000000000≤t.n
    ·simp only [oB,h1,h2,ge_iff_le,decide_true,or_true,if_true,sq];simp
    ·simp only [oB,h1,h2,ge_iff_le,decide_false,or_self,if_false,sq];simp)
  (fun i f' hi hc => by
   show dS s (am.mk f a) f'.code f'.at_ i=_
   unfold dS
   rw [iP (ltI hi),iN hc];rfl)
  (fun f' => by
   show dS s (am.mk f a) f'.code f'.at_ s.length=_
   unfold dS
   rw [iN (ep _)];rfl)]
 rw [bSq,iX]
 congr 3
 unfold gn sq
 by_cases h1:s.length=0
 ·simp [h1]
 ·by_cases h2:s.length>30
  ·have:(30:Int)<s.length:=by omega
   have h3:¬ s=[]:=by rintro rfl;simp at h1
   simp [h3,h2,this]
  ·have:¬ (30:Int)<s.length:=by omega
   have h3:¬ s=[]:=by rintro rfl;simp at h1
   simp [h3,h2,this]
theorem Gl(t:gu)(hs:t.n.length≤9000000)(f:aq)(a:Int):jU t (am.mk f a)=some (pr (wf f a (Au t))):=by
 have j1:∀ (g:aq),gC t (am.mk f a) g.code g.at_=some (pr (wf g a (if t.n.length>0 then gn t.n else 0))):=by
  intro g
  unfold gC
  by_cases h:t.n.length>0
  ·rw [iP oM,iP h,wT _ hs];rfl
  ·rw [iN oM,iN h,BE];rfl
 unfold jU
 by_cases h:t.elem=105
 ·rw [iN (by simp [h]),iA _ _ _ _ dM,bSq]
  simp only [pr]
  rw [j1,iX]
  simp [Au,h,sq,pr]
 ·rw [iP h,iA _ _ _ _ dM,bSq]
  simp only [pr]
  rw [j1,iX]
  by_cases h2:t.elem=98<;>simp [Au,h,h2,pr]
theorem uY(l:List aw)(hl:l.length≤9000000)(hd:∀ d∈l,d.t.n.length≤9000000)(f:aq)(a:Int):gI l (am.mk f a)=some (pr (wf f a (ke l))):=by
 unfold gI
 rw [iA _ _ _ _ dM,bSq]
 simp only [pr]
 rw [oN l ku a (body:=fun (x8,x9,x10)=>dE l (am.mk f a) x8 x9 x10) _
  (fun i f' hi hc => by
   show dE l (am.mk f a) f'.code f'.at_ i=_
   unfold dE
   have hm:l.getD i default∈l:=by simp [List.getD,hi]
   rw [iP (ltI hi),iP hc,iP (inI hi),tN,pi,bSq]
   simp only [pr]
   rw [Gl _ (hd _ hm),bSq,iX,wrs i oM]
   rfl)
  (fun i f' hi hc => by
   show dE l (am.mk f a) f'.code f'.at_ i=_
   unfold dE
   rw [iP (ltI hi),iN hc];rfl)
  (fun f' => by
   show dE l (am.mk f a) f'.code f'.at_ l.length=_
   unfold dE
   rw [iN (ep _)];rfl)]
 rw [bSq,iX]
 congr 3
 unfold ke sq
 by_cases h2:l.length>30
 ·have:(30:Int)<l.length:=by omega
  simp [h2,this]
 ·have:¬ (30:Int)<l.length:=by omega
  simp [h2,this]
noncomputable def dec(p:Prop):Bool:=@decide p (Classical.propDecidable p)
theorem oG{p:Prop}:dec p=true↔p:=by unfold dec;exact @decide_eq_true_iff p (Classical.propDecidable p)
theorem lP{p q:Prop}(h:p↔q):dec p=dec q:=by rw [propext h]
theorem Cy{p:Prop}(h:¬ p):dec p=false:=fB fun x=>h (oG.1 x)
theorem EK{p q:Prop}{α:Type}{d:Decidable p}(h:p↔q)(a b:α):(if p then a else b)=if dec q=true then a else b:=by
 by_cases hp:p
 ·rw [iP hp,iP (oG.2 (h.1 hp))]
 ·rw [iN hp,iN (fun x=>hp (h.2 (oG.1 x)))]
theorem zl{p q:Prop}{d:Decidable p}:(if p then some (dec q) else some false)=some (dec (p∧q)):=by
 by_cases hp:p
 ·rw [iP hp];exact congrArg some (lP (by simp [hp]))
 ·rw [iN hp,Cy (fun x=>hp x.1)]
theorem uZ{p q:Prop}:((some (dec p)).bind fun y=>some (dec (y=true∧q)))=some (dec (p∧q)):=congrArg some (lP (by rw [oG]))
def nA{T:Type}[Inhabited T](R:T→T→Prop)(l m:List T):Prop:=l.length=m.length∧∀ i,i<l.length→R (l.getD i default) (m.getD i default)
theorem uy{T:Type}[Inhabited T]{l m:List T}:nA (fun a b=>a=b) l m↔l=m:=by
 constructor
 ·intro ⟨h1,h2⟩
  refine List.ext_getElem h1 fun i hi hj=>?_
  have:=h2 i hi
  simpa [List.getD_eq_getElem?_getD,hi,hj] using this
 ·rintro rfl;exact ⟨rfl,fun _ _=>rfl⟩
theorem eqf{T:Type}[Inhabited T]{p1 p2:List T}{body:Int→Option (Int ⊕ (Unit ⊕ Bool))}{t:Option Bool}(R:T→T→Prop)(hl:p1.length≤9000000)(ht:t=some true)
  (hb:∀ i:Nat,i<p1.length→i<p2.length→body (i:Int)=if dec (R (p1.getD i default) (p2.getD i default))=true then some (.inl (IntKind.wrap .i64 ((i:Int)+1))) else some (.inr (.inr false)))
  (he:body (p1.length:Int)=some (.inr (.inl ()))) :
  (if ¬ (p1.length:Int)=(p2.length:Int) then some false else ((dh body 0).bind (Sum.elim (fun _=>t) (fun z=>some z))))=some (dec (nA R p1 p2)):=by
 by_cases hlen:p1.length=p2.length
 ·rw [iN oM]
  rw [sR p1.length (fun i=>if dec (R (p1.getD i default) (p2.getD i default))=true then none else some false) () (fun i hi=>by
   rw [hb i hi oM]
   by_cases h:dec (R (p1.getD i default) (p2.getD i default))=true
   ·rw [iP h,iP h,wrs i oM]
   ·rw [iN h,iN h]) he]
  rcases nJ p1.length (fun i=>if dec (R (p1.getD i default) (p2.getD i default))=true then none else some false) () with ⟨h1,h2⟩|⟨i,z,hi,hz,h1⟩
  ·rw [h1]
   show t=_
   have hall:nA R p1 p2:=⟨hlen,fun i hi=>by
    have:=h2 i hi
    by_cases h:dec (R (p1.getD i default) (p2.getD i default))=true
    ·exact oG.1 h
    ·simp only [h] at this;cases this⟩
   rw [ht,oG.2 hall]
  ·rw [h1]
   show some z=_
   by_cases h:dec (R (p1.getD i default) (p2.getD i default))=true
   ·simp only [iP h] at hz;cases hz
   ·simp only [iN h,sJ] at hz
    subst hz
    rw [Cy fun x=>h (oG.2 (x.2 i hi))]
 ·rw [iP oM,Cy (fun x=>hlen x.1)]
theorem yt(p1 p2:List Ω)(h:p1.length≤9000000):fh p1 p2=some (dec (p1=p2)):=by
 rw [← lP uy]
 unfold fh
 refine eqf _ h rfl (fun i hi hj=>?_) (by unfold fv;rw [iN (ep _)])
 unfold fv
 rw [iP (ltI hi),iP ⟨inI hi,inI hj⟩,tN]
 exact EK Iff.rfl _ _
theorem EM(a b:ag):(a.n=b.n∧a.name=b.name)↔a=b:=by cases a;cases b;simp
theorem BF(p1 p2:List ag)(h:p1.length≤9000000):fj p1 p2=some (dec (p1=p2)):=by
 rw [← lP uy]
 unfold fj
 refine eqf _ h rfl (fun i hi hj=>?_) (by unfold eI;rw [iN (ep _)])
 unfold eI
 rw [iP (ltI hi),iP ⟨inI hi,inI hj⟩,tN]
 exact EK (EM _ _) _ _
theorem vB(p1 p2:List ag)(h:p1.length≤9000000):jJ p1 p2=some (dec (p1=p2)):=by
 unfold jJ;rw [BF p1 p2 h];rfl
theorem Av(p1 p2:aw)(h:p1.t.n.length≤9000000):kX p1 p2=some (dec (p1=p2)):=by
 unfold kX mr
 rw [vB _ _ h]
 simp only [bSq,zl]
 refine congrArg some (lP ?_)
 obtain ⟨n1,e1,s1⟩:=p1
 obtain ⟨n2,e2,s2⟩:=p2
 simp
def mu(l:List aw):Prop:=l.length≤9000000∧∀ d∈l,d.t.n.length≤9000000
theorem tV(p1 p2:List aw)(h:mu p1):bf p1 p2=some (dec (p1=p2)):=by
 rw [← lP uy]
 unfold bf
 refine eqf _ h.1 rfl (fun i hi hj=>?_) (by unfold bN;rw [iN (ep _)])
 unfold bN
 rw [iP (ltI hi),iP (inI hi),iP (inI hj),tN,Av _ _ (h.2 _ (dJ hi))]
 rfl
def rg(l:List (List ag)):Prop:=l.length≤9000000∧∀ d∈l,d.length≤9000000
theorem wV(p1 p2:List (List ag))(h:rg p1):bx p1 p2=some (dec (p1=p2)):=by
 rw [← lP uy]
 unfold bx
 refine eqf _ h.1 rfl (fun i hi hj=>?_) (by unfold bP;rw [iN (ep _)])
 unfold bP
 rw [iP (ltI hi),iP (inI hi),iP (inI hj),tN,vB _ _ (h.2 _ (dJ hi))]
 rfl
theorem ju{l:List ae}{x:ae}(h:x∈l):x.sz≤ae.szs l:=by
 have h1:=ae.szs_eq l
 have:=kJ (f:=ae.sz) h
 omega
theorem sU(l:List ae):l.length≤ae.szs l:=by
 have h1:=ae.szs_eq l
 have:=ip ae.sz_pos l
 omega
theorem vT(x:ag):1≤x.sz:=ag.sz_pos x
theorem wW{l:List (List ag)}(h:szL (szL ag.sz) l≤9000000):rg l:=by
 refine ⟨?_,fun d hd=>?_⟩
 ·have:=ip (f:=szL ag.sz) (fun x=>by have:=ip vT x;omega) l;omega
 ·have:=kJ (f:=szL ag.sz) hd
  have:=ip vT d
  omega
theorem zm{x:ae}(h:x.sz≤9000000):rg x.s∧ae.szs x.l+1<x.sz:=by
 have h1:=ae.sz_eq x
 have h2:=ae.szs_eq x.l
 simp only [szI] at h1
 exact ⟨wW oM,by omega⟩
theorem EN(a b:ae):(a.op=b.op∧a.k=b.k∧a.n=b.n∧a.name=b.name∧a.s=b.s∧a.l=b.l)↔a=b:=by cases a;cases b;simp
theorem wX:∀ (n:Nat) (p1 p2:List ae),ae.szs p1<n→ae.szs p1≤9000000→aW n p1 p2=some (dec (p1=p2))
 |0,_,_,h,_=>by omega
 |n+1,p1,p2,h,hs=>by
  rw [← lP uy]
  have hlen:=sU p1
  show bW (aW n) p1 p2=_
  unfold bW
  refine eqf _ oM rfl (fun i hi hj=>?_) (by unfold bU;rw [iN (ep _)])
  unfold bU
  rw [iP (ltI hi),iP (inI hi),iP (inI hj),tN]
  obtain ⟨a,ha⟩:∃ a,a=p1.getD i default:=⟨_,rfl⟩
  obtain ⟨b,hb⟩:∃ b,b=p2.getD i default:=⟨_,rfl⟩
  rw [← ha,← hb]
  have hm:a∈p1:=by rw [ha];exact dJ hi
  have hsz:=ju hm
  obtain ⟨e1,e2⟩:=zm (x:=a) oM
  unfold mt
  rw [wV _ _ e1,wX n a.l b.l oM oM]
  simp only [show ∀ b:Bool,(some b).bind (fun y=>some y)=some b from fun _=>rfl,uZ,zl]
  rw [lP (EN a b)]
  rfl
def EqR(p q:TEq):Prop:=p.names=q.names∧p.node=q.node∧p.s=q.s∧p.e=q.e
def Ji(p:TEq):Prop:=p.names.length≤9000000∧rg p.s∧ae.szs p.e≤9000000
theorem Dv(n:Nat)(p q:TEq)(h:Ji p)(hn:9000000<n):mn n p q=some (dec (EqR p q)):=by
 unfold mn d8
 rw [yt _ _ h.1,wV _ _ h.2.1,wX n _ _ (by have:=h.2.2;omega) h.2.2]
 simp only [show ∀ b:Bool,(some b).bind (fun y=>some y)=some b from fun _=>rfl,uZ,zl]
 rfl
def GO(l:List TEq):Prop:=l.length≤9000000∧∀ q∈l,Ji q
theorem EO(n:Nat)(p1 p2:List TEq)(h:GO p1)(hn:9000000<n):cZ n p1 p2=some (dec (nA EqR p1 p2)):=by
 unfold cZ
 refine eqf _ h.1 rfl (fun i hi hj=>?_) (by unfold cM;rw [iN (ep _)])
 unfold cM
 rw [iP (ltI hi),iP (inI hi),iP (inI hj),tN,Dv n _ _ (h.2 _ (dJ hi)) hn]
 rfl
def qy(x y:aE):Prop:=x.name=y.name∧x.sizes=y.sizes∧x.in_=y.in_∧x.out_=y.out_∧x.local_=y.local_∧nA EqR x.eqs y.eqs
def EP(x:aE):Prop:=x.sizes.length≤9000000∧mu x.in_∧mu x.out_∧mu x.local_∧GO x.eqs
theorem Aw(n:Nat)(p q:aE)(h:EP p)(hn:9000000<n):kY n p q=some (dec (qy p q)):=by
 unfold kY
 rw [yt _ _ h.1,tV _ _ h.2.1,tV _ _ h.2.2.1,tV _ _ h.2.2.2.1,EO n _ _ h.2.2.2.2 hn]
 simp only [show ∀ b:Bool,(some b).bind (fun y=>some y)=some b from fun _=>rfl,uZ,zl]
 rfl
def EQ(p:az):Prop:=p.nodes.length≤9000000∧∀ x∈p.nodes,EP x
def sh(a b:az):Prop:=nA qy a.nodes b.nodes
theorem Cz(n:Nat)(a b:az)(h:EQ a)(hn:9000000<n):mO n a b=some (dec (sh a b)):=by
 unfold mO da
 have:=eqf (p1:=a.nodes) (p2:=b.nodes) (body:=fun x3=>aK n a.nodes b.nodes x3) (t:=bj) qy h.1 rfl (fun i hi hj=>by
  show aK n a.nodes b.nodes i=_
  unfold aK
  rw [iP (ltI hi),iP (inI hi),iP (inI hj),tN,Aw n _ _ (h.2 _ (dJ hi)) hn]
  rfl) (by show aK n a.nodes b.nodes _=_;unfold aK;rw [iN (ep _)])
 rw [this];rfl
section
variable {α:Type} {p q:Prop} {A B:α}
end
theorem CA{n b:Nat}(h:n≤9000000)(hb:b≤1000):lK n b:=by
 unfold lK maxLen
 have:n * b≤9000000 * 1000:=Nat.mul_le_mul h hb
 omega
structure wY (p:az):Prop where
 nodes:p.nodes.length≤8000000
 names:∀ x∈p.nodes,x.sizes.length≤8000000
 decls:∀ x∈p.nodes,(mu x.in_∧x.in_.length≤8000000)∧(mu x.out_∧x.out_.length≤8000000)∧(mu x.local_∧x.local_.length≤8000000)
 eqs:∀ x∈p.nodes,x.eqs.length≤8000000∧∀ q∈x.eqs,q.names.length≤8000000∧(rg q.s∧q.s.length≤8000000)∧ae.szs q.e≤8000000
theorem zn(s:Ω):1≤szS s:=by unfold szS;omega
theorem Ax(x:List ag):1≤szL ag.sz x:=by have:=ip vT x;omega
theorem tW{l:List aw}(h:szL aw.sz l≤8000000):mu l∧l.length≤8000000:=by
 have:=ip aw.sz_pos l
 refine ⟨⟨by omega,fun d hd=>?_⟩,by omega⟩
 have h1:=kJ (f:=aw.sz) hd
 have h2:=ip vT d.t.n
 have h3:d.sz=szS d.name+d.t.sz+1:=by unfold aw.sz;omega
 have h4:d.t.sz=szI d.t.elem+szL ag.sz d.t.n+1:=by unfold gu.sz;omega
 omega
theorem uz{p:az}(h:p.sz≤1048576):wY p:=by
 have hp:p.sz=szL aE.sz p.nodes+1:=by unfold az.sz;omega
 have hn:=ip aE.sz_pos p.nodes
 have node:∀ x∈p.nodes,szL szS x.sizes+szL aw.sz x.in_+szL aw.sz x.out_+szL aw.sz x.local_+szL TEq.sz x.eqs≤1048576:=fun x hx=>by
  have h1:=kJ (f:=aE.sz) hx
  have h2:x.sz=szS x.name+szI x.at_+szL szS x.sizes+szL aw.sz x.in_+szL aw.sz x.out_+szL aw.sz x.local_+szL TEq.sz x.eqs+1:=by unfold aE.sz;omega
  omega
 refine ⟨by omega,fun x hx=>?_,fun x hx=>?_,fun x hx=>⟨?_,fun q hq=>?_⟩⟩
 ·have h1:=node x hx
  have h2:=ip zn x.sizes
  omega
 ·have h1:=node x hx
  exact ⟨tW oM,tW oM,tW oM⟩
 ·have h1:=node x hx
  have h2:=ip TEq.sz_pos x.eqs
  omega
 ·have h1:=node x hx
  have h2:=kJ (f:=TEq.sz) hq
  have h3:q.sz=szI q.at_+szL szS q.names+szS q.node+szL (szL ag.sz) q.s+szL ae.sz q.e+1:=by unfold TEq.sz;omega
  have h4:=ip zn q.names
  have h5:=ae.szs_eq q.e
  have h6:=ip (f:=szL ag.sz) Ax q.s
  exact ⟨by omega,⟨wW oM,by omega⟩,by omega⟩
theorem wY.ok{p:az}(h:wY p):EQ p:=⟨by have:=h.nodes;omega,fun x hx=>⟨by have:=h.names x hx;omega,(h.decls x hx).1.1,(h.decls x hx).2.1.1,(h.decls x hx).2.2.1,by have:=(h.eqs x hx).1;omega,fun q hq=>by
 obtain ⟨h1,h2,h3⟩:=(h.eqs x hx).2 q hq
 exact ⟨by omega,h2.1,by omega⟩⟩⟩
theorem pk{A O:Type}{body:A×Int→Option ((A×Int) ⊕ O)}(n:Nat)(hn:n≤9000000)
  (h:∀ (i:Nat) (a:A),i<n→(∃ o,body (a,(i:Int))=some (.inr o))∨∃ a',body (a,(i:Int))=some (.inl (a',IntKind.wrap .i64 ((i:Int)+1)))) (he:∀ a,∃ o,body (a,(n:Int))=some (.inr o)) (a0:A):∃ o,dh body (a0,0)=some o:=by
 have key:∀ (k i:Nat) (a:A),i+k=n→∃ o,dh body (a,(i:Int))=some o:=by
  intro k
  induction k with
  |zero =>
   intro i a hi
   obtain ⟨o,ho⟩:=he a
   have:i=n:=by omega
   subst this
   exact ⟨o,ee ho⟩
  |succ k ih =>
   intro i a hi
   rcases h i a oM with ⟨o,ho⟩|⟨a',ha⟩
   ·exact ⟨o,ee ho⟩
   ·rw [gi ha,wrs i oM]
    exact ih (i+1) a' oM
 exact key n 0 a0 oM
theorem vC{O:Type}{body:Int→Option (Int ⊕ O)}(n:Nat)(hn:n≤9000000)
  (h:∀ (i:Nat),i<n→(∃ o,body (i:Int)=some (.inr o))∨body (i:Int)=some (.inl (IntKind.wrap .i64 ((i:Int)+1)))) (he:∃ o,body (n:Int)=some (.inr o)):∃ o,dh body 0=some o:=by
 have key:∀ (k i:Nat),i+k=n→∃ o,dh body (i:Int)=some o:=by
  intro k
  induction k with
  |zero =>
   intro i hi
   obtain ⟨o,ho⟩:=he
   have:i=n:=by omega
   subst this
   exact ⟨o,ee ho⟩
  |succ k ih =>
   intro i hi
   rcases h i oM with ⟨o,ho⟩|ha
   ·exact ⟨o,ee ho⟩
   ·rw [gi ha,wrs i oM]
    exact ih (i+1) oM
 exact key n 0 oM
theorem si(l:List Ω)(h:l.length≤9000000)(z:Int):∃ o,kv l z=some o:=by
 unfold kv
 split
 ·exact ⟨_,rfl⟩
 ·obtain ⟨o,ho⟩:=vC (body:=fun x3=>f8 l x3) l.length h (fun i hi=>by
   show (∃ o,f8 l i=_)∨f8 l i=_
   unfold f8
   rw [iP (ltI hi),iP (inI hi)]
   split
   ·exact .inl ⟨_,rfl⟩
   ·exact .inr rfl) ⟨_,by show f8 l _=_;unfold f8;rw [iN (ep _)]⟩
  rw [ho]
  rcases o with _|o<;>exact ⟨_,rfl⟩
theorem pm(l:List (List ag))(h:rg l)(z:Int):∃ o,jo l z=some o:=by
 unfold jo
 obtain ⟨o,ho⟩:=pk (body:=fun x=>gf l x.1 x.2) l.length h.1 (fun i a hi=>by
  show (∃ o,gf l a i=_)∨∃ a',gf l a i=_
  unfold gf
  rw [iP (ltI hi)]
  split
  ·rw [iP (inI hi)]
   split
   ·exact .inl ⟨_,rfl⟩
   ·obtain ⟨o,ho⟩:=vC (body:=fun x10=>f9 l i x10) (l.getD i default).length (h.2 _ (dJ hi)) (fun j hj=>by
     show (∃ o,f9 l i j=_)∨f9 l i j=_
     unfold f9
     rw [tN,iP (ltI hj),iP (inI hj)]
     split
     ·exact .inl ⟨_,rfl⟩
     ·exact .inr rfl) ⟨_,by show f9 l i _=_;unfold f9;rw [tN,iN (ep _)]⟩
    rw [ho]
    rcases o with _|o
    ·exact .inr ⟨_,rfl⟩
    ·exact .inl ⟨_,rfl⟩
  ·exact .inl ⟨_,rfl⟩) (fun a=>⟨_,by show gf l a _=_;unfold gf;rw [iN (ep _)]⟩) (IntKind.wrap .i64 (z - (l.length:Int)))
 rw [ho]
 rcases o with o|o<;>exact ⟨_,rfl⟩
theorem po(l:List aw)(h:mu l)(z:Int):∃ o,jp l z=some o:=by
 unfold jp
 obtain ⟨o,ho⟩:=pk (body:=fun x=>gg l x.1 x.2) l.length h.1 (fun i a hi=>by
  show (∃ o,gg l a i=_)∨∃ a',gg l a i=_
  unfold gg
  rw [iP (ltI hi)]
  split
  ·rw [iP (inI hi)]
   split
   ·exact .inl ⟨_,rfl⟩
   ·rw [tN]
    obtain ⟨o,ho⟩:=pm (lit ([(l.getD i default).t.n]:List (List ag))) ⟨by simp [lit],fun d hd=>by
     have:d=(l.getD i default).t.n:=by simpa [lit] using hd
     rw [this];exact h.2 _ (dJ hi)⟩ a
    rw [ho]
    exact .inr ⟨_,rfl⟩
  ·exact .inl ⟨_,rfl⟩) (fun a=>⟨_,by show gg l a _=_;unfold gg;rw [iN (ep _)]⟩) (IntKind.wrap .i64 (z - (l.length:Int)))
 rw [ho]
 rcases o with o|o<;>exact ⟨_,rfl⟩
theorem sj:∀ (n:Nat) (l:List ae) (z:Int),ae.szs l<n→ae.szs l≤8000000→∃ o,fN n l z=some o
 |0,_,_,h,_=>by omega
 |n+1,l,z,h,hs=>by
  have hlen:=sU l
  show ∃ o,kx (fN n) l z=some o
  unfold kx
  obtain ⟨o,ho⟩:=pk (body:=fun x=>gh (fN n) l x.1 x.2) l.length oM (fun i a hi=>by
   show (∃ o,gh (fN n) l a i=_)∨∃ a',gh (fN n) l a i=_
   have hsz:=ju (dJ hi)
   obtain ⟨e1,e2⟩:=zm (x:=l.getD i default) oM
   unfold gh
   rw [iP (ltI hi)]
   split
   ·rw [iP (inI hi)]
    split
    ·exact .inl ⟨_,rfl⟩
    ·rw [tN]
     obtain ⟨o,ho⟩:=pm _ e1 a
     rw [ho]
     simp only [bSq]
     split
     ·obtain ⟨o2,ho2⟩:=sj n (l.getD i default).l o oM oM
      rw [ho2]
      exact .inr ⟨_,rfl⟩
     ·exact .inr ⟨_,rfl⟩
   ·exact .inl ⟨_,rfl⟩) (fun a=>⟨_,by show gh _ l a _=_;unfold gh;rw [iN (ep _)]⟩) (IntKind.wrap .i64 (z - (l.length:Int)))
  rw [ho]
  rcases o with o|o<;>exact ⟨_,rfl⟩
theorem Ay(n:Nat)(p:az)(x j:Nat)(hn:9000000<n)(h:ae.szs ((p.nodes.getD x default).eqs.getD j default).e≤8000000)(z:Int):∃ a',kQ n p x j z=some (.inl (a',IntKind.wrap .i64 ((j:Int)+1))):=by
 unfold kQ pj
 split
 ·simp only [tN]
  obtain ⟨o,ho⟩:=sj n _ z oM h
  rw [ho];exact ⟨_,rfl⟩
 ·exact ⟨_,rfl⟩
theorem u7(n:Nat)(p:az)(h:wY p)(hn:9000000<n):∃ b,nK n p=some b:=by
 unfold nK
 split
 ·exact ⟨_,rfl⟩
 ·obtain ⟨o,ho⟩:=pk (body:=fun x=>ja n p x.1 x.2) p.nodes.length (by have:=h.nodes;omega) (fun i a hi=>by
   show (∃ o,ja n p a i=_)∨∃ a',ja n p a i=_
   have hm:=dJ hi
   obtain ⟨d1,d2,d3⟩:=h.decls _ hm
   obtain ⟨q1,q2⟩:=h.eqs _ hm
   unfold ja
   rw [iP (ltI hi)]
   split
   ·rw [iP (inI hi)]
    split
    ·exact .inl ⟨_,rfl⟩
    ·split
     ·exact .inl ⟨_,rfl⟩
     ·rw [tN]
      obtain ⟨o1,ho1⟩:=si (p.nodes.getD i default).sizes (by have:=h.names _ hm;omega) a
      rw [ho1];simp only [bSq]
      obtain ⟨o2,ho2⟩:=po (p.nodes.getD i default).in_ d1.1 o1
      rw [ho2];simp only [bSq]
      obtain ⟨o3,ho3⟩:=po (p.nodes.getD i default).out_ d2.1 o2
      rw [ho3];simp only [bSq]
      obtain ⟨o4,ho4⟩:=po (p.nodes.getD i default).local_ d3.1 o3
      rw [ho4];simp only [bSq]
      obtain ⟨o,ho⟩:=pk (body:=fun x=>i8 n p i x.1 x.2) (p.nodes.getD i default).eqs.length oM (fun j c hj=>by
       show (∃ o,i8 n p i c j=_)∨∃ a',i8 n p i c j=_
       have hq:=dJ hj
       obtain ⟨r1,r2,r3⟩:=q2 _ hq
       unfold i8
       rw [tN,iP (ltI hj)]
       split
       ·rw [iP (inI hj)]
        split
        ·exact .inl ⟨_,rfl⟩
        ·rw [tN]
         obtain ⟨w1,hw1⟩:=si _ (show ((p.nodes.getD i default).eqs.getD j default).names.length≤9000000 by omega) c
         rw [hw1];simp only [bSq]
         split
         ·obtain ⟨w2,hw2⟩:=pm _ r2.1 w1
          rw [hw2];simp only [bSq]
          exact .inr (Ay n p i j hn r3 w2)
         ·exact .inr (Ay n p i j hn r3 w1)
       ·exact .inl ⟨_,rfl⟩) (fun c=>⟨_,by show i8 n p i c _=_;unfold i8;rw [tN,iN (ep _)]⟩) o4
      rw [ho]
      rcases o with o|o
      ·exact .inr ⟨_,rfl⟩
      ·exact .inl ⟨_,rfl⟩
   ·exact .inl ⟨_,rfl⟩) (fun a=>⟨_,by show ja n p a _=_;unfold ja;rw [iN (ep _)]⟩) 8000
  rw [ho]
  rcases o with o|o<;>exact ⟨_,rfl⟩
theorem wZ{T:Type}[Inhabited T](l:List T)(F:T→Int)(at_:Int){body:Int×Int×Int→Option ((Int×Int×Int) ⊕ (Int×Int))}(f0:aq)
  (hb:∀ (i:Nat) (f:aq),i<l.length→body (f.code,f.at_,(i:Int))=some (.inl ((wf f at_ (F (l.getD i default))).code,(wf f at_ (F (l.getD i default))).at_,((i+1:Nat):Int))))
  (he:∀ (f:aq),body (f.code,f.at_,(l.length:Int))=some (.inr (pr f))) :
  dh body (f0.code,f0.at_,0)=some (pr (wf f0 at_ (fsF F l))):=by
 have key:∀ (k i:Nat) (f:aq),i+k=l.length→dh body (f.code,f.at_,(i:Int))=some (pr (wf f at_ (fsF F (l.drop i)))):=by
  intro k
  induction k with
  |zero =>
   intro i f hi
   obtain rfl:i=l.length:=by omega
   rw [iz,he,List.drop_length]
   simp only [fsF,BE]
  |succ k ih =>
   intro i f hi
   have hlt:i<l.length:=by omega
   have hd:l.drop i=l.getD i default :: l.drop (i+1):=by
    rw [List.drop_eq_getElem_cons hlt];simp [List.getD,hlt]
   rw [iz,hb i f hlt]
   simp only
   rw [ih (i+1) _ oM,iX,hd]
   rfl
 exact key l.length 0 f0 oM
def nL(op:Int):hO×Bool :=
 if op=1∨op=2∨op=3 then (hO.mk 0 0 0 0,true) else if op=4 then (hO.mk 1 0 13 14,true) else if op=5 then (hO.mk 2 0 1 12,true)
 else if op=6∨op=11∨op=12 then (hO.mk 3 0 0 0,true) else if op=7 then (hO.mk (-1) 0 1 14,true) else if op=8∨op=9 then (hO.mk 2 0 1 14,true)
 else if op=10 then (hO.mk 1 1 0 0,true) else if op=13 then (hO.mk 1 2 0 0,true) else if op=14∨op=15 then (hO.mk 2 0 0 0,true) else (hO.mk 0 0 0 0,false)
theorem Ia(op:Int):o9 op=some (nL op):=by
 unfold o9 nL
 by_cases h1:op=1
 ·subst h1;rfl
 by_cases h2:op=2
 ·subst h2;rfl
 by_cases h3:op=3
 ·subst h3;rfl
 by_cases h4:op=4
 ·subst h4;rfl
 by_cases h5:op=5
 ·subst h5;rfl
 by_cases h6:op=6
 ·subst h6;rfl
 by_cases h7:op=7
 ·subst h7;rfl
 by_cases h8:op=8
 ·subst h8;rfl
 by_cases h9:op=9
 ·subst h9;rfl
 by_cases h10:op=10
 ·subst h10;rfl
 by_cases h11:op=11
 ·subst h11;rfl
 by_cases h12:op=12
 ·subst h12;rfl
 by_cases h13:op=13
 ·subst h13;rfl
 by_cases h14:op=14
 ·subst h14;rfl
 by_cases h15:op=15
 ·subst h15;rfl
 simp [kc,kb,lj,li,h1,h2,h3,h4,h5,h6,h7,h8,h9,h10,h11,h12,h13,h14,h15]
def jX(op k n:Int)(name:Ω)(ns nl:Nat):Prop :=
 (nL op).2=true∧((nl:Int)=(nL op).1.parts∨(nL op).1.parts<0∧(nl=1∨nl=2))∧((nL op).1.from_≤k∧k≤(nL op).1.to)∧(ns:Int)=(nL op).1.sizes ∧
 ¬ (2<op∧¬ n=0)∧¬ (op=2∧¬ n=0∧¬ n=1)∧(op=3∨name=[])
instance (op k n:Int) (name:Ω) (ns nl:Nat):Decidable (jX op k n name ns nl):=by unfold jX;infer_instance
mutual
def exF:ae→Int
 |⟨op,k,n,name,s,l⟩=>sq (if jX op k n name s.length l.length then 0 else 4) (sq (if op=3 then (if fJ name=true then 0 else 3) else 0) (sq (if n<0∨1000000000000000000≤n then 2 else 0) (sq (fsF gn s) (Dw l))))
def Dw:List ae→Int
 |[]=>0
 |x :: l=>sq (exF x) (Dw l)
end
theorem CB:∀ l:List ae,Dw l=fsF exF l
 |[]=>by simp [Dw,fsF]
 |x :: l=>by rw [Dw,CB l];rfl
theorem u9(x:ae):exF x=sq (if jX x.op x.k x.n x.name x.s.length x.l.length then 0 else 4) (sq (if x.op=3 then (if fJ x.name=true then 0 else 3) else 0) (sq (if x.n<0∨1000000000000000000≤x.n then 2 else 0) (sq (fsF gn x.s) (fsF exF x.l)))):=by
 cases x;rw [exF,CB]
theorem ifC{p q:Prop}[Decidable p][Decidable q](h:p↔q){a b:Int}:(if p then a else b)=if q then a else b:=by
 by_cases hp:p
 ·rw [iP hp,iP (h.1 hp)]
 ·rw [iN hp,iN (fun k=>hp (h.2 k))]
theorem Az:∀ (n:Nat) (x:ae) (f:aq) (a:Int),x.sz<n→x.sz≤8000000→bG n x (am.mk f a)=some (pr (wf f a (exF x)))
 |0,_,_,_,h,_=>by omega
 |n+1,x,f,a,h,hs=>by
  obtain ⟨ok1,ok2⟩:=zm (x:=x) oM
  show iG (bG n) x (am.mk f a)=_
  have j6:∀ g:aq,fV (bG n) x (am.mk f a) g.code g.at_=some (pr (wf g a (fsF exF x.l))):=by
   intro g
   unfold fV
   rw [wZ x.l exF a (body:=fun (x18,x19,x20)=>e8 (bG n) x (am.mk f a) x18 x19 x20) g
    (fun i f' hi => by
     show e8 (bG n) x (am.mk f a) f'.code f'.at_ i=_
     unfold e8
     have hm:x.l.getD i default∈x.l:=by simp [List.getD,hi]
     have:=ju hm
     have hll:=sU x.l
     rw [iP (ltI hi),iP (inI hi),tN,Az n _ _ _ oM oM,bSq,wrs i oM]
     rfl)
    (fun f' => by
     show e8 (bG n) x (am.mk f a) f'.code f'.at_ x.l.length=_
     unfold e8
     rw [iN (ep _)];rfl)]
   rfl
  have j5:∀ g:aq,fW (bG n) x (am.mk f a) g.code g.at_=some (pr (wf g a (sq (fsF gn x.s) (fsF exF x.l)))):=by
   intro g
   unfold fW
   rw [wZ x.s gn a (body:=fun (x29,x30,x31)=>e9 x (am.mk f a) x29 x30 x31) g
    (fun i f' hi => by
     show e9 x (am.mk f a) f'.code f'.at_ i=_
     unfold e9
     have hm:x.s.getD i default∈x.s:=by simp [List.getD,hi]
     rw [iP (ltI hi),iP (inI hi),tN,wT _ (ok1.2 _ hm),bSq,wrs i (by have:=ok1.1;omega)]
     rfl)
    (fun f' => by
     show e9 x (am.mk f a) f'.code f'.at_ x.s.length=_
     unfold e9
     rw [iN (ep _)];rfl)]
   rw [bSq]
   simp only [pr]
   rw [j6,iX];rfl
  have j4:∀ g:aq,fX (bG n) x (am.mk f a) g.code g.at_=some (pr (wf g a (sq (if x.n<0∨1000000000000000000≤x.n then 2 else 0) (sq (fsF gn x.s) (fsF exF x.l))))):=by
   intro g
   unfold fX
   by_cases h1:x.n<0
   ·rw [iP h1,iA _ _ _ _ dM,bSq]
    simp only [pr]
    rw [j5,iX];simp [h1,pr]
   ·rw [iN h1,iA _ _ _ _ dM,bSq]
    simp only [pr]
    rw [j5,iX]
    by_cases h2:1000000000000000000≤x.n<;>simp [h1,h2,pr]
  have j3:∀ g:aq,aP (bG n) x (am.mk f a) g.code g.at_=some (pr (wf g a (sq (if x.op=3 then (if fJ x.name=true then 0 else 3) else 0) (sq (if x.n<0∨1000000000000000000≤x.n then 2 else 0) (sq (fsF gn x.s) (fsF exF x.l)))))):=by
   intro g
   unfold aP
   by_cases h1:x.op=3
   ·rw [iP h1,pi,bSq]
    simp only [pr]
    rw [j4,iX];simp [h1,pr]
   ·rw [iN h1,j4];simp [h1,sq]
  have fin:∀ (b:Bool) (p:Prop) [Decidable p],(b=true↔¬ p)→((au b 4 (am.mk f a)).bind fun y=>aP (bG n) x (am.mk f a) y.1 y.2) =
    some (pr (wf f a (sq (if p then 0 else 4) (sq (if x.op=3 then (if fJ x.name=true then 0 else 3) else 0) (sq (if x.n<0∨1000000000000000000≤x.n then 2 else 0) (sq (fsF gn x.s) (fsF exF x.l))))))):=by
   intro b p _ hb
   rw [iA _ _ _ _ dM,bSq]
   simp only [pr]
   rw [j3,iX]
   by_cases hp:p
   ·have:b=false:=by cases b;rfl;exact absurd hp (hb.1 rfl)
    simp [hp,this,pr]
   ·have:b=true:=hb.2 hp
    simp [hp,this,pr]
  rw [u9]
  unfold iG
  by_cases hc:f.code=0
  ·rw [iN (by simpa using hc),Ia,bSq]
   have j2:∀ (y:hO×Bool) (b2 b3:Bool),fY (bG n) x (am.mk f a) y b2 b3 =
     some (pr (wf f a (sq (if y.2=true∧b2=true∧b3=true∧(x.s.length:Int)=y.1.sizes∧¬ (2<x.op∧¬ x.n=0)∧¬ (x.op=2∧¬ x.n=0∧¬ x.n=1)∧(x.op=3∨x.name=[]) then 0 else 4) (sq (if x.op=3 then (if fJ x.name=true then 0 else 3) else 0) (sq (if x.n<0∨1000000000000000000≤x.n then 2 else 0) (sq (fsF gn x.s) (fsF exF x.l))))))):=by
    intro y b2 b3
    unfold fY
    by_cases c1:y.2=true
    rotate_left
    ·rw [iN c1];exact fin _ _ (by simp [c1])
    rw [iP c1]
    by_cases c2:b2=true
    rotate_left
    ·rw [iN c2];exact fin _ _ (by simp [c2])
    rw [iP c2]
    by_cases c3:b3=true
    rotate_left
    ·rw [iN c3];exact fin _ _ (by simp [c3])
    rw [iP c3]
    by_cases c4:(x.s.length:Int)=y.1.sizes
    rotate_left
    ·rw [iP c4];exact fin _ _ (by simp [c4])
    rw [iN (by simp [c4])]
    by_cases c5:x.op>2
    ·have c6:¬ x.op=2:=by omega
     rw [iP c5,iN c6]
     by_cases c7:x.n=0
     rotate_left
     ·rw [iP c7];exact fin _ _ (by simp [c7,c5])
     rw [iN (by simp [c7])]
     by_cases c8:x.op=3
     ·rw [iN (by simp [c8])];exact fin _ _ (by simp [c1,c2,c3,c4,c6,c7,c8])
     ·rw [iP c8];exact fin _ _ (by simp [c1,c2,c3,c4,c6,c7,c8])
    ·have c8:¬ x.op=3:=by omega
     have c5':¬ 2<x.op:=c5
     rw [iN c5]
     by_cases c6:x.op=2
     ·rw [iP c6]
      by_cases c7:x.n=0
      ·rw [iN (by simp [c7]),iP c8];exact fin _ _ (by simp [c1,c2,c3,c4,c5',c7,c8])
      ·rw [iP c7]
       by_cases c9:x.n=1
       ·rw [iN (by simp [c9]),iP c8];exact fin _ _ (by simp [c1,c2,c3,c4,c5',c9,c8])
       ·rw [iP c9];exact fin _ _ (by simp [c6,c7,c9])
     ·rw [iN c6,iP c8];exact fin _ _ (by simp [c1,c2,c3,c4,c5',c6,c8])
   have j1:∀ (b2:Bool) (p:Prop),(b2=true↔p)→p=((x.l.length:Int)=(nL x.op).1.parts∨(nL x.op).1.parts<0∧(x.l.length=1∨x.l.length=2))→ez (bG n) x (am.mk f a) (nL x.op) b2 =
     some (pr (wf f a (sq (if jX x.op x.k x.n x.name x.s.length x.l.length then 0 else 4) (sq (if x.op=3 then (if fJ x.name=true then 0 else 3) else 0) (sq (if x.n<0∨1000000000000000000≤x.n then 2 else 0) (sq (fsF gn x.s) (fsF exF x.l))))))):=by
    intro b2 p hb hp
    unfold ez
    by_cases c1:x.k≥(nL x.op).1.from_
    ·rw [iP c1,j2]
     refine congrArg (fun z=>some (pr (wf f a (sq z _)))) (ifC ?_)
     unfold jX
     rw [hb,hp]
     have c1':(nL x.op).1.from_≤x.k:=c1
     simp only [decide_eq_true_eq,c1',true_and]
    ·rw [iN c1,j2]
     refine congrArg (fun z=>some (pr (wf f a (sq z _)))) (ifC ?_)
     unfold jX
     have c1':¬ (nL x.op).1.from_≤x.k:=c1
     simp [c1']
   by_cases c1:(x.l.length:Int)=(nL x.op).1.parts
   ·rw [iP c1];exact j1 _ True (by simp) (by simp [c1])
   rw [iN c1]
   by_cases c2:(nL x.op).1.parts<0
   rotate_left
   ·rw [iN c2];exact j1 _ False (by simp) (by simp [c1,c2])
   rw [iP c2]
   by_cases c3:(x.l.length:Int)=1
   ·rw [iP c3];exact j1 _ True (by simp) (by simp [c2,show x.l.length=1 by omega])
   ·rw [iN c3];exact j1 _ (x.l.length=2) (by rw [beq_iff_eq];omega) (by
     have c3':¬ x.l.length=1:=by omega
     simp [c1,c2,c3'])
  ·rw [iP (by simpa using hc)]
   unfold wf pr
   rw [iN (fun k=>hc k.1)]
mutual
def pn:ae→Nat
 |⟨_,_,_,_,_,l⟩=>1+pns l
def pns:List ae→Nat
 |[]=>0
 |x :: l=>pn x+pns l
end
theorem tB(x:ae):pn x=1+pns x.l:=by cases x;rw [pn]
mutual
theorem CC:∀ x:ae,pn x≤x.sz
 |⟨op,k,n,name,s,l⟩=>by
  have:=w6 l
  rw [pn,ae.sz];omega
theorem w6:∀ l:List ae,pns l≤ae.szs l
 |[]=>by simp [pns]
 |x :: l=>by
  have:=CC x
  have:=w6 l
  rw [pns,ae.szs];omega
end
theorem ER(l:List ae)(i:Nat)(h:i<l.length):pns (l.take (i+1))=pns (l.take i)+pn (l.getD i default):=by
 induction l generalizing i with
 |nil=>simp at h
 |cons a l ih =>
  cases i with
  |zero=>simp [pns]
  |succ i =>
   simp only [List.take_succ_cons,pns]
   rw [ih i (by simpa using h)]
   simp [List.getD];omega
theorem ES(l:List ae)(i:Nat):pns (l.take i)≤pns l:=by
 induction l generalizing i with
 |nil=>simp
 |cons a l ih =>
  cases i with
  |zero=>simp [pns]
  |succ i=>simp only [List.take_succ_cons,pns];have:=ih i;omega
theorem yu:∀ (n:Nat) (x:ae) (m:Nat),x.sz<n→x.sz≤8000000→m≤30→iF n x m=some (if (pn x:Int)≤m then (m:Int) - pn x else -1)
 |0,_,_,h,_,_=>by omega
 |n+1,x,m,h,hs,hm0=>by
  obtain ⟨ok1,ok2⟩:=zm (x:=x) oM
  have hll:=sU x.l
  have hps:=w6 x.l
  show lF (iF n) x m=_
  unfold lF
  have key:∀ (k i:Nat),i+k=x.l.length→dh (fun (x6,x7)=>jE (iF n) x x6 x7) ((if ((1+pns (x.l.take i):Nat):Int)≤m then (m:Int) - ((1+pns (x.l.take i):Nat):Int) else -1),(i:Int)) =
    some (if ((1+pns x.l:Nat):Int)≤m then (m:Int) - ((1+pns x.l:Nat):Int) else -1):=by
   intro k
   induction k with
   |zero =>
    intro i hi
    obtain rfl:i=x.l.length:=by omega
    rw [iz]
    simp only
    unfold jE
    rw [iN (ep _),List.take_length]
   |succ k ih =>
    intro i hi
    have hlt:i<x.l.length:=by omega
    have hm:x.l.getD i default∈x.l:=by simp [List.getD,hlt]
    have h1:=ju hm
    have h2:=ER x.l i hlt
    have h3:=ES x.l (i+1)
    rw [iz]
    simp only
    unfold jE
    rw [iP (ltI hlt)]
    by_cases hp:((1+pns (x.l.take i):Nat):Int)≤m
    ·rw [iP hp,iP oM,iP (inI hlt),tN]
     rw [show (m:Int) - ((1+pns (x.l.take i):Nat):Int)=((m - (1+pns (x.l.take i)):Nat):Int) by omega]
     rw [yu n _ _ oM oM oM,bSq,wrs i oM]
     simp only
     rw [show (if ((pn (x.l.getD i default):Nat):Int)≤((m - (1+pns (x.l.take i)):Nat):Int) then ((m - (1+pns (x.l.take i)):Nat):Int) - ((pn (x.l.getD i default):Nat):Int) else -1) =
      (if ((1+pns (x.l.take (i+1)):Nat):Int)≤m then (m:Int) - ((1+pns (x.l.take (i+1)):Nat):Int) else -1) by
      split<;>split<;>omega]
     exact ih (i+1) oM
    ·rw [iN hp,iN oM,iN oM]
  have k0:=key x.l.length 0 oM
  have e0:IntKind.wrap .i64 ((m:Int) - 1)=if ((1+pns (x.l.take 0):Nat):Int)≤m then (m:Int) - ((1+pns (x.l.take 0):Nat):Int) else -1:=by
   rw [wr oM oM]
   simp only [List.take_zero,pns]
   split<;>omega
  rw [e0,show (0:Int)=((0:Nat):Int) from rfl,k0,tB]
  rfl
def jq(w:Ω):Int:=if fJ w=true then 0 else 3
def n7(e:ae):Int:=sq (if pn e>30 then 7 else 0) (exF e)
def eqF(q:TEq):Int :=
 sq (if q.names.length=0∨q.node=[]∧¬ (q.names.length=1∧q.e.length=1∧q.s.length=0) then 4 else 0) (sq (if q.names.length>30∨q.e.length>30∨q.s.length>3 then 7 else 0) (sq (fsF jq q.names)
  (sq (if q.node=[] then 0 else jq q.node) (sq (fsF gn q.s) (fsF n7 q.e)))))
theorem AA(a b c:Int):sq (sq a b) c=sq a (sq b c):=by unfold sq;split<;>simp_all
def Jj(q:TEq):Prop:=q.names.length≤8000000∧rg q.s∧q.s.length≤8000000∧ae.szs q.e≤8000000
theorem Ib(n:Nat)(hn:8000000<n)(q:TEq)(hq:Jj q)(f:aq)(a:Int):kt n q (am.mk f a)=some (pr (wf f a (eqF q))):=by
 obtain ⟨q1,q2,q3,q4⟩:=hq
 have q5:=sU q.e
 have j4:∀ g:aq,fQ n q (am.mk f a) g.code g.at_=some (pr (wf g a (fsF n7 q.e))):=by
  intro g
  unfold fQ
  rw [oN q.e n7 a (body:=fun (x15,x16,x17)=>eF n q (am.mk f a) x15 x16 x17) g
   (fun i f' hi hc => by
    show eF n q (am.mk f a) f'.code f'.at_ i=_
    unfold eF
    have hm:q.e.getD i default∈q.e:=by simp [List.getD,hi]
    have:=ju hm
    rw [iP (ltI hi),iP hc,iP (inI hi),tN]
    have ht:qW n (q.e.getD i default) 30=some (if (pn (q.e.getD i default):Int)≤30 then (30:Int) - pn (q.e.getD i default) else -1):=yu n _ 30 oM oM oM
    have he:∀ g:aq,mC n (q.e.getD i default) (am.mk (aq.mk g.code g.at_) a)=some (pr (wf g a (exF (q.e.getD i default)))):=fun g=>Az n _ _ _ oM oM
    rw [ht,bSq,iA _ _ _ _ dM,bSq]
    simp only [pr]
    rw [he,bSq]
    simp only [pr]
    rw [iX,wrs i oM]
    have e1:(if (decide ((if (pn (q.e.getD i default):Int)≤30 then (30:Int) - pn (q.e.getD i default) else -1)<0))=true then (7:Int) else 0)=if pn (q.e.getD i default)>30 then 7 else 0:=by
     by_cases h:(pn (q.e.getD i default):Int)≤30
     ·have h1:¬ ((30:Int) - pn (q.e.getD i default)<0):=by omega
      have h2:¬ (pn (q.e.getD i default)>30):=by omega
      rw [iP h,iN (by simpa using h1),iN h2]
     ·have h2:pn (q.e.getD i default)>30:=by omega
      rw [iN h,iP h2];rfl
    rw [e1]
    rfl)
   (fun i f' hi hc => by
    show eF n q (am.mk f a) f'.code f'.at_ i=_
    unfold eF
    rw [iP (ltI hi),iN hc];rfl)
   (fun f' => by
    show eF n q (am.mk f a) f'.code f'.at_ q.e.length=_
    unfold eF
    rw [iN (ep _)];rfl)]
  rfl
 have j3:∀ g:aq,fR n q (am.mk f a) g.code g.at_=some (pr (wf g a (sq (fsF gn q.s) (fsF n7 q.e)))):=by
  intro g
  unfold fR
  rw [oN q.s gn a (body:=fun (x28,x29,x30)=>eG q (am.mk f a) x28 x29 x30) g
   (fun i f' hi hc => by
    show eG q (am.mk f a) f'.code f'.at_ i=_
    unfold eG
    have hm:q.s.getD i default∈q.s:=by simp [List.getD,hi]
    rw [iP (ltI hi),iP hc,iP (inI hi),tN,wT _ (q2.2 _ hm),bSq,wrs i oM]
    rfl)
   (fun i f' hi hc => by
    show eG q (am.mk f a) f'.code f'.at_ i=_
    unfold eG
    rw [iP (ltI hi),iN hc];rfl)
   (fun f' => by
    show eG q (am.mk f a) f'.code f'.at_ q.s.length=_
    unfold eG
    rw [iN (ep _)];rfl),bSq]
  simp only [pr]
  rw [j4,iX];rfl
 have j2:∀ g:aq,cU n q (am.mk f a) g.code g.at_=some (pr (wf g a (sq (if q.node=[] then 0 else jq q.node) (sq (fsF gn q.s) (fsF n7 q.e))))):=by
  intro g
  unfold cU
  by_cases h1:q.node=[]
  ·rw [iP h1,iP h1,j3];simp [sq]
  rw [iN h1,iN h1]
  by_cases h2:g.code=0
  ·rw [iP h2,pi,bSq]
   simp only [pr]
   rw [j3,iX];rfl
  ·rw [iN h2,j3]
   unfold wf
   rw [iN (fun k=>h2 k.1),iN (fun k=>h2 k.1)]
 have names:∀ (body:Int×Int×Int→Option ((Int×Int×Int) ⊕ (Int×Int))) (g:aq),(∀ x y z,body (x,y,z)=if z<(q.names.length:Int) then (if x=0 then (if (0≤z∧z<(q.names.length:Int)) then ((cK (q.names.getD z.toNat default) (am.mk (aq.mk x y) a)).bind fun y71=>some (.inl (y71.1,y71.2,(IntKind.wrap .i64 (z+1))))) else none) else (some (.inr (x,y)))) else (some (.inr (x,y)))) →
   dh body (g.code,g.at_,0)=some (pr (wf g a (fsF jq q.names))):=fun body g hb =>
  oN q.names jq a g
   (fun i f' hi hc => by
    rw [hb,iP (ltI hi),iP hc,iP (inI hi),tN,pi,bSq,wrs i oM]
    rfl)
   (fun i f' hi hc => by
    rw [hb,iP (ltI hi),iN hc];rfl)
   (fun f' => by
    rw [hb,iN (ep _)];rfl)
 have j1:∀ g:aq,d7 n q (am.mk f a) g.code g.at_=some (pr (wf g a (sq (if q.names.length>30∨q.e.length>30∨q.s.length>3 then 7 else 0) (sq (fsF jq q.names) (sq (if q.node=[] then 0 else jq q.node) (sq (fsF gn q.s) (fsF n7 q.e))))))):=by
  intro g
  unfold d7
  by_cases h1:q.names.length>30
  ·rw [iP oM,iA _ _ _ _ dM,bSq]
   simp only [pr]
   rw [names _ _ (fun x y z=>rfl),bSq]
   simp only [pr]
   rw [j2,iX,iX,iP (Or.inl h1),iP trivial];rfl
  rw [iN oM]
  by_cases h2:q.e.length>30
  ·rw [iP oM,iA _ _ _ _ dM,bSq]
   simp only [pr]
   rw [names _ _ (fun x y z=>rfl),bSq]
   simp only [pr]
   rw [j2,iX,iX,iP (Or.inr (Or.inl h2)),iP trivial];rfl
  rw [iN oM,iA _ _ _ _ dM,bSq]
  simp only [pr]
  rw [names _ _ (fun x y z=>rfl),bSq]
  simp only [pr]
  rw [j2,iX,iX]
  have e1:(if decide ((q.s.length:Int)>3)=true then (7:Int) else 0)=if q.names.length>30∨q.e.length>30∨q.s.length>3 then 7 else 0:=by
   refine ifC ?_
   rw [decide_eq_true_eq];omega
  rw [e1];rfl
 have fin:∀ (b:Bool),(b=true↔(q.names.length=0∨q.node=[]∧¬ (q.names.length=1∧q.e.length=1∧q.s.length=0)))→((au b 4 (am.mk f a)).bind fun y=>d7 n q (am.mk f a) y.1 y.2)=some (pr (wf f a (eqF q))):=by
  intro b hb
  rw [iA _ _ _ _ dM,bSq]
  simp only [pr]
  rw [j1,iX,ifC hb];rfl
 unfold kt
 by_cases h1:q.names.length=0
 ·rw [iP oM];exact fin _ (by simp [h1])
 rw [iN oM]
 by_cases h2:q.node=[]
 ·rw [iP h2]
  by_cases h3:q.names.length=1
  ·rw [iN oM]
   by_cases h4:q.e.length=1
   ·rw [iN oM]
    exact fin _ (by simp only [h2,true_and,h3,h4,decide_eq_true_eq];omega)
   ·rw [iP oM];exact fin _ (by simp only [h2,h4,true_and,false_and,and_false,not_false_eq_true,or_true])
  ·rw [iP oM];exact fin _ (by simp only [h2,h3,true_and,false_and,and_false,not_false_eq_true,or_true])
 ·rw [iN h2];exact fin _ (by simp only [h1,h2,false_and,or_self,Bool.false_eq_true])
def rB(x:aE):Int:=sq (jq x.name) (sq (if x.sizes.length>3∨x.eqs.length>60 then 7 else 0) (sq (fsF jq x.sizes) (sq (if x.out_.length=0 then 4 else 0) (sq (ke x.in_) (sq (ke x.out_) (ke x.local_))))))
def pD:Int→List TEq→aq→aq
 |_,[],f=>f
 |b,q :: l,f=>pD (b+1) l (wf f b (eqF q))
def mE:Int→Int→List aE→aq→aq
 |_,_,[],f=>f
 |b,i,x :: l,f=>mE (b+x.eqs.length) (i+1) l (pD b x.eqs (wf f (-2 - i) (rB x)))
def lv(p:az):aq:=mE 0 0 p.nodes (wf (aq.mk 0 0) (-1) (sq (if p.nodes.length=0 then 9 else 0) (if p.nodes.length>10 then 7 else 0)))
theorem CD(f:aq)(a e:Int)(h:¬ f.code=0):wf f a e=f:=by unfold wf;rw [iN (fun k=>h k.1)]
theorem yv(l:List TEq):∀ (b:Int) (f:aq),¬ f.code=0→pD b l f=f:=by
 induction l with
 |nil=>intro b f h;rfl
 |cons q l ih=>intro b f h;rw [pD,CD _ _ _ h,ih _ _ h]
theorem vD(l:List aE):∀ (b i:Int) (f:aq),¬ f.code=0→mE b i l f=f:=by
 induction l with
 |nil=>intro b i f h;rfl
 |cons x l ih=>intro b i f h;rw [mE,CD _ _ _ h,yv _ _ _ h,ih _ _ _ h]
def GP(x:aE):Prop:=x.sizes.length≤8000000∧(mu x.in_∧x.in_.length≤8000000)∧(mu x.out_∧x.out_.length≤8000000)∧(mu x.local_∧x.local_.length≤8000000)∧x.eqs.length≤8000000∧∀ q∈x.eqs,Jj q
theorem wY.node{p:az}(h:wY p){x:aE}(hx:x∈p.nodes):GP x:=by
 obtain ⟨d1,d2,d3⟩:=h.decls _ hx
 obtain ⟨q1,q2⟩:=h.eqs _ hx
 refine ⟨h.names _ hx,d1,d2,d3,q1,fun q hq=>?_⟩
 obtain ⟨r1,r2,r3⟩:=q2 _ hq
 exact ⟨r1,r2.1,r2.2,r3⟩
theorem ET(n:Nat)(hn:8000000<n)(x:aE)(hx:GP x)(b:Nat)(hb:b≤1000000000000)(f:aq)(a:Int) :
  ∃ z,jn n x b (am.mk f a)=some ((pD b x.eqs (wf f a (rB x))).code,(pD b x.eqs (wf f a (rB x))).at_,z):=by
 obtain ⟨x1,x2,x3,x4,x5,x6⟩:=hx
 have eqs:∀ (k i:Nat) (g:aq) (z:Int),i+k=x.eqs.length→∃ z',dh (fun (x16,x17,x18,x19)=>fa n x b x16 x17 x18 x19) (g.code,g.at_,z,(i:Int)) =
   some ((pD ((b+i:Nat):Int) (x.eqs.drop i) g).code,(pD ((b+i:Nat):Int) (x.eqs.drop i) g).at_,z'):=by
  intro k
  induction k with
  |zero =>
   intro i g z hi
   obtain rfl:i=x.eqs.length:=by omega
   refine ⟨z,?_⟩
   rw [iz]
   simp only
   unfold fa
   rw [iN (ep _),List.drop_length]
   rfl
  |succ k ih =>
   intro i g z hi
   have hlt:i<x.eqs.length:=by omega
   by_cases hc:g.code=0
   ·have hm:x.eqs.getD i default∈x.eqs:=by simp [List.getD,hlt]
    obtain ⟨z',hz⟩:=ih (i+1) (wf g ((b+i:Nat):Int) (eqF (x.eqs.getD i default))) ((b+i:Nat):Int) oM
    refine ⟨z',?_⟩
    have e:fa n x b g.code g.at_ z (i:Int)=some (.inl ((wf g ((b+i:Nat):Int) (eqF (x.eqs.getD i default))).code,(wf g ((b+i:Nat):Int) (eqF (x.eqs.getD i default))).at_,((b+i:Nat):Int),((i+1:Nat):Int))):=by
     unfold fa
     rw [iP (ltI hlt),iP hc,iP (inI hlt),tN,wrs i oM,wr (n:=(b:Int)+(i:Int)) oM oM,show (b:Int)+(i:Int)=((b+i:Nat):Int) by omega]
     rw [Ib n hn _ (x6 _ hm),bSq]
     rfl
    rw [iz]
    simp only
    rw [e]
    simp only
    rw [hz,qx _ _ hlt]
    rw [pD,show ((b+(i+1):Nat):Int)=((b+i:Nat):Int)+1 by omega]
   ·refine ⟨z,?_⟩
    rw [iz]
    simp only
    unfold fa
    rw [iP (ltI hlt),iN hc,yv _ _ _ hc]
 have j1:∀ g:aq,∃ z,dx n x b (am.mk f a) g.code g.at_=some ((pD b x.eqs (wf g a (sq (if x.out_.length=0 then 4 else 0) (sq (ke x.in_) (sq (ke x.out_) (ke x.local_)))))).code,(pD b x.eqs (wf g a (sq (if x.out_.length=0 then 4 else 0) (sq (ke x.in_) (sq (ke x.out_) (ke x.local_)))))).at_,z):=by
  intro g
  have e1:(if ((x.out_.length:Int) == 0)=true then (4:Int) else 0)=if x.out_.length=0 then 4 else 0:=by
   refine ifC ?_
   rw [beq_iff_eq];omega
  obtain ⟨z,hz⟩:=eqs x.eqs.length 0 (wf g a (sq (if x.out_.length=0 then 4 else 0) (sq (ke x.in_) (sq (ke x.out_) (ke x.local_))))) a oM
  refine ⟨z,?_⟩
  unfold dx
  rw [iA _ _ _ _ dM,bSq]
  simp only [pr]
  rw [uY _ (by have:=x2.2;omega) x2.1.2,bSq]
  simp only [pr]
  rw [uY _ (by have:=x3.2;omega) x3.1.2,bSq]
  simp only [pr]
  rw [uY _ (by have:=x4.2;omega) x4.1.2,bSq]
  simp only [pr]
  rw [iX,iX,iX,e1]
  have hz':=hz
  rw [show ((0:Nat):Int)=0 from rfl,List.drop_zero,Nat.add_zero] at hz'
  rw [hz']
  rfl
 have names:∀ (body:Int×Int×Int→Option ((Int×Int×Int) ⊕ (Int×Int))) (g:aq),(∀ u v w,body (u,v,w)=if w<(x.sizes.length:Int) then (if u=0 then (if (0≤w∧w<(x.sizes.length:Int)) then ((cK (x.sizes.getD w.toNat default) (am.mk (aq.mk u v) a)).bind fun y71=>some (.inl (y71.1,y71.2,(IntKind.wrap .i64 (w+1))))) else none) else (some (.inr (u,v)))) else (some (.inr (u,v)))) →
   dh body (g.code,g.at_,0)=some (pr (wf g a (fsF jq x.sizes))):=fun body g hb =>
  oN x.sizes jq a g
   (fun i f' hi hc => by
    rw [hb,iP (ltI hi),iP hc,iP (inI hi),tN,pi,bSq,wrs i oM]
    rfl)
   (fun i f' hi hc => by
    rw [hb,iP (ltI hi),iN hc];rfl)
   (fun f' => by
    rw [hb,iN (ep _)];rfl)
 unfold jn
 rw [pi,bSq]
 simp only [pr]
 obtain ⟨z,hz⟩:=j1 (wf f a (sq (jq x.name) (sq (if x.sizes.length>3∨x.eqs.length>60 then 7 else 0) (fsF jq x.sizes))))
 refine ⟨z,?_⟩
 rw [iX,AA,AA] at hz
 by_cases h1:x.sizes.length>3
 ·rw [iP oM,iA _ _ _ _ dM,bSq]
  simp only [pr]
  rw [names _ _ (fun u v w=>rfl),bSq]
  simp only [pr]
  rw [iX,iX,iP trivial]
  rw [iP (Or.inl h1)] at hz
  rw [show (if fJ x.name=true then (0:Int) else 3)=jq x.name from rfl]
  unfold rB
  rw [iP (Or.inl h1)]
  exact hz
 ·have e1:(if decide ((x.eqs.length:Int)>60)=true then (7:Int) else 0)=if x.sizes.length>3∨x.eqs.length>60 then 7 else 0:=by
   refine ifC ?_
   rw [decide_eq_true_eq];omega
  rw [iN oM,iA _ _ _ _ dM,bSq]
  simp only [pr]
  rw [names _ _ (fun u v w=>rfl),bSq]
  simp only [pr]
  rw [iX,iX,e1]
  exact hz
theorem Dx(n:Nat)(hn:8000000<n)(p:az)(hp:wY p):m0 n p=some (lv p):=by
 have e1:(if ((p.nodes.length:Int) == 0)=true then (9:Int) else 0)=if p.nodes.length=0 then 9 else 0:=by
  refine ifC ?_
  rw [beq_iff_eq];omega
 have e2:(if decide ((p.nodes.length:Int)>10)=true then (7:Int) else 0)=if p.nodes.length>10 then 7 else 0:=by
  refine ifC ?_
  rw [decide_eq_true_eq];omega
 unfold m0 lv
 rw [iA _ _ _ _ dM,bSq]
 simp only [pr]
 rw [iA _ _ _ _ dM,bSq,iX,e1,e2]
 simp only [pr]
 generalize hf:wf (aq.mk 0 0) (-1) (sq (if p.nodes.length=0 then 9 else 0) (if p.nodes.length>10 then 7 else 0))=f0
 by_cases h10:p.nodes.length>10
 ·have hc:¬ f0.code=0:=by
   rw [← hf]
   unfold wf sq
   rw [iN (show ¬ p.nodes.length=0 by omega),iP rfl,iP h10]
   decide
  have e:fc n p f0.code f0.at_ (-1) 0 0=some (.inr (f0.code,f0.at_,-1)):=by
   unfold fc
   rw [iP oM,iN hc]
  rw [vD _ _ _ _ hc,iz]
  simp only
  rw [e]
  rfl
 ·have key:∀ (k i b:Nat) (g:aq) (z:Int),i+k=p.nodes.length→b≤8000000 * i→∃ z',dh (fun (x16,x17,x18,x19,x20)=>fc n p x16 x17 x18 x19 x20) (g.code,g.at_,z,(b:Int),(i:Int)) =
    some ((mE b i (p.nodes.drop i) g).code,(mE b i (p.nodes.drop i) g).at_,z'):=by
   intro k
   induction k with
   |zero =>
    intro i b g z hi hb
    obtain rfl:i=p.nodes.length:=by omega
    refine ⟨z,?_⟩
    have e:fc n p g.code g.at_ z b p.nodes.length=some (.inr (g.code,g.at_,z)):=by
     unfold fc
     rw [iN (ep _)]
    rw [iz]
    simp only
    rw [e,List.drop_length]
    rfl
   |succ k ih =>
    intro i b g z hi hb
    have hlt:i<p.nodes.length:=by omega
    by_cases hc:g.code=0
    ·have hm:p.nodes.getD i default∈p.nodes:=by simp [List.getD,hlt]
     have hns:=hp.node hm
     obtain ⟨z1,hz1⟩:=ET n hn _ hns b oM g (-2 - (i:Int))
     have h8:=hns.2.2.2.2.1
     obtain ⟨z',hz⟩:=ih (i+1) (b+(p.nodes.getD i default).eqs.length) (pD b (p.nodes.getD i default).eqs (wf g (-2 - (i:Int)) (rB (p.nodes.getD i default)))) z1 oM oM
     refine ⟨z',?_⟩
     have e:fc n p g.code g.at_ z b i=some (.inl ((pD b (p.nodes.getD i default).eqs (wf g (-2 - (i:Int)) (rB (p.nodes.getD i default)))).code,(pD b (p.nodes.getD i default).eqs (wf g (-2 - (i:Int)) (rB (p.nodes.getD i default)))).at_,z1,((b+(p.nodes.getD i default).eqs.length:Nat):Int),((i+1:Nat):Int))):=by
      unfold fc
      rw [iP (ltI hlt),iP hc,iP (inI hlt),tN,wrs i oM,wr (n:=-2 - (i:Int)) oM oM,wr (n:=(b:Int)+((p.nodes.getD i default).eqs.length:Int)) oM oM,hz1,bSq]
      simp only [Int.natCast_add]
     rw [iz]
     simp only
     rw [e]
     simp only
     rw [hz,qx _ _ hlt]
     rw [mE]
     simp only [Int.natCast_add,Int.natCast_one,Int.cast_ofNat_Int]
    ·refine ⟨z,?_⟩
     have e:fc n p g.code g.at_ z b i=some (.inr (g.code,g.at_,z)):=by
      unfold fc
      rw [iP (ltI hlt),iN hc]
     rw [iz]
     simp only
     rw [e,vD _ _ _ _ hc]
  obtain ⟨z',hz⟩:=key p.nodes.length 0 0 f0 (-1) oM oM
  rw [show ((0:Nat):Int)=0 from rfl,List.drop_zero] at hz
  rw [hz]
  rfl
def kh{T:Type}(F:Nat→T→Ω):Nat→List T→Ω
 |_,[]=>[]
 |i,x :: l=>F i x++kh F (i+1) l
def vc{T:Type}(w:T→Nat):List T→Nat
 |[]=>0
 |x :: l=>w x+vc w l
theorem jY{T:Type}(w:T→Nat)(l:List T):vc w l+1=szL w l:=by
 unfold szL
 induction l with
 |nil=>rfl
 |cons x l ih=>simp only [vc,List.map_cons,List.sum_cons] at *;omega
theorem n8{T:Type}(F:Nat→T→Ω)(w:T→Nat)(l:List T):∀ (i:Nat),(∀ i,∀ x∈l,(F i x).length≤32 * w x)→(kh F i l).length≤32 * vc w l:=by
 induction l with
 |nil=>intro i _;simp [kh]
 |cons x l ih =>
  intro i h
  have h1:=h i x (by simp)
  have h2:=ih (i+1) (fun i y hy=>h i y (by simp [hy]))
  simp only [kh,vc,List.length_append];omega
theorem AB{T:Type}[Inhabited T](l:List T)(F:Nat→T→Ω)(w:T→Nat){body:Ω×Int→Option ((Ω×Int) ⊕ Ω)}(s0:Ω)(M:Nat)
  (hM:s0.length+32 * vc w l≤M) (hw:∀ i,∀ x∈l,(F i x).length≤32 * w x)
  (hb:∀ (i:Nat) (s:Ω),i<l.length→s.length+32 * w (l.getD i default)≤M→body (s,(i:Int))=some (.inl (s++F i (l.getD i default),((i+1:Nat):Int))))
  (he:∀ s,body (s,(l.length:Int))=some (.inr s)):dh body (s0,0)=some (s0++kh F 0 l):=by
 have key:∀ (k i:Nat) (s:Ω),i+k=l.length→s.length+32 * vc w (l.drop i)≤M→dh body (s,(i:Int))=some (s++kh F i (l.drop i)):=by
  intro k
  induction k with
  |zero =>
   intro i s hi _
   obtain rfl:i=l.length:=by omega
   rw [iz,he,List.drop_length]
   simp [kh]
  |succ k ih =>
   intro i s hi hs
   have hlt:i<l.length:=by omega
   have hm:=hw i _ (dJ hlt)
   rw [qx _ _ hlt,vc] at hs
   rw [iz,hb i s hlt oM]
   simp only
   rw [ih (i+1) _ oM (by rw [List.length_append];omega),qx _ _ hlt,kh,List.append_assoc]
 exact key l.length 0 s0 oM hM
theorem uA{T U:Type}[Inhabited T](l:List T)(F:T→U){body:List U×Int→Option ((List U×Int) ⊕ List U)}
  (hb:∀ (i:Nat) (s:List U),i<l.length→s.length=i→body (s,(i:Int))=some (.inl (s++[F (l.getD i default)],((i+1:Nat):Int))))
  (he:∀ s,body (s,(l.length:Int))=some (.inr s)):dh body ([],0)=some (l.map F):=by
 have key:∀ (k i:Nat) (s:List U),i+k=l.length→s.length=i→dh body (s,(i:Int))=some (s++(l.drop i).map F):=by
  intro k
  induction k with
  |zero =>
   intro i s hi _
   obtain rfl:i=l.length:=by omega
   rw [iz,he,List.drop_length]
   simp
  |succ k ih =>
   intro i s hi hs
   have hlt:i<l.length:=by omega
   rw [iz,hb i s hlt hs]
   simp only
   rw [ih (i+1) _ oM (by simp [hs]),qx _ _ hlt]
   simp
 have:=key l.length 0 [] oM rfl
 simpa using this
def EU{T:Type}(F:T→Ω)(i:Nat)(x:T):Ω:=(if 0<i then [44,32] else [])++F x
def com(l:List Ω):Ω:=Go.Lib.join l [44,32]
theorem EV{T:Type}(F:T→Ω)(l:List T):∀ i,kh (EU F) (i+1) l=Go.Lib.joinTail [44,32] (l.map F):=by
 induction l with
 |nil=>intro i;rfl
 |cons x l ih=>intro i;rw [kh,ih];simp [EU,Go.Lib.joinTail]
theorem EW{T:Type}(F:T→Ω)(l:List T):kh (EU F) 0 l=com (l.map F):=by
 cases l with
 |nil=>rfl
 |cons x l =>
  rw [kh,EV,com,List.map_cons,Go.Lib.join_cons];rfl
theorem EY{T:Type}{F:T→Ω}{w:Nat}{x:T}(h:(F x).length+2≤w)(i:Nat):(EU F i x).length≤w:=by
 unfold EU
 split<;>simp<;>omega
theorem rh{T:Type}(F:T→Ω)(w:T→Nat)(l:List T)(h:∀ x∈l,(F x).length+2≤32 * w x):(com (l.map F)).length≤32 * vc w l:=by
 rw [← EW]
 exact n8 _ _ _ _ (fun i x hx=>EY (h x hx) i)
def kF(s:List ag):Ω:=fI true (s.map fun t=>(t.n,t.name))
theorem CE(n:Int)(h0:-9223372036854775808≤n)(h1:n≤9223372036854775807):(Go.Lib.itoa n).length≤21:=Go.Lib.itoa_length_le n h0 h1
theorem AC(n:Int)(w:Ω)(h0:-9223372036854775808≤n)(h1:n≤9223372036854775807):(jR n w).length≤22+w.length:=by
 have:=CE n h0 h1
 unfold jR
 split
 ·omega
 ·split
  ·omega
  ·simp;omega
def w8(t:ag):Prop:=-1000000000000000000<t.n∧t.n<1000000000000000000
theorem Dy(f:Bool)(t:ag)(h:w8 t):(lz f t.n t.name).length+2≤32 * t.sz:=by
 obtain ⟨h0,h1⟩:=h
 have hz:t.sz=t.name.length+3:=by unfold ag.sz szI szS;omega
 have k1:=AC (-t.n) t.name oM oM
 have k2:=AC t.n t.name oM oM
 unfold lz
 split<;>cases f<;>simp only [List.length_append,List.length_cons,List.length_nil,if_true,if_false,Bool.false_eq_true]<;>omega
theorem BG(l:List ag):∀ i,fI (i == 0) (l.map fun t=>(t.n,t.name))=kh (fun i t=>lz (i == 0) t.n t.name) i l:=by
 induction l with
 |nil=>intro i;rfl
 |cons t l ih =>
  intro i
  rw [List.map_cons,fI,kh,← ih (i+1)]
  rfl
theorem Dz(s:List ag):kF s=kh (fun i t=>lz (i == 0) t.n t.name) 0 s:=BG s 0
theorem oO(s:List ag)(h:∀ t∈s,w8 t):(kF s).length+32≤32 * szL ag.sz s:=by
 rw [Dz]
 have:=n8 (fun i t=>lz (i == 0) t.n t.name) ag.sz s 0 (fun i t ht=>by have:=Dy (i == 0) t (h t ht);omega)
 have:=jY ag.sz s
 omega
theorem w9(s:List ag)(h:∀ t∈s,w8 t)(hs:szL ag.sz s≤1048576):mJ s=some (kF s):=by
 have h1:=oO s h
 have h2:=ip ag.sz_pos s
 unfold mJ
 rw [iP ⟨by omega,fun t ht=>⟨by have:=(h t ht).1;omega,by have:=(h t ht).2;omega⟩,by
  show (kF s).length≤_
  omega⟩]
 rfl
theorem JS(n:Int)(h0:-9223372036854775808≤n)(h1:n≤9223372036854775807):jS n 10=some (Go.Lib.itoa n):=by
 unfold jS
 rw [iP ⟨rfl,h0,h1⟩]
theorem pO{T:Type}{F:T→Int}{l:List T}(h:fsF F l=0):∀ x∈l,F x=0:=by
 induction l with
 |nil=>intro x hx;simp at hx
 |cons a l ih =>
  have h':sq (F a) (fsF F l)=0:=h
  unfold sq at h'
  by_cases ha:F a=0
  ·rw [iP ha] at h'
   intro x hx
   rcases List.mem_cons.1 hx with rfl|hx
   ·exact ha
   ·exact ih h' x hx
  ·rw [iN ha] at h';exact absurd h' ha
theorem gN{a b:Int}(h:sq a b=0):a=0∧b=0:=by
 unfold sq at h
 by_cases ha:a=0
 ·rw [iP ha] at h;exact ⟨ha,h⟩
 ·rw [iN ha] at h;exact absurd h ha
theorem vU{s:List ag}(h:gn s=0):∀ t∈s,w8 t:=by
 unfold gn at h
 split at h
 ·omega
 ·split at h
  ·omega
  ·intro t ht
   have:=pO h t ht
   unfold oB at this
   split at this
   ·omega
   ·rename_i k;exact ⟨by omega,by omega⟩
def sm(d:aw):Prop:=∀ t∈d.t.n,w8 t
theorem Gm{d:aw}(h:ku d=0):sm d:=by
 obtain ⟨_,h1⟩:=gN h
 obtain ⟨_,h2⟩:=gN h1
 split at h2
 ·exact vU h2
 ·intro t ht
  have:=List.length_pos_of_mem ht
  omega
theorem xa{l:List aw}(h:ke l=0):∀ d∈l,sm d:=by
 unfold ke at h
 split at h
 ·omega
 ·intro d hd;exact Gm (pO h d hd)
theorem EZ(w:Ω):w.length+2≤32 * szS w:=by unfold szS;omega
theorem sn(l:List Ω):(com l).length+32≤32 * szL szS l:=by
 have h1:=rh (F:=id) szS l (fun x _=>EZ x)
 have h2:=jY szS l
 rw [List.map_id] at h1
 omega
theorem AD{l:List Ω}(h:l.length≤1048576)(h2:(com l).length≤140737488355328):ig l ([44,32]:Ω)=some (com l):=by
 unfold ig
 rw [iP ⟨h,h2⟩];rfl
theorem E5(l:List Ω)(h:szL szS l≤1048576):ig l ([44,32]:Ω)=some (com l):=by
 have h1:=sn l
 have h2:=ip zn l
 exact AD oM oM
def AE(t:gu):Ω:=(if t.elem=98 then [98,111,111,108] else [105,110,116])++(if t.n.length>0 then 94 :: kF t.n else [])
def kZ(d:aw):Ω:=d.name++([58,32]++AE d.t)
theorem yw(d:aw)(h:sm d):(kZ d).length+2≤32 * d.sz:=by
 have h1:=oO d.t.n h
 have h2:d.sz=szS d.name+(szI d.t.elem+szL ag.sz d.t.n+1)+1:=by unfold aw.sz gu.sz;omega
 unfold szS szI at h2
 unfold kZ AE
 split<;>split<;>simp only [List.length_append,List.length_cons,List.length_nil]<;>omega
theorem zo(d:aw):d.sz=szS d.name+(szI d.t.elem+szL ag.sz d.t.n+1)+1:=by unfold aw.sz gu.sz;omega
theorem xb(d:aw)(h:sm d)(hs:d.sz≤1048576):lE d=some (kZ d):=by
 have h1:=oO d.t.n h
 have h2:=zo d
 unfold szS szI at h2
 have j1:∀ s:Ω,s.length≤10→j9 d.t s=some (s++(if d.t.n.length>0 then 94 :: kF d.t.n else [])):=by
  intro s hsl
  unfold j9
  by_cases h0:d.t.n.length>0
  ·rw [iP oM,iP h0,w9 _ h oM,bSq,iP (by unfold maxLen;omega)];rfl
  ·rw [iN oM,iN h0,List.append_nil]
 have ht:o8 d.t=some (AE d.t):=by
  unfold o8 AE
  by_cases h9:d.t.elem=98
  ·rw [iP h9,iP h9,j1 _ dM]
  ·rw [iN h9,iN h9,j1 _ dM]
 have hl:=yw d h
 unfold kZ at hl ⊢
 simp only [List.length_append,List.length_cons,List.length_nil] at hl
 unfold lE maxLen
 rw [iP oM,ht,bSq,iP oM,List.append_assoc]
theorem so(l:List aw)(h:∀ d∈l,sm d):(com (l.map kZ)).length+32≤32 * szL aw.sz l:=by
 have h1:=rh (F:=kZ) aw.sz l (fun x hx=>yw x (h x hx))
 have h2:=jY aw.sz l
 omega
theorem vE(l:List aw)(h:∀ d∈l,sm d)(hs:szL aw.sz l≤1048576):gV l=some (com (l.map kZ)):=by
 have h1:=so l h
 have h2:=ip aw.sz_pos l
 unfold gV
 rw [uA l kZ (fun i s hi hsl=>by
  have hm:=kJ (f:=aw.sz) (dJ hi)
  show fe l s i=_
  unfold fe
  rw [iP (ltI hi),iP (inI hi),tN,xb _ (h _ (dJ hi)) oM,bSq,iP (CA oM oM),wrs i oM]
  rfl) (fun s=>by
  show fe l s l.length=_
  unfold fe
  rw [iN (ep _)]),bSq]
 unfold gj
 rw [AD (by rw [List.length_map];omega) oM]
 rfl
def vd(l:List (List ag)):Prop:=∀ s∈l,∀ t∈s,w8 t
theorem BH{l:List (List ag)}(h:vd l):∀ s∈l,(kF s).length+2≤32 * szL ag.sz s:=fun s hs=>by
 have:=oO s (h s hs);omega
theorem uB(l:List (List ag))(h:vd l):(com (l.map kF)).length+32≤32 * szL (szL ag.sz) l:=by
 have h1:=rh (F:=kF) (szL ag.sz) l (BH h)
 have h2:=jY (szL ag.sz) l
 omega
theorem vF(l:List (List ag))(h:vd l)(hs:szL (szL ag.sz) l≤1048576):gW l=some (com (l.map kF)):=by
 have h1:=uB l h
 have h2:=ip Ax l
 unfold gW
 rw [uA l kF (fun i s hi hsl=>by
  have hm:=kJ (f:=szL ag.sz) (dJ hi)
  show ff l s i=_
  unfold ff
  rw [iP (ltI hi),iP (inI hi),tN,w9 _ (h _ (dJ hi)) oM,bSq,iP (CA oM oM),wrs i oM]
  rfl) (fun s=>by
  show ff l s l.length=_
  unfold ff
  rw [iN (ep _)]),bSq]
 unfold gk
 rw [AD (by rw [List.length_map];omega) oM]
 rfl
def nc:List Int:=[0,4,4,5,5,5,0,0,3,3,2,1,1]
def xd:List Ω:=[[],[97,100,100],[115,117,98],[109,117,108],[100,105,118],[109,111,100],[109,105,110],[109,97,120],[108,101,115,115],[101,113],[97,110,100],[111,114],[120,111,114],[110,101,103],[110,111,116]]
def sr:List Ω:=[[],[43],[45],[42],[47],[37],[],[],[60],[61,61],[97,110,100],[111,114],[120,111,114]]
def zp:List Ω:=[[109,97,112],[102,111,108,100],[115,99,97,110],[102,105,108,108],[],[119,105,116,104],[115,108,105,99,101],[99,97,116],[112,114,101]]
def lb(k:Int):Ω:=xd.getD k.toNat []
def n9(k:Int):Ω:=sr.getD k.toNat []
def lV(op:Int):Ω:=zp.getD (op - 7).toNat []
def rkE(x:ae):Int:=if x.op=6 then 0 else if x.op=4 then 6 else if x.op=5 then (if x.k=6∨x.k=7 then 7 else nc.getD x.k.toNat 0) else 7
def paT(r m:Int)(t:Ω):Ω:=if r<m then 40 :: (t++[41]) else t
def atT(T:ae→Ω)(x:ae)(m:Int):Ω:=paT (rkE x) m (T x)
def pq(l:List (List ag)):Ω:=kh (fun _ s=>44 :: 32 :: kF s) 0 l
def pP(T:ae→Ω)(x:ae):Ω :=
 (if x.op=5 then lb x.k else lV x.op)++(40 :: ((if x.op=7∨x.op=8∨x.op=9 then lb x.k++[44,32] else [])++(com (x.l.map T)++(pq x.s++[41]))))
def exB(T:ae→Ω)(x:ae):Ω :=
 if x.op=1 then Go.Lib.itoa x.n else if x.op=2 then (if x.n=1 then [116,114,117,101] else [102,97,108,115,101]) else if x.op=3 then x.name
 else if x.op=4 then (if x.k=13 then [45] else [110,111,116,32])++atT T (x.l.getD 0 default) 6
 else if x.op=6 then [105,102,32]++(T (x.l.getD 0 default)++([32,116,104,101,110,32]++(T (x.l.getD 1 default)++([32,101,108,115,101,32]++T (x.l.getD 2 default)))))
 else if x.op=11 then atT T (x.l.getD 0 default) 7++([91]++(T (x.l.getD 1 default)++([32,58,32]++(T (x.l.getD 2 default)++[93]))))
 else if x.op=5∧rkE x<7 then atT T (x.l.getD 0 default) (if rkE x=3 then 4 else rkE x)++([32]++(n9 x.k++([32]++atT T (x.l.getD 1 default) (rkE x+1))))
 else pP T x
def exT:Nat→ae→Ω
 |0=>fun _=>[]
 |n+1=>exB (exT n)
theorem yx(k:Int):(lb k).length≤4:=by
 have:∀ i:Nat,i<15→(xd.getD i []).length≤4:=by decide
 unfold lb
 by_cases h:k.toNat<15
 ·exact this _ h
 ·rw [List.getD_eq_getElem?_getD,List.getElem?_eq_none (by simp [xd];omega)];simp
theorem yy(k:Int):(n9 k).length≤4:=by
 have:∀ i:Nat,i<13→(sr.getD i []).length≤4:=by decide
 unfold n9
 by_cases h:k.toNat<13
 ·exact this _ h
 ·rw [List.getD_eq_getElem?_getD,List.getElem?_eq_none (by simp [sr];omega)];simp
theorem yz(k:Int):(lV k).length≤5:=by
 have:∀ i:Nat,i<9→(zp.getD i []).length≤5:=by decide
 unfold lV
 by_cases h:(k - 7).toNat<9
 ·exact this _ h
 ·rw [List.getD_eq_getElem?_getD,List.getElem?_eq_none (by simp [zp];omega)];simp
theorem CF(r m:Int)(t:Ω):(paT r m t).length≤t.length+2:=by
 unfold paT;split<;>simp
theorem it{op k n:Int}{name:Ω}{ns nl:Nat}(h:jX op k n name ns nl):(1≤op∧op≤15)∧(op=4→nl=1∧(k=13∨k=14))∧(op=5→nl=2∧1≤k∧k≤12)∧(op=6∨op=11→nl=3)∧(op=7∨op=8∨op=9→1≤k∧k≤14)∧(op=2→n=0∨n=1)∧(op=5→ns=0):=by
 obtain ⟨h1,h2,h3,h4,h5,h6,h7⟩:=h
 unfold nL at h1 h2 h3 h4
 split at h1
 ·rename_i c;simp only [c,if_true] at h2 h3 h4;omega
 rename_i c1
 split at h1
 ·rename_i c;subst c;simp at h2 h3 h4;omega
 rename_i c2
 split at h1
 ·rename_i c;subst c;simp at h2 h3 h4;omega
 rename_i c3
 split at h1
 ·rename_i c;simp only [c1,c2,c3,c,if_true,if_false] at h2 h3 h4;omega
 rename_i c4
 split at h1
 ·rename_i c;subst c;simp at h2 h3 h4;omega
 rename_i c5
 split at h1
 ·rename_i c;simp only [c1,c2,c3,c4,c5,c,if_true,if_false] at h2 h3 h4;omega
 rename_i c6
 split at h1
 ·rename_i c;subst c;simp at h2 h3 h4;omega
 rename_i c7
 split at h1
 ·rename_i c;subst c;simp at h2 h3 h4;omega
 rename_i c8
 split at h1
 ·rename_i c;simp only [c1,c2,c3,c4,c5,c6,c7,c8,c,if_true,if_false] at h2 h3 h4;omega
 ·exact absurd h1 dM
structure EOk (x:ae):Prop where
 form:jX x.op x.k x.n x.name x.s.length x.l.length
 num:0≤x.n∧x.n<1000000000000000000
 sizes:vd x.s
 parts:∀ y∈x.l,exF y=0
theorem eok{x:ae}(h:exF x=0):EOk x:=by
 rw [u9] at h
 obtain ⟨h1,h2⟩:=gN h
 obtain ⟨h3,h4⟩:=gN h2
 obtain ⟨h5,h6⟩:=gN h4
 obtain ⟨h7,h8⟩:=gN h6
 refine ⟨?_,?_,fun s hs=>vU (pO h7 s hs),pO h8⟩
 ·split at h1
  ·assumption
  ·omega
 ·split at h5
  ·omega
  ·omega
theorem Gn{T:Type}{l:List T}(h:l.length=1):∃ a,l=[a]:=by
 match l,h with
 |[a],_=>exact ⟨a,rfl⟩
theorem Jk{T:Type}{l:List T}(h:l.length=2):∃ a b,l=[a,b]:=by
 match l,h with
 |[a,b],_=>exact ⟨a,b,rfl⟩
theorem Gp{T:Type}{l:List T}(h:l.length=3):∃ a b c,l=[a,b,c]:=by
 match l,h with
 |[a,b,c],_=>exact ⟨a,b,c,rfl⟩
theorem xe(l:List (List ag))(h:vd l):(pq l).length+32≤32 * szL (szL ag.sz) l:=by
 have h1:=n8 (fun _ s=>44 :: 32 :: kF s) (szL ag.sz) l 0 (fun i s hs=>by have:=oO s (h s hs);simp only [List.length_cons];omega)
 have h2:=jY (szL ag.sz) l
 unfold pq
 omega
theorem nP(x:ae):x.sz=x.name.length+szL (szL ag.sz) x.s+(ae.szs x.l+1)+5:=by
 have h1:=ae.sz_eq x
 have h2:=ae.szs_eq x.l
 unfold szI szS at h1
 omega
theorem ri:∀ (n:Nat) (x:ae),exF x=0→(exT n x).length+4≤32 * x.sz
 |0,x,_=>by
  have:=ae.sz_pos x
  show 0+4≤_
  omega
 |n+1,x,h=>by
  have ok:=eok h
  obtain ⟨f0,f4,f5,f6,f7,f2,fs⟩:=it ok.form
  have hz:=nP x
  have ih:∀ y∈x.l,(exT n y).length+4≤32 * y.sz:=fun y hy=>ri n y (ok.parts y hy)
  have hs:=xe x.s ok.sizes
  have hc:(com (x.l.map (exT n))).length≤32 * ae.szs x.l:=by
   have h1:=rh (F:=exT n) ae.sz x.l (fun y hy=>by have:=ih y hy;omega)
   have h2:=jY ae.sz x.l
   have h3:=ae.szs_eq x.l
   omega
  have at_:∀ y∈x.l,∀ m,(atT (exT n) y m).length+2≤32 * y.sz:=fun y hy m=>by
   have h1:=ih y hy
   have h2:=CF (rkE y) m (exT n y)
   unfold atT
   omega
  show (exB (exT n) x).length+4≤_
  unfold exB
  split
  ·have:=CE x.n (by have:=ok.num;omega) (by have:=ok.num;omega);omega
  split
  ·split<;>simp only [List.length_cons,List.length_nil]<;>omega
  split
  ·omega
  split
  ·rename_i c
   obtain ⟨a,ha⟩:=Gn (f4 c).1
   have h1:=at_ a (by simp [ha]) 6
   have h2:ae.szs x.l=a.sz:=by rw [ha];simp [ae.szs]
   rw [ha]
   show (_++atT (exT n) a 6).length+4≤_
   split<;>simp only [List.length_append,List.length_cons,List.length_nil]<;>omega
  split
  ·rename_i c
   obtain ⟨a,b,d,ha⟩:=Gp (f6 (Or.inl c))
   have h1:=ih a (by simp [ha])
   have h3:=ih b (by simp [ha])
   have h4:=ih d (by simp [ha])
   have h2:ae.szs x.l=a.sz+(b.sz+d.sz):=by rw [ha];simp [ae.szs]
   rw [ha]
   show ([105,102,32]++(exT n a++([32,116,104,101,110,32]++(exT n b++([32,101,108,115,101,32]++exT n d))))).length+4≤_
   simp only [List.length_append,List.length_cons,List.length_nil]
   omega
  split
  ·rename_i c
   obtain ⟨a,b,d,ha⟩:=Gp (f6 (Or.inr c))
   have h1:=at_ a (by simp [ha]) 7
   have h3:=ih b (by simp [ha])
   have h4:=ih d (by simp [ha])
   have h2:ae.szs x.l=a.sz+(b.sz+d.sz):=by rw [ha];simp [ae.szs]
   rw [ha]
   show (atT (exT n) a 7++([91]++(exT n b++([32,58,32]++(exT n d++[93]))))).length+4≤_
   simp only [List.length_append,List.length_cons,List.length_nil]
   omega
  split
  ·rename_i c
   obtain ⟨a,b,ha⟩:=Jk (f5 c.1).1
   have h1:=at_ a (by simp [ha]) (if rkE x=3 then 4 else rkE x)
   have h3:=at_ b (by simp [ha]) (rkE x+1)
   have h2:ae.szs x.l=a.sz+b.sz:=by rw [ha];simp [ae.szs]
   have h5:=yy x.k
   have e0:x.l.getD 0 default=a:=by rw [ha];rfl
   have e1:x.l.getD 1 default=b:=by rw [ha];rfl
   rw [e0,e1]
   simp only [List.length_append,List.length_cons,List.length_nil]
   omega
  ·have h1:=yx x.k
   have h2:=yz x.op
   unfold pP
   split<;>split<;>simp only [List.length_append,List.length_cons,List.length_nil]<;>omega
theorem CG(x:ae)(h:x.op=5→1≤x.k∧x.k≤12):mK x=some (rkE x):=by
 unfold mK rkE
 by_cases h6:x.op=6
 ·rw [iP h6,iP h6]
 rw [iN h6,iN h6]
 by_cases h4:x.op=4
 ·rw [iP h4,iP h4]
 rw [iN h4,iN h4]
 by_cases h5:x.op=5
 ·rw [iN (fun k=>k h5),iP h5]
  have:=h h5
  by_cases k6:x.k=6
  ·rw [iP k6,iP (Or.inl k6)]
  rw [iN k6]
  by_cases k7:x.k=7
  ·rw [iP k7,iP (Or.inr k7)]
  rw [iN k7,iP ⟨by omega,by omega⟩,iN oM]
  rfl
 ·rw [iP h5,iN h5]
theorem qz(x:ae):rkE x≤7∧0≤rkE x:=by
 have key:∀ i:Nat,i<13→nc.getD i 0≤7∧0≤nc.getD i 0:=by decide
 unfold rkE
 split
 ·omega
 split
 ·omega
 split
 ·split
  ·omega
  ·by_cases h:x.k.toNat<13
   ·exact key _ h
   ·rw [List.getD_eq_getElem?_getD,List.getElem?_eq_none (by simp [nc];omega)];simp
 ·omega
theorem rC{T:Type}[Inhabited T]{l:List T}(h:0<l.length):l.getD 0 default∈l:=dJ h
theorem ss(l:List (List ag)):∀ i,kh (fun _ s=>44 :: 32 :: kF s) i l=Go.Lib.joinTail [44,32] (l.map kF):=by
 induction l with
 |nil=>intro i;rfl
 |cons x l ih=>intro i;rw [kh,ih];simp [Go.Lib.joinTail]
theorem BI(l:List (List ag))(h:0<l.length):pq l=44 :: 32 :: com (l.map kF):=by
 cases l with
 |nil=>simp at h
 |cons s l =>
  unfold pq com
  rw [kh,ss,List.map_cons,Go.Lib.join_cons]
  rfl
theorem xf:∀ (n:Nat) (x:ae),exF x=0→x.sz<n→x.sz≤1048576→eW n x=some (exT n x)
 |0,_,_,h,_=>by omega
 |n+1,x,h,hn,hs=>by
  have ok:=eok h
  obtain ⟨f0,f4,f5,f6,f7,f2,fs⟩:=it ok.form
  have hz:=nP x
  have hnum:=ok.num
  have ih:∀ y∈x.l,eW n y=some (exT n y)∧(exT n y).length≤40000000∧y.sz≤ae.szs x.l:=fun y hy=>by
   have h1:=ju hy
   have h2:=ri n y (ok.parts y hy)
   exact ⟨xf n y (ok.parts y hy) oM oM,by omega,h1⟩
  have at_:∀ y∈x.l,∀ m,mL (eW n) y m=some (atT (exT n) y m)∧(atT (exT n) y m).length≤40000002:=fun y hy m=>by
   obtain ⟨i1,i2,i3⟩:=ih y hy
   have hp:=CF (rkE y) m (exT n y)
   refine ⟨?_,by unfold atT;omega⟩
   unfold mL
   rw [i1,bSq,CG y (fun c=>((it (eok (ok.parts y hy)).form).2.2.1 c).2),bSq]
   unfold atT paT
   by_cases c:rkE y<m
   ·rw [iP c,iP c,iP (by unfold maxLen;omega)];rfl
   ·rw [iN c,iN c]
  have called:x.op=5∨x.op=7∨x.op=8∨x.op=9∨x.op=10∨x.op=12∨x.op=13∨x.op=14∨x.op=15→ml (eW n) x=some (pP (exT n) x):=by
   intro hop
   have hl:=sU x.l
   have hlist:iE (eW n) x.l=some (com (x.l.map (exT n))):=by
    have hc:(com (x.l.map (exT n))).length≤32 * ae.szs x.l:=by
     have h1:=rh (F:=exT n) ae.sz x.l (fun y hy=>by have:=ri n y (ok.parts y hy);omega)
     have h2:=jY ae.sz x.l
     have h3:=ae.szs_eq x.l
     omega
    unfold iE
    rw [uA x.l (exT n) (fun i s hi hsl=>by
     show fg (eW n) x.l s i=_
     unfold fg
     rw [iP (ltI hi),iP (inI hi),tN,(ih _ (dJ hi)).1,bSq,iP (CA oM oM),wrs i oM]
     rfl) (fun s=>by
     show fg (eW n) x.l s x.l.length=_
     unfold fg
     rw [iN (ep _)]),bSq]
    unfold gm
    rw [AD (by rw [List.length_map];omega) oM]
    rfl
   have hc:(com (x.l.map (exT n))).length≤32 * ae.szs x.l:=by
    have h1:=rh (F:=exT n) ae.sz x.l (fun y hy=>by have:=ri n y (ok.parts y hy);omega)
    have h2:=jY ae.sz x.l
    have h3:=ae.szs_eq x.l
    omega
   have hsz:=xe x.s ok.sizes
   have hcs:=uB x.s ok.sizes
   have ho:kU x.k=if 0≤x.k∧x.k<15 then some (lb x.k) else none:=rfl
   have hol:=yx x.k
   have hcl:=yz x.op
   have j1:∀ s:Ω,s.length≤100000000→s=com (x.l.map (exT n))++pq x.s→ix x s=some (pP (exT n) x):=by
    intro s hsl hse
    unfold ix pP
    by_cases c5:x.op=5
    ·have:=(f5 c5).2
     rw [iP c5,ho,iP ⟨by omega,by omega⟩,bSq,iP (by unfold maxLen;omega),iP c5,iN oM,hse]
     simp
    rw [iN c5,iN c5]
    have j2:∀ z:Ω,z.length≤200000000→iw x z=some (lV x.op++(40 :: (z++[41]))):=by
     intro z hzl
     unfold iw
     rw [wr (n:=x.op - 7) oM oM,iP ⟨by omega,by omega⟩]
     show (if (lV x.op).length+1≤maxLen∧(lV x.op).length+1+z.length≤maxLen∧((lV x.op).length+1)+z.length+1≤maxLen then (some (((lV x.op++([40]:Ω))++z)++([41]:Ω))) else none)=_
     rw [iP (by unfold maxLen;omega)]
     simp
    have j3:∀ b:Bool,(b=true↔(x.op=7∨x.op=8∨x.op=9))→gX x s b=some (lV x.op++(40 :: ((if x.op=7∨x.op=8∨x.op=9 then lb x.k++[44,32] else [])++(com (x.l.map (exT n))++(pq x.s++[41]))))):=by
     intro b hb
     unfold gX
     by_cases c:x.op=7∨x.op=8∨x.op=9
     ·have:=f7 c
      rw [iP (hb.2 c),iP c,ho,iP ⟨by omega,by omega⟩,bSq,iP (by unfold maxLen;omega),j2 _ (by simp only [List.length_append,List.length_cons,List.length_nil];omega),hse]
      simp
     ·rw [iN (fun k=>c (hb.1 k)),iN c,j2 _ oM,hse]
      simp
    by_cases c7:x.op=7
    ·rw [iP c7];exact j3 _ (by simp [c7])
    rw [iN c7]
    by_cases c8:x.op=8
    ·rw [iP c8];exact j3 _ (by simp [c8])
    ·rw [iN c8];exact j3 _ (by rw [beq_iff_eq];omega)
   unfold ml
   rw [hlist,bSq]
   by_cases c:x.s.length>0
   ·rw [iP oM,vF x.s ok.sizes oM,bSq,iP (by unfold maxLen;omega)]
    exact j1 _ (by simp only [List.length_append,List.length_cons,List.length_nil];omega) (by rw [BI _ c];rfl)
   ·rw [iN oM]
    have:x.s=[]:=List.length_eq_zero_iff.1 oM
    exact j1 _ oM (by rw [this];exact (List.append_nil _).symm)
  show mm (eW n) x=some (exB (exT n) x)
  unfold mm exB
  rw [CG x (fun c=>(f5 c).2),bSq]
  by_cases c1:x.op=1
  ·rw [iP c1,iP c1,JS _ oM oM];rfl
  rw [iN c1,iN c1]
  by_cases c2:x.op=2
  ·rw [iP c2,iP c2]
   unfold kL hI
   by_cases c:x.n=1
   ·rw [iP (by simp [c]),iP c];rfl
   ·rw [iN (by simp [c]),iN c];rfl
  rw [iN c2,iN c2]
  by_cases c3:x.op=3
  ·rw [iP c3,iP c3]
  rw [iN c3,iN c3]
  by_cases c4:x.op=4
  ·have hl:=(f4 c4).1
   obtain ⟨a1,a2⟩:=at_ _ (rC (show 0<x.l.length by omega)) 6
   have hr:rkE x=6:=by unfold rkE;rw [iN oM,iP c4]
   rw [iP c4,iP c4,wr (n:=x.k - 13) oM oM,iP ⟨by omega,by omega⟩,iP ⟨by omega,by omega⟩,hr,a1,bSq]
   rcases (f4 c4).2 with k|k
   ·rw [k]
    show (if 1+(atT (exT n) (x.l.getD 0 default) 6).length≤maxLen then some ([45]++atT (exT n) (x.l.getD 0 default) 6) else none)=_
    rw [iP (by unfold maxLen;omega),iP rfl]
   ·rw [k]
    show (if 4+(atT (exT n) (x.l.getD 0 default) 6).length≤maxLen then some ([110,111,116,32]++atT (exT n) (x.l.getD 0 default) 6) else none)=_
    rw [iP (by unfold maxLen;omega),iN dM]
  rw [iN c4,iN c4]
  by_cases c6:x.op=6
  ·have hl:=f6 (Or.inl c6)
   obtain ⟨a1,a2,_⟩:=ih _ (rC (show 0<x.l.length by omega))
   obtain ⟨b1,b2,_⟩:=ih _ (dJ (show 1<x.l.length by omega))
   obtain ⟨d1,d2,_⟩:=ih _ (dJ (show 2<x.l.length by omega))
   rw [iP c6,iP c6,iP ⟨by omega,by omega⟩,a1,bSq,iP ⟨by unfold maxLen;omega,by unfold maxLen;omega,by omega,by omega⟩,b1,bSq,iP ⟨by unfold maxLen;omega,by unfold maxLen;omega,by omega,by omega⟩,d1,bSq,iP (by unfold maxLen;omega)]
   simp
  rw [iN c6,iN c6]
  by_cases c11:x.op=11
  ·have hl:=f6 (Or.inr c11)
   obtain ⟨a1,a2⟩:=at_ _ (rC (show 0<x.l.length by omega)) 7
   obtain ⟨b1,b2,_⟩:=ih _ (dJ (show 1<x.l.length by omega))
   obtain ⟨d1,d2,_⟩:=ih _ (dJ (show 2<x.l.length by omega))
   have hr:rkE x=7:=by unfold rkE;rw [iN oM,iN oM,iN oM]
   rw [iP c11,iP c11,hr,iP ⟨by omega,by omega⟩,a1,bSq,iP ⟨by unfold maxLen;omega,by omega,by omega⟩,b1,bSq,iP ⟨by unfold maxLen;omega,by unfold maxLen;omega,by omega,by omega⟩,d1,bSq,iP (by unfold maxLen;omega)]
   simp
  rw [iN c11,iN c11]
  have j1:∀ (hop:x.op=5∨x.op=7∨x.op=8∨x.op=9∨x.op=10∨x.op=12∨x.op=13∨x.op=14∨x.op=15),jh (eW n) x=some (pP (exT n) x):=fun hop=>by
   unfold jh
   rw [called hop];rfl
  by_cases c5:x.op=5
  ·rw [iP c5]
   have hb:=qz x
   by_cases c7:rkE x=7
   ·rw [iP c7,iN oM];exact j1 (Or.inl c5)
   ·have hl:=(f5 c5).1
    have hk:=(f5 c5).2
    have hsl:=yy x.k
    have hsg:nY x.k=some (n9 x.k):=by unfold nY;rw [iP ⟨by omega,by omega⟩];rfl
    rw [iN c7,iP (show x.op=5∧rkE x<7 from ⟨c5,by omega⟩)]
    have j2:∀ m,ji (eW n) x (rkE x) m=some (atT (exT n) (x.l.getD 0 default) m++([32]++(n9 x.k++([32]++atT (exT n) (x.l.getD 1 default) (rkE x+1))))):=by
     intro m
     obtain ⟨a1,a2⟩:=at_ _ (rC (show 0<x.l.length by omega)) m
     obtain ⟨b1,b2⟩:=at_ _ (dJ (show 1<x.l.length by omega)) (rkE x+1)
     unfold ji
     rw [iP ⟨by omega,by omega⟩,a1,bSq,iP (by unfold maxLen;omega),hsg,bSq,iP ⟨by unfold maxLen;omega,by unfold maxLen;omega,by omega,by omega⟩,wr (n:=rkE x+1) oM oM,b1,bSq,iP (by unfold maxLen;omega)]
     simp
    by_cases c3':rkE x=3
    ·rw [iP c3',iP c3',wr (n:=rkE x+1) oM oM,j2,c3'];rfl
    ·rw [iN c3',iN c3',j2]
  ·rw [iN c5,iN (fun k=>c5 k.1)]
   exact j1 oM
end Pam
namespace Pam
open Go
theorem E6{q:TEq}(h:eqF q=0):(q.node=[]→q.names.length=1∧q.e.length=1∧q.s.length=0)∧vd q.s∧∀ y∈q.e,exF y=0:=by
 obtain ⟨h1,h2⟩:=gN h
 obtain ⟨h3,h4⟩:=gN h2
 obtain ⟨h5,h6⟩:=gN h4
 obtain ⟨h7,h8⟩:=gN h6
 obtain ⟨h9,h10⟩:=gN h8
 refine ⟨fun c=>?_,fun s hs=>vU (pO h9 s hs),fun y hy=>(gN (pO h10 y hy)).2⟩
 split at h1
 ·omega
 ·rename_i k
  by_cases g:q.names.length=1∧q.e.length=1∧q.s.length=0
  ·exact g
  ·exact absurd (Or.inr ⟨c,g⟩) k
def eqT(n:Nat)(q:TEq):Ω :=
 com q.names++([32,61,32]++(if q.node=[] then exT n (q.e.getD 0 default) else [99,97,108,108,32]++(q.node++((if q.s.length>0 then 60 :: (com (q.s.map kF)++[62]) else [])++(40 :: (com (q.e.map (exT n))++[41]))))))
theorem AF(q:TEq):q.sz=1+szL szS q.names+(q.node.length+1)+szL (szL ag.sz) q.s+szL ae.sz q.e+1:=by unfold TEq.sz szI;rw [show szS q.node=q.node.length+1 from rfl]
theorem AG(n:Nat)(l:List ae)(h:∀ y∈l,exF y=0):(com (l.map (exT n))).length+32≤32 * szL ae.sz l:=by
 have h1:=rh (F:=exT n) ae.sz l (fun y hy=>by have:=ri n y (h y hy);omega)
 have h2:=jY ae.sz l
 omega
theorem CH(n:Nat)(q:TEq)(h:eqF q=0):(eqT n q).length+32≤32 * q.sz:=by
 obtain ⟨h1,h2,h3⟩:=E6 h
 have hz:=AF q
 have k1:=sn q.names
 have k2:=uB q.s h2
 have k3:=AG n q.e h3
 unfold eqT
 split
 ·rename_i c
  have hl:=(h1 c).2.1
  have hm:q.e.getD 0 default∈q.e:=dJ oM
  have k4:=ri n _ (h3 _ hm)
  have k5:=kJ (f:=ae.sz) hm
  simp only [List.length_append,List.length_cons,List.length_nil]
  omega
 ·split<;>simp only [List.length_append,List.length_cons,List.length_nil]<;>omega
theorem E7(n:Nat)(hn:1048576<n)(q:TEq)(h:eqF q=0)(hs:q.sz≤1048576):qo n q=some (eqT n q):=by
 obtain ⟨h1,h2,h3⟩:=E6 h
 have hz:=AF q
 have k1:=sn q.names
 have k2:=uB q.s h2
 have k3:=AG n q.e h3
 have hee:∀ y∈q.e,pM n y=some (exT n y)∧(exT n y).length≤40000000:=fun y hy=>by
  have k5:=kJ (f:=ae.sz) hy
  have k6:=ri n y (h3 y hy)
  exact ⟨xf n y (h3 y hy) oM oM,by omega⟩
 have hll:=ip ae.sz_pos q.e
 have hlist:ii n q.e=some (com (q.e.map (exT n))):=by
  unfold ii
  rw [uA q.e (exT n) (fun i s hi hsl=>by
   show eJ n q.e s i=_
   unfold eJ
   rw [iP (ltI hi),iP (inI hi),tN,(hee _ (dJ hi)).1,bSq,iP (CA oM oM),wrs i oM]
   rfl) (fun s=>by
   show eJ n q.e s q.e.length=_
   unfold eJ
   rw [iN (ep _)]),bSq]
  unfold fw
  rw [AD (by rw [List.length_map];omega) oM]
  rfl
 have j1:∀ s:Ω,s.length≤200000000→kM n q s=some (s++(40 :: (com (q.e.map (exT n))++[41]))):=by
  intro s hsl
  unfold kM
  rw [iP (by unfold maxLen;omega),hlist,bSq,iP (by unfold maxLen;omega)]
  simp only [List.append_assoc,List.cons_append,List.nil_append]
 unfold qo eqT
 rw [E5 _ oM,bSq,iP (by unfold maxLen;omega)]
 by_cases c:q.node=[]
 ·have hl:=(h1 c).2.1
  obtain ⟨e1,e2⟩:=hee _ (rC (show 0<q.e.length by omega))
  rw [iP c,iP c,iP ⟨by omega,by omega⟩,e1,bSq,iP (by unfold maxLen;omega),List.append_assoc]
 ·rw [iN c,iN c,iP (by unfold maxLen;omega)]
  by_cases g:q.s.length>0
  ·rw [iP oM,iP g,vF q.s h2 oM,bSq,iP (by unfold maxLen;omega),j1 _ (by simp only [List.length_append,List.length_cons,List.length_nil];omega)]
   simp only [List.append_assoc,List.cons_append,List.nil_append]
  ·rw [iN oM,iN g,j1 _ (by simp only [List.length_append,List.length_cons,List.length_nil];omega)]
   simp only [List.append_assoc,List.cons_append,List.nil_append]
theorem CI{x:aE}(h:rB x=0):(∀ d∈x.in_,sm d)∧(∀ d∈x.out_,sm d)∧(∀ d∈x.local_,sm d):=by
 obtain ⟨_,h1⟩:=gN h
 obtain ⟨_,h2⟩:=gN h1
 obtain ⟨_,h3⟩:=gN h2
 obtain ⟨_,h4⟩:=gN h3
 obtain ⟨h5,h6⟩:=gN h4
 obtain ⟨h7,h8⟩:=gN h6
 exact ⟨xa h5,xa h7,xa h8⟩
def pt(x:aE):Prop:=rB x=0∧∀ q∈x.eqs,eqF q=0
theorem CJ{f:aq}{a e:Int}(h:(wf f a e).code=0):f.code=0∧e=0:=(Gk f a e).1 h
theorem E8:∀ (l:List TEq) (b:Int) (f:aq),(pD b l f).code=0→f.code=0∧∀ q∈l,eqF q=0
 |[],_,f,h=>⟨h,fun q hq=>by simp at hq⟩
 |q :: l,b,f,h=>by
  obtain ⟨h1,h2⟩:=E8 l _ _ h
  obtain ⟨h3,h4⟩:=CJ h1
  refine ⟨h3,fun q' hq=>?_⟩
  rcases List.mem_cons.1 hq with rfl|hq
  ·exact h4
  ·exact h2 _ hq
theorem xg:∀ (l:List aE) (b i:Int) (f:aq),(mE b i l f).code=0→f.code=0∧∀ x∈l,pt x
 |[],_,_,f,h=>⟨h,fun q hq=>by simp at hq⟩
 |x :: l,b,i,f,h=>by
  obtain ⟨h1,h2⟩:=xg l _ _ _ h
  obtain ⟨h3,h4⟩:=E8 _ _ _ h1
  obtain ⟨h5,h6⟩:=CJ h3
  refine ⟨h5,fun x' hx=>?_⟩
  rcases List.mem_cons.1 hx with rfl|hx
  ·exact ⟨h6,h4⟩
  ·exact h2 _ hx
theorem xh{p:az}(h:(lv p).code=0):∀ x∈p.nodes,pt x:=(xg _ _ _ _ h).2
def ve(_:Nat)(d:aw):Ω:=[9,118,97,114,32]++(kZ d++[59,10])
def pu(n _:Nat)(q:TEq):Ω:=9 :: (eqT n q++[59,10])
def od(n:Nat)(x:aE):Ω :=
 [110, 111, 100, 101, 32] ++ (x.name ++ ((if x.sizes.length > 0 then 60 :: (com x.sizes ++ [62]) else []) ++ (40 :: (com (x.in_.map kZ) ++ ([41, 32, 45, 62, 32, 40] ++ (com (x.out_.map kZ) ++ ([41, 32, 123, 10] ++
  (kh ve 0 x.local_++(kh (pu n) 0 x.eqs++[125,10])))))))))
theorem xi(d:aw)(h:sm d):(kZ d).length+32≤32 * d.sz:=by
 have h1:=oO d.t.n h
 have h2:=zo d
 unfold szS szI at h2
 unfold kZ AE
 split<;>split<;>simp only [List.length_append,List.length_cons,List.length_nil]<;>omega
theorem vV(x:aE):x.sz=(x.name.length+1)+1+szL szS x.sizes+szL aw.sz x.in_+szL aw.sz x.out_+szL aw.sz x.local_+szL TEq.sz x.eqs+1:=by unfold aE.sz szI;rw [show szS x.name=x.name.length+1 from rfl]
theorem xj{l:List aw}(h:∀ d∈l,sm d):∀ i,∀ d∈l,(ve i d).length≤32 * d.sz:=fun i d hd=>by
 have:=xi d (h d hd)
 unfold ve
 simp only [List.length_append,List.length_cons,List.length_nil];omega
theorem vf(n:Nat){l:List TEq}(h:∀ q∈l,eqF q=0):∀ i,∀ q∈l,(pu n i q).length≤32 * q.sz:=fun i q hq=>by
 have:=CH n q (h q hq)
 unfold pu
 simp only [List.length_append,List.length_cons,List.length_nil];omega
theorem DA(n:Nat)(x:aE)(h:pt x):(od n x).length+32≤32 * x.sz:=by
 obtain ⟨h1,h2⟩:=h
 obtain ⟨d1,d2,d3⟩:=CI h1
 have hz:=vV x
 have k1:=sn x.sizes
 have k2:=so x.in_ d1
 have k3:=so x.out_ d2
 have k4:=n8 ve aw.sz x.local_ 0 (xj d3)
 have k5:=n8 (pu n) TEq.sz x.eqs 0 (vf n h2)
 have s4:=jY aw.sz x.local_
 have s5:=jY TEq.sz x.eqs
 unfold od
 split<;>simp only [List.length_append,List.length_cons,List.length_nil]<;>omega
theorem BJ(n:Nat)(hn:1048576<n)(x:aE)(h:pt x)(hs:x.sz≤1048576):jT n x=some (od n x):=by
 obtain ⟨h1,h2⟩:=h
 obtain ⟨d1,d2,d3⟩:=CI h1
 have hz:=vV x
 have k1:=sn x.sizes
 have k2:=so x.in_ d1
 have k3:=so x.out_ d2
 have k4:=n8 ve aw.sz x.local_ 0 (xj d3)
 have k5:=n8 (pu n) TEq.sz x.eqs 0 (vf n h2)
 have s4:=jY aw.sz x.local_
 have s5:=jY TEq.sz x.eqs
 have n4:=ip aw.sz_pos x.local_
 have n5:=ip TEq.sz_pos x.eqs
 have j2:∀ s:Ω,s.length≤200000000→jk n x s=some (s++(kh (pu n) 0 x.eqs++[125,10])):=by
  intro s hsl
  unfold jk
  rw [AB x.eqs (pu n) TEq.sz s 400000000 oM (vf n h2) (fun i w hi hw=>by
   have hm:=kJ (f:=TEq.sz) (dJ hi)
   have hq:=h2 _ (dJ hi)
   have hl:=CH n _ hq
   show jj n x w i=_
   unfold jj
   rw [iP (ltI hi),iP (inI hi),tN,E7 n hn _ hq oM,bSq,iP (by unfold maxLen;omega),wrs i oM]
   rfl) (fun w=>by
   show jj n x w x.eqs.length=_
   unfold jj
   rw [iN (ep _)]),bSq]
  unfold kq
  rw [iP (by rw [List.length_append];unfold maxLen;omega),List.append_assoc]
 have j1:∀ s:Ω,s.length≤40000000→jm n x s=some (s++(40 :: (com (x.in_.map kZ)++([41,32,45,62,32,40]++(com (x.out_.map kZ)++([41,32,123,10]++(kh ve 0 x.local_++(kh (pu n) 0 x.eqs++[125,10])))))))):=by
  intro s hsl
  unfold jm
  rw [vE _ d1 oM,bSq,iP (by unfold maxLen;omega),vE _ d2 oM,bSq,iP (by unfold maxLen;omega)]
  rw [AB x.local_ ve aw.sz _ 400000000 (by simp only [List.length_append,List.length_cons,List.length_nil];omega) (xj d3) (fun i w hi hw=>by
   have hm:=kJ (f:=aw.sz) (dJ hi)
   have hq:=d3 _ (dJ hi)
   have hl:=xi _ hq
   have hde:lE (aw.mk (x.local_.getD i default).name (x.local_.getD i default).t)=some (kZ (x.local_.getD i default)):=xb (x.local_.getD i default) hq oM
   show jl x w i=_
   unfold jl
   rw [iP (ltI hi),iP (inI hi),tN,hde,bSq]
   rw [iP (by unfold maxLen;omega),wrs i oM]
   unfold ve
   simp only [List.append_assoc]) (fun w=>by
   show jl x w x.local_.length=_
   unfold jl
   rw [iN (ep _)]),bSq]
  rw [j2 _ (by simp only [List.length_append,List.length_cons,List.length_nil];omega)]
  simp only [List.append_assoc,List.cons_append,List.nil_append]
 unfold jT od
 rw [iP (by unfold maxLen;omega)]
 by_cases c:x.sizes.length>0
 ·rw [iP oM,iP c,E5 _ oM,bSq,iP (by unfold maxLen;omega),j1 _ (by simp only [List.length_append,List.length_cons,List.length_nil];omega)]
  simp only [List.append_assoc,List.cons_append,List.nil_append]
 ·rw [iN oM,iN c,j1 _ (by simp only [List.length_append,List.length_cons,List.length_nil];omega)]
  simp only [List.append_assoc,List.cons_append,List.nil_append]
def iH(n:Nat)(p:az):Ω:=kh (fun _ x=>od n x) 0 p.nodes
theorem Fa{T:Type}(F:T→Ω)(l:List T):∀ i,Go.Lib.join (l.map F) []=kh (fun _ x=>F x) i l:=by
 induction l with
 |nil=>intro i;rfl
 |cons x l ih =>
  intro i
  rw [kh,← ih (i+1),List.map_cons,Go.Lib.join_cons]
  cases l with
  |nil=>rfl
  |cons y l=>rw [List.map_cons,Go.Lib.join_cons];simp [Go.Lib.joinTail]
theorem BK(n:Nat)(p:az)(h:∀ x∈p.nodes,pt x):(iH n p).length≤32 * p.sz:=by
 have h1:=n8 (fun _ x=>od n x) aE.sz p.nodes 0 (fun i x hx=>by have:=DA n x (h x hx);omega)
 have h2:=jY aE.sz p.nodes
 have h3:p.sz=szL aE.sz p.nodes+1:=by unfold az.sz;omega
 unfold iH
 omega
theorem AH(n:Nat)(hn:1048576<n)(p:az)(h:∀ x∈p.nodes,pt x)(hs:p.sz≤1048576):lN n p=some (iH n p):=by
 have h1:=BK n p h
 have h3:p.sz=szL aE.sz p.nodes+1:=by unfold az.sz;omega
 have h4:=ip aE.sz_pos p.nodes
 have hm:List.mapM (jT n) p.nodes=some (p.nodes.map (od n)):=by
  have:∀ l:List aE,(∀ x∈l,jT n x=some (od n x))→List.mapM (jT n) l=some (l.map (od n)):=by
   intro l
   induction l with
   |nil=>intro _;rfl
   |cons x l ih =>
    intro hx
    rw [List.mapM_cons,hx x (by simp),ih (fun y hy=>hx y (by simp [hy]))]
    rfl
  refine this _ (fun x hx=>?_)
  have:=kJ (f:=aE.sz) hx
  exact BJ n hn x (h x hx) oM
 unfold lN
 rw [hm,bSq,Fa (od n) p.nodes 0]
 show (if p.nodes.length≤1048576∧(iH n p).length≤140737488355328 then some (iH n p) else none)=_
 rw [iP oM]
def xY(m:Int)(w:Ω):List Tk:=if w=[] then [kD m] else if m=1 then [kN w] else [kD m,kS [42],kN w]
def rD(f:Bool)(t:ag):List Tk:=if t.n<0 then kS [45] :: xY (-t.n) t.name else (if f then [] else [kS [43]])++xY t.n t.name
def vg:Bool→List ag→List Tk
 |_,[]=>[]
 |f,t :: l=>rD f t++vg false l
def mP(s:List ag):List Tk:=vg true s
theorem xk(n:Int)(h:0≤n):∃ c r,Go.Lib.itoa n=c :: r∧tAn c=true:=by
 obtain ⟨d1,d2,d3,d4⟩:=uX n.toNat
 unfold Go.Lib.itoa
 rw [iN oM]
 cases hd:Go.Lib.decDigits n.toNat with
 |nil=>exact absurd hd d3
 |cons c r=>exact ⟨c,r,rfl,re (.inr (d1 c (by rw [hd];simp)))⟩
theorem yA{w:Ω}(h:fJ w=true):∃ c r,w=c :: r∧tAn c=true:=by
 obtain ⟨⟨c,r,h1,h2⟩,_⟩:=uW h
 exact ⟨c,r,h1,re (.inl h2)⟩
theorem AI{c:UInt8}(h:tAn c=true):c≠62:=by rintro rfl;revert h;decide
def nmO(w:Ω):Prop:=w=[]∨fJ w=true
theorem CK{m:Int}{w:Ω}(h0:0≤m)(h1:m<1000000000000000000)(hw:nmO w):LX (jR m w) (xY m w)∧∃ c r,jR m w=c :: r∧tAn c=true:=by
 have hn:=EI h0 h1
 obtain ⟨c,r,e,ha⟩:=xk m h0
 unfold jR xY
 by_cases hw0:w=[]
 ·rw [iP hw0,iP hw0];exact ⟨hn,c,r,e,ha⟩
 ·have hw:=hw.resolve_left hw0
  rw [iN hw0,iN hw0]
  by_cases hm:m=1
  ·rw [iP hm,iP hm];exact ⟨rf hw,yA hw⟩
  ·rw [iN hm,iN hm]
   exact ⟨hn.x (LY.cx (hK dM) (rf hw)) (eU dM),c,_,by rw [e];rfl,ha⟩
def CL(t:ag):Prop:=w8 t∧nmO t.name
theorem Fb{t:ag}(h:CL t)(f:Bool):LX (lz f t.n t.name) (rD f t)∧(f=false→Hn (lz f t.n t.name))∧∃ c r,lz f t.n t.name=c :: r∧c≠62:=by
 obtain ⟨⟨h0,h1⟩,h2⟩:=h
 unfold lz rD
 by_cases hn:t.n<0
 ·obtain ⟨n1,c,r,n2,n3⟩:=CK (m:=-t.n) oM oM h2
  rw [iP hn,iP hn]
  cases f
  ·exact ⟨LY.ax (LY.cy lU (sT dM)) n1,fun _=>eU dM,_,_,rfl,by decide⟩
  ·exact ⟨As n1 ⟨c,r,n2,AI n3⟩,(fun h=>by cases h),_,_,rfl,by decide⟩
 ·obtain ⟨n1,c,r,n2,n3⟩:=CK (m:=t.n) oM h1 h2
  rw [iN hn,iN hn]
  cases f
  ·exact ⟨LY.ax (LY.cy lU (LY.cy (hK dM) lU)) n1,fun _=>eU dM,_,_,rfl,by decide⟩
  ·exact ⟨n1,(fun h=>by cases h),c,r,n2,AI n3⟩
theorem AJ:∀ (l:List ag),(∀ t∈l,CL t)→∀ f,LX (fI f (l.map fun t=>(t.n,t.name))) (vg f l)∧(f=false→l≠[]→Hn (fI f (l.map fun t=>(t.n,t.name))))
 |[],_,f=>⟨zk.x,fun _ h=>absurd rfl h⟩
 |t :: l,h,f=>by
  obtain ⟨h1,h2,c,r,h3,_⟩:=Fb (h t (by simp)) f
  obtain ⟨i1,i2⟩:=AJ l (fun t ht=>h t (by simp [ht])) false
  refine ⟨?_,fun hf _=>(h2 hf).app⟩
  show LX (lz f t.n t.name++fI false (l.map fun t=>(t.n,t.name))) (rD f t++vg false l)
  by_cases hl:l=[]
  ·subst hl
   simpa [fI,vg] using h1
  ·exact h1.x i1 (i2 rfl hl)
theorem CM{s:List ag}(h:gn s=0):(∀ t∈s,CL t)∧0<s.length∧s.length≤30:=by
 have hb:=vU h
 unfold gn at h
 split at h
 ·omega
 ·split at h
  ·omega
  ·refine ⟨fun t ht=>⟨hb t ht,?_⟩,by omega,by omega⟩
   have:=pO h t ht
   unfold oB at this
   split at this
   ·omega
   ·split at this
    ·assumption
    ·omega
theorem zq{s:List ag}(h:gn s=0):LX (kF s) (mP s):=(AJ s (CM h).1 true).1
def AK(t:gu):List Tk:=kW (if t.elem=98 then [98,111,111,108] else [105,110,116]) :: (if t.n.length>0 then kS [94] :: mP t.n else [])
def nf(d:aw):List Tk:=kN d.name :: kS [58] :: AK d.t
theorem CN{d:aw}(h:ku d=0):fJ d.name=true∧(d.t.elem=105∨d.t.elem=98)∧(d.t.n.length>0→gn d.t.n=0):=by
 obtain ⟨h0,h1⟩:=gN h
 obtain ⟨h2,h3⟩:=gN h1
 refine ⟨?_,?_,fun k=>?_⟩
 ·split at h0
  ·assumption
  ·omega
 ·split at h2
  ·assumption
  ·omega
 ·rw [iP k] at h3;exact h3
theorem Ic{t:gu}(h:t.n.length>0→gn t.n=0):LX (AE t) (AK t):=by
 unfold AE AK
 have hw:LX (if t.elem=98 then [98,111,111,108] else [105,110,116]) [kW (if t.elem=98 then [98,111,111,108] else [105,110,116])]:=by
  split<;>exact nb dM
 by_cases hl:t.n.length>0
 ·rw [iP hl,iP hl]
  exact hw.x (LY.cx (hK dM) (zq (h hl))) (eU dM)
 ·rw [iN hl,iN hl,List.append_nil];exact hw
theorem CO{d:aw}(h:ku d=0):LX (kZ d) (nf d):=by
 obtain ⟨h1,_,h3⟩:=CN h
 exact (rf h1).x (LY.ax (LY.cy (hK dM) lU) (Ic h3)) (eU dM)
def tlK:List (List Tk)→List Tk
 |[]=>[]
 |k :: l=>kS [44] :: (k++tlK l)
def jy:List (List Tk)→List Tk
 |[]=>[]
 |k :: l=>k++tlK l
theorem Fc:LY [44,32] [kS [44]]:=LY.cy (hK dM) lU
theorem Fd{T:Type}{F:T→Ω}{K:T→List Tk}:∀ l:List T,(∀ x∈l,LX (F x) (K x))→LX (Go.Lib.joinTail [44,32] (l.map F)) (tlK (l.map K))∧(l≠[]→Hn (Go.Lib.joinTail [44,32] (l.map F)))
 |[],_=>⟨zk.x,fun h=>absurd rfl h⟩
 |x :: l,h=>by
  obtain ⟨i1,i2⟩:=Fd l (fun y hy=>h y (by simp [hy]))
  have e:Go.Lib.joinTail [44,32] ((x :: l).map F)=[44,32]++(F x++Go.Lib.joinTail [44,32] (l.map F)):=by simp [Go.Lib.joinTail]
  rw [e]
  refine ⟨?_,fun _=>eU dM⟩
  show LX _ ([kS [44]]++(K x++tlK (l.map K)))
  refine Fc.ax ?_
  by_cases hl:l=[]
  ·subst hl
   simpa [Go.Lib.joinTail,tlK] using h x (by simp)
  ·exact (h x (by simp)).x i1 (i2 hl)
theorem xl{T:Type}{F:T→Ω}{K:T→List Tk}(l:List T)(h:∀ x∈l,LX (F x) (K x)):LX (com (l.map F)) (jy (l.map K)):=by
 cases l with
 |nil=>exact zk.x
 |cons x l =>
  obtain ⟨i1,i2⟩:=Fd l (fun y hy=>h y (by simp [hy]))
  unfold com
  rw [List.map_cons,Go.Lib.join_cons]
  show LX _ (K x++tlK (l.map K))
  by_cases hl:l=[]
  ·subst hl
   simpa [Go.Lib.joinTail,tlK] using h x (by simp)
  ·exact (h x (by simp)).x i1 (i2 hl)
def sgK(k:Int):Tk:=if k=10∨k=11∨k=12 then kW (n9 k) else kS (n9 k)
def paK(r m:Int)(t:List Tk):List Tk:=if r<m then kS [40] :: (t++[kS [41]]) else t
def atK(K:ae→List Tk)(x:ae)(m:Int):List Tk:=paK (rkE x) m (K x)
def zr(K:ae→List Tk)(x:ae):List Tk :=
 kW (if x.op=5 then lb x.k else lV x.op) :: kS [40] :: ((if x.op=7∨x.op=8∨x.op=9 then [kW (lb x.k),kS [44]] else [])++(jy (x.l.map K)++(tlK (x.s.map mP)++[kS [41]])))
def su(K:ae→List Tk)(x:ae):List Tk :=
 if x.op=1 then [kD x.n] else if x.op=2 then [kW (if x.n=1 then [116,114,117,101] else [102,97,108,115,101])] else if x.op=3 then [kN x.name]
 else if x.op=4 then (if x.k=13 then kS [45] else kW [110,111,116]) :: atK K (x.l.getD 0 default) 6
 else if x.op=6 then kW [105,102] :: (K (x.l.getD 0 default)++(kW [116,104,101,110] :: (K (x.l.getD 1 default)++(kW [101,108,115,101] :: K (x.l.getD 2 default)))))
 else if x.op=11 then atK K (x.l.getD 0 default) 7++(kS [91] :: (K (x.l.getD 1 default)++(kS [58] :: (K (x.l.getD 2 default)++[kS [93]]))))
 else if x.op=5∧rkE x<7 then atK K (x.l.getD 0 default) (if rkE x=3 then 4 else rkE x)++(sgK x.k :: atK K (x.l.getD 1 default) (rkE x+1))
 else zr K x
def exK:Nat→ae→List Tk
 |0=>fun _=>[]
 |n+1=>su (exK n)
theorem Jl:∀ k:Int,1≤k→k≤12→¬ (k=6∨k=7)→LY (32 :: (n9 k++[32])) [sgK k]:=fun k h1 h2 h3=>by
 have hw:∀ w:Ω,(kP w && w.all tAn && decide (w.head?.any fun c=>decide (tSm c)))=true→LY (32 :: (w++[32])) [kW w]:=fun w h=>LY.cy lU ((nb h).y lU (eU dM))
 have hs:∀ c:UInt8,sg1 c=true→LY (32 :: ([c]++[32])) [kS [c]]:=fun c h=>LY.cy lU (sT h)
 obtain rfl|rfl|rfl|rfl|rfl|rfl|rfl|rfl|rfl|rfl:k=1∨k=2∨k=3∨k=4∨k=5∨k=8∨k=9∨k=10∨k=11∨k=12:=by omega
 ·exact hs _ dM
 ·exact hs _ dM
 ·exact hs _ dM
 ·exact hs _ dM
 ·exact hs _ dM
 ·exact hs _ dM
 ·exact LY.cy lU ((EH (.inl rfl)).ay lU)
 ·exact hw _ dM
 ·exact hw _ dM
 ·exact hw _ dM
def Hx(T:Ω):Prop:=∃ c r,T=c :: r∧c≠62
theorem Hx.app{T s:Ω}(h:Hx T):Hx (T++s):=by obtain ⟨c,r,rfl,h⟩:=h;exact ⟨c,r++s,rfl,h⟩
theorem Jm{r m:Int}{T:Ω}(h:Hx T):Hx (paT r m T):=by
 unfold paT
 split
 ·exact ⟨_,_,rfl,by decide⟩
 ·exact h
theorem CP{w:Ω}(h:decide (w.head?.any fun c=>decide (c≠62))=true):Hx w:=by
 cases w with
 |nil=>simp at h
 |cons c r=>exact ⟨c,r,rfl,by simpa using h⟩
theorem yB{k:Int}(h:1≤k∧k≤14):(kP (lb k) && (lb k).all tAn && decide ((lb k).head?.any fun c=>decide (tSm c)))=true:=by
 have:∀ i:Nat,i<14→(kP (xd.getD (i+1) []) && (xd.getD (i+1) []).all tAn && decide ((xd.getD (i+1) []).head?.any fun c=>decide (tSm c)))=true:=by decide
 have h2:=this (k.toNat - 1) oM
 rw [show k.toNat - 1+1=k.toNat by omega] at h2
 exact h2
theorem DB{op:Int}(h:op=7∨op=8∨op=9∨op=10∨op=12∨op=13∨op=14∨op=15):(kP (lV op) && (lV op).all tAn && decide ((lV op).head?.any fun c=>decide (tSm c)))=true:=by
 rcases h with rfl|rfl|rfl|rfl|rfl|rfl|rfl|rfl<;>decide
theorem Gq{w:Ω}(h:(kP w && w.all tAn && decide (w.head?.any fun c=>decide (tSm c)))=true):Hx w:=by
 cases w with
 |nil=>simp at h
 |cons c r =>
  simp only [Bool.and_eq_true,List.all_eq_true] at h
  exact ⟨c,r,rfl,AI (h.1.2 c (by simp))⟩
theorem Jn{r m:Int}{T:Ω}{k:List Tk}(h:LX T k):LX (paT r m T) (paK r m k):=by
 unfold paT paK
 split
 ·exact (LY.cy (hK dM) (h.y (hK dM) (eU dM))).x
 ·exact h
theorem GQ:∀ (n:Nat) (x:ae),exF x=0→x.sz<n→LX (exT n x) (exK n x)∧Hx (exT n x)
 |0,_,_,h=>by omega
 |n+1,x,h,hn=>by
  have ok:=eok h
  obtain ⟨f0,f4,f5,f6,f7,f2,fs⟩:=it ok.form
  have hz:=nP x
  have ih:∀ y∈x.l,LX (exT n y) (exK n y)∧Hx (exT n y):=fun y hy=>by
   have h1:=ju hy
   exact GQ n y (ok.parts y hy) oM
  have at_:∀ y∈x.l,∀ m,LX (atT (exT n) y m) (atK (exK n) y m)∧Hx (atT (exT n) y m):=fun y hy m=>⟨Jn (ih y hy).1,Jm (ih y hy).2⟩
  show LX (exB (exT n) x) (su (exK n) x)∧Hx (exB (exT n) x)
  unfold exB su
  by_cases c1:x.op=1
  ·rw [iP c1,iP c1]
   obtain ⟨c,r,e,hc⟩:=xk x.n ok.num.1
   exact ⟨EI ok.num.1 ok.num.2,c,r,e,AI hc⟩
  rw [iN c1,iN c1]
  by_cases c2:x.op=2
  ·rw [iP c2,iP c2]
   split
   ·exact ⟨nb dM,CP dM⟩
   ·exact ⟨nb dM,CP dM⟩
  rw [iN c2,iN c2]
  by_cases c3:x.op=3
  ·rw [iP c3,iP c3]
   have hnm:fJ x.name=true:=by
    rw [u9] at h
    have h1:=(gN (gN h).2).1
    rw [iP c3] at h1
    split at h1
    ·assumption
    ·omega
   obtain ⟨c,r,e,hc⟩:=yA hnm
   exact ⟨rf hnm,c,r,e,AI hc⟩
  rw [iN c3,iN c3]
  by_cases c4:x.op=4
  ·rw [iP c4,iP c4]
   have hl:=(f4 c4).1
   obtain ⟨a1,a2⟩:=at_ _ (rC (show 0<x.l.length by omega)) 6
   split
   ·exact ⟨As a1 a2,Hx.app (T:=[45]) ⟨_,_,rfl,by decide⟩⟩
   ·exact ⟨LY.ax (A:=[110,111,116,32]) (a:=[kW [110,111,116]]) ((nb (w:=[110,111,116]) dM).y lU (eU dM)) a1,Hx.app (T:=[110,111,116,32]) ⟨_,_,rfl,by decide⟩⟩
  rw [iN c4,iN c4]
  have lw:∀ w:Ω,(kP w && w.all tAn && decide (w.head?.any fun c=>decide (tSm c)))=true→LY (w++[32]) [kW w]:=fun w h=>(nb h).y lU (eU dM)
  by_cases c6:x.op=6
  ·rw [iP c6,iP c6]
   have hl:=f6 (Or.inl c6)
   have a:=ih _ (rC (show 0<x.l.length by omega))
   have b:=ih _ (dJ (show 1<x.l.length by omega))
   have d:=ih _ (dJ (show 2<x.l.length by omega))
   refine ⟨?_,Hx.app (T:=[105,102,32]) ⟨_,_,rfl,by decide⟩⟩
   refine LY.ax (A:=[105,102,32]) (a:=[kW [105,102]]) (lw [105,102] dM) (a.1.x ?_ (eU dM))
   refine LY.ax (A:=[32,116,104,101,110,32]) (a:=[kW [116,104,101,110]]) (LY.cy lU (lw [116,104,101,110] dM)) (b.1.x ?_ (eU dM))
   exact LY.ax (A:=[32,101,108,115,101,32]) (a:=[kW [101,108,115,101]]) (LY.cy lU (lw [101,108,115,101] dM)) d.1
  rw [iN c6,iN c6]
  by_cases c11:x.op=11
  ·rw [iP c11,iP c11]
   have hl:=f6 (Or.inr c11)
   have a:=at_ _ (rC (show 0<x.l.length by omega)) 7
   have b:=ih _ (dJ (show 1<x.l.length by omega))
   have d:=ih _ (dJ (show 2<x.l.length by omega))
   refine ⟨a.1.x ?_ (eU dM),a.2.app⟩
   refine LY.cx (hK dM) (b.1.x ?_ (eU dM))
   exact LY.ax (A:=[32,58,32]) (a:=[kS [58]]) (LY.cy lU (sT dM)) (d.1.x (hK dM).x (eU dM))
  rw [iN c11,iN c11]
  by_cases c5:x.op=5∧rkE x<7
  ·rw [iP c5,iP c5]
   have hl:=(f5 c5.1).1
   have hk:=(f5 c5.1).2
   have hk':¬ (x.k=6∨x.k=7):=fun hk=>by
    have:=c5.2
    unfold rkE at this
    rw [iN c6,iN c4,iP c5.1,iP hk] at this
    omega
   have a:=at_ _ (rC (show 0<x.l.length by omega)) (if rkE x=3 then 4 else rkE x)
   have b:=at_ _ (dJ (show 1<x.l.length by omega)) (rkE x+1)
   have e:∀ B:Ω,[32]++(n9 x.k++([32]++B))=(32 :: (n9 x.k++[32]))++B:=fun B=>by simp
   rw [e]
   exact ⟨a.1.x (LY.ax (a:=[sgK x.k]) (Jl x.k hk.1 hk.2 hk') b.1) (eU dM),a.2.app⟩
  rw [iN c5,iN c5]
  have hw:(kP (if x.op=5 then lb x.k else lV x.op) && (if x.op=5 then lb x.k else lV x.op).all tAn && decide ((if x.op=5 then lb x.k else lV x.op).head?.any fun c=>decide (tSm c)))=true:=by
   split
   ·rename_i c;have:=(f5 c).2;exact yB ⟨this.1,by omega⟩
   ·exact DB oM
  unfold pP zr
  refine ⟨?_,(Gq hw).app⟩
  refine (nb hw).x (LY.cx (hK dM) ?_) (eU dM)
  have hcom:LX (com (x.l.map (exT n))) (jy (x.l.map (exK n))):=xl x.l fun y hy=>(ih y hy).1
  have hsz:LX (pq x.s++[41]) (tlK (x.s.map mP)++[kS [41]])∧Hn (pq x.s++[41]):=by
   have hs:∀ s∈x.s,gn s=0:=by
    rw [u9] at h
    exact pO (gN (gN (gN (gN h).2).2).2).1
   have e:pq x.s=Go.Lib.joinTail [44,32] (x.s.map kF):=ss x.s 0
   obtain ⟨t1,t2⟩:=Fd (F:=kF) (K:=mP) x.s fun s hs'=>zq (hs s hs')
   rw [e]
   refine ⟨t1.x (hK dM).x (eU dM),?_⟩
   by_cases h0:x.s=[]
   ·rw [h0];exact eU dM
   ·exact (t2 h0).app
  have hrest:=hcom.x hsz.1 hsz.2
  by_cases c7:x.op=7∨x.op=8∨x.op=9
  ·rw [iP c7,iP c7]
   exact LY.ax (a:=[kW (lb x.k),kS [44]]) ((nb (yB (f7 c7))).y Fc (eU dM)) hrest
  ·rw [iN c7,iN c7];exact hrest
theorem vW{w:Ω}(h:jq w=0):fJ w=true:=by
 unfold jq at h
 split at h
 ·assumption
 ·omega
structure EqG (q:TEq):Prop where
 names:(∀ w∈q.names,fJ w=true)∧0<q.names.length∧q.names.length≤30
 plain:q.node=[]→q.names.length=1∧q.e.length=1∧q.s.length=0
 node:q.node≠[]→fJ q.node=true
 sizes:(∀ s∈q.s,gn s=0)∧q.s.length≤3
 parts:(∀ y∈q.e,exF y=0∧pn y≤30)∧q.e.length≤30
theorem Jo{q:TEq}(h:eqF q=0):EqG q:=by
 obtain ⟨p1,_,_⟩:=E6 h
 obtain ⟨h1,h2⟩:=gN h
 obtain ⟨h3,h4⟩:=gN h2
 obtain ⟨h5,h6⟩:=gN h4
 obtain ⟨h7,h8⟩:=gN h6
 obtain ⟨h9,h10⟩:=gN h8
 have n1:¬ (q.names.length=0∨q.node=[]∧¬ (q.names.length=1∧q.e.length=1∧q.s.length=0)):=fun k=>by rw [iP k] at h1;omega
 have n2:¬ (q.names.length>30∨q.e.length>30∨q.s.length>3):=fun k=>by rw [iP k] at h3;omega
 refine ⟨⟨fun w hw=>vW (pO h5 w hw),by omega,by omega⟩,p1,fun k=>?_,⟨pO h9,by omega⟩,fun y hy=>?_,by omega⟩
 ·rw [iN k] at h7;exact vW h7
 ·obtain ⟨k1,k2⟩:=gN (pO h10 y hy)
  refine ⟨k2,?_⟩
  split at k1
  ·omega
  ·omega
structure tX (x:aE):Prop where
 name:fJ x.name=true
 sizes:(∀ w∈x.sizes,fJ w=true)∧x.sizes.length≤3
 in_:(∀ d∈x.in_,ku d=0)∧x.in_.length≤30
 out_:(∀ d∈x.out_,ku d=0)∧x.out_.length≤30∧0<x.out_.length
 local_:(∀ d∈x.local_,ku d=0)∧x.local_.length≤30
 eqs:(∀ q∈x.eqs,EqG q)∧x.eqs.length≤60
theorem uC{l:List aw}(h:ke l=0):(∀ d∈l,ku d=0)∧l.length≤30:=by
 unfold ke at h
 split at h
 ·omega
 ·exact ⟨pO h,by omega⟩
theorem Gr{x:aE}(h:pt x):tX x:=by
 obtain ⟨hh,he⟩:=h
 obtain ⟨h0,h1⟩:=gN hh
 obtain ⟨h2,h3⟩:=gN h1
 obtain ⟨h4,h5⟩:=gN h3
 obtain ⟨h6,h7⟩:=gN h5
 obtain ⟨h8,h9⟩:=gN h7
 obtain ⟨h10,h11⟩:=gN h9
 have n1:¬ (x.sizes.length>3∨x.eqs.length>60):=fun k=>by rw [iP k] at h2;omega
 have n2:¬ x.out_.length=0:=fun k=>by rw [iP k] at h6;omega
 exact ⟨vW h0,⟨fun w hw=>vW (pO h4 w hw),by omega⟩,uC h8,⟨(uC h10).1,(uC h10).2,by omega⟩,uC h11,⟨fun q hq=>Jo (he q hq),by omega⟩⟩
def eqK(n:Nat)(q:TEq):List Tk :=
 jy (q.names.map fun w=>[kN w])++(kS [61] :: (if q.node=[] then exK n (q.e.getD 0 default) else kW [99,97,108,108] :: kN q.node :: ((if q.s.length>0 then kS [60] :: (jy (q.s.map mP)++[kS [62]]) else [])++(kS [40] :: (jy (q.e.map (exK n))++[kS [41]])))))
theorem AL{l:List Ω}(h:∀ w∈l,fJ w=true):LX (com l) (jy (l.map fun w=>[kN w])):=by
 have:=xl (F:=id) (K:=fun w=>[kN w]) l fun w hw=>rf (h w hw)
 rw [List.map_id] at this
 exact this
theorem Jp(n:Nat)(q:TEq)(h:EqG q)(hs:∀ y∈q.e,y.sz<n):LX (eqT n q) (eqK n q):=by
 have hx:∀ y∈q.e,LX (exT n y) (exK n y):=fun y hy=>(GQ n y (h.parts.1 y hy).1 (hs y hy)).1
 have hE:LX (40 :: (com (q.e.map (exT n))++[41])) (kS [40] :: (jy (q.e.map (exK n))++[kS [41]])) :=
  LY.cx (hK dM) ((xl q.e hx).x (hK dM).x (eU dM))
 have key:LX (if q.node=[] then exT n (q.e.getD 0 default) else [99,97,108,108,32]++(q.node++((if q.s.length>0 then 60 :: (com (q.s.map kF)++[62]) else [])++(40 :: (com (q.e.map (exT n))++[41])))))
   (if q.node=[] then exK n (q.e.getD 0 default) else kW [99,97,108,108] :: kN q.node :: ((if q.s.length>0 then kS [60] :: (jy (q.s.map mP)++[kS [62]]) else [])++(kS [40] :: (jy (q.e.map (exK n))++[kS [41]])))):=by
  by_cases c:q.node=[]
  ·rw [iP c,iP c]
   exact hx _ (rC (by have:=(h.plain c).2.1;omega))
  ·rw [iN c,iN c]
   have k2:LX ((if q.s.length>0 then 60 :: (com (q.s.map kF)++[62]) else [])++(40 :: (com (q.e.map (exT n))++[41]))) ((if q.s.length>0 then kS [60] :: (jy (q.s.map mP)++[kS [62]]) else [])++(kS [40] :: (jy (q.e.map (exK n))++[kS [41]]))) ∧
     Hn ((if q.s.length>0 then 60 :: (com (q.s.map kF)++[62]) else [])++(40 :: (com (q.e.map (exT n))++[41]))):=by
    by_cases g:q.s.length>0
    ·rw [iP g,iP g]
     exact ⟨LY.ax (A:=60 :: (com (q.s.map kF)++[62])) (a:=kS [60] :: (jy (q.s.map mP)++[kS [62]])) (LY.cy (hK dM) ((xl q.s fun s hs=>zq (h.sizes.1 s hs)).y (hK dM) (eU dM))) hE,eU dM⟩
    ·rw [iN g,iN g];exact ⟨hE,eU dM⟩
   exact LY.ax (A:=[99,97,108,108,32]) (a:=[kW [99,97,108,108]]) ((nb (w:=[99,97,108,108]) dM).y lU (eU dM)) ((rf (h.node c)).x k2.1 k2.2)
 unfold eqT eqK
 exact (AL h.names.1).x (LY.ax (A:=[32,61,32]) (a:=[kS [61]]) (LY.cy lU (sT dM)) key) (eU dM)
theorem zt{T:Type}{F:Nat→T→Ω}{K:T→List Tk}:∀ (l:List T) (i:Nat),(∀ i,∀ x∈l,LY (F i x) (K x))→LY (kh F i l) (l.flatMap K)
 |[],_,_=>zk
 |x :: l,i,h=>by
  rw [List.flatMap_cons]
  exact (h i x (by simp)).ay (zt l (i+1) fun i y hy=>h i y (by simp [hy]))
def xZ(d:aw):List Tk:=kW [118,97,114] :: (nf d++[kS [59]])
def rE(n:Nat)(q:TEq):List Tk:=eqK n q++[kS [59]]
def xm(n:Nat)(x:aE):List Tk :=
 kW [110,111,100,101] :: kN x.name :: ((if x.sizes.length>0 then kS [60] :: (jy (x.sizes.map fun w=>[kN w])++[kS [62]]) else [])++(kS [40] :: (jy (x.in_.map nf)++(kS [41] :: kS [45,62] :: kS [40] :: (jy (x.out_.map nf)++(kS [41] :: kS [123] ::
  (x.local_.flatMap xZ++(x.eqs.flatMap (rE n)++[kS [125]]))))))))
theorem Fe:LY [59,10] [kS [59]]:=LY.cy (hK dM) EG
theorem Gs(n:Nat)(x:aE)(h:tX x)(hs:∀ q∈x.eqs,∀ y∈q.e,y.sz<n):LY (od n x) (xm n x):=by
 have hd:∀ l:List aw,(∀ d∈l,ku d=0)→LX (com (l.map kZ)) (jy (l.map nf)):=fun l hl=>xl l fun d hd=>CO (hl d hd)
 have ht:LY (kh ve 0 x.local_++(kh (pu n) 0 x.eqs++[125,10])) (x.local_.flatMap xZ++(x.eqs.flatMap (rE n)++[kS [125]])):=by
  refine (zt x.local_ 0 fun i d hd=>?_).ay ((zt x.eqs 0 fun i q hq=>?_).ay (LY.cy (hK dM) EG))
  ·exact LY.ay (A:=[9,118,97,114,32]) (a:=[kW [118,97,114]]) (LY.cy Jh ((nb (w:=[118,97,114]) dM).y lU (eU dM))) ((CO (h.local_.1 d hd)).y Fe (eU dM))
  ·exact LY.cy (a:=[]) (b:=rE n q) Jh ((Jp n q (h.eqs.1 q hq) (hs q hq)).y Fe (eU dM))
 have h2:LY (40 :: (com (x.in_.map kZ)++([41,32,45,62,32,40]++(com (x.out_.map kZ)++([41,32,123,10]++(kh ve 0 x.local_++(kh (pu n) 0 x.eqs++[125,10]))))))) (kS [40] :: (jy (x.in_.map nf)++(kS [41] :: kS [45,62] :: kS [40] :: (jy (x.out_.map nf)++(kS [41] :: kS [123] ::
  (x.local_.flatMap xZ++(x.eqs.flatMap (rE n)++[kS [125]]))))))):=by
  refine LY.cy (hK dM) ((hd _ h.in_.1).y ?_ (eU dM))
  refine LY.ay (A:=[41,32,45,62,32,40]) (a:=[kS [41],kS [45,62],kS [40]]) (LY.cy (hK dM) (LY.cy lU (LY.ay (A:=[45,62]) (EH (.inr rfl)) (LY.cy lU (hK dM))))) ((hd _ h.out_.1).y ?_ (eU dM))
  exact LY.ay (A:=[41,32,123,10]) (a:=[kS [41],kS [123]]) (LY.cy (hK dM) (LY.cy lU (LY.cy (hK dM) EG))) ht
 have k2:LY ((if x.sizes.length>0 then 60 :: (com x.sizes++[62]) else [])++(40 :: (com (x.in_.map kZ)++([41,32,45,62,32,40]++(com (x.out_.map kZ)++([41,32,123,10]++(kh ve 0 x.local_++(kh (pu n) 0 x.eqs++[125,10]))))))))
   ((if x.sizes.length>0 then kS [60] :: (jy (x.sizes.map fun w=>[kN w])++[kS [62]]) else [])++(kS [40] :: (jy (x.in_.map nf)++(kS [41] :: kS [45,62] :: kS [40] :: (jy (x.out_.map nf)++(kS [41] :: kS [123] ::
  (x.local_.flatMap xZ++(x.eqs.flatMap (rE n)++[kS [125]]))))))))∧Hn ((if x.sizes.length>0 then 60 :: (com x.sizes++[62]) else [])++(40 :: (com (x.in_.map kZ)++([41,32,45,62,32,40]++(com (x.out_.map kZ)++([41,32,123,10]++(kh ve 0 x.local_++(kh (pu n) 0 x.eqs++[125,10])))))))):=by
  by_cases g:x.sizes.length>0
  ·rw [iP g,iP g]
   exact ⟨LY.ay (A:=60 :: (com x.sizes++[62])) (a:=kS [60] :: (jy (x.sizes.map fun w=>[kN w])++[kS [62]])) (LY.cy (hK dM) ((AL h.sizes.1).y (hK dM) (eU dM))) h2,eU dM⟩
  ·rw [iN g,iN g];exact ⟨h2,eU dM⟩
 exact LY.ay (A:=[110,111,100,101,32]) (a:=[kW [110,111,100,101]]) ((nb (w:=[110,111,100,101]) dM).y lU (eU dM)) ((rf h.name).y k2.1 k2.2)
def Ff(n:Nat)(p:az):List Tk:=p.nodes.flatMap (xm n)
theorem Fg(n:Nat)(p:az)(h:∀ x∈p.nodes,tX x)(hs:∀ x∈p.nodes,∀ q∈x.eqs,∀ y∈q.e,y.sz<n):Sc (iH n p) (Ff n p):=by
 have:=zt (F:=fun _ x=>od n x) (K:=xm n) p.nodes 0 (fun _ x hx=>Gs n x (h x hx) (hs x hx)) [] [] H8
 rw [List.append_nil,List.append_nil] at this
 exact this
theorem BL(n:Nat)(p:az)(h:∀ x∈p.nodes,tX x)(hs:∀ x∈p.nodes,∀ q∈x.eqs,∀ y∈q.e,y.sz<n)(hl:(iH n p).length≤12000) :
  ∃ l,mA (iH n p)=some (l,aq.mk 0 0)∧l.map st=Ff n p:=by
 obtain ⟨l,h1,h2⟩:=Fg n p h hs ((iH n p).length+1) 0 oM
 refine ⟨l,?_,h2⟩
 rw [zj _ oM]
 unfold vA
 rw [iN oM,h1]
def lS(l:List Ω)(x:Ω):Int:=match Ao (T:=Unit) l.length (fun i=>if x=l.getD i default then some (i:Int) else none) () with|.inl _=>-1|.inr z=>z
theorem iI(l:List Ω)(x:Ω)(h:l.length≤9000000):dk l x=some (lS l x):=by
 unfold dk
 rw [sR l.length (fun i=>if x=l.getD i default then some (i:Int) else none) () (fun i hi=>by
  unfold fp
  rw [iP (ltI hi),iP (inI hi),tN]
  by_cases e:x=l.getD i default
  ·rw [iP e,iP e]
  ·rw [iN e,iN e,wrs i oM]) (by unfold fp;rw [iN (ep _)])]
 simp only [bSq]
 unfold lS eA
 split<;>rename_i h2<;>rw [h2]<;>rfl
theorem AM(l:List Ω)(x:Ω)(h:l.length≤9000000):fq l x=some (decide (lS l x≥0)):=by
 unfold fq;rw [iI l x h];rfl
def isB(l:List Ω):List aa→Bool
 |t :: _=>decide (¬ t.kind=2) && decide (lS l t.text≥0)
 |[]=>false
theorem Jq(l:List Ω)(p:af)(h:l.length≤9000000):aL l p=some (isB l p.l):=by
 unfold aL
 cases hl:p.l with
 |nil=>rfl
 |cons t r =>
  rw [iP (by simp),iP (by simp),AM _ _ h]
  simp only [List.getD_cons_zero,isB]
  by_cases hk:t.kind=2
  ·rw [iN (fun x=>x hk)];simp [hk]
  ·rw [iP hk];simp [hk]
theorem gq(t:aa)(r:List aa)(a b c:Int):aM (af.mk (t :: r) a b c)=some (t,r):=by
 unfold aM
 rw [iP (by simp),iP (by simp;omega)]
 rfl
theorem oe{S O:Type}(body:S→Option (S ⊕ O))(s:S):dh body s=(body s).bind (Sum.elim (dh body) some):=by
 rw [iz];cases body s with
 |none=>rfl
 |some x=>cases x<;>rfl
theorem ef(l:List Ω)(a:List aa)(b c d:Int)(h:l.length≤9000000):aL l (af.mk a b c d)=some (isB l a):=Jq l _ h
def vh:Ω:=[110,111,100,101,32,97,40,41,32,45,62,32,40,121,58,32,105,110,116,94,50,41,32,123,32,121,32,61,32,102,105,108,108,40,45,40,49,32,43,32,50,41,44,32,50,41,59,32,125]
def BM:List aa:=[aa.mk 1 0 [110,111,100,101] 0,aa.mk 2 5 [97] 0,aa.mk 4 6 [40] 0,aa.mk 4 7 [41] 0,aa.mk 4 9 [45,62] 0,aa.mk 4 12 [40] 0,aa.mk 2 13 [121] 0,aa.mk 4 14 [58] 0,aa.mk 1 16 [105,110,116] 0,aa.mk 4 19 [94] 0,aa.mk 3 20 [50] 2,aa.mk 4 21 [41] 0,aa.mk 4 23 [123] 0,aa.mk 2 25 [121] 0,aa.mk 4 27 [61] 0,aa.mk 1 29 [102,105,108,108] 0,aa.mk 4 33 [40] 0,aa.mk 4 34 [45] 0,aa.mk 4 35 [40] 0,aa.mk 3 36 [49] 1,aa.mk 4 38 [43] 0,aa.mk 3 40 [50] 2,aa.mk 4 41 [41] 0,aa.mk 4 42 [44] 0,aa.mk 3 44 [50] 2,aa.mk 4 45 [41] 0,aa.mk 4 46 [59] 0,aa.mk 4 48 [125] 0]
theorem JT{α β:Type}{x x':Option α}{f:α→Option β}(h:x=x'):x.bind f=x'.bind f:=by rw [h]
theorem Jr{S O:Type}{body:S→Option (S ⊕ O)}{s s':S}(h:s=s'):dh body s=dh body s':=by rw [h]
theorem zv(f n:Nat)(a:Int)(b:af):av f (n+1) a b=ca f (av f n) a b:=rfl
theorem sv(r:Int→af→Option ((ae×(List aa)×Int×Int) ⊕ (Int×Int)))(n:Nat)(b:af):dd r (n+1) b=bB r (dd r n) b:=rfl
theorem BN:vA vh=(BM,aq.mk 0 0):=by decide
set_option maxHeartbeats 8000000
attribute [local congr] JT Jr
set_option maxRecDepth 100000
theorem AN(k:Int)(hk:k=0∨k=1∨k=2∨k=3∨k=4)(a b:Int):bw k (af.mk [aa.mk 4 41 [41] 0,aa.mk 4 42 [44] 0,aa.mk 3 44 [50] 2,aa.mk 4 45 [41] 0,aa.mk 4 46 [59] 0,aa.mk 4 48 [125] 0] 49 a b)=some 0:=by
 rcases hk with rfl|rfl|rfl|rfl|rfl<;>simp (decide:=true) [bw,ef,iI,lit,isB]
theorem AO(k:Int)(hk:k=0∨k=1∨k=2∨k=3∨k=4)(a b:Int):bw k (af.mk [aa.mk 4 42 [44] 0,aa.mk 3 44 [50] 2,aa.mk 4 45 [41] 0,aa.mk 4 46 [59] 0,aa.mk 4 48 [125] 0] 49 a b)=some 0:=by
 rcases hk with rfl|rfl|rfl|rfl|rfl<;>simp (decide:=true) [bw,ef,iI,lit,isB]
theorem AQ(k:Int)(hk:k=0∨k=1∨k=2∨k=3∨k=4)(a b:Int):bw k (af.mk [aa.mk 4 46 [59] 0,aa.mk 4 48 [125] 0] 49 a b)=some 0:=by
 rcases hk with rfl|rfl|rfl|rfl|rfl<;>simp (decide:=true) [bw,ef,iI,lit,isB]
theorem Js(k:Int)(hk:k=4)(a b:Int):bw k (af.mk [aa.mk 4 38 [43] 0,aa.mk 3 40 [50] 2,aa.mk 4 41 [41] 0,aa.mk 4 42 [44] 0,aa.mk 3 44 [50] 2,aa.mk 4 45 [41] 0,aa.mk 4 46 [59] 0,aa.mk 4 48 [125] 0] 49 a b)=some 0:=by
 subst hk;simp (decide:=true) [bw,ef,iI,lit,isB]
theorem Ie(a b:Int):bw 3 (af.mk [aa.mk 4 38 [43] 0,aa.mk 3 40 [50] 2,aa.mk 4 41 [41] 0,aa.mk 4 42 [44] 0,aa.mk 3 44 [50] 2,aa.mk 4 45 [41] 0,aa.mk 4 46 [59] 0,aa.mk 4 48 [125] 0] 49 a b)=some 1:=by
 simp (decide:=true) [bw,ef,iI,lit,isB]
theorem zw(F n:Nat)(p:af){e:ae}{l:List aa}{a b:Int}(h:dz F (av F n) p=some (.inl (e,l,a,b))):av F (n+1) 5 p=some (.inl (e,l,a,b)):=by
 rw [zv];unfold ca;rw [iP rfl,h];rfl
theorem kR(F n:Nat)(k k':Int)(p:af){e:ae}{l:List aa}{a b:Int}(hk:k=0∨k=1∨k=2∨k=3∨k=4)(hk':IntKind.wrap .i64 (k+1)=k')(h:av F n k' p=some (.inl (e,l,a,b)))
  (ho:bw k (af.mk l p.end_ a b)=some 0):av F (n+1) k p=some (.inl (e,l,a,b)):=by
 rw [zv];unfold ca;rw [iN oM,hk',h]
 simp only [bSq,Sum.elim_inl,ho]
 rw [oe]
 simp only [de,not_true_eq_false,if_false,bSq,Sum.elim_inr,Sum.elim_inl,eu]
 cases e;rfl
theorem JU(rc:Int→af→Option ((ae×(List aa)×Int×Int) ⊕ (Int×Int)))(F:Nat):dz (F+1) rc (af.mk [aa.mk 3 36 [49] 1,aa.mk 4 38 [43] 0,aa.mk 3 40 [50] 2,aa.mk 4 41 [41] 0,aa.mk 4 42 [44] 0,aa.mk 3 44 [50] 2,aa.mk 4 45 [41] 0,aa.mk 4 46 [59] 0,aa.mk 4 48 [125] 0] 49 3 0) =
  some (.inl (ae.mk 1 0 1 [] [] [],[aa.mk 4 38 [43] 0,aa.mk 3 40 [50] 2,aa.mk 4 41 [41] 0,aa.mk 4 42 [44] 0,aa.mk 3 44 [50] 2,aa.mk 4 45 [41] 0,aa.mk 4 46 [59] 0,aa.mk 4 48 [125] 0],3,1)):=by
 simp (decide:=true) [aD,ce,bg,aY,bH,aA,cg,dl,dv,cj,bz,cm,cS,dW,cW,cT,cP,b9,dr,cr,dt,cw,dC,bC,bp,dy,eT,cC,bq,bD,du,cX,bo,dY,bI,cE,dK,dL,dN,aV,db,cY,cJ,dD,cz,dm,bJ,bB,sv,dz,gq,ef,iI,oe,↓Sum.elim_inl,↓Sum.elim_inr,lit,isB,IntKind.wrap,IntKind.bits,lK,maxLen]
theorem JV(rc:Int→af→Option ((ae×(List aa)×Int×Int) ⊕ (Int×Int)))(F:Nat):dz (F+1) rc (af.mk [aa.mk 3 40 [50] 2,aa.mk 4 41 [41] 0,aa.mk 4 42 [44] 0,aa.mk 3 44 [50] 2,aa.mk 4 45 [41] 0,aa.mk 4 46 [59] 0,aa.mk 4 48 [125] 0] 49 3 1) =
  some (.inl (ae.mk 1 0 2 [] [] [],[aa.mk 4 41 [41] 0,aa.mk 4 42 [44] 0,aa.mk 3 44 [50] 2,aa.mk 4 45 [41] 0,aa.mk 4 46 [59] 0,aa.mk 4 48 [125] 0],3,2)):=by
 simp (decide:=true) [aD,ce,bg,aY,bH,aA,cg,dl,dv,cj,bz,cm,cS,dW,cW,cT,cP,b9,dr,cr,dt,cw,dC,bC,bp,dy,eT,cC,bq,bD,du,cX,bo,dY,bI,cE,dK,dL,dN,aV,db,cY,cJ,dD,cz,dm,bJ,bB,sv,dz,gq,ef,iI,oe,↓Sum.elim_inl,↓Sum.elim_inr,lit,isB,IntKind.wrap,IntKind.bits,lK,maxLen]
theorem JW(F n:Nat):av (F+1) (n+1) 5 (af.mk [aa.mk 3 36 [49] 1,aa.mk 4 38 [43] 0,aa.mk 3 40 [50] 2,aa.mk 4 41 [41] 0,aa.mk 4 42 [44] 0,aa.mk 3 44 [50] 2,aa.mk 4 45 [41] 0,aa.mk 4 46 [59] 0,aa.mk 4 48 [125] 0] 49 3 0)=some (.inl (ae.mk 1 0 1 [] [] [],[aa.mk 4 38 [43] 0,aa.mk 3 40 [50] 2,aa.mk 4 41 [41] 0,aa.mk 4 42 [44] 0,aa.mk 3 44 [50] 2,aa.mk 4 45 [41] 0,aa.mk 4 46 [59] 0,aa.mk 4 48 [125] 0],3,1)):=zw _ _ _ (JU _ _)
theorem JX(F n:Nat):av (F+1) (n+2) 4 (af.mk [aa.mk 3 36 [49] 1,aa.mk 4 38 [43] 0,aa.mk 3 40 [50] 2,aa.mk 4 41 [41] 0,aa.mk 4 42 [44] 0,aa.mk 3 44 [50] 2,aa.mk 4 45 [41] 0,aa.mk 4 46 [59] 0,aa.mk 4 48 [125] 0] 49 3 0) =
  some (.inl (ae.mk 1 0 1 [] [] [],[aa.mk 4 38 [43] 0,aa.mk 3 40 [50] 2,aa.mk 4 41 [41] 0,aa.mk 4 42 [44] 0,aa.mk 3 44 [50] 2,aa.mk 4 45 [41] 0,aa.mk 4 46 [59] 0,aa.mk 4 48 [125] 0],3,1)):=kR _ _ 4 5 _ oM dM (JW F n) (Js _ oM _ _)
theorem JY(F n:Nat):av (F+1) (n+1) 5 (af.mk [aa.mk 3 40 [50] 2,aa.mk 4 41 [41] 0,aa.mk 4 42 [44] 0,aa.mk 3 44 [50] 2,aa.mk 4 45 [41] 0,aa.mk 4 46 [59] 0,aa.mk 4 48 [125] 0] 49 3 1)=some (.inl (ae.mk 1 0 2 [] [] [],[aa.mk 4 41 [41] 0,aa.mk 4 42 [44] 0,aa.mk 3 44 [50] 2,aa.mk 4 45 [41] 0,aa.mk 4 46 [59] 0,aa.mk 4 48 [125] 0],3,2)):=zw _ _ _ (JV _ _)
theorem JZ(F n:Nat):av (F+1) (n+2) 4 (af.mk [aa.mk 3 40 [50] 2,aa.mk 4 41 [41] 0,aa.mk 4 42 [44] 0,aa.mk 3 44 [50] 2,aa.mk 4 45 [41] 0,aa.mk 4 46 [59] 0,aa.mk 4 48 [125] 0] 49 3 1) =
  some (.inl (ae.mk 1 0 2 [] [] [],[aa.mk 4 41 [41] 0,aa.mk 4 42 [44] 0,aa.mk 3 44 [50] 2,aa.mk 4 45 [41] 0,aa.mk 4 46 [59] 0,aa.mk 4 48 [125] 0],3,2)):=kR _ _ 4 5 _ oM dM (JY F n) (AN _ oM _ _)
theorem J0(F n:Nat):av (F+1) (n+3) 3 (af.mk [aa.mk 3 36 [49] 1,aa.mk 4 38 [43] 0,aa.mk 3 40 [50] 2,aa.mk 4 41 [41] 0,aa.mk 4 42 [44] 0,aa.mk 3 44 [50] 2,aa.mk 4 45 [41] 0,aa.mk 4 46 [59] 0,aa.mk 4 48 [125] 0] 49 3 0) =
  some (.inl (ae.mk 5 1 0 [] [] [ae.mk 1 0 1 [] [] [],ae.mk 1 0 2 [] [] []],[aa.mk 4 41 [41] 0,aa.mk 4 42 [44] 0,aa.mk 3 44 [50] 2,aa.mk 4 45 [41] 0,aa.mk 4 46 [59] 0,aa.mk 4 48 [125] 0],3,3)):=by
 rw [zv]
 simp (decide:=true) [ca,de,eu,JX,JZ,Ie,AN,oe,gq,b9,↓Sum.elim_inl,↓Sum.elim_inr,IntKind.wrap,IntKind.bits,lit]
theorem J1(F n:Nat):av (F+1) (n+4) 2 (af.mk [aa.mk 3 36 [49] 1,aa.mk 4 38 [43] 0,aa.mk 3 40 [50] 2,aa.mk 4 41 [41] 0,aa.mk 4 42 [44] 0,aa.mk 3 44 [50] 2,aa.mk 4 45 [41] 0,aa.mk 4 46 [59] 0,aa.mk 4 48 [125] 0] 49 3 0) =
  some (.inl (ae.mk 5 1 0 [] [] [ae.mk 1 0 1 [] [] [],ae.mk 1 0 2 [] [] []],[aa.mk 4 41 [41] 0,aa.mk 4 42 [44] 0,aa.mk 3 44 [50] 2,aa.mk 4 45 [41] 0,aa.mk 4 46 [59] 0,aa.mk 4 48 [125] 0],3,3)):=kR _ _ 2 3 _ oM dM (J0 F n) (AN _ oM _ _)
theorem J2(F n:Nat):av (F+1) (n+5) 1 (af.mk [aa.mk 3 36 [49] 1,aa.mk 4 38 [43] 0,aa.mk 3 40 [50] 2,aa.mk 4 41 [41] 0,aa.mk 4 42 [44] 0,aa.mk 3 44 [50] 2,aa.mk 4 45 [41] 0,aa.mk 4 46 [59] 0,aa.mk 4 48 [125] 0] 49 3 0) =
  some (.inl (ae.mk 5 1 0 [] [] [ae.mk 1 0 1 [] [] [],ae.mk 1 0 2 [] [] []],[aa.mk 4 41 [41] 0,aa.mk 4 42 [44] 0,aa.mk 3 44 [50] 2,aa.mk 4 45 [41] 0,aa.mk 4 46 [59] 0,aa.mk 4 48 [125] 0],3,3)):=kR _ _ 1 2 _ oM dM (J1 F n) (AN _ oM _ _)
theorem J3(F n:Nat):av (F+1) (n+6) 0 (af.mk [aa.mk 3 36 [49] 1,aa.mk 4 38 [43] 0,aa.mk 3 40 [50] 2,aa.mk 4 41 [41] 0,aa.mk 4 42 [44] 0,aa.mk 3 44 [50] 2,aa.mk 4 45 [41] 0,aa.mk 4 46 [59] 0,aa.mk 4 48 [125] 0] 49 3 0) =
  some (.inl (ae.mk 5 1 0 [] [] [ae.mk 1 0 1 [] [] [],ae.mk 1 0 2 [] [] []],[aa.mk 4 41 [41] 0,aa.mk 4 42 [44] 0,aa.mk 3 44 [50] 2,aa.mk 4 45 [41] 0,aa.mk 4 46 [59] 0,aa.mk 4 48 [125] 0],3,3)):=kR _ _ 0 1 _ oM dM (J2 F n) (AN _ oM _ _)
theorem J4(F F2 n:Nat):dd (av (F+1) (n+6)) (F2+1) (af.mk [aa.mk 4 35 [40] 0,aa.mk 3 36 [49] 1,aa.mk 4 38 [43] 0,aa.mk 3 40 [50] 2,aa.mk 4 41 [41] 0,aa.mk 4 42 [44] 0,aa.mk 3 44 [50] 2,aa.mk 4 45 [41] 0,aa.mk 4 46 [59] 0,aa.mk 4 48 [125] 0] 49 2 0) =
  some (.inl (ae.mk 5 1 0 [] [] [ae.mk 1 0 1 [] [] [],ae.mk 1 0 2 [] [] []],[aa.mk 4 42 [44] 0,aa.mk 3 44 [50] 2,aa.mk 4 45 [41] 0,aa.mk 4 46 [59] 0,aa.mk 4 48 [125] 0],2,3)):=by
 simp (decide:=true) [aD,ce,bg,aY,bH,aA,cg,dl,dv,cj,bz,cm,cS,dW,cW,cT,cP,b9,dr,cr,dt,cw,dC,bC,bp,dy,eT,cC,bq,bD,du,cX,bo,dY,bI,cE,dK,dL,dN,aV,db,cY,cJ,dD,cz,dm,bJ,bB,sv,dz,J3,gq,ef,iI,oe,↓Sum.elim_inl,↓Sum.elim_inr,lit,isB,IntKind.wrap,IntKind.bits,lK,maxLen]
theorem J5(F F2 n:Nat):dz (F2+2) (av (F+1) (n+6)) (af.mk [aa.mk 4 34 [45] 0,aa.mk 4 35 [40] 0,aa.mk 3 36 [49] 1,aa.mk 4 38 [43] 0,aa.mk 3 40 [50] 2,aa.mk 4 41 [41] 0,aa.mk 4 42 [44] 0,aa.mk 3 44 [50] 2,aa.mk 4 45 [41] 0,aa.mk 4 46 [59] 0,aa.mk 4 48 [125] 0] 49 1 0) =
  some (.inl (ae.mk 4 13 0 [] [] [ae.mk 5 1 0 [] [] [ae.mk 1 0 1 [] [] [],ae.mk 1 0 2 [] [] []]],[aa.mk 4 42 [44] 0,aa.mk 3 44 [50] 2,aa.mk 4 45 [41] 0,aa.mk 4 46 [59] 0,aa.mk 4 48 [125] 0],1,4)):=by
 simp (decide:=true) [aD,ce,bg,aY,bH,aA,cg,dl,dv,cj,bz,cm,cS,dW,cW,cT,cP,b9,dr,cr,dt,cw,dC,bC,bp,dy,eT,cC,bq,bD,du,cX,bo,dY,bI,cE,dK,dL,dN,aV,db,cY,cJ,dD,cz,dm,bJ,bB,dz,sv _ (F2+1),J4,gq,ef,iI,oe,↓Sum.elim_inl,↓Sum.elim_inr,lit,isB,IntKind.wrap,IntKind.bits,lK,maxLen]
theorem J6(F n:Nat):av (F+2) (n+7) 5 (af.mk [aa.mk 4 34 [45] 0,aa.mk 4 35 [40] 0,aa.mk 3 36 [49] 1,aa.mk 4 38 [43] 0,aa.mk 3 40 [50] 2,aa.mk 4 41 [41] 0,aa.mk 4 42 [44] 0,aa.mk 3 44 [50] 2,aa.mk 4 45 [41] 0,aa.mk 4 46 [59] 0,aa.mk 4 48 [125] 0] 49 1 0)=some (.inl (ae.mk 4 13 0 [] [] [ae.mk 5 1 0 [] [] [ae.mk 1 0 1 [] [] [],ae.mk 1 0 2 [] [] []]],[aa.mk 4 42 [44] 0,aa.mk 3 44 [50] 2,aa.mk 4 45 [41] 0,aa.mk 4 46 [59] 0,aa.mk 4 48 [125] 0],1,4)):=zw _ _ _ (J5 _ _ _)
theorem J7(F n:Nat):av (F+2) (n+8) 4 (af.mk [aa.mk 4 34 [45] 0,aa.mk 4 35 [40] 0,aa.mk 3 36 [49] 1,aa.mk 4 38 [43] 0,aa.mk 3 40 [50] 2,aa.mk 4 41 [41] 0,aa.mk 4 42 [44] 0,aa.mk 3 44 [50] 2,aa.mk 4 45 [41] 0,aa.mk 4 46 [59] 0,aa.mk 4 48 [125] 0] 49 1 0) =
  some (.inl (ae.mk 4 13 0 [] [] [ae.mk 5 1 0 [] [] [ae.mk 1 0 1 [] [] [],ae.mk 1 0 2 [] [] []]],[aa.mk 4 42 [44] 0,aa.mk 3 44 [50] 2,aa.mk 4 45 [41] 0,aa.mk 4 46 [59] 0,aa.mk 4 48 [125] 0],1,4)):=kR _ _ 4 5 _ oM dM (J6 F n) (AO _ oM _ _)
theorem J8(F n:Nat):av (F+2) (n+9) 3 (af.mk [aa.mk 4 34 [45] 0,aa.mk 4 35 [40] 0,aa.mk 3 36 [49] 1,aa.mk 4 38 [43] 0,aa.mk 3 40 [50] 2,aa.mk 4 41 [41] 0,aa.mk 4 42 [44] 0,aa.mk 3 44 [50] 2,aa.mk 4 45 [41] 0,aa.mk 4 46 [59] 0,aa.mk 4 48 [125] 0] 49 1 0) =
  some (.inl (ae.mk 4 13 0 [] [] [ae.mk 5 1 0 [] [] [ae.mk 1 0 1 [] [] [],ae.mk 1 0 2 [] [] []]],[aa.mk 4 42 [44] 0,aa.mk 3 44 [50] 2,aa.mk 4 45 [41] 0,aa.mk 4 46 [59] 0,aa.mk 4 48 [125] 0],1,4)):=kR _ _ 3 4 _ oM dM (J7 F n) (AO _ oM _ _)
theorem J9(F n:Nat):av (F+2) (n+10) 2 (af.mk [aa.mk 4 34 [45] 0,aa.mk 4 35 [40] 0,aa.mk 3 36 [49] 1,aa.mk 4 38 [43] 0,aa.mk 3 40 [50] 2,aa.mk 4 41 [41] 0,aa.mk 4 42 [44] 0,aa.mk 3 44 [50] 2,aa.mk 4 45 [41] 0,aa.mk 4 46 [59] 0,aa.mk 4 48 [125] 0] 49 1 0) =
  some (.inl (ae.mk 4 13 0 [] [] [ae.mk 5 1 0 [] [] [ae.mk 1 0 1 [] [] [],ae.mk 1 0 2 [] [] []]],[aa.mk 4 42 [44] 0,aa.mk 3 44 [50] 2,aa.mk 4 45 [41] 0,aa.mk 4 46 [59] 0,aa.mk 4 48 [125] 0],1,4)):=kR _ _ 2 3 _ oM dM (J8 F n) (AO _ oM _ _)
theorem Ka(F n:Nat):av (F+2) (n+11) 1 (af.mk [aa.mk 4 34 [45] 0,aa.mk 4 35 [40] 0,aa.mk 3 36 [49] 1,aa.mk 4 38 [43] 0,aa.mk 3 40 [50] 2,aa.mk 4 41 [41] 0,aa.mk 4 42 [44] 0,aa.mk 3 44 [50] 2,aa.mk 4 45 [41] 0,aa.mk 4 46 [59] 0,aa.mk 4 48 [125] 0] 49 1 0) =
  some (.inl (ae.mk 4 13 0 [] [] [ae.mk 5 1 0 [] [] [ae.mk 1 0 1 [] [] [],ae.mk 1 0 2 [] [] []]],[aa.mk 4 42 [44] 0,aa.mk 3 44 [50] 2,aa.mk 4 45 [41] 0,aa.mk 4 46 [59] 0,aa.mk 4 48 [125] 0],1,4)):=kR _ _ 1 2 _ oM dM (J9 F n) (AO _ oM _ _)
theorem Kb(F n:Nat):av (F+2) (n+12) 0 (af.mk [aa.mk 4 34 [45] 0,aa.mk 4 35 [40] 0,aa.mk 3 36 [49] 1,aa.mk 4 38 [43] 0,aa.mk 3 40 [50] 2,aa.mk 4 41 [41] 0,aa.mk 4 42 [44] 0,aa.mk 3 44 [50] 2,aa.mk 4 45 [41] 0,aa.mk 4 46 [59] 0,aa.mk 4 48 [125] 0] 49 1 0) =
  some (.inl (ae.mk 4 13 0 [] [] [ae.mk 5 1 0 [] [] [ae.mk 1 0 1 [] [] [],ae.mk 1 0 2 [] [] []]],[aa.mk 4 42 [44] 0,aa.mk 3 44 [50] 2,aa.mk 4 45 [41] 0,aa.mk 4 46 [59] 0,aa.mk 4 48 [125] 0],1,4)):=kR _ _ 0 1 _ oM dM (Ka F n) (AO _ oM _ _)
theorem Gt:dX [102,105,108,108] [[109,97,112],[102,111,108,100],[115,99,97,110],[102,105,108,108],[119,105,116,104],[115,108,105,99,101],[99,97,116],[112,114,101],[109,105,110],[109,97,120]]=some 3:=by
 have h:dX [102,105,108,108] [[109,97,112],[102,111,108,100],[115,99,97,110],[102,105,108,108],[119,105,116,104],[115,108,105,99,101],[99,97,116],[112,114,101],[109,105,110],[109,97,120]]=dk [[109,97,112],[102,111,108,100],[115,99,97,110],[102,105,108,108],[119,105,116,104],[115,108,105,99,101],[99,97,116],[112,114,101],[109,105,110],[109,97,120]] [102,105,108,108]:=rfl
 rw [h,iI _ _ dM]
 decide
theorem Kc(F n:Nat):dz (F+3) (av (F+3) (n+12)) (af.mk [aa.mk 1 29 [102,105,108,108] 0,aa.mk 4 33 [40] 0,aa.mk 4 34 [45] 0,aa.mk 4 35 [40] 0,aa.mk 3 36 [49] 1,aa.mk 4 38 [43] 0,aa.mk 3 40 [50] 2,aa.mk 4 41 [41] 0,aa.mk 4 42 [44] 0,aa.mk 3 44 [50] 2,aa.mk 4 45 [41] 0,aa.mk 4 46 [59] 0,aa.mk 4 48 [125] 0] 49 0 0) =
  some (.inl (ae.mk 10 0 0 [] [[ag.mk 2 []]] [ae.mk 4 13 0 [] [] [ae.mk 5 1 0 [] [] [ae.mk 1 0 1 [] [] [],ae.mk 1 0 2 [] [] []]]],[aa.mk 4 46 [59] 0,aa.mk 4 48 [125] 0],0,5)):=by
 simp (decide:=true) [aD,ce,bg,aY,bH,aA,cg,dl,dv,cj,bz,cm,cS,dW,cW,cT,cP,b9,dr,cr,dt,cw,dC,bC,bp,dy,eT,cC,bq,bD,du,cX,bo,dY,bI,cE,dK,dL,dN,aV,db,cY,cJ,dD,cz,dm,bJ,bB,dz,sv _ (F+2),Kb,Gt,gq,ef,iI,oe,↓Sum.elim_inl,↓Sum.elim_inr,lit,isB,IntKind.wrap,IntKind.bits,lK,maxLen]
theorem Kd(F n:Nat):av (F+3) (n+13) 5 (af.mk [aa.mk 1 29 [102,105,108,108] 0,aa.mk 4 33 [40] 0,aa.mk 4 34 [45] 0,aa.mk 4 35 [40] 0,aa.mk 3 36 [49] 1,aa.mk 4 38 [43] 0,aa.mk 3 40 [50] 2,aa.mk 4 41 [41] 0,aa.mk 4 42 [44] 0,aa.mk 3 44 [50] 2,aa.mk 4 45 [41] 0,aa.mk 4 46 [59] 0,aa.mk 4 48 [125] 0] 49 0 0)=some (.inl (ae.mk 10 0 0 [] [[ag.mk 2 []]] [ae.mk 4 13 0 [] [] [ae.mk 5 1 0 [] [] [ae.mk 1 0 1 [] [] [],ae.mk 1 0 2 [] [] []]]],[aa.mk 4 46 [59] 0,aa.mk 4 48 [125] 0],0,5)):=zw _ _ _ (Kc _ _)
theorem Ke(F n:Nat):av (F+3) (n+14) 4 (af.mk [aa.mk 1 29 [102,105,108,108] 0,aa.mk 4 33 [40] 0,aa.mk 4 34 [45] 0,aa.mk 4 35 [40] 0,aa.mk 3 36 [49] 1,aa.mk 4 38 [43] 0,aa.mk 3 40 [50] 2,aa.mk 4 41 [41] 0,aa.mk 4 42 [44] 0,aa.mk 3 44 [50] 2,aa.mk 4 45 [41] 0,aa.mk 4 46 [59] 0,aa.mk 4 48 [125] 0] 49 0 0) =
  some (.inl (ae.mk 10 0 0 [] [[ag.mk 2 []]] [ae.mk 4 13 0 [] [] [ae.mk 5 1 0 [] [] [ae.mk 1 0 1 [] [] [],ae.mk 1 0 2 [] [] []]]],[aa.mk 4 46 [59] 0,aa.mk 4 48 [125] 0],0,5)):=kR _ _ 4 5 _ oM dM (Kd F n) (AQ _ oM _ _)
theorem Kf(F n:Nat):av (F+3) (n+15) 3 (af.mk [aa.mk 1 29 [102,105,108,108] 0,aa.mk 4 33 [40] 0,aa.mk 4 34 [45] 0,aa.mk 4 35 [40] 0,aa.mk 3 36 [49] 1,aa.mk 4 38 [43] 0,aa.mk 3 40 [50] 2,aa.mk 4 41 [41] 0,aa.mk 4 42 [44] 0,aa.mk 3 44 [50] 2,aa.mk 4 45 [41] 0,aa.mk 4 46 [59] 0,aa.mk 4 48 [125] 0] 49 0 0) =
  some (.inl (ae.mk 10 0 0 [] [[ag.mk 2 []]] [ae.mk 4 13 0 [] [] [ae.mk 5 1 0 [] [] [ae.mk 1 0 1 [] [] [],ae.mk 1 0 2 [] [] []]]],[aa.mk 4 46 [59] 0,aa.mk 4 48 [125] 0],0,5)):=kR _ _ 3 4 _ oM dM (Ke F n) (AQ _ oM _ _)
theorem Kg(F n:Nat):av (F+3) (n+16) 2 (af.mk [aa.mk 1 29 [102,105,108,108] 0,aa.mk 4 33 [40] 0,aa.mk 4 34 [45] 0,aa.mk 4 35 [40] 0,aa.mk 3 36 [49] 1,aa.mk 4 38 [43] 0,aa.mk 3 40 [50] 2,aa.mk 4 41 [41] 0,aa.mk 4 42 [44] 0,aa.mk 3 44 [50] 2,aa.mk 4 45 [41] 0,aa.mk 4 46 [59] 0,aa.mk 4 48 [125] 0] 49 0 0) =
  some (.inl (ae.mk 10 0 0 [] [[ag.mk 2 []]] [ae.mk 4 13 0 [] [] [ae.mk 5 1 0 [] [] [ae.mk 1 0 1 [] [] [],ae.mk 1 0 2 [] [] []]]],[aa.mk 4 46 [59] 0,aa.mk 4 48 [125] 0],0,5)):=kR _ _ 2 3 _ oM dM (Kf F n) (AQ _ oM _ _)
theorem Kh(F n:Nat):av (F+3) (n+17) 1 (af.mk [aa.mk 1 29 [102,105,108,108] 0,aa.mk 4 33 [40] 0,aa.mk 4 34 [45] 0,aa.mk 4 35 [40] 0,aa.mk 3 36 [49] 1,aa.mk 4 38 [43] 0,aa.mk 3 40 [50] 2,aa.mk 4 41 [41] 0,aa.mk 4 42 [44] 0,aa.mk 3 44 [50] 2,aa.mk 4 45 [41] 0,aa.mk 4 46 [59] 0,aa.mk 4 48 [125] 0] 49 0 0) =
  some (.inl (ae.mk 10 0 0 [] [[ag.mk 2 []]] [ae.mk 4 13 0 [] [] [ae.mk 5 1 0 [] [] [ae.mk 1 0 1 [] [] [],ae.mk 1 0 2 [] [] []]]],[aa.mk 4 46 [59] 0,aa.mk 4 48 [125] 0],0,5)):=kR _ _ 1 2 _ oM dM (Kg F n) (AQ _ oM _ _)
theorem Ki(F n:Nat):av (F+3) (n+18) 0 (af.mk [aa.mk 1 29 [102,105,108,108] 0,aa.mk 4 33 [40] 0,aa.mk 4 34 [45] 0,aa.mk 4 35 [40] 0,aa.mk 3 36 [49] 1,aa.mk 4 38 [43] 0,aa.mk 3 40 [50] 2,aa.mk 4 41 [41] 0,aa.mk 4 42 [44] 0,aa.mk 3 44 [50] 2,aa.mk 4 45 [41] 0,aa.mk 4 46 [59] 0,aa.mk 4 48 [125] 0] 49 0 0) =
  some (.inl (ae.mk 10 0 0 [] [[ag.mk 2 []]] [ae.mk 4 13 0 [] [] [ae.mk 5 1 0 [] [] [ae.mk 1 0 1 [] [] [],ae.mk 1 0 2 [] [] []]]],[aa.mk 4 46 [59] 0,aa.mk 4 48 [125] 0],0,5)):=kR _ _ 0 1 _ oM dM (Kh F n) (AQ _ oM _ _)
theorem BO(m:Nat)(o:Int):eV (m+40) (af.mk [aa.mk 1 29 [102,105,108,108] 0,aa.mk 4 33 [40] 0,aa.mk 4 34 [45] 0,aa.mk 4 35 [40] 0,aa.mk 3 36 [49] 1,aa.mk 4 38 [43] 0,aa.mk 3 40 [50] 2,aa.mk 4 41 [41] 0,aa.mk 4 42 [44] 0,aa.mk 3 44 [50] 2,aa.mk 4 45 [41] 0,aa.mk 4 46 [59] 0,aa.mk 4 48 [125] 0] 49 0 o) =
  some (.inl (ae.mk 10 0 0 [] [[ag.mk 2 []]] [ae.mk 4 13 0 [] [] [ae.mk 5 1 0 [] [] [ae.mk 1 0 1 [] [] [],ae.mk 1 0 2 [] [] []]]],[aa.mk 4 46 [59] 0,aa.mk 4 48 [125] 0],0,5)):=by
 simp (decide:=true) [eV,dO,kK,show av (m+40) (m+40) 0 (af.mk [aa.mk 1 29 [102,105,108,108] 0,aa.mk 4 33 [40] 0,aa.mk 4 34 [45] 0,aa.mk 4 35 [40] 0,aa.mk 3 36 [49] 1,aa.mk 4 38 [43] 0,aa.mk 3 40 [50] 2,aa.mk 4 41 [41] 0,aa.mk 4 42 [44] 0,aa.mk 3 44 [50] 2,aa.mk 4 45 [41] 0,aa.mk 4 46 [59] 0,aa.mk 4 48 [125] 0] 49 0 0)=_ from Ki (m+37) (m+22)]
theorem AR(m:Nat):fE (m+40) vh=some (az.mk [aE.mk [97] 0 [] [] [aw.mk [121] (gu.mk 105 [ag.mk 2 []])] [] [TEq.mk 25 [[121]] [] [] [ae.mk 10 0 0 [] [[ag.mk 2 []]] [ae.mk 4 13 0 [] [] [ae.mk 5 1 0 [] [] [ae.mk 1 0 1 [] [] [],ae.mk 1 0 2 [] [] []]]]]]],aq.mk 0 0):=by
 have hs:mA vh=some (BM,aq.mk 0 0):=by rw [zj _ dM,BN]
 unfold fE
 rw [hs]
 simp (decide:=true) [BM,vh,BO,jC,gQ,eh,cD,fm,fZ,fD,cG,fb,cH,fO,dp,fP,eC,eD,eE,fM,ew,dP,dw,co,dQ,dR,gB,aD,ce,bg,aY,bH,aA,cg,dl,dv,cj,bz,cm,cS,gq,ef,iI,oe,↓Sum.elim_inl,↓Sum.elim_inr,lit,isB,IntKind.wrap,IntKind.bits,lK,maxLen]
def Pn{α:Type}(m:Option α)(Q:α→Prop):Prop:=∃ a,m=some a∧Q a
theorem bV{α:Type}{a:α}{Q:α→Prop}(h:Q a):Pn (some a) Q:=⟨a,rfl,h⟩
theorem cQ{α β:Type}{m:Option α}{f:α→Option β}{P:α→Prop}{Q:β→Prop}(h:Pn m P)(hf:∀ a,P a→Pn (f a) Q):Pn (m.bind f) Q:=by
 obtain ⟨a,rfl,ha⟩:=h;exact hf a ha
theorem vX{α:Type}{m:Option α}{P Q:α→Prop}(h:Pn m P)(hf:∀ a,P a→Q a):Pn m Q:=by
 obtain ⟨a,rfl,ha⟩:=h;exact ⟨a,rfl,hf a ha⟩
theorem yC{α β:Type}{m:Option α}{a:α}{f:α→Option β}{Q:β→Prop}(h:m=some a)(hf:Pn (f a) Q):Pn (m.bind f) Q:=by
 rw [h];exact hf
def At(E:Int)(f:Int×Int):Prop:=f.1≠0∧0≤f.2∧f.2≤E
abbrev Po{α:Type}(E:Int)(Q:α→Prop):α ⊕ (Int×Int)→Prop:=Sum.elim Q (At E)
theorem jb{α:Type}{E:Int}{a:α}{Q:α→Prop}(h:Q a):Pn (some (.inl a)) (Po E Q):=bV h
theorem BP{α:Type}{E:Int}{a:Int×Int}{Q:α→Prop}(h:At E a):Pn (some (.inr (a.1,a.2))) (Po E Q):=bV h
theorem fF{α β:Type}{E:Int}{m:Option (α ⊕ (Int×Int))}{f:α→Option (β ⊕ (Int×Int))}{A:α→Prop}{Q:β→Prop}(h:Pn m (Po E A))
  (hf:∀ a,A a→Pn (f a) (Po E Q)):Pn (m.bind fun y=>Sum.elim f (fun z=>some (.inr (z.1,z.2))) y) (Po E Q):=by
 obtain ⟨a,rfl,ha⟩:=h
 cases a with
 |inl a=>exact hf a ha
 |inr b=>exact bV ha
theorem sV{α:Type}{E:Int}{m:Option (Int×Int)}{Q:α→Prop}(h:Pn m (At E)):Pn (m.bind fun y=>some (.inr (y.1,y.2))) (Po E Q):=by
 obtain ⟨a,rfl,ha⟩:=h;exact bV ha
theorem lT{α:Type}{E:Int}{m:Option (α ⊕ (Int×Int))}{P Q:α→Prop}(h:Pn m (Po E P))(hf:∀ a,P a→Q a):Pn m (Po E Q) :=
 vX h fun a ha=>by
  cases a with
  |inl a=>exact hf a ha
  |inr b=>exact ha
abbrev Pl{S T R:Type}(E:Int)(C:S→Prop)(B:T→Prop)(Q:R→Prop):S ⊕ (T ⊕ (R ⊕ (Int×Int)))→Prop:=Sum.elim C (Sum.elim B (Po E Q))
theorem sw{α S T R:Type}{E:Int}{m:Option (α ⊕ (Int×Int))}{f:α→Option (S ⊕ (T ⊕ (R ⊕ (Int×Int))))}{A:α→Prop}{C:S→Prop}{B:T→Prop}{Q:R→Prop}(h:Pn m (Po E A))
  (hf:∀ a,A a→Pn (f a) (Pl E C B Q)):Pn (m.bind fun y=>Sum.elim f (fun z=>some (.inr (.inr (.inr (z.1,z.2))))) y) (Pl E C B Q):=by
 obtain ⟨a,rfl,ha⟩:=h
 cases a with
 |inl a=>exact hf a ha
 |inr b=>exact bV ha
theorem vY{S T R:Type}{E:Int}{m:Option (Int×Int)}{C:S→Prop}{B:T→Prop}{Q:R→Prop}(h:Pn m (At E)):Pn (m.bind fun y=>some (.inr (.inr (.inr (y.1,y.2))))) (Pl E C B Q):=by
 obtain ⟨a,rfl,ha⟩:=h;exact bV ha
theorem sW{S O:Type}{body:S→Option (S ⊕ O)}(I:S→Prop)(μ:S→Nat){post:O→Prop}{s:S}(h:I s)
  (step:∀ s,I s→Pn (body s) (Sum.elim (fun s'=>I s'∧μ s'<μ s) post)):Pn (dh body s) post :=
 Dg I μ post (fun s hs=>by
  obtain ⟨a,h1,h2⟩:=step s hs
  cases a with
  |inl s'=>exact .inl ⟨s',h1,h2⟩
  |inr o=>exact .inr ⟨o,h1,h2⟩) s h
theorem sX{S T R:Type}{E:Int}{body:S→Option (S ⊕ (T ⊕ (R ⊕ (Int×Int))))}{k:T→Option (R ⊕ (Int×Int))}(I:S→Prop)(μ:S→Nat)(B:T→Prop){Q:R→Prop}{s:S}(h:I s)
  (step:∀ s,I s→Pn (body s) (Pl E (fun s'=>I s'∧μ s'<μ s) B Q)) (hk:∀ b,B b→Pn (k b) (Po E Q)):Pn ((dh body s).bind (Sum.elim k (fun z=>some z))) (Po E Q) :=
 cQ (sW I μ h step) fun a ha=>by
  cases a with
  |inl b=>exact hk b ha
  |inr r=>exact bV ha
def br(t:aa):Bool:=decide (t.kind≠2) && decide (t.text=[125])
def xn(E:Int)(l:List aa):Prop:=l.length≤9000000∧∀ t∈l,(t.kind=3→t.text≠[125])∧0≤t.at_∧t.at_≤E
def Rd(l l':List aa):Prop:=∃ c,l=c++l'∧∀ t∈c,br t=false
def Cs(l l':List aa):Prop:=Rd l l'∧l'.length<l.length
theorem Rd.refl(l:List aa):Rd l l:=⟨[],rfl,fun _ h=>nomatch h⟩
theorem Rd.trans{a b c:List aa}(h:Rd a b)(k:Rd b c):Rd a c:=by
 obtain ⟨x,rfl,hx⟩:=h;obtain ⟨y,rfl,hy⟩:=k
 exact ⟨x++y,by simp,fun t ht=>by rcases List.mem_append.1 ht with h|h;exact hx t h;exact hy t h⟩
theorem Rd.len{a b:List aa}(h:Rd a b):b.length≤a.length:=by obtain ⟨x,rfl,_⟩:=h;simp
theorem Rd.good{E:Int}{a b:List aa}(h:Rd a b)(g:xn E a):xn E b:=by
 obtain ⟨x,rfl,_⟩:=h;exact ⟨by have:=g.1;simp only [List.length_append] at this;omega,fun t ht=>g.2 t (List.mem_append_right _ ht)⟩
theorem Cs.trans{a b c:List aa}(h:Cs a b)(k:Cs b c):Cs a c:=⟨h.1.trans k.1,by have:=h.2;have:=k.2;omega⟩
theorem Cs.rd{a b c:List aa}(h:Cs a b)(k:Rd b c):Cs a c:=⟨h.1.trans k,by have:=h.2;have:=k.len;omega⟩
theorem Rd.cs{a b c:List aa}(h:Rd a b)(k:Cs b c):Cs a c:=⟨h.trans k.1,by have:=h.len;have:=k.2;omega⟩
theorem Cs.good{E:Int}{a b:List aa}(h:Cs a b)(g:xn E a):xn E b:=h.1.good g
theorem vi{t:aa}{l:List aa}(h:br t=false):Cs (t :: l) l:=⟨⟨[t],rfl,fun x hx=>by rw [List.mem_singleton.1 hx];exact h⟩,by simp⟩
theorem Gu{t:aa}(h:t.kind=2):br t=false:=by simp [br,h]
theorem Fh{E:Int}{t:aa}{l:List aa}(g:xn E (t :: l))(h:t.kind=3):br t=false:=by simp [br,(g.2 t (by simp)).1 h]
theorem rj{t:aa}{W:List Ω}(h:t.text∈W)(hw:([125]:Ω) ∉ W):br t=false:=by
 have:t.text≠[125]:=fun e=>hw (e ▸ h)
 simp [br,this]
theorem uD{L:List Ω}{x:Ω}(h:lS L x≥0):x∈L:=by
 unfold lS at h
 rcases nJ (T:=Unit) L.length (fun i=>if x=L.getD i default then some (i:Int) else none) () with ⟨he,_⟩|⟨i,z,hi,hf,he⟩
 ·rw [he] at h;exact absurd h dM
 ·by_cases e:x=L.getD i default
  ·rw [e];exact dJ hi
  ·rw [iN e] at hf;cases hf
theorem vZ{L:List Ω}{x:Ω}:lS L x<(L.length:Int):=by
 unfold lS
 rcases nJ (T:=Unit) L.length (fun i=>if x=L.getD i default then some (i:Int) else none) () with ⟨he,_⟩|⟨i,z,hi,hf,he⟩
 ·rw [he];show (-1:Int)<_;omega
 ·rw [he]
  by_cases e:x=L.getD i default
  ·rw [iP e] at hf;cases hf;show (i:Int)<_;omega
  ·rw [iN e] at hf;cases hf
theorem zx{L:List Ω}{x:Ω}(h:x∈L):0≤lS L x:=by
 unfold lS
 rcases nJ (T:=Unit) L.length (fun i=>if x=L.getD i default then some (i:Int) else none) () with ⟨he,hn⟩|⟨i,z,hi,hf,he⟩
 ·obtain ⟨i,hi,e⟩:=List.mem_iff_getElem.1 h
  have:=hn i hi
  rw [iP (by rw [List.getD_eq_getElem?_getD,List.getElem?_eq_getElem hi,Option.getD_some,e])] at this
  cases this
 ·rw [he]
  by_cases e:x=L.getD i default
  ·rw [iP e] at hf;cases hf;show (0:Int)≤i;omega
  ·rw [iN e] at hf;cases hf
theorem pw{L:List Ω}{l:List aa}(h:isB L l=true):∃ t r,l=t :: r∧t.kind≠2∧t.text∈L:=by
 cases l with
 |nil=>cases h
 |cons t r =>
  simp only [isB,Bool.and_eq_true,decide_eq_true_eq] at h
  exact ⟨t,r,rfl,h.1,uD h.2⟩
theorem jv{E c o t:Int}{l:List aa}(hc:c≠0)(hE:0≤E)(g:xn E l):Pn (aD c ⟨l,E,o,t⟩) (At E):=by
 unfold aD
 cases l with
 |nil =>
  rw [iN (by simp)]
  by_cases h:c=4
  ·rw [iP h];exact bV ⟨show (5:Int)≠0 by decide,hE,Int.le_refl _⟩
  ·rw [iN h];exact bV ⟨hc,hE,Int.le_refl _⟩
 |cons x r =>
  rw [iP (by simp),iP (by simp)]
  exact bV ⟨hc,(g.2 x (by simp)).2⟩
theorem nC{E o t:Int}{l:List aa}(L:List Ω)(h:L.length≤9000000):Pn (aL L ⟨l,E,o,t⟩) (fun b=>b=isB L l) :=
 ⟨_,ef L l E o t h,rfl⟩
theorem If{E o t:Int}{l:List aa}(w:Ω):Pn (aY w ⟨l,E,o,t⟩) (fun r=>(r.1=true∧∃ x,l=x :: r.2∧x.kind≠2∧x.text=w)∨(r.1=false∧r.2=l∧isB [w] l=false)):=by
 unfold aY
 rw [ef _ _ _ _ _ (by simp [lit])]
 simp only [bSq]
 by_cases h:isB [w] l=true
 ·obtain ⟨x,r,rfl,hk,hx⟩:=pw h
  rw [show isB (lit [w]) (x :: r)=true from h,iP rfl,gq]
  exact bV (.inl ⟨rfl,x,rfl,hk,by simpa using hx⟩)
 ·have h':isB [w] l=false:=by simpa using h
  rw [show isB (lit [w]) l=false from h',iN dM]
  exact bV (.inr ⟨rfl,rfl,h'⟩)
theorem qa{E o t:Int}{l:List aa}(w:Ω)(hw:w≠[125]):Pn (aY w ⟨l,E,o,t⟩) (fun r=>Rd l r.2) :=
 vX (If w) fun r hr=>by
  rcases hr with ⟨_,x,h,_,hx⟩|⟨_,h,_⟩
  ·rw [h];exact (vi (rj (W:=[w]) (by simp [hx]) (by simpa using hw.symm))).1
  ·rw [h];exact Rd.refl _
theorem zy{E o t:Int}{l:List aa}(k:Int)(hE:0≤E)(g:xn E l):Pn (ce k ⟨l,E,o,t⟩) (Po E fun r=>l=r.1 :: r.2∧r.1.kind=k):=by
 unfold ce
 cases l with
 |nil=>rw [iP (by simp)];exact sV (jv dM hE g)
 |cons x r =>
  rw [iN (by simp;omega),iP (by simp)]
  simp only [List.getD_cons_zero]
  by_cases h:x.kind=k
  ·rw [iN (fun z=>z h),gq];exact jb ⟨rfl,h⟩
  ·rw [iP h];exact sV (jv dM hE g)
theorem Gv{E o t:Int}(W:List Ω)(hW:W.length≤1000){l:List aa}(hE:0≤E)(g:xn E l) :
  Pn (aA W ⟨l,E,o,t⟩) (Po E fun l'=>∃ c,l=c++l'∧c.map (·.text)=W∧∀ x∈c,x.kind≠2):=by
 unfold aA
 refine cQ (P:=Po E fun l'=>∃ c,l=c++l'∧c.map (·.text)=W∧∀ x∈c,x.kind≠2) ?_ fun a ha=>bV ha
 refine sW (I:=fun s=>∃ k:Nat,s.2=(k:Int)∧k≤W.length∧∃ c,l=c++s.1∧c.map (·.text)=W.take k∧∀ x∈c,x.kind≠2) (μ:=fun s=>W.length - s.2.toNat) ⟨0,rfl,by omega,[],rfl,rfl,fun _ h=>nomatch h⟩ ?_
 rintro ⟨l5,x6⟩ ⟨k,hk,hkl,c,hc,hcm,hck⟩
 cases hk
 show Pn (bH W ⟨l,E,o,t⟩ l5 (k:Int)) _
 unfold bH
 by_cases hlt:k<W.length
 ·rw [iP (ltI hlt),iP (inI hlt),tN]
  refine cQ (nC _ (by simp [lit])) fun b hb=>?_
  subst hb
  by_cases h:isB (lit [W.getD k default]) l5=true
  ·rw [iP h]
   obtain ⟨x,r,rfl,hx,hxt⟩:=pw h
   rw [gq]
   simp only [bSq]
   rw [wrs k oM]
   refine bV ⟨⟨k+1,rfl,by omega,c++[x],by rw [hc];simp,?_,fun y hy=>?_⟩,?_⟩
   ·rw [List.map_append,hcm,wU W hlt]
    simp only [lit,List.mem_singleton] at hxt
    simp [hxt]
   ·rcases List.mem_append.1 hy with h|h
    ·exact hck y h
    ·rw [List.mem_singleton.1 h];exact hx
   ·show W.length - ((k+1:Nat):Int).toNat<W.length - ((k:Nat):Int).toNat
    omega
  ·rw [iN h]
   have g':xn E l5:=⟨by have:=g.1;rw [hc,List.length_append] at this;exact Nat.le_trans (Nat.le_add_left _ _) this,fun x hx=>g.2 x (by rw [hc];exact List.mem_append_right _ hx)⟩
   refine cQ (jv dM hE g') fun a ha=>bV ha
 ·rw [iN oM]
  refine bV ⟨c,hc,?_,hck⟩
  rw [hcm,List.take_of_length_le oM]
theorem iB{E o t:Int}(W:List Ω){l:List aa}(hE:0≤E)(g:xn E l)(hW:W.length≤1000∧0<W.length∧([125]:Ω) ∉ W) :
  Pn (aA W ⟨l,E,o,t⟩) (Po E fun l'=>Cs l l') :=
 lT (Gv W hW.1 hE g) fun l' ⟨c,h,hm,hk⟩=>by
  refine ⟨⟨c,h,fun x hx=>rj (W:=W) (by rw [← hm];exact List.mem_map_of_mem hx) hW.2.2⟩,?_⟩
  rw [h,List.length_append]
  have:c.length=W.length:=by rw [← hm,List.length_map]
  omega
theorem nD{n b:Nat}(h:n≤9000001)(hb:b≤1000):lK n b:=by
 unfold lK maxLen
 have:=Nat.mul_le_mul h hb
 omega
theorem Fi{E o t:Int}{l:List aa}{L:List Ω}(h:isB L l=true)(hL:([125]:Ω) ∉ L):Pn (aM ⟨l,E,o,t⟩) (fun r=>Cs l r.2∧l=r.1 :: r.2∧r.1.text∈L):=by
 obtain ⟨x,r,rfl,_,hx⟩:=pw h
 rw [gq];exact bV ⟨vi (rj hx hL),rfl,hx⟩
def Mt(l:List aa)(k:List Tk)(r:List aa):Prop:=∃ c,l=c++r∧c.map st=k
theorem lG{l r:List aa}(h:Mt l [] r):l=r:=by
 obtain ⟨c,rfl,h⟩:=h
 rw [List.map_eq_nil_iff] at h
 rw [h];rfl
theorem dg{l r:List aa}{k:Tk}{ks:List Tk}(h:Mt l (k :: ks) r):∃ a m,l=aa.mk k.1 a k.2.1 k.2.2 :: m∧Mt m ks r:=by
 obtain ⟨c,rfl,h⟩:=h
 cases c with
 |nil=>simp at h
 |cons t c =>
  simp only [List.map_cons,List.cons.injEq] at h
  obtain ⟨rfl,h⟩:=h
  exact ⟨t.at_,c++r,rfl,c,rfl,h⟩
theorem dH{l r:List aa}{a b:List Tk}(h:Mt l (a++b) r):∃ m,Mt l a m∧Mt m b r:=by
 obtain ⟨c,rfl,h⟩:=h
 obtain ⟨x,y,rfl,h1,h2⟩:=List.map_eq_append_iff.1 h
 exact ⟨y++r,⟨x,by simp,h1⟩,⟨y,rfl,h2⟩⟩
theorem iy{l r:List aa}{k:Tk}(h:Mt l [k] r):∃ a,l=aa.mk k.1 a k.2.1 k.2.2 :: r:=by
 obtain ⟨a,m,h1,h2⟩:=dg h
 rw [lG h2] at h1
 exact ⟨a,h1⟩
theorem AS{L:List Ω}{k a n:Int}{w:Ω}{l:List aa}(hk:k≠2):isB L (aa.mk k a w n :: l)=decide (lS L w≥0):=by
 simp [isB,hk]
theorem jc{L:List Ω}{k a n:Int}{w:Ω}{l:List aa}(hk:k≠2)(h:w∈L):isB L (aa.mk k a w n :: l)=true:=by
 rw [AS hk];exact dT (zx h)
theorem dZ{L:List Ω}{k a n:Int}{w:Ω}{l:List aa}(h:w ∉ L):isB L (aa.mk k a w n :: l)=false:=by
 by_cases hk:k=2
 ·subst hk;rfl
 ·rw [AS hk];exact dF fun hi=>h (uD hi)
theorem nQ{E o t a n k:Int}{w:Ω}{l:List aa}(hk:k≠2):aY w ⟨aa.mk k a w n :: l,E,o,t⟩=some (true,l):=by
 unfold aY
 rw [ef _ _ _ _ _ (by simp [lit]),jc hk (by simp [lit]),bSq,iP rfl,gq];rfl
theorem qb{E o t:Int}{w:Ω}{l:List aa}(h:isB [w] l=false):aY w ⟨l,E,o,t⟩=some (false,l):=by
 unfold aY
 rw [ef _ _ _ _ _ (by simp [lit]),show isB (lit [w]) l=false from h]
 rfl
theorem AT{E o t:Int}:∀ (W:List Ω) (hW:W.length≤1000) (c r:List aa),c.map (·.text)=W→(∀ x∈c,x.kind≠2)→aA W ⟨c++r,E,o,t⟩=some (.inl r):=fun W hW c r hc hk=>by
 have key:∀ (d:List aa) (i:Nat),c=c.take i++d→i≤c.length→dh (fun x:List aa×Int=>bH W ⟨c++r,E,o,t⟩ x.1 x.2) (d++r,(i:Int))=some (.inl r):=by
  intro d
  induction d with
  |nil =>
   intro i h hi
   have hi':i=W.length:=by
    have h1:=congrArg List.length h
    rw [← hc,List.length_map]
    rw [List.append_nil,List.length_take] at h1
    omega
   subst hi'
   refine ee (o:=(Sum.inl r:List aa ⊕ (Int×Int))) ?_
   show bH W _ _ _=_
   unfold bH
   rw [iN (ep _)];rfl
  |cons x d ih =>
   intro i h hi
   have hil:i<c.length:=by
    have h1:=congrArg List.length h
    rw [List.length_append,List.length_take,List.length_cons] at h1
    omega
   have hiW:i<W.length:=by rw [← hc,List.length_map];exact hil
   have hx:c[i]? = some x:=by
    have h2:(c.take i).length=i:=by rw [List.length_take];omega
    rw [h,List.getElem?_append_right oM,h2,Nat.sub_self];rfl
   have hxm:x∈c:=List.mem_of_getElem? hx
   have hw:W.getD i default=x.text:=by
    rw [List.getD_eq_getElem?_getD,← hc,List.getElem?_map,hx];rfl
   refine (gi (s':=(d++r,((i+1:Nat):Int))) ?_).trans (ih (i+1) ?_ oM)
   ·show bH W _ _ _=_
    unfold bH
    rw [iP (ltI hiW),iP (inI hiW),tN,hw,ef _ _ _ _ _ (by simp [lit])]
    cases x with
    |mk k a w n =>
     rw [List.cons_append,jc (hk _ hxm) (by simp [lit]),bSq,iP rfl,gq,bSq,wrs i oM]
   ·rw [List.take_succ,hx]
    simp only [Option.toList_some,List.append_assoc,List.cons_append,List.nil_append]
    exact h
 unfold aA
 exact congrArg (Option.bind · fun z=>some z) (key c 0 (by simp) oM)
theorem GR{E o t k a n:Int}{w:Ω}{r:List aa}(hk:k≠2):aA (lit [w]) ⟨aa.mk k a w n :: r,E,o,t⟩=some (.inl r) :=
 AT [w] (by simp) [aa.mk k a w n] r rfl (fun x hx=>by rw [List.mem_singleton.1 hx];exact hk)
theorem oh{E o t:Int}{w:Ω}{l r:List aa}(h:Mt l [kS w] r):aA (lit [w]) ⟨l,E,o,t⟩=some (.inl r):=by
 obtain ⟨a,rfl⟩:=iy h
 exact GR (by show (4:Int)≠2;decide)
theorem Fj{E o t:Int}{w:Ω}{l r:List aa}(h:Mt l [kW w] r):aA (lit [w]) ⟨l,E,o,t⟩=some (.inl r):=by
 obtain ⟨a,rfl⟩:=iy h
 exact GR (by show (1:Int)≠2;decide)
theorem xo{E o t k a n:Int}{w:Ω}{r:List aa}:ce k ⟨aa.mk k a w n :: r,E,o,t⟩=some (.inl (aa.mk k a w n,r)):=by
 unfold ce
 rw [iN (by simp;omega),iP (by simp),iN (by simp),gq];rfl
theorem oi{E o t:Int}{w:Ω}{l r:List aa}(h:Mt l [kN w] r):bg ⟨l,E,o,t⟩=some (.inl (w,r)):=by
 obtain ⟨a,rfl⟩:=iy h
 unfold bg
 show (ce 2 ⟨aa.mk 2 a w 0 :: r,E,o,t⟩).bind _=_
 rw [xo];rfl
theorem AU{E o t m s:Int}{w:Ω}{l r:List aa}(h0:0≤m)(h1:m<1000000000000000000)(hs:s=1∨s = -1)(h:Mt l (xY m w) r)(hr:isB [[42]] r=false) :
  dl s ⟨l,E,o,t⟩=some (.inl (ag.mk (s * m) w,r)):=by
 have hw:IntKind.wrap .i64 (s * m)=s * m:=by rcases hs with rfl|rfl<;>exact wr oM oM
 unfold xY at h
 unfold dl
 by_cases c:w=[]
 ·subst c
  rw [iP rfl] at h
  obtain ⟨a,rfl⟩:=iy h
  rw [iP (by simp),iP (by simp),iN (by show ¬ (3:Int)=2;decide)]
  unfold cg
  show (ce 3 ⟨aa.mk 3 a (Go.Lib.itoa m) m :: r,E,o,t⟩).bind _=_
  rw [xo]
  simp only [bSq,Sum.elim_inl]
  rw [qb hr,bSq,iN (by simp),hw]
 ·rw [iN c] at h
  by_cases c1:m=1
  ·rw [iP c1] at h
   obtain ⟨a,rfl⟩:=iy h
   rw [iP (by simp),iP (by simp),iP (show ((aa.mk (kN w).1 a (kN w).2.1 (kN w).2.2 :: r).getD 0 default).kind=2 from rfl),oi h,bSq,c1,Int.mul_one];rfl
  ·rw [iN c1] at h
   obtain ⟨a,l1,rfl,h2⟩:=dg h
   obtain ⟨b,l2,rfl,h3⟩:=dg h2
   rw [iP (by simp only [List.length_cons];omega),iP (by simp only [List.length_cons];omega),iN (by show ¬ (3:Int)=2;decide)]
   unfold cg
   show (ce 3 ⟨aa.mk 3 a (Go.Lib.itoa m) m :: aa.mk 4 b [42] 0 :: l2,E,o,t⟩).bind _=_
   rw [xo]
   simp only [bSq,Sum.elim_inl]
   rw [nQ dM,bSq,iP rfl,oi h3,bSq,hw];rfl
def Fz(r:List aa):Prop:=isB (lit [[43],[45]]) r=false∧isB [[42]] r=false
theorem sY{k a n:Int}{w:Ω}{l:List aa}(h:decide (w ∉ ([[43],[45],[42]]:List Ω))=true):Fz (aa.mk k a w n :: l):=by
 have h:=of_decide_eq_true h
 simp only [List.mem_cons,List.not_mem_nil,or_false,not_or] at h
 exact ⟨dZ (by simp [lit,h]),dZ (by simp [h])⟩
theorem tC{E o t:Int}(P:List aa){r:List aa}(hr:Fz r):∀ (l:List ag) (m:List aa) (acc:List ag),(∀ x∈l,CL x)→acc.length+l.length≤30→Mt m (vg false l) r →
  dh (fun x:List aa×List ag=>bz ⟨P,E,o,t⟩ x.1 x.2) (m,acc)=some (.inl (r,acc++l))
 |[],m,acc,_,_,h=>by
  obtain rfl:=lG h
  rw [List.append_nil]
  refine ee ?_
  show bz _ _ _=_
  unfold bz
  rw [ef _ _ _ _ _ (by simp [lit]),hr.1];rfl
 |x :: l,m,acc,hx,hl,h=>by
  obtain ⟨m1,h1,h2⟩:=dH (a:=rD false x) h
  have hm1:isB [[42]] m1=false:=by
   cases l with
   |nil=>obtain rfl:=lG h2;exact hr.2
   |cons y l =>
    obtain ⟨m2,h3,_⟩:=dH (a:=rD false y) h2
    unfold rD at h3
    split at h3
    ·obtain ⟨a,m3,rfl,_⟩:=dg h3;exact dZ dM
    ·obtain ⟨a,m3,rfl,_⟩:=dg h3;exact dZ dM
  obtain ⟨⟨b0,b1⟩,_⟩:=hx x (by simp)
  have hlen:¬ (acc.length:Int)=30:=by simp only [List.length_cons] at hl;omega
  have step:∀ (s:Int) (m2:List aa),(s=1∨s = -1)→0≤s * x.n→Mt m2 (xY (s * x.n) x.name) m1→cj ⟨P,E,o,t⟩ acc m2 s=some (.inl (m1,acc++[x])):=by
   intro s m2 hs h0 hm
   unfold cj
   rw [AU h0 (by rcases hs with rfl|rfl<;>omega) hs hm hm1]
   simp only [bSq,Sum.elim_inl]
   rw [iP (nD (by simp only [List.length_cons] at hl;omega) dM)]
   have e:s * (s * x.n)=x.n:=by rcases hs with rfl|rfl<;>omega
   rw [e];rfl
  refine (gi (s':=(m1,acc++[x])) ?_).trans ?_
  ·show bz _ _ _=_
   unfold bz
   rw [ef _ _ _ _ _ (by simp [lit])]
   unfold rD at h1
   by_cases c:x.n<0
   ·rw [iP c] at h1
    obtain ⟨a,m2,rfl,h3⟩:=dg h1
    rw [jc (by show (4:Int)≠2;decide) (by show [45]∈_;simp [lit]),bSq,iP rfl,iN hlen,gq,bSq]
    refine (iP rfl).trans ?_
    exact step (-1) m2 (.inr rfl) oM (by rw [show -1 * x.n = -x.n by omega];exact h3)
   ·rw [iN c] at h1
    obtain ⟨a,m2,rfl,h3⟩:=dg h1
    rw [jc (by show (4:Int)≠2;decide) (by show [43]∈_;simp [lit]),bSq,iP rfl,iN hlen,gq,bSq]
    refine (iN (show ¬ ([43]:Ω)=[45] by decide)).trans ?_
    exact step 1 m2 (.inl rfl) oM (by rw [show 1 * x.n=x.n by omega];exact h3)
  ·have:=tC (E:=E) (o:=o) (t:=t) P hr l m1 (acc++[x]) (fun y hy=>hx y (by simp [hy])) (by simp only [List.length_append,List.length_cons,List.length_nil] at hl ⊢;omega) h2
   rw [this];simp
theorem uE{E o t:Int}{s:List ag}{l r:List aa}(hs:gn s=0)(h:Mt l (mP s) r)(hr:Fz r):cS ⟨l,E,o,t⟩=some (.inl (s,r)):=by
 obtain ⟨s1,s2,s3⟩:=CM hs
 cases s with
 |nil=>simp at s2
 |cons x s =>
  obtain ⟨m1,h1,h2⟩:=dH (a:=rD true x) h
  have hm1:isB [[42]] m1=false:=by
   cases s with
   |nil=>obtain rfl:=lG h2;exact hr.2
   |cons y s =>
    obtain ⟨m2,h3,_⟩:=dH (a:=rD false y) h2
    unfold rD at h3
    split at h3
    ·obtain ⟨a,m3,rfl,_⟩:=dg h3;exact dZ dM
    ·obtain ⟨a,m3,rfl,_⟩:=dg h3;exact dZ dM
  obtain ⟨⟨b0,b1⟩,bn⟩:=s1 x (by simp)
  have step:∀ (g:Int) (m2:List aa),(g=1∨g = -1)→0≤g * x.n→Mt m2 (xY (g * x.n) x.name) m1→cm ⟨l,E,o,t⟩ m2 g=some (.inl (x :: s,r)):=by
   intro g m2 hg h0 hm
   unfold cm
   rw [AU h0 (by rcases hg with rfl|rfl<;>omega) hg hm hm1]
   simp only [bSq,Sum.elim_inl]
   have e:g * (g * x.n)=x.n:=by rcases hg with rfl|rfl<;>omega
   have:=tC (E:=E) (o:=o) (t:=t) l hr s m1 [x] (fun y hy=>s1 y (by simp [hy])) (by simp only [List.length_cons,List.length_nil] at s3 ⊢;omega) h2
   rw [e]
   show (dh (fun x:List aa×List ag=>bz ⟨l,E,o,t⟩ x.1 x.2) (m1,[x])).bind _=_
   rw [this];rfl
  unfold cS
  unfold rD at h1
  by_cases c:x.n<0
  ·rw [iP c] at h1
   obtain ⟨a,m2,rfl,h3⟩:=dg h1
   rw [show aa.mk (kS [45]).1 a (kS [45]).2.1 (kS [45]).2.2=aa.mk 4 a [45] 0 from rfl] at step ⊢
   rw [nQ dM,bSq,iP rfl]
   exact step (-1) m2 (.inr rfl) oM (by rw [show -1 * x.n = -x.n by omega];exact h3)
  ·rw [iN c] at h1
   have h1':Mt l (xY x.n x.name) m1:=h1
   have hno:isB [[45]] l=false:=by
    unfold xY at h1'
    have hd:[45]≠Go.Lib.itoa x.n:=fun e=>by
     obtain ⟨c,r,e1,e2⟩:=xk x.n oM
     rw [← e] at e1
     obtain ⟨rfl,_⟩:=List.cons.inj e1
     revert e2;decide
    split at h1'
    ·obtain ⟨a,m3,rfl,_⟩:=dg h1';exact dZ (by simpa [kD] using hd.symm)
    ·split at h1'
     ·obtain ⟨a,m3,rfl,_⟩:=dg h1';rfl
     ·obtain ⟨a,m3,rfl,_⟩:=dg h1';exact dZ (by simpa [kD] using hd.symm)
   rw [qb hno,bSq,iN (by simp)]
   exact step 1 l (.inl rfl) oM (by rw [show 1 * x.n=x.n by omega];exact h1')
theorem Gw{E o t:Int}{y:gu}{l r:List aa}(he:y.elem=105∨y.elem=98)(hs:y.n.length>0→gn y.n=0)(h:Mt l (AK y) r)(hr:Fz r)(hr2:isB [[94]] r=false):fZ ⟨l,E,o,t⟩=some (.inl (y,r)):=by
 have key:∀ (w:Ω) (a:Int) (m:List aa),w∈([[105,110,116],[98,111,111,108]]:List Ω)→((w.getD 0 0).toNat:Int)=y.elem→Mt m (if y.n.length>0 then kS [94] :: mP y.n else []) r→fZ ⟨aa.mk 1 a w 0 :: m,E,o,t⟩=some (.inl (y,r)):=by
  intro w a m hw hy hm
  unfold fZ
  rw [ef _ _ _ _ _ (by simp [lit]),jc (L:=lit [[105,110,116],[98,111,111,108]]) dM hw,bSq,iP rfl,gq,bSq,iP (by
   simp only [List.mem_cons,List.not_mem_nil,or_false] at hw
   rcases hw with rfl|rfl
   ·exact (show (0:Nat)≤0∧(0:Int)<((3:Nat):Int) by decide)
   ·exact (show (0:Nat)≤0∧(0:Int)<((4:Nat):Int) by decide))]
  by_cases c:y.n.length>0
  ·rw [iP c] at hm
   obtain ⟨b,m2,rfl,h2⟩:=dg hm
   rw [show aa.mk (kS [94]).1 b (kS [94]).2.1 (kS [94]).2.2=aa.mk 4 b [94] 0 from rfl,nQ dM,bSq,iP rfl,uE (hs c) h2 hr]
   simp only [bSq,Sum.elim_inl]
   rw [hy]
  ·rw [iN c] at hm
   obtain rfl:=lG hm
   rw [qb hr2,bSq,iN (by simp),hy]
   have:y.n=[]:=List.length_eq_zero_iff.1 oM
   rw [← this]
 unfold AK at h
 obtain ⟨a,m,rfl,h2⟩:=dg h
 by_cases c:y.elem=98
 ·rw [show (if y.elem=98 then [98,111,111,108] else [105,110,116]:Ω)=[98,111,111,108] from iP c];exact key [98,111,111,108] a m (by simp) (by rw [c];decide) h2
 ·rw [show (if y.elem=98 then [98,111,111,108] else [105,110,116]:Ω)=[105,110,116] from iN c];exact key [105,110,116] a m (by simp) (by rw [he.resolve_right c];decide) h2
theorem xp{E o t:Int}{d:aw}{l r:List aa}(hd:ku d=0)(h:Mt l (nf d) r)(hr:Fz r)(hr2:isB [[94]] r=false):fD ⟨l,E,o,t⟩=some (.inl (d,r)):=by
 obtain ⟨d1,d2,d3⟩:=CN hd
 obtain ⟨m1,h1,h2⟩:=dH (a:=[kN d.name]) (b:=kS [58] :: AK d.t) h
 obtain ⟨m2,h3,h4⟩:=dH (a:=[kS [58]]) (b:=AK d.t) h2
 unfold fD
 rw [oi h1]
 simp only [bSq,Sum.elim_inl]
 rw [oh h3]
 simp only [bSq,Sum.elim_inl]
 rw [Gw d2 d3 h4 hr hr2];rfl
theorem v6{T:Type}{K:T→List Tk}{body:List aa×List T→Option ((List aa×List T) ⊕ ((List T×List aa) ⊕ (Int×Int)))}{End:List aa→Prop}{most:Nat} :
  ∀ (L:List T) (l r:List aa) (acc:List T),
  (∀ x∈L,∀ l r acc a,acc.length<most→Mt l (K x) (aa.mk 4 a [44] 0 :: r)→body (l,acc)=some (.inl (r,acc++[x]))) →
  (∀ x∈L,∀ l acc,acc.length<most→Mt l (K x) r→End r→body (l,acc)=some (.inr (.inl (acc++[x],r)))) →
  L≠[]→acc.length+L.length≤most→Mt l (jy (L.map K)) r→End r→dh body (l,acc)=some (.inl (acc++L,r))
 |[],_,_,_,_,_,h,_,_,_=>absurd rfl h
 |[x],l,r,acc,_,h2,_,hl,hm,he=>by
  have hm:Mt l (K x++[]) r:=hm
  rw [List.append_nil] at hm
  exact ee (h2 x (by simp) l acc (by simp only [List.length_cons,List.length_nil] at hl;omega) hm he)
 |x :: y :: L,l,r,acc,h1,h2,_,hl,hm,he=>by
  obtain ⟨m,k1,k2⟩:=dH (a:=K x) (b:=kS [44] :: jy ((y :: L).map K)) hm
  obtain ⟨a,m2,rfl,k3⟩:=dg k2
  refine (gi (h1 x (by simp) l m2 acc a (by simp only [List.length_cons] at hl;omega) k1)).trans ?_
  have:=v6 (y :: L) m2 r (acc++[x]) (fun z hz=>h1 z (by simp only [List.mem_cons] at hz ⊢;exact .inr hz)) (fun z hz=>h2 z (by simp only [List.mem_cons] at hz ⊢;exact .inr hz)) (by simp) (by simp only [List.length_append,List.length_cons,List.length_nil] at hl ⊢;omega) k3 he
  rw [this];simp
theorem xq{α S R:Type}{m:Option (α ⊕ (Int×Int))}{mb:α→Option (Bool×List aa)}{n b:Nat}{st:α→Bool×List aa→S}{rs:α→Bool×List aa→R}(a:α)(r:List aa)
  (hm:m=some (.inl a)) (hb:mb a=some (true,r)) (hn:n≤9000001) (hb':b≤1000) :
  (m.bind fun y=>Sum.elim (fun a=>if lK n b then ((mb a).bind fun b=>if b.1=true then some (.inl (st a b)) else some (.inr (.inl (rs a b)))) else none) (fun z=>some (.inr (.inr (z.1,z.2)))) y:Option (S ⊕ (R ⊕ (Int×Int))))=some (.inl (st a (true,r))):=by
 rw [hm]
 simp only [bSq,Sum.elim_inl]
 rw [iP (nD hn hb'),hb,bSq,iP rfl]
theorem xr{α S R:Type}{m:Option (α ⊕ (Int×Int))}{mb:α→Option (Bool×List aa)}{n b:Nat}{st:α→Bool×List aa→S}{rs:α→Bool×List aa→R}(a:α)(r:List aa)
  (hm:m=some (.inl a)) (hb:mb a=some (false,r)) (hn:n≤9000001) (hb':b≤1000) :
  (m.bind fun y=>Sum.elim (fun a=>if lK n b then ((mb a).bind fun b=>if b.1=true then some (.inl (st a b)) else some (.inr (.inl (rs a b)))) else none) (fun z=>some (.inr (.inr (z.1,z.2)))) y:Option (S ⊕ (R ⊕ (Int×Int))))=some (.inr (.inl (rs a (false,r)))):=by
 rw [hm]
 simp only [bSq,Sum.elim_inl]
 rw [iP (nD hn hb'),hb,bSq,iN (by simp)]
theorem yD{E o t:Int}{L:List Ω}{most:Nat}{l r:List aa}(hm:most≤1000)(h0:L≠[])(hl:L.length≤most)(h:Mt l (jy (L.map fun w=>[kN w])) r)(hr:isB [[44]] r=false) :
  fm most ⟨l,E,o,t⟩=some (.inl (L,r)):=by
 unfold fm
 have:=v6 (K:=fun w=>[kN w]) (body:=fun x:List aa×List Ω=>cD most ⟨l,E,o,t⟩ x.1 x.2) (End:=fun r=>isB [[44]] r=false) (most:=most) L l r []
  (fun x hx l' r' acc a ha hM => by
   show cD most ⟨l,E,o,t⟩ l' acc=_
   unfold cD
   rw [iN oM]
   exact xq (x,_) r' (oi hM) (nQ dM) oM dM)
  (fun x hx l' acc ha hM he => by
   show cD most ⟨l,E,o,t⟩ l' acc=_
   unfold cD
   rw [iN oM]
   exact xr (x,_) r (oi hM) (qb he) oM dM) h0 (by simpa using hl) h hr
 exact congrArg (Option.bind · fun z=>some z) this
theorem xt{a:Int}{l:List aa}:Fz (aa.mk 4 a [44] 0 :: l):=sY dM
theorem yE{E o t:Int}{L:List aw}{most:Nat}{l r:List aa}(hm:most≤1000)(h0:L≠[])(hl:L.length≤most)(hd:∀ d∈L,ku d=0)(h:Mt l (jy (L.map nf)) r)(hr:isB [[44]] r=false∧Fz r∧isB [[94]] r=false) :
  fb most ⟨l,E,o,t⟩=some (.inl (L,r)):=by
 unfold fb
 have:=v6 (K:=nf) (body:=fun x:List aa×List aw=>cG most ⟨l,E,o,t⟩ x.1 x.2) (End:=fun r=>isB [[44]] r=false∧Fz r∧isB [[94]] r=false) (most:=most) L l r []
  (fun x hx l' r' acc a ha hM => by
   show cG most ⟨l,E,o,t⟩ l' acc=_
   unfold cG
   rw [iN oM]
   exact xq (x,_) r' (xp (hd x hx) hM xt (dZ dM)) (nQ dM) oM dM)
  (fun x hx l' acc ha hM he => by
   show cG most ⟨l,E,o,t⟩ l' acc=_
   unfold cG
   rw [iN oM]
   exact xr (x,_) r (xp (hd x hx) hM he.2.1 he.2.2) (qb he.1) oM dM) h0 (by simpa using hl) h hr
 exact congrArg (Option.bind · fun z=>some z) this
theorem DC{E o t:Int}{L:List (List ag)}{most:Nat}{l r:List aa}(hm:most≤1000)(h0:L≠[])(hl:L.length≤most)(hd:∀ d∈L,gn d=0)(h:Mt l (jy (L.map mP)) r)(hr:isB [[44]] r=false∧Fz r) :
  fO most ⟨l,E,o,t⟩=some (.inl (L,r)):=by
 unfold fO
 have:=v6 (K:=mP) (body:=fun x:List aa×List (List ag)=>cH most ⟨l,E,o,t⟩ x.1 x.2) (End:=fun r=>isB [[44]] r=false∧Fz r) (most:=most) L l r []
  (fun x hx l' r' acc a ha hM => by
   show cH most ⟨l,E,o,t⟩ l' acc=_
   unfold cH
   rw [iN oM]
   exact xq (x,_) r' (uE (hd x hx) hM xt) (nQ dM) oM dM)
  (fun x hx l' acc ha hM he => by
   show cH most ⟨l,E,o,t⟩ l' acc=_
   unfold cH
   rw [iN oM]
   exact xr (x,_) r (uE (hd x hx) hM he.2) (qb he.1) oM dM) h0 (by simpa using hl) h hr
 exact congrArg (Option.bind · fun z=>some z) this
abbrev RX:=(ae×(List aa)×Int×Int) ⊕ (Int×Int)
def Nx(l:List aa):Prop:=∃ x r,l=x :: r∧br x=false
theorem AV{L:List Ω}{l:List aa}(h:isB L l=true)(hL:([125]:Ω) ∉ L):Nx l:=by
 obtain ⟨x,r,rfl,_,hx⟩:=pw h;exact ⟨x,r,rfl,rj hx hL⟩
theorem AW{E o t:Int}{l:List aa}(h:Nx l):Pn (aM ⟨l,E,o,t⟩) (fun r=>Cs l r.2):=by
 obtain ⟨x,r,rfl,hx⟩:=h
 rw [gq];exact bV (vi hx)
theorem sZ(x:Ω)(l:List Ω)(h:l.length≤9000000):dX x l=some (lS l x):=by
 rw [← iI l x h];rfl
theorem CQ{E o t:Int}{l:List aa}:Pn (cT ⟨l,E,o,t⟩) (fun w=>w≠[]→∃ x r,l=x :: r∧x.text=w):=by
 unfold cT
 cases l with
 |nil=>rw [iP (by simp)];exact bV fun h=>absurd rfl h
 |cons x r =>
  rw [iN (by simp;omega),iP (by simp)]
  split
  ·exact bV fun h=>absurd rfl h
  ·exact bV fun _=>⟨x,r,rfl,rfl⟩
def opL:List (List Ω):=lit [lit [[111,114],[120,111,114]],lit [[97,110,100]],lit [[60],[61,61]],lit [[43],[45]],lit [[42],[47],[37]]]
def opN:List (List Int):=lit [lit [11,12],lit [10],lit [8,9],lit [1,2],lit [3,4,5]]
theorem uF:∀ i,i<5→(opL.getD i default).length=(opN.getD i default).length∧([125]:Ω) ∉ opL.getD i default∧(opL.getD i default).length≤3:=by decide
theorem GS{E o t n:Int}{l:List aa}(h0:0≤n)(h5:n<5):Pn (bw n ⟨l,E,o,t⟩) (fun k=>k≠0→Nx l):=by
 obtain ⟨f1,f2,f3⟩:=uF n.toNat oM
 unfold bw
 rw [iP ⟨h0,h5⟩]
 refine yC (ef (opL.getD n.toNat default) l E o t oM) ?_
 split
 ·rename_i hi
  obtain ⟨x,r,rfl,hk,hx⟩:=pw hi
  rw [iP (by simp)]
  refine yC (iI (opL.getD n.toNat default) x.text oM) ?_
  have h1:=zx hx
  have h2:=vZ (L:=opL.getD n.toNat default) (x:=x.text)
  rw [f1] at h2
  split
  ·exact bV fun _=>⟨x,r,rfl,rj hx f2⟩
  ·rename_i hh
   exact absurd (And.intro h1 h2) hh
 ·exact bV fun h=>absurd rfl h
theorem ou(x:ae):ae.mk x.op x.k x.n x.name x.s x.l=x:=by cases x;rfl
def Fo(n:Int)(r:List aa):Prop:=(∀ i:Nat,n≤(i:Int)→i<5→isB (opL.getD i default) r=false)∧isB [[91]] r=false
theorem Gx{n m:Int}{r:List aa}(h:n≤m)(hf:Fo n r):Fo m r:=⟨fun i h1 h2=>hf.1 i oM h2,hf.2⟩
theorem ow{k a n:Int}{w:Ω}{l:List aa}(h:decide (∀ i:Nat,i<5→w ∉ opL.getD i default)=true∧decide (w≠[91])=true):Fo 0 (aa.mk k a w n :: l) :=
 ⟨fun i _ hi=>dZ (of_decide_eq_true h.1 i hi),dZ (by simpa using of_decide_eq_true h.2)⟩
theorem Gy(n:Int)(h:0≤n):∃ c r,Go.Lib.itoa n=c :: r∧tDg c:=by
 obtain ⟨d1,d2,d3,d4⟩:=uX n.toNat
 unfold Go.Lib.itoa
 rw [iN oM]
 cases hd:Go.Lib.decDigits n.toNat with
 |nil=>exact absurd hd d3
 |cons c r=>exact ⟨c,r,rfl,d1 c (by rw [hd];simp)⟩
theorem CR{n:Int}(h:0≤n){W:List Ω}(hW:W.all (fun w=>w.head?.all fun c=>decide (¬ tDg c))=true):Go.Lib.itoa n ∉ W:=fun hm=>by
 obtain ⟨c,r,e,hc⟩:=Gy n h
 have:=List.all_eq_true.1 hW _ hm
 rw [e] at this
 simp only [List.head?_cons,Option.all_some,decide_eq_true_eq] at this
 exact this hc
def RKx(E:Int)(rc:Int→af→Option RX)(k:Int):Prop :=
 ∀ (n o t m:Int) (N:Nat) (x:ae) (l r:List aa),0≤n→n≤5→0≤o→o≤60→exF x=0→x.sz<N→m≤n+1 →
  (rkE x<m∨n+1≤rkE x∨(x.op=6∧Fo 0 r))→o+2 * (pn x:Int)+(if rkE x<m then 1 else 0)≤63→0≤t→t+(pn x:Int)≤1000000 →
  7 * (60 - o)+(6 - n)≤k→Fo n r→Mt l (atK (exK N) x m) r→rc n ⟨l,E,o,t⟩=some (.inl (x,r,o,t+pn x))
theorem RKx.whole{E k o t:Int}{rc:Int→af→Option RX}(h:RKx E rc k){N:Nat}{x:ae}{l r:List aa}(ho0:0≤o)(ho:o≤60)(hx:exF x=0)(hs:x.sz<N)(hb:o+2 * (pn x:Int)≤63)(ht:0≤t)(ht2:t+(pn x:Int)≤1000000)
  (hk:7 * (60 - o)+6≤k) (hf:Fo 0 r) (hm:Mt l (exK N x) r):rc 0 ⟨l,E,o,t⟩=some (.inl (x,r,o,t+pn x)):=by
 have hr:=qz x
 refine h 0 o t 0 N x l r dM dM ho0 ho hx hs dM ?_ (by rw [iN oM];omega) ht ht2 oM hf ?_
 ·by_cases h0:1≤rkE x
  ·exact .inr (.inl h0)
  ·refine .inr (.inr ⟨?_,hf⟩)
   have h2:rkE x=0:=by omega
   unfold rkE at h2
   by_cases c6:x.op=6
   ·exact c6
   ·rw [iN c6] at h2
    split at h2
    ·omega
    ·split at h2
     ·rename_i c5
      split at h2
      ·omega
      ·have hk:=(it (eok hx).form).2.2.1 c5
       have key:∀ i:Nat,i<12→nc.getD (i+1) 0=0→i+1=6∨i+1=7:=by decide
       have:=key (x.k.toNat - 1) oM (by rw [show x.k.toNat - 1+1=x.k.toNat by omega];exact h2)
       omega
     ·omega
 ·unfold atK paK
  rw [iN oM];exact hm
theorem fl(x:ae)(l:List ae):pns (x :: l)=pn x+pns l:=by rw [pns]
theorem Gz{l:List ae}{x:ae}(h:x∈l):pn x≤pns l:=by
 induction l with
 |nil=>cases h
 |cons y l ih =>
  rw [fl]
  rcases List.mem_cons.1 h with rfl|h
  ·omega
  ·have:=ih h;omega
theorem sx(x:ae):1≤pn x:=by rw [tB];omega
theorem ng{op k n:Int}{name:Ω}{ns nl:Nat}(h:jX op k n name ns nl) :
  (op=5→nl=2)∧(op=7→nl=1∨nl=2)∧(op=8∨op=9∨op=14∨op=15→nl=2)∧(op=10→nl=1∧ns=1)∧(op=12→nl=3)∧(op=13→nl=1∧ns=2)∧(¬ op=10→¬ op=13→ns=0) ∧
  (¬ op=4→¬ op=5→¬ op=7→¬ op=8→¬ op=9→k=0)∧(¬ op=1→¬ op=2→n=0)∧(¬ op=3→name=[])∧(op=1∨op=2∨op=3→nl=0):=by
 obtain ⟨f0,f4,f5,f6,f7,f2,fs⟩:=it h
 obtain ⟨h1,h2,h3,h4,h5,h6,h7⟩:=h
 have hn:¬ op=1→¬ op=2→n=0:=fun a b=>by
  by_cases c:n=0
  ·exact c
  ·exact absurd ⟨by omega,c⟩ h5
 have hnm:¬ op=3→name=[]:=fun a=>h7.resolve_left a
 obtain rfl|rfl|rfl|rfl|rfl|rfl|rfl|rfl|rfl|rfl|rfl|rfl|rfl|rfl|rfl:op=1∨op=2∨op=3∨op=4∨op=5∨op=6∨op=7∨op=8∨op=9∨op=10∨op=11∨op=12∨op=13∨op=14∨op=15:=by omega
 all_goals
  simp [nL] at h2 h3 h4
  refine ⟨?_,?_,?_,?_,?_,?_,?_,?_,hn,hnm,?_⟩<;>omega
theorem AY{E o t a n:Int}{w:Ω}{r:List aa}:cT ⟨aa.mk 1 a w n :: r,E,o,t⟩=some w:=by
 unfold cT
 rw [iN (by simp only [List.length_cons];omega),iP (by simp only [List.length_cons];omega)]
 exact iN (show ¬ ¬ (1:Int)=1 by decide)
theorem zz{E o t k:Int}{l r:List aa}(hk:1≤k∧k≤14)(h:Mt l [kW (lb k)] r):cP ⟨l,E,o,t⟩=some (.inl (k,r)):=by
 have key:∀ i:Nat,i<14→lS (lit [([]:Ω),[97,100,100],[115,117,98],[109,117,108],[100,105,118],[109,111,100],[109,105,110],[109,97,120],[108,101,115,115],[101,113],[97,110,100],[111,114],[120,111,114],[110,101,103],[110,111,116]]) (xd.getD (i+1) [])=((i+1:Nat):Int):=by decide
 have hi:=key (k.toNat - 1) oM
 rw [show k.toNat - 1+1=k.toNat by omega] at hi
 obtain ⟨a,rfl⟩:=iy h
 unfold cP
 show (cT ⟨aa.mk 1 a (lb k) 0 :: r,E,o,t⟩).bind _=_
 rw [AY,bSq]
 rw [sZ _ _ (by simp [lit]),bSq]
 unfold lb
 rw [hi,iN oM,gq,bSq,Int.toNat_of_nonneg oM]
theorem sy{E k o t0:Int}{rc:Int→af→Option RX}(hr:RKx E rc k)(P:List aa){N:Nat}{r:List aa}(n:Int)(ho0:0≤o)(ho:o≤60)(hk:7 * (60 - o)+6≤k)(hf:Fo 0 r) :
  ∀ (L:List ae) (l:List aa) (t:Int) (acc:List ae),(∀ x∈L,exF x=0∧x.sz<N∧o+2 * (pn x:Int)≤63)→0≤t→t+(pns L:Int)≤1000000→n=(acc.length:Int)+L.length→n≤100→Mt l (tlK (L.map (exK N))) r →
  dh (fun x:List aa×Int×Int×List ae=>bC rc ⟨P,E,o,t0⟩ n x.1 x.2.1 x.2.2.1 x.2.2.2) (l,o,t,acc)=some (.inl (r,o,t+pns L,acc++L))
 |[],l,t,acc,_,_,_,hn,_,hm=>by
  obtain rfl:=lG hm
  refine ee ?_
  show bC rc ⟨P,E,o,t0⟩ n l o t acc=_
  unfold bC
  rw [iN (by simp only [List.length_nil] at hn;omega)]
  simp [pns]
 |x :: L,l,t,acc,hx,ht,ht2,hn,hn2,hm=>by
  obtain ⟨x1,x2,x3⟩:=hx x (by simp)
  rw [fl] at ht2 ⊢
  obtain ⟨m1,k1,k2⟩:=dH (a:=[kS [44]]) (b:=exK N x++tlK (L.map (exK N))) hm
  obtain ⟨m2,k3,k4⟩:=dH k2
  have hf2:Fo 0 m2:=by
   cases L with
   |nil=>obtain rfl:=lG k4;exact hf
   |cons y L=>obtain ⟨a,m3,rfl,_⟩:=dg k4;exact ow dM
  refine (gi (s':=(m2,o,t+(pn x:Int),acc++[x])) ?_).trans ?_
  ·show bC rc ⟨P,E,o,t0⟩ n l o t acc=_
   unfold bC
   rw [iP (by simp only [List.length_cons] at hn;omega),oh k1]
   simp only [bSq,Sum.elim_inl]
   rw [hr.whole ho0 ho x1 x2 x3 ht oM hk hf2 k3]
   simp only [bSq,Sum.elim_inl]
   rw [iP (nD (by simp only [List.length_cons] at hn;omega) dM)];rfl
  ·have:=sy hr P (t0:=t0) n ho0 ho hk hf L m2 (t+pn x) (acc++[x]) (fun y hy=>hx y (by simp [hy])) oM oM (by simp only [List.length_append,List.length_cons,List.length_nil] at hn ⊢;omega) hn2 k4
   rw [this]
   simp only [List.append_assoc,List.cons_append,List.nil_append]
   congr 3
   simp only [Prod.mk.injEq,and_true,true_and];omega
theorem DD{E k o t:Int}{rc:Int→af→Option RX}(hr:RKx E rc k){N:Nat}{x:ae}{l r:List aa}(ho0:0≤o)(ho:o≤60)(hk:7 * (60 - o)+6≤k)(hf:Fo 0 r)(hop:x.op=5∨x.op=7∨x.op=8∨x.op=9∨x.op=10∨x.op=12∨x.op=13∨x.op=14∨x.op=15)
  (hx:∀ y∈x.l,exF y=0∧y.sz<N∧o+2 * (pn y:Int)≤63) (hform:jX x.op x.k x.n x.name x.s.length x.l.length) (h7:x.op=7→isB [[44]] r=false) (ht:0≤t) (ht2:t+(pns x.l:Int)≤1000000) (hm:Mt l (jy (x.l.map (exK N))) r) :
  dy rc x.op ⟨l,E,o,t⟩=some (.inl (x.l,r,o,t+pns x.l)):=by
 obtain ⟨g5,g7,g8,g10,g12,g13,_⟩:=ng hform
 have hlen:x.l.length≤3∧0<x.l.length:=by omega
 cases hL:x.l with
 |nil=>rw [hL] at hlen;simp at hlen
 |cons y L =>
  rw [hL] at hx hm ht2 hlen g5 g7 g8 g10 g12 g13
  simp only [List.length_cons] at hlen g5 g7 g8 g10 g12 g13
  rw [fl] at ht2 ⊢
  obtain ⟨y1,y2,y3⟩:=hx y (by simp)
  obtain ⟨m1,k1,k2⟩:=dH (a:=exK N y) (b:=tlK (L.map (exK N))) hm
  have hf2:Fo 0 m1:=by
   cases L with
   |nil=>obtain rfl:=lG k2;exact hf
   |cons z L=>obtain ⟨a,m3,rfl,_⟩:=dg k2;exact ow dM
  have hj:∀ n:Int,n=1+(L.length:Int)→bp rc ⟨l,E,o,t⟩ (y,m1,o,t+(pn y:Int)) n=some (.inl (y :: L,r,o,t+((pn y+pns L:Nat):Int))):=by
   intro n hn
   unfold bp
   have:=sy hr l (t0:=t) (o:=o) n ho0 ho hk hf L m1 (t+pn y) [y] (fun z hz=>hx z (by simp [hz])) oM oM (by simp only [List.length_cons,List.length_nil];omega) oM k2
   show (dh (fun x:List aa×Int×Int×List ae=>bC rc ⟨l,E,o,t⟩ n x.1 x.2.1 x.2.2.1 x.2.2.2) (m1,o,t+(pn y:Int),[y])).bind _=_
   rw [this]
   show some (Sum.inl (y :: L,r,o,t+(pn y:Int)+(pns L:Int)))=_
   congr 3
   simp only [Prod.mk.injEq,and_true,true_and];omega
  unfold dy
  rw [hr.whole ho0 ho y1 y2 y3 ht oM hk hf2 k1]
  simp only [bSq,Sum.elim_inl]
  rw [iP dM,iP dM,iP dM,iP oM]
  have hj':∀ n:Int,n=1+(L.length:Int)→bp rc ⟨l,E,o,t⟩ (y,m1,o,t+(pn y:Int)) n=some (.inl (y :: L,r,o,t+((pn y+pns L:Nat):Int))):=hj
  by_cases c7:x.op=7
  ·rw [c7,iN dM,iP rfl,ef _ _ _ _ _ (by simp [lit]),bSq]
   rcases g7 c7 with hl|hl
   ·have hL0:L=[]:=List.length_eq_zero_iff.1 oM
    have e:isB (lit [[44]]) m1=false:=by subst hL0;obtain rfl:=lG k2;exact h7 c7
    rw [e,iN dM]
    exact hj _ (by rw [hL0];decide)
   ·obtain ⟨z,hz⟩:∃ z,L=[z]:=Gn oM
    have e:isB (lit [[44]]) m1=true:=by
     subst hz
     obtain ⟨a,m3,rfl,_⟩:=dg k2;exact jc (by show (4:Int)≠2;decide) (by show [44]∈_;simp [lit])
    rw [e,iP rfl]
    exact hj _ (by rw [hz];rfl)
  ·rcases hop with c|c|c|c|c|c|c|c|c
   ·rw [c,iP dM];exact hj _ (by have:=g5 c;omega)
   ·exact absurd c c7
   ·rw [c,iP dM];exact hj _ (by have:=g8 oM;omega)
   ·rw [c,iP dM];exact hj _ (by have:=g8 oM;omega)
   ·rw [c,iN dM,iN dM];exact hj _ (by have:=(g10 c).1;show (1:Int)=_;omega)
   ·rw [c,iN dM,iN dM];exact hj _ (by have:=g12 c;show (3:Int)=_;omega)
   ·rw [c,iN dM,iN dM];exact hj _ (by have:=(g13 c).1;show (1:Int)=_;omega)
   ·rw [c,iP dM];exact hj _ (by have:=g8 oM;omega)
   ·rw [c,iP dM];exact hj _ (by have:=g8 oM;omega)
theorem sA{E:Int}(op:Int)(P:List aa)(o0 t0:Int)(Y:List ae×List aa×Int×Int){r:List aa}(hf:Fz r)(hop:-9223372036854775808≤op∧op≤9223372036854775807) :
  ∀ (S:List (List ag)) (l:List aa) (acc:List (List ag)),(∀ s∈S,gn s=0)→(pY (((13,2):Int×Int) :: (((10,1):Int×Int) :: ([]:List (Int×Int)))) op).getD 0=(acc.length:Int)+S.length→acc.length+S.length≤2→Mt l (tlK (S.map mP)) r →
  dh (fun x:List aa×List (List ag)×Int=>bq op ⟨P,E,o0,t0⟩ Y x.1 x.2.1 x.2.2) (l,acc,(acc.length:Int))=some (.inl (r,acc++S))
 |[],l,acc,_,hn,_,hm=>by
  obtain rfl:=lG hm
  refine ee ?_
  show bq op ⟨P,E,o0,t0⟩ Y l acc (acc.length:Int)=_
  unfold bq
  rw [hn,iN (by simp)]
  simp
 |s :: S,l,acc,hs,hn,hl,hm=>by
  obtain ⟨m1,k1,k2⟩:=dH (a:=[kS [44]]) (b:=mP s++tlK (S.map mP)) hm
  obtain ⟨m2,k3,k4⟩:=dH k2
  have hf2:Fz m2:=by
   cases S with
   |nil=>obtain rfl:=lG k4;exact hf
   |cons y S=>obtain ⟨a,m3,rfl,_⟩:=dg k4;exact xt
  simp only [List.length_cons] at hn hl
  refine (gi (s':=(m2,acc++[s],((acc++[s]).length:Int))) ?_).trans ?_
  ·show bq op ⟨P,E,o0,t0⟩ Y l acc (acc.length:Int)=_
   unfold bq
   rw [hn,iP oM,oh k1]
   simp only [bSq,Sum.elim_inl]
   rw [uE (hs s (by simp)) k3 hf2]
   simp only [bSq,Sum.elim_inl]
   rw [iP (nD oM dM),wrs acc.length oM,List.length_append];rfl
  ·have:=sA (E:=E) op P o0 t0 Y hf hop S m2 (acc++[s]) (fun y hy=>hs y (by simp [hy])) (by rw [hn];simp only [List.length_append,List.length_cons,List.length_nil];omega) (by simp only [List.length_append,List.length_cons,List.length_nil];omega) k4
   rw [this];simp
theorem DE{x:ae}(h:exF x=0):∀ s∈x.s,gn s=0:=by
 rw [u9] at h
 exact pO (gN (gN (gN (gN h).2).2).2).1
theorem AZ{a:Int}{l:List aa}:Fo 0 (aa.mk 4 a [41] 0 :: l)∧Fz (aa.mk 4 a [41] 0 :: l):=⟨ow dM,sY dM⟩
def py(x:ae):Prop:=(x.op=5∧(x.k=6∨x.k=7))∨x.op=7∨x.op=8∨x.op=9∨x.op=10∨x.op=12∨x.op=13∨x.op=14∨x.op=15
theorem py.op{x:ae}(h:py x):x.op=5∨x.op=7∨x.op=8∨x.op=9∨x.op=10∨x.op=12∨x.op=13∨x.op=14∨x.op=15:=by unfold py at h;omega
theorem py.k0{x:ae}(h:py x)(hx:exF x=0):(if x.op=7∨x.op=8∨x.op=9 then x.k else if x.op=5 then x.k else 0)=x.k∧x.n=0∧x.name=[]:=by
 obtain ⟨_,_,_,_,_,_,_,g8,g9,g10,_⟩:=ng (eok hx).form
 have hop:=h.op
 refine ⟨?_,g9 oM oM,g10 oM⟩
 split
 ·rfl
 ·split
  ·rfl
  ·exact (g8 oM oM oM oM oM).symm
theorem BQ{E k o t:Int}{rc:Int→af→Option RX}(hr:RKx E rc k){N:Nat}{x:ae}{l r:List aa}(ho0:0≤o)(ho:o≤60)(hk:7 * (60 - o)+6≤k)(hc:py x)(hx:exF x=0)(hs:∀ y∈x.l,y.sz<N∧o+2 * (pn y:Int)≤63)
  (ht:0≤t) (ht2:t+(pns x.l:Int)+1≤1000000) (hm:Mt l (kS [40] :: ((if x.op=7∨x.op=8∨x.op=9 then [kW (lb x.k),kS [44]] else [])++(jy (x.l.map (exK N))++(tlK (x.s.map mP)++[kS [41]])))) r) :
  du rc x.op x.op (if x.op=5 then x.k else 0) 0 [] [] ⟨l,E,o,t⟩ []=some (.inl (x.op,x.k,0,[],x.l,x.k,x.l,r,o,t+pns x.l+1,x.s)):=by
 have ok:=eok hx
 have hop:=hc.op
 obtain ⟨g5,g7,g8,g10,g12,g13,gs,_⟩:=ng ok.form
 obtain ⟨hk0,_,_⟩:=hc.k0 hx
 obtain ⟨m1,k1,k2⟩:=dH (a:=[kS [40]]) hm
 obtain ⟨m2,k3,k4⟩:=dH k2
 obtain ⟨m3,k5,k6⟩:=dH k4
 obtain ⟨m4,k7,k8⟩:=dH k6
 have hk8:=k8
 obtain ⟨a8,h8⟩:=iy k8
 have h8:m4=aa.mk 4 a8 [41] 0 :: r:=h8
 have f4:Fo 0 m4∧Fz m4:=by rw [h8];exact AZ
 have f3:Fo 0 m3:=by
  cases hS:x.s with
  |nil=>rw [hS] at k7;obtain rfl:=lG k7;exact f4.1
  |cons s S=>rw [hS] at k7;obtain ⟨a,m5,rfl,_⟩:=dg k7;exact ow dM
 have hj:bD rc x.op x.op 0 [] ⟨l,E,o,t⟩ [] x.k m2=some (.inl (x.op,x.k,0,[],x.l,x.k,x.l,r,o,t+pns x.l+1,x.s)):=by
  unfold bD
  rw [DD hr ho0 ho hk f3 hop (fun y hy=>⟨ok.parts y hy,hs y hy⟩) ok.form (fun c7=>by
   have h0:x.s=[]:=List.length_eq_zero_iff.1 (gs oM oM)
   rw [h0] at k7;obtain rfl:=lG k7
   rw [h8];exact dZ dM) ht oM k5]
  simp only [bSq,Sum.elim_inl]
  rw [iP dM,iP oM]
  have hcnt:(pY (((13,2):Int×Int) :: (((10,1):Int×Int) :: ([]:List (Int×Int)))) x.op).getD 0=(([]:List (List ag)).length:Int)+x.s.length:=by
   rcases hop with c|c|c|c|c|c|c|c|c
   ·rw [c,gs oM oM];decide
   ·rw [c,gs oM oM];decide
   ·rw [c,gs oM oM];decide
   ·rw [c,gs oM oM];decide
   ·rw [c,(g10 c).2];decide
   ·rw [c,gs oM oM];decide
   ·rw [c,(g13 c).2];decide
   ·rw [c,gs oM oM];decide
   ·rw [c,gs oM oM];decide
  have hslen:x.s.length≤2:=by
   rcases hop with c|c|c|c|c|c|c|c|c<;>first|(have:=(g10 c).2;omega)|(have:=(g13 c).2;omega)|(have:=gs oM oM;omega)
  have:=sA (E:=E) x.op l o t (x.l,m3,o,t+(pns x.l:Int)) f4.2 oM x.s m3 [] (DE hx) hcnt (by simpa using hslen) k7
  show (dh (fun z:List aa×List (List ag)×Int=>bq x.op ⟨l,E,o,t⟩ (x.l,m3,o,t+(pns x.l:Int)) z.1 z.2.1 z.2.2) (m3,[],((0:Nat):Int))).bind _=_
  rw [show ((0:Nat):Int)=(([]:List (List ag)).length:Int) from rfl,this]
  simp only [bSq,Sum.elim_inl,List.nil_append]
  unfold cC
  rw [oh hk8]
  simp only [bSq,Sum.elim_inl]
  unfold eT
  rw [bSq,wr (n:=t+(pns x.l:Int)+1) oM oM]
 unfold du
 rw [oh k1]
 simp only [bSq,Sum.elim_inl]
 by_cases c:x.op=7∨x.op=8∨x.op=9
 ·rw [iP c] at k3
  have hkk:=(it ok.form).2.2.2.2.1 c
  obtain ⟨m5,k9,k10⟩:=dH (a:=[kW (lb x.k)]) (b:=[kS [44]]) k3
  rw [iP oM,iP oM,zz hkk k9]
  simp only [bSq,Sum.elim_inl]
  rw [oh k10]
  simp only [bSq,Sum.elim_inl]
  exact hj
 ·rw [iN c] at k3
  obtain rfl:=lG k3
  rw [iN c] at hk0
  rw [hk0]
  by_cases c9:x.op≤9
  ·rw [iP c9,iN oM];exact hj
  ·rw [iN c9];exact hj
def nM:List Ω:=lit [([109,97,112]:Ω),[102,111,108,100],[115,99,97,110],[102,105,108,108],[119,105,116,104],[115,108,105,99,101],[99,97,116],[112,114,101],[109,105,110],[109,97,120]]
def nh:List Int:=lit [7,8,9,10,12,13,14,15,5,5]
theorem vj{x:ae}(h:py x):∃ i:Nat,i<10∧lS nM (if x.op=5 then lb x.k else lV x.op)=(i:Int)∧nh.getD i default=x.op∧(if i=8 then 6 else if i=9 then 7 else 0:Int)=(if x.op=5 then x.k else 0) ∧
  (if x.op=5 then lb x.k else lV x.op) ∉ ([[45],[110,111,116],[116,114,117,101],[102,97,108,115,101],[40],[105,102],[41],[99,97,108,108]]:List Ω):=by
 rcases h with ⟨c,d|d⟩|c|c|c|c|c|c|c|c
 ·rw [c,d];exact ⟨8,by decide⟩
 ·rw [c,d];exact ⟨9,by decide⟩
 ·rw [c,iN (show ¬ (7:Int)=5 by decide),iN (show ¬ (7:Int)=5 by decide)];exact ⟨0,by decide⟩
 ·rw [c,iN (show ¬ (8:Int)=5 by decide),iN (show ¬ (8:Int)=5 by decide)];exact ⟨1,by decide⟩
 ·rw [c,iN (show ¬ (9:Int)=5 by decide),iN (show ¬ (9:Int)=5 by decide)];exact ⟨2,by decide⟩
 ·rw [c,iN (show ¬ (10:Int)=5 by decide),iN (show ¬ (10:Int)=5 by decide)];exact ⟨3,by decide⟩
 ·rw [c,iN (show ¬ (12:Int)=5 by decide),iN (show ¬ (12:Int)=5 by decide)];exact ⟨4,by decide⟩
 ·rw [c,iN (show ¬ (13:Int)=5 by decide),iN (show ¬ (13:Int)=5 by decide)];exact ⟨5,by decide⟩
 ·rw [c,iN (show ¬ (14:Int)=5 by decide),iN (show ¬ (14:Int)=5 by decide)];exact ⟨6,by decide⟩
 ·rw [c,iN (show ¬ (15:Int)=5 by decide),iN (show ¬ (15:Int)=5 by decide)];exact ⟨7,by decide⟩
theorem Fk{E k o t:Int}{rc:Int→af→Option RX}(hr:RKx E rc k){N:Nat}{x:ae}{l r:List aa}(ho0:0≤o)(ho:o≤60)(hk:7 * (60 - o)≤k)(hc:py x)(hx:exF x=0)(hs:x.sz<N+1)(hb:o+2 * (pn x:Int)≤63)
  (ht:0≤t) (ht2:t+(pn x:Int)≤1000000) (hm:Mt l (zr (exK N) x) r):dY rc ⟨l,E,o,t⟩=some (.inl (x,r,o,t+pn x)):=by
 have hz:=nP x
 have hpn:=tB x
 have hlen:0<x.l.length:=by
  obtain ⟨g5,g7,g8,g10,g12,g13,gs,_⟩:=ng (eok hx).form
  have:=hc.op
  omega
 have hp1:1≤pns x.l:=by
  cases hL:x.l with
  |nil=>rw [hL] at hlen;simp at hlen
  |cons y L=>rw [fl];have:=sx y;omega
 obtain ⟨_,hn0,hname0⟩:=hc.k0 hx
 obtain ⟨i,hi,hidx,hio,hik,_⟩:=vj hc
 obtain ⟨a,m,rfl,h2⟩:=dg hm
 unfold dY
 show (cT ⟨aa.mk 1 a (if x.op=5 then lb x.k else lV x.op) 0 :: m,E,o,t⟩).bind _=_
 rw [AY,bSq,sZ _ _ (by simp [lit]),bSq]
 rw [show lS (lit [([109,97,112]:Ω),[102,111,108,100],[115,99,97,110],[102,105,108,108],[119,105,116,104],[115,108,105,99,101],[99,97,116],[112,114,101],[109,105,110],[109,97,120]]) (if x.op=5 then lb x.k else lV x.op)=(i:Int) from hidx]
 rw [iN oM,iP ⟨by omega,by omega⟩]
 have hj:∀ x4:Int,x4=(if x.op=5 then x.k else 0)→bo rc ⟨aa.mk 1 a (if x.op=5 then lb x.k else lV x.op) 0 :: m,E,o,t⟩ (i:Int) x4=some (.inl (x,r,o,t+pn x)):=by
  intro x4 h4
  unfold bo
  rw [tN,show (lit ([7,8,9,10,12,13,14,15,5,5]:List Int)).getD i default=x.op from hio,h4]
  unfold cX
  rw [iN (show ¬ o=60 by omega)]
  simp only
  rw [wr (n:=o+1) oM oM,gq,bSq]
  rw [BQ hr oM oM oM hc hx (fun y hy=>by
   have h1:=ju hy
   have h3:=Gz hy
   exact ⟨by omega,by omega⟩) ht oM h2]
  simp only [bSq,Sum.elim_inl]
  rw [wr (n:=o+1 - 1) oM oM]
  have e:ae.mk x.op x.k 0 [] x.s x.l=x:=by rw [← hn0,← hname0];exact ou x
  rw [e,hpn]
  congr 3
  simp only [Prod.mk.injEq,true_and]
  omega
 by_cases c8:(i:Int)=8
 ·rw [iP c8];exact hj 6 (by rw [← hik,iP oM])
 rw [iN c8]
 by_cases c9:(i:Int)=9
 ·rw [iP c9];exact hj 7 (by rw [← hik,iN oM,iP oM])
 ·rw [iN c9];exact hj 0 (by rw [← hik,iN oM,iN oM])
theorem qA(x:ae)(hx:exF x=0):(rkE x=0∧x.op=6)∨(rkE x=6∧x.op=4)∨(1≤rkE x∧rkE x≤5∧x.op=5∧¬ (x.k=6∨x.k=7))∨(rkE x=7∧(x.op=1∨x.op=2∨x.op=3∨x.op=11∨py x)):=by
 have f0:=(it (eok hx).form).1
 have f5:=(it (eok hx).form).2.2.1
 unfold rkE py
 by_cases c6:x.op=6
 ·rw [iP c6];omega
 rw [iN c6]
 by_cases c4:x.op=4
 ·rw [iP c4];omega
 rw [iN c4]
 by_cases c5:x.op=5
 ·rw [iP c5]
  by_cases k:x.k=6∨x.k=7
  ·rw [iP k];omega
  ·rw [iN k]
   have hk:=(f5 c5).2
   have key:∀ i:Nat,i<12→¬ (i+1=6∨i+1=7)→1≤nc.getD (i+1) 0∧nc.getD (i+1) 0≤5:=by decide
   have:=key (x.k.toNat - 1) oM oM
   rw [show x.k.toNat - 1+1=x.k.toNat by omega] at this
   omega
 ·rw [iN c5];omega
theorem Fl{x:ae}(hx:exF x=0)(h:rkE x<7):2≤pn x:=by
 have f:=it (eok hx).form
 have hl:0<x.l.length:=by
  rcases qA x hx with ⟨_,c⟩|⟨_,c⟩|⟨_,_,c,_⟩|⟨c,_⟩
  ·have:=f.2.2.2.1 (.inl c);omega
  ·have:=(f.2.1 c).1;omega
  ·have:=(f.2.2.1 c).1;omega
  ·omega
 rw [tB]
 cases hL:x.l with
 |nil=>rw [hL] at hl;simp at hl
 |cons y L=>rw [fl];have:=sx y;omega
theorem tY{K:ae→List Tk}{x:ae}{m:Int}(h:¬ rkE x<m):atK K x m=K x:=by unfold atK paK;rw [iN h]
theorem CS{K:ae→List Tk}{x:ae}{m:Int}(h:rkE x<m):atK K x m=kS [40] :: (K x++[kS [41]]):=by unfold atK paK;rw [iP h]
theorem rk{E o t a n kd:Int}{w:Ω}{m r:List aa}{x:ae}{t':Int}(ho0:0≤o)(ho:o<60){X:af→Option RX}(hX:X ⟨m,E,o+1,t⟩=some (.inl (x,r,o+1,t'))) :
  (if o = 60 then (aD 6 ⟨aa.mk kd a w n :: m, E, o, t⟩).bind (fun y => some (.inr (y.1, y.2))) else (aM ⟨aa.mk kd a w n :: m, E, IntKind.wrap .i64 (o + 1), t⟩).bind fun y2 =>
   (X ⟨y2.2,E,IntKind.wrap .i64 (o+1),t⟩).bind fun y3=>Sum.elim (fun y6=>some (.inl (y6.1,y6.2.1,IntKind.wrap .i64 (y6.2.2.1 - 1),y6.2.2.2))) (fun y7=>some (.inr (y7.1,y7.2))) y3:Option RX)=some (.inl (x,r,o,t')):=by
 rw [iN oM,wr (n:=o+1) oM oM,gq,bSq,hX]
 simp only [bSq,Sum.elim_inl]
 rw [wr (n:=o+1 - 1) oM oM]
 congr 3
 simp only [Prod.mk.injEq,true_and,and_true];omega
theorem xu{m:Option RX}{x:ae}{r:List aa}{o t:Int}(h:m=some (.inl (x,r,o,t))) :
  (m.bind fun y1=>Sum.elim (fun y4=>some (.inl (y4.1,y4.2.1,y4.2.2.1,y4.2.2.2))) (fun y5=>some (.inr (y5.1,y5.2))) y1:Option RX)=some (.inl (x,r,o,t)):=by rw [h];rfl
section
variable {E k o t:Int} {rc:Int→af→Option RX} {N:Nat} {x:ae} {l r:List aa}
theorem DF{a:Int}{w:Ω}{m:List aa}(h:w ∉ ([[45],[110,111,116],[116,114,117,101],[102,97,108,115,101],[40],[105,102],[41],[99,97,108,108]]:List Ω)) :
  aV rc ⟨aa.mk 1 a w 0 :: m,E,o,t⟩=bI rc ⟨aa.mk 1 a w 0 :: m,E,o,t⟩:=by
 simp only [List.mem_cons,List.not_mem_nil,or_false,not_or] at h
 unfold aV
 rw [iP (by simp only [List.length_cons];omega),iP (by simp only [List.length_cons];omega)]
 refine (iN (show ¬ (1:Int)=3 by decide)).trans ?_
 rw [iP (by simp only [List.length_cons];omega)]
 refine (iN (show ¬ (1:Int)=2 by decide)).trans ?_
 rw [ef _ _ _ _ _ (by simp [lit]),dZ (by simp [lit,h]),bSq,iN dM,ef _ _ _ _ _ (by simp [lit]),dZ (by simp [lit,h]),bSq,iN dM,ef _ _ _ _ _ (by simp [lit]),dZ (by simp [lit,h]),bSq,iN dM]
theorem Fp{a n:Int}(ht:0≤t)(ht2:t+1≤1000000):aV rc ⟨aa.mk 3 a (Go.Lib.itoa n) n :: r,E,o,t⟩=some (.inl (ae.mk 1 0 n [] [] [],r,o,t+1)):=by
 unfold aV
 rw [iP (by simp only [List.length_cons];omega),iP (by simp only [List.length_cons];omega)]
 refine (iP (show (3:Int)=3 from rfl)).trans ?_
 rw [gq,bSq]
 unfold dW
 rw [bSq,wr (n:=t+1) oM oM]
theorem DG{a:Int}{w:Ω}(ht:0≤t)(ht2:t+1≤1000000):aV rc ⟨aa.mk 2 a w 0 :: r,E,o,t⟩=some (.inl (ae.mk 3 0 0 w [] [],r,o,t+1)):=by
 unfold aV
 rw [iP (by simp only [List.length_cons];omega),iP (by simp only [List.length_cons];omega)]
 refine (iN (show ¬ (2:Int)=3 by decide)).trans ?_
 rw [iP (by simp only [List.length_cons];omega)]
 refine (iP (show (2:Int)=2 from rfl)).trans ?_
 have hn:bg ⟨aa.mk 2 a w 0 :: r,E,o,t⟩=some (.inl (w,r)):=oi ⟨[aa.mk 2 a w 0],rfl,rfl⟩
 rw [hn,bSq,Sum.elim_inl]
 unfold dW
 rw [bSq,wr (n:=t+1) oM oM]
theorem BR{a:Int}{b:Bool}(ht:0≤t)(ht2:t+1≤1000000):aV rc ⟨aa.mk 1 a (if b=true then [116,114,117,101] else [102,97,108,115,101]) 0 :: r,E,o,t⟩=some (.inl (ae.mk 2 0 (if b=true then 1 else 0) [] [] [],r,o,t+1)):=by
 have hj:∀ (m:List aa) (v:Int),cE ⟨m,E,o,t⟩ r v=some (.inl (ae.mk 2 0 v [] [] [],r,o,t+1)):=fun m v=>by
  unfold cE cW
  rw [bSq,wr (n:=t+1) oM oM]
 unfold aV
 rw [iP (by simp only [List.length_cons];omega),iP (by simp only [List.length_cons];omega)]
 refine (iN (show ¬ (1:Int)=3 by decide)).trans ?_
 rw [iP (by simp only [List.length_cons];omega)]
 refine (iN (show ¬ (1:Int)=2 by decide)).trans ?_
 rw [ef _ _ _ _ _ (by simp [lit]),jc dM (by cases b<;>simp [lit]),bSq,iP rfl,gq,bSq]
 cases b
 ·exact (iN (show ¬ ([102,97,108,115,101]:Ω)=[116,114,117,101] by decide)).trans (hj _ _)
 ·exact (iP (show ([116,114,117,101]:Ω)=[116,114,117,101] from rfl)).trans (hj _ _)
theorem BS(hr:RKx E rc k)(ho0:0≤o)(hk:7 * (60 - o)≤k)(hx:exF x=0)(hs:x.sz<N)(hb:o+2 * (pn x:Int)+1≤63)(ht:0≤t)(ht2:t+(pn x:Int)≤1000000)(h2:2≤pn x)
  (hm:Mt l (kS [40] :: (exK N x++[kS [41]])) r):aV rc ⟨l,E,o,t⟩=some (.inl (x,r,o,t+pn x)):=by
 obtain ⟨a,m,rfl,h3⟩:=dg hm
 obtain ⟨m2,k1,k2⟩:=dH h3
 have hk2:=k2
 obtain ⟨b,e⟩:=iy k2
 have hf:Fo 0 m2:=by rw [e];exact ow dM
 show aV rc ⟨aa.mk 4 a [40] 0 :: m,E,o,t⟩=_
 unfold aV
 rw [iP (by simp only [List.length_cons];omega),iP (by simp only [List.length_cons];omega)]
 refine (iN (show ¬ (4:Int)=3 by decide)).trans ?_
 rw [iP (by simp only [List.length_cons];omega)]
 refine (iN (show ¬ (4:Int)=2 by decide)).trans ?_
 rw [ef _ _ _ _ _ (by simp [lit]),dZ (by simp [lit]),bSq,iN dM,ef _ _ _ _ _ (by simp [lit]),jc dM (by simp [lit]),bSq,iP rfl]
 refine xu ?_
 unfold cr
 refine rk ho0 oM (X:=dr rc) ?_
 unfold dr
 rw [hr.whole oM oM hx hs oM ht ht2 oM hf k1]
 simp only [bSq,Sum.elim_inl]
 rw [oh hk2];rfl
theorem GA(hr:RKx E rc k)(ho0:0≤o)(hk:7 * (60 - o)≤k)(hx:exF x=0)(hs:x.sz<N+1)(hb:o+2 * (pn x:Int)≤63)(ht:0≤t)(ht2:t+(pn x:Int)≤1000000)(h2:2≤pn x)(c6:x.op=6)(hf:Fo 0 r)
  (hm:Mt l (exK (N+1) x) r):aV rc ⟨l,E,o,t⟩=some (.inl (x,r,o,t+pn x)):=by
 have hm:Mt l (su (exK N) x) r:=hm
 have ok:=eok hx
 have hz:=nP x
 obtain ⟨_,_,_,_,_,_,gs,g8,g9,g10,_⟩:=ng ok.form
 have hl3:=(it ok.form).2.2.2.1 (.inl c6)
 obtain ⟨y1,y2,y3,hL⟩:=Gp hl3
 have hpn:=tB x
 unfold su at hm
 rw [iN oM,iN oM,iN oM,iN oM,iP c6] at hm
 rw [hL] at hm hpn
 rw [fl,fl,fl,show pns []=0 from by rw [pns]] at hpn
 have hsz:=ok.parts
 rw [hL] at hsz
 have z1:=ju (show y1∈x.l by rw [hL];simp)
 have z2:=ju (show y2∈x.l by rw [hL];simp)
 have z3:=ju (show y3∈x.l by rw [hL];simp)
 have hm:Mt l (kW [105,102] :: (exK N y1++(kW [116,104,101,110] :: (exK N y2++(kW [101,108,115,101] :: exK N y3))))) r:=hm
 obtain ⟨a,m,rfl,h3⟩:=dg hm
 obtain ⟨m1,k1,k2⟩:=dH h3
 obtain ⟨m2,k3,k4⟩:=dH (a:=[kW [116,104,101,110]]) k2
 obtain ⟨m3,k5,k6⟩:=dH k4
 obtain ⟨m4,k7,k8⟩:=dH (a:=[kW [101,108,115,101]]) k6
 have f1:Fo 0 m1:=by obtain ⟨b,e⟩:=iy k3;rw [e];exact ow dM
 have f3:Fo 0 m3:=by obtain ⟨b,e⟩:=iy k7;rw [e];exact ow dM
 show aV rc ⟨aa.mk 1 a [105,102] 0 :: m,E,o,t⟩=_
 unfold aV
 rw [iP (by simp only [List.length_cons];omega),iP (by simp only [List.length_cons];omega)]
 refine (iN (show ¬ (1:Int)=3 by decide)).trans ?_
 rw [iP (by simp only [List.length_cons];omega)]
 refine (iN (show ¬ (1:Int)=2 by decide)).trans ?_
 rw [ef _ _ _ _ _ (by simp [lit]),dZ (by simp [lit]),bSq,iN dM,ef _ _ _ _ _ (by simp [lit]),dZ (by simp [lit]),bSq,iN dM,ef _ _ _ _ _ (by simp [lit]),jc dM (by simp [lit]),bSq,iP rfl]
 refine xu ?_
 unfold cw
 refine rk ho0 oM (X:=dt rc) ?_
 unfold dt
 rw [hr.whole oM oM (hsz _ (by simp)) oM oM ht oM oM f1 k1]
 simp only [bSq,Sum.elim_inl]
 rw [Fj k3]
 simp only [bSq,Sum.elim_inl]
 rw [hr.whole oM oM (hsz _ (by simp)) oM oM oM oM oM f3 k5]
 simp only [bSq,Sum.elim_inl]
 rw [Fj k7]
 simp only [bSq,Sum.elim_inl]
 rw [hr.whole oM oM (hsz _ (by simp)) oM oM oM oM oM hf k8]
 simp only [bSq,Sum.elim_inl]
 unfold b9
 simp only [bSq]
 rw [wr (n:=t+(pn y1:Int)+(pn y2:Int)+(pn y3:Int)+1) oM oM]
 have e:ae.mk 6 0 0 [] [] [y1,y2,y3]=x:=by
  have e1:=ou x
  rw [c6,g8 oM oM oM oM oM,g9 oM oM,g10 oM,List.length_eq_zero_iff.1 (gs oM oM),hL] at e1
  exact e1
 rw [show (lit [y1,y2,y3]:List ae)=[y1,y2,y3] from rfl,e,hpn]
 congr 3
 simp only [Prod.mk.injEq,true_and];omega
end
def Hc(l:List aa):Prop:=isB (lit [[41]]) l=false∧isB (lit [[99,97,108,108]]) l=false
theorem sB{k a n:Int}{w:Ω}{l:List aa}(h:w ∉ ([[41],[99,97,108,108]]:List Ω)):Hc (aa.mk k a w n :: l):=by
 simp only [List.mem_cons,List.not_mem_nil,or_false,not_or] at h
 exact ⟨dZ (by simp [lit,h]),dZ (by simp [lit,h])⟩
theorem DH{x:ae}(hx:exF x=0)(c1:¬ x.op=1)(c2:¬ x.op=2)(c3:¬ x.op=3)(c4:¬ x.op=4)(c6:¬ x.op=6)(c11:¬ x.op=11)(c5:¬ (x.op=5∧rkE x<7)):py x:=by
 rcases qA x hx with ⟨_,c⟩|⟨_,c⟩|⟨h1,h2,c,_⟩|⟨_,c⟩
 ·exact absurd c c6
 ·exact absurd c c4
 ·exact absurd ⟨c,by omega⟩ c5
 ·rcases c with c|c|c|c|c
  ·exact absurd c c1
  ·exact absurd c c2
  ·exact absurd c c3
  ·exact absurd c c11
  ·exact c
theorem zA:∀ (N:Nat) (x:ae) (m:Int) (l r:List aa),exF x=0→x.sz<N→Mt l (atK (exK N) x m) r→Hc l
 |0,_,_,_,_,_,h,_=>by omega
 |N+1,x,m,l,r,hx,hs,hm=>by
  by_cases hr:rkE x<m
  ·rw [CS hr] at hm
   obtain ⟨a,m,rfl,_⟩:=dg hm
   exact sB (by simp [kS])
  rw [tY hr] at hm
  have hm:Mt l (su (exK N) x) r:=hm
  have ok:=eok hx
  have f:=it ok.form
  have hz:=nP x
  have ih:∀ y∈x.l,∀ m' ks,Mt l (atK (exK N) y m'++ks) r→Hc l:=fun y hy m' ks h=>by
   obtain ⟨l1,h1,_⟩:=dH h
   have:=ju hy
   exact zA N y m' l l1 (ok.parts y hy) oM h1
  unfold su at hm
  by_cases c1:x.op=1
  ·rw [iP c1] at hm;obtain ⟨a,rfl⟩:=iy hm;exact sB (CR ok.num.1 dM)
  rw [iN c1] at hm
  by_cases c2:x.op=2
  ·rw [iP c2] at hm
   obtain ⟨a,rfl⟩:=iy hm
   by_cases g:x.n=1
   ·rw [iP g];exact sB (by simp [kW])
   ·rw [iN g];exact sB (by simp [kW])
  rw [iN c2] at hm
  by_cases c3:x.op=3
  ·rw [iP c3] at hm;obtain ⟨a,rfl⟩:=iy hm;exact ⟨rfl,rfl⟩
  rw [iN c3] at hm
  by_cases c4:x.op=4
  ·rw [iP c4] at hm
   by_cases g:x.k=13
   ·rw [iP g] at hm;obtain ⟨a,m,rfl,_⟩:=dg hm;exact sB (by simp [kS])
   ·rw [iN g] at hm;obtain ⟨a,m,rfl,_⟩:=dg hm;exact sB (by simp [kW])
  rw [iN c4] at hm
  by_cases c6:x.op=6
  ·rw [iP c6] at hm;obtain ⟨a,m,rfl,_⟩:=dg hm;exact sB (by simp [kW])
  rw [iN c6] at hm
  by_cases c11:x.op=11
  ·rw [iP c11] at hm
   have hl:=f.2.2.2.1 (.inr c11)
   exact ih _ (rC oM) _ _ hm
  rw [iN c11] at hm
  by_cases c5:x.op=5∧rkE x<7
  ·rw [iP c5] at hm
   have hl:=(f.2.2.1 c5.1).1
   exact ih _ (rC oM) _ _ hm
  rw [iN c5] at hm
  obtain ⟨a,m,rfl,_⟩:=dg hm
  obtain ⟨_,_,_,_,_,hw⟩:=vj (DH hx c1 c2 c3 c4 c6 c11 c5)
  simp only [List.mem_cons,List.not_mem_nil,or_false,not_or] at hw
  exact sB (by simp [kW,hw])
section
variable {E k o t:Int} {rc:Int→af→Option RX} {N:Nat} {x:ae} {l r:List aa}
theorem Fq(hr:RKx E rc k)(ho0:0≤o)(ho:o≤60)(hk:7 * (60 - o)≤k)(hx:exF x=0)(hs:x.sz<N+1){m:Int}(hc:rkE x<m∨(rkE x=7∧¬ x.op=11)∨(x.op=6∧Fo 0 r))(hb:o+2 * (pn x:Int)+(if rkE x<m then 1 else 0)≤63)(ht:0≤t)(ht2:t+(pn x:Int)≤1000000)
  (hm7:m≤7) (hm:Mt l (atK (exK (N+1)) x m) r):isB (lit [[45],[110,111,116]]) l=false∧aV rc ⟨l,E,o,t⟩=some (.inl (x,r,o,t+pn x)):=by
 by_cases hp:rkE x<m
 ·rw [CS hp] at hm
  rw [iP hp] at hb
  refine ⟨?_,BS hr ho0 hk hx hs hb ht ht2 (Fl hx oM) hm⟩
  obtain ⟨a,m,rfl,_⟩:=dg hm
  exact dZ (by simp [lit,kS])
 rw [tY hp] at hm
 rw [iN hp] at hb
 rcases hc.resolve_left hp with ⟨c7,c11⟩|⟨c6,hf⟩
 ·have ok:=eok hx
  have hpn:=tB x
  obtain ⟨_,_,_,_,_,_,gs,g8,g9,g10,g1⟩:=ng ok.form
  have hm:Mt l (su (exK N) x) r:=hm
  rcases qA x hx with ⟨c,_⟩|⟨c,_⟩|⟨c,c',_⟩|⟨_,c⟩
  ·omega
  ·omega
  ·omega
  ·have e1:=ou x
   unfold su at hm
   rcases c with c|c|c|c|c
   ·rw [iP c] at hm
    have hl0:x.l=[]:=List.length_eq_zero_iff.1 (g1 oM)
    rw [c,g8 oM oM oM oM oM,g10 oM,List.length_eq_zero_iff.1 (gs oM oM),hl0] at e1
    rw [hl0,show pns []=0 from by rw [pns]] at hpn
    obtain ⟨a,rfl⟩:=iy hm
    refine ⟨dZ (CR ok.num.1 dM),?_⟩
    have:=Fp (E:=E) (o:=o) (t:=t) (rc:=rc) (r:=r) (a:=a) (n:=x.n) ht oM
    rw [e1] at this
    rw [hpn];exact this
   ·rw [iN oM,iP c] at hm
    have hl0:x.l=[]:=List.length_eq_zero_iff.1 (g1 oM)
    rw [c,g8 oM oM oM oM oM,g10 oM,List.length_eq_zero_iff.1 (gs oM oM),hl0] at e1
    rw [hl0,show pns []=0 from by rw [pns]] at hpn
    have h2:=(it ok.form).2.2.2.2.2.1 c
    obtain ⟨a,rfl⟩:=iy hm
    have hb:(if x.n=1 then [116,114,117,101] else [102,97,108,115,101]:Ω)=if decide (x.n=1)=true then [116,114,117,101] else [102,97,108,115,101]:=by simp
    rw [hb]
    refine ⟨dZ (by cases decide (x.n=1)<;>simp [lit,kW]),?_⟩
    have:=BR (E:=E) (o:=o) (t:=t) (rc:=rc) (r:=r) (a:=a) (b:=decide (x.n=1)) ht oM
    have hv:(if decide (x.n=1)=true then 1 else 0:Int)=x.n:=by
     rcases h2 with h|h<;>simp [h]
    rw [hv,e1] at this
    rw [hpn];exact this
   ·rw [iN oM,iN oM,iP c] at hm
    have hl0:x.l=[]:=List.length_eq_zero_iff.1 (g1 oM)
    rw [c,g8 oM oM oM oM oM,g9 oM oM,List.length_eq_zero_iff.1 (gs oM oM),hl0] at e1
    rw [hl0,show pns []=0 from by rw [pns]] at hpn
    obtain ⟨a,rfl⟩:=iy hm
    refine ⟨rfl,?_⟩
    have:=DG (E:=E) (o:=o) (t:=t) (rc:=rc) (r:=r) (a:=a) (w:=x.name) ht oM
    rw [e1] at this
    rw [hpn];exact this
   ·exact absurd c c11
   ·have hop:=c.op
    have h5:¬ (x.op=5∧rkE x<7):=fun h=>by omega
    rw [iN oM,iN oM,iN oM,iN oM,iN oM,iN oM,iN h5] at hm
    have hrun:=Fk hr ho0 ho hk c hx hs oM ht ht2 hm
    obtain ⟨_,_,_,_,_,hw⟩:=vj c
    obtain ⟨a,m2,rfl,_⟩:=dg hm
    refine ⟨dZ (by simp only [List.mem_cons,List.not_mem_nil,or_false,not_or] at hw;simp [lit,kW,hw]),?_⟩
    refine (DF hw).trans ?_
    unfold bI
    exact xu hrun
 ·refine ⟨?_,GA hr ho0 hk hx hs oM ht ht2 (Fl hx (by have h0:rkE x=0:=(by unfold rkE;rw [iP c6]);omega)) c6 hf hm⟩
  have hm:Mt l (su (exK N) x) r:=hm
  unfold su at hm
  rw [iN oM,iN oM,iN oM,iN oM,iP c6] at hm
  obtain ⟨a,m2,rfl,_⟩:=dg hm
  exact dZ (by simp [lit,kW])
noncomputable def cA(rc:Int→af→Option RX)(E:Int)(x:ae)(l:List aa)(o t:Int):Option RX :=
 (dh (fun (l41,x42,x43,x44,x45,x46,s47,l48,l49)=>bJ rc ⟨[],E,0,0⟩ l41 x42 x43 x44 x45 x46 s47 l48 l49) (l,o,t,x.op,x.k,x.n,x.name,x.s,x.l)).bind (Sum.elim (fun (z56,z57,z58,z59,z60,z61,z62,z63,z64)=>dm z56 z57 z58 z59 z60 z61 z62 z63 z64) (fun z65=>some z65))
theorem GB(h:isB [[91]] r=false):cA rc E x r o t=some (.inl (x,r,o,t)):=by
 unfold cA
 rw [ee (o:=.inl (r,o,t,x.op,x.k,x.n,x.name,x.s,x.l)) (by
  show bJ rc ⟨[],E,0,0⟩ r o t x.op x.k x.n x.name x.s x.l=_
  unfold bJ
  rw [ef _ _ _ _ _ (by simp [lit]),show isB (lit [[91]]) r=false from h];rfl)]
 show some (Sum.inl (ae.mk x.op x.k x.n x.name x.s x.l,r,o,t))=_
 rw [ou]
theorem GC(hr:RKx E rc k)(ho0:0≤o)(hk:7 * (60 - o)≤k){x i d:ae}(hi:exF i=0∧i.sz<N∧o+1+2 * (pn i:Int)≤63)(hd:exF d=0∧d.sz<N∧o+1+2 * (pn d:Int)≤63)(ht:0≤t)(ht2:t+(pn i:Int)+(pn d:Int)+1≤1000000)(ho:o<60)
  {a:Int} {m:List aa} (hm:Mt m (exK N i++(kS [58] :: (exK N d++[kS [93]]))) r):cA rc E x (aa.mk 4 a [91] 0 :: m) o t=cA rc E (ae.mk 11 0 0 [] [] [x,i,d]) r o (t+pn i+pn d+1):=by
 obtain ⟨i1,i2,i3⟩:=hi
 obtain ⟨d1,d2,d3⟩:=hd
 obtain ⟨m1,k1,k2⟩:=dH hm
 obtain ⟨m2,k3,k4⟩:=dH (a:=[kS [58]]) k2
 obtain ⟨m3,k5,k6⟩:=dH k4
 have f1:Fo 0 m1:=by obtain ⟨b,e⟩:=iy k3;rw [e];exact ow dM
 have f3:Fo 0 m3:=by obtain ⟨b,e⟩:=iy k6;rw [e];exact ow dM
 unfold cA
 rw [gi (s':=(r,o,t+(pn i:Int)+(pn d:Int)+1,11,0,0,[],[],[x,i,d])) (by
  show bJ rc ⟨[],E,0,0⟩ (aa.mk 4 a [91] 0 :: m) o t x.op x.k x.n x.name x.s x.l=_
  unfold bJ
  rw [ef _ _ _ _ _ (by simp [lit]),jc dM (by simp [lit]),bSq,iP rfl]
  have:cY rc ⟨aa.mk 4 a [91] 0 :: m,E,o,t⟩ (ae.mk x.op x.k x.n x.name x.s x.l)=some (.inl (ae.mk 11 0 0 [] [] [x,i,d],r,o,t+(pn i:Int)+(pn d:Int)+1)):=by
   rw [ou]
   unfold cY
   refine rk ho0 ho (X:=db rc x) ?_
   unfold db
   rw [hr.whole oM oM i1 i2 oM ht oM oM f1 k1]
   simp only [bSq,Sum.elim_inl]
   rw [oh k3]
   simp only [bSq,Sum.elim_inl]
   rw [hr.whole oM oM d1 d2 oM oM oM oM f3 k5]
   simp only [bSq,Sum.elim_inl]
   unfold b9
   simp only [bSq]
   rw [wr (n:=t+(pn i:Int)+(pn d:Int)+1) oM oM,oh k6];rfl
  rw [this];rfl)]
theorem GD{T:Type}[Inhabited T]{l:List T}{a b c:T}(h:l=[a,b,c]):l.getD 0 default=a∧l.getD 1 default=b∧l.getD 2 default=c:=by rw [h];exact ⟨rfl,rfl,rfl⟩
theorem xv{ra:af→Option RX}(hr:RKx E rc k)(ho0:0≤o)(ho:o≤60)(hk:7 * (60 - o)≤k):∀ (N:Nat) (x:ae) (m t:Int) (l r:List aa),exF x=0→x.sz<N→m≤7→(rkE x<m∨rkE x=7∨(x.op=6∧Fo 0 r))→o+2 * (pn x:Int)+(if rkE x<m then 1 else 0)≤63→0≤t→t+(pn x:Int)≤1000000 →
  Mt l (atK (exK N) x m) r→bB rc ra ⟨l,E,o,t⟩=cA rc E x r o (t+pn x)
 |0,_,_,_,_,_,_,h,_,_,_,_,_,_=>by omega
 |N+1,x,m,t,l,r,hx,hs,hm7,hc,hb,ht,ht2,hm=>by
  by_cases c11:x.op=11∧¬ rkE x<m
  ·obtain ⟨c11,hp⟩:=c11
   rw [tY hp] at hm
   rw [iN hp] at hb
   have hm:Mt l (su (exK N) x) r:=hm
   have ok:=eok hx
   have hz:=nP x
   obtain ⟨_,_,_,_,_,_,gs,g8,g9,g10,_⟩:=ng ok.form
   obtain ⟨a,i,d,hL⟩:=Gp ((it ok.form).2.2.2.1 (.inr c11))
   have hpn:=tB x
   obtain ⟨q0,q1,q2⟩:=GD hL
   unfold su at hm
   rw [iN oM,iN oM,iN oM,iN oM,iN oM,iP c11,q0,q1,q2] at hm
   rw [hL,fl,fl,fl,show pns []=0 from by rw [pns]] at hpn
   have hsz:=ok.parts
   rw [hL] at hsz
   have z1:=ju (show a∈x.l by rw [hL];simp)
   have z2:=ju (show i∈x.l by rw [hL];simp)
   have z3:=ju (show d∈x.l by rw [hL];simp)
   have p1:=sx a
   have p2:=sx i
   have p3:=sx d
   obtain ⟨m1,k1,k2⟩:=dH hm
   obtain ⟨b,m2,rfl,k3⟩:=dg k2
   have hra:=qz a
   rw [xv hr ho0 ho hk N a 7 t l _ (hsz a (by simp)) oM dM oM (by split<;>omega) ht oM k1]
   refine (GC hr ho0 hk (x:=a) (i:=i) (d:=d) ⟨hsz i (by simp),by omega,by omega⟩ ⟨hsz d (by simp),by omega,by omega⟩ oM oM oM k3).trans ?_
   have e:ae.mk 11 0 0 [] [] [a,i,d]=x:=by
    have e1:=ou x
    rw [c11,g8 oM oM oM oM oM,g9 oM oM,g10 oM,List.length_eq_zero_iff.1 (gs oM oM),hL] at e1
    exact e1
   rw [e,hpn]
   congr 1
   omega
  ·obtain ⟨h1,h2⟩:=Fq hr ho0 ho hk hx hs (m:=m) (by
    by_cases hp:rkE x<m
    ·exact .inl hp
    ·rcases hc.resolve_left hp with c|c
     ·exact .inr (.inl ⟨c,fun k=>c11 ⟨k,hp⟩⟩)
     ·exact .inr (.inr c)) hb ht ht2 hm7 hm
   unfold bB
   rw [ef _ _ _ _ _ (by simp [lit]),h1,bSq,iN dM,h2]
   rfl
def AX(E om:Int)(ra:af→Option RX)(k:Int):Prop :=
 ∀ (o t m:Int) (N:Nat) (x:ae) (l r:List aa),om≤o→o≤60→exF x=0→x.sz<N→m≤6→(rkE x<m∨6≤rkE x∨(x.op=6∧Fo 0 r))→o+2 * (pn x:Int)+(if rkE x<m then 1 else 0)≤63→0≤t→t+(pn x:Int)≤1000000 →
  61 - o≤k→isB [[91]] r=false→Mt l (atK (exK N) x m) r→ra ⟨l,E,o,t⟩=some (.inl (x,r,o,t+pn x))
theorem A0{om ka:Int}{ra:af→Option RX}(hr:RKx E rc k)(ho0:0≤o)(ho:o≤60)(hk:7 * (60 - o)≤k)(hom:om≤o)(ha:AX E om ra ka)(hka:60 - o≤ka){m t:Int}{N:Nat}{x:ae}(hx:exF x=0)(hs:x.sz<N)(hm6:m≤6)(hc:rkE x<m∨6≤rkE x∨(x.op=6∧Fo 0 r))(hb:o+2 * (pn x:Int)+(if rkE x<m then 1 else 0)≤63)
  (ht:0≤t) (ht2:t+(pn x:Int)≤1000000) (hf:isB [[91]] r=false) (hm:Mt l (atK (exK N) x m) r):bB rc ra ⟨l,E,o,t⟩=some (.inl (x,r,o,t+pn x)):=by
 by_cases c4:x.op=4∧¬ rkE x<m
 ·obtain ⟨c4,hp⟩:=c4
  rw [tY hp] at hm
  rw [iN hp] at hb
  cases N with
  |zero=>omega
  |succ N =>
  have hm:Mt l (su (exK N) x) r:=hm
  have ok:=eok hx
  have hz:=nP x
  obtain ⟨_,_,_,_,_,_,gs,g8,g9,g10,_⟩:=ng ok.form
  obtain ⟨hl1,hk4⟩:=(it ok.form).2.1 c4
  obtain ⟨a,hL⟩:=Gn hl1
  have hpn:=tB x
  have q0:x.l.getD 0 default=a:=by rw [hL];rfl
  unfold su at hm
  rw [iN oM,iN oM,iN oM,iP c4,q0] at hm
  rw [hL,fl,show pns []=0 from by rw [pns]] at hpn
  have hsz:=ok.parts a (by rw [hL];simp)
  have z1:=ju (show a∈x.l by rw [hL];simp)
  have p1:=sx a
  have hra:=qA a hsz
  have e:∀ k,x.k=k→ae.mk 4 k 0 [] [] [a]=x:=fun k hk=>by
   have e1:=ou x
   rw [c4,hk,g9 oM oM,g10 oM,List.length_eq_zero_iff.1 (gs oM oM),hL] at e1
   exact e1
  have hj:∀ (kd:Int) (w:Ω) (b:Int) (m2:List aa),l=aa.mk kd b w 0 :: m2→Mt m2 (atK (exK N) a 6) r→∀ n,x.k=n→cz ra ⟨l,E,o,t⟩ n=some (.inl (x,r,o,t+pn x)):=by
   intro kd w b m2 hl hm2 n hn
   subst hl
   unfold cz
   refine xu ?_
   unfold dD
   refine rk ho0 oM (X:=cJ ra n) ?_
   unfold cJ
   rw [ha (o+1) t 6 N a m2 r oM oM hsz oM dM oM (by split<;>omega) ht oM oM hf hm2]
   simp only [bSq,Sum.elim_inl]
   unfold b9
   simp only [bSq]
   rw [wr (n:=t+(pn a:Int)+1) oM oM]
   rw [show (lit [a]:List ae)=[a] from rfl,e n hn,hpn]
   congr 3
   simp only [Prod.mk.injEq,true_and];omega
  unfold bB
  by_cases c13:x.k=13
  ·rw [iP c13] at hm
   obtain ⟨b,m2,hl,hm2⟩:=dg hm
   have i1:isB (lit [[45],[110,111,116]]) l=true:=by rw [hl];exact jc (by show (4:Int)≠2;decide) (by show [45]∈_;simp [lit])
   have i2:isB (lit [[110,111,116]]) l=false:=by rw [hl];exact dZ (by simp [lit,kS])
   rw [ef _ _ _ _ _ (by simp [lit]),i1,bSq,iP rfl,ef _ _ _ _ _ (by simp [lit]),i2,bSq,iN dM]
   exact hj _ _ b m2 hl hm2 13 c13
  ·rw [iN c13] at hm
   obtain ⟨b,m2,hl,hm2⟩:=dg hm
   have i1:isB (lit [[45],[110,111,116]]) l=true:=by rw [hl];exact jc (by show (1:Int)≠2;decide) (by show [110,111,116]∈_;simp [lit])
   have i2:isB (lit [[110,111,116]]) l=true:=by rw [hl];exact jc (by show (1:Int)≠2;decide) (by show [110,111,116]∈_;simp [lit])
   rw [ef _ _ _ _ _ (by simp [lit]),i1,bSq,iP rfl,ef _ _ _ _ _ (by simp [lit]),i2,bSq,iP rfl]
   exact hj _ _ b m2 hl hm2 14 (hk4.resolve_left c13)
 ·rw [xv hr ho0 ho hk N x m t l r hx hs oM (by
   by_cases hp:rkE x<m
   ·exact .inl hp
   ·rcases hc.resolve_left hp with c|c
    ·rcases qA x hx with ⟨h,_⟩|⟨_,h⟩|⟨h,h',_⟩|⟨h,_⟩
     ·omega
     ·exact absurd ⟨h,hp⟩ c4
     ·omega
     ·exact .inr (.inl h)
    ·exact .inr (.inr c)) hb ht ht2 hm]
  exact GB hf
theorem vG(hr:RKx E rc k)(om:Int)(h0:0≤om)(hk:7 * (60 - om)≤k):∀ M:Nat,AX E om (dd rc M) M
 |0,o,_,_,_,_,_,_,_,h2,_,_,_,_,_,_,_,h3,_,_=>absurd h3 oM
 |M+1,o,t,m,N,x,l,r,h1,h2,hx,hs,hm6,hc,hb,ht,ht2,h3,hf,hm=>by
  show bB rc (dd rc M) ⟨l,E,o,t⟩=_
  exact A0 hr oM h2 oM h1 (vG hr om h0 hk M) oM hx hs hm6 hc hb ht ht2 hf hm
end
end Pam
