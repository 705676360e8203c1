/- Tokens: what a text's tokens are, and plain laws on them. No program in sight. -/
import Derived.Test.YtmlkpniimpahoaaGreatDoorSBase3
import Derived.Test.YtmlkpniimpahoaaGreatDoorSaFun1
import Derived.Test.YtmlkpniimpahoaaGreatDoorSWide1
import Derived.Lib.ItoaLen
set_option linter.all false
namespace Pam
open Go
def tSm(c:UInt8):Prop:=97≤c.toNat∧c.toNat≤122
def tDg(c:UInt8):Prop:=48≤c.toNat∧c.toNat≤57
instance (c:UInt8):Decidable (tSm c):=inferInstanceAs (Decidable (_∧_))
instance (c:UInt8):Decidable (tDg c):=inferInstanceAs (Decidable (_∧_))
def tAn(c:UInt8):Bool:=decide (tSm c∨tDg c)
def tBl(c:UInt8):Prop:=c.toNat=32∨c.toNat=9∨c.toNat=13
instance (c:UInt8):Decidable (tBl c):=inferInstanceAs (Decidable (_∨_))
def blk:Bool→Ω→Ω
 |_,[]=>[]
 |r,c :: l=>if c.toNat=10 then blk false l else if r=true∨tBl c then blk r l else if c.toNat=35 then blk true l else c :: l
theorem D5(r:Bool)(s:Ω):(blk r s).length≤s.length:=by
 induction s generalizing r with
 |nil=>simp [blk]
 |cons c l ih =>
  unfold blk
  have h1:=ih false;have h2:=ih r;have h3:=ih true
  split
  ·simp;omega
  ·split
   ·simp;omega
   ·split
    ·simp;omega
    ·simp
theorem D6(r:Bool)(s:Ω):blk r s=s.drop (s.length - (blk r s).length):=by
 induction s generalizing r with
 |nil=>simp [blk]
 |cons c l ih =>
  have key:∀ q,blk q l=(c :: l).drop ((c :: l).length - (blk q l).length):=by
   intro q
   have h1:=ih q;have h2:=D5 q l
   rw [List.length_cons,show l.length+1 - (blk q l).length=(l.length - (blk q l).length)+1 by omega,List.drop_succ_cons]
   exact h1
  unfold blk
  split
  ·exact key _
  ·split
   ·exact key _
   ·split
    ·exact key _
    ·simp
def rx:List Ω:=[[97,100,100],[97,110,100],[98,111,111,108],[99,97,108,108],[99,97,116],[100,105,118],[101,108,115,101],[101,113],[102,97,108,115,101],[102,105,108,108],[102,111,108,100],[105,102],[105,110,116],[108,101,115,115],[109,97,112],[109,97,120],[109,105,110],[109,111,100],[109,117,108],[110,101,103],[110,111,100,101],[110,111,116],[111,114],[112,114,101],[115,99,97,110],[115,108,105,99,101],[115,117,98],[116,104,101,110],[116,114,117,101],[118,97,114],[119,105,116,104],[120,111,114]]
def pT(s:Ω):Bool:=rx.contains s
def BI:List Nat:=[40,41,123,125,91,93,60,62,44,59,58,43,45,42,47,37,61,94]
def D7(n:Int)(w:Ω):Int:=w.foldl (fun n c=>10 * n+((c.toNat:Int) - 48)) n
def Fa(w:Ω):Option Int :=
 if w.length>18∨(w.length>1∧w.head?.map UInt8.toNat=some 48)∨¬ (∀ c∈w,tDg c) then none else some (D7 0 w)
def AR(p:Nat)(s:Ω):af ⊕ Int :=
 match s with
 |[]=>.inr 1
 |c :: l =>
  if tSm c then
   let w:=(c :: l).takeWhile tAn
   if pT w then .inl (af.mk 1 p w 0) else if w.length>12 then .inr 3 else .inl (af.mk 2 p w 0)
  else if tDg c then
   let w:=(c :: l).takeWhile tAn
   match Fa w with
   |some n=>.inl (af.mk 3 p w n)
   |none=>.inr 2
  else if (c :: l).take 2=[61,61]∨(c :: l).take 2=[45,62] then .inl (af.mk 4 p ((c :: l).take 2) 0)
  else if c.toNat∈BI then .inl (af.mk 4 p [c] 0)
  else .inr 1
theorem Ab{c:UInt8}(h:tSm c∨tDg c):tAn c=true:=by simpa [tAn] using h
theorem C9{p:Nat}{s:Ω}{t:af}(h:AR p s=.inl t):t.at_=p∧t.text≠[]∧t.text <+: s:=by
 cases s with
 |nil=>simp [AR] at h
 |cons c l =>
  have tw:(c :: l).takeWhile tAn <+: c :: l:=List.takeWhile_prefix _
  have ne:∀ {c:UInt8},tAn c=true→(c :: l).takeWhile tAn≠[]:=by intro c h;rw [List.takeWhile_cons,iP h];simp
  unfold AR at h
  simp only at h
  split at h
  ·rename_i hc
   split at h
   ·cases h;exact ⟨rfl,ne (Ab (.inl hc)),tw⟩
   ·split at h
    ·cases h
    ·cases h;exact ⟨rfl,ne (Ab (.inl hc)),tw⟩
  ·split at h
   ·rename_i hc
    split at h
    ·cases h;exact ⟨rfl,ne (Ab (.inr hc)),tw⟩
    ·cases h
   ·split at h
    ·cases h;exact ⟨rfl,by simp,List.take_prefix _ _⟩
    ·split at h
     ·cases h;exact ⟨rfl,by simp,⟨l,rfl⟩⟩
     ·cases h
def xY:Nat→Nat→Ω→List af ⊕ ap
 |0,_,_=>.inl []
 |k+1,p,s =>
  match blk false s with
  |[]=>.inl []
  |c :: l =>
   match AR (p+(s.length - (c :: l).length)) (c :: l) with
   |.inr e=>.inr (ap.mk e ((p+(s.length - (c :: l).length):Nat):Int))
   |.inl t =>
    match xY k (p+(s.length - (c :: l).length)+t.text.length) ((c :: l).drop t.text.length) with
    |.inl m=>.inl (t :: m)
    |.inr f=>.inr f
theorem BJ(k p:Nat)(s:Ω):xY (k+1) p s=match blk false s with
  |[]=>.inl []
  |c :: l =>
   match AR (p+(s.length - (c :: l).length)) (c :: l) with
   |.inr e=>.inr (ap.mk e ((p+(s.length - (c :: l).length):Nat):Int))
   |.inl t =>
    match xY k (p+(s.length - (c :: l).length)+t.text.length) ((c :: l).drop t.text.length) with
    |.inl m=>.inl (t :: m)
    |.inr f=>.inr f:=rfl
theorem D8(l:Ω)(i:Nat)(h:i<l.length):l.drop i=l.getD i 0 :: l.drop (i+1):=by
 rw [List.drop_eq_getElem_cons h]
 simp [List.getD,h]
theorem wr1(p:Nat)(h:p<1000000):IntKind.wrap .i64 ((p:Int)+1)=((p+1:Nat):Int):=wrs p oM
theorem um(c:UInt8):kb (c.toNat:Int)=some (decide (tSm c)):=by
 unfold kb
 by_cases h:(c.toNat:Int)≥97
 ·rw [iP h];congr 1;exact decide_eq_decide.2 (by unfold tSm;omega)
 ·rw [iN h];congr 1;symm;rw [decide_eq_false_iff_not];unfold tSm;omega
theorem vK(c:UInt8):lF (c.toNat:Int)=some (decide (tDg c)):=by
 unfold lF
 by_cases h:(c.toNat:Int)≥48
 ·rw [iP h];congr 1;exact decide_eq_decide.2 (by unfold tDg;omega)
 ·rw [iN h];congr 1;symm;rw [decide_eq_false_iff_not];unfold tDg;omega
theorem xZ(src:Ω)(hl:src.length≤100000):∀ (k p:Nat) (r:Bool),p+k=src.length →
  bD (fun (x5,b6)=>cC src x5 b6) ((p:Int),r)=some ((src.length - (blk r (src.drop p)).length:Nat):Int)
 |0,p,r,h=>by
  have:p=src.length:=by omega
  subst this
  rw [List.drop_length]
  refine gB ?_
  show cC _ _ _=_
  unfold cC
  rw [iN (bp _)]
  simp [blk]
 |k+1,p,r,h=>by
  have hp:p<src.length:=by omega
  have hd:=D8 src p hp
  have hdl:(src.drop (p+1)).length=src.length - (p+1):=List.length_drop
  obtain ⟨c,hc⟩:∃ c,src.getD p 0=c:=⟨_,rfl⟩
  rw [hc] at hd
  have e:blk r (c :: src.drop (p+1))=if c.toNat=10 then blk false (src.drop (p+1)) else if r=true∨tBl c then blk r (src.drop (p+1)) else if c.toNat=35 then blk true (src.drop (p+1)) else c :: src.drop (p+1):=rfl
  have stp:∀ q,cC src (p:Int) r=some (.inl ((p+1:Nat),q))→blk r (c :: src.drop (p+1))=blk q (src.drop (p+1)) →
    bD (fun (x5,b6)=>cC src x5 b6) ((p:Int),r)=some ((src.length - (blk r (src.drop p)).length:Nat):Int):=fun q h1 h2=>by
   rw [m4 (s':=(((p+1:Nat):Int),q)) h1,xZ src hl k (p+1) q oM,hd,h2]
  have hb:cC src (p:Int) r=if (c.toNat:Int)=10 then some (.inl ((p+1:Nat),false)) else if r=true∨tBl c then some (.inl ((p+1:Nat),r)) else if (c.toNat:Int)=35 then some (.inl ((p+1:Nat),true)) else some (.inr (p:Int)):=by
   unfold cC
   rw [iP (ltI hp),iP (inI hp),tN,hc]
   unfold dy et
   rw [wr1 p oM]
   simp only [tN,hc]
   by_cases h1:(c.toNat:Int)=10
   ·rw [iP h1,iP h1]
   rw [iN h1,iN h1]
   by_cases h2:r=true
   ·rw [iP h2,iP h2,iP (Or.inl h2)]
   rw [iN h2]
   have key:∀ b:Bool,(b=true↔tBl c)→(if b=true then (some (.inl (((p+1:Nat):Int),r)):Option ((Int×Bool) ⊕ Int)) else if ((src.getD p 0).toNat:Int)=35 then some (.inl (((p+1:Nat):Int),true)) else some (.inr (p:Int))) =
     if r=true∨tBl c then some (.inl (((p+1:Nat):Int),r)) else if (c.toNat:Int)=35 then some (.inl (((p+1:Nat):Int),true)) else some (.inr (p:Int)):=by
    intro b hb
    rw [hc]
    by_cases hh:tBl c
    ·rw [iP (hb.2 hh),iP (Or.inr hh)]
    ·rw [iN (fun x=>hh (hb.1 x)),iN (show ¬ (r=true∨tBl c) from fun x=>x.elim h2 hh)]
   rw [hc] at key
   by_cases h3:(c.toNat:Int)=32
   ·rw [iP h3];exact key ((c.toNat:Int) == 32) (by rw [beq_iff_eq];unfold tBl;omega)
   rw [iN h3]
   by_cases h4:(c.toNat:Int)=9
   ·rw [iP h4];exact key ((c.toNat:Int) == 9) (by rw [beq_iff_eq];unfold tBl;omega)
   rw [iN h4]
   exact key ((c.toNat:Int) == 13) (by rw [beq_iff_eq];unfold tBl;omega)
  by_cases h1:c.toNat=10
  ·rw [iP h1] at e
   rw [iP oM] at hb
   exact stp false hb e
  rw [iN h1] at e
  rw [iN oM] at hb
  by_cases h2:r=true∨tBl c
  ·rw [iP h2] at e hb
   exact stp r hb e
  rw [iN h2] at e hb
  by_cases h3:c.toNat=35
  ·rw [iP h3] at e
   rw [iP oM] at hb
   exact stp true hb e
  rw [iN h3] at e
  rw [iN oM] at hb
  rw [gB (o:=(p:Int)) hb,hd,e,List.length_cons,hdl]
  congr 2;omega
theorem AS(src:Ω)(hl:src.length≤100000)(p:Nat)(hp:p≤src.length)(l:List af) :
  gC src p l=some ((src.length - (blk false (src.drop p)).length:Nat):Int):=by
 unfold gC
 rw [xZ src hl (src.length - p) p false oM]
 rfl
theorem AT(src:Ω)(hl:src.length≤100000):∀ (k p:Nat),p+k=src.length →
  bD (fun x4=>fa src x4) (p:Int)=some ((p+((src.drop p).takeWhile tAn).length:Nat):Int)
 |0,p,h=>by
  have:p=src.length:=by omega
  subst this
  rw [List.drop_length]
  refine gB ?_
  unfold fa
  rw [iN (bp _)];rfl
 |k+1,p,h=>by
  have hp:p<src.length:=by omega
  rw [D8 src p hp]
  have hb:fa src (p:Int)=if tAn (src.getD p 0)=true then some (.inl ((p+1:Nat):Int)) else some (.inr (p:Int)):=by
   unfold fa gc
   rw [iP (ltI hp),iP (inI hp),tN,wr1 p oM,um,vK]
   simp only [bSq,decide_eq_true_eq]
   unfold tAn
   simp only [decide_eq_true_eq]
   by_cases h1:tSm (src.getD p 0)
   ·rw [iP h1,iP (Or.inl h1)]
   ·rw [iN h1]
    by_cases h2:tDg (src.getD p 0)
    ·rw [iP h2,iP (Or.inr h2)]
    ·rw [iN h2,iN (fun x=>x.elim h1 h2)]
  rw [List.takeWhile_cons]
  by_cases h1:tAn (src.getD p 0)=true
  ·rw [iP h1] at hb ⊢
   rw [m4 hb,AT src hl k (p+1) oM,List.length_cons]
   congr 2;omega
  ·rw [iN h1] at hb ⊢
   rw [gB hb];rfl
theorem Gx(src:Ω)(hl:src.length≤100000)(p:Nat)(hp:p≤src.length)(l:List af) :
  fE src p l=some ((src.drop p).takeWhile tAn,((p+((src.drop p).takeWhile tAn).length:Nat):Int)):=by
 unfold fE
 rw [AT src hl (src.length - p) p oM]
 simp only [bSq]
 unfold e9
 have tw:(src.drop p).takeWhile tAn <+: src.drop p:=List.takeWhile_prefix _
 have hle:=tw.length_le
 rw [List.length_drop] at hle
 rw [iP ⟨by omega,by omega,by omega⟩,tN,tN,List.drop_take,show p+((src.drop p).takeWhile tAn).length - p=((src.drop p).takeWhile tAn).length by omega,← List.prefix_iff_eq_take.1 tw]
theorem Ac(w:Ω):nQ w=some (pT w):=by
 unfold nQ aV
 by_cases h:w∈rx
 ·have:pT w=true:=by unfold pT;rw [List.contains_iff_mem];exact h
  rw [this]
  unfold rx at h
  simp only [List.mem_cons,List.not_mem_nil,or_false] at h
  rcases h with rfl|rfl|rfl|rfl|rfl|rfl|rfl|rfl|rfl|rfl|rfl|rfl|rfl|rfl|rfl|rfl|rfl|rfl|rfl|rfl|rfl|rfl|rfl|rfl|rfl|rfl|rfl|rfl|rfl|rfl|rfl|rfl
  all_goals rfl
 ·have:pT w=false:=by unfold pT;rw [← Bool.not_eq_true,List.contains_iff_mem];exact h
  rw [this]
  have hn:∀ x,x∈rx→¬ w=x:=fun x hx e=>h (e ▸ hx)
  have hb:∀ x,x∈rx→(w == x)=false:=fun x hx=>by rw [beq_eq_false_iff_ne];exact hn x hx
  rw [iN (hn _ dM),iN (hn _ dM),iN (hn _ dM),iN (hn _ dM),iN (hn _ dM),iN (hn _ dM),iN (hn _ dM),iN (hn _ dM),iN (hn _ dM),iN (hn _ dM),iN (hn _ dM),iN (hn _ dM),iN (hn _ dM),iN (hn _ dM),iN (hn _ dM),iN (hn _ dM),iN (hn _ dM),iN (hn _ dM),iN (hn _ dM),iN (hn _ dM),iN (hn _ dM),iN (hn _ dM),iN (hn _ dM),iN (hn _ dM),iN (hn _ dM),iN (hn _ dM),iN (hn _ dM),iN (hn _ dM),iN (hn _ dM),iN (hn _ dM),iN (hn _ dM)]
  rw [hb _ dM]
  rfl
theorem wH:∀ (l:Ω) (acc:Nat),(∀ c∈l,tDg c)→∃ m:Nat,Go.Lib.decFrom acc l=some m∧(m:Int)=D7 acc l
 |[],acc,_=>⟨acc,rfl,rfl⟩
 |c :: l,acc,h=>by
  have hc:tDg c:=h c List.mem_cons_self
  have hc':48≤c.toNat∧c.toNat≤57:=hc
  obtain ⟨m,h1,h2⟩:=wH l (acc * 10+(c.toNat - 48)) (fun d hd=>h d (List.mem_cons_of_mem _ hd))
  refine ⟨m,?_,?_⟩
  ·unfold Go.Lib.decFrom Go.Lib.digitVal
   rw [iP hc']
   exact h1
  ·rw [h2]
   unfold D7
   rw [List.foldl_cons]
   congr 1
   omega
theorem D9(w:Ω)(hn:w≠[])(hl:w.length≤18)(h:∀ c∈w,tDg c):AC w=some (D7 0 w):=by
 unfold AC
 rw [iP hl]
 cases w with
 |nil=>exact absurd rfl hn
 |cons c l =>
  have hc:48≤c.toNat∧c.toNat≤57:=h c List.mem_cons_self
  unfold Go.Lib.atoi
  have n1:(c == 45)=false:=by rw [beq_eq_false_iff_ne];intro e;subst e;revert hc;decide
  have n2:(c == 43)=false:=by rw [beq_eq_false_iff_ne];intro e;subst e;revert hc;decide
  simp only [n1,n2]
  obtain ⟨m,h1,h2⟩:=wH (c :: l) 0 h
  show (Go.Lib.decNat (c :: l)).map (fun m:Nat=>(m:Int))=_
  unfold Go.Lib.decNat
  rw [iN (by simp),h1,Option.map_some,h2]
  rfl
theorem Cs(w:Ω):(∀ c∈w,tDg c)↔∀ i,i<w.length→tDg (w.getD i 0):=by
 constructor
 ·intro h i hi
  have:w.getD i 0=w[i]:=by simp [List.getD,hi]
  rw [this];exact h _ (List.getElem_mem hi)
 ·intro h c hc
  obtain ⟨i,hi,rfl⟩:=List.getElem_of_mem hc
  have:=h i hi
  have e:w.getD i 0=w[i]:=by simp [List.getD,hi]
  rwa [e] at this
theorem Da(w:Ω)(hn:w≠[]):m8 w=some (match Fa w with|some n=>(n,true)|none=>(0,false)):=by
 unfold m8
 unfold Fa
 by_cases h1:w.length>18
 ·rw [iP oM,iP (Or.inl h1)]
 rw [iN oM]
 have hj:iC w=some (match (if ¬ ∀ c∈w,tDg c then none else some (D7 0 w):Option Int) with|some n=>(n,true)|none=>(0,false)):=by
  unfold iC
  rw [ql (body:=fun x4=>gI w x4) w.length (fun i=>if tDg (w.getD i 0) then none else some ((0:Int),false)) ()
   (by
    intro i hi
    show gI w i=_
    unfold gI
    rw [iP (ltI hi),iP (inI hi),tN,vK,wr1 i oM]
    simp only [bSq,decide_eq_true_eq]
    by_cases hd:tDg (w.getD i 0)
    ·rw [iP hd,iP hd]
    ·rw [iN hd,iN hd])
   (by
    show gI w w.length=_
    unfold gI
    rw [iN (bp _)])]
  simp only [bSq]
  by_cases ha:∀ c∈w,tDg c
  ·have hg:=(Cs w).1 ha
   rw [C8 (fun i hi=>by rw [iP (hg i hi)])]
   rw [iN (fun h=>h ha)]
   simp only [Sum.elim_inl]
   unfold jQ m7
   rw [iP ⟨rfl,rfl⟩,D9 w hn oM ha]
   rfl
  ·rw [iP ha]
   rcases qF w.length (fun i=>if tDg (w.getD i 0) then none else some ((0:Int),false)) () with ⟨e,hall⟩|⟨i,z,hi,hf,e⟩
   ·exfalso
    refine ha ((Cs w).2 fun i hi=>?_)
    have:=hall i hi
    split at this
    ·assumption
    ·cases this
   ·rw [e]
    split at hf
    ·cases hf
    ·simp only [sJ] at hf
     subst hf;rfl
 by_cases h2:w.length>1
 ·rw [iP oM,iP ⟨by omega,by omega⟩]
  cases w with
  |nil=>exact absurd rfl hn
  |cons c l =>
   by_cases h3:c.toNat=48
   ·rw [iP (show (((c :: l).getD 0 0).toNat:Int)=48 by simp [h3]),iP (Or.inr (Or.inl ⟨h2,by simp [h3]⟩))]
   ·rw [iN (show ¬ (((c :: l).getD 0 0).toNat:Int)=48 by simp;omega),hj]
    by_cases ha:∀ d∈c :: l,tDg d
    ·rw [iN (fun h=>h ha),iN (fun h=>h.elim h1 (fun h=>h.elim (fun h=>h3 (by simpa using h.2)) (fun h=>h ha)))]
    ·rw [iP ha,iP (Or.inr (Or.inr ha))]
 ·rw [iN oM,hj]
  by_cases ha:∀ d∈w,tDg d
  ·rw [iN (fun h=>h ha),iN (fun h=>h.elim h1 (fun h=>h.elim (fun h=>h2 h.1) (fun h=>h ha)))]
  ·rw [iP ha,iP (Or.inr (Or.inr ha))]
theorem ze(s l:Ω)(hl:l.length=2):gv s l=some (decide (s.take 2=l)):=by
 unfold gv ft
 by_cases h:(s.length:Int)≥(l.length:Int)
 ·rw [iP h,iP ⟨by omega,by omega⟩,hl]
  simp only [bSq]
  congr 1
  rw [Bool.eq_iff_iff]
  simp
 ·rw [iN h]
  simp only [bSq]
  congr 1;symm
  rw [decide_eq_false_iff_not]
  intro e
  have:(s.take 2).length=2:=by rw [e,hl]
  rw [List.length_take] at this
  omega
theorem Fb(src:Ω)(p:Nat)(hp:p<src.length)(l:List af) :
  gW src p l=some (if (src.drop p).take 2=[61,61]∨(src.drop p).take 2=[45,62] then (src.drop p).take 2 else if (src.getD p 0).toNat∈BI then [src.getD p 0] else []):=by
 unfold gW
 have b0:da src p 0=if (src.drop p).take 2=[61,61] then some (.inr (.inr [61,61])) else some (.inl 1):=by
  unfold da
  rw [iP dM,iP dM,iP ⟨by omega,by omega⟩,tN]
  show (gv (src.drop p) [61,61]).bind _=_
  rw [ze _ _ rfl]
  simp only [bSq,decide_eq_true_eq]
  rfl
 have b1:da src p 1=if (src.drop p).take 2=[45,62] then some (.inr (.inr [45,62])) else some (.inl 2):=by
  unfold da
  rw [iP dM,iP dM,iP ⟨by omega,by omega⟩,tN]
  show (gv (src.drop p) [45,62]).bind _=_
  rw [ze _ _ rfl]
  simp only [bSq,decide_eq_true_eq]
  rfl
 have b2:da src p 2=some (.inr (.inl ())):=by
  unfold da
  rw [iN dM]
 by_cases h1:(src.drop p).take 2=[61,61]
 ·rw [iP h1] at b0
  rw [gB b0,iP (Or.inl h1),h1];rfl
 rw [iN h1] at b0
 rw [m4 b0]
 by_cases h2:(src.drop p).take 2=[45,62]
 ·rw [iP h2] at b1
  rw [gB b1,iP (Or.inr h2),h2];rfl
 rw [iN h2] at b1
 rw [m4 b1,gB b2,iN (fun h=>h.elim h1 h2)]
 simp only [bSq,Sum.elim_inl]
 unfold fF
 rw [iP (inI hp),tN]
 obtain ⟨c,hc⟩:∃ c,src.getD p 0=c:=⟨_,rfl⟩
 rw [hc]
 have hw:c.toNat<128→UInt8.ofNat ((IntKind.wrap .i32 (c.toNat:Int)).toNat)=c∧0≤IntKind.wrap .i32 (c.toNat:Int)∧IntKind.wrap .i32 (c.toNat:Int)<128:=fun h=>by
  have:IntKind.wrap .i32 (c.toNat:Int)=(c.toNat:Int):=by rw [IntKind.wrap_i32];omega
  rw [this]
  refine ⟨?_,by omega,by omega⟩
  simp
 have hj:∀ b:Bool,(b=true→c.toNat<128)→aL src p b=some (if b=true then [c] else []):=fun b hb=>by
  unfold aL
  rw [tN,hc]
  by_cases h:b=true
  ·obtain ⟨w1,w2,w3⟩:=hw (hb h)
   rw [iP h,iP h,iP ⟨w2,w3⟩,w1]
  ·rw [iN h,iN h]
 have step:∀ (n:Int) (ns:List Nat) (X:Option Ω),0≤n→n<128→X=some (if c.toNat∈ns then [c] else []) →
   (if (c.toNat:Int)=n then aL src p ((c.toNat:Int) == n) else X)=some (if c.toNat∈n.toNat :: ns then [c] else []):=fun n ns X h0 h1 hX=>by
  by_cases h:(c.toNat:Int)=n
  ·rw [iP h,hj _ (fun _=>by omega),iP (eQ h),iP (by rw [List.mem_cons];left;omega)]
  ·rw [iN h,hX]
   congr 1
   have:(c.toNat∈n.toNat :: ns)↔c.toNat∈ns:=by
    rw [List.mem_cons]
    constructor
    ·rintro (h'|h')
     ·exact absurd oM h
     ·exact h'
    ·exact Or.inr
   simp only [this]
 have last:aL src p ((c.toNat:Int) == 94)=some (if c.toNat∈[94] then [c] else []):=by
  rw [hj _ (fun h=>by have:=beq_iff_eq.1 h;omega)]
  congr 1
  have:((c.toNat:Int) == 94)=true↔c.toNat∈[94]:=by rw [beq_iff_eq,List.mem_singleton];omega
  simp only [this]
 exact step 40 _ _ dM dM (step 41 _ _ dM dM (step 123 _ _ dM dM (step 125 _ _ dM dM (step 91 _ _ dM dM (step 93 _ _ dM dM (step 60 _ _ dM dM
  (step 62 _ _ dM dM (step 44 _ _ dM dM (step 59 _ _ dM dM (step 58 _ _ dM dM (step 43 _ _ dM dM (step 45 _ _ dM dM (step 42 _ _ dM dM
  (step 47 _ _ dM dM (step 37 _ _ dM dM (step 61 _ _ dM dM last))))))))))))))))
theorem Gy(n:Nat)(h:n≤1000000):mK n 40:=by
 unfold mK
 have:maxLen=9223372036854775807:=rfl
 omega
theorem Gz(src:Ω)(hl:src.length≤100000)(p:Nat)(hp:p<src.length)(l:List af)(hll:l.length≤200000) :
  match AR p (src.drop p) with
  |.inl t=>gy src p l=some (0,((p+t.text.length:Nat):Int),l++[t])
  |.inr e=>e≠0∧∃ x,gy src p l=some (e,x,l):=by
 have hd:=D8 src p hp
 obtain ⟨c,hc⟩:∃ c,src.getD p 0=c:=⟨_,rfl⟩
 have hs:=Fb src p hp l
 have hr:=Gx src hl p oM l
 rw [hc] at hd hs
 have hone:gy src p l=(some (decide (tSm c))).bind fun y5=>if y5=true then ((fE src p l).bind fun y6=>(nQ y6.1).bind fun y7=>if y7=true then (bQ p l y6.2 1 y6.1 0) else (if (y6.1.length:Int)>12 then (some (3,y6.2,l)) else (bQ p l y6.2 2 y6.1 0))) else ((some (decide (tDg c))).bind fun y8=>if y8=true then ((fE src p l).bind fun y9=>(m8 y9.1).bind fun y10=>if y10.2=true then (bQ p l y9.2 3 y9.1 y10.1) else (some (2,y9.2,l))) else ((gW src p l).bind fun y11=>if y11=([]:Ω) then (some (1,(p:Int),l)) else (bQ p l (IntKind.wrap .i64 (p+(y11.length:Int))) 4 y11 0))):=by
  unfold gy
  rw [iP (inI hp),tN,hc,um,vK]
 have hj:∀ x1 x2 s3 x4,bQ (p:Int) l x1 x2 s3 x4=some (0,x1,l++[af.mk x2 p s3 x4]):=fun x1 x2 s3 x4=>by
  unfold bQ
  rw [iP (Gy _ oM)];rfl
 have hlen:(src.drop p).length=src.length - p:=List.length_drop
 rw [hone,hr]
 simp only [bSq,decide_eq_true_eq,hj,Ac]
 rw [hs]
 simp only [bSq]
 clear hone hr hs hj
 generalize hsd:src.drop p=s at *
 subst hd
 unfold AR
 simp only
 by_cases h1:tSm c
 ·rw [iP h1,iP h1]
  by_cases hw:pT ((c :: src.drop (p+1)).takeWhile tAn)=true
  ·rw [iP hw,iP hw]
  ·rw [iN hw,iN hw]
   by_cases h12:((c :: src.drop (p+1)).takeWhile tAn).length>12
   ·rw [iP h12,iP oM]
    exact ⟨by decide,_,rfl⟩
   ·rw [iN h12,iN oM]
 ·rw [iN h1,iN h1]
  by_cases h2:tDg c
  ·rw [iP h2,iP h2]
   have hne:(c :: src.drop (p+1)).takeWhile tAn≠[]:=by rw [List.takeWhile_cons,iP (Ab (.inr h2))];simp
   rw [Da _ hne]
   simp only [bSq]
   cases hn:Fa ((c :: src.drop (p+1)).takeWhile tAn) with
   |some n=>rfl
   |none=>exact ⟨by decide,_,rfl⟩
  ·rw [iN h2,iN h2]
   have hwr:∀ k:Nat,k≤2→IntKind.wrap .i64 ((p:Int)+(k:Int))=((p+k:Nat):Int):=fun k hk=>by rw [wr oM oM];omega
   have htk:((c :: src.drop (p+1)).take 2).length≤2:=by rw [List.length_take];omega
   by_cases h3:(c :: src.drop (p+1)).take 2=[61,61]∨(c :: src.drop (p+1)).take 2=[45,62]
   ·rw [iP h3,iP h3,iN (by simp),hwr _ htk]
   ·rw [iN h3,iN h3]
    by_cases h4:c.toNat∈BI
    ·rw [iP h4,iP h4,iN (by simp)]
     have:=hwr [c].length (by simp)
     rw [this]
    ·rw [iN h4,iN h4,iP rfl]
     exact ⟨by decide,_,rfl⟩
theorem Db(src:Ω)(hl:src.length≤100000):∀ (k p:Nat) (l:List af),p≤src.length→src.length - p<k→l.length≤p →
  bD (fun (x19,l20)=>gi src x19 l20) (((src.length - (blk false (src.drop p)).length:Nat):Int),l)=some (match xY k p (src.drop p) with
   |.inl m=>.inl ((src.length:Int),l++m)
   |.inr f=>.inr ([],f)):=by
 intro k
 induction k with
 |zero=>intro p l _ h;omega
 |succ k ih =>
  intro p l hp hk hll
  have hb:=D5 false (src.drop p)
  have hbd:=D6 false (src.drop p)
  have hlen:(src.drop p).length=src.length - p:=List.length_drop
  rw [BJ]
  cases e:blk false (src.drop p) with
  |nil =>
   simp only [List.length_nil,Nat.sub_zero]
   rw [gB (o:=.inl ((src.length:Int),l)) (by
    show gi src src.length l=_
    unfold gi
    rw [iN (bp _)])]
   simp
  |cons c m =>
   simp only
   rw [e] at hb hbd
   have hcm:(c :: m).length=m.length+1:=rfl
   obtain ⟨q,hq⟩:∃ q,q=src.length - (c :: m).length:=⟨_,rfl⟩
   have hqp:p+((src.drop p).length - (c :: m).length)=q:=by omega
   have hdq:src.drop q=c :: m:=by
    rw [hbd,List.drop_drop,← hqp]
   have h1:=Gz src hl q oM l oM
   rw [← hq,hqp]
   rw [hdq] at h1
   cases ht:AR q (c :: m) with
   |inr er =>
    rw [ht] at h1
    obtain ⟨hne,x,h1⟩:=h1
    rw [gB (o:=.inr ([],ap.mk er q)) (by
     show gi src q l=_
     unfold gi
     rw [iP oM,h1]
     simp only [bSq]
     rw [iP hne])]
   |inl t =>
    rw [ht] at h1
    simp only at h1
    obtain ⟨t1,t2,t3⟩:=C9 ht
    have hpos:0<t.text.length:=List.length_pos_iff.2 t2
    have hle:=t3.length_le
    have hdt:src.drop (q+t.text.length)=(c :: m).drop t.text.length:=by rw [← List.drop_drop,hdq]
    rw [m4 (s':=(((src.length - (blk false (src.drop (q+t.text.length))).length:Nat):Int),l++[t])) (by
     show gi src q l=_
     unfold gi
     rw [iP oM,h1]
     simp only [bSq]
     rw [iN (by simp),AS src hl _ oM]
     rfl),ih (q+t.text.length) (l++[t]) oM oM (by simp;omega),hdt]
    simp only
    cases xY k (q+t.text.length) ((c :: m).drop t.text.length) with
    |inr f=>rfl
    |inl m2=>simp
def Ea(src:Ω):List af×ap :=
 if src.length>12000 then ([],ap.mk 7 12000) else match xY (src.length+1) 0 src with
  |.inl m=>(m,ap.mk 0 0)
  |.inr f=>([],f)
theorem Fc(src:Ω)(hl:src.length≤100000):o8 src=some (Ea src):=by
 unfold o8 Ea
 by_cases h:src.length>12000
 ·rw [iP oM,iP h]
 rw [iN oM,iN h]
 have hb:=AS src hl 0 oM []
 simp only [Int.natCast_zero] at hb
 rw [hb]
 simp only [bSq]
 rw [Db src hl (src.length+1) 0 [] oM oM (by simp)]
 rw [List.drop_zero]
 cases xY (src.length+1) 0 src with
 |inr f=>rfl
 |inl m=>rfl
def iB(w:Ω):Bool:=decide (w≠[]∧w.length≤12∧(∃ c,w.head? = some c∧tSm c)∧pT w=false∧∀ i,i<w.length→tAn (w.getD i 0)=true)
theorem Eb(w:Ω):qA w=some (pT w):=by
 unfold qA
 have hb:∀ x:Int,kC w x=if x<(32:Int) then (if (0≤x∧x<(32:Int)) then (if rx.getD x.toNat default=w then (some (.inr (.inr true))) else (some (.inl (IntKind.wrap .i64 (x+1))))) else none) else (some (.inr (.inl ()))):=fun _=>rfl
 rw [ql (body:=fun x3=>kC w x3) 32 (fun i=>if rx.getD i default=w then some true else none) ()
  (by
   intro i hi
   show kC w i=_
   rw [hb,iP oM,iP ⟨by omega,by omega⟩,tN,wr1 i oM]
   by_cases h:rx.getD i default=w
   ·rw [iP h,iP h]
   ·rw [iN h,iN h])
  (by
   show kC w (32:Nat)=_
   rw [hb,iN oM])]
 simp only [bSq]
 rcases qF 32 (fun i=>if rx.getD i default=w then some true else none) () with ⟨e,hall⟩|⟨i,z,hi,hf,e⟩
 ·rw [e]
  simp only [Sum.elim_inl]
  unfold mz
  congr 1;symm
  unfold pT
  rw [← Bool.not_eq_true,List.contains_iff_mem]
  intro hm
  obtain ⟨i,hi,he⟩:=List.getElem_of_mem hm
  have hi':i<32:=hi
  have:=hall i hi'
  rw [iP (by simp only [List.getD,List.getElem?_eq_getElem hi,Option.getD_some];exact he)] at this
  cases this
 ·rw [e]
  split at hf
  ·rename_i hw
   simp only [sJ] at hf
   subst hf
   simp only [Sum.elim_inr]
   congr 1;symm
   unfold pT
   rw [List.contains_iff_mem,← hw]
   have hi':i<rx.length:=hi
   simp only [List.getD,List.getElem?_eq_getElem hi',Option.getD_some]
   exact List.getElem_mem hi'
  ·cases hf
theorem Fd(w:Ω)(hl:w.length≤100000):lQ w=some (iB w):=by
 unfold iB
 unfold lQ
 cases w with
 |nil=>rw [iP rfl];simp
 |cons c l =>
  rw [iN (by simp)]
  by_cases h1:((c :: l).length:Int)>12
  ·rw [iP h1];congr 1;symm;rw [decide_eq_false_iff_not];intro h;omega
  rw [iN h1,iP ⟨by omega,by simp⟩]
  rw [show (c :: l).getD 0 0=c from rfl,um,Ac]
  simp only [bSq,decide_eq_true_eq]
  by_cases h2:tSm c
  case neg=>rw [iN h2];congr 1;symm;rw [decide_eq_false_iff_not];rintro ⟨_,_,⟨d,hd,hs⟩,_⟩;simp at hd;subst hd;exact h2 hs
  rw [iP h2]
  by_cases h3:pT (c :: l)=true
  ·rw [iP h3];congr 1;symm;rw [decide_eq_false_iff_not];rintro ⟨_,_,_,h,_⟩;rw [h3] at h;cases h
  rw [iN h3]
  generalize hw:c :: l=w at *
  rw [ql (body:=fun x5=>jf w x5) w.length (fun i=>if tAn (w.getD i 0)=true then none else some false) ()
   (by
    intro i hi
    show jf w i=_
    unfold jf
    rw [iP (ltI hi),iP (inI hi),tN,um,vK,wr1 i oM]
    simp only [bSq,decide_eq_true_eq]
    unfold tAn
    simp only [decide_eq_true_eq]
    by_cases g1:tSm (w.getD i 0)
    ·rw [iP g1,iP (Or.inl g1)]
    ·rw [iN g1]
     by_cases g2:tDg (w.getD i 0)
     ·rw [iP g2,iP (Or.inr g2)]
     ·rw [iN g2,iN (fun x=>x.elim g1 g2)])
   (by
    show jf w w.length=_
    unfold jf
    rw [iN (bp _)])]
  simp only [bSq]
  rcases qF w.length (fun i=>if tAn (w.getD i 0)=true then none else some false) () with ⟨e,hall⟩|⟨i,z,hi,hf,e⟩
  ·rw [e]
   simp only [Sum.elim_inl]
   unfold mn
   congr 1;symm
   rw [decide_eq_true_iff]
   refine ⟨by rw [← hw];simp,by omega,⟨c,by rw [← hw];rfl,h2⟩,by simpa using h3,fun i hi=>?_⟩
   have:=hall i hi
   split at this
   ·assumption
   ·cases this
  ·rw [e]
   split at hf
   ·cases hf
   ·rename_i hn
    simp only [sJ] at hf
    subst hf
    simp only [Sum.elim_inr]
    congr 1;symm
    rw [decide_eq_false_iff_not]
    rintro ⟨_,_,_,_,h⟩
    exact hn (h i hi)
theorem Ec(w:Ω):iM w=lQ w:=by
 unfold iM lQ
 by_cases h:w=[]
 ·rw [iP h,iP (by rw [h];decide)]
 ·have:0<w.length:=List.length_pos_iff.2 h
  rw [iN h,iN oM,Ac,Eb]
  rfl
theorem AU(w:Ω):lQ w=some (iB w):=by
 by_cases h:w.length≤100000
 ·exact Fd w h
 ·have h1:iB w=false:=by unfold iB;exact dF (fun k=>by omega)
  rw [h1]
  unfold lQ
  rw [iN (by rintro rfl;simp at h),iP oM]
theorem pi(w:Ω):iM w=some (iB w):=by rw [Ec,AU]
def wf(f:ap)(at_ e:Int):ap:=if f.code=0∧¬ e=0 then ap.mk e at_ else f
def sq(a b:Int):Int:=if a=0 then b else a
theorem iW(f:ap)(at_ a b:Int):wf (wf f at_ a) at_ b=wf f at_ (sq a b):=by
 unfold wf sq
 by_cases h1:f.code=0<;>by_cases h2:a=0<;>by_cases h3:b=0<;>simp [h1,h2,h3]
theorem AV(f:ap)(at_:Int):wf f at_ 0=f:=by simp [wf]
theorem Fe(f:ap)(at_ e:Int):(wf f at_ e).code=0↔f.code=0∧e=0:=by
 unfold wf
 split
 ·rename_i h;simp [h.2]
 ·rename_i h;constructor
  ·intro k;refine ⟨k,?_⟩;by_cases e0:e=0;exact e0;exact absurd ⟨k,e0⟩ h
  ·exact fun k=>k.1
def fsF{T:Type}(F:T→Int):List T→Int
 |[]=>0
 |x :: l=>sq (F x) (fsF F l)
theorem H4(a:Int):sq a 0=a:=by unfold sq;split<;>simp_all
def pr(f:ap):Int×Int:=(f.code,f.at_)
theorem ij(b:Bool)(c:Int)(f:ap)(a:Int)(hc:¬ c=0):az b c (ao.mk f a)=some (pr (wf f a (if b=true then c else 0))):=by
 unfold az wf pr
 by_cases h1:b=true
 ·by_cases h2:f.code=0<;>simp [h1,h2,hc]
 ·simp [h1]
theorem qG(s:Ω)(f:ap)(a:Int):bH s (ao.mk f a)=some (pr (wf f a (if iB s=true then 0 else 3))):=by
 unfold bH
 rw [AU,bSq,ij _ _ _ _ dM]
 cases iB s<;>rfl
theorem qm{T:Type}[Inhabited T](l:List T)(F:T→Int)(at_:Int){body:Int×Int×Int→Option ((Int×Int×Int) ⊕ (Int×Int))}(f0:ap)
  (hb:∀ (i:Nat) (f:ap),i<l.length→f.code=0→body (f.code,f.at_,(i:Int))=some (.inl ((wf f at_ (F (l.getD i default))).code,(wf f at_ (F (l.getD i default))).at_,((i+1:Nat):Int))))
  (hs:∀ (i:Nat) (f:ap),i<l.length→¬ f.code=0→body (f.code,f.at_,(i:Int))=some (.inr (pr f)))
  (he:∀ (f:ap),body (f.code,f.at_,(l.length:Int))=some (.inr (pr f))) :
  bD body (f0.code,f0.at_,0)=some (pr (wf f0 at_ (fsF F l))):=by
 have key:∀ (k i:Nat) (f:ap),i+k=l.length→bD body (f.code,f.at_,(i:Int))=some (pr (wf f at_ (fsF F (l.drop i)))):=by
  intro k
  induction k with
  |zero =>
   intro i f hi
   obtain rfl:i=l.length:=by omega
   rw [dZ,he,List.drop_length]
   simp only [fsF,AV]
  |succ k ih =>
   intro i f hi
   have hlt:i<l.length:=by omega
   have hd:l.drop i=l.getD i default :: l.drop (i+1):=by
    rw [List.drop_eq_getElem_cons hlt];simp [List.getD,hlt]
   by_cases hc:f.code=0
   ·rw [dZ,hb i f hlt hc]
    simp only
    rw [ih (i+1) _ oM,iW,hd]
    rfl
   ·rw [dZ,hs i f hlt hc]
    simp only
    congr 1
    unfold wf
    rw [iN (fun k=>hc k.1)]
 exact key l.length 0 f0 oM
theorem oG{T:Type}[Inhabited T](l:List T)(F:T→Int){body:Int→Option (Int ⊕ (Unit ⊕ Int))}
  (hb:∀ (i:Nat),i<l.length→body i=some (if F (l.getD i default)=0 then .inl ((i+1:Nat):Int) else .inr (.inr (F (l.getD i default)))))
  (he:body l.length=some (.inr (.inl ()))):bD body 0=some (if fsF F l=0 then .inl () else .inr (fsF F l)):=by
 have key:∀ (k i:Nat),i+k=l.length→bD body (i:Int)=some (if fsF F (l.drop i)=0 then .inl () else .inr (fsF F (l.drop i))):=by
  intro k
  induction k with
  |zero =>
   intro i hi
   obtain rfl:i=l.length:=by omega
   rw [dZ,he,List.drop_length]
   simp [fsF]
  |succ k ih =>
   intro i hi
   have hlt:i<l.length:=by omega
   have hd:l.drop i=l.getD i default :: l.drop (i+1):=by
    rw [List.drop_eq_getElem_cons hlt];simp [List.getD,hlt]
   rw [dZ,hb i hlt,hd]
   by_cases h:F (l.getD i default)=0
   ·rw [iP h]
    simp only
    rw [ih (i+1) oM]
    simp only [fsF,sq,h,if_true]
   ·rw [iN h]
    simp only [fsF,sq,h,if_false]
 exact key l.length 0 oM
theorem vL(e:Int):((some (if e=0 then Sum.inl () else Sum.inr e):Option (Unit ⊕ Int)).bind (Sum.elim (fun _=>some 0) (fun z=>some z)))=some e:=by
 by_cases h:e=0<;>simp [h]
def vM(t:an):Int:=if t.n≤-1000000000000000000∨1000000000000000000≤t.n then 2 else if t.name=[]∨iB t.name=true then 0 else 3
def iX(s:List an):Int:=if s.length=0 then 4 else if s.length>30 then 7 else fsF vM s
def Dc(t:gR):Int:=sq (if t.elem=105∨t.elem=98 then 0 else 10) (if t.n.length>0 then iX t.n else 0)
def zf(d:ax):Int:=sq (if iB d.name=true then 0 else 3) (Dc d.t)
def fA(l:List ax):Int:=if l.length>30 then 7 else fsF zf l
theorem ya(s:List an)(hs:s.length≤9000000)(f:ap)(a:Int):fU s (ao.mk f a)=some (pr (wf f a (iX s))):=by
 unfold fU
 rw [ij _ _ _ _ dM,bSq]
 simp only [pr]
 rw [ij _ _ _ _ dM,bSq]
 simp only [pr]
 rw [iW]
 rw [qm s vM a (body:=fun (x9,x10,x11)=>cI s (ao.mk f a) x9 x10 x11) _
  (fun i f' hi hc => by
   show cI s (ao.mk f a) f'.code f'.at_ i=_
   unfold cI
   rw [iP (ltI hi),iP hc,iP (inI hi),tN]
   generalize ht:s.getD i default=t
   have j1:∀ g:ap,dN s (ao.mk f a) i g.code g.at_=some (.inl ((wf g a (if t.name=[]∨iB t.name=true then 0 else 3)).code,(wf g a (if t.name=[]∨iB t.name=true then 0 else 3)).at_,((i+1:Nat):Int))):=by
    intro g
    unfold dN
    rw [tN,ht,wrs i oM]
    by_cases h:t.name=[]
    ·rw [iP h,iP (Or.inl h),AV]
    ·rw [iN h,qG]
     simp only [bSq,pr,h,false_or]
   have step:∀ e:Int,((some (pr (wf f' a e)):Option (Int×Int)).bind fun y=>dN s (ao.mk f a) i y.1 y.2) =
     some (.inl ((wf f' a (sq e (if t.name=[]∨iB t.name=true then 0 else 3))).code,(wf f' a (sq e (if t.name=[]∨iB t.name=true then 0 else 3))).at_,((i+1:Nat):Int))):=by
    intro e
    rw [bSq]
    simp only [pr]
    rw [j1,iW]
   by_cases h1:t.n≤-1000000000000000000
   ·rw [iP h1,ij _ _ _ _ dM,step]
    simp only [vM,h1,true_or,if_true,sq]
    simp
   ·rw [iN h1,ij _ _ _ _ dM,step]
    by_cases h2:1000000000000000000≤t.n
    ·simp only [vM,h1,h2,ge_iff_le,decide_true,or_true,if_true,sq];simp
    ·simp only [vM,h1,h2,ge_iff_le,decide_false,or_self,if_false,sq];simp)
  (fun i f' hi hc => by
   show cI s (ao.mk f a) f'.code f'.at_ i=_
   unfold cI
   rw [iP (ltI hi),iN hc];rfl)
  (fun f' => by
   show cI s (ao.mk f a) f'.code f'.at_ s.length=_
   unfold cI
   rw [iN (bp _)];rfl)]
 rw [bSq,iW]
 congr 3
 unfold iX sq
 by_cases h1:s.length=0
 ·simp [h1]
 ·by_cases h2:s.length>30
  ·have:(30:Int)<s.length:=by omega
   have h3:¬ s=[]:=by rintro rfl;simp at h1
   simp [h3,h2,this]
  ·have:¬ (30:Int)<s.length:=by omega
   have h3:¬ s=[]:=by rintro rfl;simp at h1
   simp [h3,h2,this]
theorem Ff(t:gR)(hs:t.n.length≤9000000)(f:ap)(a:Int):kc t (ao.mk f a)=some (pr (wf f a (Dc t))):=by
 have j1:∀ (g:ap),e8 t (ao.mk f a) g.code g.at_=some (pr (wf g a (if t.n.length>0 then iX t.n else 0))):=by
  intro g
  unfold e8
  by_cases h:t.n.length>0
  ·rw [iP oM,iP h,ya _ hs];rfl
  ·rw [iN oM,iN h,AV];rfl
 unfold kc
 by_cases h:t.elem=105
 ·rw [iN (by simp [h]),ij _ _ _ _ dM,bSq]
  simp only [pr]
  rw [j1,iW]
  simp [Dc,h,sq,pr]
 ·rw [iP h,ij _ _ _ _ dM,bSq]
  simp only [pr]
  rw [j1,iW]
  by_cases h2:t.elem=98<;>simp [Dc,h,h2,pr]
theorem wm(l:List ax)(hl:l.length≤9000000)(hd:∀ d∈l,d.t.n.length≤9000000)(f:ap)(a:Int):fw l (ao.mk f a)=some (pr (wf f a (fA l))):=by
 unfold fw
 rw [ij _ _ _ _ dM,bSq]
 simp only [pr]
 rw [qm l zf a (body:=fun (x8,x9,x10)=>cB l (ao.mk f a) x8 x9 x10) _
  (fun i f' hi hc => by
   show cB l (ao.mk f a) f'.code f'.at_ i=_
   unfold cB
   have hm:l.getD i default∈l:=by simp [List.getD,hi]
   rw [iP (ltI hi),iP hc,iP (inI hi),tN,qG,bSq]
   simp only [pr]
   rw [Ff _ (hd _ hm),bSq,iW,wrs i oM]
   rfl)
  (fun i f' hi hc => by
   show cB l (ao.mk f a) f'.code f'.at_ i=_
   unfold cB
   rw [iP (ltI hi),iN hc];rfl)
  (fun f' => by
   show cB l (ao.mk f a) f'.code f'.at_ l.length=_
   unfold cB
   rw [iN (bp _)];rfl)]
 rw [bSq,iW]
 congr 3
 unfold fA sq
 by_cases h2:l.length>30
 ·have:(30:Int)<l.length:=by omega
  simp [h2,this]
 ·have:¬ (30:Int)<l.length:=by omega
  simp [h2,this]
theorem yb(s:List an)(hs:s.length≤9000000):kD s=some (iX s):=by
 unfold kD iX
 by_cases h1:s.length=0
 ·rw [iP oM,iP h1]
 ·rw [iN oM,iN h1]
  by_cases h2:s.length>30
  ·rw [iP oM,iP h2]
  ·rw [iN oM,iN h2,oG s vM (fun i hi=>by
    unfold kZ
    rw [iP (ltI hi),iP (inI hi),tN,pi,wrs i oM]
    generalize s.getD i default=t
    unfold vM
    by_cases k1:t.n≤-1000000000000000000
    ·simp [k1]
    ·by_cases k2:1000000000000000000≤t.n
     ·simp [k1,k2]
     ·by_cases k3:t.name=[]
      ·simp [k1,k2,k3]
      ·cases k4:iB t.name<;>simp [k1,k2,k3]) (by unfold kZ;rw [iN (bp _)])]
   exact vL _
theorem wn(l:List ax)(hl:l.length≤9000000)(hd:∀ d∈l,d.t.n.length≤9000000):lb l=some (fA l):=by
 unfold lb fA
 by_cases h2:l.length>30
 ·rw [iP oM,iP h2]
 ·rw [iN oM,iN h2,oG l zf (fun i hi=>by
   unfold kj
   have hm:l.getD i default∈l:=by simp [List.getD,hi]
   have hn:=hd _ hm
   have j2:gA l i=some (if (if (l.getD i default).t.n.length>0 then iX (l.getD i default).t.n else 0)=0 then .inl ((i+1:Nat):Int) else .inr (.inr (if (l.getD i default).t.n.length>0 then iX (l.getD i default).t.n else 0))):=by
    unfold gA
    rw [tN,wrs i oM]
    generalize l.getD i default=d at hn ⊢
    by_cases h:d.t.n.length>0
    ·rw [iP oM,yb _ hn,bSq,iP h]
     by_cases e:iX d.t.n=0<;>simp [e]
    ·rw [iN oM,iN h];simp
   rw [iP (ltI hi),iP (inI hi),j2,tN,pi,bSq]
   generalize l.getD i default=d
   unfold zf Dc sq
   cases k1:iB d.name
   ·simp
   ·by_cases k2:d.t.elem=105
    ·simp [k2]
    ·by_cases k3:d.t.elem=98<;>simp [k2,k3]) (by unfold kj;rw [iN (bp _)])]
  exact vL _
noncomputable def dec(p:Prop):Bool:=@decide p (Classical.propDecidable p)
theorem kK{p:Prop}:dec p=true↔p:=by unfold dec;exact @decide_eq_true_iff p (Classical.propDecidable p)
theorem lC{p q:Prop}(h:p↔q):dec p=dec q:=by rw [propext h]
theorem Fu{p:Prop}(h:¬ p):dec p=false:=fB fun x=>h (kK.1 x)
theorem Ad{p q:Prop}{α:Type}{d:Decidable p}(h:p↔q)(a b:α):(if p then a else b)=if dec q=true then a else b:=by
 by_cases hp:p
 ·rw [iP hp,iP (kK.2 (h.1 hp))]
 ·rw [iN hp,iN (fun x=>hp (h.2 (kK.1 x)))]
def wI{T:Type}[Inhabited T](R:T→T→Prop)(l m:List T):Prop:=l.length=m.length∧∀ i,i<l.length→R (l.getD i default) (m.getD i default)
theorem vN{T:Type}[Inhabited T]{l m:List T}:wI (fun a b=>a=b) l m↔l=m:=by
 constructor
 ·intro ⟨h1,h2⟩
  refine List.ext_getElem h1 fun i hi hj=>?_
  have:=h2 i hi
  simpa [List.getD_eq_getElem?_getD,hi,hj] using this
 ·rintro rfl;exact ⟨rfl,fun _ _=>rfl⟩
theorem eqf{T:Type}[Inhabited T]{p1 p2:List T}{body:Int→Option (Int ⊕ (Unit ⊕ Bool))}{t:Option Bool}(R:T→T→Prop)(hl:p1.length≤9000000)(ht:t=some true)
  (hb:∀ i:Nat,i<p1.length→i<p2.length→body (i:Int)=if dec (R (p1.getD i default) (p2.getD i default))=true then some (.inl (IntKind.wrap .i64 ((i:Int)+1))) else some (.inr (.inr false)))
  (he:body (p1.length:Int)=some (.inr (.inl ()))) :
  (if ¬ (p1.length:Int)=(p2.length:Int) then some false else ((bD body 0).bind (Sum.elim (fun _=>t) (fun z=>some z))))=some (dec (wI R p1 p2)):=by
 by_cases hlen:p1.length=p2.length
 ·rw [iN oM]
  rw [ql p1.length (fun i=>if dec (R (p1.getD i default) (p2.getD i default))=true then none else some false) () (fun i hi=>by
   rw [hb i hi oM]
   by_cases h:dec (R (p1.getD i default) (p2.getD i default))=true
   ·rw [iP h,iP h,wrs i oM]
   ·rw [iN h,iN h]) he]
  rcases qF p1.length (fun i=>if dec (R (p1.getD i default) (p2.getD i default))=true then none else some false) () with ⟨h1,h2⟩|⟨i,z,hi,hz,h1⟩
  ·rw [h1]
   show t=_
   have hall:wI R p1 p2:=⟨hlen,fun i hi=>by
    have:=h2 i hi
    by_cases h:dec (R (p1.getD i default) (p2.getD i default))=true
    ·exact kK.1 h
    ·simp only [h] at this;cases this⟩
   rw [ht,kK.2 hall]
  ·rw [h1]
   show some z=_
   by_cases h:dec (R (p1.getD i default) (p2.getD i default))=true
   ·simp only [iP h] at hz;cases hz
   ·simp only [iN h,sJ] at hz
    subst hz
    rw [Fu fun x=>h (kK.2 (x.2 i hi))]
 ·rw [iP oM,Fu (fun x=>hlen x.1)]
theorem AW(a b:an):(a.n=b.n∧a.name=b.name)↔a=b:=by cases a;cases b;simp
def nh(l:List ax):Prop:=l.length≤9000000∧∀ d∈l,d.t.n.length≤9000000
def rg(l:List (List an)):Prop:=l.length≤9000000∧∀ d∈l,d.length≤9000000
theorem oH{l:List ab}{x:ab}(h:x∈l):x.sz≤ab.szs l:=by
 have h1:=ab.szs_eq l
 have:=iZ (f:=ab.sz) h
 omega
theorem oI(l:List ab):l.length≤ab.szs l:=by
 have h1:=ab.szs_eq l
 have:=eq ab.sz_pos l
 omega
theorem vO(x:an):1≤x.sz:=an.sz_pos x
theorem ye{l:List (List an)}(h:szL (szL an.sz) l≤9000000):rg l:=by
 refine ⟨?_,fun d hd=>?_⟩
 ·have:=eq (f:=szL an.sz) (fun x=>by have:=eq vO x;omega) l;omega
 ·have:=iZ (f:=szL an.sz) hd
  have:=eq vO d
  omega
theorem vj{x:ab}(h:x.sz≤9000000):rg x.s∧ab.szs x.l+1<x.sz:=by
 have h1:=ab.sz_eq x
 have h2:=ab.szs_eq x.l
 simp only [szI] at h1
 exact ⟨ye oM,by omega⟩
theorem Ed(a b:ab):(a.op=b.op∧a.k=b.k∧a.n=b.n∧a.name=b.name∧a.s=b.s∧a.l=b.l)↔a=b:=by cases a;cases b;simp
def EqR(p q:TEq):Prop:=p.names=q.names∧p.node=q.node∧p.s=q.s∧p.e=q.e
def H5(p:TEq):Prop:=p.names.length≤9000000∧rg p.s∧ab.szs p.e≤9000000
def Fv(l:List TEq):Prop:=l.length≤9000000∧∀ q∈l,H5 q
def GA(x:aK):Prop:=x.sizes.length≤9000000∧nh x.in_∧nh x.out_∧nh x.local_∧Fv x.eqs
def Ee(p:aB):Prop:=p.nodes.length≤9000000∧∀ x∈p.nodes,GA x
section
variable {α:Type} {p q:Prop} {A B:α}
theorem ifF{d:Decidable p}:(if p then (if dec q=true then A else B) else B)=if dec (p∧q)=true then A else B:=by
 by_cases h:p
 ·rw [iP h,lC (show (p∧q)↔q by simp [h])]
 ·rw [iN h,iN (fun x=>h (kK.1 x).1)]
theorem ifN{d:Decidable p}:(if ¬ p then B else (if dec q=true then A else B))=if dec (p∧q)=true then A else B:=by
 by_cases h:p
 ·rw [iN (fun x=>x h),lC (show (p∧q)↔q by simp [h])]
 ·rw [iP h,iN (fun x=>h (kK.1 x).1)]
theorem Ef{A B:Option α}:((some (dec p)).bind fun y=>if y=true then (if dec q=true then A else B) else B)=if dec (p∧q)=true then A else B:=by
 show (if dec p=true then _ else _)=_
 rw [ifF,lC (show (dec p=true∧q)↔(p∧q) by rw [kK])]
theorem Ct{A B:Option α}:((some (dec p)).bind fun y=>if dec (y=true∧q)=true then A else B)=if dec (p∧q)=true then A else B:=by
 show (if dec (dec p=true∧q)=true then A else B)=_
 rw [lC (show (dec p=true∧q)↔(p∧q) by rw [kK])]
theorem un(h:p↔q):(if dec p=true then A else B)=if dec q=true then A else B:=by rw [lC h]
theorem Cu{A B:Option α}:((some (dec p)).bind fun y=>if y=true then A else B)=if dec p=true then A else B:=rfl
end
theorem Eg{body:Int→Option (Int ⊕ (Unit ⊕ Bool))}(n:Nat)(hn:n≤9000000)(R:Nat→Prop)
  (hb:∀ i:Nat,i<n→body (i:Int)=if dec (R i)=true then some (.inl (IntKind.wrap .i64 ((i:Int)+1))) else some (.inr (.inr false)))
  (he:body (n:Int)=some (.inr (.inl ()))):bD body 0=some (if dec (∀ i,i<n→R i)=true then .inl () else .inr false):=by
 rw [ql n (fun i=>if dec (R i)=true then none else some false) () (fun i hi=>by
  rw [hb i hi]
  by_cases h:dec (R i)=true
  ·rw [iP h,iP h,wrs i oM]
  ·rw [iN h,iN h]) he]
 rcases qF n (fun i=>if dec (R i)=true then none else some false) () with ⟨h1,h2⟩|⟨i,z,hi,hz,h1⟩
 ·rw [h1,iP (kK.2 fun i hi=>by
   have:=h2 i hi
   by_cases h:dec (R i)=true
   ·exact kK.1 h
   ·simp only [h] at this;cases this)]
 ·rw [h1,iN (fun x=>by
   simp only [kK.2 (kK.1 x i hi)] at hz;cases hz)]
  by_cases h:dec (R i)=true
  ·simp only [iP h] at hz;cases hz
  ·simp only [iN h,sJ] at hz;rw [hz]
theorem yf(p1 p2:List Ω)(h:p1.length≤9000000):jg p1 p2=some (dec (p1=p2)):=by
 rw [← lC vN]
 unfold jg
 refine eqf _ h rfl (fun i hi hj=>?_) (by unfold ll;rw [iN (bp _)])
 unfold ll
 rw [iP (ltI hi),iP ⟨inI hi,inI hj⟩,tN]
 first|exact Ad Iff.rfl _ _|(rw [ite_not];exact Ad Iff.rfl _ _)
theorem wJ(p1 p2:List an)(h:p1.length≤9000000):mA p1 p2=some (dec (p1=p2)):=by
 rw [← lC vN]
 unfold mA
 refine eqf _ h rfl (fun i hi hj=>?_) (by unfold ln;rw [iN (bp _)])
 unfold ln
 rw [iP (ltI hi),iP ⟨inI hi,inI hj⟩,tN]
 first|exact Ad (AW _ _) _ _|(rw [ite_not];exact Ad (AW _ _) _ _)
theorem wK(p1 p2:List (List an))(h:rg p1):kE p1 p2=some (dec (p1=p2)):=by
 rw [← lC vN]
 unfold kE
 refine eqf _ h.1 rfl (fun i hi hj=>?_) (by unfold lv;rw [iN (bp _)])
 unfold lv
 rw [iP (ltI hi),iP ⟨inI hi,inI hj⟩,tN,wJ _ _ (h.2 _ (bi hi))]
 rfl
theorem tT(p1 p2:List ax)(h:nh p1):gk p1 p2=some (dec (p1=p2)):=by
 rw [← lC vN]
 unfold gk
 refine eqf _ h.1 rfl (fun i hi hj=>?_) (by unfold lr;rw [iN (bp _)])
 unfold lr
 rw [iP (ltI hi),iP ⟨inI hi,inI hj⟩,tN,wJ _ _ (h.2 _ (bi hi))]
 simp only [Cu,Ct,ifF,ifN]
 refine un ?_
 obtain ⟨n1,e1,s1⟩:=p1.getD i default
 obtain ⟨n2,e2,s2⟩:=p2.getD i default
 simp
theorem wL:∀ (n:Nat) (p1 p2:List ab),ab.szs p1<n→ab.szs p1≤9000000→iS n p1 p2=some (dec (p1=p2))
 |0,_,_,h,_=>by omega
 |n+1,p1,p2,h,hs=>by
  rw [← lC vN]
  have hlen:=oI p1
  show mh (iS n) p1 p2=_
  unfold mh
  refine eqf _ oM rfl (fun i hi hj=>?_) (by unfold lz;rw [iN (bp _)])
  unfold lz
  rw [iP (ltI hi),iP ⟨inI hi,inI hj⟩,tN]
  obtain ⟨a,ha⟩:∃ a,a=p1.getD i default:=⟨_,rfl⟩
  obtain ⟨b,hb⟩:∃ b,b=p2.getD i default:=⟨_,rfl⟩
  rw [← ha,← hb]
  have hm:a∈p1:=by rw [ha];exact bi hi
  have hsz:=oH hm
  obtain ⟨e1,e2⟩:=vj (x:=a) oM
  rw [wK _ _ e1,wL n a.l b.l oM oM]
  simp only [Cu,Ef,Ct,ifF,ifN]
  refine un ?_
  rw [← Ed]
  constructor
  ·rintro ⟨h1,h2,h3,h4,h5,h6⟩;exact ⟨h1,h2,h4,h3,h5,h6⟩
  ·rintro ⟨h1,h2,h3,h4,h5,h6⟩;exact ⟨h1,h2,h4,h3,h5,h6⟩
def AX(pl:Bool)(p q:TEq):Prop:=(pl=true→p.at_=q.at_)∧EqR p q
def BK(pl:Bool)(x y:aK):Prop:=(pl=true→x.at_=y.at_)∧x.name=y.name∧x.sizes=y.sizes∧x.in_=y.in_∧x.out_=y.out_∧x.local_=y.local_∧wI (AX pl) x.eqs y.eqs
theorem BL(n:Nat)(a b:aB)(pl:Bool)(i:Nat)(hn:9000000<n)(h:Fv (a.nodes.getD i default).eqs)(hlen:(a.nodes.getD i default).eqs.length=(b.nodes.getD i default).eqs.length) :
  fe n a b pl (i:Int)=if dec (wI (AX pl) (a.nodes.getD i default).eqs (b.nodes.getD i default).eqs)=true then some (.inl (IntKind.wrap .i64 ((i:Int)+1))) else some (.inr (.inr false)):=by
 unfold fe
 rw [Eg (a.nodes.getD i default).eqs.length h.1 (fun j=>AX pl ((a.nodes.getD i default).eqs.getD j default) ((b.nodes.getD i default).eqs.getD j default)) (fun j hj=>by
  have hj':j<(b.nodes.getD i default).eqs.length:=by omega
  unfold jF pm
  simp only [tN]
  obtain ⟨x,hx⟩:∃ x,x=a.nodes.getD i default:=⟨_,rfl⟩
  obtain ⟨y,hy⟩:∃ y,y=b.nodes.getD i default:=⟨_,rfl⟩
  rw [← hx] at hj h
  rw [← hy] at hj'
  rw [← hx,← hy]
  have ho:=h.2 _ (bi hj)
  rw [iP (ltI hj),iP ⟨inI hj,inI hj'⟩,yf _ _ ho.1,wK _ _ ho.2.1,wL n _ _ (by have:=ho.2.2;omega) ho.2.2]
  simp only [Cu,Ef,Ct,ifF,ifN]
  cases pl with
  |true =>
   rw [iP rfl]
   refine un ?_
   unfold AX EqR
   constructor
   ·rintro ⟨h1,h2,h3,h4⟩;exact ⟨fun _=>h1,h3,h2,h4⟩
   ·rintro ⟨h1,h2,h3,h4⟩;exact ⟨h1 rfl,h3,h2,h4⟩
  |false =>
   rw [iN (show ¬ (false=true) from by simp)]
   refine un ?_
   unfold AX EqR
   constructor
   ·rintro ⟨h2,h3,h4⟩;exact ⟨(fun h=>by cases h),h3,h2,h4⟩
   ·rintro ⟨h1,h2,h3,h4⟩;exact ⟨h3,h2,h4⟩) (by unfold jF;simp only [tN];rw [iN (bp _)])]
 simp only [bSq]
 have e:dec (wI (AX pl) (a.nodes.getD i default).eqs (b.nodes.getD i default).eqs)=dec (∀ j,j<(a.nodes.getD i default).eqs.length→AX pl ((a.nodes.getD i default).eqs.getD j default) ((b.nodes.getD i default).eqs.getD j default)) :=
  lC ⟨fun h=>h.2,fun h=>⟨hlen,h⟩⟩
 rw [e]
 split<;>rfl
theorem Eh(n:Nat)(a b:aB)(pl:Bool)(h:Ee a)(hn:9000000<n):mi n a b pl=some (dec (wI (BK pl) a.nodes b.nodes)):=by
 unfold mi
 refine eqf _ h.1 rfl (fun i hi hj=>?_) (by unfold jG;rw [iN (bp _)])
 unfold jG
 have ho:=h.2 _ (bi hi)
 rw [iP (ltI hi),iP ⟨inI hi,inI hj⟩,tN]
 obtain ⟨x,hx⟩:∃ x,x=a.nodes.getD i default:=⟨_,rfl⟩
 obtain ⟨y,hy⟩:∃ y,y=b.nodes.getD i default:=⟨_,rfl⟩
 have key:(if ¬ (x.eqs.length:Int)=(y.eqs.length:Int) then (some (.inr (.inr false))) else (fe n a b pl (i:Int)))=if dec (wI (AX pl) x.eqs y.eqs)=true then some (.inl (IntKind.wrap .i64 ((i:Int)+1))) else some (.inr (.inr false)):=by
  by_cases hl:x.eqs.length=y.eqs.length
  ·rw [iN oM,BL n a b pl i hn ho.2.2.2.2 (by rw [← hx,← hy];exact hl),← hx,← hy]
  ·rw [iP oM,iN (fun z=>hl (kK.1 z).1)]
 rw [← hx] at ho
 rw [← hx,← hy,key,yf _ _ ho.1,tT _ _ ho.2.1,tT _ _ ho.2.2.1,tT _ _ ho.2.2.2.1]
 simp only [Cu,Ef,Ct,ifF,ifN]
 cases pl with
 |true =>
  rw [iP (show (true=true) from rfl)]
  try simp only [ifF]
  refine un ?_
  unfold BK
  constructor
  ·rintro ⟨h1,h2,h3⟩;exact ⟨fun _=>h2,h1,h3⟩
  ·rintro ⟨h1,h2,h3⟩;exact ⟨h2,h1 rfl,h3⟩
 |false =>
  rw [iN (show ¬ (false=true) from by simp)]
  try simp only [ifF]
  refine un ?_
  unfold BK
  constructor
  ·rintro ⟨h1,h3⟩;exact ⟨(fun h=>by cases h),h1,h3⟩
  ·rintro ⟨_,h2,h3⟩;exact ⟨h2,h3⟩
theorem rh{n b:Nat}(h:n≤9000000)(hb:b≤1000):mK n b:=by
 unfold mK maxLen
 have:n * b≤9000000 * 1000:=Nat.mul_le_mul h hb
 omega
theorem r7{T:Type}[Inhabited T](l0:List T)(hl:l0.length≤9000000 - 1){body:List T×Int→Option ((List T×Int) ⊕ List T)}
  (hb:∀ i:Nat,i<l0.length→body (l0.take i,(i:Int))=some (.inl (l0.take i++[l0.getD i default],IntKind.wrap .i64 ((i:Int)+1))))
  (he:body (l0,(l0.length:Int))=some (.inr l0)):bD body ([],0)=some l0:=by
 have key:∀ (k i:Nat),i+k=l0.length→bD body (l0.take i,(i:Int))=some l0:=by
  intro k
  induction k with
  |zero =>
   intro i hi
   have:i=l0.length:=by omega
   subst this
   rw [List.take_length]
   exact gB he
  |succ k ih =>
   intro i hi
   rw [m4 (hb i oM),wrs i oM,← yd l0 oM]
   exact ih (i+1) oM
 simpa using key l0.length 0 oM
theorem tU{T:Type}(l:List T){i:Nat}(h:i<l.length):(l.take i).length=i:=by simp;omega
theorem vP(l:List Ω)(h:l.length≤8000000):mr l=some l:=by
 unfold mr;rw [iP (rh oM oM)]
theorem sO(l:List ax)(h:nh l)(h2:l.length≤8000000):ky l=some l:=by
 unfold ky
 rw [r7 l oM (fun i hi=>by
  show gY l (l.take i) i=_
  unfold gY
  rw [iP (ltI hi),iP (inI hi),tN,iP (rh (h.2 _ (bi hi)) oM),tU l hi,iP (rh oM oM)]
  rfl) (by show gY l l _=_;unfold gY;rw [iN (bp _)])]
 rfl
theorem vQ(l:List (List an))(h:rg l)(h2:l.length≤8000000):mt l=some l:=by
 unfold mt
 rw [r7 l oM (fun i hi=>by
  show gZ l (l.take i) i=_
  unfold gZ
  rw [iP (ltI hi),tN,iP ⟨inI hi,rh (h.2 _ (bi hi)) oM⟩,tU l hi,iP (rh oM oM)]
  rfl) (by show gZ l l _=_;unfold gZ;rw [iN (bp _)])]
 rfl
theorem BM{x:ab}(h:x.sz≤8000000):x.s.length≤8000000:=by
 have h1:=ab.sz_eq x
 have:=eq (f:=szL an.sz) (fun x=>by have:=eq vO x;omega) x.s
 omega
theorem vR:∀ (n:Nat) (l:List ab),ab.szs l<n→ab.szs l≤8000000→fO n l=some l
 |0,_,h,_=>by omega
 |n+1,l,h,hs=>by
  have hlen:=oI l
  show mb (fO n) l=_
  unfold mb
  rw [r7 l oM (fun i hi=>by
   show hI (fO n) l (l.take i) i=_
   unfold hI
   rw [iP (ltI hi),iP (inI hi),tN]
   obtain ⟨a,ha⟩:∃ a,a=l.getD i default:=⟨_,rfl⟩
   have hm:a∈l:=by rw [ha];exact bi hi
   have hsz:=oH hm
   obtain ⟨e1,e2⟩:=vj (x:=a) oM
   rw [← ha,vQ _ e1 (BM oM),vR n a.l oM oM]
   simp only [bSq]
   rw [tU l hi,iP (rh oM oM)]
   clear ha hm hsz e1 e2
   cases a;rfl) (by show hI (fO n) l l _=_;unfold hI;rw [iN (bp _)])]
  rfl
structure uI (p:aB):Prop where
 nodes:p.nodes.length≤8000000
 names:∀ x∈p.nodes,x.sizes.length≤8000000
 decls:∀ x∈p.nodes,(nh x.in_∧x.in_.length≤8000000)∧(nh x.out_∧x.out_.length≤8000000)∧(nh x.local_∧x.local_.length≤8000000)
 eqs:∀ x∈p.nodes,x.eqs.length≤8000000∧∀ q∈x.eqs,q.names.length≤8000000∧(rg q.s∧q.s.length≤8000000)∧ab.szs q.e≤8000000
theorem xd(s:Ω):1≤szS s:=by unfold szS;omega
theorem vS(x:List an):1≤szL an.sz x:=by have:=eq vO x;omega
theorem vl{l:List ax}(h:szL ax.sz l≤8000000):nh l∧l.length≤8000000:=by
 have:=eq ax.sz_pos l
 refine ⟨⟨by omega,fun d hd=>?_⟩,by omega⟩
 have h1:=iZ (f:=ax.sz) hd
 have h2:=eq vO d.t.n
 have h3:d.sz=szS d.name+d.t.sz+1:=by unfold ax.sz;omega
 have h4:d.t.sz=szI d.t.elem+szL an.sz d.t.n+1:=by unfold gR.sz;omega
 omega
theorem yg{p:aB}(h:p.sz≤1048576):uI p:=by
 have hp:p.sz=szL aK.sz p.nodes+1:=by unfold aB.sz;omega
 have hn:=eq aK.sz_pos p.nodes
 have node:∀ x∈p.nodes,szL szS x.sizes+szL ax.sz x.in_+szL ax.sz x.out_+szL ax.sz x.local_+szL TEq.sz x.eqs≤1048576:=fun x hx=>by
  have h1:=iZ (f:=aK.sz) hx
  have h2:x.sz=szS x.name+szI x.at_+szL szS x.sizes+szL ax.sz x.in_+szL ax.sz x.out_+szL ax.sz x.local_+szL TEq.sz x.eqs+1:=by unfold aK.sz;omega
  omega
 refine ⟨by omega,fun x hx=>?_,fun x hx=>?_,fun x hx=>⟨?_,fun q hq=>?_⟩⟩
 ·have h1:=node x hx
  have h2:=eq xd x.sizes
  omega
 ·have h1:=node x hx
  exact ⟨vl oM,vl oM,vl oM⟩
 ·have h1:=node x hx
  have h2:=eq TEq.sz_pos x.eqs
  omega
 ·have h1:=node x hx
  have h2:=iZ (f:=TEq.sz) hq
  have h3:q.sz=szI q.at_+szL szS q.names+szS q.node+szL (szL an.sz) q.s+szL ab.sz q.e+1:=by unfold TEq.sz;omega
  have h4:=eq xd q.names
  have h5:=ab.szs_eq q.e
  have h6:=eq (f:=szL an.sz) vS q.s
  exact ⟨by omega,⟨ye oM,by omega⟩,by omega⟩
theorem uI.ok{p:aB}(h:uI p):Ee p:=⟨by have:=h.nodes;omega,fun x hx=>⟨by have:=h.names x hx;omega,(h.decls x hx).1.1,(h.decls x hx).2.1.1,(h.decls x hx).2.2.1,by have:=(h.eqs x hx).1;omega,fun q hq=>by
 obtain ⟨h1,h2,h3⟩:=(h.eqs x hx).2 q hq
 exact ⟨by omega,h2.1,by omega⟩⟩⟩
theorem Fg(n:Nat)(p:aB)(h:uI p)(hn:9000000<n):mc n p=some p:=by
 unfold mc
 rw [r7 p.nodes (by have:=h.nodes;omega) (fun i hi=>by
  show fW n p (p.nodes.take i) i=_
  have hm:=bi hi
  obtain ⟨d1,d2,d3⟩:=h.decls _ hm
  obtain ⟨q1,q2⟩:=h.eqs _ hm
  unfold fW
  rw [iP (ltI hi),iP (inI hi),tN,vP _ (h.names _ hm),sO _ d1.1 d1.2,sO _ d2.1 d2.2,sO _ d3.1 d3.2]
  simp only [bSq]
  rw [r7 (p.nodes.getD i default).eqs oM (fun j hj=>by
   show fV n p i ((p.nodes.getD i default).eqs.take j) j=_
   have hq:=bi hj
   obtain ⟨r1,r2,r3⟩:=q2 _ hq
   unfold fV ro
   rw [tN,iP (ltI hj),iP (inI hj),tN,vP _ r1,vQ _ r2.1 r2.2,vR n _ oM r3]
   simp only [bSq]
   rw [tU _ hj,iP (rh oM oM)]
   rfl) (by show fV n p i _ _=_;unfold fV;rw [tN,iN (bp _)])]
  simp only [bSq]
  unfold hK jy
  have:=h.nodes
  rw [tU _ hi,iP (rh oM oM),tN]
  rfl) (by show fW n p p.nodes _=_;unfold fW;rw [iN (bp _)])]
 rfl
theorem qH{A O:Type}{body:A×Int→Option ((A×Int) ⊕ O)}(n:Nat)(hn:n≤9000000)
  (h:∀ (i:Nat) (a:A),i<n→(∃ o,body (a,(i:Int))=some (.inr o))∨∃ a',body (a,(i:Int))=some (.inl (a',IntKind.wrap .i64 ((i:Int)+1)))) (he:∀ a,∃ o,body (a,(n:Int))=some (.inr o)) (a0:A):∃ o,bD body (a0,0)=some o:=by
 have key:∀ (k i:Nat) (a:A),i+k=n→∃ o,bD body (a,(i:Int))=some o:=by
  intro k
  induction k with
  |zero =>
   intro i a hi
   obtain ⟨o,ho⟩:=he a
   have:i=n:=by omega
   subst this
   exact ⟨o,gB ho⟩
  |succ k ih =>
   intro i a hi
   rcases h i a oM with ⟨o,ho⟩|⟨a',ha⟩
   ·exact ⟨o,gB ho⟩
   ·rw [m4 ha,wrs i oM]
    exact ih (i+1) a' oM
 exact key n 0 a0 oM
theorem wM{O:Type}{body:Int→Option (Int ⊕ O)}(n:Nat)(hn:n≤9000000)
  (h:∀ (i:Nat),i<n→(∃ o,body (i:Int)=some (.inr o))∨body (i:Int)=some (.inl (IntKind.wrap .i64 ((i:Int)+1)))) (he:∃ o,body (n:Int)=some (.inr o)):∃ o,bD body 0=some o:=by
 have key:∀ (k i:Nat),i+k=n→∃ o,bD body (i:Int)=some o:=by
  intro k
  induction k with
  |zero =>
   intro i hi
   obtain ⟨o,ho⟩:=he
   have:i=n:=by omega
   subst this
   exact ⟨o,gB ho⟩
  |succ k ih =>
   intro i hi
   rcases h i oM with ⟨o,ho⟩|ha
   ·exact ⟨o,gB ho⟩
   ·rw [m4 ha,wrs i oM]
    exact ih (i+1) oM
 exact key n 0 oM
theorem tV(l:List Ω)(h:l.length≤9000000)(z:Int):∃ o,kS l z=some o:=by
 unfold kS
 split
 ·exact ⟨_,rfl⟩
 ·obtain ⟨o,ho⟩:=wM (body:=fun x3=>eP l x3) l.length h (fun i hi=>by
   show (∃ o,eP l i=_)∨eP l i=_
   unfold eP
   rw [iP (ltI hi),iP (inI hi)]
   split
   ·exact .inl ⟨_,rfl⟩
   ·exact .inr rfl) ⟨_,by show eP l _=_;unfold eP;rw [iN (bp _)]⟩
  rw [ho]
  rcases o with _|o<;>exact ⟨_,rfl⟩
theorem qI(l:List (List an))(h:rg l)(z:Int):∃ o,ju l z=some o:=by
 unfold ju
 obtain ⟨o,ho⟩:=qH (body:=fun x=>eT l x.1 x.2) l.length h.1 (fun i a hi=>by
  show (∃ o,eT l a i=_)∨∃ a',eT l a i=_
  unfold eT
  rw [iP (ltI hi)]
  split
  ·rw [iP (inI hi)]
   split
   ·exact .inl ⟨_,rfl⟩
   ·obtain ⟨o,ho⟩:=wM (body:=fun x10=>eR l i x10) (l.getD i default).length (h.2 _ (bi hi)) (fun j hj=>by
     show (∃ o,eR l i j=_)∨eR l i j=_
     unfold eR
     rw [tN,iP (ltI hj),iP (inI hj)]
     split
     ·exact .inl ⟨_,rfl⟩
     ·exact .inr rfl) ⟨_,by show eR l i _=_;unfold eR;rw [tN,iN (bp _)]⟩
    rw [ho]
    rcases o with _|o
    ·exact .inr ⟨_,rfl⟩
    ·exact .inl ⟨_,rfl⟩
  ·exact .inl ⟨_,rfl⟩) (fun a=>⟨_,by show eT l a _=_;unfold eT;rw [iN (bp _)]⟩) (IntKind.wrap .i64 (z - (l.length:Int)))
 rw [ho]
 rcases o with o|o<;>exact ⟨_,rfl⟩
theorem qJ(l:List ax)(h:nh l)(z:Int):∃ o,jv l z=some o:=by
 unfold jv
 obtain ⟨o,ho⟩:=qH (body:=fun x=>eU l x.1 x.2) l.length h.1 (fun i a hi=>by
  show (∃ o,eU l a i=_)∨∃ a',eU l a i=_
  unfold eU
  rw [iP (ltI hi)]
  split
  ·rw [iP (inI hi)]
   split
   ·exact .inl ⟨_,rfl⟩
   ·rw [tN]
    obtain ⟨o,ho⟩:=qI (lit ([(l.getD i default).t.n]:List (List an))) ⟨by simp [lit],fun d hd=>by
     have:d=(l.getD i default).t.n:=by simpa [lit] using hd
     rw [this];exact h.2 _ (bi hi)⟩ a
    rw [ho]
    exact .inr ⟨_,rfl⟩
  ·exact .inl ⟨_,rfl⟩) (fun a=>⟨_,by show eU l a _=_;unfold eU;rw [iN (bp _)]⟩) (IntKind.wrap .i64 (z - (l.length:Int)))
 rw [ho]
 rcases o with o|o<;>exact ⟨_,rfl⟩
theorem tW:∀ (n:Nat) (l:List ab) (z:Int),ab.szs l<n→ab.szs l≤8000000→∃ o,eC n l z=some o
 |0,_,_,h,_=>by omega
 |n+1,l,z,h,hs=>by
  have hlen:=oI l
  show ∃ o,kT (eC n) l z=some o
  unfold kT
  obtain ⟨o,ho⟩:=qH (body:=fun x=>eV (eC n) l x.1 x.2) l.length oM (fun i a hi=>by
   show (∃ o,eV (eC n) l a i=_)∨∃ a',eV (eC n) l a i=_
   have hsz:=oH (bi hi)
   obtain ⟨e1,e2⟩:=vj (x:=l.getD i default) oM
   unfold eV
   rw [iP (ltI hi)]
   split
   ·rw [iP (inI hi)]
    split
    ·exact .inl ⟨_,rfl⟩
    ·rw [tN]
     obtain ⟨o,ho⟩:=qI _ e1 a
     rw [ho]
     simp only [bSq]
     split
     ·obtain ⟨o2,ho2⟩:=tW n (l.getD i default).l o oM oM
      rw [ho2]
      exact .inr ⟨_,rfl⟩
     ·exact .inr ⟨_,rfl⟩
   ·exact .inl ⟨_,rfl⟩) (fun a=>⟨_,by show eV _ l a _=_;unfold eV;rw [iN (bp _)]⟩) (IntKind.wrap .i64 (z - (l.length:Int)))
  rw [ho]
  rcases o with o|o<;>exact ⟨_,rfl⟩
theorem AY(n:Nat)(p:aB)(x j:Nat)(hn:9000000<n)(h:ab.szs ((p.nodes.getD x default).eqs.getD j default).e≤8000000)(z:Int):∃ a',lU n p x j z=some (.inl (a',IntKind.wrap .i64 ((j:Int)+1))):=by
 unfold lU qz
 split
 ·simp only [tN]
  obtain ⟨o,ho⟩:=tW n _ z oM h
  rw [ho];exact ⟨_,rfl⟩
 ·exact ⟨_,rfl⟩
theorem Dd(n:Nat)(p:aB)(h:uI p)(hn:9000000<n):∃ b,rK n p=some b:=by
 unfold rK
 split
 ·exact ⟨_,rfl⟩
 ·obtain ⟨o,ho⟩:=qH (body:=fun x=>jc n p x.1 x.2) p.nodes.length (by have:=h.nodes;omega) (fun i a hi=>by
   show (∃ o,jc n p a i=_)∨∃ a',jc n p a i=_
   have hm:=bi hi
   obtain ⟨d1,d2,d3⟩:=h.decls _ hm
   obtain ⟨q1,q2⟩:=h.eqs _ hm
   unfold jc
   rw [iP (ltI hi)]
   split
   ·rw [iP (inI hi)]
    split
    ·exact .inl ⟨_,rfl⟩
    ·split
     ·exact .inl ⟨_,rfl⟩
     ·rw [tN]
      obtain ⟨o1,ho1⟩:=tV (p.nodes.getD i default).sizes (by have:=h.names _ hm;omega) a
      rw [ho1];simp only [bSq]
      obtain ⟨o2,ho2⟩:=qJ (p.nodes.getD i default).in_ d1.1 o1
      rw [ho2];simp only [bSq]
      obtain ⟨o3,ho3⟩:=qJ (p.nodes.getD i default).out_ d2.1 o2
      rw [ho3];simp only [bSq]
      obtain ⟨o4,ho4⟩:=qJ (p.nodes.getD i default).local_ d3.1 o3
      rw [ho4];simp only [bSq]
      obtain ⟨o,ho⟩:=qH (body:=fun x=>jb n p i x.1 x.2) (p.nodes.getD i default).eqs.length oM (fun j c hj=>by
       show (∃ o,jb n p i c j=_)∨∃ a',jb n p i c j=_
       have hq:=bi hj
       obtain ⟨r1,r2,r3⟩:=q2 _ hq
       unfold jb
       rw [tN,iP (ltI hj)]
       split
       ·rw [iP (inI hj)]
        split
        ·exact .inl ⟨_,rfl⟩
        ·rw [tN]
         obtain ⟨w1,hw1⟩:=tV _ (show ((p.nodes.getD i default).eqs.getD j default).names.length≤9000000 by omega) c
         rw [hw1];simp only [bSq]
         split
         ·obtain ⟨w2,hw2⟩:=qI _ r2.1 w1
          rw [hw2];simp only [bSq]
          exact .inr (AY n p i j hn r3 w2)
         ·exact .inr (AY n p i j hn r3 w1)
       ·exact .inl ⟨_,rfl⟩) (fun c=>⟨_,by show jb n p i c _=_;unfold jb;rw [tN,iN (bp _)]⟩) o4
      rw [ho]
      rcases o with o|o
      ·exact .inr ⟨_,rfl⟩
      ·exact .inl ⟨_,rfl⟩
   ·exact .inl ⟨_,rfl⟩) (fun a=>⟨_,by show jc n p a _=_;unfold jc;rw [iN (bp _)]⟩) 8000
  rw [ho]
  rcases o with o|o<;>exact ⟨_,rfl⟩
theorem yh{T:Type}[Inhabited T](l:List T)(F:T→Int)(at_:Int){body:Int×Int×Int→Option ((Int×Int×Int) ⊕ (Int×Int))}(f0:ap)
  (hb:∀ (i:Nat) (f:ap),i<l.length→body (f.code,f.at_,(i:Int))=some (.inl ((wf f at_ (F (l.getD i default))).code,(wf f at_ (F (l.getD i default))).at_,((i+1:Nat):Int))))
  (he:∀ (f:ap),body (f.code,f.at_,(l.length:Int))=some (.inr (pr f))) :
  bD body (f0.code,f0.at_,0)=some (pr (wf f0 at_ (fsF F l))):=by
 have key:∀ (k i:Nat) (f:ap),i+k=l.length→bD body (f.code,f.at_,(i:Int))=some (pr (wf f at_ (fsF F (l.drop i)))):=by
  intro k
  induction k with
  |zero =>
   intro i f hi
   obtain rfl:i=l.length:=by omega
   rw [dZ,he,List.drop_length]
   simp only [fsF,AV]
  |succ k ih =>
   intro i f hi
   have hlt:i<l.length:=by omega
   have hd:l.drop i=l.getD i default :: l.drop (i+1):=by
    rw [List.drop_eq_getElem_cons hlt];simp [List.getD,hlt]
   rw [dZ,hb i f hlt]
   simp only
   rw [ih (i+1) _ oM,iW,hd]
   rfl
 exact key l.length 0 f0 oM
def qP(op:Int):fM×Bool :=
 if op=1∨op=2∨op=3 then (fM.mk 0 0 0 0,true) else if op=4 then (fM.mk 1 0 13 14,true) else if op=5 then (fM.mk 2 0 1 12,true)
 else if op=6∨op=11∨op=12 then (fM.mk 3 0 0 0,true) else if op=7 then (fM.mk (-1) 0 1 14,true) else if op=8∨op=9 then (fM.mk 2 0 1 14,true)
 else if op=10 then (fM.mk 1 1 0 0,true) else if op=13 then (fM.mk 1 2 0 0,true) else if op=14∨op=15 then (fM.mk 2 0 0 0,true) else (fM.mk 0 0 0 0,false)
theorem GB(op:Int):qy op=some (qP op):=by
 unfold qy qP
 by_cases h1:op=1
 ·subst h1;rfl
 by_cases h2:op=2
 ·subst h2;rfl
 by_cases h3:op=3
 ·subst h3;rfl
 by_cases h4:op=4
 ·subst h4;rfl
 by_cases h5:op=5
 ·subst h5;rfl
 by_cases h6:op=6
 ·subst h6;rfl
 by_cases h7:op=7
 ·subst h7;rfl
 by_cases h8:op=8
 ·subst h8;rfl
 by_cases h9:op=9
 ·subst h9;rfl
 by_cases h10:op=10
 ·subst h10;rfl
 by_cases h11:op=11
 ·subst h11;rfl
 by_cases h12:op=12
 ·subst h12;rfl
 by_cases h13:op=13
 ·subst h13;rfl
 by_cases h14:op=14
 ·subst h14;rfl
 by_cases h15:op=15
 ·subst h15;rfl
 simp [kx,kw,mq,mo,h1,h2,h3,h4,h5,h6,h7,h8,h9,h10,h11,h12,h13,h14,h15]
def pZ(op k n:Int)(name:Ω)(ns nl:Nat):Prop :=
 (qP op).2=true∧((nl:Int)=(qP op).1.parts∨(qP op).1.parts<0∧(nl=1∨nl=2))∧((qP op).1.from_≤k∧k≤(qP op).1.to)∧(ns:Int)=(qP op).1.sizes ∧
 ¬ (2<op∧¬ n=0)∧¬ (op=2∧¬ n=0∧¬ n=1)∧(op=3∨name=[])
instance (op k n:Int) (name:Ω) (ns nl:Nat):Decidable (pZ op k n name ns nl):=by unfold pZ;infer_instance
mutual
def exF:ab→Int
 |⟨op,k,n,name,s,l⟩=>sq (if pZ op k n name s.length l.length then 0 else 4) (sq (if op=3 then (if iB name=true then 0 else 3) else 0) (sq (if n<0∨1000000000000000000≤n then 2 else 0) (sq (fsF iX s) (De l))))
def De:List ab→Int
 |[]=>0
 |x :: l=>sq (exF x) (De l)
end
theorem Cv:∀ l:List ab,De l=fsF exF l
 |[]=>by simp [De,fsF]
 |x :: l=>by rw [De,Cv l];rfl
theorem BN(x:ab):exF x=sq (if pZ x.op x.k x.n x.name x.s.length x.l.length then 0 else 4) (sq (if x.op=3 then (if iB x.name=true then 0 else 3) else 0) (sq (if x.n<0∨1000000000000000000≤x.n then 2 else 0) (sq (fsF iX x.s) (fsF exF x.l)))):=by
 cases x;rw [exF,Cv]
theorem ifC{p q:Prop}[Decidable p][Decidable q](h:p↔q){a b:Int}:(if p then a else b)=if q then a else b:=by
 by_cases hp:p
 ·rw [iP hp,iP (h.1 hp)]
 ·rw [iN hp,iN (fun k=>hp (h.2 k))]
theorem AZ:∀ (n:Nat) (x:ab) (f:ap) (a:Int),x.sz<n→x.sz≤8000000→bo n x (ao.mk f a)=some (pr (wf f a (exF x)))
 |0,_,_,_,h,_=>by omega
 |n+1,x,f,a,h,hs=>by
  obtain ⟨ok1,ok2⟩:=vj (x:=x) oM
  show it (bo n) x (ao.mk f a)=_
  have j6:∀ g:ap,eI (bo n) x (ao.mk f a) g.code g.at_=some (pr (wf g a (fsF exF x.l))):=by
   intro g
   unfold eI
   rw [yh x.l exF a (body:=fun (x18,x19,x20)=>dO (bo n) x (ao.mk f a) x18 x19 x20) g
    (fun i f' hi => by
     show dO (bo n) x (ao.mk f a) f'.code f'.at_ i=_
     unfold dO
     have hm:x.l.getD i default∈x.l:=by simp [List.getD,hi]
     have:=oH hm
     have hll:=oI x.l
     rw [iP (ltI hi),iP (inI hi),tN,AZ n _ _ _ oM oM,bSq,wrs i oM]
     rfl)
    (fun f' => by
     show dO (bo n) x (ao.mk f a) f'.code f'.at_ x.l.length=_
     unfold dO
     rw [iN (bp _)];rfl)]
   rfl
  have j5:∀ g:ap,eJ (bo n) x (ao.mk f a) g.code g.at_=some (pr (wf g a (sq (fsF iX x.s) (fsF exF x.l)))):=by
   intro g
   unfold eJ
   rw [yh x.s iX a (body:=fun (x29,x30,x31)=>dP x (ao.mk f a) x29 x30 x31) g
    (fun i f' hi => by
     show dP x (ao.mk f a) f'.code f'.at_ i=_
     unfold dP
     have hm:x.s.getD i default∈x.s:=by simp [List.getD,hi]
     rw [iP (ltI hi),iP (inI hi),tN,ya _ (ok1.2 _ hm),bSq,wrs i (by have:=ok1.1;omega)]
     rfl)
    (fun f' => by
     show dP x (ao.mk f a) f'.code f'.at_ x.s.length=_
     unfold dP
     rw [iN (bp _)];rfl)]
   rw [bSq]
   simp only [pr]
   rw [j6,iW];rfl
  have j4:∀ g:ap,eM (bo n) x (ao.mk f a) g.code g.at_=some (pr (wf g a (sq (if x.n<0∨1000000000000000000≤x.n then 2 else 0) (sq (fsF iX x.s) (fsF exF x.l))))):=by
   intro g
   unfold eM
   by_cases h1:x.n<0
   ·rw [iP h1,ij _ _ _ _ dM,bSq]
    simp only [pr]
    rw [j5,iW];simp [h1,pr]
   ·rw [iN h1,ij _ _ _ _ dM,bSq]
    simp only [pr]
    rw [j5,iW]
    by_cases h2:1000000000000000000≤x.n<;>simp [h1,h2,pr]
  have j3:∀ g:ap,aQ (bo n) x (ao.mk f a) g.code g.at_=some (pr (wf g a (sq (if x.op=3 then (if iB x.name=true then 0 else 3) else 0) (sq (if x.n<0∨1000000000000000000≤x.n then 2 else 0) (sq (fsF iX x.s) (fsF exF x.l)))))):=by
   intro g
   unfold aQ
   by_cases h1:x.op=3
   ·rw [iP h1,qG,bSq]
    simp only [pr]
    rw [j4,iW];simp [h1,pr]
   ·rw [iN h1,j4];simp [h1,sq]
  have fin:∀ (b:Bool) (p:Prop) [Decidable p],(b=true↔¬ p)→((az b 4 (ao.mk f a)).bind fun y=>aQ (bo n) x (ao.mk f a) y.1 y.2) =
    some (pr (wf f a (sq (if p then 0 else 4) (sq (if x.op=3 then (if iB x.name=true then 0 else 3) else 0) (sq (if x.n<0∨1000000000000000000≤x.n then 2 else 0) (sq (fsF iX x.s) (fsF exF x.l))))))):=by
   intro b p _ hb
   rw [ij _ _ _ _ dM,bSq]
   simp only [pr]
   rw [j3,iW]
   by_cases hp:p
   ·have:b=false:=by cases b;rfl;exact absurd hp (hb.1 rfl)
    simp [hp,this,pr]
   ·have:b=true:=hb.2 hp
    simp [hp,this,pr]
  rw [BN]
  unfold it
  by_cases hc:f.code=0
  ·rw [iN (by simpa using hc),GB,bSq]
   have j2:∀ (y:fM×Bool) (b2 b3:Bool),eN (bo n) x (ao.mk f a) y b2 b3 =
     some (pr (wf f a (sq (if y.2=true∧b2=true∧b3=true∧(x.s.length:Int)=y.1.sizes∧¬ (2<x.op∧¬ x.n=0)∧¬ (x.op=2∧¬ x.n=0∧¬ x.n=1)∧(x.op=3∨x.name=[]) then 0 else 4) (sq (if x.op=3 then (if iB x.name=true then 0 else 3) else 0) (sq (if x.n<0∨1000000000000000000≤x.n then 2 else 0) (sq (fsF iX x.s) (fsF exF x.l))))))):=by
    intro y b2 b3
    unfold eN
    by_cases c1:y.2=true
    rotate_left
    ·rw [iN c1];exact fin _ _ (by simp [c1])
    rw [iP c1]
    by_cases c2:b2=true
    rotate_left
    ·rw [iN c2];exact fin _ _ (by simp [c2])
    rw [iP c2]
    by_cases c3:b3=true
    rotate_left
    ·rw [iN c3];exact fin _ _ (by simp [c3])
    rw [iP c3]
    by_cases c4:(x.s.length:Int)=y.1.sizes
    rotate_left
    ·rw [iP c4];exact fin _ _ (by simp [c4])
    rw [iN (by simp [c4])]
    by_cases c5:x.op>2
    ·have c6:¬ x.op=2:=by omega
     rw [iP c5,iN c6]
     by_cases c7:x.n=0
     rotate_left
     ·rw [iP c7];exact fin _ _ (by simp [c7,c5])
     rw [iN (by simp [c7])]
     by_cases c8:x.op=3
     ·rw [iN (by simp [c8])];exact fin _ _ (by simp [c1,c2,c3,c4,c6,c7,c8])
     ·rw [iP c8];exact fin _ _ (by simp [c1,c2,c3,c4,c6,c7,c8])
    ·have c8:¬ x.op=3:=by omega
     have c5':¬ 2<x.op:=c5
     rw [iN c5]
     by_cases c6:x.op=2
     ·rw [iP c6]
      by_cases c7:x.n=0
      ·rw [iN (by simp [c7]),iP c8];exact fin _ _ (by simp [c1,c2,c3,c4,c5',c7,c8])
      ·rw [iP c7]
       by_cases c9:x.n=1
       ·rw [iN (by simp [c9]),iP c8];exact fin _ _ (by simp [c1,c2,c3,c4,c5',c9,c8])
       ·rw [iP c9];exact fin _ _ (by simp [c6,c7,c9])
     ·rw [iN c6,iP c8];exact fin _ _ (by simp [c1,c2,c3,c4,c5',c6,c8])
   have j1:∀ (b2:Bool) (p:Prop),(b2=true↔p)→p=((x.l.length:Int)=(qP x.op).1.parts∨(qP x.op).1.parts<0∧(x.l.length=1∨x.l.length=2))→cZ (bo n) x (ao.mk f a) (qP x.op) b2 =
     some (pr (wf f a (sq (if pZ x.op x.k x.n x.name x.s.length x.l.length then 0 else 4) (sq (if x.op=3 then (if iB x.name=true then 0 else 3) else 0) (sq (if x.n<0∨1000000000000000000≤x.n then 2 else 0) (sq (fsF iX x.s) (fsF exF x.l))))))):=by
    intro b2 p hb hp
    unfold cZ
    by_cases c1:x.k≥(qP x.op).1.from_
    ·rw [iP c1,j2]
     refine congrArg (fun z=>some (pr (wf f a (sq z _)))) (ifC ?_)
     unfold pZ
     rw [hb,hp]
     have c1':(qP x.op).1.from_≤x.k:=c1
     simp only [decide_eq_true_eq,c1',true_and]
    ·rw [iN c1,j2]
     refine congrArg (fun z=>some (pr (wf f a (sq z _)))) (ifC ?_)
     unfold pZ
     have c1':¬ (qP x.op).1.from_≤x.k:=c1
     simp [c1']
   by_cases c1:(x.l.length:Int)=(qP x.op).1.parts
   ·rw [iP c1];exact j1 _ True (by simp) (by simp [c1])
   rw [iN c1]
   by_cases c2:(qP x.op).1.parts<0
   rotate_left
   ·rw [iN c2];exact j1 _ False (by simp) (by simp [c1,c2])
   rw [iP c2]
   by_cases c3:(x.l.length:Int)=1
   ·rw [iP c3];exact j1 _ True (by simp) (by simp [c2,show x.l.length=1 by omega])
   ·rw [iN c3];exact j1 _ (x.l.length=2) (by rw [beq_iff_eq];omega) (by
     have c3':¬ x.l.length=1:=by omega
     simp [c1,c2,c3'])
  ·rw [iP (by simpa using hc)]
   unfold wf pr
   rw [iN (fun k=>hc k.1)]
theorem ifS(e i:Int):(if ¬ e=0 then some (.inr (.inr e)) else some (.inl i):Option (Int ⊕ (Unit ⊕ Int)))=some (if e=0 then .inl i else .inr (.inr e)):=by
 by_cases h:e=0<;>simp [h]
theorem GC(x:ab)(x1 x2:Int)(b:Bool):bx x x1 x2 b=some (decide ((x.l.length:Int)=x1∧(x.s.length:Int)=x2∧b=true∧(x.name=[]∨x.op=3)∧(x.op=1∨x.n=0∨x.op=2∧x.n=1))):=by
 have j2:iO x=some (decide (x.op=1∨x.n=0∨x.op=2∧x.n=1)):=by
  unfold iO
  by_cases h1:x.op=1
  ·simp [h1]
  by_cases h2:x.n=0
  ·simp [h2]
  by_cases h3:x.op=2
  ·rw [iN h1,iN h2,iP h3];by_cases h4:x.n=1<;>simp [h1,h2,h3,h4]
  ·simp [h1,h2,h3]
 unfold bx
 rw [j2]
 by_cases h1:(x.l.length:Int)=x1
 ·by_cases h2:(x.s.length:Int)=x2
  ·cases b
   ·simp
   ·by_cases h3:x.name=[]
    ·simp [h1,h2,h3]
    ·by_cases h4:x.op=3
     ·simp [h1,h2,h3,h4]
     ·simp [h3,h4]
  ·simp [h2]
 ·simp [h1]
theorem Fh(x:ab):oz x=some (decide (pZ x.op x.k x.n x.name x.s.length x.l.length)):=by
 have dd:∀ {p q:Prop} [Decidable p] [Decidable q],(p↔q)→some (decide p)=some (decide q):=fun h=>congrArg some (decide_eq_decide.2 h)
 have key:∀ (o:Int) (t:fM),x.op=o→qP o=(t,true)→∀ (x1 x2:Int) (b:Bool),((x.l.length:Int)=x1∧(x.s.length:Int)=x2∧b=true∧(o=1∨x.n=0∨o=2∧x.n=1)↔(((x.l.length:Int)=t.parts∨t.parts<0∧(x.l.length=1∨x.l.length=2))∧(t.from_≤x.k∧x.k≤t.to)∧(x.s.length:Int)=t.sizes ∧
   ¬ (2<o∧¬ x.n=0)∧¬ (o=2∧¬ x.n=0∧¬ x.n=1)))→bx x x1 x2 b=some (decide (pZ x.op x.k x.n x.name x.s.length x.l.length)):=by
  intro o t ho ht x1 x2 b h
  rw [GC]
  refine dd ?_
  unfold pZ
  rw [ho,ht]
  constructor
  ·rintro ⟨a1,a2,a3,a4,a5⟩
   obtain ⟨b1,b2,b3,b4,b5⟩:=h.1 ⟨a1,a2,a3,a5⟩
   exact ⟨rfl,b1,b2,b3,b4,b5,a4.symm⟩
  ·rintro ⟨_,b1,b2,b3,b4,b5,b6⟩
   obtain ⟨a1,a2,a3,a5⟩:=h.2 ⟨b1,b2,b3,b4,b5⟩
   exact ⟨a1,a2,a3,b6.symm,a5⟩
 have bt:∀ (c d:Int),(c == d)=true↔c=d:=fun c d=>beq_iff_eq
 unfold oz
 by_cases h1:x.op=1
 ·rw [iP h1];unfold fR;rw [iP (by simp [h1])]
  exact key 1 _ h1 rfl _ _ _ (by simp only [bt,true_or,true_and,and_true,or_true];omega)
 rw [iN h1]
 by_cases h2:x.op=2
 ·rw [iP h2];unfold fR;rw [iP (by simp [h2])]
  exact key 2 _ h2 rfl _ _ _ (by simp only [bt,true_or,true_and,and_true,or_true];omega)
 rw [iN h2]
 unfold fR
 by_cases h3:x.op=3
 ·rw [iP (by simp [h3])]
  exact key 3 _ h3 rfl _ _ _ (by simp only [bt,true_or,true_and,and_true,or_true];omega)
 rw [iN (by simp [h3])]
 by_cases h4:x.op=4
 ·rw [iP h4]
  by_cases k:x.k=13
  ·rw [iP k];exact key 4 _ h4 rfl _ _ _ (by simp only [true_and];omega)
  ·rw [iN k];exact key 4 _ h4 rfl _ _ _ (by simp only [bt,true_or,true_and,and_true,or_true];omega)
 rw [iN h4]
 by_cases h5:x.op=5
 ·rw [iP h5]
  by_cases k:x.k≥1
  ·rw [iP k];exact key 5 _ h5 rfl _ _ _ (by simp only [decide_eq_true_eq];omega)
  ·rw [iN k];exact key 5 _ h5 rfl _ _ _ (by simp only [Bool.false_eq_true,false_and,and_false,false_iff];omega)
 rw [iN h5]
 by_cases h6:x.op=6
 ·rw [iP h6];unfold fQ;rw [iP (by simp [h6])]
  exact key 6 _ h6 rfl _ _ _ (by simp only [bt,true_or,true_and,and_true,or_true];omega)
 rw [iN h6]
 by_cases h11:x.op=11
 ·rw [iP h11];unfold fQ;rw [iP (by simp [h11])]
  exact key 11 _ h11 rfl _ _ _ (by simp only [bt,true_or,true_and,and_true,or_true];omega)
 rw [iN h11]
 unfold fQ
 by_cases h12:x.op=12
 ·rw [iP (by simp [h12])]
  exact key 12 _ h12 rfl _ _ _ (by simp only [bt,true_or,true_and,and_true,or_true];omega)
 rw [iN (by simp [h12])]
 by_cases h7:x.op=7
 ·rw [iP h7]
  unfold jU
  by_cases k:x.k≥1
  ·rw [iP k]
   by_cases l:(x.l.length:Int)=1
   ·rw [iP l];exact key 7 _ h7 rfl _ _ _ (by simp only [decide_eq_true_eq];omega)
   ·rw [iN l];exact key 7 _ h7 rfl _ _ _ (by simp only [decide_eq_true_eq];omega)
  ·rw [iN k]
   by_cases l:(x.l.length:Int)=1
   ·rw [iP l];exact key 7 _ h7 rfl _ _ _ (by simp only [Bool.false_eq_true,false_and,and_false,false_iff];omega)
   ·rw [iN l];exact key 7 _ h7 rfl _ _ _ (by simp only [Bool.false_eq_true,false_and,and_false,false_iff];omega)
 rw [iN h7]
 have six:∀ o:Int,x.op=o→qP o=(fM.mk 2 0 1 14,true)→¬ o=1→¬ o=2→2<o→(if x.k≥1 then (bx x 2 0 (decide (x.k≤14))) else (bx x 2 0 false))=some (decide (pZ x.op x.k x.n x.name x.s.length x.l.length)):=by
  intro o ho ht o1 o2 o3
  by_cases k:x.k≥1
  ·rw [iP k];exact key o _ ho ht _ _ _ (by simp only [decide_eq_true_eq];omega)
  ·rw [iN k];exact key o _ ho ht _ _ _ (by simp only [Bool.false_eq_true,false_and,and_false,false_iff];omega)
 by_cases h8:x.op=8
 ·rw [iP h8];unfold iR;rw [iP (by simp [h8])]
  exact six 8 h8 rfl dM dM dM
 rw [iN h8]
 unfold iR
 by_cases h9:x.op=9
 ·rw [iP (by simp [h9])]
  exact six 9 h9 rfl dM dM dM
 rw [iN (by simp [h9])]
 by_cases h10:x.op=10
 ·rw [iP h10];exact key 10 _ h10 rfl _ _ _ (by simp only [bt,true_or,true_and,and_true,or_true];omega)
 rw [iN h10]
 by_cases h13:x.op=13
 ·rw [iP h13];exact key 13 _ h13 rfl _ _ _ (by simp only [bt,true_or,true_and,and_true,or_true];omega)
 rw [iN h13]
 by_cases h14:x.op=14
 ·rw [iP h14];unfold iQ;rw [iP (by simp [h14])]
  exact key 14 _ h14 rfl _ _ _ (by simp only [bt,true_or,true_and,and_true,or_true];omega)
 rw [iN h14]
 unfold iQ
 by_cases h15:x.op=15
 ·rw [iP (by simp [h15])]
  exact key 15 _ h15 rfl _ _ _ (by simp only [bt,true_or,true_and,and_true,or_true];omega)
 rw [iN (by simp [h15])]
 have:(qP x.op).2=false:=by simp [qP,h1,h2,h3,h4,h5,h6,h7,h8,h9,h10,h11,h12,h13,h14,h15]
 have:¬ pZ x.op x.k x.n x.name x.s.length x.l.length:=fun k=>by rw [k.1] at this;exact absurd this dM
 simp [this]
theorem A0:∀ (n:Nat) (x:ab),x.sz<n→x.sz≤8000000→fS n x=some (exF x)
 |0,_,h,_=>by omega
 |n+1,x,h,hs=>by
  obtain ⟨ok1,ok2⟩:=vj (x:=x) oM
  have hll:=oI x.l
  show mg (fS n) x=_
  have j2:ie (fS n) x=some (fsF exF x.l):=by
   unfold ie
   rw [oG x.l exF (fun i hi=>by
    unfold lh
    have hm:x.l.getD i default∈x.l:=by simp [List.getD,hi]
    have:=oH hm
    rw [iP (ltI hi),iP (inI hi),tN,A0 n _ oM oM,bSq,wrs i oM]
    exact ifS _ _) (by unfold lh;rw [iN (bp _)])]
   exact vL _
  have j1:ig (fS n) x=some (sq (if x.n<0∨1000000000000000000≤x.n then 2 else 0) (sq (fsF iX x.s) (fsF exF x.l))):=by
   unfold ig
   by_cases h1:x.n<0
   ·rw [iP h1];simp [h1,sq]
   rw [iN h1]
   by_cases h2:x.n≥1000000000000000000
   ·have h2':1000000000000000000≤x.n:=h2
    rw [iP h2];simp [h2',sq]
   have h2':¬ 1000000000000000000≤x.n:=h2
   rw [iN h2,oG x.s iX (fun i hi=>by
    unfold li
    have hm:x.s.getD i default∈x.s:=by simp [List.getD,hi]
    have:=ok1.1
    rw [iP (ltI hi),iP (inI hi),tN,yb _ (ok1.2 _ hm),bSq,wrs i oM]
    exact ifS _ _) (by unfold li;rw [iN (bp _)]),bSq]
   by_cases e:fsF iX x.s=0
   ·simp only [e,if_true,Sum.elim_inl,j2,h1,h2',or_self,if_false,sq]
   ·simp only [e,if_false,Sum.elim_inr,h1,h2',or_self,sq,if_true]
  rw [BN]
  unfold mg
  rw [Fh,bSq,j1]
  by_cases h1:pZ x.op x.k x.n x.name x.s.length x.l.length
  ·rw [iP (dT h1),iP h1]
   by_cases h2:x.op=3
   ·rw [iP h2,iP h2,pi,bSq]
    cases iB x.name<;>simp [sq]
   ·rw [iN h2,iN h2];simp [sq]
  ·rw [iN (by simpa using h1),iN h1];simp [sq]
mutual
def pn:ab→Nat
 |⟨_,_,_,_,_,l⟩=>1+pns l
def pns:List ab→Nat
 |[]=>0
 |x :: l=>pn x+pns l
end
theorem Fw(x:ab):pn x=1+pns x.l:=by cases x;rw [pn]
mutual
theorem HG:∀ x:ab,pn x≤x.sz
 |⟨op,k,n,name,s,l⟩=>by
  have:=Ae l
  rw [pn,ab.sz];omega
theorem Ae:∀ l:List ab,pns l≤ab.szs l
 |[]=>by simp [pns]
 |x :: l=>by
  have:=HG x
  have:=Ae l
  rw [pns,ab.szs];omega
end
theorem A1(l:List ab)(i:Nat)(h:i<l.length):pns (l.take (i+1))=pns (l.take i)+pn (l.getD i default):=by
 induction l generalizing i with
 |nil=>simp at h
 |cons a l ih =>
  cases i with
  |zero=>simp [pns]
  |succ i =>
   simp only [List.take_succ_cons,pns]
   rw [ih i (by simpa using h)]
   simp [List.getD];omega
theorem A2(l:List ab)(i:Nat):pns (l.take i)≤pns l:=by
 induction l generalizing i with
 |nil=>simp
 |cons a l ih =>
  cases i with
  |zero=>simp [pns]
  |succ i=>simp only [List.take_succ_cons,pns];have:=ih i;omega
theorem zg:∀ (n:Nat) (x:ab),x.sz<n→x.sz≤8000000→km n x=some (pn x:Int)
 |0,_,h,_=>by omega
 |n+1,x,h,hs=>by
  obtain ⟨ok1,ok2⟩:=vj (x:=x) oM
  have hll:=oI x.l
  have hps:=Ae x.l
  show pG (km n) x=_
  unfold pG
  have key:∀ (k i:Nat),i+k=x.l.length→bD (fun (x6,x7)=>lW (km n) x x6 x7) (((1+pns (x.l.take i):Nat):Int),(i:Int))=some ((1+pns x.l:Nat):Int):=by
   intro k
   induction k with
   |zero =>
    intro i hi
    obtain rfl:i=x.l.length:=by omega
    rw [dZ]
    simp only
    unfold lW
    rw [iN (bp _),List.take_length]
   |succ k ih =>
    intro i hi
    have hlt:i<x.l.length:=by omega
    have hm:x.l.getD i default∈x.l:=by simp [List.getD,hlt]
    have h1:=oH hm
    have h2:=A1 x.l i hlt
    have h3:=A2 x.l (i+1)
    rw [dZ]
    simp only
    unfold lW
    rw [iP (ltI hlt),iP (inI hlt),tN,zg n _ oM oM,bSq,wrs i oM]
    simp only
    rw [show IntKind.wrap .i64 (((1+pns (x.l.take i):Nat):Int)+(pn (x.l.getD i default):Int))=((1+pns (x.l.take (i+1)):Nat):Int) by
     rw [wr oM oM];omega]
    exact ih (i+1) oM
  have k0:=key x.l.length 0 oM
  rw [show (bD (fun (x6,x7)=>lW (km n) x x6 x7) (1,0))=some ((1+pns x.l:Nat):Int) from by simpa [pns] using k0]
  rw [Fw];rfl
theorem zh:∀ (n:Nat) (x:ab) (m:Nat),x.sz<n→x.sz≤8000000→m≤30→ir n x m=some (if (pn x:Int)≤m then (m:Int) - pn x else -1)
 |0,_,_,h,_,_=>by omega
 |n+1,x,m,h,hs,hm0=>by
  obtain ⟨ok1,ok2⟩:=vj (x:=x) oM
  have hll:=oI x.l
  have hps:=Ae x.l
  show mP (ir n) x m=_
  unfold mP
  have key:∀ (k i:Nat),i+k=x.l.length→bD (fun (x6,x7)=>jO (ir n) x x6 x7) ((if ((1+pns (x.l.take i):Nat):Int)≤m then (m:Int) - ((1+pns (x.l.take i):Nat):Int) else -1),(i:Int)) =
    some (if ((1+pns x.l:Nat):Int)≤m then (m:Int) - ((1+pns x.l:Nat):Int) else -1):=by
   intro k
   induction k with
   |zero =>
    intro i hi
    obtain rfl:i=x.l.length:=by omega
    rw [dZ]
    simp only
    unfold jO
    rw [iN (bp _),List.take_length]
   |succ k ih =>
    intro i hi
    have hlt:i<x.l.length:=by omega
    have hm:x.l.getD i default∈x.l:=by simp [List.getD,hlt]
    have h1:=oH hm
    have h2:=A1 x.l i hlt
    have h3:=A2 x.l (i+1)
    rw [dZ]
    simp only
    unfold jO
    rw [iP (ltI hlt)]
    by_cases hp:((1+pns (x.l.take i):Nat):Int)≤m
    ·rw [iP hp,iP oM,iP (inI hlt),tN]
     rw [show (m:Int) - ((1+pns (x.l.take i):Nat):Int)=((m - (1+pns (x.l.take i)):Nat):Int) by omega]
     rw [zh n _ _ oM oM oM,bSq,wrs i oM]
     simp only
     rw [show (if ((pn (x.l.getD i default):Nat):Int)≤((m - (1+pns (x.l.take i)):Nat):Int) then ((m - (1+pns (x.l.take i)):Nat):Int) - ((pn (x.l.getD i default):Nat):Int) else -1) =
      (if ((1+pns (x.l.take (i+1)):Nat):Int)≤m then (m:Int) - ((1+pns (x.l.take (i+1)):Nat):Int) else -1) by
      split<;>split<;>omega]
     exact ih (i+1) oM
    ·rw [iN hp,iN oM,iN oM]
  have k0:=key x.l.length 0 oM
  have e0:IntKind.wrap .i64 ((m:Int) - 1)=if ((1+pns (x.l.take 0):Nat):Int)≤m then (m:Int) - ((1+pns (x.l.take 0):Nat):Int) else -1:=by
   rw [wr oM oM]
   simp only [List.take_zero,pns]
   split<;>omega
  rw [e0,show (0:Int)=((0:Nat):Int) from rfl,k0,Fw]
  rfl
def lI(w:Ω):Int:=if iB w=true then 0 else 3
def r8(e:ab):Int:=sq (if pn e>30 then 7 else 0) (exF e)
def eqF(q:TEq):Int :=
 sq (if q.names.length=0∨q.node=[]∧¬ (q.names.length=1∧q.e.length=1∧q.s.length=0) then 4 else 0) (sq (if q.names.length>30∨q.e.length>30∨q.s.length>3 then 7 else 0) (sq (fsF lI q.names)
  (sq (if q.node=[] then 0 else lI q.node) (sq (fsF iX q.s) (fsF r8 q.e)))))
theorem A3(a b c:Int):sq (sq a b) c=sq a (sq b c):=by unfold sq;split<;>simp_all
def GD(q:TEq):Prop:=q.names.length≤8000000∧rg q.s∧q.s.length≤8000000∧ab.szs q.e≤8000000
theorem GF(n:Nat)(hn:8000000<n)(q:TEq)(hq:GD q)(f:ap)(a:Int):kR n q (ao.mk f a)=some (pr (wf f a (eqF q))):=by
 obtain ⟨q1,q2,q3,q4⟩:=hq
 have q5:=oI q.e
 have j4:∀ g:ap,eD n q (ao.mk f a) g.code g.at_=some (pr (wf g a (fsF r8 q.e))):=by
  intro g
  unfold eD
  rw [qm q.e r8 a (body:=fun (x15,x16,x17)=>dm n q (ao.mk f a) x15 x16 x17) g
   (fun i f' hi hc => by
    show dm n q (ao.mk f a) f'.code f'.at_ i=_
    unfold dm
    have hm:q.e.getD i default∈q.e:=by simp [List.getD,hi]
    have:=oH hm
    rw [iP (ltI hi),iP hc,iP (inI hi),tN]
    have ht:sF n (q.e.getD i default) 30=some (if (pn (q.e.getD i default):Int)≤30 then (30:Int) - pn (q.e.getD i default) else -1):=zh n _ 30 oM oM oM
    have he:∀ g:ap,nR n (q.e.getD i default) (ao.mk (ap.mk g.code g.at_) a)=some (pr (wf g a (exF (q.e.getD i default)))):=fun g=>AZ n _ _ _ oM oM
    rw [ht,bSq,ij _ _ _ _ dM,bSq]
    simp only [pr]
    rw [he,bSq]
    simp only [pr]
    rw [iW,wrs i oM]
    have e1:(if (decide ((if (pn (q.e.getD i default):Int)≤30 then (30:Int) - pn (q.e.getD i default) else -1)<0))=true then (7:Int) else 0)=if pn (q.e.getD i default)>30 then 7 else 0:=by
     by_cases h:(pn (q.e.getD i default):Int)≤30
     ·have h1:¬ ((30:Int) - pn (q.e.getD i default)<0):=by omega
      have h2:¬ (pn (q.e.getD i default)>30):=by omega
      rw [iP h,iN (by simpa using h1),iN h2]
     ·have h2:pn (q.e.getD i default)>30:=by omega
      rw [iN h,iP h2];rfl
    rw [e1]
    rfl)
   (fun i f' hi hc => by
    show dm n q (ao.mk f a) f'.code f'.at_ i=_
    unfold dm
    rw [iP (ltI hi),iN hc];rfl)
   (fun f' => by
    show dm n q (ao.mk f a) f'.code f'.at_ q.e.length=_
    unfold dm
    rw [iN (bp _)];rfl)]
  rfl
 have j3:∀ g:ap,eE n q (ao.mk f a) g.code g.at_=some (pr (wf g a (sq (fsF iX q.s) (fsF r8 q.e)))):=by
  intro g
  unfold eE
  rw [qm q.s iX a (body:=fun (x28,x29,x30)=>dp q (ao.mk f a) x28 x29 x30) g
   (fun i f' hi hc => by
    show dp q (ao.mk f a) f'.code f'.at_ i=_
    unfold dp
    have hm:q.s.getD i default∈q.s:=by simp [List.getD,hi]
    rw [iP (ltI hi),iP hc,iP (inI hi),tN,ya _ (q2.2 _ hm),bSq,wrs i oM]
    rfl)
   (fun i f' hi hc => by
    show dp q (ao.mk f a) f'.code f'.at_ i=_
    unfold dp
    rw [iP (ltI hi),iN hc];rfl)
   (fun f' => by
    show dp q (ao.mk f a) f'.code f'.at_ q.s.length=_
    unfold dp
    rw [iN (bp _)];rfl),bSq]
  simp only [pr]
  rw [j4,iW];rfl
 have j2:∀ g:ap,bO n q (ao.mk f a) g.code g.at_=some (pr (wf g a (sq (if q.node=[] then 0 else lI q.node) (sq (fsF iX q.s) (fsF r8 q.e))))):=by
  intro g
  unfold bO
  by_cases h1:q.node=[]
  ·rw [iP h1,iP h1,j3];simp [sq]
  rw [iN h1,iN h1]
  by_cases h2:g.code=0
  ·rw [iP h2,qG,bSq]
   simp only [pr]
   rw [j3,iW];rfl
  ·rw [iN h2,j3]
   unfold wf
   rw [iN (fun k=>h2 k.1),iN (fun k=>h2 k.1)]
 have names:∀ (body:Int×Int×Int→Option ((Int×Int×Int) ⊕ (Int×Int))) (g:ap),(∀ x y z,body (x,y,z)=if z<(q.names.length:Int) then (if x=0 then (if (0≤z∧z<(q.names.length:Int)) then ((bH (q.names.getD z.toNat default) (ao.mk (ap.mk x y) a)).bind fun y71=>some (.inl (y71.1,y71.2,(IntKind.wrap .i64 (z+1))))) else none) else (some (.inr (x,y)))) else (some (.inr (x,y)))) →
   bD body (g.code,g.at_,0)=some (pr (wf g a (fsF lI q.names))):=fun body g hb =>
  qm q.names lI a g
   (fun i f' hi hc => by
    rw [hb,iP (ltI hi),iP hc,iP (inI hi),tN,qG,bSq,wrs i oM]
    rfl)
   (fun i f' hi hc => by
    rw [hb,iP (ltI hi),iN hc];rfl)
   (fun f' => by
    rw [hb,iN (bp _)];rfl)
 have j1:∀ g:ap,cQ n q (ao.mk f a) g.code g.at_=some (pr (wf g a (sq (if q.names.length>30∨q.e.length>30∨q.s.length>3 then 7 else 0) (sq (fsF lI q.names) (sq (if q.node=[] then 0 else lI q.node) (sq (fsF iX q.s) (fsF r8 q.e))))))):=by
  intro g
  unfold cQ
  by_cases h1:q.names.length>30
  ·rw [iP oM,ij _ _ _ _ dM,bSq]
   simp only [pr]
   rw [names _ _ (fun x y z=>rfl),bSq]
   simp only [pr]
   rw [j2,iW,iW,iP (Or.inl h1),iP trivial];rfl
  rw [iN oM]
  by_cases h2:q.e.length>30
  ·rw [iP oM,ij _ _ _ _ dM,bSq]
   simp only [pr]
   rw [names _ _ (fun x y z=>rfl),bSq]
   simp only [pr]
   rw [j2,iW,iW,iP (Or.inr (Or.inl h2)),iP trivial];rfl
  rw [iN oM,ij _ _ _ _ dM,bSq]
  simp only [pr]
  rw [names _ _ (fun x y z=>rfl),bSq]
  simp only [pr]
  rw [j2,iW,iW]
  have e1:(if decide ((q.s.length:Int)>3)=true then (7:Int) else 0)=if q.names.length>30∨q.e.length>30∨q.s.length>3 then 7 else 0:=by
   refine ifC ?_
   rw [decide_eq_true_eq];omega
  rw [e1];rfl
 have fin:∀ (b:Bool),(b=true↔(q.names.length=0∨q.node=[]∧¬ (q.names.length=1∧q.e.length=1∧q.s.length=0)))→((az b 4 (ao.mk f a)).bind fun y=>cQ n q (ao.mk f a) y.1 y.2)=some (pr (wf f a (eqF q))):=by
  intro b hb
  rw [ij _ _ _ _ dM,bSq]
  simp only [pr]
  rw [j1,iW,ifC hb];rfl
 unfold kR
 by_cases h1:q.names.length=0
 ·rw [iP oM];exact fin _ (by simp [h1])
 rw [iN oM]
 by_cases h2:q.node=[]
 ·rw [iP h2]
  by_cases h3:q.names.length=1
  ·rw [iN oM]
   by_cases h4:q.e.length=1
   ·rw [iN oM]
    exact fin _ (by simp only [h2,true_and,h3,h4,decide_eq_true_eq];omega)
   ·rw [iP oM];exact fin _ (by simp only [h2,h4,true_and,false_and,and_false,not_false_eq_true,or_true])
  ·rw [iP oM];exact fin _ (by simp only [h2,h3,true_and,false_and,and_false,not_false_eq_true,or_true])
 ·rw [iN h2];exact fin _ (by simp only [h1,h2,false_and,or_self,Bool.false_eq_true])
theorem Ei(n:Nat)(hn:8000000<n)(q:TEq)(hq:GD q):pH n q=some (eqF q):=by
 obtain ⟨q1,q2,q3,q4⟩:=hq
 have q5:=oI q.e
 have j4:jz n q=some (fsF r8 q.e):=by
  unfold jz
  rw [oG q.e r8 (fun i hi=>by
   unfold mW
   have hm:q.e.getD i default∈q.e:=by simp [List.getD,hi]
   have:=oH hm
   have hp:we n (q.e.getD i default)=some (pn (q.e.getD i default):Int):=zg n _ oM oM
   have he:rr n (q.e.getD i default)=some (exF (q.e.getD i default)):=A0 n _ oM oM
   rw [iP (ltI hi),iP (inI hi),tN,hp,he,bSq,bSq,wrs i oM,ifS]
   unfold r8
   by_cases h:pn (q.e.getD i default)>30
   ·rw [iP oM,iP h];simp [sq]
   ·rw [iN oM,iN h];simp only [sq,if_true]) (by unfold mW;rw [iN (bp _)])]
  exact vL _
 have Fi:∀ (e:Int) (k:Option Int) (v:Int),k=some v→((some (if e=0 then Sum.inl () else Sum.inr e):Option (Unit ⊕ Int)).bind (Sum.elim (fun _=>k) (fun z=>some z)))=some (sq e v):=by
  intro e k v hk
  by_cases h:e=0
  ·simp [h,sq,hk]
  ·simp [h,sq]
 have j3:jA n q=some (sq (fsF iX q.s) (fsF r8 q.e)):=by
  unfold jA
  rw [oG q.s iX (fun i hi=>by
   unfold mX
   have hm:q.s.getD i default∈q.s:=by simp [List.getD,hi]
   rw [iP (ltI hi),iP (inI hi),tN,yb _ (q2.2 _ hm),bSq,wrs i oM]
   exact ifS _ _) (by unfold mX;rw [iN (bp _)])]
  exact Fi _ _ _ j4
 have j2:jB n q=some (sq (if q.node=[] then 0 else lI q.node) (sq (fsF iX q.s) (fsF r8 q.e))):=by
  unfold jB
  by_cases h:q.node=[]
  ·rw [iP h,iP h,j3];simp [sq]
  ·rw [iN h,iN h,pi,bSq,j3]
   unfold lI
   cases iB q.node<;>simp [sq]
 have j1:jC n q=some (sq (if q.names.length>30∨q.e.length>30∨q.s.length>3 then 7 else 0) (sq (fsF lI q.names) (sq (if q.node=[] then 0 else lI q.node) (sq (fsF iX q.s) (fsF r8 q.e))))):=by
  unfold jC
  by_cases h1:q.names.length>30
  ·rw [iP oM,iP (Or.inl h1)];simp [sq]
  rw [iN oM]
  by_cases h2:q.e.length>30
  ·rw [iP oM,iP (Or.inr (Or.inl h2))];simp [sq]
  rw [iN oM]
  by_cases h3:q.s.length>3
  ·rw [iP oM,iP (Or.inr (Or.inr h3))];simp [sq]
  rw [iN oM,iN oM,oG q.names lI (fun i hi=>by
   unfold mY
   rw [iP (ltI hi),iP (inI hi),tN,pi,bSq,wrs i oM]
   unfold lI
   cases iB (q.names.getD i default)<;>simp) (by unfold mY;rw [iN (bp _)])]
  rw [Fi _ _ _ j2]
  simp only [sq,if_true]
 unfold pH eqF
 rw [j1]
 by_cases h1:q.names.length=0
 ·rw [iP oM,iP (Or.inl h1)];simp [sq]
 rw [iN oM]
 by_cases h2:q.node=[]
 ·rw [iP h2]
  by_cases h3:q.names.length>1
  ·rw [iP oM,iP (Or.inr ⟨h2,fun k=>by omega⟩)];simp [sq]
  rw [iN oM]
  by_cases h4:q.e.length=1
  ·rw [iN oM]
   by_cases h5:q.s.length>0
   ·rw [iP oM,iP (Or.inr ⟨h2,fun k=>by omega⟩)];simp [sq]
   ·rw [iN oM]
    have:¬ (q.names.length=0∨q.node=[]∧¬ (q.names.length=1∧q.e.length=1∧q.s.length=0)):=by
     rintro (k|⟨_,k⟩)
     ·omega
     ·exact k ⟨by omega,by omega,by omega⟩
    rw [iN this]
    simp [sq]
  ·rw [iP oM,iP (Or.inr ⟨h2,fun k=>by omega⟩)];simp [sq]
 ·have:¬ (q.names.length=0∨q.node=[]∧¬ (q.names.length=1∧q.e.length=1∧q.s.length=0)):=by
   rintro (k|⟨k,_⟩)
   ·omega
   ·exact h2 k
  rw [iN h2,iN this]
  simp [sq]
def p9(x:aK):Int:=sq (lI x.name) (sq (if x.sizes.length>3∨x.eqs.length>60 then 7 else 0) (sq (fsF lI x.sizes) (sq (if x.out_.length=0 then 4 else 0) (sq (fA x.in_) (sq (fA x.out_) (fA x.local_))))))
def nT:Int→List TEq→ap→ap
 |_,[],f=>f
 |b,q :: l,f=>nT (b+1) l (wf f b (eqF q))
def mZ:Int→Int→List aK→ap→ap
 |_,_,[],f=>f
 |b,i,x :: l,f=>mZ (b+x.eqs.length) (i+1) l (nT b x.eqs (wf f (-2 - i) (p9 x)))
def m0(p:aB):ap:=mZ 0 0 p.nodes (wf (ap.mk 0 0) (-1) (sq (if p.nodes.length=0 then 9 else 0) (if p.nodes.length>10 then 7 else 0)))
theorem Cw(f:ap)(a e:Int)(h:¬ f.code=0):wf f a e=f:=by unfold wf;rw [iN (fun k=>h k.1)]
theorem r9(l:List TEq):∀ (b:Int) (f:ap),¬ f.code=0→nT b l f=f:=by
 induction l with
 |nil=>intro b f h;rfl
 |cons q l ih=>intro b f h;rw [nT,Cw _ _ _ h,ih _ _ h]
theorem pL(l:List aK):∀ (b i:Int) (f:ap),¬ f.code=0→mZ b i l f=f:=by
 induction l with
 |nil=>intro b i f h;rfl
 |cons x l ih=>intro b i f h;rw [mZ,Cw _ _ _ h,r9 _ _ _ h,ih _ _ _ h]
def Ej(x:aK):Prop:=x.sizes.length≤8000000∧(nh x.in_∧x.in_.length≤8000000)∧(nh x.out_∧x.out_.length≤8000000)∧(nh x.local_∧x.local_.length≤8000000)∧x.eqs.length≤8000000∧∀ q∈x.eqs,GD q
theorem uI.node{p:aB}(h:uI p){x:aK}(hx:x∈p.nodes):Ej x:=by
 obtain ⟨d1,d2,d3⟩:=h.decls _ hx
 obtain ⟨q1,q2⟩:=h.eqs _ hx
 refine ⟨h.names _ hx,d1,d2,d3,q1,fun q hq=>?_⟩
 obtain ⟨r1,r2,r3⟩:=q2 _ hq
 exact ⟨r1,r2.1,r2.2,r3⟩
theorem Ek(n:Nat)(hn:8000000<n)(x:aK)(hx:Ej x)(b:Nat)(hb:b≤1000000000000)(f:ap)(a:Int) :
  ∃ z,js n x b (ao.mk f a)=some ((nT b x.eqs (wf f a (p9 x))).code,(nT b x.eqs (wf f a (p9 x))).at_,z):=by
 obtain ⟨x1,x2,x3,x4,x5,x6⟩:=hx
 have eqs:∀ (k i:Nat) (g:ap) (z:Int),i+k=x.eqs.length→∃ z',bD (fun (x16,x17,x18,x19)=>dQ n x b x16 x17 x18 x19) (g.code,g.at_,z,(i:Int)) =
   some ((nT ((b+i:Nat):Int) (x.eqs.drop i) g).code,(nT ((b+i:Nat):Int) (x.eqs.drop i) g).at_,z'):=by
  intro k
  induction k with
  |zero =>
   intro i g z hi
   obtain rfl:i=x.eqs.length:=by omega
   refine ⟨z,?_⟩
   rw [dZ]
   simp only
   unfold dQ
   rw [iN (bp _),List.drop_length]
   rfl
  |succ k ih =>
   intro i g z hi
   have hlt:i<x.eqs.length:=by omega
   by_cases hc:g.code=0
   ·have hm:x.eqs.getD i default∈x.eqs:=by simp [List.getD,hlt]
    obtain ⟨z',hz⟩:=ih (i+1) (wf g ((b+i:Nat):Int) (eqF (x.eqs.getD i default))) ((b+i:Nat):Int) oM
    refine ⟨z',?_⟩
    have e:dQ n x b g.code g.at_ z (i:Int)=some (.inl ((wf g ((b+i:Nat):Int) (eqF (x.eqs.getD i default))).code,(wf g ((b+i:Nat):Int) (eqF (x.eqs.getD i default))).at_,((b+i:Nat):Int),((i+1:Nat):Int))):=by
     unfold dQ
     rw [iP (ltI hlt),iP hc,iP (inI hlt),tN,wrs i oM,wr (n:=(b:Int)+(i:Int)) oM oM,show (b:Int)+(i:Int)=((b+i:Nat):Int) by omega]
     rw [GF n hn _ (x6 _ hm),bSq]
     rfl
    rw [dZ]
    simp only
    rw [e]
    simp only
    rw [hz,ph _ _ hlt]
    rw [nT,show ((b+(i+1):Nat):Int)=((b+i:Nat):Int)+1 by omega]
   ·refine ⟨z,?_⟩
    rw [dZ]
    simp only
    unfold dQ
    rw [iP (ltI hlt),iN hc,r9 _ _ _ hc]
 have j1:∀ g:ap,∃ z,ck n x b (ao.mk f a) g.code g.at_=some ((nT b x.eqs (wf g a (sq (if x.out_.length=0 then 4 else 0) (sq (fA x.in_) (sq (fA x.out_) (fA x.local_)))))).code,(nT b x.eqs (wf g a (sq (if x.out_.length=0 then 4 else 0) (sq (fA x.in_) (sq (fA x.out_) (fA x.local_)))))).at_,z):=by
  intro g
  have e1:(if ((x.out_.length:Int) == 0)=true then (4:Int) else 0)=if x.out_.length=0 then 4 else 0:=by
   refine ifC ?_
   rw [beq_iff_eq];omega
  obtain ⟨z,hz⟩:=eqs x.eqs.length 0 (wf g a (sq (if x.out_.length=0 then 4 else 0) (sq (fA x.in_) (sq (fA x.out_) (fA x.local_))))) a oM
  refine ⟨z,?_⟩
  unfold ck
  rw [ij _ _ _ _ dM,bSq]
  simp only [pr]
  rw [wm _ (by have:=x2.2;omega) x2.1.2,bSq]
  simp only [pr]
  rw [wm _ (by have:=x3.2;omega) x3.1.2,bSq]
  simp only [pr]
  rw [wm _ (by have:=x4.2;omega) x4.1.2,bSq]
  simp only [pr]
  rw [iW,iW,iW,e1]
  have hz':=hz
  rw [show ((0:Nat):Int)=0 from rfl,List.drop_zero,Nat.add_zero] at hz'
  rw [hz']
  rfl
 have names:∀ (body:Int×Int×Int→Option ((Int×Int×Int) ⊕ (Int×Int))) (g:ap),(∀ u v w,body (u,v,w)=if w<(x.sizes.length:Int) then (if u=0 then (if (0≤w∧w<(x.sizes.length:Int)) then ((bH (x.sizes.getD w.toNat default) (ao.mk (ap.mk u v) a)).bind fun y71=>some (.inl (y71.1,y71.2,(IntKind.wrap .i64 (w+1))))) else none) else (some (.inr (u,v)))) else (some (.inr (u,v)))) →
   bD body (g.code,g.at_,0)=some (pr (wf g a (fsF lI x.sizes))):=fun body g hb =>
  qm x.sizes lI a g
   (fun i f' hi hc => by
    rw [hb,iP (ltI hi),iP hc,iP (inI hi),tN,qG,bSq,wrs i oM]
    rfl)
   (fun i f' hi hc => by
    rw [hb,iP (ltI hi),iN hc];rfl)
   (fun f' => by
    rw [hb,iN (bp _)];rfl)
 unfold js
 rw [qG,bSq]
 simp only [pr]
 obtain ⟨z,hz⟩:=j1 (wf f a (sq (lI x.name) (sq (if x.sizes.length>3∨x.eqs.length>60 then 7 else 0) (fsF lI x.sizes))))
 refine ⟨z,?_⟩
 rw [iW,A3,A3] at hz
 by_cases h1:x.sizes.length>3
 ·rw [iP oM,ij _ _ _ _ dM,bSq]
  simp only [pr]
  rw [names _ _ (fun u v w=>rfl),bSq]
  simp only [pr]
  rw [iW,iW,iP trivial]
  rw [iP (Or.inl h1)] at hz
  rw [show (if iB x.name=true then (0:Int) else 3)=lI x.name from rfl]
  unfold p9
  rw [iP (Or.inl h1)]
  exact hz
 ·have e1:(if decide ((x.eqs.length:Int)>60)=true then (7:Int) else 0)=if x.sizes.length>3∨x.eqs.length>60 then 7 else 0:=by
   refine ifC ?_
   rw [decide_eq_true_eq];omega
  rw [iN oM,ij _ _ _ _ dM,bSq]
  simp only [pr]
  rw [names _ _ (fun u v w=>rfl),bSq]
  simp only [pr]
  rw [iW,iW,e1]
  exact hz
theorem Fi(e:Int)(k:Option Int)(v:Int)(hk:k=some v):((some (if e=0 then Sum.inl () else Sum.inr e):Option (Unit ⊕ Int)).bind (Sum.elim (fun _=>k) (fun z=>some z)))=some (sq e v):=by
 by_cases h:e=0
 ·simp [h,sq,hk]
 ·simp [h,sq]
theorem yi(x:aK)(hx:Ej x):nF x=some (p9 x):=by
 obtain ⟨x1,x2,x3,x4,x5,x6⟩:=hx
 have j1:ib x=some (sq (if x.out_.length=0 then 4 else 0) (sq (fA x.in_) (sq (fA x.out_) (fA x.local_)))):=by
  unfold ib
  by_cases h:x.out_.length=0
  ·rw [iP oM,iP h];simp [sq]
  rw [iN oM,iN h]
  have lp:bD (fun x4=>jj x x4) 0=some (if fsF fA [x.in_,x.out_,x.local_]=0 then .inl () else .inr (fsF fA [x.in_,x.out_,x.local_])) :=
   oG [x.in_,x.out_,x.local_] fA (fun i hi=>by
    unfold jj lit
    have hi':i<3:=hi
    have hd:lb ([x.in_,x.out_,x.local_].getD i default)=some (fA ([x.in_,x.out_,x.local_].getD i default)):=by
     obtain rfl|rfl|rfl:i=0∨i=1∨i=2:=by omega
     ·exact wn x.in_ (by have:=x2.2;omega) x2.1.2
     ·exact wn x.out_ (by have:=x3.2;omega) x3.1.2
     ·exact wn x.local_ (by have:=x4.2;omega) x4.1.2
    rw [iP oM,iP ⟨by omega,by omega⟩,tN,hd,bSq,wrs i oM]
    exact ifS _ _) (by unfold jj;rw [iN (by simp)])
  rw [lp]
  have e:fsF fA [x.in_,x.out_,x.local_]=sq (fA x.in_) (sq (fA x.out_) (fA x.local_)):=by simp only [fsF,H4]
  rw [e]
  have:=vL (sq (fA x.in_) (sq (fA x.out_) (fA x.local_)))
  simp only [sq,if_true] at this ⊢
  exact this
 have hN:∀ w,(if iB w=true then (0:Int) else 3)=lI w:=fun w=>rfl
 unfold nF p9
 rw [pi,bSq]
 by_cases h0:iB x.name=true
 ·rw [iP h0,show lI x.name=0 by rw [← hN,iP h0]]
  by_cases h1:x.sizes.length>3
  ·rw [iP oM,iP (Or.inl h1)];simp [sq]
  rw [iN oM]
  by_cases h2:x.eqs.length>60
  ·rw [iP oM,iP (Or.inr h2)];simp [sq]
  rw [iN oM,oG x.sizes lI (fun i hi=>by
   unfold lf
   rw [iP (ltI hi),iP (inI hi),tN,pi,bSq,wrs i oM]
   unfold lI
   cases iB (x.sizes.getD i default)<;>simp) (by unfold lf;rw [iN (bp _)])]
  rw [iN (show ¬ (x.sizes.length>3∨x.eqs.length>60) by omega),Fi _ _ _ j1]
  simp only [sq,if_true]
 ·rw [iN h0,show lI x.name=3 by rw [← hN,iN h0]]
  simp [sq]
theorem Df(n:Nat)(hn:8000000<n)(p:aB)(hp:uI p):ou n p=some (m0 p):=by
 have e1:(if ((p.nodes.length:Int) == 0)=true then (9:Int) else 0)=if p.nodes.length=0 then 9 else 0:=by
  refine ifC ?_
  rw [beq_iff_eq];omega
 have e2:(if decide ((p.nodes.length:Int)>10)=true then (7:Int) else 0)=if p.nodes.length>10 then 7 else 0:=by
  refine ifC ?_
  rw [decide_eq_true_eq];omega
 unfold ou m0
 rw [ij _ _ _ _ dM,bSq]
 simp only [pr]
 rw [ij _ _ _ _ dM,bSq,iW,e1,e2]
 simp only [pr]
 generalize hf:wf (ap.mk 0 0) (-1) (sq (if p.nodes.length=0 then 9 else 0) (if p.nodes.length>10 then 7 else 0))=f0
 by_cases h10:p.nodes.length>10
 ·have hc:¬ f0.code=0:=by
   rw [← hf]
   unfold wf sq
   rw [iN (show ¬ p.nodes.length=0 by omega),iP rfl,iP h10]
   decide
  have e:dV n p f0.code f0.at_ (-1) 0 0=some (.inr (f0.code,f0.at_,-1)):=by
   unfold dV
   rw [iP oM,iN hc]
  rw [pL _ _ _ _ hc,dZ]
  simp only
  rw [e]
  rfl
 ·have key:∀ (k i b:Nat) (g:ap) (z:Int),i+k=p.nodes.length→b≤8000000 * i→∃ z',bD (fun (x16,x17,x18,x19,x20)=>dV n p x16 x17 x18 x19 x20) (g.code,g.at_,z,(b:Int),(i:Int)) =
    some ((mZ b i (p.nodes.drop i) g).code,(mZ b i (p.nodes.drop i) g).at_,z'):=by
   intro k
   induction k with
   |zero =>
    intro i b g z hi hb
    obtain rfl:i=p.nodes.length:=by omega
    refine ⟨z,?_⟩
    have e:dV n p g.code g.at_ z b p.nodes.length=some (.inr (g.code,g.at_,z)):=by
     unfold dV
     rw [iN (bp _)]
    rw [dZ]
    simp only
    rw [e,List.drop_length]
    rfl
   |succ k ih =>
    intro i b g z hi hb
    have hlt:i<p.nodes.length:=by omega
    by_cases hc:g.code=0
    ·have hm:p.nodes.getD i default∈p.nodes:=by simp [List.getD,hlt]
     have hns:=hp.node hm
     obtain ⟨z1,hz1⟩:=Ek n hn _ hns b oM g (-2 - (i:Int))
     have h8:=hns.2.2.2.2.1
     obtain ⟨z',hz⟩:=ih (i+1) (b+(p.nodes.getD i default).eqs.length) (nT b (p.nodes.getD i default).eqs (wf g (-2 - (i:Int)) (p9 (p.nodes.getD i default)))) z1 oM oM
     refine ⟨z',?_⟩
     have e:dV n p g.code g.at_ z b i=some (.inl ((nT b (p.nodes.getD i default).eqs (wf g (-2 - (i:Int)) (p9 (p.nodes.getD i default)))).code,(nT b (p.nodes.getD i default).eqs (wf g (-2 - (i:Int)) (p9 (p.nodes.getD i default)))).at_,z1,((b+(p.nodes.getD i default).eqs.length:Nat):Int),((i+1:Nat):Int))):=by
      unfold dV
      rw [iP (ltI hlt),iP hc,iP (inI hlt),tN,wrs i oM,wr (n:=-2 - (i:Int)) oM oM,wr (n:=(b:Int)+((p.nodes.getD i default).eqs.length:Int)) oM oM,hz1,bSq]
      simp only [Int.natCast_add]
     rw [dZ]
     simp only
     rw [e]
     simp only
     rw [hz,ph _ _ hlt]
     rw [mZ]
     simp only [Int.natCast_add,Int.natCast_one,Int.cast_ofNat_Int]
    ·refine ⟨z,?_⟩
     have e:dV n p g.code g.at_ z b i=some (.inr (g.code,g.at_,z)):=by
      unfold dV
      rw [iP (ltI hlt),iN hc]
     rw [dZ]
     simp only
     rw [e,pL _ _ _ _ hc]
  obtain ⟨z',hz⟩:=key p.nodes.length 0 0 f0 (-1) oM oM
  rw [show ((0:Nat):Int)=0 from rfl,List.drop_zero] at hz
  rw [hz]
  rfl
theorem GG(n:Nat)(hn:8000000<n)(p:aB)(hp:uI p)(i:Nat)(hi:i<p.nodes.length)(b:Nat)(hb:b≤1000000000000) :
  bD (fun (x18,x19)=>cX n p i x18 x19) ((b:Int),0)=some (if (nT b (p.nodes.getD i default).eqs (ap.mk 0 0)).code=0 then .inl ((b+(p.nodes.getD i default).eqs.length:Nat):Int) else .inr (nT b (p.nodes.getD i default).eqs (ap.mk 0 0))):=by
 have hm:p.nodes.getD i default∈p.nodes:=by simp [List.getD,hi]
 obtain ⟨x1,x2,x3,x4,x5,x6⟩:=hp.node hm
 have key:∀ (k j:Nat),j+k=(p.nodes.getD i default).eqs.length→bD (fun (x18,x19)=>cX n p i x18 x19) (((b+j:Nat):Int),(j:Int)) =
   some (if (nT ((b+j:Nat):Int) ((p.nodes.getD i default).eqs.drop j) (ap.mk 0 0)).code=0 then .inl ((b+(p.nodes.getD i default).eqs.length:Nat):Int) else .inr (nT ((b+j:Nat):Int) ((p.nodes.getD i default).eqs.drop j) (ap.mk 0 0))):=by
  intro k
  induction k with
  |zero =>
   intro j hj
   obtain rfl:j=(p.nodes.getD i default).eqs.length:=by omega
   have e:cX n p i ((b+(p.nodes.getD i default).eqs.length:Nat):Int) (p.nodes.getD i default).eqs.length=some (.inr (.inl ((b+(p.nodes.getD i default).eqs.length:Nat):Int))):=by
    unfold cX
    rw [tN,iN (bp _)]
   rw [dZ]
   simp only
   rw [e,List.drop_length]
   rfl
  |succ k ih =>
   intro j hj
   have hlt:j<(p.nodes.getD i default).eqs.length:=by omega
   have hq:(p.nodes.getD i default).eqs.getD j default∈(p.nodes.getD i default).eqs:=bi hlt
   rw [ph _ _ hlt,nT]
   by_cases h:eqF ((p.nodes.getD i default).eqs.getD j default)=0
   ·have e:cX n p i ((b+j:Nat):Int) j=some (.inl (((b+(j+1):Nat):Int),((j+1:Nat):Int))):=by
     unfold cX
     rw [tN,iP (ltI hlt),iP (inI hlt),tN,Ei n hn _ (x6 _ hq),bSq,iN (fun k=>k h),wrs j oM,wrs (b+j) oM]
     rfl
    rw [dZ]
    simp only
    rw [e]
    simp only
    rw [ih (j+1) oM,h,AV]
    rfl
   ·have e:cX n p i ((b+j:Nat):Int) j=some (.inr (.inr (ap.mk (eqF ((p.nodes.getD i default).eqs.getD j default)) ((b+j:Nat):Int)))):=by
     unfold cX tF
     rw [tN,iP (ltI hlt),iP (inI hlt),tN,Ei n hn _ (x6 _ hq),bSq,iP h]
     rfl
    have w:wf (ap.mk 0 0) ((b+j:Nat):Int) (eqF ((p.nodes.getD i default).eqs.getD j default))=ap.mk (eqF ((p.nodes.getD i default).eqs.getD j default)) ((b+j:Nat):Int):=by
     unfold wf;rw [iP ⟨rfl,h⟩]
    rw [dZ]
    simp only
    rw [e,w,r9 _ _ _ h]
    simp only
    rw [iN h]
 have k0:=key (p.nodes.getD i default).eqs.length 0 oM
 rw [Nat.add_zero,List.drop_zero] at k0
 exact k0
theorem Dg(n:Nat)(hn:8000000<n)(p:aB)(hp:uI p):jV n p=if (m0 p).code=0 then fX n p else some (m0 p):=by
 unfold jV m0 tF
 by_cases h0:p.nodes.length=0
 ·have hn:p.nodes=[]:=List.length_eq_zero_iff.1 h0
  rw [iP oM,hn]
  rfl
 rw [iN oM]
 by_cases h10:p.nodes.length>10
 ·have w:wf (ap.mk 0 0) (-1) (sq (if p.nodes.length=0 then 9 else 0) (if p.nodes.length>10 then 7 else 0))=ap.mk 7 (-1):=by
   unfold wf sq
   rw [iN h0,iP rfl,iP h10];rfl
  rw [iP oM,w,pL _ _ _ _ dM,iN dM]
  rfl
 have w:wf (ap.mk 0 0) (-1) (sq (if p.nodes.length=0 then 9 else 0) (if p.nodes.length>10 then 7 else 0))=ap.mk 0 0:=by
  unfold wf sq
  rw [iN h0,iP rfl,iN h10];rfl
 have key:∀ (k i b:Nat),i+k=p.nodes.length→b≤8000000 * i→bD (fun (x9,x10)=>cP n p x9 x10) ((b:Int),(i:Int)) =
   some (if (mZ b i (p.nodes.drop i) (ap.mk 0 0)).code=0 then .inl () else .inr (mZ b i (p.nodes.drop i) (ap.mk 0 0))):=by
  intro k
  induction k with
  |zero =>
   intro i b hi hb
   obtain rfl:i=p.nodes.length:=by omega
   have e:cP n p b p.nodes.length=some (.inr (.inl ())):=by
    unfold cP
    rw [iN (bp _)]
   rw [dZ]
   simp only
   rw [e,List.drop_length]
   rfl
  |succ k ih =>
   intro i b hi hb
   have hlt:i<p.nodes.length:=by omega
   have hm:p.nodes.getD i default∈p.nodes:=by simp [List.getD,hlt]
   have hns:=hp.node hm
   have h8:=hns.2.2.2.2.1
   rw [ph _ _ hlt,mZ]
   by_cases h:p9 (p.nodes.getD i default)=0
   ·rw [h,AV]
    have hl:=GG n hn p hp i hlt b oM
    by_cases hc:(nT b (p.nodes.getD i default).eqs (ap.mk 0 0)).code=0
    ·rw [iP hc] at hl
     have hz:nT b (p.nodes.getD i default).eqs (ap.mk 0 0)=ap.mk 0 0:=by
      have:∀ (l:List TEq) (b:Int),(nT b l (ap.mk 0 0)).code=0→nT b l (ap.mk 0 0)=ap.mk 0 0:=by
       intro l
       induction l with
       |nil=>intro b _;rfl
       |cons q l il =>
        intro b hq
        rw [nT] at hq ⊢
        by_cases h9:eqF q=0
        ·rw [h9,AV] at hq ⊢;exact il _ hq
        ·have w9:wf (ap.mk 0 0) b (eqF q)=ap.mk (eqF q) b:=by unfold wf;rw [iP ⟨rfl,h9⟩]
         rw [w9,r9 _ _ _ h9] at hq
         exact absurd hq h9
      exact this _ _ hc
     have e:cP n p b i=some (.inl (((b+(p.nodes.getD i default).eqs.length:Nat):Int),((i+1:Nat):Int))):=by
      unfold cP
      rw [iP (ltI hlt),iP (inI hlt),tN,yi _ hns,bSq,iN (fun k=>k h),hl,bSq]
      show fY _ _=_
      unfold fY
      rw [wrs i oM]
     rw [dZ]
     simp only
     rw [e]
     simp only
     rw [ih (i+1) (b+(p.nodes.getD i default).eqs.length) oM oM,hz]
     simp only [Int.natCast_add,Int.natCast_one,Int.cast_ofNat_Int]
    ·rw [iN hc] at hl
     have e:cP n p b i=some (.inr (.inr (nT b (p.nodes.getD i default).eqs (ap.mk 0 0)))):=by
      unfold cP
      rw [iP (ltI hlt),iP (inI hlt),tN,yi _ hns,bSq,iN (fun k=>k h),hl,bSq]
      rfl
     rw [dZ]
     simp only
     rw [e,pL _ _ _ _ hc]
     simp only
     rw [iN hc]
   ·have w9:wf (ap.mk 0 0) (-2 - (i:Int)) (p9 (p.nodes.getD i default))=ap.mk (p9 (p.nodes.getD i default)) (-2 - (i:Int)):=by unfold wf;rw [iP ⟨rfl,h⟩]
    have e:cP n p b i=some (.inr (.inr (ap.mk (p9 (p.nodes.getD i default)) (-2 - (i:Int))))):=by
     unfold cP tF
     rw [iP (ltI hlt),iP (inI hlt),tN,yi _ hns,bSq,iP h,wr (n:=-2 - (i:Int)) oM oM]
     rfl
    rw [dZ]
    simp only
    rw [e,w9,r9 _ _ _ h,pL _ _ _ _ h]
    simp only
    rw [iN h]
 have k0:=key p.nodes.length 0 0 oM oM
 rw [show ((0:Nat):Int)=0 from rfl,List.drop_zero] at k0
 rw [iN oM,k0,w]
 by_cases hc:(mZ 0 0 p.nodes (ap.mk 0 0)).code=0
 ·rw [iP hc,iP hc];rfl
 ·rw [iN hc,iN hc];rfl
def nU{T:Type}(F:Nat→T→Ω):Nat→List T→Ω
 |_,[]=>[]
 |i,x :: l=>F i x++nU F (i+1) l
def vT{T:Type}(w:T→Nat):List T→Nat
 |[]=>0
 |x :: l=>w x+vT w l
theorem ew{T:Type}(w:T→Nat)(l:List T):vT w l+1=szL w l:=by
 unfold szL
 induction l with
 |nil=>rfl
 |cons x l ih=>simp only [vT,List.map_cons,List.sum_cons] at *;omega
theorem nG{T:Type}(F:Nat→T→Ω)(w:T→Nat)(l:List T):∀ (i:Nat),(∀ i,∀ x∈l,(F i x).length≤32 * w x)→(nU F i l).length≤32 * vT w l:=by
 induction l with
 |nil=>intro i _;simp [nU]
 |cons x l ih =>
  intro i h
  have h1:=h i x (by simp)
  have h2:=ih (i+1) (fun i y hy=>h i y (by simp [hy]))
  simp only [nU,vT,List.length_append];omega
theorem nH{T:Type}[Inhabited T](l:List T)(F:Nat→T→Ω)(w:T→Nat){body:Ω×Int→Option ((Ω×Int) ⊕ Ω)}(s0:Ω)(M:Nat)
  (hM:s0.length+32 * vT w l≤M) (hw:∀ i,∀ x∈l,(F i x).length≤32 * w x)
  (hb:∀ (i:Nat) (s:Ω),i<l.length→s.length+32 * w (l.getD i default)≤M→body (s,(i:Int))=some (.inl (s++F i (l.getD i default),((i+1:Nat):Int))))
  (he:∀ s,body (s,(l.length:Int))=some (.inr s)):bD body (s0,0)=some (s0++nU F 0 l):=by
 have key:∀ (k i:Nat) (s:Ω),i+k=l.length→s.length+32 * vT w (l.drop i)≤M→bD body (s,(i:Int))=some (s++nU F i (l.drop i)):=by
  intro k
  induction k with
  |zero =>
   intro i s hi _
   obtain rfl:i=l.length:=by omega
   rw [dZ,he,List.drop_length]
   simp [nU]
  |succ k ih =>
   intro i s hi hs
   have hlt:i<l.length:=by omega
   have hm:=hw i _ (bi hlt)
   rw [ph _ _ hlt,vT] at hs
   rw [dZ,hb i s hlt oM]
   simp only
   rw [ih (i+1) _ oM (by rw [List.length_append];omega),ph _ _ hlt,nU,List.append_assoc]
 exact key l.length 0 s0 oM hM
theorem sc{T U:Type}[Inhabited T](l:List T)(F:T→U){body:List U×Int→Option ((List U×Int) ⊕ List U)}
  (hb:∀ (i:Nat) (s:List U),i<l.length→s.length=i→body (s,(i:Int))=some (.inl (s++[F (l.getD i default)],((i+1:Nat):Int))))
  (he:∀ s,body (s,(l.length:Int))=some (.inr s)):bD body ([],0)=some (l.map F):=by
 have key:∀ (k i:Nat) (s:List U),i+k=l.length→s.length=i→bD body (s,(i:Int))=some (s++(l.drop i).map F):=by
  intro k
  induction k with
  |zero =>
   intro i s hi _
   obtain rfl:i=l.length:=by omega
   rw [dZ,he,List.drop_length]
   simp
  |succ k ih =>
   intro i s hi hs
   have hlt:i<l.length:=by omega
   rw [dZ,hb i s hlt hs]
   simp only
   rw [ih (i+1) _ oM (by simp [hs]),ph _ _ hlt]
   simp
 have:=key l.length 0 [] oM rfl
 simpa using this
def yj{T:Type}(F:T→Ω)(i:Nat)(x:T):Ω:=(if 0<i then [44,32] else [])++F x
def com(l:List Ω):Ω:=Go.Lib.join l [44,32]
theorem El{T:Type}(F:T→Ω)(l:List T):∀ i,nU (yj F) (i+1) l=Go.Lib.joinTail [44,32] (l.map F):=by
 induction l with
 |nil=>intro i;rfl
 |cons x l ih=>intro i;rw [nU,ih];simp [yj,Go.Lib.joinTail]
theorem vU{T:Type}(F:T→Ω)(l:List T):nU (yj F) 0 l=com (l.map F):=by
 cases l with
 |nil=>rfl
 |cons x l =>
  rw [nU,El,com,List.map_cons,Go.Lib.join_cons];rfl
theorem vV{T:Type}{F:T→Ω}{w:Nat}{x:T}(h:(F x).length+2≤w)(i:Nat):(yj F i x).length≤w:=by
 unfold yj
 split<;>simp<;>omega
theorem ri{T:Type}(F:T→Ω)(w:T→Nat)(l:List T)(h:∀ x∈l,(F x).length+2≤32 * w x):(com (l.map F)).length≤32 * vT w l:=by
 rw [← vU]
 exact nG _ _ _ _ (fun i x hx=>vV (h x hx) i)
def mJ(s:List an):Ω:=fq true (s.map fun t=>(t.n,t.name))
theorem xe(n:Int)(h0:-9223372036854775808≤n)(h1:n≤9223372036854775807):(Go.Lib.itoa n).length≤21:=Go.Lib.itoa_length_le n h0 h1
theorem A4(n:Int)(w:Ω)(h0:-9223372036854775808≤n)(h1:n≤9223372036854775807):(ku n w).length≤22+w.length:=by
 have:=xe n h0 h1
 unfold ku
 split
 ·omega
 ·split
  ·omega
  ·simp;omega
def yk(t:an):Prop:=-1000000000000000000<t.n∧t.n<1000000000000000000
theorem wo(f:Bool)(t:an)(h:yk t):(ny f t.n t.name).length+2≤32 * t.sz:=by
 obtain ⟨h0,h1⟩:=h
 have hz:t.sz=t.name.length+3:=by unfold an.sz szI szS;omega
 have k1:=A4 (-t.n) t.name oM oM
 have k2:=A4 t.n t.name oM oM
 unfold ny
 split<;>cases f<;>simp only [List.length_append,List.length_cons,List.length_nil,if_true,if_false,Bool.false_eq_true]<;>omega
theorem BO(l:List an):∀ i,fq (i == 0) (l.map fun t=>(t.n,t.name))=nU (fun i t=>ny (i == 0) t.n t.name) i l:=by
 induction l with
 |nil=>intro i;rfl
 |cons t l ih =>
  intro i
  rw [List.map_cons,fq,nU,← ih (i+1)]
  rfl
theorem zi(s:List an):mJ s=nU (fun i t=>ny (i == 0) t.n t.name) 0 s:=BO s 0
theorem ni(s:List an)(h:∀ t∈s,yk t):(mJ s).length+32≤32 * szL an.sz s:=by
 rw [zi]
 have:=nG (fun i t=>ny (i == 0) t.n t.name) an.sz s 0 (fun i t ht=>by have:=wo (i == 0) t (h t ht);omega)
 have:=ew an.sz s
 omega
theorem yl(s:List an)(h:∀ t∈s,yk t)(hs:szL an.sz s≤1048576):nW s=some (mJ s):=by
 have h1:=ni s h
 have h2:=eq an.sz_pos s
 unfold nW
 rw [iP ⟨by omega,fun t ht=>⟨by have:=(h t ht).1;omega,by have:=(h t ht).2;omega⟩,by
  show (mJ s).length≤_
  omega⟩]
 rfl
theorem GH(n:Int)(h0:-9223372036854775808≤n)(h1:n≤9223372036854775807):fD n 10=some (Go.Lib.itoa n):=by
 unfold fD
 rw [iP ⟨rfl,h0,h1⟩]
theorem wq(s:List an)(h:∀ t∈s,yk t)(hs:szL an.sz s≤1048576):lV s=some (mJ s):=by
 have h2:=eq an.sz_pos s
 have h3:=ew an.sz s
 unfold lV
 rw [nH s (fun i t=>ny (i == 0) t.n t.name) an.sz [] 100000000 (by simp only [List.length_nil];omega) (fun i t ht=>by have:=wo (i == 0) t (h t ht);omega)
  (fun i z hi hz => by
   have ht:=h _ (bi hi)
   have hl:=wo (i == 0) _ ht
   have hZ:(s.getD i default).sz=(s.getD i default).name.length+3:=by unfold an.sz szI szS;omega
   show iE s z i=_
   unfold iE
   rw [iP (ltI hi),iP (inI hi),tN]
   obtain ⟨t0,t1⟩:=ht
   have j5:∀ (m:Int) (z':Ω),0≤m→m≤1000000000000000000→z'.length+60+(s.getD i default).name.length≤200000000→gJ s i m z'=some (.inl (z'++ku m (s.getD i default).name,((i+1:Nat):Int))):=by
    intro m z' hm0 hm1 hz'
    have hlen:=xe m oM oM
    have j6:∀ z'':Ω,z''.length+(s.getD i default).name.length≤300000000→ff s i z''=some (.inl (z''++(s.getD i default).name,((i+1:Nat):Int))):=by
     intro z'' hz''
     unfold ff maxLen
     rw [tN,iP oM,wrs i oM]
    unfold gJ ku
    rw [tN,GH m oM oM,bSq]
    by_cases hn:(s.getD i default).name=[]
    ·rw [iP hn,iP hn,iP hn,iP xM,j6 _ (by rw [List.length_append];omega),hn,List.append_nil]
    ·rw [iN hn,iN hn,iN hn]
     by_cases h1:m=1
     ·rw [iN (fun k=>k h1),iP h1,j6 _ oM]
     ·rw [iP h1,iN h1,iP xM,iP xM,j6 _ lO]
      simp
   unfold ny
   by_cases hneg:(s.getD i default).n<0
   ·rw [iP hneg,iP hneg,wr (n:=0 - (s.getD i default).n) oM oM]
    unfold iD
    rw [tN]
    by_cases hi0:i=0
    ·subst hi0
     unfold fh fg
     rw [iN (by simp),iN (by simp),iP (by simp),tN,iP hneg,iP xM]
     rw [j5 _ _ oM oM lO]
     simp
    ·rw [iP oM,iP hneg,iP xM]
     unfold fh fg
     rw [iP oM,tN,iP hneg,iN oM]
     rw [j5 _ _ oM oM lO]
     simp [hi0]
   ·rw [iN hneg,iN hneg]
    unfold iD
    rw [tN]
    by_cases hi0:i=0
    ·subst hi0
     unfold fh fg
     rw [iN (by simp),iN (by simp),iP (by simp),tN,iN hneg]
     rw [j5 _ _ oM oM oM]
     simp
    ·rw [iP oM,iN hneg]
     unfold fh fg
     rw [iP oM,tN,iN hneg,iP xM,iN oM]
     rw [j5 _ _ oM oM lO]
     simp [hi0])
  (fun z => by
   show iE s z s.length=_
   unfold iE
   rw [iN (bp _)])]
 rw [zi]
 rfl
theorem zj{T:Type}{F:T→Int}{l:List T}(h:fsF F l=0):∀ x∈l,F x=0:=by
 induction l with
 |nil=>intro x hx;simp at hx
 |cons a l ih =>
  have h':sq (F a) (fsF F l)=0:=h
  unfold sq at h'
  by_cases ha:F a=0
  ·rw [iP ha] at h'
   intro x hx
   rcases List.mem_cons.1 hx with rfl|hx
   ·exact ha
   ·exact ih h' x hx
  ·rw [iN ha] at h';exact absurd h' ha
theorem oT{a b:Int}(h:sq a b=0):a=0∧b=0:=by
 unfold sq at h
 by_cases ha:a=0
 ·rw [iP ha] at h;exact ⟨ha,h⟩
 ·rw [iN ha] at h;exact absurd h ha
theorem Af{s:List an}(h:iX s=0):∀ t∈s,yk t:=by
 unfold iX at h
 split at h
 ·omega
 ·split at h
  ·omega
  ·intro t ht
   have:=zj h t ht
   unfold vM at this
   split at this
   ·omega
   ·rename_i k;exact ⟨by omega,by omega⟩
def se(d:ax):Prop:=∀ t∈d.t.n,yk t
theorem Fj{d:ax}(h:zf d=0):se d:=by
 obtain ⟨_,h1⟩:=oT h
 obtain ⟨_,h2⟩:=oT h1
 split at h2
 ·exact Af h2
 ·intro t ht
  have:=List.length_pos_of_mem ht
  omega
theorem ym{l:List ax}(h:fA l=0):∀ d∈l,se d:=by
 unfold fA at h
 split at h
 ·omega
 ·intro d hd;exact Fj (zj h d hd)
theorem A5(w:Ω):w.length+2≤32 * szS w:=by unfold szS;omega
theorem qK(l:List Ω):(com l).length+32≤32 * szL szS l:=by
 have h1:=ri (F:=id) szS l (fun x _=>A5 x)
 have h2:=ew szS l
 rw [List.map_id] at h1
 omega
theorem A6{l:List Ω}(h:l.length≤1048576)(h2:(com l).length≤140737488355328):gq l ([44,32]:Ω)=some (com l):=by
 unfold gq
 rw [iP ⟨h,h2⟩];rfl
theorem Em(l:List Ω)(h:szL szS l≤1048576):gq l ([44,32]:Ω)=some (com l):=by
 have h1:=qK l
 have h2:=eq xd l
 exact A6 oM oM
theorem yn(l:List Ω)(w:Ω→Nat)(h:∀ x∈l,x.length+2≤32 * w x)(hl:l.length≤1048576)(hs:vT w l≤10000000):gj l=some (com l):=by
 unfold gj
 rw [nH l (yj id) w [] 400000000 (by simp only [List.length_nil];omega) (fun i x hx=>vV (h x hx) i)
  (fun i s hi hz => by
   have hx:=h _ (bi hi)
   show hP l s i=_
   unfold hP
   rw [iP (ltI hi)]
   have j2:∀ s':Ω,s'.length≤500000000→hO l i s'=some (.inl (s'++l.getD i default,((i+1:Nat):Int))):=by
    intro s' hs'
    unfold hO maxLen
    rw [tN,iP ⟨inI hi,by omega⟩,wrs i oM]
   unfold yj
   by_cases h0:0<i
   ·rw [iP oM,iP h0,iP xM,j2 _ lO,List.append_assoc]
    rfl
   ·rw [iN oM,iN h0,j2 _ oM]
    rfl)
  (fun s => by
   show hP l s l.length=_
   unfold hP
   rw [iN (bp _)])]
 rw [vU,List.map_id]
 rfl
theorem zk(l:List Ω)(h:szL szS l≤1048576):gj l=some (com l):=by
 have h2:=eq xd l
 have h3:=ew szS l
 exact yn l szS (fun x _=>A5 x) oM oM
def BP(t:gR):Ω:=(if t.elem=98 then [98,111,111,108] else [105,110,116])++(if t.n.length>0 then 94 :: mJ t.n else [])
def mj(d:ax):Ω:=d.name++([58,32]++BP d.t)
theorem uo(d:ax)(h:se d):(mj d).length+2≤32 * d.sz:=by
 have h1:=ni d.t.n h
 have h2:d.sz=szS d.name+(szI d.t.elem+szL an.sz d.t.n+1)+1:=by unfold ax.sz gR.sz;omega
 unfold szS szI at h2
 unfold mj BP
 split<;>split<;>simp only [lA]<;>omega
theorem Ag(d:ax):d.sz=szS d.name+(szI d.t.elem+szL an.sz d.t.n+1)+1:=by unfold ax.sz gR.sz;omega
theorem yo(d:ax)(h:se d)(hs:d.sz≤1048576):mO d=some (mj d):=by
 have h1:=ni d.t.n h
 have h2:=Ag d
 unfold szS szI at h2
 have j1:∀ s:Ω,s.length≤10→kv d.t s=some (s++(if d.t.n.length>0 then 94 :: mJ d.t.n else [])):=by
  intro s hsl
  unfold kv
  by_cases h0:d.t.n.length>0
  ·rw [iP oM,iP h0,yl _ h oM,bSq,iP xM];rfl
  ·rw [iN oM,iN h0,List.append_nil]
 have ht:qx d.t=some (BP d.t):=by
  unfold qx BP
  by_cases h9:d.t.elem=98
  ·rw [iP h9,iP h9,j1 _ dM]
  ·rw [iN h9,iN h9,j1 _ dM]
 have hl:=uo d h
 unfold mj at hl ⊢
 simp only [lA] at hl
 unfold mO maxLen
 rw [iP oM,ht,bSq,iP oM,List.append_assoc]
theorem A7(d:ax)(h:se d)(hs:d.sz≤1048576):kh d=some (mj d):=by
 have h1:=ni d.t.n h
 have h2:=Ag d
 unfold szS szI at h2
 have j1:∀ s:Ω,s.length≤2000000→iF d s=some (s++(if d.t.n.length>0 then 94 :: mJ d.t.n else [])):=by
  intro s hsl
  unfold iF
  by_cases h0:d.t.n.length>0
  ·rw [iP oM,iP h0,wq _ h oM,bSq,iP xM];rfl
  ·rw [iN oM,iN h0,List.append_nil]
 unfold kh mj BP maxLen
 rw [iP oM]
 by_cases h9:d.t.elem=98
 ·rw [iP h9,iP h9,iP oM,j1 _ lO]
  simp only [List.append_assoc]
 ·rw [iN h9,iN h9,iP oM,j1 _ lO]
  simp only [List.append_assoc]
theorem pM(l:List ax)(h:∀ d∈l,se d):(com (l.map mj)).length+32≤32 * szL ax.sz l:=by
 have h1:=ri (F:=mj) ax.sz l (fun x hx=>uo x (h x hx))
 have h2:=ew ax.sz l
 omega
theorem wN(l:List ax)(h:∀ d∈l,se d)(hs:szL ax.sz l≤1048576):fZ l=some (com (l.map mj)):=by
 have h1:=pM l h
 have h2:=eq ax.sz_pos l
 unfold fZ
 rw [sc l mj (fun i s hi hsl=>by
  have hm:=iZ (f:=ax.sz) (bi hi)
  show dW l s i=_
  unfold dW
  rw [iP (ltI hi),iP (inI hi),tN,yo _ (h _ (bi hi)) oM,bSq,iP (rh oM oM),wrs i oM]
  rfl) (fun s=>by
  show dW l s l.length=_
  unfold dW
  rw [iN (bp _)]),bSq]
 unfold eX
 rw [A6 (by rw [List.length_map];omega) oM]
 rfl
theorem yp(l:List ax)(h:∀ d∈l,se d)(hs:szL ax.sz l≤1048576):mu l=some (40 :: (com (l.map mj)++[41])):=by
 have h1:=pM l h
 have h2:=eq ax.sz_pos l
 have h3:=ew ax.sz l
 unfold mu
 rw [nH l (yj mj) ax.sz [] 400000000 (by simp only [List.length_nil];omega) (fun i x hx=>vV (uo x (h x hx)) i)
  (fun i s hi hz => by
   have hx:=uo _ (h _ (bi hi))
   have hm:=iZ (f:=ax.sz) (bi hi)
   show hU l s i=_
   unfold hU
   rw [iP (ltI hi)]
   have j2:∀ s':Ω,s'.length≤500000000→hQ l i s'=some (.inl (s'++mj (l.getD i default),((i+1:Nat):Int))):=by
    intro s' hs'
    unfold hQ maxLen
    rw [iP (inI hi),tN,A7 _ (h _ (bi hi)) oM,bSq,iP oM,wrs i oM]
   unfold yj
   by_cases h0:0<i
   ·rw [iP oM,iP h0,iP xM,j2 _ lO,List.append_assoc]
   ·rw [iN oM,iN h0,j2 _ oM]
    rfl)
  (fun s => by
   show hU l s l.length=_
   unfold hU
   rw [iN (bp _)])]
 rw [vU,bSq]
 unfold ji maxLen
 rw [List.nil_append,iP oM]
 rfl
def ws(l:List (List an)):Prop:=∀ s∈l,∀ t∈s,yk t
theorem yq{l:List (List an)}(h:ws l):∀ s∈l,(mJ s).length+2≤32 * szL an.sz s:=fun s hs=>by
 have:=ni s (h s hs);omega
theorem tX(l:List (List an))(h:ws l):(com (l.map mJ)).length+32≤32 * szL (szL an.sz) l:=by
 have h1:=ri (F:=mJ) (szL an.sz) l (yq h)
 have h2:=ew (szL an.sz) l
 omega
theorem wO(l:List (List an))(h:ws l)(hs:szL (szL an.sz) l≤1048576):f8 l=some (com (l.map mJ)):=by
 have h1:=tX l h
 have h2:=eq vS l
 unfold f8
 rw [sc l mJ (fun i s hi hsl=>by
  have hm:=iZ (f:=szL an.sz) (bi hi)
  show dX l s i=_
  unfold dX
  rw [iP (ltI hi),iP (inI hi),tN,yl _ (h _ (bi hi)) oM,bSq,iP (rh oM oM),wrs i oM]
  rfl) (fun s=>by
  show dX l s l.length=_
  unfold dX
  rw [iN (bp _)]),bSq]
 unfold eY
 rw [A6 (by rw [List.length_map];omega) oM]
 rfl
def yr:List Int:=[0,4,4,5,5,5,0,0,3,3,2,1,1]
def En:List Ω:=[[],[97,100,100],[115,117,98],[109,117,108],[100,105,118],[109,111,100],[109,105,110],[109,97,120],[108,101,115,115],[101,113],[97,110,100],[111,114],[120,111,114],[110,101,103],[110,111,116]]
def Cx:List Ω:=[[],[43],[45],[42],[47],[37],[],[],[60],[61,61],[97,110,100],[111,114],[120,111,114]]
def Ah:List Ω:=[[109,97,112],[102,111,108,100],[115,99,97,110],[102,105,108,108],[],[119,105,116,104],[115,108,105,99,101],[99,97,116],[112,114,101]]
def rj(k:Int):Ω:=En.getD k.toNat []
def s7(k:Int):Ω:=Cx.getD k.toNat []
def tY(op:Int):Ω:=Ah.getD (op - 7).toNat []
def rkE(x:ab):Int:=if x.op=6 then 0 else if x.op=4 then 6 else if x.op=5 then (if x.k=6∨x.k=7 then 7 else yr.getD x.k.toNat 0) else 7
def paT(r m:Int)(t:Ω):Ω:=if r<m then 40 :: (t++[41]) else t
def atT(T:ab→Ω)(x:ab)(m:Int):Ω:=paT (rkE x) m (T x)
def oJ(l:List (List an)):Ω:=nU (fun _ s=>44 :: 32 :: mJ s) 0 l
def pq(T:ab→Ω)(x:ab):Ω :=
 (if x.op=5 then rj x.k else tY x.op)++(40 :: ((if x.op=7∨x.op=8∨x.op=9 then rj x.k++[44,32] else [])++(com (x.l.map T)++(oJ x.s++[41]))))
def exB(T:ab→Ω)(x:ab):Ω :=
 if x.op=1 then Go.Lib.itoa x.n else if x.op=2 then (if x.n=1 then [116,114,117,101] else [102,97,108,115,101]) else if x.op=3 then x.name
 else if x.op=4 then (if x.k=13 then [45] else [110,111,116,32])++atT T (x.l.getD 0 default) 6
 else if x.op=6 then [105,102,32]++(T (x.l.getD 0 default)++([32,116,104,101,110,32]++(T (x.l.getD 1 default)++([32,101,108,115,101,32]++T (x.l.getD 2 default)))))
 else if x.op=11 then atT T (x.l.getD 0 default) 7++([91]++(T (x.l.getD 1 default)++([32,58,32]++(T (x.l.getD 2 default)++[93]))))
 else if x.op=5∧rkE x<7 then atT T (x.l.getD 0 default) (if rkE x=3 then 4 else rkE x)++([32]++(s7 x.k++([32]++atT T (x.l.getD 1 default) (rkE x+1))))
 else pq T x
def exT:Nat→ab→Ω
 |0=>fun _=>[]
 |n+1=>exB (exT n)
theorem wt(k:Int):(rj k).length≤4:=by
 have:∀ i:Nat,i<15→(En.getD i []).length≤4:=by decide
 unfold rj
 by_cases h:k.toNat<15
 ·exact this _ h
 ·rw [List.getD_eq_getElem?_getD,List.getElem?_eq_none (by simp [En];omega)];simp
theorem wu(k:Int):(s7 k).length≤4:=by
 have:∀ i:Nat,i<13→(Cx.getD i []).length≤4:=by decide
 unfold s7
 by_cases h:k.toNat<13
 ·exact this _ h
 ·rw [List.getD_eq_getElem?_getD,List.getElem?_eq_none (by simp [Cx];omega)];simp
theorem wv(k:Int):(tY k).length≤5:=by
 have:∀ i:Nat,i<9→(Ah.getD i []).length≤5:=by decide
 unfold tY
 by_cases h:(k - 7).toNat<9
 ·exact this _ h
 ·rw [List.getD_eq_getElem?_getD,List.getElem?_eq_none (by simp [Ah];omega)];simp
theorem Ai(r m:Int)(t:Ω):(paT r m t).length≤t.length+2:=by
 unfold paT;split<;>simp
theorem vW{op k n:Int}{name:Ω}{ns nl:Nat}(h:pZ op k n name ns nl):(1≤op∧op≤15)∧(op=4→nl=1∧(k=13∨k=14))∧(op=5→nl=2∧1≤k∧k≤12)∧(op=6∨op=11→nl=3)∧(op=7∨op=8∨op=9→1≤k∧k≤14)∧(op=2→n=0∨n=1)∧(op=5→ns=0):=by
 obtain ⟨h1,h2,h3,h4,h5,h6,h7⟩:=h
 unfold qP at h1 h2 h3 h4
 split at h1
 ·rename_i c;simp only [c,if_true] at h2 h3 h4;omega
 rename_i c1
 split at h1
 ·rename_i c;subst c;simp at h2 h3 h4;omega
 rename_i c2
 split at h1
 ·rename_i c;subst c;simp at h2 h3 h4;omega
 rename_i c3
 split at h1
 ·rename_i c;simp only [c1,c2,c3,c,if_true,if_false] at h2 h3 h4;omega
 rename_i c4
 split at h1
 ·rename_i c;subst c;simp at h2 h3 h4;omega
 rename_i c5
 split at h1
 ·rename_i c;simp only [c1,c2,c3,c4,c5,c,if_true,if_false] at h2 h3 h4;omega
 rename_i c6
 split at h1
 ·rename_i c;subst c;simp at h2 h3 h4;omega
 rename_i c7
 split at h1
 ·rename_i c;subst c;simp at h2 h3 h4;omega
 rename_i c8
 split at h1
 ·rename_i c;simp only [c1,c2,c3,c4,c5,c6,c7,c8,c,if_true,if_false] at h2 h3 h4;omega
 ·exact absurd h1 dM
structure EOk (x:ab):Prop where
 form:pZ x.op x.k x.n x.name x.s.length x.l.length
 num:0≤x.n∧x.n<1000000000000000000
 sizes:ws x.s
 parts:∀ y∈x.l,exF y=0
theorem eok{x:ab}(h:exF x=0):EOk x:=by
 rw [BN] at h
 obtain ⟨h1,h2⟩:=oT h
 obtain ⟨h3,h4⟩:=oT h2
 obtain ⟨h5,h6⟩:=oT h4
 obtain ⟨h7,h8⟩:=oT h6
 refine ⟨?_,?_,fun s hs=>Af (zj h7 s hs),zj h8⟩
 ·split at h1
  ·assumption
  ·omega
 ·split at h5
  ·omega
  ·omega
theorem H6{T:Type}{l:List T}(h:l.length=1):∃ a,l=[a]:=by
 match l,h with
 |[a],_=>exact ⟨a,rfl⟩
theorem H7{T:Type}{l:List T}(h:l.length=2):∃ a b,l=[a,b]:=by
 match l,h with
 |[a,b],_=>exact ⟨a,b,rfl⟩
theorem HH{T:Type}{l:List T}(h:l.length=3):∃ a b c,l=[a,b,c]:=by
 match l,h with
 |[a,b,c],_=>exact ⟨a,b,c,rfl⟩
theorem vm(l:List (List an))(h:ws l):(oJ l).length+32≤32 * szL (szL an.sz) l:=by
 have h1:=nG (fun _ s=>44 :: 32 :: mJ s) (szL an.sz) l 0 (fun i s hs=>by have:=ni s (h s hs);simp only [List.length_cons];omega)
 have h2:=ew (szL an.sz) l
 unfold oJ
 omega
theorem Aj(x:ab):x.sz=x.name.length+szL (szL an.sz) x.s+(ab.szs x.l+1)+5:=by
 have h1:=ab.sz_eq x
 have h2:=ab.szs_eq x.l
 unfold szI szS at h1
 omega
theorem nN:∀ (n:Nat) (x:ab),exF x=0→(exT n x).length+4≤32 * x.sz
 |0,x,_=>by
  have:=ab.sz_pos x
  show 0+4≤_
  omega
 |n+1,x,h=>by
  have ok:=eok h
  obtain ⟨f0,f4,f5,f6,f7,f2,fs⟩:=vW ok.form
  have hz:=Aj x
  have ih:∀ y∈x.l,(exT n y).length+4≤32 * y.sz:=fun y hy=>nN n y (ok.parts y hy)
  have hs:=vm x.s ok.sizes
  have hc:(com (x.l.map (exT n))).length≤32 * ab.szs x.l:=by
   have h1:=ri (F:=exT n) ab.sz x.l (fun y hy=>by have:=ih y hy;omega)
   have h2:=ew ab.sz x.l
   have h3:=ab.szs_eq x.l
   omega
  have at_:∀ y∈x.l,∀ m,(atT (exT n) y m).length+2≤32 * y.sz:=fun y hy m=>by
   have h1:=ih y hy
   have h2:=Ai (rkE y) m (exT n y)
   unfold atT
   omega
  show (exB (exT n) x).length+4≤_
  unfold exB
  split
  ·have:=xe x.n (by have:=ok.num;omega) (by have:=ok.num;omega);omega
  split
  ·split<;>simp only [List.length_cons,List.length_nil]<;>omega
  split
  ·omega
  split
  ·rename_i c
   obtain ⟨a,ha⟩:=H6 (f4 c).1
   have h1:=at_ a (by simp [ha]) 6
   have h2:ab.szs x.l=a.sz:=by rw [ha];simp [ab.szs]
   rw [ha]
   show (_++atT (exT n) a 6).length+4≤_
   split<;>simp only [lA]<;>omega
  split
  ·rename_i c
   obtain ⟨a,b,d,ha⟩:=HH (f6 (Or.inl c))
   have h1:=ih a (by simp [ha])
   have h3:=ih b (by simp [ha])
   have h4:=ih d (by simp [ha])
   have h2:ab.szs x.l=a.sz+(b.sz+d.sz):=by rw [ha];simp [ab.szs]
   rw [ha]
   show ([105,102,32]++(exT n a++([32,116,104,101,110,32]++(exT n b++([32,101,108,115,101,32]++exT n d))))).length+4≤_
   simp only [lA]
   omega
  split
  ·rename_i c
   obtain ⟨a,b,d,ha⟩:=HH (f6 (Or.inr c))
   have h1:=at_ a (by simp [ha]) 7
   have h3:=ih b (by simp [ha])
   have h4:=ih d (by simp [ha])
   have h2:ab.szs x.l=a.sz+(b.sz+d.sz):=by rw [ha];simp [ab.szs]
   rw [ha]
   show (atT (exT n) a 7++([91]++(exT n b++([32,58,32]++(exT n d++[93]))))).length+4≤_
   simp only [lA]
   omega
  split
  ·rename_i c
   obtain ⟨a,b,ha⟩:=H7 (f5 c.1).1
   have h1:=at_ a (by simp [ha]) (if rkE x=3 then 4 else rkE x)
   have h3:=at_ b (by simp [ha]) (rkE x+1)
   have h2:ab.szs x.l=a.sz+b.sz:=by rw [ha];simp [ab.szs]
   have h5:=wu x.k
   have e0:x.l.getD 0 default=a:=by rw [ha];rfl
   have e1:x.l.getD 1 default=b:=by rw [ha];rfl
   rw [e0,e1]
   simp only [lA]
   omega
  ·have h1:=wt x.k
   have h2:=wv x.op
   unfold pq
   split<;>split<;>simp only [lA]<;>omega
theorem Cy(x:ab)(h:x.op=5→1≤x.k∧x.k≤12):nX x=some (rkE x):=by
 unfold nX rkE
 by_cases h6:x.op=6
 ·rw [iP h6,iP h6]
 rw [iN h6,iN h6]
 by_cases h4:x.op=4
 ·rw [iP h4,iP h4]
 rw [iN h4,iN h4]
 by_cases h5:x.op=5
 ·rw [iN (fun k=>k h5),iP h5]
  have:=h h5
  by_cases k6:x.k=6
  ·rw [iP k6,iP (Or.inl k6)]
  rw [iN k6]
  by_cases k7:x.k=7
  ·rw [iP k7,iP (Or.inr k7)]
  rw [iN k7,iP ⟨by omega,by omega⟩,iN oM]
  rfl
 ·rw [iP h5,iN h5]
theorem Eo(x:ab)(h:x.op=5→1≤x.k∧x.k≤12):rL x=some (rkE x):=by
 unfold rL rkE
 by_cases h6:x.op=6
 ·rw [iP h6,iP h6]
 rw [iN h6,iN h6]
 by_cases h4:x.op=4
 ·rw [iP h4,iP h4]
 rw [iN h4,iN h4]
 by_cases h5:x.op=5
 ·have:=h h5
  rw [iP h5,iP h5,iP ⟨by omega,by omega⟩]
  have key:∀ k:Nat,1≤k→k≤12→([7,4,4,5,5,5,7,7,3,3,2,1,1]:List Int).getD k default=if k=6∨k=7 then 7 else yr.getD k 0:=by
   intro k k1 k2
   match k,k1,k2 with
   |1,_,_|2,_,_|3,_,_|4,_,_|5,_,_|6,_,_|7,_,_|8,_,_|9,_,_|10,_,_|11,_,_|12,_,_=>rfl
  show some (([7,4,4,5,5,5,7,7,3,3,2,1,1]:List Int).getD x.k.toNat default)=_
  rw [key x.k.toNat oM oM]
  refine congrArg some ?_
  by_cases k:x.k=6∨x.k=7
  ·rw [iP k,iP oM]
  ·rw [iN k,iN oM]
 ·rw [iN h5,iN h5]
theorem up(x:ab):rkE x≤7∧0≤rkE x:=by
 have key:∀ i:Nat,i<13→yr.getD i 0≤7∧0≤yr.getD i 0:=by decide
 unfold rkE
 split
 ·omega
 split
 ·omega
 split
 ·split
  ·omega
  ·by_cases h:x.k.toNat<13
   ·exact key _ h
   ·rw [List.getD_eq_getElem?_getD,List.getElem?_eq_none (by simp [yr];omega)];simp
 ·omega
theorem uJ{T:Type}[Inhabited T]{l:List T}(h:0<l.length):l.getD 0 default∈l:=bi h
theorem yt(l:List (List an)):∀ i,nU (fun _ s=>44 :: 32 :: mJ s) i l=Go.Lib.joinTail [44,32] (l.map mJ):=by
 induction l with
 |nil=>intro i;rfl
 |cons x l ih=>intro i;rw [nU,ih];simp [Go.Lib.joinTail]
theorem BQ(l:List (List an))(h:0<l.length):oJ l=44 :: 32 :: com (l.map mJ):=by
 cases l with
 |nil=>simp at h
 |cons s l =>
  unfold oJ com
  rw [nU,yt,List.map_cons,Go.Lib.join_cons]
  rfl
theorem yu:∀ (n:Nat) (x:ab),exF x=0→x.sz<n→x.sz≤1048576→dE n x=some (exT n x)
 |0,_,_,h,_=>by omega
 |n+1,x,h,hn,hs=>by
  have ok:=eok h
  obtain ⟨f0,f4,f5,f6,f7,f2,fs⟩:=vW ok.form
  have hz:=Aj x
  have hnum:=ok.num
  have ih:∀ y∈x.l,dE n y=some (exT n y)∧(exT n y).length≤40000000∧y.sz≤ab.szs x.l:=fun y hy=>by
   have h1:=oH hy
   have h2:=nN n y (ok.parts y hy)
   exact ⟨yu n y (ok.parts y hy) oM oM,by omega,h1⟩
  have at_:∀ y∈x.l,∀ m,nY (dE n) y m=some (atT (exT n) y m)∧(atT (exT n) y m).length≤40000002:=fun y hy m=>by
   obtain ⟨i1,i2,i3⟩:=ih y hy
   have hp:=Ai (rkE y) m (exT n y)
   refine ⟨?_,by unfold atT;omega⟩
   unfold nY
   rw [i1,bSq,Cy y (fun c=>((vW (eok (ok.parts y hy)).form).2.2.1 c).2),bSq]
   unfold atT paT
   by_cases c:rkE y<m
   ·rw [iP c,iP c,iP xM];rfl
   ·rw [iN c,iN c]
  have called:x.op=5∨x.op=7∨x.op=8∨x.op=9∨x.op=10∨x.op=12∨x.op=13∨x.op=14∨x.op=15→nA (dE n) x=some (pq (exT n) x):=by
   intro hop
   have hl:=oI x.l
   have hlist:iq (dE n) x.l=some (com (x.l.map (exT n))):=by
    have hc:(com (x.l.map (exT n))).length≤32 * ab.szs x.l:=by
     have h1:=ri (F:=exT n) ab.sz x.l (fun y hy=>by have:=nN n y (ok.parts y hy);omega)
     have h2:=ew ab.sz x.l
     have h3:=ab.szs_eq x.l
     omega
    unfold iq
    rw [sc x.l (exT n) (fun i s hi hsl=>by
     show dY (dE n) x.l s i=_
     unfold dY
     rw [iP (ltI hi),iP (inI hi),tN,(ih _ (bi hi)).1,bSq,iP (rh oM oM),wrs i oM]
     rfl) (fun s=>by
     show dY (dE n) x.l s x.l.length=_
     unfold dY
     rw [iN (bp _)]),bSq]
    unfold eZ
    rw [A6 (by rw [List.length_map];omega) oM]
    rfl
   have hc:(com (x.l.map (exT n))).length≤32 * ab.szs x.l:=by
    have h1:=ri (F:=exT n) ab.sz x.l (fun y hy=>by have:=nN n y (ok.parts y hy);omega)
    have h2:=ew ab.sz x.l
    have h3:=ab.szs_eq x.l
    omega
   have hsz:=vm x.s ok.sizes
   have hcs:=tX x.s ok.sizes
   have ho:ma x.k=if 0≤x.k∧x.k<15 then some (rj x.k) else none:=rfl
   have hol:=wt x.k
   have hcl:=wv x.op
   have j1:∀ s:Ω,s.length≤100000000→s=com (x.l.map (exT n))++oJ x.s→gV x s=some (pq (exT n) x):=by
    intro s hsl hse
    unfold gV pq
    by_cases c5:x.op=5
    ·have:=(f5 c5).2
     rw [iP c5,ho,iP ⟨by omega,by omega⟩,bSq,iP xM,iP c5,iN oM,hse]
     simp
    rw [iN c5,iN c5]
    have j2:∀ z:Ω,z.length≤200000000→gU x z=some (tY x.op++(40 :: (z++[41]))):=by
     intro z hzl
     unfold gU
     rw [wr (n:=x.op - 7) oM oM,iP ⟨by omega,by omega⟩]
     show (if (tY x.op).length+1≤maxLen∧(tY x.op).length+1+z.length≤maxLen∧((tY x.op).length+1)+z.length+1≤maxLen then (some (((tY x.op++([40]:Ω))++z)++([41]:Ω))) else none)=_
     rw [iP xM]
     simp
    have j3:∀ b:Bool,(b=true↔(x.op=7∨x.op=8∨x.op=9))→f9 x s b=some (tY x.op++(40 :: ((if x.op=7∨x.op=8∨x.op=9 then rj x.k++[44,32] else [])++(com (x.l.map (exT n))++(oJ x.s++[41]))))):=by
     intro b hb
     unfold f9
     by_cases c:x.op=7∨x.op=8∨x.op=9
     ·have:=f7 c
      rw [iP (hb.2 c),iP c,ho,iP ⟨by omega,by omega⟩,bSq,iP xM,j2 _ lO,hse]
      simp
     ·rw [iN (fun k=>c (hb.1 k)),iN c,j2 _ oM,hse]
      simp
    by_cases c7:x.op=7
    ·rw [iP c7];exact j3 _ (by simp [c7])
    rw [iN c7]
    by_cases c8:x.op=8
    ·rw [iP c8];exact j3 _ (by simp [c8])
    ·rw [iN c8];exact j3 _ (by rw [beq_iff_eq];omega)
   unfold nA
   rw [hlist,bSq]
   by_cases c:x.s.length>0
   ·rw [iP oM,wO x.s ok.sizes oM,bSq,iP xM]
    exact j1 _ lO (by rw [BQ _ c];rfl)
   ·rw [iN oM]
    have:x.s=[]:=List.length_eq_zero_iff.1 oM
    exact j1 _ oM (by rw [this];exact (List.append_nil _).symm)
  show nC (dE n) x=some (exB (exT n) x)
  unfold nC exB
  rw [Cy x (fun c=>(f5 c).2),bSq]
  by_cases c1:x.op=1
  ·rw [iP c1,iP c1,GH _ oM oM];rfl
  rw [iN c1,iN c1]
  by_cases c2:x.op=2
  ·rw [iP c2,iP c2]
   unfold lN gh
   by_cases c:x.n=1
   ·rw [iP (by simp [c]),iP c];rfl
   ·rw [iN (by simp [c]),iN c];rfl
  rw [iN c2,iN c2]
  by_cases c3:x.op=3
  ·rw [iP c3,iP c3]
  rw [iN c3,iN c3]
  by_cases c4:x.op=4
  ·have hl:=(f4 c4).1
   obtain ⟨a1,a2⟩:=at_ _ (uJ (show 0<x.l.length by omega)) 6
   have hr:rkE x=6:=by unfold rkE;rw [iN oM,iP c4]
   rw [iP c4,iP c4,wr (n:=x.k - 13) oM oM,iP ⟨by omega,by omega⟩,iP ⟨by omega,by omega⟩,hr,a1,bSq]
   rcases (f4 c4).2 with k|k
   ·rw [k]
    show (if 1+(atT (exT n) (x.l.getD 0 default) 6).length≤maxLen then some ([45]++atT (exT n) (x.l.getD 0 default) 6) else none)=_
    rw [iP xM,iP rfl]
   ·rw [k]
    show (if 4+(atT (exT n) (x.l.getD 0 default) 6).length≤maxLen then some ([110,111,116,32]++atT (exT n) (x.l.getD 0 default) 6) else none)=_
    rw [iP xM,iN dM]
  rw [iN c4,iN c4]
  by_cases c6:x.op=6
  ·have hl:=f6 (Or.inl c6)
   obtain ⟨a1,a2,_⟩:=ih _ (uJ (show 0<x.l.length by omega))
   obtain ⟨b1,b2,_⟩:=ih _ (bi (show 1<x.l.length by omega))
   obtain ⟨d1,d2,_⟩:=ih _ (bi (show 2<x.l.length by omega))
   rw [iP c6,iP c6,iP ⟨by omega,by omega⟩,a1,bSq,iP ⟨by unfold maxLen;omega,by unfold maxLen;omega,by omega,by omega⟩,b1,bSq,iP ⟨by unfold maxLen;omega,by unfold maxLen;omega,by omega,by omega⟩,d1,bSq,iP xM]
   simp
  rw [iN c6,iN c6]
  by_cases c11:x.op=11
  ·have hl:=f6 (Or.inr c11)
   obtain ⟨a1,a2⟩:=at_ _ (uJ (show 0<x.l.length by omega)) 7
   obtain ⟨b1,b2,_⟩:=ih _ (bi (show 1<x.l.length by omega))
   obtain ⟨d1,d2,_⟩:=ih _ (bi (show 2<x.l.length by omega))
   have hr:rkE x=7:=by unfold rkE;rw [iN oM,iN oM,iN oM]
   rw [iP c11,iP c11,hr,iP ⟨by omega,by omega⟩,a1,bSq,iP ⟨by unfold maxLen;omega,by omega,by omega⟩,b1,bSq,iP ⟨by unfold maxLen;omega,by unfold maxLen;omega,by omega,by omega⟩,d1,bSq,iP xM]
   simp
  rw [iN c11,iN c11]
  have j1:∀ (hop:x.op=5∨x.op=7∨x.op=8∨x.op=9∨x.op=10∨x.op=12∨x.op=13∨x.op=14∨x.op=15),jm (dE n) x=some (pq (exT n) x):=fun hop=>by
   unfold jm
   rw [called hop];rfl
  by_cases c5:x.op=5
  ·rw [iP c5]
   have hb:=up x
   by_cases c7:rkE x=7
   ·rw [iP c7,iN oM];exact j1 (Or.inl c5)
   ·have hl:=(f5 c5).1
    have hk:=(f5 c5).2
    have hsl:=wu x.k
    have hsg:pC x.k=some (s7 x.k):=by unfold pC;rw [iP ⟨by omega,by omega⟩];rfl
    rw [iN c7,iP (show x.op=5∧rkE x<7 from ⟨c5,by omega⟩)]
    have j2:∀ m,jn (dE n) x (rkE x) m=some (atT (exT n) (x.l.getD 0 default) m++([32]++(s7 x.k++([32]++atT (exT n) (x.l.getD 1 default) (rkE x+1))))):=by
     intro m
     obtain ⟨a1,a2⟩:=at_ _ (uJ (show 0<x.l.length by omega)) m
     obtain ⟨b1,b2⟩:=at_ _ (bi (show 1<x.l.length by omega)) (rkE x+1)
     unfold jn
     rw [iP ⟨by omega,by omega⟩,a1,bSq,iP xM,hsg,bSq,iP ⟨by unfold maxLen;omega,by unfold maxLen;omega,by omega,by omega⟩,wr (n:=rkE x+1) oM oM,b1,bSq,iP xM]
     simp
    by_cases c3':rkE x=3
    ·rw [iP c3',iP c3',wr (n:=rkE x+1) oM oM,j2,c3'];rfl
    ·rw [iN c3',iN c3',j2]
  ·rw [iN c5,iN (fun k=>c5 k.1)]
   exact j1 oM
def BR:List Ω:=[[],[],[],[],[],[],[],[109,97,112],[102,111,108,100],[115,99,97,110],[102,105,108,108],[],[119,105,116,104],[115,108,105,99,101],[99,97,116],[112,114,101]]
theorem Dh(op:Int)(h:op=7∨op=8∨op=9∨op=10∨op=12∨op=13∨op=14∨op=15):BR.getD op.toNat default=tY op:=by
 rcases h with rfl|rfl|rfl|rfl|rfl|rfl|rfl|rfl<;>rfl
theorem A8:∀ (n:Nat) (x:ab) (m:Int),exF x=0→x.sz<n→x.sz≤1048576→bV n x m=some (atT (exT n) x m)
 |0,_,_,_,h,_=>by omega
 |n+1,x,m,h,hn,hs=>by
  have ok:=eok h
  obtain ⟨f0,f4,f5,f6,f7,f2,fs⟩:=vW ok.form
  have hz:=Aj x
  have hnum:=ok.num
  have ih:∀ y∈x.l,∀ m,bV n y m=some (atT (exT n) y m)∧(atT (exT n) y m).length≤40000002∧(atT (exT n) y m).length+2≤32 * y.sz:=fun y hy m=>by
   have h1:=oH hy
   have h2:=nN n y (ok.parts y hy)
   have h3:=Ai (rkE y) m (exT n y)
   refine ⟨A8 n y m (ok.parts y hy) oM oM,?_,?_⟩<;>unfold atT<;>omega
  have at0:∀ y,atT (exT n) y 0=exT n y:=fun y=>by
   have:=up y
   unfold atT paT
   rw [iN oM]
  have j1:∀ s:Ω,s.length≤400000000→cg m (rkE x) s=some (paT (rkE x) m s):=by
   intro s hsl
   unfold cg paT
   by_cases c:rkE x<m
   ·rw [iP c,iP c,iP xM];rfl
   ·rw [iN c,iN c]
  have hl:=oI x.l
  have hsz:=vm x.s ok.sizes
  have hol:=wt x.k
  have hcl:=wv x.op
  have hop:∀ z:Ω,z=rj x.k→True:=fun _ _=>trivial
  have called:∀ s:Ω,s.length≤100→x.op=5∨x.op=7∨x.op=8∨x.op=9∨x.op=10∨x.op=12∨x.op=13∨x.op=14∨x.op=15 →
    fP (bV n) x m (rkE x) s=some (paT (rkE x) m (s++((if x.op=7∨x.op=8∨x.op=9 then rj x.k++[44,32] else [])++(com (x.l.map (exT n))++(oJ x.s++[41]))))):=by
   intro s hsl ho
   have hc:(com (x.l.map (exT n))).length≤32 * ab.szs x.l:=by
    have h1:=ri (F:=exT n) ab.sz x.l (fun y hy=>by have:=nN n y (ok.parts y hy);omega)
    have h2:=ew ab.sz x.l
    have h3:=ab.szs_eq x.l
    omega
   have j8:∀ z:Ω,z.length≤100000000→gK x m (rkE x) z=some (paT (rkE x) m (z++(oJ x.s++[41]))):=by
    intro z hzl
    have h3:=ew (szL an.sz) x.s
    unfold gK
    rw [nH x.s (fun _ s=>44 :: 32 :: mJ s) (szL an.sz) z 200000000 oM (fun i t ht=>by have:=ni t (ok.sizes t ht);simp only [List.length_cons];omega)
     (fun i w hi hw => by
      have ht:=ok.sizes _ (bi hi)
      have h5:=ni _ ht
      have hm:=iZ (f:=szL an.sz) (bi hi)
      show iH x w i=_
      unfold iH
      have hss:=eq vS x.s
      rw [iP (ltI hi),iP (inI hi),tN,wq _ ht oM,bSq,iP xM,wrs i oM]
      rfl)
     (fun w => by
      show iH x w x.s.length=_
      unfold iH
      rw [iN (bp _)]),bSq]
    unfold jT
    show (if (z++oJ x.s).length+1≤maxLen then cg m (rkE x) ((z++oJ x.s)++[41]) else none)=_
    rw [iP (by rw [List.length_append];unfold maxLen;omega),j1 _ lO,List.append_assoc]
   have j7:∀ z:Ω,z.length≤1000→gL (bV n) x m (rkE x) z=some (paT (rkE x) m (z++(com (x.l.map (exT n))++(oJ x.s++[41])))):=by
    intro z hzl
    have h3:=ew ab.sz x.l
    have h4:=ab.szs_eq x.l
    unfold gL
    rw [nH x.l (yj (exT n)) ab.sz z 90000000 oM (fun i y hy=>vV (by have:=nN n y (ok.parts y hy);omega) i)
     (fun i w hi hw => by
      obtain ⟨i1,i2,i3⟩:=ih _ (bi hi) 0
      rw [at0] at i1 i2 i3
      show iI (bV n) x w i=_
      unfold iI
      rw [iP (ltI hi)]
      have j10:∀ w':Ω,w'.length≤90000100→ia (bV n) x i w'=some (.inl (w'++exT n (x.l.getD i default),((i+1:Nat):Int))):=by
       intro w' hw'
       unfold ia
       rw [iP (inI hi),tN,i1,bSq,iP xM,wrs i oM]
      unfold yj
      by_cases h0:0<i
      ·rw [iP oM,iP h0,iP xM,j10 _ lO,List.append_assoc]
      ·rw [iN oM,iN h0,j10 _ oM];rfl)
     (fun w => by
      show iI (bV n) x w x.l.length=_
      unfold iI
      rw [iN (bp _)]),bSq,vU]
    show gK x m (rkE x) (z++com (x.l.map (exT n)))=_
    rw [j8 _ (by rw [List.length_append];omega),List.append_assoc]
   have j11:∀ b:Bool,(b=true↔(x.op=7∨x.op=8∨x.op=9))→gf (bV n) x m (rkE x) s b=some (paT (rkE x) m (s++((if x.op=7∨x.op=8∨x.op=9 then rj x.k++[44,32] else [])++(com (x.l.map (exT n))++(oJ x.s++[41]))))):=by
    intro b hb
    unfold gf
    by_cases c:x.op=7∨x.op=8∨x.op=9
    ·have:=f7 c
     rw [iP (hb.2 c),iP c]
     show (if (0≤x.k∧x.k<(15:Int))∧(rj x.k).length+2≤maxLen∧s.length+(rj x.k).length+2≤maxLen then (gL (bV n) x m (rkE x) (s++(rj x.k++([44,32]:Ω)))) else none)=_
     rw [iP xM,j7 _ lO]
     simp only [List.append_assoc]
    ·rw [iN (fun k=>c (hb.1 k)),iN c,j7 _ oM];rfl
   unfold fP
   by_cases c7:x.op=7
   ·rw [iP c7];exact j11 _ (by simp [c7])
   rw [iN c7]
   by_cases c8:x.op=8
   ·rw [iP c8];exact j11 _ (by simp [c8])
   ·rw [iN c8];exact j11 _ (by rw [beq_iff_eq];omega)
  show mQ (bV n) x m=some (paT (rkE x) m (exB (exT n) x))
  unfold mQ exB
  rw [Eo x (fun c=>(f5 c).2),bSq]
  by_cases c1:x.op=1
  ·have:=xe x.n oM oM
   rw [iP c1,iP c1,GH _ oM oM,bSq,j1 _ oM]
  rw [iN c1,iN c1]
  by_cases c2:x.op=2
  ·rw [iP c2,iP c2]
   unfold iL
   by_cases c:x.n=1
   ·rw [iP (by simp [c]),iP c,j1 _ dM]
   ·rw [iN (by simp [c]),iN c,iP c2,j1 _ dM]
  rw [iN c2,iN c2]
  unfold iL
  rw [iN dM,iN c2]
  by_cases c3:x.op=3
  ·rw [iP c3,iP c3,j1 _ oM]
  rw [iN c3,iN c3]
  by_cases c4:x.op=4
  ·have hl:=(f4 c4).1
   obtain ⟨a1,a2,_⟩:=ih _ (uJ (show 0<x.l.length by omega)) 6
   rw [iP c4,iP c4]
   unfold iK
   by_cases k:x.k=13
   ·rw [iP (by simp [k]),iP k,iP ⟨by omega,by omega⟩,a1,bSq,iP xM,j1 _ lO]
   ·rw [iN (by simp [k]),iN k,iP c4,iP ⟨by omega,by omega⟩,a1,bSq,iP xM,j1 _ lO]
  rw [iN c4,iN c4]
  unfold iK
  rw [iN dM,iN c4]
  by_cases c6:x.op=6
  ·have hl:=f6 (Or.inl c6)
   obtain ⟨a1,a2,_⟩:=ih _ (uJ (show 0<x.l.length by omega)) 0
   obtain ⟨b1,b2,_⟩:=ih _ (bi (show 1<x.l.length by omega)) 0
   obtain ⟨d1,d2,_⟩:=ih _ (bi (show 2<x.l.length by omega)) 0
   rw [at0] at a1 a2 b1 b2 d1 d2
   rw [iP c6,iP c6,iP ⟨by omega,by omega⟩,a1,bSq,iP ⟨by unfold maxLen;omega,by unfold maxLen;omega,by omega,by omega⟩,b1,bSq,iP ⟨by unfold maxLen;omega,by unfold maxLen;omega,by omega,by omega⟩,d1,bSq,iP xM,j1 _ lO]
   simp only [List.append_assoc]
  rw [iN c6,iN c6]
  by_cases c11:x.op=11
  ·have hl:=f6 (Or.inr c11)
   obtain ⟨a1,a2,_⟩:=ih _ (uJ (show 0<x.l.length by omega)) 7
   obtain ⟨b1,b2,_⟩:=ih _ (bi (show 1<x.l.length by omega)) 0
   obtain ⟨d1,d2,_⟩:=ih _ (bi (show 2<x.l.length by omega)) 0
   rw [at0] at b1 b2 d1 d2
   rw [iP c11,iP c11,iP ⟨by omega,by omega⟩,a1,bSq,iP ⟨by unfold maxLen;omega,by omega,by omega⟩,b1,bSq,iP ⟨by unfold maxLen;omega,by unfold maxLen;omega,by omega,by omega⟩,d1,bSq,iP xM,j1 _ lO]
   simp only [List.append_assoc]
  rw [iN c11,iN c11]
  have hb:=up x
  have j4:∀ b:Bool,(b=true↔(x.op=5∧rkE x<7))→iJ (bV n) x m (rkE x) b=some (paT (rkE x) m (if x.op=5∧rkE x<7 then atT (exT n) (x.l.getD 0 default) (if rkE x=3 then 4 else rkE x)++([32]++(s7 x.k++([32]++atT (exT n) (x.l.getD 1 default) (rkE x+1)))) else pq (exT n) x)):=by
   intro b hbb
   unfold iJ
   by_cases c:x.op=5∧rkE x<7
   ·have hl:=(f5 c.1).1
    have hk:=(f5 c.1).2
    have hsl:=wu x.k
    rw [iP (hbb.2 c),iP c]
    have j5:∀ m',iG (bV n) x m (rkE x) m'=some (paT (rkE x) m (atT (exT n) (x.l.getD 0 default) m'++([32]++(s7 x.k++([32]++atT (exT n) (x.l.getD 1 default) (rkE x+1)))))):=by
     intro m'
     obtain ⟨a1,a2,_⟩:=ih _ (uJ (show 0<x.l.length by omega)) m'
     obtain ⟨b1,b2,_⟩:=ih _ (bi (show 1<x.l.length by omega)) (rkE x+1)
     unfold iG
     rw [iP ⟨by omega,by omega⟩,a1,bSq]
     show (if (atT (exT n) (x.l.getD 0 default) m').length+1≤maxLen∧(0≤x.k∧x.k<(13:Int))∧(atT (exT n) (x.l.getD 0 default) m').length+1+(s7 x.k).length≤maxLen∧((atT (exT n) (x.l.getD 0 default) m').length+1)+(s7 x.k).length+1≤maxLen∧(0≤(1:Nat)∧1<(x.l.length:Int)) then ((bV n (x.l.getD 1 default) (IntKind.wrap .i64 (rkE x+1))).bind fun y17=>if (((atT (exT n) (x.l.getD 0 default) m').length+1)+(s7 x.k).length)+1+y17.length≤maxLen then (cg m (rkE x) (((((atT (exT n) (x.l.getD 0 default) m')++([32]:Ω))++(s7 x.k))++([32]:Ω))++y17)) else none) else none)=_
     rw [iP xM,wr (n:=rkE x+1) oM oM,b1,bSq,iP xM,j1 _ lO]
     simp only [List.append_assoc]
    by_cases c3':rkE x=3
    ·rw [iP c3',iP c3',j5]
    ·rw [iN c3',iN c3',j5]
   ·rw [iN (fun k=>c (hbb.1 k)),iN c]
    by_cases c5:x.op=5
    ·have hk:=(f5 c5).2
     rw [iP ⟨⟨by omega,by omega⟩,by rw [c5];decide⟩,iP c5]
     show (if (0≤x.k∧x.k<(15:Int))∧(rj x.k).length+1≤maxLen then (fP (bV n) x m (rkE x) (rj x.k++([40]:Ω))) else none)=_
     rw [iP xM,called _ lO (Or.inl c5)]
     unfold pq
     rw [iP c5]
     simp only [List.append_assoc,List.cons_append,List.nil_append]
    ·have ho:x.op=7∨x.op=8∨x.op=9∨x.op=10∨x.op=12∨x.op=13∨x.op=14∨x.op=15:=by omega
     show (if (0≤x.op∧x.op<(16:Int))∧(BR.getD x.op.toNat default).length+1≤maxLen then (if x.op=5 then _ else (fP (bV n) x m (rkE x) (BR.getD x.op.toNat default++([40]:Ω)))) else none)=_
     rw [Dh _ ho,iP xM,iN c5,called _ lO (Or.inr ho)]
     unfold pq
     rw [iN c5]
     simp only [List.append_assoc,List.cons_append,List.nil_append]
  by_cases c5:x.op=5
  ·rw [iP c5];exact j4 _ (by rw [decide_eq_true_eq];exact ⟨fun k=>⟨c5,k⟩,fun k=>k.2⟩)
  ·rw [iN c5];exact j4 _ (by simp [c5])
theorem Ep{q:TEq}(h:eqF q=0):(q.node=[]→q.names.length=1∧q.e.length=1∧q.s.length=0)∧ws q.s∧∀ y∈q.e,exF y=0:=by
 obtain ⟨h1,h2⟩:=oT h
 obtain ⟨h3,h4⟩:=oT h2
 obtain ⟨h5,h6⟩:=oT h4
 obtain ⟨h7,h8⟩:=oT h6
 obtain ⟨h9,h10⟩:=oT h8
 refine ⟨fun c=>?_,fun s hs=>Af (zj h9 s hs),fun y hy=>(oT (zj h10 y hy)).2⟩
 split at h1
 ·omega
 ·rename_i k
  by_cases g:q.names.length=1∧q.e.length=1∧q.s.length=0
  ·exact g
  ·exact absurd (Or.inr ⟨c,g⟩) k
def eqT(n:Nat)(q:TEq):Ω :=
 com q.names++([32,61,32]++(if q.node=[] then exT n (q.e.getD 0 default) else [99,97,108,108,32]++(q.node++((if q.s.length>0 then 60 :: (com (q.s.map mJ)++[62]) else [])++(40 :: (com (q.e.map (exT n))++[41]))))))
theorem Er(q:TEq):q.sz=1+szL szS q.names+(q.node.length+1)+szL (szL an.sz) q.s+szL ab.sz q.e+1:=by unfold TEq.sz szI;rw [show szS q.node=q.node.length+1 from rfl]
theorem yv(n:Nat)(l:List ab)(h:∀ y∈l,exF y=0):(com (l.map (exT n))).length+32≤32 * szL ab.sz l:=by
 have h1:=ri (F:=exT n) ab.sz l (fun y hy=>by have:=nN n y (h y hy);omega)
 have h2:=ew ab.sz l
 omega
theorem Ak(n:Nat)(q:TEq)(h:eqF q=0):(eqT n q).length+32≤32 * q.sz:=by
 obtain ⟨h1,h2,h3⟩:=Ep h
 have hz:=Er q
 have k1:=qK q.names
 have k2:=tX q.s h2
 have k3:=yv n q.e h3
 unfold eqT
 split
 ·rename_i c
  have hl:=(h1 c).2.1
  have hm:q.e.getD 0 default∈q.e:=bi oM
  have k4:=nN n _ (h3 _ hm)
  have k5:=iZ (f:=ab.sz) hm
  simp only [lA]
  omega
 ·split<;>simp only [lA]<;>omega
theorem Es(n:Nat)(hn:1048576<n)(q:TEq)(h:eqF q=0)(hs:q.sz≤1048576):rJ n q=some (eqT n q):=by
 obtain ⟨h1,h2,h3⟩:=Ep h
 have hz:=Er q
 have k1:=qK q.names
 have k2:=tX q.s h2
 have k3:=yv n q.e h3
 have hee:∀ y∈q.e,qZ n y=some (exT n y)∧(exT n y).length≤40000000:=fun y hy=>by
  have k5:=iZ (f:=ab.sz) hy
  have k6:=nN n y (h3 y hy)
  exact ⟨yu n y (h3 y hy) oM oM,by omega⟩
 have hll:=eq ab.sz_pos q.e
 have hlist:gu n q.e=some (com (q.e.map (exT n))):=by
  unfold gu
  rw [sc q.e (exT n) (fun i s hi hsl=>by
   show dr n q.e s i=_
   unfold dr
   rw [iP (ltI hi),iP (inI hi),tN,(hee _ (bi hi)).1,bSq,iP (rh oM oM),wrs i oM]
   rfl) (fun s=>by
   show dr n q.e s q.e.length=_
   unfold dr
   rw [iN (bp _)]),bSq]
  unfold eg
  rw [A6 (by rw [List.length_map];omega) oM]
  rfl
 have j1:∀ s:Ω,s.length≤200000000→lP n q s=some (s++(40 :: (com (q.e.map (exT n))++[41]))):=by
  intro s hsl
  unfold lP
  rw [iP xM,hlist,bSq,iP xM]
  simp only [List.append_assoc,List.cons_append,List.nil_append]
 unfold rJ eqT
 rw [Em _ oM,bSq,iP xM]
 by_cases c:q.node=[]
 ·have hl:=(h1 c).2.1
  obtain ⟨e1,e2⟩:=hee _ (uJ (show 0<q.e.length by omega))
  rw [iP c,iP c,iP ⟨by omega,by omega⟩,e1,bSq,iP xM,List.append_assoc]
 ·rw [iN c,iN c,iP xM]
  by_cases g:q.s.length>0
  ·rw [iP oM,iP g,wO q.s h2 oM,bSq,iP xM,j1 _ lO]
   simp only [List.append_assoc,List.cons_append,List.nil_append]
  ·rw [iN oM,iN g,j1 _ lO]
   simp only [List.append_assoc,List.cons_append,List.nil_append]
theorem Fk(n:Nat)(hn:1048576<n)(q:TEq)(h:eqF q=0)(hs:q.sz≤1048576):o9 n q=some (eqT n q):=by
 obtain ⟨h1,h2,h3⟩:=Ep h
 have hz:=Er q
 have k1:=qK q.names
 have k2:=tX q.s h2
 have k3:=yv n q.e h3
 have at0:∀ y,atT (exT n) y 0=exT n y:=fun y=>by
  have:=up y
  unfold atT paT
  rw [iN oM]
 have hee:∀ y∈q.e,qd n y 0=some (exT n y)∧(exT n y).length≤40000000:=fun y hy=>by
  have k5:=iZ (f:=ab.sz) hy
  have k6:=nN n y (h3 y hy)
  refine ⟨?_,by omega⟩
  have:=A8 n y 0 (h3 y hy) oM oM
  rw [at0] at this
  exact this
 have hll:=eq ab.sz_pos q.e
 have hsl:=eq vS q.s
 have hse:=ew ab.sz q.e
 have hss:=ew (szL an.sz) q.s
 have map_len:∀ {T:Type} (F:T→Ω) (w:T→Nat) (l:List T),(∀ x∈l,(F x).length+2≤32 * w x)→l.length≤1048576→vT w l≤1048576→gj (l.map F)=some (com (l.map F)):=by
  intro T F w l hw hl1 hl2
  have hsum:∀ l:List T,(∀ x∈l,(F x).length+2≤32 * w x)→vT (fun x:Ω=>x.length / 32+2) (l.map F)≤vT w l+2 * l.length:=by
   intro l
   induction l with
   |nil=>intro _;exact Nat.le_refl _
   |cons x l ih =>
    intro h
    have i1:=ih (fun y hy=>h y (by simp [hy]))
    have i2:=h x (by simp)
    simp only [List.map_cons,vT,List.length_cons]
    omega
  have:=hsum l hw
  exact yn (l.map F) (fun x=>x.length / 32+2) (fun x hx=>by omega) (by rw [List.length_map];omega) oM
 have j1:∀ s:Ω,s.length≤200000000→kA n q s=some (s++(40 :: (com (q.e.map (exT n))++[41]))):=by
  intro s hsl
  unfold kA
  rw [sc q.e (exT n) (fun i s hi hsl=>by
   show kz n q s i=_
   unfold kz
   rw [iP (ltI hi),iP (inI hi),tN,(hee _ (bi hi)).1,bSq,iP (rh oM oM),wrs i oM]
   rfl) (fun s=>by
   show kz n q s q.e.length=_
   unfold kz
   rw [iN (bp _)]),bSq]
  unfold mw
  rw [iP xM,map_len (exT n) ab.sz q.e (fun y hy=>by have:=nN n y (h3 y hy);omega) oM oM,bSq,iP xM]
  simp only [List.append_assoc,List.cons_append,List.nil_append]
 unfold o9 eqT
 rw [zk _ oM,bSq,iP xM]
 by_cases c:q.node=[]
 ·have hl:=(h1 c).2.1
  obtain ⟨e1,e2⟩:=hee _ (uJ (show 0<q.e.length by omega))
  rw [iP c,iP c,iP ⟨by omega,by omega⟩,e1,bSq,iP xM,List.append_assoc]
 ·rw [iN c,iN c,iP xM]
  by_cases g:q.s.length>0
  ·rw [iP oM,iP g,sc q.s mJ (fun i s hi hsl=>by
    have hm:=iZ (f:=szL an.sz) (bi hi)
    show kB q s i=_
    unfold kB
    rw [iP (ltI hi),iP (inI hi),tN,wq _ (h2 _ (bi hi)) oM,bSq,iP (rh oM oM),wrs i oM]
    rfl) (fun s=>by
    show kB q s q.s.length=_
    unfold kB
    rw [iN (bp _)]),bSq]
   unfold my
   rw [map_len mJ (szL an.sz) q.s (yq h2) oM oM,bSq,iP xM,j1 _ lO]
   simp only [List.append_assoc,List.cons_append,List.nil_append]
  ·rw [iN oM,iN g,j1 _ lO]
   simp only [List.append_assoc,List.cons_append,List.nil_append]
theorem Al{x:aK}(h:p9 x=0):(∀ d∈x.in_,se d)∧(∀ d∈x.out_,se d)∧(∀ d∈x.local_,se d):=by
 obtain ⟨_,h1⟩:=oT h
 obtain ⟨_,h2⟩:=oT h1
 obtain ⟨_,h3⟩:=oT h2
 obtain ⟨_,h4⟩:=oT h3
 obtain ⟨h5,h6⟩:=oT h4
 obtain ⟨h7,h8⟩:=oT h6
 exact ⟨ym h5,ym h7,ym h8⟩
def yw(x:aK):Prop:=p9 x=0∧∀ q∈x.eqs,eqF q=0
theorem Et{f:ap}{a e:Int}(h:(wf f a e).code=0):f.code=0∧e=0:=(Fe f a e).1 h
theorem Eu:∀ (l:List TEq) (b:Int) (f:ap),(nT b l f).code=0→f.code=0∧∀ q∈l,eqF q=0
 |[],_,f,h=>⟨h,fun q hq=>by simp at hq⟩
 |q :: l,b,f,h=>by
  obtain ⟨h1,h2⟩:=Eu l _ _ h
  obtain ⟨h3,h4⟩:=Et h1
  refine ⟨h3,fun q' hq=>?_⟩
  rcases List.mem_cons.1 hq with rfl|hq
  ·exact h4
  ·exact h2 _ hq
theorem A9:∀ (l:List aK) (b i:Int) (f:ap),(mZ b i l f).code=0→f.code=0∧∀ x∈l,yw x
 |[],_,_,f,h=>⟨h,fun q hq=>by simp at hq⟩
 |x :: l,b,i,f,h=>by
  obtain ⟨h1,h2⟩:=A9 l _ _ _ h
  obtain ⟨h3,h4⟩:=Eu _ _ _ h1
  obtain ⟨h5,h6⟩:=Et h3
  refine ⟨h5,fun x' hx=>?_⟩
  rcases List.mem_cons.1 hx with rfl|hx
  ·exact ⟨h6,h4⟩
  ·exact h2 _ hx
theorem vX{p:aB}(h:(m0 p).code=0):∀ x∈p.nodes,yw x:=(A9 _ _ _ _ h).2
def ww(_:Nat)(d:ax):Ω:=[9,118,97,114,32]++(mj d++[59,10])
def tc(n _:Nat)(q:TEq):Ω:=9 :: (eqT n q++[59,10])
def sg(n:Nat)(x:aK):Ω :=
 [110, 111, 100, 101, 32] ++ (x.name ++ ((if x.sizes.length > 0 then 60 :: (com x.sizes ++ [62]) else []) ++ (40 :: (com (x.in_.map mj) ++ ([41, 32, 45, 62, 32, 40] ++ (com (x.out_.map mj) ++ ([41, 32, 123, 10] ++
  (nU ww 0 x.local_++(nU (tc n) 0 x.eqs++[125,10])))))))))
theorem vn(d:ax)(h:se d):(mj d).length+32≤32 * d.sz:=by
 have h1:=ni d.t.n h
 have h2:=Ag d
 unfold szS szI at h2
 unfold mj BP
 split<;>split<;>simp only [lA]<;>omega
theorem xf(x:aK):x.sz=(x.name.length+1)+1+szL szS x.sizes+szL ax.sz x.in_+szL ax.sz x.out_+szL ax.sz x.local_+szL TEq.sz x.eqs+1:=by unfold aK.sz szI;rw [show szS x.name=x.name.length+1 from rfl]
theorem tZ{l:List ax}(h:∀ d∈l,se d):∀ i,∀ d∈l,(ww i d).length≤32 * d.sz:=fun i d hd=>by
 have:=vn d (h d hd)
 unfold ww
 simp only [lA];omega
theorem sh(n:Nat){l:List TEq}(h:∀ q∈l,eqF q=0):∀ i,∀ q∈l,(tc n i q).length≤32 * q.sz:=fun i q hq=>by
 have:=Ak n q (h q hq)
 unfold tc
 simp only [lA];omega
theorem zl(n:Nat)(x:aK)(h:yw x):(sg n x).length+32≤32 * x.sz:=by
 obtain ⟨h1,h2⟩:=h
 obtain ⟨d1,d2,d3⟩:=Al h1
 have hz:=xf x
 have k1:=qK x.sizes
 have k2:=pM x.in_ d1
 have k3:=pM x.out_ d2
 have k4:=nG ww ax.sz x.local_ 0 (tZ d3)
 have k5:=nG (tc n) TEq.sz x.eqs 0 (sh n h2)
 have s4:=ew ax.sz x.local_
 have s5:=ew TEq.sz x.eqs
 unfold sg
 split<;>simp only [lA]<;>omega
theorem BS(n:Nat)(hn:1048576<n)(x:aK)(h:yw x)(hs:x.sz≤1048576):ka n x=some (sg n x):=by
 obtain ⟨h1,h2⟩:=h
 obtain ⟨d1,d2,d3⟩:=Al h1
 have hz:=xf x
 have k1:=qK x.sizes
 have k2:=pM x.in_ d1
 have k3:=pM x.out_ d2
 have k4:=nG ww ax.sz x.local_ 0 (tZ d3)
 have k5:=nG (tc n) TEq.sz x.eqs 0 (sh n h2)
 have s4:=ew ax.sz x.local_
 have s5:=ew TEq.sz x.eqs
 have n4:=eq ax.sz_pos x.local_
 have n5:=eq TEq.sz_pos x.eqs
 have j2:∀ s:Ω,s.length≤200000000→jp n x s=some (s++(nU (tc n) 0 x.eqs++[125,10])):=by
  intro s hsl
  unfold jp
  rw [nH x.eqs (tc n) TEq.sz s 400000000 oM (sh n h2) (fun i w hi hw=>by
   have hm:=iZ (f:=TEq.sz) (bi hi)
   have hq:=h2 _ (bi hi)
   have hl:=Ak n _ hq
   show jo n x w i=_
   unfold jo
   rw [iP (ltI hi),iP (inI hi),tN,Es n hn _ hq oM,bSq,iP xM,wrs i oM]
   rfl) (fun w=>by
   show jo n x w x.eqs.length=_
   unfold jo
   rw [iN (bp _)]),bSq]
  unfold kQ
  rw [iP (by rw [List.length_append];unfold maxLen;omega),List.append_assoc]
 have j1:∀ s:Ω,s.length≤40000000→jr n x s=some (s++(40 :: (com (x.in_.map mj)++([41,32,45,62,32,40]++(com (x.out_.map mj)++([41,32,123,10]++(nU ww 0 x.local_++(nU (tc n) 0 x.eqs++[125,10])))))))):=by
  intro s hsl
  unfold jr
  rw [wN _ d1 oM,bSq,iP xM,wN _ d2 oM,bSq,iP xM]
  rw [nH x.local_ ww ax.sz _ 400000000 lO (tZ d3) (fun i w hi hw=>by
   have hm:=iZ (f:=ax.sz) (bi hi)
   have hq:=d3 _ (bi hi)
   have hl:=vn _ hq
   have hde:mO (ax.mk (x.local_.getD i default).name (x.local_.getD i default).t)=some (mj (x.local_.getD i default)):=yo (x.local_.getD i default) hq oM
   show jq x w i=_
   unfold jq
   rw [iP (ltI hi),iP (inI hi),tN,hde,bSq]
   rw [iP xM,wrs i oM]
   unfold ww
   simp only [List.append_assoc]) (fun w=>by
   show jq x w x.local_.length=_
   unfold jq
   rw [iN (bp _)]),bSq]
  rw [j2 _ lO]
  simp only [List.append_assoc,List.cons_append,List.nil_append]
 unfold ka sg
 rw [iP xM]
 by_cases c:x.sizes.length>0
 ·rw [iP oM,iP c,Em _ oM,bSq,iP xM,j1 _ lO]
  simp only [List.append_assoc,List.cons_append,List.nil_append]
 ·rw [iN oM,iN c,j1 _ lO]
  simp only [List.append_assoc,List.cons_append,List.nil_append]
def pU(n:Nat)(p:aB):Ω:=nU (fun _ x=>sg n x) 0 p.nodes
theorem Ev{T:Type}(F:T→Ω)(l:List T):∀ i,Go.Lib.join (l.map F) []=nU (fun _ x=>F x) i l:=by
 induction l with
 |nil=>intro i;rfl
 |cons x l ih =>
  intro i
  rw [nU,← ih (i+1),List.map_cons,Go.Lib.join_cons]
  cases l with
  |nil=>rfl
  |cons y l=>rw [List.map_cons,Go.Lib.join_cons];simp [Go.Lib.joinTail]
theorem BT(n:Nat)(p:aB)(h:∀ x∈p.nodes,yw x):(pU n p).length≤32 * p.sz:=by
 have h1:=nG (fun _ x=>sg n x) aK.sz p.nodes 0 (fun i x hx=>by have:=zl n x (h x hx);omega)
 have h2:=ew aK.sz p.nodes
 have h3:p.sz=szL aK.sz p.nodes+1:=by unfold aB.sz;omega
 unfold pU
 omega
theorem Ba(n:Nat)(hn:1048576<n)(p:aB)(h:∀ x∈p.nodes,yw x)(hs:p.sz≤1048576):m5 n p=some (pU n p):=by
 have h1:=BT n p h
 have h3:p.sz=szL aK.sz p.nodes+1:=by unfold aB.sz;omega
 have h4:=eq aK.sz_pos p.nodes
 have hm:List.mapM (ka n) p.nodes=some (p.nodes.map (sg n)):=by
  have:∀ l:List aK,(∀ x∈l,ka n x=some (sg n x))→List.mapM (ka n) l=some (l.map (sg n)):=by
   intro l
   induction l with
   |nil=>intro _;rfl
   |cons x l ih =>
    intro hx
    rw [List.mapM_cons,hx x (by simp),ih (fun y hy=>hx y (by simp [hy]))]
    rfl
  refine this _ (fun x hx=>?_)
  have:=iZ (f:=aK.sz) hx
  exact BS n hn x (h x hx) oM
 unfold m5
 rw [hm,bSq,Ev (sg n) p.nodes 0]
 show (if p.nodes.length≤1048576∧(pU n p).length≤140737488355328 then some (pU n p) else none)=_
 rw [iP oM]
theorem zm(n:Nat)(hn:1048576<n)(p:aB)(h:∀ x∈p.nodes,yw x)(hs:p.sz≤1048576):rM n p=some (pU n p):=by
 have hp3:p.sz=szL aK.sz p.nodes+1:=by unfold aB.sz;omega
 have hp4:=eq aK.sz_pos p.nodes
 have hp5:=ew aK.sz p.nodes
 unfold rM
 rw [nH p.nodes (fun _ x=>sg n x) aK.sz [] 40000000 (by simp only [List.length_nil];omega) (fun i x hx=>by have:=zl n x (h x hx);omega)
  (fun i s hi hsM => by
   have hg:=h _ (bi hi)
   have hm:=iZ (f:=aK.sz) (bi hi)
   show mU n p s i=_
   unfold mU
   rw [iP (ltI hi),iP (inI hi),tN]
   have j3:∀ z:Ω,z.length≤100000000→mT n p i z=some (.inl (z++(40 :: (com ((p.nodes.getD i default).in_.map mj)++([41,32,45,62,32,40]++(com ((p.nodes.getD i default).out_.map mj)++([41,32,123,10]++(nU ww 0 (p.nodes.getD i default).local_++(nU (tc n) 0 (p.nodes.getD i default).eqs++[125,10]))))))),((i+1:Nat):Int))):=by
    intro z hzl
    unfold mT
    rw [tN]
    have hl2:∀ w j,lG n p i w j=if j<((p.nodes.getD i default).eqs.length:Int) then (if (0≤j∧j<((p.nodes.getD i default).eqs.length:Int)) then ((o9 n ((p.nodes.getD i default).eqs.getD j.toNat default)).bind fun y20=>if 1+y20.length≤maxLen∧1+y20.length+2≤maxLen∧w.length+(1+y20.length)+2≤maxLen then (some (.inl ((w++((([9]:Ω)++y20)++([59,10]:Ω))),(IntKind.wrap .i64 (j+1))))) else none) else none) else (some (.inr w)):=fun w j=>by
     unfold lG;rw [tN]
    have hl3:∀ w j,mS p i w j=if j<((p.nodes.getD i default).local_.length:Int) then (if (0≤j∧j<((p.nodes.getD i default).local_.length:Int)) then ((kh (ax.mk (((p.nodes.getD i default).local_.getD j.toNat default).name) (((p.nodes.getD i default).local_.getD j.toNat default).t))).bind fun y28=>if 5+y28.length≤maxLen∧5+y28.length+2≤maxLen∧w.length+(5+y28.length)+2≤maxLen then (some (.inl ((w++((([9,118,97,114,32]:Ω)++y28)++([59,10]:Ω))),(IntKind.wrap .i64 (j+1))))) else none) else none) else (some (.inr w)):=fun w j=>by
     unfold mS;rw [tN]
    have hj4:∀ w,nZ n p i w=(bD (fun x:Ω×Int=>lG n p i x.1 x.2) (w,0)).bind (fun z21=>mR i z21):=fun w=>rfl
    generalize p.nodes.getD i default=x at hg hm hsM hl2 hl3 ⊢
    obtain ⟨h1,h2⟩:=hg
    obtain ⟨d1,d2,d3⟩:=Al h1
    have hz:=xf x
    have k2:=pM x.in_ d1
    have k3:=pM x.out_ d2
    have k4:=nG ww ax.sz x.local_ 0 (tZ d3)
    have k5:=nG (tc n) TEq.sz x.eqs 0 (sh n h2)
    have s4:=ew ax.sz x.local_
    have s5:=ew TEq.sz x.eqs
    have n4:=eq ax.sz_pos x.local_
    have n5:=eq TEq.sz_pos x.eqs
    rw [yp _ d1 oM,bSq,iP (by simp only [lA];unfold maxLen;omega),yp _ d2 oM,bSq,iP (by simp only [lA];unfold maxLen;omega)]
    rw [nH x.local_ ww ax.sz _ 400000000 lO (tZ d3) (fun j w hj hw=>by
     have hm:=iZ (f:=ax.sz) (bi hj)
     have hq:=d3 _ (bi hj)
     have hl:=vn _ hq
     have hde:kh (ax.mk (x.local_.getD j default).name (x.local_.getD j default).t)=some (mj (x.local_.getD j default)):=A7 (x.local_.getD j default) hq oM
     show mS p i w j=_
     rw [hl3,iP (ltI hj),iP (inI hj),tN,hde,bSq]
     rw [iP xM,wrs j oM]
     unfold ww
     simp only [List.append_assoc]) (fun w=>by
     show mS p i w x.local_.length=_
     rw [hl3,iN (bp _)]),bSq,hj4]
    rw [nH x.eqs (tc n) TEq.sz _ 800000000 lO (sh n h2) (fun j w hj hw=>by
     have hm:=iZ (f:=TEq.sz) (bi hj)
     have hq:=h2 _ (bi hj)
     have hl:=Ak n _ hq
     show lG n p i w j=_
     rw [hl2,iP (ltI hj),iP (inI hj),tN,Fk n hn _ hq oM,bSq,iP xM,wrs j oM]
     rfl) (fun w=>by
     show lG n p i w x.eqs.length=_
     rw [hl2,iN (bp _)]),bSq]
    unfold mR pF
    rw [iP (by simp only [lA];unfold maxLen;omega),wrs i oM]
    simp only [List.append_assoc,List.cons_append,List.nil_append]
   have hz:=xf (p.nodes.getD i default)
   have k1:=qK (p.nodes.getD i default).sizes
   rw [iP xM]
   unfold sg
   by_cases c:(p.nodes.getD i default).sizes.length>0
   ·rw [iP oM,iP c,zk _ oM,bSq,iP xM,j3 _ lO]
    simp only [List.append_assoc,List.cons_append,List.nil_append]
   ·rw [iN oM,iN c,j3 _ lO]
    simp only [List.append_assoc,List.cons_append,List.nil_append])
  (fun s => by
   show mU n p s p.nodes.length=_
   unfold mU
   rw [iN (bp _)])]
 rfl
def Fl(l:List Ω)(x:Ω):Int:=match AQ (T:=Unit) l.length (fun i=>if x=l.getD i default then some (i:Int) else none) () with|.inl _=>-1|.inr z=>z
theorem lD(l:List Ω)(x:Ω)(h:l.length≤9000000):cV l x=some (Fl l x):=by
 unfold cV
 rw [ql l.length (fun i=>if x=l.getD i default then some (i:Int) else none) () (fun i hi=>by
  unfold d7
  rw [iP (ltI hi),iP (inI hi),tN]
  by_cases e:x=l.getD i default
  ·rw [iP e,iP e]
  ·rw [iN e,iN e,wrs i oM]) (by unfold d7;rw [iN (bp _)])]
 simp only [bSq]
 unfold Fl dh
 split<;>rename_i h2<;>rw [h2]<;>rfl
theorem Bb(l:List Ω)(x:Ω)(h:l.length≤9000000):d8 l x=some (decide (Fl l x≥0)):=by
 unfold d8;rw [lD l x h];rfl
def isB(l:List Ω):List af→Bool
 |t :: _=>decide (¬ t.kind=2) && decide (Fl l t.text≥0)
 |[]=>false
theorem HI(l:List Ω)(p:ae)(h:l.length≤9000000):aP l p=some (isB l p.l):=by
 unfold aP
 cases hl:p.l with
 |nil=>rfl
 |cons t r =>
  rw [iP (by simp),iP (by simp),Bb _ _ h]
  simp only [List.getD_cons_zero,isB]
  by_cases hk:t.kind=2
  ·rw [iN (fun x=>x hk)];simp [hk]
  ·rw [iP hk];simp [hk]
theorem sP(t:af)(r:List af)(a b c:Int):aZ (ae.mk (t :: r) a b c)=some (t,r):=by
 unfold aZ
 rw [iP (by simp),iP (by simp;omega)]
 rfl
theorem pN{S O:Type}(body:S→Option (S ⊕ O))(s:S):bD body s=(body s).bind (Sum.elim (bD body) some):=by
 rw [dZ];cases body s with
 |none=>rfl
 |some x=>cases x<;>rfl
theorem qL(l:List Ω)(a:List af)(b c d:Int)(h:l.length≤9000000):aP l (ae.mk a b c d)=some (isB l a):=HI l _ h
def wx:Ω:=[110,111,100,101,32,97,40,41,32,45,62,32,40,121,58,32,105,110,116,94,50,41,32,123,32,121,32,61,32,102,105,108,108,40,45,40,49,32,43,32,50,41,44,32,50,41,59,32,125]
def BU:List af:=[af.mk 1 0 [110,111,100,101] 0,af.mk 2 5 [97] 0,af.mk 4 6 [40] 0,af.mk 4 7 [41] 0,af.mk 4 9 [45,62] 0,af.mk 4 12 [40] 0,af.mk 2 13 [121] 0,af.mk 4 14 [58] 0,af.mk 1 16 [105,110,116] 0,af.mk 4 19 [94] 0,af.mk 3 20 [50] 2,af.mk 4 21 [41] 0,af.mk 4 23 [123] 0,af.mk 2 25 [121] 0,af.mk 4 27 [61] 0,af.mk 1 29 [102,105,108,108] 0,af.mk 4 33 [40] 0,af.mk 4 34 [45] 0,af.mk 4 35 [40] 0,af.mk 3 36 [49] 1,af.mk 4 38 [43] 0,af.mk 3 40 [50] 2,af.mk 4 41 [41] 0,af.mk 4 42 [44] 0,af.mk 3 44 [50] 2,af.mk 4 45 [41] 0,af.mk 4 46 [59] 0,af.mk 4 48 [125] 0]
abbrev tq1:List af:=[af.mk 1 29 [102,105,108,108] 0,af.mk 4 33 [40] 0,af.mk 4 34 [45] 0,af.mk 4 35 [40] 0,af.mk 3 36 [49] 1,af.mk 4 38 [43] 0,af.mk 3 40 [50] 2,af.mk 4 41 [41] 0,af.mk 4 42 [44] 0,af.mk 3 44 [50] 2,af.mk 4 45 [41] 0,af.mk 4 46 [59] 0,af.mk 4 48 [125] 0]
abbrev tq2:List af:=[af.mk 4 34 [45] 0,af.mk 4 35 [40] 0,af.mk 3 36 [49] 1,af.mk 4 38 [43] 0,af.mk 3 40 [50] 2,af.mk 4 41 [41] 0,af.mk 4 42 [44] 0,af.mk 3 44 [50] 2,af.mk 4 45 [41] 0,af.mk 4 46 [59] 0,af.mk 4 48 [125] 0]
abbrev tq4:List af:=[af.mk 3 36 [49] 1,af.mk 4 38 [43] 0,af.mk 3 40 [50] 2,af.mk 4 41 [41] 0,af.mk 4 42 [44] 0,af.mk 3 44 [50] 2,af.mk 4 45 [41] 0,af.mk 4 46 [59] 0,af.mk 4 48 [125] 0]
abbrev tq5:List af:=[af.mk 4 38 [43] 0,af.mk 3 40 [50] 2,af.mk 4 41 [41] 0,af.mk 4 42 [44] 0,af.mk 3 44 [50] 2,af.mk 4 45 [41] 0,af.mk 4 46 [59] 0,af.mk 4 48 [125] 0]
abbrev tq6:List af:=[af.mk 3 40 [50] 2,af.mk 4 41 [41] 0,af.mk 4 42 [44] 0,af.mk 3 44 [50] 2,af.mk 4 45 [41] 0,af.mk 4 46 [59] 0,af.mk 4 48 [125] 0]
abbrev tq7:List af:=[af.mk 4 41 [41] 0,af.mk 4 42 [44] 0,af.mk 3 44 [50] 2,af.mk 4 45 [41] 0,af.mk 4 46 [59] 0,af.mk 4 48 [125] 0]
abbrev tq8:List af:=[af.mk 4 42 [44] 0,af.mk 3 44 [50] 2,af.mk 4 45 [41] 0,af.mk 4 46 [59] 0,af.mk 4 48 [125] 0]
abbrev tq9:List af:=[af.mk 4 46 [59] 0,af.mk 4 48 [125] 0]
theorem H8{α β:Type}{x x':Option α}{f:α→Option β}(h:x=x'):x.bind f=x'.bind f:=by rw [h]
theorem HJ{S O:Type}{body:S→Option (S ⊕ O)}{s s':S}(h:s=s'):bD body s=bD body s':=by rw [h]
theorem Am(f n:Nat)(a:Int)(b:ae):aD f (n+1) a b=fd f (aD f n) a b:=rfl
theorem ua(r:Int→ae→Option ((ab×(List af)×Int×Int) ⊕ (Int×Int)))(n:Nat)(b:ae):dS r (n+1) b=dg r (dS r n) b:=rfl
theorem BV:Ea wx=(BU,ap.mk 0 0):=by decide
set_option maxHeartbeats 8000000
attribute [local congr] H8 HJ
set_option maxRecDepth 100000
theorem Bc(k:Int)(hk:k=0∨k=1∨k=2∨k=3∨k=4)(a b:Int):cy k (ae.mk tq7 49 a b)=some 0:=by
 rcases hk with rfl|rfl|rfl|rfl|rfl<;>simp (decide:=true) [cy,qL,lD,lit,isB]
theorem Bd(k:Int)(hk:k=0∨k=1∨k=2∨k=3∨k=4)(a b:Int):cy k (ae.mk tq8 49 a b)=some 0:=by
 rcases hk with rfl|rfl|rfl|rfl|rfl<;>simp (decide:=true) [cy,qL,lD,lit,isB]
theorem Be(k:Int)(hk:k=0∨k=1∨k=2∨k=3∨k=4)(a b:Int):cy k (ae.mk tq9 49 a b)=some 0:=by
 rcases hk with rfl|rfl|rfl|rfl|rfl<;>simp (decide:=true) [cy,qL,lD,lit,isB]
theorem HK(k:Int)(hk:k=4)(a b:Int):cy k (ae.mk tq5 49 a b)=some 0:=by
 subst hk;simp (decide:=true) [cy,qL,lD,lit,isB]
theorem GI(a b:Int):cy 3 (ae.mk tq5 49 a b)=some 1:=by
 simp (decide:=true) [cy,qL,lD,lit,isB]
theorem An(F n:Nat)(p:ae){e:ab}{l:List af}{a b:Int}(h:cz F (aD F n) p=some (.inl (e,l,a,b))):aD F (n+1) 5 p=some (.inl (e,l,a,b)):=by
 rw [Am];unfold fd;rw [iP rfl,h];rfl
theorem lY(F n:Nat)(k k':Int)(p:ae){e:ab}{l:List af}{a b:Int}(hk:k=0∨k=1∨k=2∨k=3∨k=4)(hk':IntKind.wrap .i64 (k+1)=k')(h:aD F n k' p=some (.inl (e,l,a,b)))
  (ho:cy k (ae.mk l p.end_ a b)=some 0):aD F (n+1) k p=some (.inl (e,l,a,b)):=by
 rw [Am];unfold fd;rw [iN oM,hk',h]
 simp only [bSq,Sum.elim_inl,ho]
 rw [pN]
 simp only [gS,not_true_eq_false,if_false,bSq,Sum.elim_inr,Sum.elim_inl,dU]
 cases e;rfl
theorem H9(rc:Int→ae→Option ((ab×(List af)×Int×Int) ⊕ (Int×Int)))(F:Nat):cz (F+1) rc (ae.mk tq4 49 3 0) =
  some (.inl (ab.mk 1 0 1 [] [] [],tq5,3,1)):=by
 simp (decide:=true) [aM,dG,bI,bz,db,aN,cm,dH,co,cq,de,cr,cW,dI,cG,eu,dz,ce,d9,b9,ed,ca,cD,dA,bN,eF,ee,cj,di,bU,ef,dj,cw,fb,bW,cJ,cK,cL,cM,fc,dR,dk,dl,dB,cE,cF,dC,dg,ua,cz,sP,qL,lD,pN,↓Sum.elim_inl,↓Sum.elim_inr,lit,isB,IntKind.wrap,IntKind.bits,mK,maxLen]
theorem Ia(rc:Int→ae→Option ((ab×(List af)×Int×Int) ⊕ (Int×Int)))(F:Nat):cz (F+1) rc (ae.mk tq6 49 3 1) =
  some (.inl (ab.mk 1 0 2 [] [] [],tq7,3,2)):=by
 simp (decide:=true) [aM,dG,bI,bz,db,aN,cm,dH,co,cq,de,cr,cW,dI,cG,eu,dz,ce,d9,b9,ed,ca,cD,dA,bN,eF,ee,cj,di,bU,ef,dj,cw,fb,bW,cJ,cK,cL,cM,fc,dR,dk,dl,dB,cE,cF,dC,dg,ua,cz,sP,qL,lD,pN,↓Sum.elim_inl,↓Sum.elim_inr,lit,isB,IntKind.wrap,IntKind.bits,mK,maxLen]
theorem Ib(F n:Nat):aD (F+1) (n+1) 5 (ae.mk tq4 49 3 0)=some (.inl (ab.mk 1 0 1 [] [] [],tq5,3,1)):=An _ _ _ (H9 _ _)
theorem Ic(F n:Nat):aD (F+1) (n+2) 4 (ae.mk tq4 49 3 0) =
  some (.inl (ab.mk 1 0 1 [] [] [],tq5,3,1)):=lY _ _ 4 5 _ oM dM (Ib F n) (HK _ oM _ _)
theorem Ie(F n:Nat):aD (F+1) (n+1) 5 (ae.mk tq6 49 3 1)=some (.inl (ab.mk 1 0 2 [] [] [],tq7,3,2)):=An _ _ _ (Ia _ _)
theorem If(F n:Nat):aD (F+1) (n+2) 4 (ae.mk tq6 49 3 1) =
  some (.inl (ab.mk 1 0 2 [] [] [],tq7,3,2)):=lY _ _ 4 5 _ oM dM (Ie F n) (Bc _ oM _ _)
theorem Ig(F n:Nat):aD (F+1) (n+3) 3 (ae.mk tq4 49 3 0) =
  some (.inl (ab.mk 5 1 0 [] [] [ab.mk 1 0 1 [] [] [],ab.mk 1 0 2 [] [] []],tq7,3,3)):=by
 rw [Am]
 simp (decide:=true) [fd,gS,dU,Ic,If,GI,Bc,pN,sP,ce,↓Sum.elim_inl,↓Sum.elim_inr,IntKind.wrap,IntKind.bits,lit]
theorem Ih(F n:Nat):aD (F+1) (n+4) 2 (ae.mk tq4 49 3 0) =
  some (.inl (ab.mk 5 1 0 [] [] [ab.mk 1 0 1 [] [] [],ab.mk 1 0 2 [] [] []],tq7,3,3)):=lY _ _ 2 3 _ oM dM (Ig F n) (Bc _ oM _ _)
theorem Ii(F n:Nat):aD (F+1) (n+5) 1 (ae.mk tq4 49 3 0) =
  some (.inl (ab.mk 5 1 0 [] [] [ab.mk 1 0 1 [] [] [],ab.mk 1 0 2 [] [] []],tq7,3,3)):=lY _ _ 1 2 _ oM dM (Ih F n) (Bc _ oM _ _)
theorem Ij(F n:Nat):aD (F+1) (n+6) 0 (ae.mk tq4 49 3 0) =
  some (.inl (ab.mk 5 1 0 [] [] [ab.mk 1 0 1 [] [] [],ab.mk 1 0 2 [] [] []],tq7,3,3)):=lY _ _ 0 1 _ oM dM (Ii F n) (Bc _ oM _ _)
theorem Ik(F F2 n:Nat):dS (aD (F+1) (n+6)) (F2+1) (ae.mk [af.mk 4 35 [40] 0,af.mk 3 36 [49] 1,af.mk 4 38 [43] 0,af.mk 3 40 [50] 2,af.mk 4 41 [41] 0,af.mk 4 42 [44] 0,af.mk 3 44 [50] 2,af.mk 4 45 [41] 0,af.mk 4 46 [59] 0,af.mk 4 48 [125] 0] 49 2 0) =
  some (.inl (ab.mk 5 1 0 [] [] [ab.mk 1 0 1 [] [] [],ab.mk 1 0 2 [] [] []],tq8,2,3)):=by
 simp (decide:=true) [aM,dG,bI,bz,db,aN,cm,dH,co,cq,de,cr,cW,dI,cG,eu,dz,ce,d9,b9,ed,ca,cD,dA,bN,eF,ee,cj,di,bU,ef,dj,cw,fb,bW,cJ,cK,cL,cM,fc,dR,dk,dl,dB,cE,cF,dC,dg,ua,cz,Ij,sP,qL,lD,pN,↓Sum.elim_inl,↓Sum.elim_inr,lit,isB,IntKind.wrap,IntKind.bits,mK,maxLen]
theorem Il(F F2 n:Nat):cz (F2+2) (aD (F+1) (n+6)) (ae.mk tq2 49 1 0) =
  some (.inl (ab.mk 4 13 0 [] [] [ab.mk 5 1 0 [] [] [ab.mk 1 0 1 [] [] [],ab.mk 1 0 2 [] [] []]],tq8,1,4)):=by
 simp (decide:=true) [aM,dG,bI,bz,db,aN,cm,dH,co,cq,de,cr,cW,dI,cG,eu,dz,ce,d9,b9,ed,ca,cD,dA,bN,eF,ee,cj,di,bU,ef,dj,cw,fb,bW,cJ,cK,cL,cM,fc,dR,dk,dl,dB,cE,cF,dC,dg,cz,ua _ (F2+1),Ik,sP,qL,lD,pN,↓Sum.elim_inl,↓Sum.elim_inr,lit,isB,IntKind.wrap,IntKind.bits,mK,maxLen]
theorem Im(F n:Nat):aD (F+2) (n+7) 5 (ae.mk tq2 49 1 0)=some (.inl (ab.mk 4 13 0 [] [] [ab.mk 5 1 0 [] [] [ab.mk 1 0 1 [] [] [],ab.mk 1 0 2 [] [] []]],tq8,1,4)):=An _ _ _ (Il _ _ _)
theorem In(F n:Nat):aD (F+2) (n+8) 4 (ae.mk tq2 49 1 0) =
  some (.inl (ab.mk 4 13 0 [] [] [ab.mk 5 1 0 [] [] [ab.mk 1 0 1 [] [] [],ab.mk 1 0 2 [] [] []]],tq8,1,4)):=lY _ _ 4 5 _ oM dM (Im F n) (Bd _ oM _ _)
theorem Io(F n:Nat):aD (F+2) (n+9) 3 (ae.mk tq2 49 1 0) =
  some (.inl (ab.mk 4 13 0 [] [] [ab.mk 5 1 0 [] [] [ab.mk 1 0 1 [] [] [],ab.mk 1 0 2 [] [] []]],tq8,1,4)):=lY _ _ 3 4 _ oM dM (In F n) (Bd _ oM _ _)
theorem Ip(F n:Nat):aD (F+2) (n+10) 2 (ae.mk tq2 49 1 0) =
  some (.inl (ab.mk 4 13 0 [] [] [ab.mk 5 1 0 [] [] [ab.mk 1 0 1 [] [] [],ab.mk 1 0 2 [] [] []]],tq8,1,4)):=lY _ _ 2 3 _ oM dM (Io F n) (Bd _ oM _ _)
theorem Iq(F n:Nat):aD (F+2) (n+11) 1 (ae.mk tq2 49 1 0) =
  some (.inl (ab.mk 4 13 0 [] [] [ab.mk 5 1 0 [] [] [ab.mk 1 0 1 [] [] [],ab.mk 1 0 2 [] [] []]],tq8,1,4)):=lY _ _ 1 2 _ oM dM (Ip F n) (Bd _ oM _ _)
theorem Ir(F n:Nat):aD (F+2) (n+12) 0 (ae.mk tq2 49 1 0) =
  some (.inl (ab.mk 4 13 0 [] [] [ab.mk 5 1 0 [] [] [ab.mk 1 0 1 [] [] [],ab.mk 1 0 2 [] [] []]],tq8,1,4)):=lY _ _ 0 1 _ oM dM (Iq F n) (Bd _ oM _ _)
theorem Fm:dt [102,105,108,108] [[109,97,112],[102,111,108,100],[115,99,97,110],[102,105,108,108],[119,105,116,104],[115,108,105,99,101],[99,97,116],[112,114,101],[109,105,110],[109,97,120]]=some 3:=by
 have h:dt [102,105,108,108] [[109,97,112],[102,111,108,100],[115,99,97,110],[102,105,108,108],[119,105,116,104],[115,108,105,99,101],[99,97,116],[112,114,101],[109,105,110],[109,97,120]]=cV [[109,97,112],[102,111,108,100],[115,99,97,110],[102,105,108,108],[119,105,116,104],[115,108,105,99,101],[99,97,116],[112,114,101],[109,105,110],[109,97,120]] [102,105,108,108]:=rfl
 rw [h,lD _ _ dM]
 decide
theorem Is(F n:Nat):cz (F+3) (aD (F+3) (n+12)) (ae.mk tq1 49 0 0) =
  some (.inl (ab.mk 10 0 0 [] [[an.mk 2 []]] [ab.mk 4 13 0 [] [] [ab.mk 5 1 0 [] [] [ab.mk 1 0 1 [] [] [],ab.mk 1 0 2 [] [] []]]],tq9,0,5)):=by
 simp (decide:=true) [aM,dG,bI,bz,db,aN,cm,dH,co,cq,de,cr,cW,dI,cG,eu,dz,ce,d9,b9,ed,ca,cD,dA,bN,eF,ee,cj,di,bU,ef,dj,cw,fb,bW,cJ,cK,cL,cM,fc,dR,dk,dl,dB,cE,cF,dC,dg,cz,ua _ (F+2),Ir,Fm,sP,qL,lD,pN,↓Sum.elim_inl,↓Sum.elim_inr,lit,isB,IntKind.wrap,IntKind.bits,mK,maxLen]
theorem It(F n:Nat):aD (F+3) (n+13) 5 (ae.mk tq1 49 0 0)=some (.inl (ab.mk 10 0 0 [] [[an.mk 2 []]] [ab.mk 4 13 0 [] [] [ab.mk 5 1 0 [] [] [ab.mk 1 0 1 [] [] [],ab.mk 1 0 2 [] [] []]]],tq9,0,5)):=An _ _ _ (Is _ _)
theorem Iu(F n:Nat):aD (F+3) (n+14) 4 (ae.mk tq1 49 0 0) =
  some (.inl (ab.mk 10 0 0 [] [[an.mk 2 []]] [ab.mk 4 13 0 [] [] [ab.mk 5 1 0 [] [] [ab.mk 1 0 1 [] [] [],ab.mk 1 0 2 [] [] []]]],tq9,0,5)):=lY _ _ 4 5 _ oM dM (It F n) (Be _ oM _ _)
theorem Iv(F n:Nat):aD (F+3) (n+15) 3 (ae.mk tq1 49 0 0) =
  some (.inl (ab.mk 10 0 0 [] [[an.mk 2 []]] [ab.mk 4 13 0 [] [] [ab.mk 5 1 0 [] [] [ab.mk 1 0 1 [] [] [],ab.mk 1 0 2 [] [] []]]],tq9,0,5)):=lY _ _ 3 4 _ oM dM (Iu F n) (Be _ oM _ _)
theorem Iw(F n:Nat):aD (F+3) (n+16) 2 (ae.mk tq1 49 0 0) =
  some (.inl (ab.mk 10 0 0 [] [[an.mk 2 []]] [ab.mk 4 13 0 [] [] [ab.mk 5 1 0 [] [] [ab.mk 1 0 1 [] [] [],ab.mk 1 0 2 [] [] []]]],tq9,0,5)):=lY _ _ 2 3 _ oM dM (Iv F n) (Be _ oM _ _)
theorem Ix(F n:Nat):aD (F+3) (n+17) 1 (ae.mk tq1 49 0 0) =
  some (.inl (ab.mk 10 0 0 [] [[an.mk 2 []]] [ab.mk 4 13 0 [] [] [ab.mk 5 1 0 [] [] [ab.mk 1 0 1 [] [] [],ab.mk 1 0 2 [] [] []]]],tq9,0,5)):=lY _ _ 1 2 _ oM dM (Iw F n) (Be _ oM _ _)
theorem Iy(F n:Nat):aD (F+3) (n+18) 0 (ae.mk tq1 49 0 0) =
  some (.inl (ab.mk 10 0 0 [] [[an.mk 2 []]] [ab.mk 4 13 0 [] [] [ab.mk 5 1 0 [] [] [ab.mk 1 0 1 [] [] [],ab.mk 1 0 2 [] [] []]]],tq9,0,5)):=lY _ _ 0 1 _ oM dM (Ix F n) (Be _ oM _ _)
theorem BW(m:Nat)(o:Int):gX (m+40) (ae.mk tq1 49 0 o) =
  some (.inl (ab.mk 10 0 0 [] [[an.mk 2 []]] [ab.mk 4 13 0 [] [] [ab.mk 5 1 0 [] [] [ab.mk 1 0 1 [] [] [],ab.mk 1 0 2 [] [] []]]],tq9,0,5)):=by
 simp (decide:=true) [gX,fG,nS,show aD (m+40) (m+40) 0 (ae.mk tq1 49 0 0)=_ from Iy (m+37) (m+22)]
theorem Bf(m:Nat):lT (m+40) wx=some (aB.mk [aK.mk [97] 0 [] [] [ax.mk [121] (gR.mk 105 [an.mk 2 []])] [] [TEq.mk 25 [[121]] [] [] [ab.mk 10 0 0 [] [[an.mk 2 []]] [ab.mk 4 13 0 [] [] [ab.mk 5 1 0 [] [] [ab.mk 1 0 1 [] [] [],ab.mk 1 0 2 [] [] []]]]]]],ap.mk 0 0):=by
 have hs:o8 wx=some (BU,ap.mk 0 0):=by rw [Fc _ dM,BV]
 unfold lT
 rw [hs]
 simp (decide:=true) [BU,wx,BW,jR,jS,nI,kd,ke,mI,jt,i7,iV,i8,kI,ja,kJ,gD,gE,gG,m9,fH,fI,eO,jI,fJ,fK,lS,aM,dG,bI,bz,db,aN,cm,dH,co,cq,de,cr,cW,sP,qL,lD,pN,↓Sum.elim_inl,↓Sum.elim_inr,lit,isB,IntKind.wrap,IntKind.bits,mK,maxLen]
theorem Ao{f:ap}{a e:Int}(h:(wf f a e).code=0):wf f a e=f:=by rw [(Et h).2,AV]
theorem zn:∀ (l:List TEq) (b:Int) (f:ap),(nT b l f).code=0→nT b l f=f
 |[],_,_,_=>rfl
 |q :: l,b,f,h=>by
  have h1:=zn l _ _ h
  rw [nT,h1]
  rw [nT,h1] at h
  exact Ao h
theorem wP:∀ (l:List aK) (b i:Int) (f:ap),(mZ b i l f).code=0→mZ b i l f=f
 |[],_,_,_,_=>rfl
 |x :: l,b,i,f,h=>by
  have h1:=wP l _ _ _ h
  rw [mZ,h1]
  rw [mZ,h1] at h
  have h2:=zn _ _ _ h
  rw [h2]
  rw [h2] at h
  exact Ao h
theorem Bg{p:aB}(h:(m0 p).code=0):m0 p=ap.mk 0 0:=by
 have h1:=wP _ _ _ _ h
 unfold m0 at h ⊢
 rw [h1] at h ⊢
 exact Ao h
def pj(n:Nat)(p:aB):ap:=if (m0 p).code=0 then (if 12000<(pU n p).length then ap.mk 7 (-1) else ap.mk 0 0) else m0 p
theorem Ew(n:Nat)(hn:8000000<n)(p:aB)(h:p.sz≤1048576):ow n p=some (pj n p):=by
 unfold ow pj
 rw [Df n hn p (yg h),bSq]
 by_cases c:(m0 p).code=0
 ·rw [iP c,iP c,Ba n oM p (vX c) h,bSq,Bg c]
  by_cases g:12000<(pU n p).length
  ·rw [iP oM,iP g]
  ·rw [iN oM,iN g]
 ·rw [iN c,iN c]
theorem Di(n:Nat)(hn:8000000<n)(p:aB)(h:p.sz≤1048576):jV n p=some (pj n p):=by
 unfold pj
 rw [Dg n hn p (yg h)]
 by_cases c:(m0 p).code=0
 ·rw [iP c,iP c]
  unfold fX tF
  rw [zm n oM p (vX c) h,bSq]
  by_cases g:12000<(pU n p).length
  ·rw [iP oM,iP g];rfl
  ·rw [iN oM,iN g]
 ·rw [iN c,iN c]
theorem Bh{n:Nat}{p:aB}(h:(pj n p).code=0):(m0 p).code=0∧pj n p=ap.mk 0 0:=by
 unfold pj at h ⊢
 by_cases c:(m0 p).code=0
 ·rw [iP c] at h ⊢
  refine ⟨c,?_⟩
  split at h
  ·exact absurd h dM
  ·rename_i g;rw [iN g]
 ·rw [iN c] at h;exact absurd h c
theorem Bi(n:Nat)(hn:8000000<n)(p:aB)(h:p.sz≤1048576):lR n p=some (if (pj n p).code=0 then pU n p else [],pj n p):=by
 unfold lR
 rw [Ew n hn p h,bSq]
 by_cases c:(pj n p).code=0
 ·obtain ⟨c1,c2⟩:=Bh c
  rw [iN (fun k=>k c),Ba n oM p (vX c1) h,bSq,iP c,c2]
 ·rw [iP c,iN c]
def sQ:aB:=aB.mk [aK.mk [97] 0 [] [] [ax.mk [121] (gR.mk 105 [an.mk 2 []])] [] [TEq.mk 25 [[121]] [] [] [ab.mk 10 0 0 [] [[an.mk 2 []]] [ab.mk 4 13 0 [] [] [ab.mk 5 1 0 [] [] [ab.mk 1 0 1 [] [] [],ab.mk 1 0 2 [] [] []]]]]]]
theorem Dj:sQ.sz≤1048576:=by decide
theorem Ex:iB [97]=true:=by
 unfold iB
 refine dT ⟨by decide,by decide,⟨97,rfl,by decide⟩,by decide,fun i hi=>?_⟩
 have:i=0:=by simp at hi;exact hi
 subst this;decide
theorem Dk:iB [121]=true:=by
 unfold iB
 refine dT ⟨by decide,by decide,⟨121,rfl,by decide⟩,by decide,fun i hi=>?_⟩
 have:i=0:=by simp at hi;exact hi
 subst this;decide
theorem Ap:m0 sQ=ap.mk 0 0:=by
 simp [m0,sQ,mZ,nT,p9,lI,Ex,Dk,fA,fsF,zf,Dc,iX,vM,eqF,r8,pn,pns,exF,De,pZ,qP,sq,wf]
theorem Bj(n:Nat):pU (n+9) sQ=[110,111,100,101,32,97,40,41,32,45,62,32,40,121,58,32,105,110,116,94,50,41,32,123,10,9,121,32,61,32,102,105,108,108,40,45,40,49,32,43,32,50,41,44,32,50,41,59,10,125,10]:=by
 have i1:Go.Lib.itoa 1=[49]:=by unfold Go.Lib.itoa;rw [iN dM];unfold Go.Lib.decDigits;rfl
 have i2:Go.Lib.itoa 2=[50]:=by unfold Go.Lib.itoa;rw [iN dM];unfold Go.Lib.decDigits;rfl
 have e1:exT (n+6) (ab.mk 1 0 1 [] [] [])=[49]:=by rw [← i1];rfl
 have e2:exT (n+6) (ab.mk 1 0 2 [] [] [])=[50]:=by rw [← i2];rfl
 have s2:mJ [an.mk 2 []]=[50]:=by
  unfold mJ
  simp [fq,ny,ku,i2]
 have e3:exT (n+7) (ab.mk 5 1 0 [] [] [ab.mk 1 0 1 [] [] [],ab.mk 1 0 2 [] [] []])=[49,32,43,32,50]:=by
  show exB (exT (n+6)) _=_
  simp [exB,rkE,yr,atT,paT,s7,Cx,e1,e2]
 have e4:exT (n+8) (ab.mk 4 13 0 [] [] [ab.mk 5 1 0 [] [] [ab.mk 1 0 1 [] [] [],ab.mk 1 0 2 [] [] []]])=[45,40,49,32,43,32,50,41]:=by
  show exB (exT (n+7)) _=_
  simp [exB,rkE,yr,atT,paT,e3]
 have e5:exT (n+9) (ab.mk 10 0 0 [] [[an.mk 2 []]] [ab.mk 4 13 0 [] [] [ab.mk 5 1 0 [] [] [ab.mk 1 0 1 [] [] [],ab.mk 1 0 2 [] [] []]]])=[102,105,108,108,40,45,40,49,32,43,32,50,41,44,32,50,41]:=by
  show exB (exT (n+8)) _=_
  simp [exB,pq,tY,Ah,e4,com,Go.Lib.join_one,oJ,nU,s2]
 simp [pU,sQ,nU,sg,com,Go.Lib.join_one,Go.Lib.join_nil,mj,BP,s2,ww,tc,eqT,e5]
theorem Ey(n:Nat)(hn:8000000<n):nJ (n+40)=some true:=by
 have hp:lT (n+40) wx=some (sQ,ap.mk 0 0):=Bf n
 have ht:=Bj (n+31)
 have hf:pj (n+40) sQ=ap.mk 0 0:=by
  unfold pj
  rw [Ap,iP rfl,show n+40=n+31+9 from rfl,ht,iN dM]
 show (lT (n+40) wx).bind _=_
 rw [hp,bSq]
 show (lR (n+40) sQ).bind _=_
 rw [Bi (n+40) oM sQ Dj,bSq,hf]
 rw [show n+40=n+31+9 from rfl,ht]
 rfl
theorem BX(n:Nat)(hn:9000000<n)(p:aB)(h:p.sz≤1048576):lB (n+40) p=some true:=by
 have hs:=yg h
 unfold lB
 rw [Ey n oM,bSq,iP rfl]
 obtain ⟨g,hg⟩:=Dd (n+40) p hs oM
 rw [hg,bSq]
 by_cases c:g=true
 ·rw [iP c]
 rw [iN c,Fg _ _ hs oM,bSq,Bi _ oM p h,bSq,Di _ oM p h,bSq,iP ⟨rfl,rfl⟩,Eh _ _ _ true hs.ok oM,bSq]
 rw [iP (kK.2 ⟨rfl,fun _ _=>⟨fun _=>rfl,rfl,rfl,rfl,rfl,rfl,rfl,fun _ _=>⟨fun _=>rfl,rfl,rfl,rfl,rfl⟩⟩⟩)]
 by_cases k:(pj (n+40) p).code=0
 ·obtain ⟨k1,k2⟩:=Bh k
  rw [iN (fun z=>z k),zm _ oM p (vX k1) h,bSq,iP k]
  simp
 ·rw [iP k,iN k,iP rfl]
theorem tk(p:aB)(_:p.ok)(h:p.sz≤1048576):∃ fuel,lB fuel p=some true:=⟨9000041,BX 9000001 dM p h⟩
end Pam
