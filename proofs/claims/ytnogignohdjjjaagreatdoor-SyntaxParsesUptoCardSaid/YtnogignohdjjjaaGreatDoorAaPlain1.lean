/- Tokens: what a text's tokens are, and plain laws on them. No program in sight. -/
import Derived.Test.YtnogignohdjjjaaGreatDoorABase3
import Derived.Test.YtnogignohdjjjaaGreatDoorAaFun1
import Derived.Test.YtnogignohdjjjaaGreatDoorAWide1
set_option linter.all false
namespace Pam
open Go
def tSm(c:UInt8):Prop:=97≤c.toNat∧c.toNat≤122
def tDg(c:UInt8):Prop:=48≤c.toNat∧c.toNat≤57
instance (c:UInt8):Decidable (tSm c):=inferInstanceAs (Decidable (_∧_))
instance (c:UInt8):Decidable (tDg c):=inferInstanceAs (Decidable (_∧_))
def tAn(c:UInt8):Bool:=decide (tSm c∨tDg c)
def tBl(c:UInt8):Prop:=c.toNat=32∨c.toNat=9∨c.toNat=13
instance (c:UInt8):Decidable (tBl c):=inferInstanceAs (Decidable (_∨_))
def blk:Bool→List UInt8→List UInt8
 |_,[]=>[]
 |r,c :: l=>if c.toNat=10 then blk false l else if r=true∨tBl c then blk r l else if c.toNat=35 then blk true l else c :: l
theorem tp(r:Bool)(s:List UInt8):(blk r s).length≤s.length:=by
 induction s generalizing r with
 |nil=>simp [blk]
 |cons c l ih =>
  unfold blk
  have h1:=ih false;have h2:=ih r;have h3:=ih true
  split
  ·simp;omega
  ·split
   ·simp;omega
   ·split
    ·simp;omega
    ·simp
theorem zr(r:Bool)(s:List UInt8):blk r s=s.drop (s.length - (blk r s).length):=by
 induction s generalizing r with
 |nil=>simp [blk]
 |cons c l ih =>
  have key:∀ q,blk q l=(c :: l).drop ((c :: l).length - (blk q l).length):=by
   intro q
   have h1:=ih q;have h2:=tp q l
   rw [List.length_cons,show l.length+1 - (blk q l).length=(l.length - (blk q l).length)+1 by omega,List.drop_succ_cons]
   exact h1
  unfold blk
  split
  ·exact key _
  ·split
   ·exact key _
   ·split
    ·exact key _
    ·simp
def nC:List (List UInt8):=[[97,100,100],[97,110,100],[98,111,111,108],[99,97,108,108],[99,97,116],[100,105,118],[101,108,115,101],[101,113],[102,97,108,115,101],[102,105,108,108],[102,111,108,100],[105,102],[105,110,116],[108,101,115,115],[109,97,112],[109,97,120],[109,105,110],[109,111,100],[109,117,108],[110,101,103],[110,111,100,101],[110,111,116],[111,114],[112,114,101],[115,99,97,110],[115,108,105,99,101],[115,117,98],[116,104,101,110],[116,114,117,101],[118,97,114],[119,105,116,104],[120,111,114]]
def mX(s:List UInt8):Bool:=nC.contains s
def rN:List Nat:=[40,41,123,125,91,93,60,62,44,59,58,43,45,42,47,37,61,94]
def sx(n:Int)(w:List UInt8):Int:=w.foldl (fun n c=>10 * n+((c.toNat:Int) - 48)) n
def vK(w:List UInt8):Option Int :=
 if w.length>18∨(w.length>1∧w.head?.map UInt8.toNat=some 48)∨¬ (∀ c∈w,tDg c) then none else some (sx 0 w)
def qX(p:Nat)(s:List UInt8):aa ⊕ Int :=
 match s with
 |[]=>.inr 1
 |c :: l =>
  if tSm c then
   let w:=(c :: l).takeWhile tAn
   if mX w then .inl (aa.mk 1 p w 0) else if w.length>12 then .inr 3 else .inl (aa.mk 2 p w 0)
  else if tDg c then
   let w:=(c :: l).takeWhile tAn
   match vK w with
   |some n=>.inl (aa.mk 3 p w n)
   |none=>.inr 2
  else if (c :: l).take 2=[61,61]∨(c :: l).take 2=[45,62] then .inl (aa.mk 4 p ((c :: l).take 2) 0)
  else if c.toNat∈rN then .inl (aa.mk 4 p [c] 0)
  else .inr 1
theorem tq{c:UInt8}(h:tSm c∨tDg c):tAn c=true:=by simpa [tAn] using h
theorem qe{p:Nat}{s:List UInt8}{t:aa}(h:qX p s=.inl t):t.at_=p∧t.text≠[]∧t.text <+: s:=by
 cases s with
 |nil=>simp [qX] at h
 |cons c l =>
  have tw:(c :: l).takeWhile tAn <+: c :: l:=List.takeWhile_prefix _
  have ne:∀ {c:UInt8},tAn c=true→(c :: l).takeWhile tAn≠[]:=by intro c h;rw [List.takeWhile_cons,iP h];simp
  unfold qX at h
  simp only at h
  split at h
  ·rename_i hc
   split at h
   ·cases h;exact ⟨rfl,ne (tq (.inl hc)),tw⟩
   ·split at h
    ·cases h
    ·cases h;exact ⟨rfl,ne (tq (.inl hc)),tw⟩
  ·split at h
   ·rename_i hc
    split at h
    ·cases h;exact ⟨rfl,ne (tq (.inr hc)),tw⟩
    ·cases h
   ·split at h
    ·cases h;exact ⟨rfl,by simp,List.take_prefix _ _⟩
    ·split at h
     ·cases h;exact ⟨rfl,by simp,⟨l,rfl⟩⟩
     ·cases h
def lm:Nat→Nat→List UInt8→List aa ⊕ ai
 |0,_,_=>.inl []
 |k+1,p,s =>
  match blk false s with
  |[]=>.inl []
  |c :: l =>
   match qX (p+(s.length - (c :: l).length)) (c :: l) with
   |.inr e=>.inr (ai.mk e ((p+(s.length - (c :: l).length):Nat):Int))
   |.inl t =>
    match lm k (p+(s.length - (c :: l).length)+t.text.length) ((c :: l).drop t.text.length) with
    |.inl m=>.inl (t :: m)
    |.inr f=>.inr f
theorem lH(k p:Nat)(s:List UInt8):lm (k+1) p s=match blk false s with
  |[]=>.inl []
  |c :: l =>
   match qX (p+(s.length - (c :: l).length)) (c :: l) with
   |.inr e=>.inr (ai.mk e ((p+(s.length - (c :: l).length):Nat):Int))
   |.inl t =>
    match lm k (p+(s.length - (c :: l).length)+t.text.length) ((c :: l).drop t.text.length) with
    |.inl m=>.inl (t :: m)
    |.inr f=>.inr f:=rfl
theorem wG:∀ (k k' p:Nat) (s:List UInt8),s.length<k→s.length<k'→lm k p s=lm k' p s:=by
 intro k
 induction k with
 |zero=>intro k' p s h;omega
 |succ k ih =>
  intro k' p s h h'
  cases k' with
  |zero=>omega
  |succ k' =>
   unfold lm
   have hb:=tp false s
   cases e:blk false s with
   |nil=>rfl
   |cons c l =>
    simp only
    cases ht:qX (p+(s.length - (c :: l).length)) (c :: l) with
    |inr e=>rfl
    |inl t =>
     simp only
     obtain ⟨_,h2,_⟩:=qe ht
     have:0<t.text.length:=List.length_pos_iff.2 h2
     rw [e] at hb
     have hcl:(c :: l).length=l.length+1:=rfl
     rw [ih k' _ _ (by rw [List.length_drop];omega) (by rw [List.length_drop];omega)]
theorem sj(l:List UInt8)(i:Nat)(h:i<l.length):l.drop i=l.getD i 0 :: l.drop (i+1):=by
 rw [List.drop_eq_getElem_cons h]
 simp [List.getD,h]
theorem wr1(p:Nat)(h:p<1000000):IntKind.wrap .i64 ((p:Int)+1)=((p+1:Nat):Int):=wrs p oM
theorem rO(c:UInt8):kq (c.toNat:Int)=some (decide (tSm c)):=by
 unfold kq
 by_cases h:(c.toNat:Int)≥97
 ·rw [iP h];congr 1;exact decide_eq_decide.2 (by unfold tSm;omega)
 ·rw [iN h];congr 1;symm;rw [decide_eq_false_iff_not];unfold tSm;omega
theorem ry(c:UInt8):ke (c.toNat:Int)=some (decide (tDg c)):=by
 unfold ke
 by_cases h:(c.toNat:Int)≥48
 ·rw [iP h];congr 1;exact decide_eq_decide.2 (by unfold tDg;omega)
 ·rw [iN h];congr 1;symm;rw [decide_eq_false_iff_not];unfold tDg;omega
theorem tt(src:List UInt8)(hl:src.length≤100000):∀ (k p:Nat) (r:Bool),p+k=src.length →
  bJ (fun (x5,b6)=>cE src x5 b6) ((p:Int),r)=some ((src.length - (blk r (src.drop p)).length:Nat):Int)
 |0,p,r,h=>by
  have:p=src.length:=by omega
  subst this
  rw [List.drop_length]
  refine a8 ?_
  show cE _ _ _=_
  unfold cE
  rw [iN (jc _)]
  simp [blk]
 |k+1,p,r,h=>by
  have hp:p<src.length:=by omega
  have hd:=sj src p hp
  have hdl:(src.drop (p+1)).length=src.length - (p+1):=List.length_drop
  obtain ⟨c,hc⟩:∃ c,src.getD p 0=c:=⟨_,rfl⟩
  rw [hc] at hd
  have e:blk r (c :: src.drop (p+1))=if c.toNat=10 then blk false (src.drop (p+1)) else if r=true∨tBl c then blk r (src.drop (p+1)) else if c.toNat=35 then blk true (src.drop (p+1)) else c :: src.drop (p+1):=rfl
  have stp:∀ q,cE src (p:Int) r=some (.inl ((p+1:Nat),q))→blk r (c :: src.drop (p+1))=blk q (src.drop (p+1)) →
    bJ (fun (x5,b6)=>cE src x5 b6) ((p:Int),r)=some ((src.length - (blk r (src.drop p)).length:Nat):Int):=fun q h1 h2=>by
   rw [dZ (s':=(((p+1:Nat):Int),q)) h1,tt src hl k (p+1) q oM,hd,h2]
  have hb:cE src (p:Int) r=if (c.toNat:Int)=10 then some (.inl ((p+1:Nat),false)) else if r=true∨tBl c then some (.inl ((p+1:Nat),r)) else if (c.toNat:Int)=35 then some (.inl ((p+1:Nat),true)) else some (.inr (p:Int)):=by
   unfold cE
   rw [iP (ltI hp),iP (inI hp),tN,hc]
   unfold dN eW
   rw [wr1 p oM]
   simp only [tN,hc]
   by_cases h1:(c.toNat:Int)=10
   ·rw [iP h1,iP h1]
   rw [iN h1,iN h1]
   by_cases h2:r=true
   ·rw [iP h2,iP h2,iP (Or.inl h2)]
   rw [iN h2]
   have key:∀ b:Bool,(b=true↔tBl c)→(if b=true then (some (.inl (((p+1:Nat):Int),r)):Option ((Int×Bool) ⊕ Int)) else if ((src.getD p 0).toNat:Int)=35 then some (.inl (((p+1:Nat):Int),true)) else some (.inr (p:Int))) =
     if r=true∨tBl c then some (.inl (((p+1:Nat):Int),r)) else if (c.toNat:Int)=35 then some (.inl (((p+1:Nat):Int),true)) else some (.inr (p:Int)):=by
    intro b hb
    rw [hc]
    by_cases hh:tBl c
    ·rw [iP (hb.2 hh),iP (Or.inr hh)]
    ·rw [iN (fun x=>hh (hb.1 x)),iN (show ¬ (r=true∨tBl c) from fun x=>x.elim h2 hh)]
   rw [hc] at key
   by_cases h3:(c.toNat:Int)=32
   ·rw [iP h3];exact key ((c.toNat:Int) == 32) (by rw [beq_iff_eq];unfold tBl;omega)
   rw [iN h3]
   by_cases h4:(c.toNat:Int)=9
   ·rw [iP h4];exact key ((c.toNat:Int) == 9) (by rw [beq_iff_eq];unfold tBl;omega)
   rw [iN h4]
   exact key ((c.toNat:Int) == 13) (by rw [beq_iff_eq];unfold tBl;omega)
  by_cases h1:c.toNat=10
  ·rw [iP h1] at e
   rw [iP oM] at hb
   exact stp false hb e
  rw [iN h1] at e
  rw [iN oM] at hb
  by_cases h2:r=true∨tBl c
  ·rw [iP h2] at e hb
   exact stp r hb e
  rw [iN h2] at e hb
  by_cases h3:c.toNat=35
  ·rw [iP h3] at e
   rw [iP oM] at hb
   exact stp true hb e
  rw [iN h3] at e
  rw [iN oM] at hb
  rw [a8 (o:=(p:Int)) hb,hd,e,List.length_cons,hdl]
  congr 2;omega
theorem vL(src:List UInt8)(hl:src.length≤100000)(p:Nat)(hp:p≤src.length)(l:List aa) :
  gS src p l=some ((src.length - (blk false (src.drop p)).length:Nat):Int):=by
 unfold gS
 rw [tt src hl (src.length - p) p false oM]
 rfl
theorem vM(src:List UInt8)(hl:src.length≤100000):∀ (k p:Nat),p+k=src.length →
  bJ (fun x4=>fD src x4) (p:Int)=some ((p+((src.drop p).takeWhile tAn).length:Nat):Int)
 |0,p,h=>by
  have:p=src.length:=by omega
  subst this
  rw [List.drop_length]
  refine a8 ?_
  unfold fD
  rw [iN (jc _)];rfl
 |k+1,p,h=>by
  have hp:p<src.length:=by omega
  rw [sj src p hp]
  have hb:fD src (p:Int)=if tAn (src.getD p 0)=true then some (.inl ((p+1:Nat):Int)) else some (.inr (p:Int)):=by
   unfold fD gB
   rw [iP (ltI hp),iP (inI hp),tN,wr1 p oM,rO,ry]
   simp only [bSq,decide_eq_true_eq]
   unfold tAn
   simp only [decide_eq_true_eq]
   by_cases h1:tSm (src.getD p 0)
   ·rw [iP h1,iP (Or.inl h1)]
   ·rw [iN h1]
    by_cases h2:tDg (src.getD p 0)
    ·rw [iP h2,iP (Or.inr h2)]
    ·rw [iN h2,iN (fun x=>x.elim h1 h2)]
  rw [List.takeWhile_cons]
  by_cases h1:tAn (src.getD p 0)=true
  ·rw [iP h1] at hb ⊢
   rw [dZ hb,vM src hl k (p+1) oM,List.length_cons]
   congr 2;omega
  ·rw [iN h1] at hb ⊢
   rw [a8 hb];rfl
theorem BL(src:List UInt8)(hl:src.length≤100000)(p:Nat)(hp:p≤src.length)(l:List aa) :
  gn src p l=some ((src.drop p).takeWhile tAn,((p+((src.drop p).takeWhile tAn).length:Nat):Int)):=by
 unfold gn
 rw [vM src hl (src.length - p) p oM]
 simp only [bSq]
 unfold fC
 have tw:(src.drop p).takeWhile tAn <+: src.drop p:=List.takeWhile_prefix _
 have hle:=tw.length_le
 rw [List.length_drop] at hle
 rw [iP ⟨by omega,by omega,by omega⟩,tN,tN,List.drop_take,show p+((src.drop p).takeWhile tAn).length - p=((src.drop p).takeWhile tAn).length by omega,← List.prefix_iff_eq_take.1 tw]
theorem AC(w:List UInt8):lE w=some (mX w):=by
 unfold lE aR
 by_cases h:w∈nC
 ·have:mX w=true:=by unfold mX;rw [List.contains_iff_mem];exact h
  rw [this]
  unfold nC at h
  simp only [List.mem_cons,List.not_mem_nil,or_false] at h
  rcases h with rfl|rfl|rfl|rfl|rfl|rfl|rfl|rfl|rfl|rfl|rfl|rfl|rfl|rfl|rfl|rfl|rfl|rfl|rfl|rfl|rfl|rfl|rfl|rfl|rfl|rfl|rfl|rfl|rfl|rfl|rfl|rfl
  all_goals rfl
 ·have:mX w=false:=by unfold mX;rw [← Bool.not_eq_true,List.contains_iff_mem];exact h
  rw [this]
  have hn:∀ x,x∈nC→¬ w=x:=fun x hx e=>h (e ▸ hx)
  have hb:∀ x,x∈nC→(w == x)=false:=fun x hx=>by rw [beq_eq_false_iff_ne];exact hn x hx
  rw [iN (hn _ dM),iN (hn _ dM),iN (hn _ dM),iN (hn _ dM),iN (hn _ dM),iN (hn _ dM),iN (hn _ dM),iN (hn _ dM),iN (hn _ dM),iN (hn _ dM),iN (hn _ dM),iN (hn _ dM),iN (hn _ dM),iN (hn _ dM),iN (hn _ dM),iN (hn _ dM),iN (hn _ dM),iN (hn _ dM),iN (hn _ dM),iN (hn _ dM),iN (hn _ dM),iN (hn _ dM),iN (hn _ dM),iN (hn _ dM),iN (hn _ dM),iN (hn _ dM),iN (hn _ dM),iN (hn _ dM),iN (hn _ dM),iN (hn _ dM),iN (hn _ dM)]
  rw [hb _ dM]
  rfl
theorem sm:∀ (l:List UInt8) (acc:Nat),(∀ c∈l,tDg c)→∃ m:Nat,Go.Lib.decFrom acc l=some m∧(m:Int)=sx acc l
 |[],acc,_=>⟨acc,rfl,rfl⟩
 |c :: l,acc,h=>by
  have hc:tDg c:=h c List.mem_cons_self
  have hc':48≤c.toNat∧c.toNat≤57:=hc
  obtain ⟨m,h1,h2⟩:=sm l (acc * 10+(c.toNat - 48)) (fun d hd=>h d (List.mem_cons_of_mem _ hd))
  refine ⟨m,?_,?_⟩
  ·unfold Go.Lib.decFrom Go.Lib.digitVal
   rw [iP hc']
   exact h1
  ·rw [h2]
   unfold sx
   rw [List.foldl_cons]
   congr 1
   omega
theorem zs(w:List UInt8)(hn:w≠[])(hl:w.length≤18)(h:∀ c∈w,tDg c):vD w=some (sx 0 w):=by
 unfold vD
 rw [iP hl]
 cases w with
 |nil=>exact absurd rfl hn
 |cons c l =>
  have hc:48≤c.toNat∧c.toNat≤57:=h c List.mem_cons_self
  unfold Go.Lib.atoi
  have n1:(c == 45)=false:=by rw [beq_eq_false_iff_ne];intro e;subst e;revert hc;decide
  have n2:(c == 43)=false:=by rw [beq_eq_false_iff_ne];intro e;subst e;revert hc;decide
  simp only [n1,n2]
  obtain ⟨m,h1,h2⟩:=sm (c :: l) 0 h
  show (Go.Lib.decNat (c :: l)).map (fun m:Nat=>(m:Int))=_
  unfold Go.Lib.decNat
  rw [iN (by simp),h1,Option.map_some,h2]
  rfl
theorem xx(w:List UInt8):(∀ c∈w,tDg c)↔∀ i,i<w.length→tDg (w.getD i 0):=by
 constructor
 ·intro h i hi
  have:w.getD i 0=w[i]:=by simp [List.getD,hi]
  rw [this];exact h _ (List.getElem_mem hi)
 ·intro h c hc
  obtain ⟨i,hi,rfl⟩:=List.getElem_of_mem hc
  have:=h i hi
  have e:w.getD i 0=w[i]:=by simp [List.getD,hi]
  rwa [e] at this
theorem ye(w:List UInt8)(hn:w≠[]):ku w=some (match vK w with|some n=>(n,true)|none=>(0,false)):=by
 unfold ku
 unfold vK
 by_cases h1:w.length>18
 ·rw [iP oM,iP (Or.inl h1)]
 rw [iN oM]
 have hj:iz w=some (match (if ¬ ∀ c∈w,tDg c then none else some (sx 0 w):Option Int) with|some n=>(n,true)|none=>(0,false)):=by
  unfold iz
  rw [n6 (body:=fun x4=>gW w x4) w.length (fun i=>if tDg (w.getD i 0) then none else some ((0:Int),false)) ()
   (by
    intro i hi
    show gW w i=_
    unfold gW
    rw [iP (ltI hi),iP (inI hi),tN,ry,wr1 i oM]
    simp only [bSq,decide_eq_true_eq]
    by_cases hd:tDg (w.getD i 0)
    ·rw [iP hd,iP hd]
    ·rw [iN hd,iN hd])
   (by
    show gW w w.length=_
    unfold gW
    rw [iN (jc _)])]
  simp only [bSq]
  by_cases ha:∀ c∈w,tDg c
  ·have hg:=(xx w).1 ha
   rw [qd (fun i hi=>by rw [iP (hg i hi)])]
   rw [iN (fun h=>h ha)]
   simp only [Sum.elim_inl]
   unfold i6 kt
   rw [iP ⟨rfl,rfl⟩,zs w hn oM ha]
   rfl
  ·rw [iP ha]
   rcases mW w.length (fun i=>if tDg (w.getD i 0) then none else some ((0:Int),false)) () with ⟨e,hall⟩|⟨i,z,hi,hf,e⟩
   ·exfalso
    refine ha ((xx w).2 fun i hi=>?_)
    have:=hall i hi
    split at this
    ·assumption
    ·cases this
   ·rw [e]
    split at hf
    ·cases hf
    ·simp only [sJ] at hf
     subst hf;rfl
 by_cases h2:w.length>1
 ·rw [iP oM,iP ⟨by omega,by omega⟩]
  cases w with
  |nil=>exact absurd rfl hn
  |cons c l =>
   by_cases h3:c.toNat=48
   ·rw [iP (show (((c :: l).getD 0 0).toNat:Int)=48 by simp [h3]),iP (Or.inr (Or.inl ⟨h2,by simp [h3]⟩))]
   ·rw [iN (show ¬ (((c :: l).getD 0 0).toNat:Int)=48 by simp;omega),hj]
    by_cases ha:∀ d∈c :: l,tDg d
    ·rw [iN (fun h=>h ha),iN (fun h=>h.elim h1 (fun h=>h.elim (fun h=>h3 (by simpa using h.2)) (fun h=>h ha)))]
    ·rw [iP ha,iP (Or.inr (Or.inr ha))]
 ·rw [iN oM,hj]
  by_cases ha:∀ d∈w,tDg d
  ·rw [iN (fun h=>h ha),iN (fun h=>h.elim h1 (fun h=>h.elim (fun h=>h2 h.1) (fun h=>h ha)))]
  ·rw [iP ha,iP (Or.inr (Or.inr ha))]
theorem ur(s l:List UInt8)(hl:l.length=2):gK s l=some (decide (s.take 2=l)):=by
 unfold gK fS
 by_cases h:(s.length:Int)≥(l.length:Int)
 ·rw [iP h,iP ⟨by omega,by omega⟩,hl]
  simp only [bSq]
  congr 1
  rw [Bool.eq_iff_iff]
  simp
 ·rw [iN h]
  simp only [bSq]
  congr 1;symm
  rw [decide_eq_false_iff_not]
  intro e
  have:(s.take 2).length=2:=by rw [e,hl]
  rw [List.length_take] at this
  omega
theorem AD(src:List UInt8)(p:Nat)(hp:p<src.length)(l:List aa) :
  ie src p l=some (if (src.drop p).take 2=[61,61]∨(src.drop p).take 2=[45,62] then (src.drop p).take 2 else if (src.getD p 0).toNat∈rN then [src.getD p 0] else []):=by
 unfold ie
 have b0:dw src p 0=if (src.drop p).take 2=[61,61] then some (.inr (.inr [61,61])) else some (.inl 1):=by
  unfold dw
  rw [iP dM,iP dM,iP ⟨by omega,by omega⟩,tN]
  show (gK (src.drop p) [61,61]).bind _=_
  rw [ur _ _ rfl]
  simp only [bSq,decide_eq_true_eq]
  rfl
 have b1:dw src p 1=if (src.drop p).take 2=[45,62] then some (.inr (.inr [45,62])) else some (.inl 2):=by
  unfold dw
  rw [iP dM,iP dM,iP ⟨by omega,by omega⟩,tN]
  show (gK (src.drop p) [45,62]).bind _=_
  rw [ur _ _ rfl]
  simp only [bSq,decide_eq_true_eq]
  rfl
 have b2:dw src p 2=some (.inr (.inl ())):=by
  unfold dw
  rw [iN dM]
 by_cases h1:(src.drop p).take 2=[61,61]
 ·rw [iP h1] at b0
  rw [a8 b0,iP (Or.inl h1),h1];rfl
 rw [iN h1] at b0
 rw [dZ b0]
 by_cases h2:(src.drop p).take 2=[45,62]
 ·rw [iP h2] at b1
  rw [a8 b1,iP (Or.inr h2),h2];rfl
 rw [iN h2] at b1
 rw [dZ b1,a8 b2,iN (fun h=>h.elim h1 h2)]
 simp only [bSq,Sum.elim_inl]
 unfold gu
 rw [iP (inI hp),tN]
 obtain ⟨c,hc⟩:∃ c,src.getD p 0=c:=⟨_,rfl⟩
 rw [hc]
 have hw:c.toNat<128→UInt8.ofNat ((IntKind.wrap .i32 (c.toNat:Int)).toNat)=c∧0≤IntKind.wrap .i32 (c.toNat:Int)∧IntKind.wrap .i32 (c.toNat:Int)<128:=fun h=>by
  have:IntKind.wrap .i32 (c.toNat:Int)=(c.toNat:Int):=by rw [IntKind.wrap_i32];omega
  rw [this]
  refine ⟨?_,by omega,by omega⟩
  simp
 have hj:∀ b:Bool,(b=true→c.toNat<128)→aG src p b=some (if b=true then [c] else []):=fun b hb=>by
  unfold aG
  rw [tN,hc]
  by_cases h:b=true
  ·obtain ⟨w1,w2,w3⟩:=hw (hb h)
   rw [iP h,iP h,iP ⟨w2,w3⟩,w1]
  ·rw [iN h,iN h]
 have step:∀ (n:Int) (ns:List Nat) (X:Option (List UInt8)),0≤n→n<128→X=some (if c.toNat∈ns then [c] else []) →
   (if (c.toNat:Int)=n then aG src p ((c.toNat:Int) == n) else X)=some (if c.toNat∈n.toNat :: ns then [c] else []):=fun n ns X h0 h1 hX=>by
  by_cases h:(c.toNat:Int)=n
  ·rw [iP h,hj _ (fun _=>by omega),iP (eQ h),iP (by rw [List.mem_cons];left;omega)]
  ·rw [iN h,hX]
   congr 1
   have:(c.toNat∈n.toNat :: ns)↔c.toNat∈ns:=by
    rw [List.mem_cons]
    constructor
    ·rintro (h'|h')
     ·exact absurd oM h
     ·exact h'
    ·exact Or.inr
   simp only [this]
 have last:aG src p ((c.toNat:Int) == 94)=some (if c.toNat∈[94] then [c] else []):=by
  rw [hj _ (fun h=>by have:=beq_iff_eq.1 h;omega)]
  congr 1
  have:((c.toNat:Int) == 94)=true↔c.toNat∈[94]:=by rw [beq_iff_eq,List.mem_singleton];omega
  simp only [this]
 exact step 40 _ _ dM dM (step 41 _ _ dM dM (step 123 _ _ dM dM (step 125 _ _ dM dM (step 91 _ _ dM dM (step 93 _ _ dM dM (step 60 _ _ dM dM
  (step 62 _ _ dM dM (step 44 _ _ dM dM (step 59 _ _ dM dM (step 58 _ _ dM dM (step 43 _ _ dM dM (step 45 _ _ dM dM (step 42 _ _ dM dM
  (step 47 _ _ dM dM (step 37 _ _ dM dM (step 61 _ _ dM dM last))))))))))))))))
theorem rP(n:Nat)(h:n≤1000000):d9 n 40:=by
 unfold d9
 have:maxLen=9223372036854775807:=rfl
 omega
theorem BM(src:List UInt8)(hl:src.length≤100000)(p:Nat)(hp:p<src.length)(l:List aa)(hll:l.length≤200000) :
  match qX p (src.drop p) with
  |.inl t=>gL src p l=some (0,((p+t.text.length:Nat):Int),l++[t])
  |.inr e=>e≠0∧∃ x,gL src p l=some (e,x,l):=by
 have hd:=sj src p hp
 obtain ⟨c,hc⟩:∃ c,src.getD p 0=c:=⟨_,rfl⟩
 have hs:=AD src p hp l
 have hr:=BL src hl p oM l
 rw [hc] at hd hs
 have hone:gL src p l=(some (decide (tSm c))).bind fun y5=>if y5=true then ((gn src p l).bind fun y6=>(lE y6.1).bind fun y7=>if y7=true then (bP p l y6.2 1 y6.1 0) else (if (y6.1.length:Int)>12 then (some (3,y6.2,l)) else (bP p l y6.2 2 y6.1 0))) else ((some (decide (tDg c))).bind fun y8=>if y8=true then ((gn src p l).bind fun y9=>(ku y9.1).bind fun y10=>if y10.2=true then (bP p l y9.2 3 y9.1 y10.1) else (some (2,y9.2,l))) else ((ie src p l).bind fun y11=>if y11=([]:List UInt8) then (some (1,(p:Int),l)) else (bP p l (IntKind.wrap .i64 (p+(y11.length:Int))) 4 y11 0))):=by
  unfold gL
  rw [iP (inI hp),tN,hc,rO,ry]
 have hj:∀ x1 x2 s3 x4,bP (p:Int) l x1 x2 s3 x4=some (0,x1,l++[aa.mk x2 p s3 x4]):=fun x1 x2 s3 x4=>by
  unfold bP
  rw [iP (rP _ oM)];rfl
 have hlen:(src.drop p).length=src.length - p:=List.length_drop
 rw [hone,hr]
 simp only [bSq,decide_eq_true_eq,hj,AC]
 rw [hs]
 simp only [bSq]
 clear hone hr hs hj
 generalize hsd:src.drop p=s at *
 subst hd
 unfold qX
 simp only
 by_cases h1:tSm c
 ·rw [iP h1,iP h1]
  by_cases hw:mX ((c :: src.drop (p+1)).takeWhile tAn)=true
  ·rw [iP hw,iP hw]
  ·rw [iN hw,iN hw]
   by_cases h12:((c :: src.drop (p+1)).takeWhile tAn).length>12
   ·rw [iP h12,iP oM]
    exact ⟨by decide,_,rfl⟩
   ·rw [iN h12,iN oM]
 ·rw [iN h1,iN h1]
  by_cases h2:tDg c
  ·rw [iP h2,iP h2]
   have hne:(c :: src.drop (p+1)).takeWhile tAn≠[]:=by rw [List.takeWhile_cons,iP (tq (.inr h2))];simp
   rw [ye _ hne]
   simp only [bSq]
   cases hn:vK ((c :: src.drop (p+1)).takeWhile tAn) with
   |some n=>rfl
   |none=>exact ⟨by decide,_,rfl⟩
  ·rw [iN h2,iN h2]
   have hwr:∀ k:Nat,k≤2→IntKind.wrap .i64 ((p:Int)+(k:Int))=((p+k:Nat):Int):=fun k hk=>by rw [wr oM oM];omega
   have htk:((c :: src.drop (p+1)).take 2).length≤2:=by rw [List.length_take];omega
   by_cases h3:(c :: src.drop (p+1)).take 2=[61,61]∨(c :: src.drop (p+1)).take 2=[45,62]
   ·rw [iP h3,iP h3,iN (by simp),hwr _ htk]
   ·rw [iN h3,iN h3]
    by_cases h4:c.toNat∈rN
    ·rw [iP h4,iP h4,iN (by simp)]
     have:=hwr [c].length (by simp)
     rw [this]
    ·rw [iN h4,iN h4,iP rfl]
     exact ⟨by decide,_,rfl⟩
theorem yf(src:List UInt8)(hl:src.length≤100000):∀ (k p:Nat) (l:List aa),p≤src.length→src.length - p<k→l.length≤p →
  bJ (fun (x19,l20)=>gH src x19 l20) (((src.length - (blk false (src.drop p)).length:Nat):Int),l)=some (match lm k p (src.drop p) with
   |.inl m=>.inl ((src.length:Int),l++m)
   |.inr f=>.inr ([],f)):=by
 intro k
 induction k with
 |zero=>intro p l _ h;omega
 |succ k ih =>
  intro p l hp hk hll
  have hb:=tp false (src.drop p)
  have hbd:=zr false (src.drop p)
  have hlen:(src.drop p).length=src.length - p:=List.length_drop
  rw [lH]
  cases e:blk false (src.drop p) with
  |nil =>
   simp only [List.length_nil,Nat.sub_zero]
   rw [a8 (o:=.inl ((src.length:Int),l)) (by
    show gH src src.length l=_
    unfold gH
    rw [iN (jc _)])]
   simp
  |cons c m =>
   simp only
   rw [e] at hb hbd
   have hcm:(c :: m).length=m.length+1:=rfl
   obtain ⟨q,hq⟩:∃ q,q=src.length - (c :: m).length:=⟨_,rfl⟩
   have hqp:p+((src.drop p).length - (c :: m).length)=q:=by omega
   have hdq:src.drop q=c :: m:=by
    rw [hbd,List.drop_drop,← hqp]
   have h1:=BM src hl q oM l oM
   rw [← hq,hqp]
   rw [hdq] at h1
   cases ht:qX q (c :: m) with
   |inr er =>
    rw [ht] at h1
    obtain ⟨hne,x,h1⟩:=h1
    rw [a8 (o:=.inr ([],ai.mk er q)) (by
     show gH src q l=_
     unfold gH
     rw [iP oM,h1]
     simp only [bSq]
     rw [iP hne])]
   |inl t =>
    rw [ht] at h1
    simp only at h1
    obtain ⟨t1,t2,t3⟩:=qe ht
    have hpos:0<t.text.length:=List.length_pos_iff.2 t2
    have hle:=t3.length_le
    have hdt:src.drop (q+t.text.length)=(c :: m).drop t.text.length:=by rw [← List.drop_drop,hdq]
    rw [dZ (s':=(((src.length - (blk false (src.drop (q+t.text.length))).length:Nat):Int),l++[t])) (by
     show gH src q l=_
     unfold gH
     rw [iP oM,h1]
     simp only [bSq]
     rw [iN (by simp),vL src hl _ oM]
     rfl),ih (q+t.text.length) (l++[t]) oM oM (by simp;omega),hdt]
    simp only
    cases lm k (q+t.text.length) ((c :: m).drop t.text.length) with
    |inr f=>rfl
    |inl m2=>simp
def n7(src:List UInt8):List aa×ai :=
 if src.length>12000 then ([],ai.mk 7 12000) else match lm (src.length+1) 0 src with
  |.inl m=>(m,ai.mk 0 0)
  |.inr f=>([],f)
theorem xy(src:List UInt8)(hl:src.length≤100000):kf src=some (n7 src):=by
 unfold kf n7
 by_cases h:src.length>12000
 ·rw [iP oM,iP h]
 rw [iN oM,iN h]
 have hb:=vL src hl 0 oM []
 simp only [Int.natCast_zero] at hb
 rw [hb]
 simp only [bSq]
 rw [yf src hl (src.length+1) 0 [] oM oM (by simp)]
 rw [List.drop_zero]
 cases lm (src.length+1) 0 src with
 |inr f=>rfl
 |inl m=>rfl
def kT(l:List (List UInt8))(x:List UInt8):Int:=match to (T:=Unit) l.length (fun i=>if x=l.getD i default then some (i:Int) else none) () with|.inl _=>-1|.inr z=>z
theorem pM(l:List (List UInt8))(x:List UInt8)(h:l.length≤9000000):dq l x=some (kT l x):=by
 unfold dq
 rw [n6 l.length (fun i=>if x=l.getD i default then some (i:Int) else none) () (fun i hi=>by
  unfold eM
  rw [iP (ltI hi),iP (inI hi),tN]
  by_cases e:x=l.getD i default
  ·rw [iP e,iP e]
  ·rw [iN e,iN e,wrs i oM]) (by unfold eM;rw [iN (jc _)])]
 simp only [bSq]
 unfold kT dB
 split<;>rename_i h2<;>rw [h2]<;>rfl
theorem vN(l:List (List UInt8))(x:List UInt8)(h:l.length≤9000000):eN l x=some (decide (kT l x≥0)):=by
 unfold eN;rw [pM l x h];rfl
def isB(l:List (List UInt8)):List aa→Bool
 |t :: _=>decide (¬ t.kind=2) && decide (kT l t.text≥0)
 |[]=>false
theorem CX(l:List (List UInt8))(p:af)(h:l.length≤9000000):aE l p=some (isB l p.l):=by
 unfold aE
 cases hl:p.l with
 |nil=>rfl
 |cons t r =>
  rw [iP (by simp),iP (by simp),vN _ _ h]
  simp only [List.getD_cons_zero,isB]
  by_cases hk:t.kind=2
  ·rw [iN (fun x=>x hk)];simp [hk]
  ·rw [iP hk];simp [hk]
theorem hO(t:aa)(r:List aa)(a b c:Int):aD (af.mk (t :: r) a b c)=some (t,r):=by
 unfold aD
 rw [iP (by simp),iP (by simp;omega)]
 rfl
theorem ln{S O:Type}(body:S→Option (S ⊕ O))(s:S):bJ body s=(body s).bind (Sum.elim (bJ body) some):=by
 rw [qa];cases body s with
 |none=>rfl
 |some x=>cases x<;>rfl
theorem iH(l:List (List UInt8))(a:List aa)(b c d:Int)(h:l.length≤9000000):aE l (af.mk a b c d)=some (isB l a):=CX l _ h
def tu:List UInt8:=[110,111,100,101,32,109,97,105,110,40,120,58,32,105,110,116,41,32,45,62,32,40,121,58,32,105,110,116,41,32,123,32,121,32,61,32,120,32,45,32,49,32,45,32,50,59,32,125]
def wH:List aa:=[aa.mk 1 0 [110,111,100,101] 0,aa.mk 2 5 [109,97,105,110] 0,aa.mk 4 9 [40] 0,aa.mk 2 10 [120] 0,aa.mk 4 11 [58] 0,aa.mk 1 13 [105,110,116] 0,aa.mk 4 16 [41] 0,aa.mk 4 18 [45,62] 0,aa.mk 4 21 [40] 0,aa.mk 2 22 [121] 0,aa.mk 4 23 [58] 0,aa.mk 1 25 [105,110,116] 0,aa.mk 4 28 [41] 0,aa.mk 4 30 [123] 0,aa.mk 2 32 [121] 0,aa.mk 4 34 [61] 0,aa.mk 2 36 [120] 0,aa.mk 4 38 [45] 0,aa.mk 3 40 [49] 1,aa.mk 4 42 [45] 0,aa.mk 3 44 [50] 2,aa.mk 4 45 [59] 0,aa.mk 4 47 [125] 0]
theorem wI:n7 tu=(wH,ai.mk 0 0):=by decide
set_option maxHeartbeats 8000000
set_option maxRecDepth 100000
theorem wJ(m:Nat)(o:Int):dY (m+40) (af.mk [aa.mk 2 36 [120] 0,aa.mk 4 38 [45] 0,aa.mk 3 40 [49] 1,aa.mk 4 42 [45] 0,aa.mk 3 44 [50] 2,aa.mk 4 45 [59] 0,aa.mk 4 47 [125] 0] 48 0 o) =
  some (.inl (ag.mk 5 2 0 [] [] [ag.mk 5 2 0 [] [] [ag.mk 3 0 0 [120] [] [],ag.mk 1 0 1 [] [] []],ag.mk 1 0 2 [] [] []],[aa.mk 4 45 [59] 0,aa.mk 4 47 [125] 0],0,5)):=by
 simp (decide:=true) [dY,cS,kK,dj,di,eg,eh,jk,cR,bW,e9,dQ,eZ,bV,fV,ig,dP,bf,cY,hO,iH,pM,ln,lit,isB,IntKind.wrap]
theorem wK(m:Nat):jP (m+40)=some true:=by
 have hs:kf tu=some (wH,ai.mk 0 0):=by rw [xy _ dM,wI]
 have hp:im (m+40) tu=some (bI.mk [bx.mk [109,97,105,110] 0 [] [az.mk [120] (kd.mk 105 [])] [az.mk [121] (kd.mk 105 [])] [] [TEq.mk 32 [[121]] [] [] [ag.mk 5 2 0 [] [] [ag.mk 5 2 0 [] [] [ag.mk 3 0 0 [120] [] [],ag.mk 1 0 1 [] [] []],ag.mk 1 0 2 [] [] []]]]],ai.mk 0 0):=by
  unfold im
  rw [hs]
  simp (decide:=true) [wH,tu,gY,gX,fN,fG,cW,cV,bk,cT,co,cU,el,de,dO,dh,dr,gN,aA,bt,bm,eH,c7,dE,dD,wJ,bf,cY,hO,iH,ln,lit,isB,IntKind.wrap,d9,maxLen]
 unfold jP
 rw [show ([110,111,100,101,32,109,97,105,110,40,120,58,32,105,110,116,41,32,45,62,32,40,121,58,32,105,110,116,41,32,123,32,121,32,61,32,120,32,45,32,49,32,45,32,50,59,32,125]:List UInt8)=tu from rfl,hp]
 simp
def Pn{α:Type}(m:Option α)(Q:α→Prop):Prop:=∃ a,m=some a∧Q a
theorem bn{α:Type}{a:α}{Q:α→Prop}(h:Q a):Pn (some a) Q:=⟨a,rfl,h⟩
theorem bD{α β:Type}{m:Option α}{f:α→Option β}{P:α→Prop}{Q:β→Prop}(h:Pn m P)(hf:∀ a,P a→Pn (f a) Q):Pn (m.bind f) Q:=by
 obtain ⟨a,rfl,ha⟩:=h;exact hf a ha
theorem qf{α:Type}{m:Option α}{P Q:α→Prop}(h:Pn m P)(hf:∀ a,P a→Q a):Pn m Q:=by
 obtain ⟨a,rfl,ha⟩:=h;exact ⟨a,rfl,hf a ha⟩
theorem tx{α β:Type}{m:Option α}{a:α}{f:α→Option β}{Q:β→Prop}(h:m=some a)(hf:Pn (f a) Q):Pn (m.bind f) Q:=by
 rw [h];exact hf
def At(E:Int)(f:Int×Int):Prop:=f.1≠0∧0≤f.2∧f.2≤E
abbrev Po{α:Type}(E:Int)(Q:α→Prop):α ⊕ (Int×Int)→Prop:=Sum.elim Q (At E)
theorem gk{α:Type}{E:Int}{a:α}{Q:α→Prop}(h:Q a):Pn (some (.inl a)) (Po E Q):=bn h
theorem BN{α:Type}{E:Int}{a:Int×Int}{Q:α→Prop}(h:At E a):Pn (some (.inr (a.1,a.2))) (Po E Q):=bn h
theorem d8{α β:Type}{E:Int}{m:Option (α ⊕ (Int×Int))}{f:α→Option (β ⊕ (Int×Int))}{A:α→Prop}{Q:β→Prop}(h:Pn m (Po E A))
  (hf:∀ a,A a→Pn (f a) (Po E Q)):Pn (m.bind fun y=>Sum.elim f (fun z=>some (.inr (z.1,z.2))) y) (Po E Q):=by
 obtain ⟨a,rfl,ha⟩:=h
 cases a with
 |inl a=>exact hf a ha
 |inr b=>exact bn ha
theorem oL{α:Type}{E:Int}{m:Option (Int×Int)}{Q:α→Prop}(h:Pn m (At E)):Pn (m.bind fun y=>some (.inr (y.1,y.2))) (Po E Q):=by
 obtain ⟨a,rfl,ha⟩:=h;exact bn ha
theorem oN{α:Type}{E:Int}{m:Option (α ⊕ (Int×Int))}{P Q:α→Prop}(h:Pn m (Po E P))(hf:∀ a,P a→Q a):Pn m (Po E Q) :=
 qf h fun a ha=>by
  cases a with
  |inl a=>exact hf a ha
  |inr b=>exact ha
abbrev Pl{S T R:Type}(E:Int)(C:S→Prop)(B:T→Prop)(Q:R→Prop):S ⊕ (T ⊕ (R ⊕ (Int×Int)))→Prop:=Sum.elim C (Sum.elim B (Po E Q))
theorem qC{α S T R:Type}{E:Int}{m:Option (α ⊕ (Int×Int))}{f:α→Option (S ⊕ (T ⊕ (R ⊕ (Int×Int))))}{A:α→Prop}{C:S→Prop}{B:T→Prop}{Q:R→Prop}(h:Pn m (Po E A))
  (hf:∀ a,A a→Pn (f a) (Pl E C B Q)):Pn (m.bind fun y=>Sum.elim f (fun z=>some (.inr (.inr (.inr (z.1,z.2))))) y) (Pl E C B Q):=by
 obtain ⟨a,rfl,ha⟩:=h
 cases a with
 |inl a=>exact hf a ha
 |inr b=>exact bn ha
theorem sF{S T R:Type}{E:Int}{m:Option (Int×Int)}{C:S→Prop}{B:T→Prop}{Q:R→Prop}(h:Pn m (At E)):Pn (m.bind fun y=>some (.inr (.inr (.inr (y.1,y.2))))) (Pl E C B Q):=by
 obtain ⟨a,rfl,ha⟩:=h;exact bn ha
theorem oO{S O:Type}{body:S→Option (S ⊕ O)}(I:S→Prop)(μ:S→Nat){post:O→Prop}{s:S}(h:I s)
  (step:∀ s,I s→Pn (body s) (Sum.elim (fun s'=>I s'∧μ s'<μ s) post)):Pn (bJ body s) post :=
 xU I μ post (fun s hs=>by
  obtain ⟨a,h1,h2⟩:=step s hs
  cases a with
  |inl s'=>exact .inl ⟨s',h1,h2⟩
  |inr o=>exact .inr ⟨o,h1,h2⟩) s h
theorem qg{S T R:Type}{E:Int}{body:S→Option (S ⊕ (T ⊕ (R ⊕ (Int×Int))))}{k:T→Option (R ⊕ (Int×Int))}(I:S→Prop)(μ:S→Nat)(B:T→Prop){Q:R→Prop}{s:S}(h:I s)
  (step:∀ s,I s→Pn (body s) (Pl E (fun s'=>I s'∧μ s'<μ s) B Q)) (hk:∀ b,B b→Pn (k b) (Po E Q)):Pn ((bJ body s).bind (Sum.elim k (fun z=>some z))) (Po E Q) :=
 bD (oO I μ h step) fun a ha=>by
  cases a with
  |inl b=>exact hk b ha
  |inr r=>exact bn ha
def br(t:aa):Bool:=decide (t.kind≠2) && decide (t.text=[125])
def iX(E:Int)(l:List aa):Prop:=l.length≤9000000∧∀ t∈l,(t.kind=3→t.text≠[125])∧0≤t.at_∧t.at_≤E
def Rd(l l':List aa):Prop:=∃ c,l=c++l'∧∀ t∈c,br t=false
def Cs(l l':List aa):Prop:=Rd l l'∧l'.length<l.length
theorem Rd.refl(l:List aa):Rd l l:=⟨[],rfl,fun _ h=>nomatch h⟩
theorem Rd.trans{a b c:List aa}(h:Rd a b)(k:Rd b c):Rd a c:=by
 obtain ⟨x,rfl,hx⟩:=h;obtain ⟨y,rfl,hy⟩:=k
 exact ⟨x++y,by simp,fun t ht=>by rcases List.mem_append.1 ht with h|h;exact hx t h;exact hy t h⟩
theorem Rd.len{a b:List aa}(h:Rd a b):b.length≤a.length:=by obtain ⟨x,rfl,_⟩:=h;simp
theorem Rd.good{E:Int}{a b:List aa}(h:Rd a b)(g:iX E a):iX E b:=by
 obtain ⟨x,rfl,_⟩:=h;exact ⟨by have:=g.1;simp only [List.length_append] at this;omega,fun t ht=>g.2 t (List.mem_append_right _ ht)⟩
theorem Cs.trans{a b c:List aa}(h:Cs a b)(k:Cs b c):Cs a c:=⟨h.1.trans k.1,by have:=h.2;have:=k.2;omega⟩
theorem Cs.rd{a b c:List aa}(h:Cs a b)(k:Rd b c):Cs a c:=⟨h.1.trans k,by have:=h.2;have:=k.len;omega⟩
theorem Rd.cs{a b c:List aa}(h:Rd a b)(k:Cs b c):Cs a c:=⟨h.trans k.1,by have:=h.len;have:=k.2;omega⟩
theorem Cs.good{E:Int}{a b:List aa}(h:Cs a b)(g:iX E a):iX E b:=h.1.good g
theorem tz{t:aa}{l:List aa}(h:br t=false):Cs (t :: l) l:=⟨⟨[t],rfl,fun x hx=>by rw [List.mem_singleton.1 hx];exact h⟩,by simp⟩
theorem AE{t:aa}(h:t.kind=2):br t=false:=by simp [br,h]
theorem zt{E:Int}{t:aa}{l:List aa}(g:iX E (t :: l))(h:t.kind=3):br t=false:=by simp [br,(g.2 t (by simp)).1 h]
theorem oP{t:aa}{W:List (List UInt8)}(h:t.text∈W)(hw:([125]:List UInt8) ∉ W):br t=false:=by
 have:t.text≠[125]:=fun e=>hw (e ▸ h)
 simp [br,this]
theorem n8{L:List (List UInt8)}{x:List UInt8}(h:kT L x≥0):x∈L:=by
 unfold kT at h
 rcases mW (T:=Unit) L.length (fun i=>if x=L.getD i default then some (i:Int) else none) () with ⟨he,_⟩|⟨i,z,hi,hf,he⟩
 ·rw [he] at h;exact absurd h dM
 ·by_cases e:x=L.getD i default
  ·rw [e];exact kG hi
  ·rw [iN e] at hf;cases hf
theorem nl{L:List (List UInt8)}{x:List UInt8}:kT L x<(L.length:Int):=by
 unfold kT
 rcases mW (T:=Unit) L.length (fun i=>if x=L.getD i default then some (i:Int) else none) () with ⟨he,_⟩|⟨i,z,hi,hf,he⟩
 ·rw [he];show (-1:Int)<_;omega
 ·rw [he]
  by_cases e:x=L.getD i default
  ·rw [iP e] at hf;cases hf;show (i:Int)<_;omega
  ·rw [iN e] at hf;cases hf
theorem nm{L:List (List UInt8)}{x:List UInt8}(h:x∈L):0≤kT L x:=by
 unfold kT
 rcases mW (T:=Unit) L.length (fun i=>if x=L.getD i default then some (i:Int) else none) () with ⟨he,hn⟩|⟨i,z,hi,hf,he⟩
 ·obtain ⟨i,hi,e⟩:=List.mem_iff_getElem.1 h
  have:=hn i hi
  rw [iP (by rw [List.getD_eq_getElem?_getD,List.getElem?_eq_getElem hi,Option.getD_some,e])] at this
  cases this
 ·rw [he]
  by_cases e:x=L.getD i default
  ·rw [iP e] at hf;cases hf;show (0:Int)≤i;omega
  ·rw [iN e] at hf;cases hf
theorem jS{L:List (List UInt8)}{l:List aa}(h:isB L l=true):∃ t r,l=t :: r∧t.kind≠2∧t.text∈L:=by
 cases l with
 |nil=>cases h
 |cons t r =>
  simp only [isB,Bool.and_eq_true,decide_eq_true_eq] at h
  exact ⟨t,r,rfl,h.1,n8 h.2⟩
theorem iV{E c o t:Int}{l:List aa}(hc:c≠0)(hE:0≤E)(g:iX E l):Pn (aC c ⟨l,E,o,t⟩) (At E):=by
 unfold aC
 cases l with
 |nil =>
  rw [iN (by simp)]
  by_cases h:c=4
  ·rw [iP h];exact bn ⟨show (5:Int)≠0 by decide,hE,Int.le_refl _⟩
  ·rw [iN h];exact bn ⟨hc,hE,Int.le_refl _⟩
 |cons x r =>
  rw [iP (by simp),iP (by simp)]
  exact bn ⟨hc,(g.2 x (by simp)).2⟩
theorem lw{E o t:Int}{l:List aa}(L:List (List UInt8))(h:L.length≤9000000):Pn (aE L ⟨l,E,o,t⟩) (fun b=>b=isB L l) :=
 ⟨_,iH L l E o t h,rfl⟩
theorem BO{E o t:Int}{l:List aa}(w:List UInt8):Pn (bm w ⟨l,E,o,t⟩) (fun r=>(r.1=true∧∃ x,l=x :: r.2∧x.kind≠2∧x.text=w)∨(r.1=false∧r.2=l∧isB [w] l=false)):=by
 unfold bm
 rw [iH _ _ _ _ _ (by simp [lit])]
 simp only [bSq]
 by_cases h:isB [w] l=true
 ·obtain ⟨x,r,rfl,hk,hx⟩:=jS h
  rw [show isB (lit [w]) (x :: r)=true from h,iP rfl,hO]
  exact bn (.inl ⟨rfl,x,rfl,hk,by simpa using hx⟩)
 ·have h':isB [w] l=false:=by simpa using h
  rw [show isB (lit [w]) l=false from h',iN dM]
  exact bn (.inr ⟨rfl,rfl,h'⟩)
theorem nD{E o t:Int}{l:List aa}(w:List UInt8)(hw:w≠[125]):Pn (bm w ⟨l,E,o,t⟩) (fun r=>Rd l r.2) :=
 qf (BO w) fun r hr=>by
  rcases hr with ⟨_,x,h,_,hx⟩|⟨_,h,_⟩
  ·rw [h];exact (tz (oP (W:=[w]) (by simp [hx]) (by simpa using hw.symm))).1
  ·rw [h];exact Rd.refl _
theorem xz{E o t:Int}{l:List aa}(k:Int)(hE:0≤E)(g:iX E l):Pn (cY k ⟨l,E,o,t⟩) (Po E fun r=>l=r.1 :: r.2∧r.1.kind=k):=by
 unfold cY
 cases l with
 |nil=>rw [iP (by simp)];exact oL (iV dM hE g)
 |cons x r =>
  rw [iN (by simp;omega),iP (by simp)]
  simp only [List.getD_cons_zero]
  by_cases h:x.kind=k
  ·rw [iN (fun z=>z h),hO];exact gk ⟨rfl,h⟩
  ·rw [iP h];exact oL (iV dM hE g)
theorem nn{E o t:Int}{l:List aa}(hE:0≤E)(g:iX E l):Pn (bf ⟨l,E,o,t⟩) (Po E fun r=>Cs l r.2):=by
 unfold bf
 refine d8 (xz 2 hE g) fun a ha=>gk ?_
 rw [ha.1];exact tz (AE ha.2)
theorem BP{E o t:Int}{l:List aa}(hE:0≤E)(g:iX E l):Pn (cY 3 ⟨l,E,o,t⟩) (Po E fun r=>Cs l r.2) :=
 oN (xz 3 hE g) fun a ha=>by
  have g':=g
  rw [ha.1] at g' ⊢;exact tz (zt g' ha.2)
theorem AF{E o t:Int}(W:List (List UInt8))(hW:W.length≤1000){l:List aa}(hE:0≤E)(g:iX E l) :
  Pn (aA W ⟨l,E,o,t⟩) (Po E fun l'=>∃ c,l=c++l'∧c.map (·.text)=W∧∀ x∈c,x.kind≠2):=by
 unfold aA
 refine bD (P:=Po E fun l'=>∃ c,l=c++l'∧c.map (·.text)=W∧∀ x∈c,x.kind≠2) ?_ fun a ha=>bn ha
 refine oO (I:=fun s=>∃ k:Nat,s.2=(k:Int)∧k≤W.length∧∃ c,l=c++s.1∧c.map (·.text)=W.take k∧∀ x∈c,x.kind≠2) (μ:=fun s=>W.length - s.2.toNat) ⟨0,rfl,by omega,[],rfl,rfl,fun _ h=>nomatch h⟩ ?_
 rintro ⟨l5,x6⟩ ⟨k,hk,hkl,c,hc,hcm,hck⟩
 cases hk
 show Pn (bt W ⟨l,E,o,t⟩ l5 (k:Int)) _
 unfold bt
 by_cases hlt:k<W.length
 ·rw [iP (ltI hlt),iP (inI hlt),tN]
  refine bD (lw _ (by simp [lit])) fun b hb=>?_
  subst hb
  by_cases h:isB (lit [W.getD k default]) l5=true
  ·rw [iP h]
   obtain ⟨x,r,rfl,hx,hxt⟩:=jS h
   rw [hO]
   simp only [bSq]
   rw [wrs k oM]
   refine bn ⟨⟨k+1,rfl,by omega,c++[x],by rw [hc];simp,?_,fun y hy=>?_⟩,?_⟩
   ·rw [List.map_append,hcm,tv W hlt]
    simp only [lit,List.mem_singleton] at hxt
    simp [hxt]
   ·rcases List.mem_append.1 hy with h|h
    ·exact hck y h
    ·rw [List.mem_singleton.1 h];exact hx
   ·show W.length - ((k+1:Nat):Int).toNat<W.length - ((k:Nat):Int).toNat
    omega
  ·rw [iN h]
   have g':iX E l5:=⟨by have:=g.1;rw [hc,List.length_append] at this;exact Nat.le_trans (Nat.le_add_left _ _) this,fun x hx=>g.2 x (by rw [hc];exact List.mem_append_right _ hx)⟩
   refine bD (iV dM hE g') fun a ha=>bn ha
 ·rw [iN oM]
  refine bn ⟨c,hc,?_,hck⟩
  rw [hcm,List.take_of_length_le oM]
theorem io{E o t:Int}(W:List (List UInt8)){l:List aa}(hE:0≤E)(g:iX E l)(hW:W.length≤1000∧0<W.length∧([125]:List UInt8) ∉ W) :
  Pn (aA W ⟨l,E,o,t⟩) (Po E fun l'=>Cs l l') :=
 oN (AF W hW.1 hE g) fun l' ⟨c,h,hm,hk⟩=>by
  refine ⟨⟨c,h,fun x hx=>oP (W:=W) (by rw [← hm];exact List.mem_map_of_mem hx) hW.2.2⟩,?_⟩
  rw [h,List.length_append]
  have:c.length=W.length:=by rw [← hm,List.length_map]
  omega
theorem jG{n b:Nat}(h:n≤9000001)(hb:b≤1000):d9 n b:=by
 unfold d9 maxLen
 have:=Nat.mul_le_mul h hb
 omega
theorem zv{E o t:Int}{l:List aa}{L:List (List UInt8)}(h:isB L l=true)(hL:([125]:List UInt8) ∉ L):Pn (aD ⟨l,E,o,t⟩) (fun r=>Cs l r.2∧l=r.1 :: r.2∧r.1.text∈L):=by
 obtain ⟨x,r,rfl,_,hx⟩:=jS h
 rw [hO];exact bn ⟨tz (oP hx hL),rfl,hx⟩
theorem u7{E o t:Int}{l:List aa}(n:Int)(hE:0≤E)(g:iX E l):Pn (fE n ⟨l,E,o,t⟩) (Po E fun r=>Cs l r.2):=by
 have hj:Pn (dx n ⟨l,E,o,t⟩) (Po E fun r=>Cs l r.2):=by
  unfold dx
  refine d8 (BP hE g) fun a ha=>?_
  refine bD (nD [42] dM) fun b hb=>?_
  split
  ·exact d8 (nn hE (hb.good (ha.good g))) fun c hc=>gk ((ha.rd hb).trans hc)
  ·exact gk (ha.rd hb)
 unfold fE
 cases l with
 |nil=>rw [iN (by simp)];exact hj
 |cons x r =>
  rw [iP (by simp),iP (by simp)]
  split
  ·exact d8 (nn hE g) fun c hc=>gk hc
  ·exact hj
theorem rz{E o t:Int}{l:List aa}(hE:0≤E)(g:iX E l):Pn (cZ ⟨l,E,o,t⟩) (Po E fun r=>Cs l r.2∧r.1.length≤9000000):=by
 have hj:∀ (l1:List aa) (n:Int),Rd l l1→Pn (dz ⟨l,E,o,t⟩ l1 n) (Po E fun r=>Cs l r.2∧r.1.length≤9000000):=by
  intro l1 n h1
  unfold dz
  refine d8 (u7 n hE (h1.good g)) fun a ha=>?_
  refine qg (fun s=>Cs l s.1∧s.2.length+s.1.length≤l.length) (fun s=>s.1.length) (fun s=>Cs l s.1∧s.2.length≤9000000) ⟨h1.cs ha,?_⟩ ?_ fun b hb=>gk hb
  ·have:=(h1.cs ha).2;simp only [lit,List.length_cons,List.length_nil];omega
  ·rintro ⟨l25,l26⟩ ⟨hc,hl⟩
   have hc:Cs l l25:=hc
   have hl:l26.length+l25.length≤l.length:=hl
   have hg:=g.1
   show Pn (ff ⟨l,E,o,t⟩ l25 l26) _
   unfold ff
   refine bD (lw _ (by simp [lit])) fun b hb=>?_
   subst hb
   split
   ·rename_i hi
    split
    ·exact sF (iV dM hE (hc.good g))
    ·refine bD (zv hi (by simp [lit])) fun c hcn=>?_
     have key:∀ n,Pn (dy ⟨l,E,o,t⟩ l26 c.2 n) (Pl E (fun s'=>(Cs l s'.1∧s'.2.length+s'.1.length≤l.length)∧s'.1.length<l25.length) (fun s=>Cs l s.1∧s.2.length≤9000000) (fun r=>Cs l r.2∧r.1.length≤9000000)):=by
      intro n
      unfold dy
      refine qC (u7 n hE ((hc.trans hcn.1).good g)) fun d hd=>?_
      have:=hcn.1.2
      have:=hd.2
      rw [iP (jG oM dM)]
      refine bn ⟨⟨(hc.trans hcn.1).trans hd,?_⟩,?_⟩
      ·show (l26++lit [d.1]).length+d.2.length≤l.length
       rw [List.length_append];simp only [lit,List.length_cons,List.length_nil];omega
      ·show d.2.length<l25.length
       omega
     split
     ·exact key _
     ·exact key _
   ·exact bn ⟨hc,by show l26.length≤_;omega⟩
 unfold cZ
 refine bD (nD [45] dM) fun b hb=>?_
 split
 ·exact hj _ _ hb
 ·exact hj _ _ hb
theorem BQ{E o t:Int}{l:List aa}(hE:0≤E)(g:iX E l):Pn (gN ⟨l,E,o,t⟩) (Po E fun r=>Cs l r.2∧r.1.n.length≤9000000):=by
 unfold gN
 refine bD (lw _ (by simp [lit])) fun b hb=>?_
 subst hb
 split
 ·rename_i hi
  refine bD (zv hi (by simp [lit])) fun c hc=>?_
  rw [iP (by
   have:=hc.2.2
   simp only [lit,List.mem_cons,List.not_mem_nil,or_false] at this
   rcases this with h|h<;>rw [h]<;>decide)]
  refine bD (nD [94] dM) fun d hd=>?_
  split
  ·exact d8 (rz hE (hd.good (hc.1.good g))) fun e he=>gk ⟨(hc.1.rd hd).trans he.1,he.2⟩
  ·exact gk ⟨hc.1.rd hd,Nat.zero_le _⟩
 ·exact oL (iV dM hE g)
theorem sG{E o t:Int}{l:List aa}(hE:0≤E)(g:iX E l):Pn (dr ⟨l,E,o,t⟩) (Po E fun r=>Cs l r.2∧r.1.t.n.length≤9000000):=by
 unfold dr
 refine d8 (nn hE g) fun a ha=>?_
 refine d8 (io _ hE (ha.good g) (by simp [lit])) fun b hb=>?_
 refine d8 (BQ hE ((ha.trans hb).good g)) fun c hc=>gk ⟨(ha.trans hb).trans hc.1,hc.2⟩
theorem tA{α β:Type}{E:Int}{l1:List aa}{acc:List β}{m:Option (α ⊕ (Int×Int))}{mb:α→Option (Bool×List aa)}{A:α→List aa}{K:α→Prop}
  {S:Type} {R:Type} {st:α→Bool×List aa→S} {rs:α→Bool×List aa→R} {rm:Nat} {C:S→Prop} {Q:R→Prop}
  (hm:Pn m (Po E fun a=>Cs l1 (A a)∧K a)) (hb:∀ a,Cs l1 (A a)→Pn (mb a) (fun r=>Rd (A a) r.2)) (hr:acc.length+1≤9000001) (hrm:rm≤1000)
  (hC:∀ a b,K a→Cs l1 b.2→C (st a b)) (hQ:∀ a b,K a→Cs l1 b.2→Q (rs a b)) :
  Pn (m.bind fun y=>Sum.elim (fun a=>if d9 (acc.length+1) rm then ((mb a).bind fun b=>if b.1=true then some (.inl (st a b)) else some (.inr (.inl (rs a b)))) else none) (fun z=>some (.inr (.inr (z.1,z.2)))) y)
   (Sum.elim C (Po E Q)):=by
 obtain ⟨x,rfl,hx⟩:=hm
 cases x with
 |inr z=>exact bn hx
 |inl a =>
  show Pn (if d9 (acc.length+1) rm then _ else none) _
  rw [iP (jG hr hrm)]
  refine bD (hb a hx.1) fun b hb'=>?_
  split
  ·exact bn (hC a b hx.2 (Cs.rd hx.1 hb'))
  ·exact bn (hQ a b hx.2 (Cs.rd hx.1 hb'))
theorem qD{E o t:Int}{l:List aa}(n:Int)(hE:0≤E)(g:iX E l):Pn (dO n ⟨l,E,o,t⟩) (Po E fun r=>Cs l r.2∧r.1.length≤9000000∧∀ x∈r.1,True):=by
 unfold dO
 refine bD (P:=Po E fun r=>Cs l r.2∧r.1.length≤9000000∧∀ x∈r.1,True) ?_ fun a ha=>bn ha
 refine oO (fun s=>Rd l s.1∧s.2.length+s.1.length≤l.length∧∀ x∈s.2,True) (fun s=>s.1.length) ⟨Rd.refl _,by simp,fun _ h=>nomatch h⟩ ?_
 rintro ⟨l13,l14⟩ ⟨hc,hl,hk⟩
 have hc:Rd l l13:=hc
 have hl:l14.length+l13.length≤l.length:=hl
 have hk:∀ x∈l14,True:=hk
 show Pn (dh n ⟨l,E,o,t⟩ l13 l14) _
 unfold dh
 have:=g.1
 split
 ·exact bD (iV dM hE (hc.good g)) fun a ha=>bn ha
 ·refine tA (A:=fun a=>a.2) (K:=fun a=>∀ x∈lit [a.1],True) (qf (nn hE (hc.good g)) fun a ha=>?_) (fun a _=>nD [44] dM) oM dM (fun a b ha h=>⟨⟨(hc.cs h).1,?_,?_⟩,h.2⟩) (fun a b ha h=>⟨hc.cs h,?_,?_⟩)
  ·cases a with
   |inl a=>exact ⟨ha,fun _ _=>trivial⟩
   |inr f=>exact ha
  ·have:=h.2
   show (l14++lit [a.1]).length+b.2.length≤l.length
   rw [List.length_append];simp only [lit,List.length_cons,List.length_nil];omega
  ·exact fun x hx=>(List.mem_append.1 hx).elim (hk x) (ha x)
  ·have:=h.2
   show (l14++lit [a.1]).length≤9000000
   rw [List.length_append];simp only [lit,List.length_cons,List.length_nil];omega
  ·exact fun x hx=>(List.mem_append.1 hx).elim (hk x) (ha x)
theorem o6{E o t:Int}{l:List aa}(n:Int)(hE:0≤E)(g:iX E l):Pn (el n ⟨l,E,o,t⟩) (Po E fun r=>Cs l r.2∧r.1.length≤9000000∧∀ x∈r.1,x.t.n.length≤9000000):=by
 unfold el
 refine bD (P:=Po E fun r=>Cs l r.2∧r.1.length≤9000000∧∀ x∈r.1,x.t.n.length≤9000000) ?_ fun a ha=>bn ha
 refine oO (fun s=>Rd l s.1∧s.2.length+s.1.length≤l.length∧∀ x∈s.2,x.t.n.length≤9000000) (fun s=>s.1.length) ⟨Rd.refl _,by simp,fun _ h=>nomatch h⟩ ?_
 rintro ⟨l13,l14⟩ ⟨hc,hl,hk⟩
 have hc:Rd l l13:=hc
 have hl:l14.length+l13.length≤l.length:=hl
 have hk:∀ x∈l14,x.t.n.length≤9000000:=hk
 show Pn (de n ⟨l,E,o,t⟩ l13 l14) _
 unfold de
 have:=g.1
 split
 ·exact bD (iV dM hE (hc.good g)) fun a ha=>bn ha
 ·refine tA (A:=fun a=>a.2) (K:=fun a=>∀ x∈lit [az.mk a.1.name a.1.t],x.t.n.length≤9000000) (qf (sG hE (hc.good g)) fun a ha=>?_) (fun a _=>nD [44] dM) oM dM (fun a b ha h=>⟨⟨(hc.cs h).1,?_,?_⟩,h.2⟩) (fun a b ha h=>⟨hc.cs h,?_,?_⟩)
  ·cases a with
   |inl a=>exact ⟨ha.1,fun x hx=>by rw [List.mem_singleton.1 hx];exact ha.2⟩
   |inr f=>exact ha
  ·have:=h.2
   show (l14++lit [az.mk a.1.name a.1.t]).length+b.2.length≤l.length
   rw [List.length_append];simp only [lit,List.length_cons,List.length_nil];omega
  ·exact fun x hx=>(List.mem_append.1 hx).elim (hk x) (ha x)
  ·have:=h.2
   show (l14++lit [az.mk a.1.name a.1.t]).length≤9000000
   rw [List.length_append];simp only [lit,List.length_cons,List.length_nil];omega
  ·exact fun x hx=>(List.mem_append.1 hx).elim (hk x) (ha x)
theorem sy{E o t:Int}{l:List aa}(n:Int)(hE:0≤E)(g:iX E l):Pn (f8 n ⟨l,E,o,t⟩) (Po E fun r=>Cs l r.2∧r.1.length≤9000000∧∀ x∈r.1,x.length≤9000000):=by
 unfold f8
 refine bD (P:=Po E fun r=>Cs l r.2∧r.1.length≤9000000∧∀ x∈r.1,x.length≤9000000) ?_ fun a ha=>bn ha
 refine oO (fun s=>Rd l s.1∧s.2.length+s.1.length≤l.length∧∀ x∈s.2,x.length≤9000000) (fun s=>s.1.length) ⟨Rd.refl _,by simp,fun _ h=>nomatch h⟩ ?_
 rintro ⟨l13,l14⟩ ⟨hc,hl,hk⟩
 have hc:Rd l l13:=hc
 have hl:l14.length+l13.length≤l.length:=hl
 have hk:∀ x∈l14,x.length≤9000000:=hk
 show Pn (dR n ⟨l,E,o,t⟩ l13 l14) _
 unfold dR
 have:=g.1
 split
 ·exact bD (iV dM hE (hc.good g)) fun a ha=>bn ha
 ·refine tA (A:=fun a=>a.2) (K:=fun a=>∀ x∈lit [a.1],x.length≤9000000) (qf (rz hE (hc.good g)) fun a ha=>?_) (fun a _=>nD [44] dM) oM dM (fun a b ha h=>⟨⟨(hc.cs h).1,?_,?_⟩,h.2⟩) (fun a b ha h=>⟨hc.cs h,?_,?_⟩)
  ·cases a with
   |inl a=>exact ⟨ha.1,fun x hx=>by rw [List.mem_singleton.1 hx];exact ha.2⟩
   |inr f=>exact ha
  ·have:=h.2
   show (l14++lit [a.1]).length+b.2.length≤l.length
   rw [List.length_append];simp only [lit,List.length_cons,List.length_nil];omega
  ·exact fun x hx=>(List.mem_append.1 hx).elim (hk x) (ha x)
  ·have:=h.2
   show (l14++lit [a.1]).length≤9000000
   rw [List.length_append];simp only [lit,List.length_cons,List.length_nil];omega
  ·exact fun x hx=>(List.mem_append.1 hx).elim (hk x) (ha x)
abbrev RX:=(ag×(List aa)×Int×Int) ⊕ (Int×Int)
def SzO(s:List (List aj)):Prop:=s.length≤9000000∧∀ d∈s,d.length≤9000000
theorem oQ:SzO []:=⟨by decide,fun _ h=>nomatch h⟩
def Hd:Nat→ag→Prop
 |0,_=>False
 |n+1,x=>x.l.length≤9000000∧SzO x.s∧∀ y∈x.l,Hd n y
theorem gQ:∀ {n m:Nat} {x:ag},n≤m→Hd n x→Hd m x
 |0,_,_,_,h=>nomatch h
 |n+1,0,_,h,_=>absurd h oM
 |n+1,m+1,x,h,⟨h1,h2,h3⟩=>⟨h1,h2,fun y hy=>gQ oM (h3 y hy)⟩
theorem qh{n m:Nat}{x:ag}(h:n<m)(h1:x.l.length≤9000000)(h2:SzO x.s)(h3:∀ y∈x.l,Hd n y):Hd m x:=gQ (n:=n+1) h ⟨h1,h2,h3⟩
theorem u9{m:Nat}{op k n:Int}{w:List UInt8}(h:0<m):Hd m (ag.mk op k n w [] []):=qh (n:=0) h (Nat.zero_le _) oQ fun _ h=>nomatch h
abbrev Ex(l:List aa)(o:Int)(r:ag×(List aa)×Int×Int):Prop:=Cs l r.2.1∧r.2.2.1=o∧Hd (l.length - r.2.1.length) r.1
def RK(E:Int)(rc:Int→af→Option RX)(k:Int):Prop :=
 ∀ (n o t:Int) (l:List aa),0≤n→n≤5→0≤o→o≤60→7 * (60 - o)+(6 - n)≤k→iX E l→Pn (rc n ⟨l,E,o,t⟩) (Po E (Ex l o))
def AK(E om:Int)(rc:af→Option RX)(k:Int):Prop :=
 ∀ (o t:Int) (l:List aa),om≤o→o≤60→61 - o≤k→iX E l→Pn (rc ⟨l,E,o,t⟩) (Po E (Ex l o))
def Nx(l:List aa):Prop:=∃ x r,l=x :: r∧br x=false
theorem tB{L:List (List UInt8)}{l:List aa}(h:isB L l=true)(hL:([125]:List UInt8) ∉ L):Nx l:=by
 obtain ⟨x,r,rfl,_,hx⟩:=jS h;exact ⟨x,r,rfl,oP hx hL⟩
theorem ut{E o t:Int}{l:List aa}(h:Nx l):Pn (aD ⟨l,E,o,t⟩) (fun r=>Cs l r.2):=by
 obtain ⟨x,r,rfl,hx⟩:=h
 rw [hO];exact bn (tz hx)
theorem n9{E o t:Int}{l:List aa}(ho0:0≤o)(ho:o≤60)(hE:0≤E)(g:iX E l)(hx:Nx l){X:af→Option RX}{H:ag→List aa→Prop}
  (hX:∀ l1,Cs l l1→o<60→Pn (X ⟨l1,E,o+1,t⟩) (Po E fun r=>Cs l1 r.2.1∧r.2.2.1=o+1∧H r.1 r.2.1)) :
  Pn (if o=60 then (aC 6 ⟨l,E,o,t⟩).bind (fun y=>some (.inr (y.1,y.2))) else (aD ⟨l,E,IntKind.wrap .i64 (o+1),t⟩).bind fun y2 =>
   (X ⟨y2.2,E,IntKind.wrap .i64 (o+1),t⟩).bind fun y3=>Sum.elim (fun y6=>some (.inl (y6.1,y6.2.1,IntKind.wrap .i64 (y6.2.2.1 - 1),y6.2.2.2))) (fun y7=>some (.inr (y7.1,y7.2))) y3) (Po E fun r=>Cs l r.2.1∧r.2.2.1=o∧H r.1 r.2.1):=by
 split
 ·exact oL (iV dM hE g)
 ·rw [wr oM oM]
  refine bD (ut hx) fun y hy=>?_
  refine d8 (hX _ hy oM) fun a ha=>gk ⟨hy.trans ha.1,?_,ha.2.2⟩
  show IntKind.wrap .i64 (a.2.2.1 - 1)=o
  rw [ha.2.1,wr oM oM];omega
theorem yg{E o t k:Int}{l:List aa}{rc:Int→af→Option RX}(ho0:0≤o)(ho:o≤60)(hE:0≤E)(g:iX E l)(hr:RK E rc k)(hk:7 * (60 - o)+6≤k) :
  Pn (eO rc ⟨l,E,o,t⟩) (Po E (Ex l o)):=by
 unfold eO
 refine d8 (hr 0 o t l dM dM ho0 ho oM g) fun a ha=>?_
 refine d8 (io _ hE (ha.1.good g) (by simp [lit])) fun b hb=>gk ⟨ha.1.trans hb,ha.2.1,gQ (by have:=hb.2;show l.length - a.2.1.length≤l.length - b.length;omega) ha.2.2⟩
theorem yh{E o t k:Int}{l:List aa}{rc:Int→af→Option RX}(ho0:0≤o)(ho:o≤60)(hE:0≤E)(g:iX E l)(hr:RK E rc k)(hk:7 * (60 - o)+6≤k) :
  Pn (eP rc ⟨l,E,o,t⟩) (Po E (Ex l o)):=by
 unfold eP
 refine d8 (hr 0 o t l dM dM ho0 ho oM g) fun a ha=>?_
 have ga:=ha.1.good g
 refine d8 (io _ hE ga (by simp [lit])) fun b hb=>?_
 have gb:=hb.good ga
 simp only [ha.2.1]
 refine d8 (hr 0 o _ _ dM dM ho0 ho oM gb) fun c hc=>?_
 have gc:=hc.1.good gb
 refine d8 (io _ hE gc (by simp [lit])) fun d hd=>?_
 have gd':=hd.good gc
 simp only [hc.2.1]
 refine d8 (hr 0 o _ _ dM dM ho0 ho oM gd') fun e he=>?_
 have h1:=ha.1.2
 have h2:=hb.2
 have h3:=hc.1.2
 have h4:=hd.2
 have h5:=he.1.2
 refine gk ⟨(((ha.1.trans hb).trans hc.1).trans hd).trans he.1,he.2.1,qh (n:=l.length - e.2.1.length - 1) (by show _<l.length - e.2.1.length;omega) (Nat.le_of_ble_eq_true rfl) oQ fun y hy=>?_⟩
 simp only [lit,List.mem_cons,List.not_mem_nil,or_false] at hy
 rcases hy with rfl|rfl|rfl
 ·exact gQ oM ha.2.2
 ·exact gQ oM hc.2.2
 ·exact gQ oM he.2.2
theorem tC{E o t k:Int}{l:List aa}{rc:Int→af→Option RX}(x:ag)(ho0:0≤o)(ho:o≤60)(hE:0≤E)(g:iX E l)(hr:RK E rc k)(hk:7 * (60 - o)+6≤k) :
  Pn (ef rc x ⟨l,E,o,t⟩) (Po E fun r=>Cs l r.2.1∧r.2.2.1=o∧∀ n,Hd n x→Hd (n+(l.length - r.2.1.length)) r.1):=by
 unfold ef
 refine d8 (hr 0 o t l dM dM ho0 ho oM g) fun a ha=>?_
 have ga:=ha.1.good g
 refine d8 (io _ hE ga (by simp [lit])) fun b hb=>?_
 have gb:=hb.good ga
 simp only [ha.2.1]
 refine d8 (hr 0 o _ _ dM dM ho0 ho oM gb) fun c hc=>?_
 have gc:=hc.1.good gb
 refine tx rfl ?_
 refine d8 (io _ hE gc (by simp [lit])) fun d hd=>?_
 have h1:=ha.1.2
 have h2:=hb.2
 have h3:=hc.1.2
 have h4:=hd.2
 refine gk ⟨((ha.1.trans hb).trans hc.1).trans hd,hc.2.1,fun n hxn=>qh (n:=n+(l.length - d.length) - 1) (by show _<n+(l.length - d.length);omega) (Nat.le_of_ble_eq_true rfl) oQ fun y hy=>?_⟩
 simp only [lit,List.mem_cons,List.not_mem_nil,or_false] at hy
 rcases hy with rfl|rfl|rfl
 ·exact gQ oM hxn
 ·exact gQ oM ha.2.2
 ·exact gQ oM hc.2.2
theorem wL{E om o t k n:Int}{l:List aa}{rc:af→Option RX}(ho0:om≤o)(ho:o≤60)(g:iX E l)(hr:AK E om rc k)(hk:61 - o≤k) :
  Pn (eG rc n ⟨l,E,o,t⟩) (Po E fun r=>Cs l r.2.1∧r.2.2.1=o∧Hd (l.length - r.2.1.length+1) r.1):=by
 unfold eG
 exact d8 (hr o t l ho0 ho hk g) fun a ha=>gk ⟨ha.1,ha.2.1,qh (n:=l.length - a.2.1.length) (Nat.lt_succ_self _) (Nat.le_of_ble_eq_true rfl) oQ fun y hy=>by rw [List.mem_singleton.1 hy];exact ha.2.2⟩
theorem lI(x:List UInt8)(l:List (List UInt8))(h:l.length≤9000000):dK x l=some (kT l x):=by
 rw [← pM l x h];rfl
theorem xA{E o t:Int}{l:List aa}:Pn (dt ⟨l,E,o,t⟩) (fun w=>w≠[]→∃ x r,l=x :: r∧x.text=w):=by
 unfold dt
 cases l with
 |nil=>rw [iP (by simp)];exact bn fun h=>absurd rfl h
 |cons x r =>
  rw [iN (by simp;omega),iP (by simp)]
  split
  ·exact bn fun h=>absurd rfl h
  ·exact bn fun _=>⟨x,r,rfl,rfl⟩
theorem vO{E o t:Int}{l:List aa}(hE:0≤E)(g:iX E l):Pn (fT ⟨l,E,o,t⟩) (Po E fun r=>Cs l r.2):=by
 unfold fT
 refine bD xA fun w hw=>?_
 refine tx (lI _ _ (by simp [lit])) ?_
 split
 ·exact oL (iV dM hE g)
 ·rename_i h
  have hm:=n8 (L:=lit [([]:List UInt8),[97,100,100],[115,117,98],[109,117,108],[100,105,118],[109,111,100],[109,105,110],[109,97,120],[108,101,115,115],[101,113],[97,110,100],[111,114],[120,111,114],[110,101,103],[110,111,116]]) (x:=w) oM
  have hne:w≠[]:=fun e=>h (by rw [e];decide)
  obtain ⟨x,r,rfl,hx⟩:=hw hne
  refine bD (ut ⟨x,r,rfl,oP (W:=lit _) (hx ▸ hm) (by simp [lit])⟩) fun y hy=>gk hy
theorem vP{E o t k n:Int}{l:List aa}{rc:Int→af→Option RX}(hn:0≤n∧n≤100)(ho0:0≤o)(ho:o≤60)(hE:0≤E)(g:iX E l)(hr:RK E rc k)(hk:7 * (60 - o)+6≤k) :
  Pn (fZ rc n ⟨l,E,o,t⟩) (Po E fun r=>Cs l r.2.1∧r.2.2.1=o∧r.1.length≤9000000∧∀ y∈r.1,Hd (l.length - r.2.1.length) y):=by
 unfold fZ
 refine d8 (hr 0 o t l dM dM ho0 ho oM g) fun a ha=>?_
 have hj:∀ x6,Pn (ca rc ⟨l,E,o,t⟩ a x6) (Po E fun r=>Cs l r.2.1∧r.2.2.1=o∧r.1.length≤9000000∧∀ y∈r.1,Hd (l.length - r.2.1.length) y):=by
  intro x6
  unfold ca
  refine qg (fun s=>Cs l s.1∧s.2.1=o∧s.2.2.2.length+s.1.length≤l.length∧∀ y∈s.2.2.2,Hd (l.length - s.1.length) y) (fun s=>s.1.length) (fun s=>Cs l s.1∧s.2.1=o∧s.2.2.2.length≤9000000∧∀ y∈s.2.2.2,Hd (l.length - s.1.length) y) ⟨ha.1,ha.2.1,?_,fun y hy=>by rw [List.mem_singleton.1 hy];exact ha.2.2⟩ ?_ fun b hb=>gk hb
  ·have:=ha.1.2;simp only [lit,List.length_cons,List.length_nil];omega
  ·rintro ⟨l30,x31,x32,l33⟩ ⟨hc,hx,hl,hkk⟩
   have hc:Cs l l30:=hc
   have hx:x31=o:=hx
   have hl:l33.length+l30.length≤l.length:=hl
   have hkk:∀ y∈l33,Hd (l.length - l30.length) y:=hkk
   have hg:=g.1
   subst hx
   show Pn (eX rc ⟨l,E,x31,t⟩ x6 l30 x31 x32 l33) _
   unfold eX
   split
   ·refine qC (io _ hE (hc.good g) (by simp [lit])) fun b hb=>?_
    refine qC (hr 0 x31 _ _ dM dM ho0 ho oM ((hc.trans hb).good g)) fun c hcc=>?_
    have:=hb.2
    have:=hcc.1.2
    have:=g.1
    rw [iP (jG oM dM)]
    have:=hc.2
    refine bn ⟨⟨(hc.trans hb).trans hcc.1,hcc.2.1,?_,fun y hy=>?_⟩,?_⟩
    ·show (l33++lit [c.1]).length+c.2.1.length≤l.length
     rw [List.length_append];simp only [lit,List.length_cons,List.length_nil];omega
    ·rcases List.mem_append.1 hy with h|h
     ·exact gQ (by show _≤l.length - c.2.1.length;omega) (hkk y h)
     ·rw [List.mem_singleton.1 h];exact gQ (by show _≤l.length - c.2.1.length;omega) hcc.2.2
    ·show c.2.1.length<l30.length
     omega
   ·exact bn ⟨hc,rfl,by show l33.length≤_;omega,hkk⟩
 rw [iP dM,iP dM,iP dM,iP oM]
 split
 ·exact hj _
 ·split
  ·refine bD (lw _ (by simp [lit])) fun b hb=>?_
   split
   ·exact hj _
   ·exact hj _
  ·exact hj _
theorem yi{E o t k n p2 p3 p4:Int}{p5:List UInt8}{p6:List ag}{l:List aa}{rc:Int→af→Option RX}(hn:0≤n∧n≤100)(ho0:0≤o)(ho:o≤60)(hE:0≤E)(g:iX E l)(hr:RK E rc k)(hk:7 * (60 - o)+6≤k) :
  Pn (fF rc n p2 p3 p4 p5 p6 ⟨l,E,o,t⟩ []) (Po E fun r=>Cs l r.2.2.2.2.2.2.2.1∧r.2.2.2.2.2.2.2.2.1=o∧Hd (l.length - r.2.2.2.2.2.2.2.1.length) (ag.mk r.1 r.2.1 r.2.2.1 r.2.2.2.1 r.2.2.2.2.2.2.2.2.2.2 r.2.2.2.2.1)):=by
 have hj:∀ (x6:Int) (l7:List aa),Cs l l7→Pn (bQ rc n p2 p4 p5 ⟨l,E,o,t⟩ [] x6 l7) (Po E fun r=>Cs l r.2.2.2.2.2.2.2.1∧r.2.2.2.2.2.2.2.2.1=o∧Hd (l.length - r.2.2.2.2.2.2.2.1.length) (ag.mk r.1 r.2.1 r.2.2.1 r.2.2.2.1 r.2.2.2.2.2.2.2.2.2.2 r.2.2.2.2.1)):=by
  intro x6 l7 h7
  unfold bQ
  refine d8 (vP hn ho0 ho hE (h7.good g) hr hk) fun a ha=>?_
  rw [iP dM,iP oM]
  refine qg (fun s=>Rd a.2.1 s.1∧s.2.1.length+s.1.length≤l.length∧∀ y∈s.2.1,y.length≤9000000) (fun s=>s.1.length) (fun s=>Rd a.2.1 s.1∧SzO s.2) ⟨Rd.refl _,?_,fun _ h=>nomatch h⟩ ?_ ?_
  ·have:=(h7.trans ha.1).2;simp only [List.length_nil];omega
  ·rintro ⟨l38,l39,x41⟩ ⟨hc0,hl,hs⟩
   have hc0:Rd a.2.1 l38:=hc0
   have hs:∀ y∈l39,y.length≤9000000:=hs
   have hc:Cs l l38:=(h7.trans ha.1).rd hc0
   have hg:=g.1
   have hl:l39.length+l38.length≤l.length:=hl
   show Pn (dC n ⟨l,E,o,t⟩ a l38 l39 x41) _
   unfold dC
   split
   ·refine qC (io _ hE (hc.good g) (by simp [lit])) fun b hb=>?_
    refine qC (rz hE ((hc.trans hb).good g)) fun c hcs=>?_
    have hcc:=hcs.1
    have:=hb.2
    have:=hcc.2
    have:=g.1
    rw [iP (jG oM dM)]
    refine bn ⟨⟨(hc0.cs (hb.trans hcc)).1,?_,fun y hy=>?_⟩,?_⟩
    ·show (l39++lit [c.1]).length+c.2.length≤l.length
     rw [List.length_append];simp only [lit,List.length_cons,List.length_nil];omega
    ·rcases List.mem_append.1 hy with h|h
     ·exact hs y h
     ·rw [List.mem_singleton.1 h];exact hcs.2
    ·show c.2.length<l38.length
     omega
   ·exact bn ⟨hc0,by show l39.length≤_;omega,hs⟩
  ·rintro ⟨l15,l16⟩ ⟨hc0,hs⟩
   show Pn (cN p2 p4 p5 ⟨l,E,o,t⟩ x6 a l15 l16) _
   unfold cN
   have hc0:Rd a.2.1 l15:=hc0
   have hs:SzO l16:=hs
   have hc:Cs l l15:=(h7.trans ha.1).rd hc0
   refine d8 (io _ hE (hc.good g) (by simp [lit])) fun b hb=>?_
   have h1:=h7.2
   have h2:=ha.1.2
   have h3:=hc0.len
   have h4:=hb.2
   exact gk ⟨hc.trans hb,ha.2.1,qh (n:=l7.length - a.2.1.length) (by show _<l.length - b.length;omega) ha.2.2.1 hs fun y hy=>ha.2.2.2 y hy⟩
 unfold fF
 refine d8 (io _ hE g (by simp [lit])) fun a ha=>?_
 split
 ·split
  ·refine d8 (vO hE (ha.good g)) fun b hb=>?_
   refine d8 (io _ hE ((ha.trans hb).good g) (by simp [lit])) fun c hc=>?_
   exact hj _ _ ((ha.trans hb).trans hc)
  ·exact hj _ _ ha
 ·exact hj _ _ ha
theorem vc{E o t k n p3 p4 p5:Int}{p6:List UInt8}{p7:List ag}{l:List aa}{rc:Int→af→Option RX}(hn:0≤n∧n≤100)(ho0:0≤o)(ho:o≤60)(hE:0≤E)(g:iX E l)(hx:Nx l)(hr:RK E rc k)(hk:7 * (60 - o)≤k) :
  Pn (eE rc ⟨l,E,o,t⟩ n p3 p4 p5 p6 p7 []) (Po E fun r=>Cs l r.2.2.2.2.2.1∧r.2.2.2.2.2.2.1=o∧Hd (l.length - r.2.2.2.2.2.1.length) (ag.mk r.1 r.2.1 r.2.2.1 r.2.2.2.1 r.2.2.2.2.2.2.2.2.2.2 r.2.2.2.2.1)):=by
 unfold eE
 split
 ·exact oL (iV dM hE g)
 ·rename_i h60
  have h60:¬ o=60:=h60
  simp only [wr (n:=o+1) oM oM]
  refine bD (ut hx) fun y hy=>?_
  refine d8 (yi hn oM oM hE (hy.good g) hr oM) fun a ha=>gk ⟨hy.trans ha.1,?_,gQ (by have:=hy.2;show _≤l.length - a.2.2.2.2.2.2.2.1.length;omega) ha.2.2⟩
  show IntKind.wrap .i64 (a.2.2.2.2.2.2.2.2.1 - 1)=o
  rw [ha.2.1,wr oM oM];omega
theorem AG{E o t k:Int}{l:List aa}{rc:Int→af→Option RX}(ho0:0≤o)(ho:o≤60)(hE:0≤E)(g:iX E l)(hr:RK E rc k)(hk:7 * (60 - o)≤k) :
  Pn (eY rc ⟨l,E,o,t⟩) (Po E (Ex l o)):=by
 unfold eY
 refine bD xA fun w hw=>?_
 refine tx (lI _ _ (by simp [lit])) ?_
 split
 ·exact oL (iV dM hE g)
 ·rename_i h
  have h:¬ kT (lit [([109,97,112]:List UInt8),[102,111,108,100],[115,99,97,110],[102,105,108,108],[119,105,116,104],[115,108,105,99,101],[99,97,116],[112,114,101],[109,105,110],[109,97,120]]) w<0:=h
  have hm:=n8 (Int.not_lt.1 h)
  have hlt:=nl (L:=lit [([109,97,112]:List UInt8),[102,111,108,100],[115,99,97,110],[102,105,108,108],[119,105,116,104],[115,108,105,99,101],[99,97,116],[112,114,101],[109,105,110],[109,97,120]]) (x:=w)
  have hne:w≠[]:=fun e=>by rw [e] at hm;revert hm;decide
  obtain ⟨x,r,rfl,hx⟩:=hw hne
  have hx:Nx (x :: r):=⟨x,r,rfl,oP (hx ▸ hm) (by simp [lit])⟩
  have hlt:kT (lit [([109,97,112]:List UInt8),[102,111,108,100],[115,99,97,110],[102,105,108,108],[119,105,116,104],[115,108,105,99,101],[99,97,116],[112,114,101],[109,105,110],[109,97,120]]) w<10:=hlt
  generalize kT (lit [([109,97,112]:List UInt8),[102,111,108,100],[115,99,97,110],[102,105,108,108],[119,105,116,104],[115,108,105,99,101],[99,97,116],[112,114,101],[109,105,110],[109,97,120]]) w=y2 at *
  rw [iP ⟨by omega,hlt⟩]
  have hj:∀ x4,Pn (dA rc ⟨x :: r,E,o,t⟩ y2 x4) (Po E (Ex (x :: r) o)):=by
   intro x4
   unfold dA
   refine d8 (vc ?_ ho0 ho hE g hx hr hk) fun a ha=>gk ⟨ha.1,ha.2⟩
   have:∀ i,i<10→0≤(lit ([7,8,9,10,12,13,14,15,5,5]:List Int)).getD i default∧(lit ([7,8,9,10,12,13,14,15,5,5]:List Int)).getD i default≤100:=by decide
   exact this y2.toNat oM
  split
  ·exact hj _
  ·split
   ·exact hj _
   ·exact hj _
theorem xB{E o t k:Int}{l:List aa}{rc:Int→af→Option RX}(ho0:0≤o)(ho:o≤60)(hE:0≤E)(g:iX E l)(hr:RK E rc k)(hk:7 * (60 - o)≤k) :
  Pn (eZ rc ⟨l,E,o,t⟩) (Po E (Ex l o)):=by
 have hf:Pn (bV rc ⟨l,E,o,t⟩) (Po E (Ex l o)):=by
  unfold bV
  exact d8 (AG ho0 ho hE g hr hk) fun a ha=>gk ⟨ha.1,ha.2⟩
 have h8:isB (lit [[40]]) l=true→Pn (cF rc ⟨l,E,o,t⟩) (Po E (Ex l o)):=fun hi=>by
  unfold cF
  exact n9 (H:=fun x l'=>Hd (l.length - l'.length) x) ho0 ho hE g (tB hi (by simp [lit])) fun l1 h1 h=>oN (yg oM oM hE (h1.good g) hr oM) fun a ha=>⟨ha.1,ha.2.1,gQ (by have:=h1.2;omega) ha.2.2⟩
 have h9:isB (lit [[105,102]]) l=true→Pn (cG rc ⟨l,E,o,t⟩) (Po E (Ex l o)):=fun hi=>by
  unfold cG
  exact n9 (H:=fun x l'=>Hd (l.length - l'.length) x) ho0 ho hE g (tB hi (by simp [lit])) fun l1 h1 h=>oN (yh oM oM hE (h1.good g) hr oM) fun a ha=>⟨ha.1,ha.2.1,gQ (by have:=h1.2;omega) ha.2.2⟩
 unfold eZ
 cases l with
 |nil =>
  rw [iN (by simp),iN (by simp)]
  refine bD (lw _ (by simp [lit])) fun b hb=>?_
  subst hb
  rw [iN (by simp [isB])]
  refine bD (lw _ (by simp [lit])) fun b hb=>?_
  subst hb
  rw [iN (by simp [isB])]
  refine bD (lw _ (by simp [lit])) fun b hb=>?_
  subst hb
  rw [iN (by simp [isB])]
  exact hf
 |cons x r =>
  rw [iP (by simp),iP (by simp)]
  simp only [List.getD_cons_zero]
  split
  ·rename_i h3
   refine bD (ut ⟨x,r,rfl,zt g h3⟩) fun y hy=>gk ⟨hy,rfl,u9 (by have:=hy.2;show 0<(x :: r).length - y.2.length;omega)⟩
  ·rw [iP (by simp)]
   split
   ·exact d8 (nn hE g) fun a ha=>gk ⟨ha,rfl,u9 (by have:=ha.2;show 0<(x :: r).length - a.2.length;omega)⟩
   ·refine bD (lw _ (by simp [lit])) fun b hb=>?_
    subst hb
    split
    ·rename_i hi
     refine bD (zv hi (by simp [lit])) fun y hy=>?_
     split<;>exact gk ⟨hy.1,rfl,u9 (by have:=hy.1.2;show 0<(x :: r).length - y.2.length;omega)⟩
    ·refine bD (lw _ (by simp [lit])) fun b hb=>?_
     subst hb
     split
     ·rename_i hi
      exact d8 (h8 hi) fun a ha=>gk ⟨ha.1,ha.2⟩
     ·refine bD (lw _ (by simp [lit])) fun b hb=>?_
      subst hb
      split
      ·rename_i hi
       exact d8 (h9 hi) fun a ha=>gk ⟨ha.1,ha.2⟩
      ·exact hf
theorem wM{E om o t k ka:Int}{l:List aa}{rc:Int→af→Option RX}{ra:af→Option RX}(ho0:0≤o)(ho:o≤60)(hE:0≤E)(g:iX E l)(hr:RK E rc k)(hk:7 * (60 - o)≤k)(hom:om≤o)(ha:AK E om ra ka)(hka:60 - o≤ka) :
  Pn (bW rc ra ⟨l,E,o,t⟩) (Po E (Ex l o)):=by
 unfold bW
 refine bD (lw _ (by simp [lit])) fun b hb=>?_
 subst hb
 split
 ·rename_i hi
  have hj:∀ n,Pn (dg ra ⟨l,E,o,t⟩ n) (Po E (Ex l o)):=by
   intro n
   unfold dg
   refine d8 (A:=Ex l o) ?_ fun a ha=>gk ⟨ha.1,ha.2⟩
   unfold gO
   exact n9 (H:=fun x l'=>Hd (l.length - l'.length) x) ho0 ho hE g (tB hi (by simp [lit])) fun l1 h1 h=>oN (wL oM oM (h1.good g) ha oM) fun a ha=>⟨ha.1,ha.2.1,gQ (by have:=h1.2;have:=ha.1.2;omega) ha.2.2⟩
  refine bD (lw _ (by simp [lit])) fun b hb=>?_
  split
  ·exact hj _
  ·exact hj _
 ·refine d8 (xB ho0 ho hE g hr hk) fun a hae=>?_
  refine qg (fun s=>Ex l o (ag.mk s.2.2.2.1 s.2.2.2.2.1 s.2.2.2.2.2.1 s.2.2.2.2.2.2.1 s.2.2.2.2.2.2.2.1 s.2.2.2.2.2.2.2.2,s.1,s.2.1,s.2.2.1)) (fun s=>s.1.length) (fun s=>Ex l o (ag.mk s.2.2.2.1 s.2.2.2.2.1 s.2.2.2.2.2.1 s.2.2.2.2.2.2.1 s.2.2.2.2.2.2.2.1 s.2.2.2.2.2.2.2.2,s.1,s.2.1,s.2.2.1)) ⟨hae.1,hae.2.1,by cases a with|mk x y=>cases x;exact hae.2.2⟩ ?_ ?_
  ·rintro ⟨l41,x42,x43,x44,x45,x46,s47,l48,l49⟩ ⟨hc,hx,hd⟩
   have hc:Cs l l41:=hc
   have hx:x42=o:=hx
   subst hx
   show Pn (dQ rc ⟨l,E,x42,t⟩ l41 x42 x43 x44 x45 x46 s47 l48 l49) _
   unfold dQ
   refine bD (lw _ (by simp [lit])) fun b hb=>?_
   subst hb
   split
   ·rename_i hi
    have hn:=hc.2
    refine qC (A:=fun r=>Cs l41 r.2.1∧r.2.2.1=x42∧Hd (l.length - r.2.1.length) r.1) ?_ fun a ha=>bn ⟨⟨hc.trans ha.1,ha.2.1,by cases a with|mk x y=>cases x;exact ha.2.2⟩,ha.1.2⟩
    unfold eF
    exact n9 (H:=fun x l'=>Hd (l.length - l'.length) x) ho0 ho hE (hc.good g) (tB hi (by simp [lit])) fun l1 h1 h=>oN (tC _ oM oM hE (h1.good (hc.good g)) hr oM) fun a ha=>⟨ha.1,ha.2.1,gQ (by have:=h1.2;have:=ha.1.2;show l.length - l41.length+_≤_;omega) (ha.2.2 _ hd)⟩
   ·exact bn ⟨hc,rfl,hd⟩
  ·rintro ⟨l41,x42,x43,x44,x45,x46,s47,l48,l49⟩ hc
   exact gk hc
theorem tD{E k:Int}{rc:Int→af→Option RX}(hE:0≤E)(hr:RK E rc k)(om:Int)(h0:0≤om)(hk:7 * (60 - om)≤k):∀ m:Nat,AK E om (cR rc m) m
 |0,o,t,l,_,h2,h3,_=>absurd h3 oM
 |m+1,o,t,l,h1,h2,h3,g=>by
  show Pn (bW rc (cR rc m) ⟨l,E,o,t⟩) _
  exact wM oM h2 hE g hr oM h1 (tD hE hr om h0 hk m) oM
def opL:List (List (List UInt8)):=lit [lit [[111,114],[120,111,114]],lit [[97,110,100]],lit [[60],[61,61]],lit [[43],[45]],lit [[42],[47],[37]]]
def opN:List (List Int):=lit [lit [11,12],lit [10],lit [8,9],lit [1,2],lit [3,4,5]]
theorem rA:∀ i,i<5→(opL.getD i default).length=(opN.getD i default).length∧([125]:List UInt8) ∉ opL.getD i default∧(opL.getD i default).length≤3:=by decide
theorem AX{E o t n:Int}{l:List aa}(h0:0≤n)(h5:n<5):Pn (fV n ⟨l,E,o,t⟩) (fun k=>k≠0→Nx l):=by
 obtain ⟨f1,f2,f3⟩:=rA n.toNat oM
 unfold fV
 rw [iP ⟨h0,h5⟩]
 refine tx (iH (opL.getD n.toNat default) l E o t oM) ?_
 split
 ·rename_i hi
  obtain ⟨x,r,rfl,hk,hx⟩:=jS hi
  rw [iP (by simp)]
  refine tx (pM (opL.getD n.toNat default) x.text oM) ?_
  have h1:=nm hx
  have h2:=nl (L:=opL.getD n.toNat default) (x:=x.text)
  rw [f1] at h2
  split
  ·exact bn fun _=>⟨x,r,rfl,oP hx f2⟩
  ·rename_i hh
   exact absurd (And.intro h1 h2) hh
 ·exact bn fun h=>absurd rfl h
theorem yj{E o t k n:Int}{fuel:Nat}{l:List aa}{rc:Int→af→Option RX}(hf:61≤fuel)(h0:0≤n)(h5:n≤5)(ho0:0≤o)(ho:o≤60)(hE:0≤E)(g:iX E l)(hr:RK E rc k)(hk:7 * (60 - o)+(5 - n)≤k) :
  Pn (di fuel rc n ⟨l,E,o,t⟩) (Po E (Ex l o)):=by
 unfold di
 split
 ·rename_i h
  refine d8 (A:=Ex l o) (tD hE hr o ho0 oM fuel o t l (Int.le_refl _) ho oM g) fun a ha=>gk ⟨ha.1,ha.2⟩
 ·rename_i h
  simp only [wr (n:=n+1) oM oM]
  refine d8 (hr (n+1) o t l oM oM ho0 ho oM g) fun a ha=>?_
  refine bD (AX h0 oM) fun x20 hx20=>?_
  refine qg (fun s=>Ex l o (ag.mk s.2.2.2.1 s.2.2.2.2.1 s.2.2.2.2.2.1 s.2.2.2.2.2.2.1 s.2.2.2.2.2.2.2.1 s.2.2.2.2.2.2.2.2.1,s.1,s.2.1,s.2.2.1)∧(s.2.2.2.2.2.2.2.2.2≠0→Nx s.1)) (fun s=>s.1.length) (fun s=>Ex l o (ag.mk s.2.2.2.1 s.2.2.2.2.1 s.2.2.2.2.2.1 s.2.2.2.2.2.2.1 s.2.2.2.2.2.2.2.1 s.2.2.2.2.2.2.2.2,s.1,s.2.1,s.2.2.1)) ⟨⟨ha.1,ha.2.1,by cases a with|mk x y=>cases x;exact ha.2.2⟩,hx20⟩ ?_ ?_
  ·rintro ⟨l41,x42,x43,x44,x45,x46,s47,l48,l49,x50⟩ ⟨⟨hc,hx,hd0⟩,hn⟩
   have hc:Cs l l41:=hc
   have hx:x42=o:=hx
   have hd0:Hd (l.length - l41.length) (ag.mk x44 x45 x46 s47 l48 l49):=hd0
   have hn:x50≠0→Nx l41:=hn
   subst hx
   show Pn (eh rc n ⟨l,E,x42,t⟩ l41 x42 x43 x44 x45 x46 s47 l48 l49 x50) _
   unfold eh
   split
   ·rename_i hne
    refine bD (ut (hn hne)) fun b hb=>?_
    simp only [wr (n:=n+1) oM oM]
    refine qC (hr (n+1) x42 _ _ oM oM ho0 ho oM ((hc.trans hb).good g)) fun c hcc=>?_
    refine tx rfl ?_
    have h1:=hc.2
    have h2:=hb.2
    have h3:=hcc.1.2
    have hd:∀ k,Hd (l.length - c.2.1.length) (ag.mk 5 k 0 [] [] (lit [ag.mk x44 x45 x46 s47 l48 l49,c.1])):=fun k=>qh (n:=l.length - c.2.1.length - 1) oM (Nat.le_of_ble_eq_true rfl) oQ fun y hy=>by
     simp only [lit,List.mem_cons,List.not_mem_nil,or_false] at hy
     rcases hy with rfl|rfl
     ·exact gQ oM hd0
     ·exact gQ oM hcc.2.2
    split
    ·exact bn ⟨(hc.trans hb).trans hcc.1,hcc.2.1,hd _⟩
    ·refine bD (AX h0 oM) fun d hd2=>bn ⟨⟨⟨(hc.trans hb).trans hcc.1,hcc.2.1,hd _⟩,hd2⟩,?_⟩
     exact (hb.trans hcc.1).2
   ·exact bn ⟨hc,rfl,hd0⟩
  ·rintro ⟨l41,x42,x43,x44,x45,x46,s47,l48,l49⟩ hc
   exact gk hc
theorem rQ{E:Int}{fuel:Nat}(hf:61≤fuel)(hE:0≤E):∀ m:Nat,RK E (dj fuel m) m
 |0,n,o,t,l,h0,h5,ho0,ho,hk,_=>absurd hk oM
 |m+1,n,o,t,l,h0,h5,ho0,ho,hk,g=>by
  show Pn (di fuel (dj fuel m) n ⟨l,E,o,t⟩) _
  exact yj hf h0 h5 ho0 ho hE g (rQ hf hE m) oM
theorem vd{E o t:Int}{fuel:Nat}{l:List aa}(hf:430≤fuel)(ho0:0≤o)(ho:o≤60)(hE:0≤E)(g:iX E l):Pn (dY fuel ⟨l,E,o,t⟩) (Po E (Ex l o)):=by
 have hj:∀ x1,0≤x1→x1≤E→Pn (cS fuel ⟨l,E,o,t⟩ x1) (Po E (Ex l o)):=by
  intro x1 h1 h2
  unfold cS
  refine d8 (A:=Ex l o) (rQ oM hE fuel 0 o 0 l dM dM ho0 ho oM g) fun a ha=>?_
  split
  ·exact BN (a:=(7,x1)) ⟨show (7:Int)≠0 by decide,h1,h2⟩
  ·exact gk ⟨ha.1,ha.2⟩
 unfold dY
 cases l with
 |nil=>rw [iN (by simp)];exact hj _ hE (Int.le_refl _)
 |cons x r =>
  rw [iP (by simp),iP (by simp)]
  exact hj _ (g.2 x (by simp)).2.1 (g.2 x (by simp)).2.2
theorem o7{E o t:Int}{fuel:Nat}{l:List aa}(n:Int)(hf:430≤fuel)(ho0:0≤o)(ho:o≤60)(hE:0≤E)(g:iX E l):Pn (gT fuel n ⟨l,E,o,t⟩) (Po E fun r=>Cs l r.2.1∧r.2.2.1=o∧r.1.length≤9000000∧∀ y∈r.1,Hd l.length y):=by
 unfold gT
 refine bD (P:=Po E fun r=>Cs l r.2.1∧r.2.2.1=o∧r.1.length≤9000000∧∀ y∈r.1,Hd l.length y) ?_ fun a ha=>bn ha
 refine oO (fun s=>Rd l s.1∧s.2.1=o∧s.2.2.2.length+s.1.length≤l.length∧∀ y∈s.2.2.2,Hd l.length y) (fun s=>s.1.length) ⟨Rd.refl _,rfl,by simp,fun _ h=>nomatch h⟩ ?_
 rintro ⟨l17,x18,x19,l20⟩ ⟨hc,hx,hl,hk⟩
 have hc:Rd l l17:=hc
 have hx:x18=o:=hx
 have hl:l20.length+l17.length≤l.length:=hl
 subst hx
 show Pn (ce fuel n ⟨l,E,x18,t⟩ l17 x18 x19 l20) _
 unfold ce
 have:=g.1
 split
 ·exact bD (iV dM hE (hc.good g)) fun a ha=>bn ha
 ·obtain ⟨y,hy,hpy⟩:=vd (t:=x19) hf ho0 ho hE (hc.good g)
  rw [hy]
  cases y with
  |inr z=>exact bn hpy
  |inl a =>
   have hpy:Ex l17 x18 a:=hpy
   have hkk:∀ y∈l20++lit [a.1],Hd l.length y:=fun y hy=>by
    rcases List.mem_append.1 hy with h|h
    ·exact hk y h
    ·rw [List.mem_singleton.1 h];exact gQ (by have:=hc.len;omega) hpy.2.2
   show Pn (if d9 (l20.length+1) 88 then _ else none) _
   rw [iP (jG oM dM)]
   refine bD (nD [44] dM) fun b hb=>?_
   have hb':=(hc.cs hpy.1).rd hb
   split
   ·refine bn ⟨⟨hb'.1,hpy.2.1,?_,hkk⟩,(hpy.1.rd hb).2⟩
    have:=(hpy.1.rd hb).2
    show (l20++lit [a.1]).length+b.2.length≤l.length
    rw [List.length_append];simp only [lit,List.length_cons,List.length_nil];omega
   ·refine bn ⟨hb',hpy.2.1,?_,hkk⟩
    have:=(hpy.1.rd hb).2
    show (l20++lit [a.1]).length≤_
    rw [List.length_append];simp only [lit,List.length_cons,List.length_nil];omega
def EqD(N:Nat)(q:TEq):Prop:=q.names.length≤9000000∧SzO q.s∧q.e.length≤9000000∧∀ y∈q.e,Hd N y
def DcO(l:List az):Prop:=l.length≤9000000∧∀ d∈l,d.t.n.length≤9000000
theorem AH:DcO []:=⟨by decide,fun _ h=>nomatch h⟩
def pN(N:Nat)(x:bx):Prop:=x.sizes.length≤9000000∧DcO x.in_∧DcO x.out_∧DcO x.local_∧x.eqs.length≤9000000∧∀ q∈x.eqs,EqD N q
theorem vQ{N M:Nat}{q:TEq}(h:N≤M)(k:EqD N q):EqD M q:=⟨k.1,k.2.1,k.2.2.1,fun y hy=>gQ h (k.2.2.2 y hy)⟩
theorem wN{N M:Nat}{q:bx}(h:N≤M)(k:pN N q):pN M q:=⟨k.1,k.2.1,k.2.2.1,k.2.2.2.1,k.2.2.2.2.1,fun y hy=>vQ h (k.2.2.2.2.2 y hy)⟩
theorem AY{E o t:Int}{fuel:Nat}{l:List aa}(hf:430≤fuel)(ho0:0≤o)(ho:o≤60)(hE:0≤E)(g:iX E l)(hl:l≠[]):Pn (eH fuel ⟨l,E,o,t⟩) (Po E fun r=>Cs l r.2.1∧r.2.2.1=o∧EqD l.length r.1):=by
 have h3:∀ (y4:(List (List UInt8))×(List aa)) (y19:(List UInt8)×(List aa)) (l22:List (List aj)) (l28:List aa) (x30:Int) (l31:List ag),Cs l l28→y4.1.length≤9000000→SzO l22→l31.length≤9000000→(∀ y∈l31,Hd l.length y) →
   Pn (dD ⟨l,E,o,t⟩ y4 y19 l22 l28 o x30 l31) (Po E fun r=>Cs l r.2.1∧r.2.2.1=o∧EqD l.length r.1):=by
  intro y4 y19 l22 l28 x30 l31 h k1 k2 k3 k4
  unfold dD
  exact d8 (io _ hE (h.good g) (by simp [lit])) fun b hb=>gk ⟨h.trans hb,rfl,k1,k2,k3,k4⟩
 have h2:∀ (y4:(List (List UInt8))×(List aa)) (y19:(List UInt8)×(List aa)) (l21:List aa) (l22:List (List aj)),Cs l l21→y4.1.length≤9000000→SzO l22 →
   Pn (dE fuel ⟨l,E,o,t⟩ y4 y19 l21 l22) (Po E fun r=>Cs l r.2.1∧r.2.2.1=o∧EqD l.length r.1):=by
  intro y4 y19 l21 l22 h k1 k2
  unfold dE
  refine d8 (io _ hE (h.good g) (by simp [lit])) fun b hb=>?_
  refine bD (lw _ (by simp [lit])) fun c hc=>?_
  split
  ·exact h3 _ _ _ _ _ _ (h.trans hb) k1 k2 (Nat.zero_le _) (fun _ h=>nomatch h)
  ·refine d8 (o7 30 hf ho0 ho hE ((h.trans hb).good g)) fun d hd=>?_
   simp only [hd.2.1]
   exact h3 _ _ _ _ _ _ ((h.trans hb).trans hd.1) k1 k2 hd.2.2.1 fun y hy=>gQ (by have:=(h.trans hb).2;omega) (hd.2.2.2 y hy)
 have h1:∀ (y4:(List (List UInt8))×(List aa)) (y9:List aa),Cs l y9→y4.1.length≤9000000 →
   Pn (c7 fuel ⟨l,E,o,t⟩ y4 y9) (Po E fun r=>Cs l r.2.1∧r.2.2.1=o∧EqD l.length r.1):=by
  intro y4 y9 h k1
  unfold c7
  refine d8 (io _ hE (h.good g) (by simp [lit])) fun b hb=>?_
  refine d8 (nn hE ((h.trans hb).good g)) fun c hc=>?_
  have hc':=(h.trans hb).trans hc
  refine bD (nD [60] dM) fun d hd=>?_
  have hd':=hc'.rd hd
  split
  ·refine d8 (sy 3 hE (hd'.good g)) fun e hes=>?_
   have he:=hes.1
   refine d8 (io _ hE ((hd'.trans he).good g) (by simp [lit])) fun f hf'=>?_
   exact h2 _ _ _ _ ((hd'.trans he).trans hf') k1 hes.2
  ·exact h2 _ _ _ _ hd' k1 oQ
 unfold eH
 rw [iP ⟨by decide,by cases l with|nil=>exact absurd rfl hl|cons x r=>simp⟩]
 refine d8 (qD 30 hE g) fun a has=>?_
 have ha:=has.1
 refine d8 (io _ hE (ha.good g) (by simp [lit])) fun b hb=>?_
 split
 ·refine bD (lw _ (by simp [lit])) fun c hc=>?_
  split
  ·exact h1 _ _ (ha.trans hb) has.2.1
  ·exact d8 (vd hf ho0 ho hE ((ha.trans hb).good g)) fun d hd=>gk ⟨(ha.trans hb).trans hd.1,hd.2.1,has.2.1,oQ,Nat.le_of_ble_eq_true rfl,fun y hy=>by rw [List.mem_singleton.1 hy];exact gQ (by have:=(ha.trans hb).2;omega) hd.2.2⟩
 ·exact h1 _ _ (ha.trans hb) has.2.1
abbrev Nd(l:List aa)(o:Int)(r:bx×(List aa)×Int×Int):Prop:=(∃ b,br b=true∧Cs l (b :: r.2.1))∧r.2.2.1=o∧pN l.length r.1
theorem xC{E o t:Int}{fuel:Nat}{l:List aa}(hf:430≤fuel)(ho0:0≤o)(ho:o≤60)(hE:0≤E)(g:iX E l)(hx:Nx l):Pn (fG fuel ⟨l,E,o,t⟩) (Po E (Nd l o)):=by
 have h2:∀ (y5:(List UInt8)×(List aa)) (l8:List (List UInt8)) (l14:List aa) (l15:List az),Cs l l14→l8.length≤9000000→DcO l15→Pn (cV fuel ⟨l,E,o,t⟩ y5 l8 l14 l15) (Po E (Nd l o)):=by
  intro y5 l8 l14 l15 h k1 k2
  unfold cV
  refine d8 (io _ hE (h.good g) (by simp [lit])) fun b hb=>?_
  refine d8 (o6 30 hE ((h.trans hb).good g)) fun c hcs=>?_
  have hc:=hcs.1
  have hg:=g.1
  refine d8 (io _ hE (((h.trans hb).trans hc).good g) (by simp [lit])) fun d hd=>?_
  have hd':=((h.trans hb).trans hc).trans hd
  refine qg (fun s=>Cs l s.1∧s.2.1=o∧s.2.2.2.1.length+s.1.length≤l.length∧s.2.2.2.2.length+s.1.length≤l.length∧(∀ d∈s.2.2.2.1,d.t.n.length≤9000000)∧∀ q∈s.2.2.2.2,EqD l.length q) (fun s=>s.1.length) (fun s=>Cs l s.1∧s.2.1=o∧isB (lit [[125]]) s.1=true∧DcO s.2.2.2.1∧s.2.2.2.2.length≤9000000∧∀ q∈s.2.2.2.2,EqD l.length q) ⟨hd',rfl,?_,?_,(fun _ h=>nomatch h),(fun _ h=>nomatch h)⟩ ?_ ?_
  ·have:=hd'.2;simp only [List.length_nil];omega
  ·have:=hd'.2;simp only [List.length_nil];omega
  ·rintro ⟨l69,x70,x71,l72,l74⟩ ⟨hc,hx,hl1,hl2,hk1,hk2⟩
   have hk1:∀ d∈l72,d.t.n.length≤9000000:=hk1
   have hk2:∀ q∈l74,EqD l.length q:=hk2
   have hc:Cs l l69:=hc
   have hx:x70=o:=hx
   have hl1:l72.length+l69.length≤l.length:=hl1
   have hl2:l74.length+l69.length≤l.length:=hl2
   subst hx
   show Pn (cU fuel ⟨l,E,x70,t⟩ l69 x70 x71 l72 l74) _
   have h4:∀ (l81:List aa) (x83:Int) (l84:List az) (l86:List TEq),Cs l69 l81→l84.length+l81.length≤l.length→l86.length+l81.length≤l.length→(∀ d∈l84,d.t.n.length≤9000000)→(∀ q∈l86,EqD l.length q) →
     Pn (cT ⟨l,E,x70,t⟩ l81 x70 x83 l84 l86) (Pl E (fun s'=>(Cs l s'.1∧s'.2.1=x70∧s'.2.2.2.1.length+s'.1.length≤l.length∧s'.2.2.2.2.length+s'.1.length≤l.length∧(∀ d∈s'.2.2.2.1,d.t.n.length≤9000000)∧∀ q∈s'.2.2.2.2,EqD l.length q)∧s'.1.length<l69.length) (fun s=>Cs l s.1∧s.2.1=x70∧isB (lit [[125]]) s.1=true∧DcO s.2.2.2.1∧s.2.2.2.2.length≤9000000∧∀ q∈s.2.2.2.2,EqD l.length q) (Nd l x70)):=by
    intro l81 x83 l84 l86 h81 e1 e2 k3 k4
    unfold cT
    refine qC (io _ hE ((hc.trans h81).good g) (by simp [lit])) fun b hb=>?_
    have e3:=hb.2
    refine bn ⟨⟨(hc.trans h81).trans hb,rfl,?_,?_,k3,k4⟩,(h81.trans hb).2⟩
    ·show l84.length+b.length≤l.length
     omega
    ·show l86.length+b.length≤l.length
     omega
   have h5:∀ y93:Bool×List aa,Rd l69 y93.2→Pn (co fuel ⟨l,E,x70,t⟩ x70 x71 l72 l74 y93) (Pl E (fun s'=>(Cs l s'.1∧s'.2.1=x70∧s'.2.2.2.1.length+s'.1.length≤l.length∧s'.2.2.2.2.length+s'.1.length≤l.length∧(∀ d∈s'.2.2.2.1,d.t.n.length≤9000000)∧∀ q∈s'.2.2.2.2,EqD l.length q)∧s'.1.length<l69.length) (fun s=>Cs l s.1∧s.2.1=x70∧isB (lit [[125]]) s.1=true∧DcO s.2.2.2.1∧s.2.2.2.2.length≤9000000∧∀ q∈s.2.2.2.2,EqD l.length q) (Nd l x70)):=by
    intro y93 h93
    unfold co
    split
    ·exact sF (iV dM hE ((hc.rd h93).good g))
    ·rename_i hne
     refine qC (AY hf ho0 ho hE ((hc.rd h93).good g) (fun e=>hne (by rw [e];rfl))) fun b hb=>?_
     have e1:=h93.len
     have e2:=hb.1.2
     have e3:=g.1
     rw [iP (jG oM dM)]
     simp only [hb.2.1]
     refine h4 _ _ _ _ (h93.cs hb.1) oM ?_ hk1 (fun q hq=>(List.mem_append.1 hq).elim (hk2 q) fun h=>by rw [List.mem_singleton.1 h];exact vQ (by have:=hc.2;omega) hb.2.2)
     rw [List.length_append];simp only [lit,List.length_cons,List.length_nil];omega
   unfold cU
   refine bD (lw _ (by simp [lit])) fun b hb=>?_
   subst hb
   split
   ·rename_i hi
    exact bn ⟨hc,rfl,hi,⟨by show l72.length≤_;omega,hk1⟩,by show l74.length≤_;omega,hk2⟩
   ·refine bD (nD [118,97,114] dM) fun b hb=>?_
    split
    ·split
     ·exact sF (iV dM hE ((hc.rd hb).good g))
     ·refine qC (sG hE ((hc.rd hb).good g)) fun c hccs=>?_
      have hcc:=hccs.1
      have e1:=hb.len
      have e2:=hcc.2
      have e3:=g.1
      rw [iP (jG oM dM)]
      refine h4 _ _ _ _ (hb.cs hcc) ?_ oM (fun q hq=>(List.mem_append.1 hq).elim (hk1 q) fun h=>by rw [List.mem_singleton.1 h];exact hccs.2) hk2
      rw [List.length_append];simp only [lit,List.length_cons,List.length_nil];omega
    ·split
     ·rename_i hlen
      rw [iP (by simpa using hlen)]
      split
      ·split
       ·exact sF (iV dM hE ((hc.rd hb).good g))
       ·exact h5 _ hb
      ·exact h5 _ hb
     ·exact h5 _ hb
  ·rintro ⟨l35,x36,x37,l38,l40⟩ ⟨hc,hx,hi,hk1,hk2,hk3⟩
   have hc:Cs l l35:=hc
   have hx:x36=o:=hx
   have hi:isB (lit [[125]]) l35=true:=hi
   show Pn (bk ⟨l,E,o,t⟩ y5 l8 l15 c l35 x36 x37 l38 l40) _
   unfold bk
   obtain ⟨x,r,rfl,hk,ht⟩:=jS hi
   rw [hO]
   refine gk ⟨⟨x,?_,hc⟩,hx,k1,k2,hcs.2,hk1,hk2,hk3⟩
   simp only [lit,List.mem_singleton] at ht
   simp [br,hk,ht]
 have h1:∀ (y5:(List UInt8)×(List aa)) (l7:List aa) (l8:List (List UInt8)),Cs l l7→l8.length≤9000000→Pn (cW fuel ⟨l,E,o,t⟩ y5 l7 l8) (Po E (Nd l o)):=by
  intro y5 l7 l8 h k1
  unfold cW
  refine d8 (io _ hE (h.good g) (by simp [lit])) fun b hb=>?_
  refine bD (lw _ (by simp [lit])) fun c hc=>?_
  split
  ·exact h2 _ _ _ _ (h.trans hb) k1 AH
  ·exact d8 (o6 30 hE ((h.trans hb).good g)) fun d hd=>h2 _ _ _ _ ((h.trans hb).trans hd.1) k1 hd.2
 unfold fG
 rw [iP ⟨by decide,by obtain ⟨x,r,rfl,_⟩:=hx;simp⟩]
 refine bD (ut hx) fun a ha=>?_
 refine d8 (nn hE (ha.good g)) fun b hb=>?_
 refine bD (nD [60] dM) fun c hc=>?_
 have hc':=(ha.trans hb).rd hc
 split
 ·refine d8 (qD 3 hE (hc'.good g)) fun d hds=>?_
  have hd:=hds.1
  refine d8 (io _ hE ((hc'.trans hd).good g) (by simp [lit])) fun e he=>?_
  exact h1 _ _ _ ((hc'.trans hd).trans he) hds.2.1
 ·exact h1 _ _ _ hc' (Nat.zero_le _)
theorem Rd.count{a b:List aa}(h:Rd a b):a.countP br=b.countP br:=by
 obtain ⟨c,rfl,hc⟩:=h
 rw [List.countP_append,List.countP_eq_zero.2 fun t ht=>by rw [hc t ht];decide,Nat.zero_add]
def PQ(E:Int)(l:List aa)(r:bI×ai):Prop :=
 (r.2.code=0∧r.1.nodes.length=l.countP br∧(∃ c b,l=c++[b]∧br b=true)∧∀ x∈r.1.nodes,pN l.length x)∨(r.2.code≠0∧r.1.nodes=[]∧0≤r.2.at_∧r.2.at_≤E)
theorem zw{fuel:Nat}{src:List UInt8}{l:List aa}{f:ai}(hf:430≤fuel)(hs:kf src=some (l,f))(g:iX src.length l) :
  Pn (im fuel src) (fun r=>(f.code≠0∧r=(bI.mk [],f))∨(f.code=0∧PQ src.length l r)):=by
 unfold im
 rw [hs]
 refine tx rfl ?_
 by_cases h0:f.code=0
 ·rw [iN (fun x=>x h0)]
  refine qf (P:=PQ src.length l) ?_ fun r hr=>.inr ⟨h0,hr⟩
  have hE:(0:Int)≤(src.length:Int):=by omega
  refine bD (P:=Sum.elim (fun s=>s.2.2.2.length=l.countP br∧(∃ c b,l=c++[b]∧br b=true)∧∀ x∈s.2.2.2,pN l.length x) (PQ src.length l)) ?_ ?_
  ·refine oO (fun s=>iX src.length s.1∧s.2.1=0∧s.2.2.2.length+s.1.countP br=l.countP br∧((s.2.2.2=[]∧s.1=l)∨∃ c b,l=c++b :: s.1∧br b=true)∧s.2.2.2.length+s.1.length≤l.length∧∀ x∈s.2.2.2,pN l.length x) (fun s=>s.1.length) ⟨g,rfl,by simp,.inl ⟨rfl,rfl⟩,by simp,fun _ h=>nomatch h⟩ ?_
   rintro ⟨l25,x26,x27,l28⟩ ⟨g',hx,hn,hb,hl,hk⟩
   have hk:∀ x∈l28,pN l.length x:=hk
   have g':iX src.length l25:=g'
   have hx:x26=0:=hx
   have hn:l28.length+l25.countP br=l.countP br:=hn
   have hb:(l28=[]∧l25=l)∨∃ c b,l=c++b :: l25∧br b=true:=hb
   have hl:l28.length+l25.length≤l.length:=hl
   subst hx
   have key:Pn (fN fuel src l25 0 x27 l28) (Sum.elim (fun s'=>(iX src.length s'.1∧s'.2.1=0∧s'.2.2.2.length+s'.1.countP br=l.countP br∧((s'.2.2.2=[]∧s'.1=l)∨∃ c b,l=c++b :: s'.1∧br b=true)∧s'.2.2.2.length+s'.1.length≤l.length∧∀ x∈s'.2.2.2,pN l.length x)∧s'.1.length<l25.length)
     (Sum.elim (fun s=>s.2.2.2.length=l.countP br∧(∃ c b,l=c++[b]∧br b=true)∧∀ x∈s.2.2.2,pN l.length x) (PQ src.length l))):=by
    unfold fN
    refine bD (lw _ (by simp [lit])) fun b hb'=>?_
    subst hb'
    split
    ·rename_i hi
     split
     ·exact bD (iV dM hE g') fun a ha=>bn (.inr ⟨ha.1,rfl,ha.2⟩)
     ·obtain ⟨y,hy,hpy⟩:=xC (t:=x27) hf (Int.le_refl 0) dM hE g' (tB hi (by simp [lit]))
      rw [hy]
      cases y with
      |inr z=>exact bn (.inr ⟨hpy.1,rfl,hpy.2⟩)
      |inl a =>
       obtain ⟨⟨b,hbb,hcs⟩,ho,hnd⟩:Nd l25 0 a:=hpy
       show Pn (if d9 (l28.length+1) 144 then _ else none) _
       have e1:=hcs.2
       have e2:=g'.1
       have e3:l.length≤9000000:=g.1
       simp only [List.length_cons] at e1
       rw [iP (jG oM dM)]
       have hc:=hcs.1.count
       rw [List.countP_cons,iP hbb] at hc
       refine bn ⟨⟨(Rd.good hcs.1 g':iX _ (b :: a.2.1)) |> fun z=>⟨by have:=z.1;simp only [List.length_cons] at this;show a.2.1.length≤_;omega,fun t ht=>z.2 t (List.mem_cons_of_mem _ ht)⟩,ho,?_,.inr ?_,?_,fun x hx=>(List.mem_append.1 hx).elim (hk x) fun h=>by rw [List.mem_singleton.1 h];exact wN oM hnd⟩,?_⟩
       ·show (l28++lit [a.1]).length+a.2.1.countP br=l.countP br
        rw [List.length_append];simp only [lit,List.length_cons,List.length_nil];omega
       ·obtain ⟨c,hc1,_⟩:=hcs.1
        rcases hb with ⟨_,rfl⟩|⟨c0,b0,h0',_⟩
        ·exact ⟨c,b,hc1,hbb⟩
        ·exact ⟨c0++b0 :: c,b,by rw [h0',hc1];simp,hbb⟩
       ·show (l28++lit [a.1]).length+a.2.1.length≤l.length
        rw [List.length_append];simp only [lit,List.length_cons,List.length_nil];omega
       ·show a.2.1.length<l25.length
        omega
    ·exact bD (iV dM hE g') fun a ha=>bn (.inr ⟨ha.1,rfl,ha.2⟩)
   show Pn (gY fuel src l25 0 x27 l28) _
   unfold gY
   split
   ·exact key
   ·rename_i he
    split
    ·exact key
    ·rename_i hz
     have he:l25=[]:=by cases l25 with
      |nil=>rfl
      |cons x r=>exact absurd (by simp) he
     subst he
     refine bn ⟨by simpa using hn,?_,hk⟩
     rcases hb with ⟨h,_⟩|⟨c,b,h,hb⟩
     ·have h:l28=[]:=h;exact absurd (by rw [h];rfl) hz
     ·exact ⟨c,b,h,hb⟩
  ·intro a ha
   cases a with
   |inl s=>exact bn (.inl ⟨rfl,ha⟩)
   |inr r=>exact bn ha
 ·rw [iP h0]
  exact bn (.inl ⟨h0,rfl⟩)
theorem zx(s:ae):aI s=some (s.f.code != 0):=rfl
theorem fq{s:ae}(h:s.f.code≠0):aI s=some true:=by rw [zx];simp [h]
theorem cQ(L:List aa)(a E t:Int):aI ⟨L,a,E,⟨0,0⟩,t⟩=some false:=rfl
theorem yk{s:ae}(c:Int)(h:s.f.code≠0):bh c s=some (s.f.code,s.f.at_):=by
 unfold bh;rw [fq h];rfl
theorem dU{s:ae}(w:List UInt8)(h:s.f.code≠0):ar w s=some (s.at_,s.f.code,s.f.at_):=by
 unfold ar;rw [fq h];rfl
theorem BR{s:ae}(k:Int)(h:s.f.code≠0):fH k s=some (aa.mk 0 0 [] 0,s.at_,s.f.code,s.f.at_):=by
 unfold fH;rw [fq h];rfl
theorem rB{s:ae}(h:s.f.code≠0):aT s=some ([],s.at_,s.f.code,s.f.at_):=by
 unfold aT;rw [BR 2 h];rfl
theorem qj{s:ae}(n m:Int)(h:s.f.code≠0):cq n m s=some (false,s.at_,s.f.code,s.f.at_):=by
 unfold cq;rw [fq h];rfl
def dV(E:Int)(L:List aa):Prop:=iX E L∧∀ t∈L,(t.kind=3→∃ c w,t.text=c :: w∧tDg c)∧(t.kind=1∨t.kind=2∨t.kind=3∨t.kind=4)∧(t.kind=4→∀ c w,t.text=c :: w→¬ tSm c)
def wO(w:List UInt8):Prop:=∀ c r,w=c :: r→¬ tDg c
theorem o8{L:List aa}{a:Nat}{x:aa}{r:List aa}(h:L.drop a=x :: r):a<L.length∧L.getD a default=x∧L.drop (a+1)=r:=by
 have h1:a<L.length:=by
  apply Nat.lt_of_not_le
  intro hn
  rw [List.drop_of_length_le hn] at h
  cases h
 rw [List.drop_eq_getElem_cons h1] at h
 obtain ⟨h2,h3⟩:=List.cons.inj h
 exact ⟨h1,by rw [List.getD_eq_getElem?_getD,List.getElem?_eq_getElem h1,Option.getD_some,h2],h3⟩
theorem gR{E t:Int}{f:ai}{L:List aa}(w:List UInt8)(g:dV E L)(hw:wO w)(a:Nat):bj w ⟨L,a,E,f,t⟩=some (isB [w] (L.drop a)):=by
 unfold bj
 cases h:L.drop a with
 |nil =>
  have:L.length≤a:=by simpa using h
  rw [iN (show ¬ (a:Int)<(L.length:Int) by omega)];rfl
 |cons x r =>
  obtain ⟨h1,h2,h3⟩:=o8 h
  rw [iP (show (a:Int)<(L.length:Int) by omega),iP (show 0≤(a:Int)∧(a:Int)<(L.length:Int) by omega)]
  simp only [tN,h2]
  have hx:x∈L:=by rw [← h2];exact kG h1
  obtain ⟨d1,d2,_⟩:=g.2 x hx
  by_cases e:x.text=w
  ·rw [iP e]
   have hi:kT [w] x.text≥0:=nm (by simp [e])
   have hk3:x.kind≠3:=by
    intro h3
    obtain ⟨c,v,hc,hd⟩:=d1 h3
    exact hw c v (by rw [← e,hc]) hd
   simp only [isB,dT hi,Bool.and_true]
   rcases d2 with d|d|d|d
   ·rw [iP d,d];rfl
   ·rw [iN oM,d];rfl
   ·exact absurd d hk3
   ·rw [iN oM,d];rfl
  ·rw [iN e]
   have hi:¬ kT [w] x.text≥0:=fun h=>e (by simpa using n8 h)
   simp only [isB,dF hi,Bool.and_false]
theorem vR{E t:Int}{f:ai}{L:List aa}(a:Nat):fg ⟨L,a,E,f,t⟩=some (match L.drop a with|x :: _=>x.at_|[]=>E):=by
 unfold fg
 cases h:L.drop a with
 |nil =>
  have:L.length≤a:=by simpa using h
  rw [iN (show ¬ (a:Int)<(L.length:Int) by omega)]
 |cons x r =>
  obtain ⟨h1,h2,h3⟩:=o8 h
  rw [iP (show (a:Int)<(L.length:Int) by omega),iP (show 0≤(a:Int)∧(a:Int)<(L.length:Int) by omega)]
  simp only [tN,h2]
theorem zy{E o t t' c:Int}{L:List aa}(a:Nat):bh c ⟨L,a,E,⟨0,0⟩,t⟩=aC c ⟨L.drop a,E,o,t'⟩:=by
 have hj:∀ c',cJ ⟨L,a,E,⟨0,0⟩,t⟩ c'=some (c',match L.drop a with|x :: _=>x.at_|[]=>E):=by
  intro c'
  unfold cJ
  rw [vR];rfl
 have e:bh c ⟨L,a,E,⟨0,0⟩,t⟩=if c=4 then (if (a:Int)≥(L.length:Int) then cJ ⟨L,a,E,⟨0,0⟩,t⟩ 5 else cJ ⟨L,a,E,⟨0,0⟩,t⟩ c) else cJ ⟨L,a,E,⟨0,0⟩,t⟩ c:=by
  unfold bh;rw [cQ];rfl
 rw [e,hj,hj]
 unfold aC
 cases h:L.drop a with
 |nil =>
  have:L.length≤a:=by simpa using h
  rw [iN (show ¬ (([]:List aa).length:Int)>0 by simp),iP (show (a:Int)≥(L.length:Int) by omega)]
 |cons x r =>
  obtain ⟨h1,h2,h3⟩:=o8 h
  rw [iN (show ¬ (a:Int)≥(L.length:Int) by omega),ite_self,iP (show ((x :: r).length:Int)>0 by simp),iP (show 0≤0∧0<((x :: r).length:Int) by simp)]
  rfl
def bG(E c:Int)(l:List aa):Int×Int:=match l with|x :: _=>(c,x.at_)|[]=>(if c=4 then 5 else c,E)
theorem gG{E c o t:Int}{l:List aa}:aC c ⟨l,E,o,t⟩=some (bG E c l):=by
 unfold aC bG
 cases l with
 |nil =>
  rw [iN (by simp)]
  by_cases h:c=4
  ·rw [iP h,iP h]
  ·rw [iN h,iN h]
 |cons x r=>rw [iP (by simp),iP (by simp)];rfl
theorem bq{E c:Int}{l:List aa}(h:c≠0):(bG E c l).1≠0:=by
 unfold bG
 cases l with
 |nil=>simp only;split<;>omega
 |cons x r=>exact h
theorem iy{E t c:Int}{L:List aa}(a:Nat):bh c ⟨L,a,E,⟨0,0⟩,t⟩=some (bG E c (L.drop a)):=by
 rw [zy (o:=0) (t':=0) a,gG]
def Sm{α:Type}(L:List aa)(m:Option (α×Int×Int×Int)):(α×List aa) ⊕ (Int×Int)→Prop
 |.inl z=>∃ a:Nat,a≤L.length∧m=some (z.1,(a:Int),0,0)∧z.2=L.drop a
 |.inr f=>f.1≠0∧∃ x,∃ b:Nat,b≤L.length∧m=some (x,(b:Int),f.1,f.2)
def SmU(L:List aa)(m:Option (Int×Int×Int)):List aa ⊕ (Int×Int)→Prop
 |.inl z=>∃ a:Nat,a≤L.length∧m=some ((a:Int),0,0)∧z=L.drop a
 |.inr f=>f.1≠0∧∃ b:Nat,b≤L.length∧m=some ((b:Int),f.1,f.2)
theorem cL{L:List aa}{a:Nat}{W:List (List UInt8)}(h:isB W (L.drop a)=true):∃ x r,L.drop a=x :: r∧a<L.length∧L.getD a default=x∧L.drop (a+1)=r∧x.kind≠2∧x.text∈W:=by
 obtain ⟨x,r,h1,h2,h3⟩:=jS h
 obtain ⟨a1,a2,a3⟩:=o8 h1
 exact ⟨x,r,h1,a1,a2,a3,h2,h3⟩
theorem vS{E t:Int}{L:List aa}(w:List UInt8)(g:dV E L)(hw:wO w)(a:Nat)(ha:a≤L.length) :
  SmU L (ar w ⟨L,a,E,⟨0,0⟩,t⟩) (if isB [w] (L.drop a)=true then .inl (L.drop (a+1)) else .inr (bG E 4 (L.drop a))):=by
 unfold ar
 rw [cQ,bSq,iN dM,gR w g hw a,bSq]
 by_cases h:isB [w] (L.drop a)=true
 ·rw [iP h,iP h]
  obtain ⟨x,r,h1,a1,_⟩:=cL h
  refine ⟨a+1,by omega,?_,rfl⟩
  have:=g.1.1
  rw [wrs a oM]
 ·rw [iN h,iN h,iy,bSq]
  exact ⟨bq dM,a,ha,rfl⟩
theorem iT{E o t:Int}{l:List aa}(w:List UInt8):aA (lit [w]) ⟨l,E,o,t⟩=some (if isB [w] l=true then .inl (l.drop 1) else .inr (bG E 4 l)):=by
 unfold aA
 rw [ln]
 simp only [bt]
 rw [iP (by simp [lit]),iP (by simp [lit]),iH _ _ _ _ _ (by simp [lit]),bSq]
 have e:lit [(lit [w]).getD (0:Int).toNat default]=[w]:=rfl
 rw [e]
 by_cases h:isB [w] l=true
 ·rw [iP h,iP h]
  obtain ⟨x,r,rfl,_⟩:=jS h
  rw [hO]
  simp only [bSq,Sum.elim_inl]
  rw [ln,show IntKind.wrap .i64 (0+1)=1 by decide]
  simp only [bt]
  rw [iN (by simp [lit])]
  rfl
 ·rw [iN h,iN h,gG]
  rfl
theorem zz{E o t t' k:Int}{L:List aa}(g:dV E L)(a:Nat)(ha:a≤L.length){r:(aa×List aa) ⊕ (Int×Int)}(h:cY k ⟨L.drop a,E,o,t⟩=some r) :
  Sm L (fH k ⟨L,a,E,⟨0,0⟩,t'⟩) r:=by
 unfold cY at h
 unfold fH
 rw [cQ,bSq,iN dM]
 have gl:=g.1.1
 cases hd:L.drop a with
 |nil =>
  rw [hd] at h
  have:L.length≤a:=by simpa using hd
  rw [iP (by simp),gG] at h
  cases h
  rw [iP (show (a:Int)≥(L.length:Int) by omega),iy,hd]
  exact ⟨bq dM,_,a,ha,rfl⟩
 |cons x l =>
  rw [hd] at h
  obtain ⟨h1,h2,h3⟩:=o8 hd
  rw [iN (by simp;omega),iP (by simp)] at h
  simp only [List.getD_cons_zero] at h
  rw [iN (show ¬ (a:Int)≥(L.length:Int) by omega),iP (show 0≤(a:Int)∧(a:Int)<(L.length:Int) by omega)]
  simp only [tN,h2]
  by_cases hk:x.kind=k
  ·rw [iN (fun z=>z hk),hO] at h
   cases h
   have e1:IntKind.wrap .i64 (IntKind.wrap .i64 ((a:Int)+1) - 1)=(a:Int):=by rw [wrs a oM,wr oM oM];omega
   rw [iN (fun z=>z hk),e1,iP (show 0≤(a:Int)∧(a:Int)<(L.length:Int) by omega),tN,h2,wrs a oM]
   exact ⟨a+1,by omega,rfl,h3.symm⟩
  ·rw [iP hk,gG] at h
   cases h
   rw [iP hk,iy,hd]
   exact ⟨bq dM,_,a,ha,rfl⟩
theorem mY{E o t t':Int}{L:List aa}(g:dV E L)(a:Nat)(ha:a≤L.length){r:(List UInt8×List aa) ⊕ (Int×Int)}(h:bf ⟨L.drop a,E,o,t⟩=some r) :
  Sm L (aT ⟨L,a,E,⟨0,0⟩,t'⟩) r:=by
 unfold bf at h
 unfold aT
 obtain ⟨y,hy,h⟩:=bd h
 have hs:=zz (t':=t') g a ha hy
 cases y with
 |inl z=>cases h;obtain ⟨b,hb,hm,hz⟩:=hs;rw [hm];exact ⟨b,hb,rfl,hz⟩
 |inr f=>cases h;obtain ⟨hf,x,b,hb,hm⟩:=hs;rw [hm];exact ⟨hf,_,b,hb,rfl⟩
def Fb{α:Type}(b:Nat)(f:Int×Int)(m:Option (α×Int×Int×Int)):Prop:=∃ x,m=some (x,(b:Int),f.1,f.2)
theorem nE{E o t:Int}{l:List aa}(w:List UInt8):bm w ⟨l,E,o,t⟩=some (if isB [w] l=true then (true,l.drop 1) else (false,l)):=by
 unfold bm
 rw [iH _ _ _ _ _ (by simp [lit]),bSq]
 by_cases h:isB [w] l=true
 ·obtain ⟨x,r,rfl,_⟩:=jS h
  rw [show isB (lit [w]) (x :: r)=true from h,iP rfl,iP h,hO];rfl
 ·rw [iN h,show isB (lit [w]) l=false from fB h];rfl
theorem vT{E o t t' n:Int}{L:List aa}(g:dV E L)(a:Nat)(ha:a≤L.length){r:(aj×List aa) ⊕ (Int×Int)}(h:fE n ⟨L.drop a,E,o,t⟩=some r) :
  Sm L (ii n ⟨L,a,E,⟨0,0⟩,t'⟩) r:=by
 have gl:=g.1.1
 have hj:∀ r,dx n ⟨L.drop a,E,o,t⟩=some r→Sm L (f9 n ⟨L,a,E,⟨0,0⟩,t'⟩) r:=by
  intro r h
  unfold dx at h
  unfold f9
  obtain ⟨y,hy,h⟩:=bd h
  have hs:=zz (t':=t') g a ha hy
  cases y with
  |inr f =>
   cases h
   obtain ⟨hf,x,b,hb,hm⟩:=hs
   rw [hm,bSq,fq hf,bSq,iP rfl]
   exact ⟨hf,_,b,hb,rfl⟩
  |inl z =>
   obtain ⟨b,hb,hm,hz⟩:=hs
   rw [hm,bSq]
   simp only [Sum.elim_inl] at h
   rw [hz,nE,bSq] at h
   rw [cQ,bSq,iN dM,gR _ g (by intro c r h;cases h;decide) b,bSq]
   by_cases hi:isB [[42]] (L.drop b)=true
   ·rw [iP hi] at h
    rw [iP hi]
    obtain ⟨x,q,h1,a1,a2,a3,_⟩:=cL hi
    simp only [if_true,List.drop_drop] at h
    rw [wrs b oM]
    obtain ⟨y2,hy2,h⟩:=bd h
    have hs2:=mY (t':=t') g (b+1) oM hy2
    cases y2 with
    |inl z2=>cases h;obtain ⟨b2,hb2,hm2,hz2⟩:=hs2;rw [hm2];exact ⟨b2,hb2,rfl,hz2⟩
    |inr f=>cases h;obtain ⟨hf,x,b2,hb2,hm2⟩:=hs2;rw [hm2];exact ⟨hf,_,b2,hb2,rfl⟩
   ·rw [iN hi] at h
    rw [iN hi]
    cases h
    exact ⟨b,hb,rfl,rfl⟩
 unfold fE at h
 unfold ii
 cases hd:L.drop a with
 |nil =>
  have:L.length≤a:=by simpa using hd
  rw [hd,iN (by simp)] at h
  rw [iN (show ¬ (a:Int)<(L.length:Int) by omega)]
  exact hj r (by rw [hd];exact h)
 |cons x l =>
  obtain ⟨h1,h2,h3⟩:=o8 hd
  rw [hd,iP (by simp),iP (by simp)] at h
  simp only [List.getD_cons_zero] at h
  rw [iP (show (a:Int)<(L.length:Int) by omega),iP (show 0≤(a:Int)∧(a:Int)<(L.length:Int) by omega)]
  simp only [tN,h2]
  by_cases hk:x.kind=2
  ·rw [iP hk] at h ⊢
   obtain ⟨y,hy,h⟩:=bd h
   have hs:=mY (t':=t') g a ha (by rw [hd];exact hy)
   cases y with
   |inl z=>cases h;obtain ⟨b,hb,hm,hz⟩:=hs;rw [hm];exact ⟨b,hb,rfl,hz⟩
   |inr f=>cases h;obtain ⟨hf,x,b,hb,hm⟩:=hs;rw [hm];exact ⟨hf,_,b,hb,rfl⟩
  ·rw [iN hk] at h ⊢
   exact hj r (by rw [hd];exact h)
theorem kQ{α:Type}{m:Option α}{Q:α→Prop}{r:α}(h:Pn m Q)(e:m=some r):Q r:=by
 obtain ⟨a,ha,hq⟩:=h;rw [ha] at e;cases e;exact hq
theorem AZ{α β:Type}{L:List aa}{m:Option (α×Int×Int×Int)}{k:α×Int×Int×Int→Option (β×Int×Int×Int)}{y:(α×List aa) ⊕ (Int×Int)}{F:α×List aa→Option ((β×List aa) ⊕ (Int×Int))}{r:(β×List aa) ⊕ (Int×Int)}
  (hs:Sm L m y) (h:Sum.elim F (fun z=>some (.inr (z.1,z.2))) y=some r)
  (ok:∀ (x:α) (a:Nat),a≤L.length→y=.inl (x,L.drop a)→F (x,L.drop a)=some r→Sm L (k (x,(a:Int),0,0)) r)
  (bad:∀ (f:Int×Int) (x:α) (b:Nat),f.1≠0→b≤L.length→Fb b f (k (x,(b:Int),f.1,f.2))):Sm L (m.bind k) r:=by
 cases y with
 |inl z =>
  obtain ⟨x,l⟩:=z
  obtain ⟨a,ha,hm,hz⟩:=hs
  have hz:l=L.drop a:=hz
  subst hz
  rw [hm]
  exact ok x a ha rfl h
 |inr f =>
  cases h
  obtain ⟨hf,x,b,hb,hm⟩:=hs
  rw [hm]
  obtain ⟨x',hx⟩:=bad f x b hf hb
  exact ⟨hf,x',b,hb,hx⟩
theorem mZ{S T S' T':Type}{p:S→Option (S ⊕ T)}{q:S'→Option (S' ⊕ T')}(R:S→S'→Prop)(μ:S→Nat)(Post:T→Option T'→Prop)
  (step:∀ s s',R s s'→∀ o,p s=some o→Sum.elim (fun s1=>∃ s1',q s'=some (.inl s1')∧R s1 s1'∧μ s1<μ s) (fun z=>Post z (bJ q s')) o):∀ (n:Nat) (s:S) (s':S') (z:T),μ s=n→R s s'→bJ p s=some z→Post z (bJ q s'):=by
 intro n
 induction n using Nat.strongRecOn with
 |_ n ih =>
  intro s s' z hn hR h
  rw [qa] at h
  cases hp:p s with
  |none=>rw [hp] at h;cases h
  |some o =>
   rw [hp] at h
   have:=step s s' hR o hp
   cases o with
   |inl s1 =>
    obtain ⟨s1',hq,hR1,hm⟩:=this
    rw [dZ hq]
    exact ih (μ s1) oM s1 s1' z rfl hR1 h
   |inr z'=>cases h;exact this
def whR(W:List (List UInt8)):List aa→Int
 |x :: _=>if x.kind=2 then -1 else kT W x.text
 |[]=>-1
theorem km{E t:Int}{f:ai}{L:List aa}(W:List (List UInt8))(hW:W.length≤1000)(g:dV E L)(hw:∀ w∈W,wO w)(a:Nat):bu W ⟨L,a,E,f,t⟩=some (whR W (L.drop a)):=by
 unfold bu
 rw [n6 W.length (fun i=>if isB [W.getD i default] (L.drop a)=true then some (i:Int) else none) () (fun i hi=>by
  unfold ir
  rw [iP (ltI hi),iP (inI hi),tN,gR _ g (hw _ (kG hi)) a,bSq]
  by_cases e:isB [W.getD i default] (L.drop a)=true
  ·rw [iP e,iP e]
  ·rw [iN e,iN e,wrs i oM]) (by unfold ir;rw [iN (jc _)])]
 simp only [bSq]
 cases hd:L.drop a with
 |nil=>rw [qd (fun i _=>by simp [isB])];rfl
 |cons x r =>
  unfold whR
  by_cases hk:x.kind=2
  ·rw [qd (fun i _=>by simp [isB,hk])];simp [hk];rfl
  ·rw [wF (g:=fun i=>if x.text=W.getD i default then some (i:Int) else none) (fun i _=>by
    by_cases e:x.text=W.getD i default
    ·rw [iP e,iP (by simp only [isB,Bool.and_eq_true,decide_eq_true_eq];exact ⟨hk,nm (by simp [e])⟩)]
    ·rw [iN e,iN (by
      simp only [isB,Bool.and_eq_true,decide_eq_true_eq]
      intro h
      exact e (by simpa using n8 h.2))])]
   simp only [hk,if_false]
   unfold kT gD
   split<;>rename_i h2<;>rw [h2]<;>rfl
theorem gF{W:List (List UInt8)}{x:aa}{r:List aa}(h:x.kind≠2):whR W (x :: r)=kT W x.text:=by simp [whR,h]
theorem lO{W:List (List UInt8)}{l:List aa}:(0≤whR W l)↔isB W l=true:=by
 cases l with
 |nil=>simp [whR,isB]
 |cons x r =>
  unfold whR
  by_cases hk:x.kind=2
  ·simp [hk,isB]
  ·simp [hk,isB]
theorem qE{E t:Int}{L:List aa}{f:Int×Int}{p:ae}(hf:f.1≠0)(b:Nat)(l:List aj) :
  bJ (fun (x27,x28,x29,l30)=>bo p x27 x28 x29 l30) ((b:Int),f.1,f.2,l)=some ((b:Int),f.1,f.2,l):=by
 refine a8 ?_
 show bo p (b:Int) f.1 f.2 l=_
 unfold bo
 rw [fq hf,bSq,iP rfl]
theorem tE{E o t t':Int}{L:List aa}(hE:0≤E)(g:dV E L)(a:Nat)(ha:a≤L.length){r:(List aj×List aa) ⊕ (Int×Int)}(h:cZ ⟨L.drop a,E,o,t⟩=some r) :
  Sm L (cg ⟨L,a,E,⟨0,0⟩,t'⟩) r:=by
 have gl:=g.1.1
 have gd':∀ b,iX E (L.drop b):=fun b=>⟨by rw [List.length_drop];omega,fun x hx=>g.1.2 x (List.mem_of_mem_drop hx)⟩
 have hj:∀ (c:Nat) (n:Int) (r),c≤L.length→dz ⟨L.drop a,E,o,t⟩ (L.drop c) n=some r→Sm L (fb ⟨L,a,E,⟨0,0⟩,t'⟩ c n) r:=by
  intro c n r hc h
  unfold dz at h
  unfold fb
  obtain ⟨y,hy,h⟩:=bd h
  refine AZ (vT (t':=t') g c hc hy) h (fun x b hb e h=>?_) (fun f x b hf hb=>?_)
  ·obtain ⟨z,hz,h⟩:=bd h
   refine mZ (q:=fun (x27,x28,x29,l30)=>bo ⟨L,a,E,⟨0,0⟩,t'⟩ x27 x28 x29 l30)
    (R:=fun (s:List aa×List aj) (s':Int×Int×Int×List aj)=>∃ d:Nat,d≤L.length∧s.1=L.drop d∧s'=((d:Int),0,0,s.2)∧s.2.length≤30∧s.2.length+s.1.length≤L.length+1) (μ:=fun s=>s.1.length)
    (Post:=fun z m=>∀ r,(Sum.elim (fun (z40,z41)=>fe z40 z41) (fun z42=>some z42)) z=some r→Sm L (m.bind (fun (z36,z37,z38,z39)=>ep z36 z37 z38 z39)) r) ?_ _ (L.drop b,lit [x]) ((b:Int),0,0,lit [x]) z rfl ⟨b,hb,rfl,rfl,by simp [lit],by simp [lit];omega⟩ hz r h
   rintro ⟨l25,l26⟩ ⟨x27,x28,x29,l30⟩ ⟨d,hd,h1,h2,h3,h4⟩ w hw
   have h1:l25=L.drop d:=h1
   cases h2
   subst h1
   have hw:ff ⟨L.drop a,E,o,t⟩ (L.drop d) l26=some w:=hw
   have h3:l26.length≤30:=h3
   unfold ff at hw
   rw [iH _ _ _ _ _ (by simp [lit]),bSq] at hw
   have hwh:=km (E:=E) (t:=t') (f:=⟨0,0⟩) (lit [([43]:List UInt8),[45]]) (by simp [lit]) g (by intro w hw;simp only [lit,List.mem_cons,List.not_mem_nil,or_false] at hw;rcases hw with rfl|rfl<;>(intro c r h;cases h;decide)) d
   have hbody:∀ m,(bo ⟨L,a,E,⟨0,0⟩,t'⟩ (d:Int) 0 0 l26=m)→True:=fun _ _=>trivial
   by_cases hi:isB (lit [([43]:List UInt8),[45]]) (L.drop d)=true
   ·rw [iP hi] at hw
    have h0:=lO.2 hi
    obtain ⟨v,q,e1,e2,e3,e4,e5,e6⟩:=cL hi
    by_cases h30:(l26.length:Int)=30
    ·rw [iP h30,gG] at hw
     cases hw
     intro r hr
     cases hr
     rw [a8 (o:=((d:Int),(bG E 7 (L.drop d)).1,(bG E 7 (L.drop d)).2,l26)) (by
      show bo ⟨L,a,E,⟨0,0⟩,t'⟩ (d:Int) 0 0 l26=_
      unfold bo
      rw [cQ,bSq,iN dM,hwh,bSq,iN oM,iP oM,iy,bSq])]
     exact ⟨bq dM,_,d,hd,rfl⟩
    ·rw [iN h30,e1,hO,bSq] at hw
     have key:∀ n,1 - 2 * whR (lit [([43]:List UInt8),[45]]) (L.drop d)=n→dy ⟨L.drop a,E,o,t⟩ l26 q n=some w→Sum.elim (fun (s1:List aa×List aj)=>∃ s1',bo ⟨L,a,E,⟨0,0⟩,t'⟩ (d:Int) 0 0 l26=some (.inl s1')∧(∃ d:Nat,d≤L.length∧s1.1=L.drop d∧s1'=((d:Int),0,0,s1.2)∧s1.2.length≤30∧s1.2.length+s1.1.length≤L.length+1)∧s1.1.length<(L.drop d).length) (fun z=>∀ r,(Sum.elim (fun (z40,z41)=>fe z40 z41) (fun z42=>some z42)) z=some r→Sm L ((bJ (fun (x27,x28,x29,l30)=>bo ⟨L,a,E,⟨0,0⟩,t'⟩ x27 x28 x29 l30) ((d:Int),0,0,l26)).bind (fun (z36,z37,z38,z39)=>ep z36 z37 z38 z39)) r) w:=by
      intro n hn hw
      unfold dy at hw
      obtain ⟨y,hy,hw⟩:=bd hw
      rw [← e4] at hy
      have hs:=vT (t':=t') g (d+1) oM hy
      have hcs:=kQ (u7 n hE (gd' (d+1))) hy
      have hb1:∀ m,ii n ⟨L,((d+1:Nat):Int),E,⟨0,0⟩,t'⟩=m→bo ⟨L,a,E,⟨0,0⟩,t'⟩ (d:Int) 0 0 l26=m.bind fun y35=>if d9 (l26.length+1) 24 then some (.inl (y35.2.1,y35.2.2.1,y35.2.2.2,l26++lit [y35.1])) else none:=by
       intro m hm
       unfold bo
       rw [cQ,bSq,iN dM,hwh,bSq,iN oM,iN oM,wrs d oM]
       have hlt:whR (lit [([43]:List UInt8),[45]]) (L.drop d)<2:=by
        rw [e1,gF e5];exact nl
       rw [wr (n:=2 * _) oM oM,wr (n:=1 - _) oM oM,hn,hm]
      cases y with
      |inr f =>
       cases hw
       intro r hr
       cases hr
       obtain ⟨hf,x,b,hb,hm⟩:=hs
       have hq:=hb1 _ hm
       rw [bSq,iP (jG oM dM)] at hq
       rw [dZ hq]
       simp only
       rw [qE (E:=E) (t:=t) (L:=L) hf b]
       exact ⟨hf,_,b,hb,rfl⟩
      |inl z =>
       obtain ⟨x,l⟩:=z
       obtain ⟨b,hb,hm,hz⟩:=hs
       have hz:l=L.drop b:=hz
       subst hz
       have hq:=hb1 _ hm
       rw [bSq,iP (jG oM dM)] at hq
       simp only [Sum.elim_inl] at hw
       rw [iP (jG oM dM)] at hw
       cases hw
       have hcs:Cs (L.drop (d+1)) (L.drop b):=hcs
       have h5:=hcs.2
       have h6:(L.drop (d+1)).length+1=(L.drop d).length:=by rw [List.length_drop,List.length_drop];omega
       have h4:l26.length+(L.drop d).length≤L.length+1:=h4
       refine ⟨_,hq,⟨b,hb,rfl,rfl,?_,?_⟩,?_⟩
       ·show (l26++lit [x]).length≤30
        rw [List.length_append];simp only [lit,List.length_cons,List.length_nil];omega
       ·show (l26++lit [x]).length+(L.drop b).length≤L.length+1
        rw [List.length_append];simp only [lit,List.length_cons,List.length_nil];omega
       ·show (L.drop b).length<(L.drop d).length
        omega
     have e6':v.text=[43]∨v.text=[45]:=by simpa [lit] using e6
     rcases e6' with e7|e7
     ·rw [iN (by rw [e7];decide)] at hw
      exact key 1 (by rw [e1,gF e5,e7];decide) hw
     ·rw [iP e7] at hw
      exact key (-1) (by rw [e1,gF e5,e7];decide) hw
   ·rw [iN hi] at hw
    cases hw
    intro r hr
    cases hr
    have h0:whR (lit [([43]:List UInt8),[45]]) (L.drop d)<0:=Int.not_le.1 fun h=>hi (lO.1 h)
    rw [a8 (o:=((d:Int),0,0,l26)) (by
     show bo ⟨L,a,E,⟨0,0⟩,t'⟩ (d:Int) 0 0 l26=_
     unfold bo
     rw [cQ,bSq,iN dM,hwh,bSq,iP h0])]
    exact ⟨d,hd,rfl,rfl⟩
  ·simp only
   rw [qE (E:=E) (t:=t) (L:=L) hf b]
   exact ⟨_,rfl⟩
 unfold cZ at h
 unfold cg
 rw [nE,bSq] at h
 rw [cQ,bSq,iN dM,gR _ g (by intro c r h;cases h;decide) a,bSq]
 by_cases hi:isB [[45]] (L.drop a)=true
 ·rw [iP hi] at h ⊢
  simp only [if_true,List.drop_drop] at h
  obtain ⟨v,q,e1,e2,_⟩:=cL hi
  rw [wrs a oM]
  exact hj (a+1) (-1) r oM h
 ·rw [iN hi] at h ⊢
  exact hj a 1 r ha h
theorem zA{E t:Int}{L:List aa}{f:Int×Int}(hf:f.1≠0)(b:Nat):Fb b f (cx ⟨L,b,E,⟨f.1,f.2⟩,t⟩):=by
 unfold cx
 rw [rB hf,bSq,dU _ hf,bSq,fq hf,bSq,iP rfl]
 exact ⟨_,rfl⟩
theorem AI{β:Type}{E o t t':Int}{L:List aa}{w:List UInt8}{k:Int×Int×Int→Option (β×Int×Int×Int)}{y:List aa ⊕ (Int×Int)}{F:List aa→Option ((β×List aa) ⊕ (Int×Int))}{r:(β×List aa) ⊕ (Int×Int)}{a:Nat}
  (g:dV E L) (hw:wO w) (ha:a≤L.length) (hy:aA (lit [w]) ⟨L.drop a,E,o,t⟩=some y) (h:Sum.elim F (fun z=>some (.inr (z.1,z.2))) y=some r)
  (ok:a+1≤L.length→F (L.drop (a+1))=some r→Sm L (k (((a+1:Nat):Int),0,0)) r)
  (bad:∀ (f:Int×Int) (b:Nat),f.1≠0→b≤L.length→Fb b f (k ((b:Int),f.1,f.2))):Sm L ((ar w ⟨L,a,E,⟨0,0⟩,t'⟩).bind k) r:=by
 have hs:=vS (t:=t') w g hw a ha
 rw [iT] at hy
 cases hy
 by_cases hi:isB [w] (L.drop a)=true
 ·rw [iP hi] at hs h
  rw [List.drop_drop] at h
  obtain ⟨x,r',h1,a1,_⟩:=cL hi
  unfold ar
  rw [cQ,bSq,iN dM,gR w g hw a,bSq,iP hi,bSq,wrs a (by have:=g.1.1;omega)]
  exact ok oM h
 ·rw [iN hi] at hs h
  cases h
  obtain ⟨hf,b,hb,hm⟩:=hs
  rw [hm]
  obtain ⟨x',hx⟩:=bad (bG E 4 (L.drop a)) b hf hb
  exact ⟨hf,x',b,hb,hx⟩
theorem vU{E o t t':Int}{L:List aa}(hE:0≤E)(g:dV E L)(a:Nat)(ha:a≤L.length){r:(az×List aa) ⊕ (Int×Int)}(h:dr ⟨L.drop a,E,o,t⟩=some r) :
  Sm L (cx ⟨L,a,E,⟨0,0⟩,t'⟩) r:=by
 have gl:=g.1.1
 unfold dr at h
 unfold cx
 obtain ⟨y,hy,h⟩:=bd h
 refine AZ (mY (t':=t') g a ha hy) h (fun x b hb e h=>?_) (fun f x b hf hb=>?_)
 ·obtain ⟨y2,hy2,h⟩:=bd h
  refine AI (t':=t') g (by intro c r h;cases h;decide) hb hy2 h (fun hb1 h=>?_) (fun f b hf hb=>?_)
  ·obtain ⟨y3,hy3,h⟩:=bd h
   rw [cQ,bSq,iN dM,km _ (by simp [lit]) g (by intro w hw;simp only [lit,List.mem_cons,List.not_mem_nil,or_false] at hw;rcases hw with rfl|rfl<;>(intro c r h;cases h;decide)) (b+1),bSq]
   unfold gN at hy3
   rw [iH _ _ _ _ _ (by simp [lit]),bSq] at hy3
   by_cases hi:isB (lit [([105,110,116]:List UInt8),[98,111,111,108]]) (L.drop (b+1))=true
   ·rw [iP hi] at hy3
    obtain ⟨v,q,e1,e2,e3,e4,e5,e6⟩:=cL hi
    rw [e1,hO,bSq] at hy3
    have key:∀ (c:Int) (u:Option ((kd×List aa) ⊕ (Int×Int))),u=((bm [94] ⟨q,E,o,t⟩).bind fun y3=>if y3.1=true then (cZ ⟨y3.2,E,o,t⟩).bind fun y4=>Sum.elim (fun y7=>some (.inl (kd.mk c y7.1,y7.2))) (fun y8=>some (.inr (y8.1,y8.2))) y4 else some (.inl (kd.mk c [],y3.2)))→u=some y3 →
      Sm L (gf ⟨L,a,E,⟨0,0⟩,t'⟩ (x,(b:Int),0,0) (((b+1:Nat):Int),0,0) c) r:=by
     intro c u hu hu2
     rw [hu,nE,bSq,← e4] at hu2
     unfold gf
     simp only
     rw [wrs (b+1) oM,gR _ g (by intro c r h;cases h;decide) (b+1+1),bSq]
     by_cases hj:isB [[94]] (L.drop (b+1+1))=true
     ·obtain ⟨v',q',f1,f2,_⟩:=cL hj
      rw [iP hj] at hu2 ⊢
      simp only [if_true,List.drop_drop] at hu2
      obtain ⟨y4,hy4,hu2⟩:=bd hu2
      rw [wrs (b+1+1) oM]
      have hs:=tE (t':=t') hE g (b+1+1+1) oM hy4
      cases y4 with
      |inl z =>
       cases hu2
       cases h
       obtain ⟨b2,hb2,hm2,hz2⟩:=hs
       rw [hm2]
       exact ⟨b2,hb2,rfl,hz2⟩
      |inr f =>
       cases hu2
       cases h
       obtain ⟨hf,x',b2,hb2,hm2⟩:=hs
       rw [hm2]
       exact ⟨hf,_,b2,hb2,rfl⟩
     ·rw [iN hj] at hu2 ⊢
      cases hu2
      cases h
      exact ⟨b+1+1,by omega,rfl,rfl⟩
    have e6':v.text=[105,110,116]∨v.text=[98,111,111,108]:=by simpa [lit] using e6
    rcases e6' with e7|e7
    ·rw [iP (by rw [e7];decide)] at hy3
     rw [iP (by rw [e1,gF e5,e7];decide)]
     refine key 105 _ ?_ hy3
     rw [e7];rfl
    ·rw [iP (by rw [e7];decide)] at hy3
     rw [iN (by rw [e1,gF e5,e7];decide),iP (by rw [e1,gF e5,e7];decide)]
     refine key 98 _ ?_ hy3
     rw [e7];rfl
   ·rw [iN hi,gG] at hy3
    cases hy3
    cases h
    have h0:whR (lit [([105,110,116]:List UInt8),[98,111,111,108]]) (L.drop (b+1))<0:=Int.not_le.1 fun h=>hi (lO.1 h)
    rw [iN oM,iN oM,iy,bSq]
    exact ⟨bq dM,_,b+1,hb1,rfl⟩
  ·rw [fq hf,bSq,iP rfl]
   exact ⟨_,rfl⟩
 ·rw [dU _ hf,bSq,fq hf,bSq,iP rfl]
  exact ⟨_,rfl⟩
theorem rC{E t n most:Int}{L:List aa}(g:dV E L)(b:Nat)(hb:b≤L.length):cq n most ⟨L,b,E,⟨0,0⟩,t⟩ =
  some (if isB [[44]] (L.drop b)=true then (if n≥most then (false,((b+1:Nat):Int),(bG E 7 (L.drop (b+1))).1,(bG E 7 (L.drop (b+1))).2) else (true,((b+1:Nat):Int),0,0)) else (false,(b:Int),0,0)):=by
 have gl:=g.1.1
 unfold cq
 rw [cQ,bSq,iN dM,gR _ g (by intro c r h;cases h;decide) b,bSq]
 by_cases hi:isB [[44]] (L.drop b)=true
 ·rw [iP hi,iP hi]
  by_cases hn:n≥most
  ·rw [iP hn,iP hn]
   simp only
   rw [wrs b oM,iy,bSq]
   unfold fI
   simp only
   rw [wrs b oM,fq (bq dM),bSq]
   rfl
  ·rw [iN hn,iN hn]
   unfold fI
   simp only
   rw [wrs b oM,cQ,bSq]
   rfl
 ·rw [iN hi,iN hi]
def SmR{β:Type}(L:List aa)(m:Option (Int×Int×Int×List β)):(List β×List aa) ⊕ (Int×Int)→Prop
 |.inl z=>∃ a:Nat,a≤L.length∧m=some ((a:Int),0,0,z.1)∧z.2=L.drop a
 |.inr f=>f.1≠0∧∃ x,∃ b:Nat,b≤L.length∧m=some ((b:Int),f.1,f.2,x)
theorem ve{β:Type}{E t' most:Int}{rm:Nat}{L:List aa}(g:dV E L)(hrm:rm≤1000)
  {pe:List aa→Option ((β×List aa) ⊕ (Int×Int))} {re:ae→Option (β×Int×Int×Int)}
  {pb:List aa×List β→Option ((List aa×List β) ⊕ ((List β×List aa) ⊕ (Int×Int)))} {rb:Int×Int×Int×List β→Option ((Int×Int×Int×List β) ⊕ (Int×Int×Int×List β))}
  (hp:∀ l acc,pb (l,acc)=if (acc.length:Int)=most then some (.inr (.inr (bG E 7 l))) else (pe l).bind (Sum.elim (fun a=>if d9 (acc.length+1) rm then some (if isB [[44]] a.2=true then .inl (a.2.drop 1,acc++lit [a.1]) else .inr (.inl (acc++lit [a.1],a.2))) else none) (fun f=>some (.inr (.inr f)))))
  (hr:∀ b c f acc,rb (b,c,f,acc)=(cq (acc.length:Int) most ⟨L,b,E,⟨c,f⟩,t'⟩).bind fun y=>if y.1=true then (re ⟨L,y.2.1,E,⟨y.2.2.1,y.2.2.2⟩,t'⟩).bind fun z=>if d9 (acc.length+1) rm then some (.inl (z.2.1,z.2.2.1,z.2.2.2,acc++lit [z.1])) else none else some (.inr (y.2.1,y.2.2.1,y.2.2.2,acc)))
  (hs:∀ (d:Nat) r,d≤L.length→pe (L.drop d)=some r→Sm L (re ⟨L,d,E,⟨0,0⟩,t'⟩) r)
  (hc:∀ (d:Nat) (z:β×List aa),d≤L.length→pe (L.drop d)=some (.inl z)→z.2.length<(L.drop d).length) :
  ∀ (n d:Nat) (acc:List β) (z),(L.drop d).length=n→d≤L.length→(acc.length:Int)<most→acc.length+(L.drop d).length≤L.length+1→bJ pb (L.drop d,acc)=some z →
   SmR L ((re ⟨L,d,E,⟨0,0⟩,t'⟩).bind fun y=>bJ rb (y.2.1,y.2.2.1,y.2.2.2,acc++lit [y.1])) z:=by
 have gl:=g.1.1
 intro n
 induction n using Nat.strongRecOn with
 |_ n ih =>
  intro d acc z hn hd hlt hlen h
  rw [qa,hp,iN oM] at h
  cases hy:pe (L.drop d) with
  |none=>rw [hy] at h;cases h
  |some y =>
   have hsm:=hs d y hd hy
   rw [hy] at h
   cases y with
   |inr f =>
    cases h
    obtain ⟨hf,x,b,hb,hm⟩:=hsm
    rw [hm,bSq]
    rw [a8 (o:=((b:Int),f.1,f.2,acc++lit [x])) (by rw [hr,qj _ _ hf,bSq,iN Bool.false_ne_true])]
    exact ⟨hf,_,b,hb,rfl⟩
   |inl a =>
    obtain ⟨x,l⟩:=a
    obtain ⟨b,hb,hm,hz⟩:=hsm
    have hz:l=L.drop b:=hz
    subst hz
    have hcl:=hc d _ hd hy
    have hcl:(L.drop b).length<(L.drop d).length:=hcl
    have hroom:d9 (acc.length+1) rm:=by
     apply Classical.byContradiction
     intro hn
     simp only [bSq,Sum.elim_inl] at h
     rw [iN hn] at h
     cases h
    simp only [bSq,Sum.elim_inl] at h
    rw [iP hroom] at h
    rw [hm,bSq]
    have hal:(acc++lit [x]).length=acc.length+1:=by rw [List.length_append];rfl
    by_cases hi:isB [[44]] (L.drop b)=true
    ·rw [iP hi] at h
     simp only [List.drop_drop] at h
     obtain ⟨v,q,e1,e2,_⟩:=cL hi
     have hbl:(L.drop (b+1)).length+1=(L.drop b).length:=by rw [List.length_drop,List.length_drop];omega
     by_cases hmost:(((acc++lit [x]).length:Nat):Int)≥most
     ·have he:(((acc++lit [x]).length:Nat):Int)=most:=by rw [hal] at hmost ⊢;omega
      rw [qa,hp,iP he] at h
      cases h
      rw [a8 (o:=(((b+1:Nat):Int),(bG E 7 (L.drop (b+1))).1,(bG E 7 (L.drop (b+1))).2,acc++lit [x])) (by rw [hr,rC g b hb,iP hi,iP hmost,bSq,iN Bool.false_ne_true])]
      exact ⟨bq dM,_,b+1,by omega,rfl⟩
     ·have ih':=ih _ oM (b+1) (acc++lit [x]) z rfl oM oM (by rw [hal];omega) h
      have hstep:rb ((b:Int),0,0,acc++lit [x])=(re ⟨L,((b+1:Nat):Int),E,⟨0,0⟩,t'⟩).bind fun z=>if d9 ((acc++lit [x]).length+1) rm then some (.inl (z.2.1,z.2.2.1,z.2.2.2,(acc++lit [x])++lit [z.1])) else none:=by
       rw [hr,rC g b hb,iP hi,iN hmost,bSq,iP rfl]
      have hroom2:d9 ((acc++lit [x]).length+1) rm:=jG (by rw [hal];omega) hrm
      have hgo:bJ rb ((b:Int),0,0,acc++lit [x])=(re ⟨L,((b+1:Nat):Int),E,⟨0,0⟩,t'⟩).bind fun y=>bJ rb (y.2.1,y.2.2.1,y.2.2.2,(acc++lit [x])++lit [y.1]):=by
       rw [ln,hstep]
       cases re ⟨L,((b+1:Nat):Int),E,⟨0,0⟩,t'⟩ with
       |none=>rfl
       |some y=>rw [bSq,iP hroom2];rfl
      rw [hgo]
      exact ih'
    ·rw [iN hi] at h
     cases h
     rw [a8 (o:=((b:Int),0,0,acc++lit [x])) (by rw [hr,rC g b hb,iN hi,bSq,iN Bool.false_ne_true])]
     exact ⟨b,hb,rfl,rfl⟩
theorem dV.drop{E:Int}{L:List aa}(g:dV E L)(b:Nat):iX E (L.drop b):=⟨by have:=g.1.1;rw [List.length_drop];omega,fun x hx=>g.1.2 x (List.mem_of_mem_drop hx)⟩
theorem wP{E o t:Int}{L:List aa}(l:List aa)(acc:List az):(fun (l13,l14)=>de 30 ⟨L,E,o,t⟩ l13 l14) (l,acc) =
  if (acc.length:Int)=30 then some (.inr (.inr (bG E 7 l))) else (dr ⟨l,E,o,t⟩).bind (Sum.elim (fun a=>if d9 (acc.length+1) 48 then some (if isB [[44]] a.2=true then .inl (a.2.drop 1,acc++lit [a.1]) else .inr (.inl (acc++lit [a.1],a.2))) else none) (fun f=>some (.inr (.inr f)))):=by
 show de 30 ⟨L,E,o,t⟩ l acc=_
 unfold de
 split
 ·rw [gG];rfl
 ·congr 1
  funext y
  cases y with
  |inr f=>rfl
  |inl a =>
   simp only [Sum.elim_inl]
   split
   ·rw [nE,bSq]
    split
    ·rfl
    ·rfl
   ·rfl
theorem uu{E o t t':Int}{L:List aa}(hE:0≤E)(g:dV E L)(a:Nat)(ha:a≤L.length){r:(List az×List aa) ⊕ (Int×Int)}(h:el 30 ⟨L.drop a,E,o,t⟩=some r) :
  Sm L (iv ⟨L,a,E,⟨0,0⟩,t'⟩) r:=by
 unfold el at h
 obtain ⟨z,hz,h⟩:=bd h
 cases h
 have hs:=ve (E:=E) (t':=t') (most:=30) (rm:=48) g dM (pe:=fun l=>dr ⟨l,E,o,t⟩) (re:=cx)
  (rb := fun (x25, x26, x27, l28) => eR ⟨L, a, E, ⟨0, 0⟩, t'⟩ x25 x26 x27 l28) (wP (L := L.drop a)) (fun b c f acc => by
   show eR ⟨L,a,E,⟨0,0⟩,t'⟩ b c f acc=_
   unfold eR
   rfl) (fun d r hd h=>vU hE g d hd h) (fun d z hd h=>(kQ (sG hE (g.drop d)) h).1.2) _ a [] r rfl ha dM (by rw [List.length_drop];simp;omega) hz
 unfold iv
 have e:(cx ⟨L,a,E,⟨0,0⟩,t'⟩).bind (fun y1=>(bJ (fun (x25,x26,x27,l28)=>eR ⟨L,a,E,⟨0,0⟩,t'⟩ x25 x26 x27 l28) (y1.2.1,y1.2.2.1,y1.2.2.2,lit [az.mk y1.1.name y1.1.t])).bind (fun (z32,z33,z34,z35)=>fJ z32 z33 z34 z35)) =
   ((cx ⟨L,a,E,⟨0,0⟩,t'⟩).bind fun y=>bJ (fun (x25,x26,x27,l28)=>eR ⟨L,a,E,⟨0,0⟩,t'⟩ x25 x26 x27 l28) (y.2.1,y.2.2.1,y.2.2.2,[]++lit [y.1])).bind (fun (z32,z33,z34,z35)=>fJ z32 z33 z34 z35):=by
  cases cx ⟨L,a,E,⟨0,0⟩,t'⟩<;>rfl
 refine (congrArg (fun m=>Sm L m r) e).mpr ?_
 cases r with
 |inl z=>obtain ⟨b,hb,hm,hz⟩:=hs;simp only [hm,bSq];exact ⟨b,hb,rfl,hz⟩
 |inr f=>obtain ⟨hf,x,b,hb,hm⟩:=hs;simp only [hm,bSq];exact ⟨hf,_,b,hb,rfl⟩
def Fp{α:Type}(b:Nat)(f:Int×Int)(m:Option (α×Int×Int×Int×Int)):Prop:=∃ x t,m=some (x,(b:Int),f.1,f.2,t)
theorem vV{E t op:Int}{L:List aa}{f:Int×Int}{rc:Int→Int→ae→Option (ag×Int×Int×Int×Int)}(hf:f.1≠0)(b m:Nat):Fp b f (eu rc (m+1) op ⟨L,b,E,⟨f.1,f.2⟩,t⟩):=by
 show Fp b f (dG rc (eu rc m) op ⟨L,b,E,⟨f.1,f.2⟩,t⟩)
 unfold dG
 rw [fq hf,bSq,iP rfl]
 exact ⟨_,_,rfl⟩
theorem sn{E:Int}{L:List aa}{f:Int×Int}(hf:f.1≠0)(b F:Nat):∀ (m:Nat) (n op t:Int),0≤n→n≤5→6 - n≤m→Fp b f (cA (F+1) m n op ⟨L,b,E,⟨f.1,f.2⟩,t⟩)
 |0,n,op,t,h0,h5,h=>absurd h oM
 |m+1,n,op,t,h0,h5,h=>by
  show Fp b f (fc (F+1) (cA (F+1) m) n op ⟨L,b,E,⟨f.1,f.2⟩,t⟩)
  unfold fc
  by_cases hn:n=5
  ·rw [iP hn]
   obtain ⟨x,t',hx⟩:=vV (E:=E) (t:=t) (op:=op) (L:=L) (rc:=cA (F+1) m) hf b F
   unfold j8
   rw [hx]
   exact ⟨_,_,rfl⟩
  ·rw [iN hn,wr (n:=n+1) oM oM]
   obtain ⟨x,t',hx⟩:=sn hf b F m (n+1) op t oM oM oM
   rw [hx,bSq]
   simp only
   rw [a8 (o:=((b:Int),f.1,f.2,t',x.op,x.k,x.n,x.name,x.s,x.l)) (by
    show cK (cA (F+1) m) n op ⟨L,b,E,⟨f.1,f.2⟩,t⟩ (b:Int) f.1 f.2 t' x.op x.k x.n x.name x.s x.l=_
    unfold cK
    rw [fq hf,bSq,iP rfl])]
   exact ⟨_,_,rfl⟩
abbrev RR:=Int→Int→ae→Option (ag×Int×Int×Int×Int)
def Sp(L:List aa)(m:Option (ag×Int×Int×Int×Int)):RX→Prop
 |.inl z=>∃ a:Nat,a≤L.length∧m=some (z.1,(a:Int),0,0,z.2.2.2)∧z.2.1=L.drop a
 |.inr f=>f.1≠0∧∃ x t,∃ b:Nat,b≤L.length∧m=some (x,(b:Int),f.1,f.2,t)
def SK(E:Int)(L:List aa)(rp:Int→af→Option RX)(rr:RR)(k:Int):Prop :=
 ∀ (n o t:Int) (a:Nat) (r:RX),0≤n→n≤5→0≤o→o≤60→7 * (60 - o)+(6 - n)≤k→a≤L.length→rp n ⟨L.drop a,E,o,t⟩=some r→Sp L (rr n o ⟨L,a,E,⟨0,0⟩,t⟩) r
def BK(E:Int)(L:List aa)(rr:RR):Prop :=
 ∀ (f:Int×Int) (b:Nat) (op t:Int),f.1≠0→b≤L.length→Fp b f (rr 0 op ⟨L,b,E,⟨f.1,f.2⟩,t⟩)
theorem qF{L:List aa}{m:Option (ag×Int×Int×Int×Int)}{k:ag×Int×Int×Int×Int→Option (ag×Int×Int×Int×Int)}{y r:RX}{F:ag×List aa×Int×Int→Option RX}
  (hs:Sp L m y) (h:Sum.elim F (fun z=>some (.inr (z.1,z.2))) y=some r)
  (ok:∀ (x:ag) (a:Nat) (o t:Int),a≤L.length→y=.inl (x,L.drop a,o,t)→F (x,L.drop a,o,t)=some r→Sp L (k (x,(a:Int),0,0,t)) r)
  (bad:∀ (f:Int×Int) (x:ag) (b:Nat) (t:Int),f.1≠0→b≤L.length→Fp b f (k (x,(b:Int),f.1,f.2,t))):Sp L (m.bind k) r:=by
 cases y with
 |inl z =>
  obtain ⟨x,l,o,t⟩:=z
  obtain ⟨a,ha,hm,hz⟩:=hs
  have hz:l=L.drop a:=hz
  subst hz
  rw [hm]
  exact ok x a o t ha rfl h
 |inr f =>
  cases h
  obtain ⟨hf,x,t,b,hb,hm⟩:=hs
  rw [hm]
  obtain ⟨x',t',hx⟩:=bad f x b t hf hb
  exact ⟨hf,x',t',b,hb,hx⟩
theorem rD{E o t t':Int}{L:List aa}{w:List UInt8}{k:Int×Int×Int→Option (ag×Int×Int×Int×Int)}{y:List aa ⊕ (Int×Int)}{F:List aa→Option RX}{r:RX}{a:Nat}
  (g:dV E L) (hw:wO w) (ha:a≤L.length) (hy:aA (lit [w]) ⟨L.drop a,E,o,t⟩=some y) (h:Sum.elim F (fun z=>some (.inr (z.1,z.2))) y=some r)
  (ok:a+1≤L.length→F (L.drop (a+1))=some r→Sp L (k (((a+1:Nat):Int),0,0)) r)
  (bad:∀ (f:Int×Int) (b:Nat),f.1≠0→b≤L.length→Fp b f (k ((b:Int),f.1,f.2))):Sp L ((ar w ⟨L,a,E,⟨0,0⟩,t'⟩).bind k) r:=by
 have hs:=vS (t:=t') w g hw a ha
 rw [iT] at hy
 cases hy
 by_cases hi:isB [w] (L.drop a)=true
 ·rw [iP hi] at hs h
  rw [List.drop_drop] at h
  obtain ⟨x,r',h1,a1,_⟩:=cL hi
  unfold ar
  rw [cQ,bSq,iN dM,gR w g hw a,bSq,iP hi,bSq,wrs a (by have:=g.1.1;omega)]
  exact ok oM h
 ·rw [iN hi] at hs h
  cases h
  obtain ⟨hf,b,hb,hm⟩:=hs
  rw [hm]
  obtain ⟨x',t',hx⟩:=bad (bG E 4 (L.drop a)) b hf hb
  exact ⟨hf,x',t',b,hb,hx⟩
theorem wQ{E o t k:Int}{L:List aa}{rp:Int→af→Option RX}{rr:RR}(g:dV E L)(hr:RK E rp k)(hs:SK E L rp rr k)(ho0:0≤o)(ho:o≤60)(hk:7 * (60 - o)+6≤k)(a:Nat)(ha:a≤L.length){r:RX}
  (h:eO rp ⟨L.drop a,E,o,t⟩=some r) :
  Sp L ((rr 0 o ⟨L,a,E,⟨0,0⟩,t⟩).bind fun y7=>(ar [41] ⟨L,y7.2.1,E,⟨y7.2.2.1,y7.2.2.2.1⟩,y7.2.2.2.2⟩).bind fun y8=>some (y7.1,y8.1,y8.2.1,y8.2.2,y7.2.2.2.2)) r:=by
 unfold eO at h
 obtain ⟨y,hy,h⟩:=bd h
 refine qF (hs 0 o t a y dM dM ho0 ho oM ha hy) h (fun x b o2 t2 hb e h=>?_) (fun f x b t2 hf hb=>?_)
 ·obtain ⟨y2,hy2,h⟩:=bd h
  refine rD g (by intro c r h;cases h;decide) hb hy2 h (fun hb1 h=>?_) (fun f b hf hb=>⟨_,_,rfl⟩)
  cases h
  exact ⟨b+1,hb1,rfl,rfl⟩
 ·rw [dU _ hf]
  exact ⟨_,_,rfl⟩
theorem wR{E o t k:Int}{L:List aa}{rp:Int→af→Option RX}{rr:RR}(g:dV E L)(hr:RK E rp k)(hs:SK E L rp rr k)(hb:BK E L rr)(ho0:0≤o)(ho:o≤60)(hk:7 * (60 - o)+6≤k)(a:Nat)(ha:a≤L.length){r:RX}
  (h:eP rp ⟨L.drop a,E,o,t⟩=some r) :
  Sp L ((rr 0 o ⟨L,a,E,⟨0,0⟩,t⟩).bind fun y9=>(ar [116,104,101,110] ⟨L,y9.2.1,E,⟨y9.2.2.1,y9.2.2.2.1⟩,y9.2.2.2.2⟩).bind fun y10=>(rr 0 o ⟨L,y10.1,E,⟨y10.2.1,y10.2.2⟩,y9.2.2.2.2⟩).bind fun y11 =>
   (ar [101,108,115,101] ⟨L,y11.2.1,E,⟨y11.2.2.1,y11.2.2.2.1⟩,y11.2.2.2.2⟩).bind fun y12=>(rr 0 o ⟨L,y12.1,E,⟨y12.2.1,y12.2.2⟩,y11.2.2.2.2⟩).bind fun y13 =>
   (cy (ag.mk 6 0 0 [] [] (lit [y9.1,y11.1,y13.1])) ⟨L,y13.2.1,E,⟨y13.2.2.1,y13.2.2.2.1⟩,y13.2.2.2.2⟩).bind fun y14=>some (y14.1,y13.2.1,y13.2.2.1,y13.2.2.2.1,y14.2)) r:=by
 unfold eP at h
 have b3:∀ (f:Int×Int) (b:Nat) (t2:Int) (x1 x2:ag),f.1≠0→b≤L.length→Fp b f ((rr 0 o ⟨L,b,E,⟨f.1,f.2⟩,t2⟩).bind fun y13 =>
   (cy (ag.mk 6 0 0 [] [] (lit [x1,x2,y13.1])) ⟨L,y13.2.1,E,⟨y13.2.2.1,y13.2.2.2.1⟩,y13.2.2.2.2⟩).bind fun y14=>some (y14.1,y13.2.1,y13.2.2.1,y13.2.2.2.1,y14.2)):=by
  intro f b t2 x1 x2 hf hb2
  obtain ⟨x,t3,hx⟩:=hb f b o t2 hf hb2
  rw [hx];exact ⟨_,_,rfl⟩
 have b2:∀ (f:Int×Int) (b:Nat) (t2:Int) (x1:ag),f.1≠0→b≤L.length→Fp b f ((rr 0 o ⟨L,b,E,⟨f.1,f.2⟩,t2⟩).bind fun y11 =>
   (ar [101,108,115,101] ⟨L,y11.2.1,E,⟨y11.2.2.1,y11.2.2.2.1⟩,y11.2.2.2.2⟩).bind fun y12=>(rr 0 o ⟨L,y12.1,E,⟨y12.2.1,y12.2.2⟩,y11.2.2.2.2⟩).bind fun y13 =>
   (cy (ag.mk 6 0 0 [] [] (lit [x1,y11.1,y13.1])) ⟨L,y13.2.1,E,⟨y13.2.2.1,y13.2.2.2.1⟩,y13.2.2.2.2⟩).bind fun y14=>some (y14.1,y13.2.1,y13.2.2.1,y13.2.2.2.1,y14.2)):=by
  intro f b t2 x1 hf hb2
  obtain ⟨x,t3,hx⟩:=hb f b o t2 hf hb2
  rw [hx,bSq,dU _ hf,bSq];exact b3 f b t3 _ _ hf hb2
 obtain ⟨y,hy,h⟩:=bd h
 refine qF (hs 0 o t a y dM dM ho0 ho oM ha hy) h (fun x b o2 t2 hb e h=>?_) (fun f x b t2 hf hb=>?_)
 ·have ho2:o2=o:=by
   have:=kQ (hr 0 o t _ dM dM ho0 ho oM (g.drop a)) hy
   rw [e] at this;exact this.2.1
  subst ho2
  obtain ⟨y2,hy2,h⟩:=bd h
  refine rD g (by intro c r h;cases h;decide) hb hy2 h (fun hb1 h=>?_) (fun f b hf hb=>b2 f b t2 _ hf hb)
  obtain ⟨y3,hy3,h⟩:=bd h
  refine qF (hs 0 o2 t2 (b+1) y3 dM dM ho0 ho oM hb1 hy3) h (fun x3 b3' o3 t3 hb3 e3 h=>?_) (fun f x b t2 hf hb=>?_)
  ·have ho3:o3=o2:=by
    have:=kQ (hr 0 o2 t2 _ dM dM ho0 ho oM (g.drop (b+1))) hy3
    rw [e3] at this;exact this.2.1
   subst ho3
   obtain ⟨y4,hy4,h⟩:=bd h
   refine rD g (by intro c r h;cases h;decide) hb3 hy4 h (fun hb4 h=>?_) (fun f b hf hb=>b3 f b t3 _ _ hf hb)
   obtain ⟨y5,hy5,h⟩:=bd h
   refine qF (hs 0 o3 t3 (b3'+1) y5 dM dM ho0 ho oM hb4 hy5) h (fun x5 b5 o5 t5 hb5 e5 h=>?_) (fun f x b t2 hf hb=>⟨_,_,rfl⟩)
   cases h
   exact ⟨b5,hb5,rfl,rfl⟩
  ·rw [dU _ hf,bSq]
   exact b3 f b t2 _ _ hf hb
 ·rw [dU _ hf,bSq]
  exact b2 f b t2 _ hf hb
theorem tF{E t op:Int}{L:List aa}(a:Nat)(ha:a≤9000000):gP op ⟨L,a,E,⟨0,0⟩,t⟩ =
  some (if op≥60 then (false,(a:Int),(bG E 6 (L.drop a)).1,(bG E 6 (L.drop a)).2) else (true,((a+1:Nat):Int),0,0)):=by
 unfold gP
 rw [cQ,bSq,iN dM]
 by_cases h:op≥60
 ·rw [iP h,iP h,iy];rfl
 ·rw [iN h,iN h]
  simp only
  rw [wrs a oM]
def opV(n:Nat)(l:List aa):Int:=if isB (opL.getD n default) l=true then (opN.getD n default).getD (whR (opL.getD n default) l).toNat default else 0
theorem ym:∀ i,i<5→∀ j,j<(opN.getD i default).length→(opN.getD i default).getD j default≠0:=by decide
theorem zB{n:Nat}(hn:n<5){l:List aa}:opV n l≠0↔isB (opL.getD n default) l=true:=by
 unfold opV
 by_cases h:isB (opL.getD n default) l=true
 ·rw [iP h]
  refine ⟨fun _=>h,fun _=>?_⟩
  obtain ⟨x,r,rfl,hk,hx⟩:=jS h
  rw [gF hk]
  have h1:=nm hx
  have h2:=nl (L:=opL.getD n default) (x:=x.text)
  rw [(rA n hn).1] at h2
  exact ym n hn _ oM
 ·rw [iN h]
  exact ⟨fun e=>absurd rfl e,fun e=>absurd e h⟩
theorem A0{E o t n:Int}{l:List aa}(h0:0≤n)(h5:n<5):fV n ⟨l,E,o,t⟩=some (opV n.toNat l):=by
 obtain ⟨f1,f2,f3⟩:=rA n.toNat oM
 unfold fV
 rw [iP ⟨h0,h5⟩]
 show ((aE (opL.getD n.toNat default) ⟨l,E,o,t⟩).bind fun y1=>if y1=true then (if 0≤0∧0<(l.length:Int) then ((dq (opL.getD n.toNat default) (l.getD 0 default).text).bind fun y2 =>
  if 0≤y2∧y2<((opN.getD n.toNat default).length:Int) then some ((opN.getD n.toNat default).getD y2.toNat default) else none) else none) else some 0)=_
 rw [iH (opL.getD n.toNat default) l E o t oM,bSq]
 unfold opV
 by_cases hi:isB (opL.getD n.toNat default) l=true
 ·rw [iP hi,iP hi]
  obtain ⟨x,r,rfl,hk,hx⟩:=jS hi
  rw [iP (by simp),gF hk]
  have h1:=nm hx
  have h2:=nl (L:=opL.getD n.toNat default) (x:=x.text)
  rw [f1] at h2
  rw [List.getD_cons_zero,pM (opL.getD n.toNat default) x.text oM,bSq,iP ⟨h1,h2⟩]
 ·rw [iN hi,iN hi]
def uv(w:List UInt8):Bool:=match w with|c :: _=>decide (¬ tDg c)|[]=>true
theorem oR{w:List UInt8}(h:uv w=true):wO w:=by
 intro c r e
 subst e
 simpa [uv] using h
theorem zE:∀ i,i<5→∀ w∈opL.getD i default,uv w=true:=by decide
theorem wS{E t n op:Int}{L:List aa}{rr:RR}{e:ag}{s:ae}(g:dV E L)(h0:0≤n)(h5:n<5)(d:Nat)(hd:d≤L.length)(hsl:s.l=L)(hse:s.end_=E) :
  cK rr n op s (d:Int) 0 0 t e.op e.k e.n e.name e.s e.l=if isB (opL.getD n.toNat default) (L.drop d)=true then (rr (n+1) op ⟨L,((d+1:Nat):Int),E,⟨0,0⟩,t⟩).bind fun y =>
   (if n=2 then some (.inr (y.2.1,y.2.2.1,y.2.2.2.1,IntKind.wrap .i64 (y.2.2.2.2+1),5,opV n.toNat (L.drop d),0,[],[],lit [e,y.1])) else some (.inl (y.2.1,y.2.2.1,y.2.2.2.1,IntKind.wrap .i64 (y.2.2.2.2+1),5,opV n.toNat (L.drop d),0,[],[],lit [e,y.1])))
   else some (.inr ((d:Int),0,0,t,e.op,e.k,e.n,e.name,e.s,e.l)):=by
 have gl:=g.1.1
 obtain ⟨sl,sa,se,sf,sp⟩:=s
 cases hsl
 cases hse
 cases e
 obtain ⟨f1,f2,f3⟩:=rA n.toNat oM
 have hw:=km (E:=se) (t:=t) (f:=⟨0,0⟩) (opL.getD n.toNat default) oM g (fun w hw=>oR (zE _ oM w hw)) d
 unfold cK
 rw [cQ,bSq,iN dM,iP ⟨h0,h5⟩]
 show ((bu (opL.getD n.toNat default) ⟨sl,(d:Int),se,⟨0,0⟩,t⟩).bind _)=_
 rw [hw,bSq]
 by_cases hi:isB (opL.getD n.toNat default) (sl.drop d)=true
 ·have hn0:=lO.2 hi
  rw [iP hi,iN (Int.not_lt.2 hn0),wr (n:=n+1) oM oM]
  obtain ⟨x,r,h1,h2,h3,h4,h6,h7⟩:=cL hi
  simp only
  rw [wrs d oM]
  have hlt:=nl (L:=opL.getD n.toNat default) (x:=x.text)
  rw [f1] at hlt
  have hv:opV n.toNat (sl.drop d)=(opN.getD n.toNat default).getD (whR (opL.getD n.toNat default) (sl.drop d)).toNat default:=by unfold opV;rw [iP hi]
  rw [hv]
  congr 1
  funext y
  have hr:0≤whR (opL.getD n.toNat default) (sl.drop d)∧whR (opL.getD n.toNat default) (sl.drop d)<((opN.getD n.toNat default).length:Int):=⟨hn0,by rw [h1,gF h6];exact hlt⟩
  split
  ·rfl
  ·rename_i hh
   exact absurd hr hh
 ·rw [iN hi,iP (Int.not_le.1 fun h=>hi (lO.1 h))]
theorem pO{n op:Int}{rr:RR}{s:ae}{f:Int×Int}(hf:f.1≠0)(b:Nat)(t x1 x2 x3:Int)(x4:List UInt8)(x5:List (List aj))(x6:List ag) :
  bJ (fun (x33,x34,x35,x36,x37,x38,x39,s40,l41,l42)=>cK rr n op s x33 x34 x35 x36 x37 x38 x39 s40 l41 l42) ((b:Int),f.1,f.2,t,x1,x2,x3,x4,x5,x6)=some ((b:Int),f.1,f.2,t,x1,x2,x3,x4,x5,x6):=by
 refine a8 ?_
 show cK rr n op s (b:Int) f.1 f.2 t x1 x2 x3 x4 x5 x6=_
 unfold cK
 rw [fq hf,bSq,iP rfl]
theorem wT{E o t k n:Int}{F fuel:Nat}{L:List aa}{rp:Int→af→Option RX}{rr:RR}(hE:0≤E)(g:dV E L)(hr:RK E rp k)(hs:SK E L rp rr k)(h0:0≤n)(h5:n≤5)(ho0:0≤o)(ho:o≤60)(hk:7 * (60 - o)+(5 - n)≤k)
  (a:Nat) (ha:a≤L.length) (hah:∀ r,jk fuel rp ⟨L.drop a,E,o,t⟩=some r→Sp L (j8 F rr o ⟨L,a,E,⟨0,0⟩,t⟩) r) {r:RX}
  (h:di fuel rp n ⟨L.drop a,E,o,t⟩=some r):Sp L (fc F rr n o ⟨L,a,E,⟨0,0⟩,t⟩) r:=by
 unfold di at h
 unfold fc
 by_cases hn:n=5
 ·rw [iP hn] at h ⊢
  obtain ⟨y,hy,h⟩:=bd h
  refine qF (hah y hy) h (fun x b o2 t2 hb e h=>?_) (fun f x b t2 hf hb=>⟨_,_,rfl⟩)
  cases h
  exact ⟨b,hb,rfl,rfl⟩
 ·rw [iN hn] at h ⊢
  rw [wr (n:=n+1) oM oM] at h ⊢
  obtain ⟨y,hy,h⟩:=bd h
  refine qF (hs (n+1) o t a y oM oM ho0 ho oM ha hy) h (fun x b o2 t2 hb e h=>?_) (fun f x b t2 hf hb=>?_)
  ·have ho2:o2=o:=by
    have:=kQ (hr (n+1) o t _ oM oM ho0 ho oM (g.drop a)) hy
    rw [e] at this;exact this.2.1
   subst ho2
   obtain ⟨y20,hy20,h⟩:=bd h
   rw [A0 h0 oM] at hy20
   cases hy20
   obtain ⟨z,hz,h⟩:=bd h
   refine mZ (q:=fun (x33,x34,x35,x36,x37,x38,x39,s40,l41,l42)=>cK rr n o2 ⟨L,a,E,⟨0,0⟩,t⟩ x33 x34 x35 x36 x37 x38 x39 s40 l41 l42)
    (R := fun (s : List aa × Int × Int × Int × Int × Int × List UInt8 × List (List aj) × List ag × Int) (s' : Int × Int × Int × Int × Int × Int × Int × List UInt8 × List (List aj) × List ag) =>
     ∃ (d:Nat) (t:Int) (e:ag),d≤L.length∧s=(L.drop d,o2,t,e.op,e.k,e.n,e.name,e.s,e.l,opV n.toNat (L.drop d))∧s'=((d:Int),0,0,t,e.op,e.k,e.n,e.name,e.s,e.l)) (μ:=fun s=>s.1.length)
    (Post:=fun z m=>∀ r,(Sum.elim (fun (z57,z58,z59,z60,z61,z62,z63,z64,z65)=>eg z57 z58 z59 z60 z61 z62 z63 z64 z65) (fun z66=>some z66)) z=some r→Sp L (m.bind (fun (z47,z48,z49,z50,z51,z52,z53,z54,z55,z56)=>eT z47 z48 z49 z50 z51 z52 z53 z54 z55 z56)) r) ?_ _ _ ((b:Int),0,0,t2,x.op,x.k,x.n,x.name,x.s,x.l) z rfl ⟨b,t2,x,hb,rfl,rfl⟩ hz r h
   rintro s s' ⟨d,t3,e3',hd,rfl,rfl⟩ w hw
   have hw:eh rp n ⟨L.drop a,E,o2,t⟩ (L.drop d) o2 t3 e3'.op e3'.k e3'.n e3'.name e3'.s e3'.l (opV n.toNat (L.drop d))=some w:=hw
   have hturn:=wS (E:=E) (t:=t3) (op:=o2) (L:=L) (rr:=rr) (e:=e3') (n:=n) (s:=⟨L,a,E,⟨0,0⟩,t⟩) g h0 oM d hd rfl rfl
   unfold eh at hw
   by_cases hi:isB (opL.getD n.toNat default) (L.drop d)=true
   ·have hne:=(zB (n:=n.toNat) oM).2 hi
    obtain ⟨v,q,e1,e2,e3,e4,e5,e6⟩:=cL hi
    have hnx:aD ⟨L.drop d,E,o2,t3⟩=some (v,q):=by rw [e1,hO]
    rw [iP hne,hnx,bSq,wr (n:=n+1) oM oM] at hw
    obtain ⟨y,hy,hw⟩:=bd hw
    simp only at hy
    rw [← e4] at hy
    have hsp:=hs (n+1) o2 t3 (d+1) y oM oM ho0 ho oM oM hy
    have hpr:=kQ (hr (n+1) o2 t3 _ oM oM ho0 ho oM (g.drop (d+1))) hy
    rw [iP hi] at hturn
    cases y with
    |inr f =>
     cases hw
     intro r hr
     cases hr
     obtain ⟨hf,x',t',b',hb',hm⟩:=hsp
     rw [hm,bSq] at hturn
     by_cases hn2:n=2
     ·rw [iP hn2] at hturn
      rw [a8 hturn]
      exact ⟨hf,_,_,b',hb',rfl⟩
     ·rw [iN hn2] at hturn
      rw [dZ hturn,pO hf]
      exact ⟨hf,_,_,b',hb',rfl⟩
    |inl z =>
     obtain ⟨x',l',o',t'⟩:=z
     obtain ⟨b',hb',hm,hz⟩:=hsp
     have hz:l'=L.drop b':=hz
     subst hz
     obtain ⟨hcs,ho',_⟩:Ex (L.drop (d+1)) o2 (x',L.drop b',o',t'):=hpr
     have ho':o'=o2:=ho'
     subst ho'
     rw [hm,bSq] at hturn
     simp only [Sum.elim_inl] at hw
     unfold dP at hw
     simp only [bSq] at hw
     by_cases hn2:n=2
     ·rw [iP hn2] at hturn hw
      cases hw
      intro r hr
      cases hr
      rw [a8 hturn]
      cases e3'
      exact ⟨b',hb',rfl,rfl⟩
     ·rw [iN hn2] at hturn hw
      rw [A0 h0 oM,bSq] at hw
      cases hw
      refine ⟨_,hturn,⟨b',_,ag.mk 5 (opV n.toNat (L.drop d)) 0 [] [] (lit [e3',x']),hb',?_,rfl⟩,?_⟩
      ·cases e3';rfl
      ·have h1:=hcs.2
       have h2:(L.drop (d+1)).length+1=(L.drop d).length:=by rw [List.length_drop,List.length_drop];omega
       show (L.drop b').length<(L.drop d).length
       have h1:(L.drop b').length<(L.drop (d+1)).length:=h1
       omega
   ·have hne:¬ opV n.toNat (L.drop d)≠0:=fun hh=>hi ((zB (n:=n.toNat) oM).1 hh)
    rw [iN hne] at hw
    rw [iN hi] at hturn
    cases hw
    intro r hr
    cases hr
    rw [a8 hturn]
    cases e3'
    exact ⟨d,hd,rfl,rfl⟩
  ·simp only
   rw [pO hf]
   exact ⟨_,_,rfl⟩
noncomputable def vf(rr:RR)(L:List aa)(E o:Int)(x:ag)(b t:Int):Option (ag×Int×Int×Int×Int) :=
 (rr 0 o ⟨L, b, E, ⟨0, 0⟩, t⟩).bind fun y50 => (ar [58] ⟨L, y50.2.1, E, ⟨y50.2.2.1, y50.2.2.2.1⟩, y50.2.2.2.2⟩).bind fun y51 => (rr 0 o ⟨L, y51.1, E, ⟨y51.2.1, y51.2.2⟩, y50.2.2.2.2⟩).bind fun y52 =>
  (ar [93] ⟨L,y52.2.1,E,⟨y52.2.2.1,y52.2.2.2.1⟩,y52.2.2.2.2⟩).bind fun y53=>(cy (ag.mk 11 0 0 [] [] (lit [x,y50.1,y52.1])) ⟨L,y53.1,E,⟨y53.2.1,y53.2.2⟩,y52.2.2.2.2⟩).bind fun y54=>some (y54.1,y53.1,y53.2.1,y53.2.2,y54.2)
theorem vW{E o t k:Int}{L:List aa}{rp:Int→af→Option RX}{rr:RR}{x:ag}(g:dV E L)(hr:RK E rp k)(hs:SK E L rp rr k)(hb:BK E L rr)(ho0:0≤o)(ho:o≤60)(hk:7 * (60 - o)+6≤k)(a:Nat)(ha:a≤L.length){r:RX}
  (h:ef rp x ⟨L.drop a,E,o,t⟩=some r):Sp L (vf rr L E o x a t) r:=by
 unfold ef at h
 unfold vf
 have b2:∀ (f:Int×Int) (b:Nat) (t2:Int) (x1:ag),f.1≠0→b≤L.length→Fp b f ((rr 0 o ⟨L,b,E,⟨f.1,f.2⟩,t2⟩).bind fun y52 =>
  (ar [93] ⟨L,y52.2.1,E,⟨y52.2.2.1,y52.2.2.2.1⟩,y52.2.2.2.2⟩).bind fun y53=>(cy (ag.mk 11 0 0 [] [] (lit [x,x1,y52.1])) ⟨L,y53.1,E,⟨y53.2.1,y53.2.2⟩,y52.2.2.2.2⟩).bind fun y54=>some (y54.1,y53.1,y53.2.1,y53.2.2,y54.2)):=by
  intro f b t2 x1 hf hb2
  obtain ⟨x,t3,hx⟩:=hb f b o t2 hf hb2
  rw [hx,bSq,dU _ hf];exact ⟨_,_,rfl⟩
 obtain ⟨y,hy,h⟩:=bd h
 refine qF (hs 0 o t a y dM dM ho0 ho oM ha hy) h (fun x1 b o2 t2 hb e h=>?_) (fun f x b t2 hf hb=>?_)
 ·have ho2:o2=o:=by
   have:=kQ (hr 0 o t _ dM dM ho0 ho oM (g.drop a)) hy
   rw [e] at this;exact this.2.1
  subst ho2
  obtain ⟨y2,hy2,h⟩:=bd h
  refine rD g (by intro c r h;cases h;decide) hb hy2 h (fun hb1 h=>?_) (fun f b hf hb=>b2 f b t2 _ hf hb)
  obtain ⟨y3,hy3,h⟩:=bd h
  refine qF (hs 0 o2 t2 (b+1) y3 dM dM ho0 ho oM hb1 hy3) h (fun x3 b3' o3 t3 hb3 e3 h=>?_) (fun f x b t2 hf hb=>?_)
  ·unfold dP at h
   simp only [bSq] at h
   obtain ⟨y4,hy4,h⟩:=bd h
   refine rD g (by intro c r h;cases h;decide) hb3 hy4 h (fun hb4 h=>?_) (fun f b hf hb=>⟨_,_,rfl⟩)
   cases h
   exact ⟨b3'+1,hb4,rfl,rfl⟩
  ·rw [dU _ hf]
   exact ⟨_,_,rfl⟩
 ·rw [dU _ hf,bSq]
  exact b2 f b t2 _ hf hb
theorem oS{E o t:Int}{L:List aa}{X:af→Option RX}{a:Nat}(ho0:0≤o)(ho:o≤60)(hx:∃ v q,L.drop a=v :: q){r:RX}
  (h : (if o = 60 then (aC 6 ⟨L.drop a, E, o, t⟩).bind (fun y => some (.inr (y.1, y.2))) else (aD ⟨L.drop a, E, IntKind.wrap .i64 (o + 1), t⟩).bind fun y2 =>
   (X ⟨y2.2,E,IntKind.wrap .i64 (o+1),t⟩).bind fun y3=>Sum.elim (fun y6=>some (.inl (y6.1,y6.2.1,IntKind.wrap .i64 (y6.2.2.1 - 1),y6.2.2.2))) (fun y7=>some (.inr (y7.1,y7.2))) y3)=some r) :
  (o=60∧r=.inr (bG E 6 (L.drop a)))∨(o<60∧∃ r0,X ⟨L.drop (a+1),E,o+1,t⟩=some r0∧∀ m,Sp L m r0→Sp L m r):=by
 by_cases h60:o=60
 ·rw [iP h60,gG] at h
  cases h
  exact .inl ⟨h60,rfl⟩
 ·obtain ⟨v,q,hd⟩:=hx
  obtain ⟨h1,h2,h3⟩:=o8 hd
  rw [iN h60,wr (n:=o+1) oM oM,hd,hO,bSq,← h3] at h
  obtain ⟨r0,hr0,h⟩:=bd h
  refine .inr ⟨by omega,r0,hr0,fun m hm=>?_⟩
  cases r0 with
  |inl z=>cases h;exact hm
  |inr f=>cases h;exact hm
theorem vX{E o t k ka om:Int}{L:List aa}{rp:Int→af→Option RX}{ra:af→Option RX}{rr:RR}{rra:Int→ae→Option (ag×Int×Int×Int×Int)}(hE:0≤E)(g:dV E L)(hr:RK E rp k)(hs:SK E L rp rr k)(ho0:0≤o)(ho:o≤60)(hk:7 * (60 - o)≤k)(hom:om≤o)(hka:60 - o≤ka)
  (hsa:∀ (o t:Int) (a:Nat) (r:RX),om≤o→o≤60→61 - o≤ka→a≤L.length→ra ⟨L.drop a,E,o,t⟩=some r→Sp L (rra o ⟨L,a,E,⟨0,0⟩,t⟩) r)
  (a:Nat) (ha:a≤L.length) {r:RX}
  (h:bW rp ra ⟨L.drop a,E,o,t⟩=some r) (hi:isB (lit [([45]:List UInt8),[110,111,116]]) (L.drop a)=true):Sp L (dG rr rra o ⟨L,a,E,⟨0,0⟩,t⟩) r:=by
 have gl:=g.1.1
 unfold bW at h
 unfold dG
 rw [iH _ _ _ _ _ (by simp [lit]),bSq,iP hi,iH _ _ _ _ _ (by simp [lit]),bSq] at h
 rw [cQ,bSq,iN dM,km _ (by simp [lit]) g (by intro w hw;simp only [lit,List.mem_cons,List.not_mem_nil,or_false] at hw;rcases hw with rfl|rfl<;>(intro c r h;cases h;decide)) a,bSq,iP (lO.2 hi)]
 obtain ⟨v,q,e1,e2,e3,e4,e5,e6⟩:=cL hi
 rw [tF a oM,bSq]
 have key:∀ n,13+whR (lit [([45]:List UInt8),[110,111,116]]) (L.drop a)=n→n≤14→0≤n→dg ra ⟨L.drop a,E,o,t⟩ n=some r→Sp L (if (if o≥60 then (false,(a:Int),(bG E 6 (L.drop a)).1,(bG E 6 (L.drop a)).2) else (true,((a+1:Nat):Int),0,0)).1=true then
   (rra (IntKind.wrap .i64 (o + 1)) ⟨L, (if o ≥ 60 then (false, (a : Int), (bG E 6 (L.drop a)).1, (bG E 6 (L.drop a)).2) else (true, ((a + 1 : Nat) : Int), 0, 0)).2.1, E, ⟨(if o ≥ 60 then (false, (a : Int), (bG E 6 (L.drop a)).1, (bG E 6 (L.drop a)).2) else (true, ((a + 1 : Nat) : Int), 0, 0)).2.2.1, (if o ≥ 60 then (false, (a : Int), (bG E 6 (L.drop a)).1, (bG E 6 (L.drop a)).2) else (true, ((a + 1 : Nat) : Int), 0, 0)).2.2.2⟩, t⟩).bind fun y4 =>
    (cy (ag.mk 4 (IntKind.wrap .i64 (13+whR (lit [([45]:List UInt8),[110,111,116]]) (L.drop a))) 0 [] [] (lit [y4.1])) ⟨L,y4.2.1,E,⟨y4.2.2.1,y4.2.2.2.1⟩,y4.2.2.2.2⟩).bind fun y5=>some (y5.1,y4.2.1,y4.2.2.1,y4.2.2.2.1,y5.2)
   else some (ag.mk 0 0 0 [] [] [],(if o≥60 then (false,(a:Int),(bG E 6 (L.drop a)).1,(bG E 6 (L.drop a)).2) else (true,((a+1:Nat):Int),0,0)).2.1,(if o≥60 then (false,(a:Int),(bG E 6 (L.drop a)).1,(bG E 6 (L.drop a)).2) else (true,((a+1:Nat):Int),0,0)).2.2.1,(if o≥60 then (false,(a:Int),(bG E 6 (L.drop a)).1,(bG E 6 (L.drop a)).2) else (true,((a+1:Nat):Int),0,0)).2.2.2,t)) r:=by
  intro n hn hn1 hn0 h
  unfold dg gO at h
  obtain ⟨r1,hr1,h⟩:=bd h
  have hrr:r1=r:=by
   cases r1 with
   |inl z=>cases h;rfl
   |inr f=>cases h;rfl
  subst hrr
  rcases oS (X:=fun p=>eG ra n p) ho0 ho ⟨v,q,e1⟩ hr1 with ⟨h60,rfl⟩|⟨h60,r0,hr0,hm⟩
  ·rw [iP (show o≥60 by omega),iN Bool.false_ne_true]
   exact ⟨bq dM,_,_,a,ha,rfl⟩
  ·rw [iN (show ¬ o≥60 by omega),iP rfl,wr (n:=o+1) oM oM,wr (n:=13+_) oM oM,hn]
   refine hm _ ?_
   unfold eG at hr0
   obtain ⟨y,hy,hr0⟩:=bd hr0
   refine qF (hsa (o+1) t (a+1) y oM oM oM oM hy) hr0 (fun x b o2 t2 hb e h=>?_) (fun f x b t2 hf hb=>⟨_,_,rfl⟩)
   cases h
   exact ⟨b,hb,rfl,rfl⟩
 have e6':v.text=[45]∨v.text=[110,111,116]:=by simpa [lit] using e6
 rcases e6' with e7|e7
 ·have e8:decide (kT (lit [([110,111,116]:List UInt8)]) [45]≥0)=false:=by decide
  rw [iN (by rw [e1];simp only [isB,e7,e8,Bool.and_false];decide)] at h
  exact key 13 (by rw [e1,gF e5,e7];decide) dM dM h
 ·rw [iP (by rw [e1];simp only [isB,e7,dT e5];decide)] at h
  exact key 14 (by rw [e1,gF e5,e7];decide) dM dM h
theorem zG{E t o:Int}{L:List aa}{rr:RR}{e:ag}{s:ae}(g:dV E L)(ho0:0≤o)(ho:o≤60)(d:Nat)(hd:d≤L.length)(hsl:s.l=L)(hse:s.end_=E) :
  dS rr o s (d:Int) 0 0 t e.op e.k e.n e.name e.s e.l=if isB [[91]] (L.drop d)=true then
   (if o≥60 then some (.inr (.inr (e,(d:Int),(bG E 6 (L.drop d)).1,(bG E 6 (L.drop d)).2,t)))
   else (vf rr L E (o+1) e ((d+1:Nat):Int) t).bind fun z=>some (.inl (z.2.1,z.2.2.1,z.2.2.2.1,z.2.2.2.2,z.1.op,z.1.k,z.1.n,z.1.name,z.1.s,z.1.l)))
   else some (.inr (.inl ((d:Int),0,0,t,e.op,e.k,e.n,e.name,e.s,e.l))):=by
 have gl:=g.1.1
 obtain ⟨sl,sa,se,sf,sp⟩:=s
 cases hsl
 cases hse
 cases e
 have gl:sl.length≤9000000:=gl
 have hd:d≤sl.length:=hd
 unfold dS
 rw [cQ,bSq,iN dM,gR _ g (by intro c r h;cases h;decide) d,bSq]
 by_cases hi:isB [[91]] (sl.drop d)=true
 ·rw [iP hi,iP hi]
  simp only
  rw [tF d oM,bSq]
  by_cases h60:o≥60
  ·rw [iP h60,iP h60,iN Bool.false_ne_true]
  ·rw [iN h60,iN h60,iP rfl,wr (n:=o+1) oM oM]
   unfold vf
   simp only [Option.bind_assoc,bSq]
 ·rw [iN hi,iN hi]
theorem rE{o:Int}{rr:RR}{s:ae}{f:Int×Int}(hf:f.1≠0)(b:Nat)(t x1 x2 x3:Int)(x4:List UInt8)(x5:List (List aj))(x6:List ag) :
  bJ (fun (x37,x38,x39,x40,x41,x42,x43,s44,l45,l46)=>dS rr o s x37 x38 x39 x40 x41 x42 x43 s44 l45 l46) ((b:Int),f.1,f.2,t,x1,x2,x3,x4,x5,x6)=some (.inl ((b:Int),f.1,f.2,t,x1,x2,x3,x4,x5,x6)):=by
 refine a8 ?_
 show dS rr o s (b:Int) f.1 f.2 t x1 x2 x3 x4 x5 x6=_
 unfold dS
 rw [fq hf,bSq,iP rfl]
theorem vY{E o t k:Int}{L:List aa}{rp:Int→af→Option RX}{ra:af→Option RX}{rr:RR}{rra:Int→ae→Option (ag×Int×Int×Int×Int)}(hE:0≤E)(g:dV E L)(hr:RK E rp k)(hs:SK E L rp rr k)(hb:o<60→BK E L rr)(ho0:0≤o)(ho:o≤60)(hk:7 * (60 - o)≤k)
  (a:Nat) (ha:a≤L.length) (hu:∀ r,eZ rp ⟨L.drop a,E,o,t⟩=some r→Sp L (iL rr o ⟨L,a,E,⟨0,0⟩,t⟩) r) {r:RX}
  (h:bW rp ra ⟨L.drop a,E,o,t⟩=some r) (hi:¬ isB (lit [([45]:List UInt8),[110,111,116]]) (L.drop a)=true):Sp L (dG rr rra o ⟨L,a,E,⟨0,0⟩,t⟩) r:=by
 unfold bW at h
 unfold dG
 rw [iH _ _ _ _ _ (by simp [lit]),bSq,iN hi] at h
 rw [cQ,bSq,iN dM,km _ (by simp [lit]) g (by intro w hw;simp only [lit,List.mem_cons,List.not_mem_nil,or_false] at hw;rcases hw with rfl|rfl<;>(intro c r h;cases h;decide)) a,bSq,iN (fun h=>hi (lO.1 h))]
 obtain ⟨y,hy,h⟩:=bd h
 refine qF (hu y hy) h (fun x b o2 t2 hb' e h=>?_) (fun f x b t2 hf hb=>?_)
 ·have ho2:o2=o:=by
   have:=kQ (xB ho0 ho hE (g.drop a) hr hk) hy
   rw [e] at this;exact this.2.1
  subst ho2
  obtain ⟨z,hz,h⟩:=bd h
  refine mZ (q:=fun (x37,x38,x39,x40,x41,x42,x43,s44,l45,l46)=>dS rr o2 ⟨L,a,E,⟨0,0⟩,t⟩ x37 x38 x39 x40 x41 x42 x43 s44 l45 l46)
   (R := fun (s : List aa × Int × Int × Int × Int × Int × List UInt8 × List (List aj) × List ag) (s' : Int × Int × Int × Int × Int × Int × Int × List UInt8 × List (List aj) × List ag) =>
    ∃ (d:Nat) (t:Int) (e:ag),d≤L.length∧s=(L.drop d,o2,t,e.op,e.k,e.n,e.name,e.s,e.l)∧s'=((d:Int),0,0,t,e.op,e.k,e.n,e.name,e.s,e.l)) (μ:=fun s=>s.1.length)
   (Post:=fun z m=>∀ r,(Sum.elim (fun (z56,z57,z58,z59,z60,z61,z62,z63,z64)=>e9 z56 z57 z58 z59 z60 z61 z62 z63 z64) (fun z65=>some z65)) z=some r→Sp L (m.bind (Sum.elim (fun (z55,z56,z57,z58,z59,z60,z61,z62,z63,z64)=>fK z55 z56 z57 z58 z59 z60 z61 z62 z63 z64) (fun z65=>some z65))) r) ?_ _ _ ((b:Int),0,0,t2,x.op,x.k,x.n,x.name,x.s,x.l) z rfl ⟨b,t2,x,hb',rfl,rfl⟩ hz r h
  rintro s s' ⟨d,t3,e3',hd,rfl,rfl⟩ w hw
  have hw:dQ rp ⟨L.drop a,E,o2,t⟩ (L.drop d) o2 t3 e3'.op e3'.k e3'.n e3'.name e3'.s e3'.l=some w:=hw
  have hturn:=zG (E:=E) (t:=t3) (o:=o2) (L:=L) (rr:=rr) (e:=e3') (s:=⟨L,a,E,⟨0,0⟩,t⟩) g ho0 ho d hd rfl rfl
  unfold dQ at hw
  rw [iH _ _ _ _ _ (by simp [lit]),bSq] at hw
  by_cases hj:isB (lit [([91]:List UInt8)]) (L.drop d)=true
  ·rw [iP hj] at hw
   rw [iP (show isB [[91]] (L.drop d)=true from hj)] at hturn
   obtain ⟨v,q,e1,e2,e3,e4,e5,e6⟩:=cL hj
   obtain ⟨y1,hy1,hw2⟩:=bd hw
   clear hw
   have hyo:=hy1
   unfold eF at hy1
   rcases oS (X:=fun p=>ef rp (ag.mk e3'.op e3'.k e3'.n e3'.name e3'.s e3'.l) p) ho0 ho ⟨v,q,e1⟩ hy1 with ⟨h60,rfl⟩|⟨h60,r0,hr0,hm⟩
   ·cases hw2
    intro r hr
    cases hr
    rw [iP (show o2≥60 by omega)] at hturn
    rw [a8 hturn]
    exact ⟨bq dM,_,_,d,hd,rfl⟩
   ·rw [iN (show ¬ o2≥60 by omega)] at hturn
    have hsp:=hm _ (vW g hr hs (hb h60) oM oM oM (d+1) oM hr0)
    have he3:ag.mk e3'.op e3'.k e3'.n e3'.name e3'.s e3'.l=e3':=by cases e3';rfl
    rw [he3] at hsp
    have hpr:Pn (eF rp ⟨L.drop d,E,o2,t3⟩ (ag.mk e3'.op e3'.k e3'.n e3'.name e3'.s e3'.l)) (Po E fun r=>Cs (L.drop d) r.2.1∧r.2.2.1=o2∧True):=by
     unfold eF
     exact n9 (H:=fun _ _=>True) ho0 ho hE (g.drop d) (tB hj (by simp [lit])) fun l1 h1 h=>oN (tC _ oM oM hE (h1.good (g.drop d)) hr oM) fun a ha=>⟨ha.1,ha.2.1,trivial⟩
    have hpr:=kQ hpr hyo
    cases y1 with
    |inr f =>
     cases hw2
     intro r hr
     cases hr
     obtain ⟨hf,x',t',b',hb',hm⟩:=hsp
     rw [hm,bSq] at hturn
     rw [dZ hturn,rE hf]
     exact ⟨hf,_,_,b',hb',rfl⟩
    |inl z =>
     obtain ⟨x',l',o',t'⟩:=z
     obtain ⟨b',hb',hm,hz⟩:=hsp
     have hz:l'=L.drop b':=hz
     subst hz
     obtain ⟨hcs,ho',_⟩:Cs (L.drop d) (L.drop b')∧o'=o2∧True:=hpr
     have ho':o'=o2:=ho'
     subst ho'
     rw [hm,bSq] at hturn
     cases hw2
     exact ⟨_,hturn,⟨b',t',x',hb',rfl,rfl⟩,hcs.2⟩
  ·rw [iN hj] at hw
   rw [iN (show ¬ isB [[91]] (L.drop d)=true from hj)] at hturn
   cases hw
   intro r hr
   cases hr
   rw [a8 hturn]
   cases e3'
   exact ⟨d,hd,rfl,rfl⟩
 ·simp only
  rw [rE hf]
  exact ⟨_,_,rfl⟩
theorem rF{E o t m:Int}{L:List aa}(l:List aa)(acc:List (List UInt8)):(fun (l13,l14)=>dh m ⟨L,E,o,t⟩ l13 l14) (l,acc) =
  if (acc.length:Int)=m then some (.inr (.inr (bG E 7 l))) else (bf ⟨l,E,o,t⟩).bind (Sum.elim (fun a=>if d9 (acc.length+1) 16 then some (if isB [[44]] a.2=true then .inl (a.2.drop 1,acc++lit [a.1]) else .inr (.inl (acc++lit [a.1],a.2))) else none) (fun f=>some (.inr (.inr f)))):=by
 show dh m ⟨L,E,o,t⟩ l acc=_
 unfold dh
 split
 ·rw [gG];rfl
 ·congr 1
  funext y
  cases y with
  |inr f=>rfl
  |inl a =>
   simp only [Sum.elim_inl]
   split
   ·rw [nE,bSq]
    split
    ·rfl
    ·rfl
   ·rfl
theorem wU{E o t m:Int}{L:List aa}(l:List aa)(acc:List (List aj)):(fun (l13,l14)=>dR m ⟨L,E,o,t⟩ l13 l14) (l,acc) =
  if (acc.length:Int)=m then some (.inr (.inr (bG E 7 l))) else (cZ ⟨l,E,o,t⟩).bind (Sum.elim (fun a=>if d9 (acc.length+1) 24 then some (if isB [[44]] a.2=true then .inl (a.2.drop 1,acc++lit [a.1]) else .inr (.inl (acc++lit [a.1],a.2))) else none) (fun f=>some (.inr (.inr f)))):=by
 show dR m ⟨L,E,o,t⟩ l acc=_
 unfold dR
 split
 ·rw [gG];rfl
 ·congr 1
  funext y
  cases y with
  |inr f=>rfl
  |inl a =>
   simp only [Sum.elim_inl]
   split
   ·rw [nE,bSq]
    split
    ·rfl
    ·rfl
   ·rfl
theorem hP{E t:Int}{L:List aa}(w:List UInt8)(g:dV E L)(hw:wO w)(a:Nat)(ha:a≤L.length) :
  ar w ⟨L,a,E,⟨0,0⟩,t⟩=some (if isB [w] (L.drop a)=true then (((a+1:Nat):Int),0,0) else ((a:Int),(bG E 4 (L.drop a)).1,(bG E 4 (L.drop a)).2)):=by
 unfold ar
 rw [cQ,bSq,iN dM,gR w g hw a,bSq]
 by_cases h:isB [w] (L.drop a)=true
 ·rw [iP h,iP h]
  have:=g.1.1
  rw [wrs a oM]
 ·rw [iN h,iN h,iy,bSq]
theorem no{o op nx:Int}{rr:RR}{s:ae}{f:Int×Int}(hf:f.1≠0)(b:Nat)(t i:Int)(l:List ag) :
  bJ (fun (x88,x89,x90,x91,l92,x94)=>bN rr o s op nx x88 x89 x90 x91 l92 x94) ((b:Int),f.1,f.2,t,l,i)=some ((b:Int),f.1,f.2,t,l):=by
 refine a8 ?_
 show bN rr o s op nx (b:Int) f.1 f.2 t l i=_
 unfold bN
 by_cases h:i<nx
 ·rw [iP h,fq hf,bSq,iP rfl]
 ·rw [iN h]
theorem yn{E t o op nx:Int}{i:Nat}{L:List aa}{rr:RR}{l:List ag}{s:ae}(g:dV E L)(d:Nat)(hd:d≤L.length)(hsl:s.l=L)(hse:s.end_=E)(hi:0<i)(hin:(i:Int)<nx)(hi3:i≤1000)(hl:l.length≤1000)(hc:op=7→i=1→isB [[44]] (L.drop d)=true) :
  bN rr o s op nx (d:Int) 0 0 t l i=if isB [[44]] (L.drop d)=true then (rr 0 o ⟨L,((d+1:Nat):Int),E,⟨0,0⟩,t⟩).bind fun y=>some (.inl (y.2.1,y.2.2.1,y.2.2.2.1,y.2.2.2.2,l++lit [y.1],((i+1:Nat):Int)))
   else some (.inl ((d:Int),(bG E 4 (L.drop d)).1,(bG E 4 (L.drop d)).2,t,l,((i+1:Nat):Int))):=by
 have gl:=g.1.1
 obtain ⟨sl,sa,se,sf,sp⟩:=s
 cases hsl
 cases hse
 have hj:eq rr o ⟨sl,sa,se,sf,sp⟩ (d:Int) 0 0 t l i=if isB [[44]] (sl.drop d)=true then (rr 0 o ⟨sl,((d+1:Nat):Int),se,⟨0,0⟩,t⟩).bind fun y=>some (.inl (y.2.1,y.2.2.1,y.2.2.2.1,y.2.2.2.2,l++lit [y.1],((i+1:Nat):Int)))
   else some (.inl ((d:Int),(bG se 4 (sl.drop d)).1,(bG se 4 (sl.drop d)).2,t,l,((i+1:Nat):Int))):=by
  unfold eq
  rw [iP oM,hP _ g (by intro c r h;cases h;decide) d hd,bSq]
  unfold gg
  by_cases h:isB [[44]] (sl.drop d)=true
  ·rw [iP h,iP h]
   simp only
   rw [cQ,bSq,iN dM,wrs i oM]
   congr 1
   funext y
   rw [iP (jG oM dM)]
  ·rw [iN h,iN h]
   simp only
   rw [fq (bq dM),bSq,iP rfl,wrs i oM]
 unfold bN
 rw [iP hin,cQ,bSq,iN dM]
 by_cases h1:(i:Int)=1
 ·rw [iP h1]
  by_cases h7:op=7
  ·rw [iP h7,gR _ g (by intro c r h;cases h;decide) d,bSq,iP (hc h7 oM)]
   exact hj
  ·rw [iN h7];exact hj
 ·rw [iN h1];exact hj
def SmP(L:List aa)(m:Option (Int×Int×Int×Int×List ag)):(List ag×List aa×Int×Int) ⊕ (Int×Int)→Prop
 |.inl z=>∃ a:Nat,a≤L.length∧m=some ((a:Int),0,0,z.2.2.2,z.1)∧z.2.1=L.drop a
 |.inr f=>f.1≠0∧∃ l t,∃ b:Nat,b≤L.length∧m=some ((b:Int),f.1,f.2,t,l)
def fmN:List (Int×Int):=[(7,2),(8,2),(9,2),(10,1),(12,3),(13,1),(14,2),(15,2),(5,2)]
theorem yp{E o t k op nx:Int}{L:List aa}{rp:Int→af→Option RX}{rr:RR}{s:ae}(g:dV E L)(hr:RK E rp k)(hs:SK E L rp rr k)(hop:(op,nx)∈fmN)(hsl:s.l=L)(hse:s.end_=E)(ho0:0≤o)(ho:o≤60)(hk:7 * (60 - o)+6≤k)(a:Nat)(ha:a≤L.length){r:(List ag×List aa×Int×Int) ⊕ (Int×Int)}
  (h:fZ rp op ⟨L.drop a,E,o,t⟩=some r) :
  SmP L (bJ (fun (x88,x89,x90,x91,l92,x94)=>bN rr o s op nx x88 x89 x90 x91 l92 x94) ((a:Int),0,0,t,[],0)) r:=by
 have gl:=g.1.1
 have hn:1≤nx∧nx≤3∧0≤op∧op≤100:=by
  simp only [fmN,List.mem_cons,Prod.mk.injEq,List.not_mem_nil,or_false] at hop
  omega
 have h0:bN rr o s op nx (a:Int) 0 0 t [] 0=(rr 0 o ⟨L,a,E,⟨0,0⟩,t⟩).bind fun y=>some (.inl (y.2.1,y.2.2.1,y.2.2.2.1,y.2.2.2.2,lit [y.1],1)):=by
  obtain ⟨sl,sa,se,sf,sp⟩:=s
  cases hsl
  cases hse
  unfold bN
  rw [iP oM,cQ,bSq,iN dM,iN dM]
  unfold eq
  rw [iN dM]
  unfold gg
  rw [cQ,bSq,iN dM]
  congr 1
 unfold fZ at h
 obtain ⟨y,hy,h⟩:=bd h
 have hsp:=hs 0 o t a y dM dM ho0 ho oM ha hy
 have hpr:=kQ (hr 0 o t _ dM dM ho0 ho oM (g.drop a)) hy
 cases y with
 |inr f =>
  cases h
  obtain ⟨hf,x,t2,b,hb,hm⟩:=hsp
  rw [hm,bSq] at h0
  rw [dZ h0,no hf]
  exact ⟨hf,_,_,b,hb,rfl⟩
 |inl z =>
  obtain ⟨x,l',o',t'⟩:=z
  obtain ⟨b,hb,hm,hz⟩:=hsp
  have hz:l'=L.drop b:=hz
  subst hz
  obtain ⟨hcs,ho',_⟩:Ex (L.drop a) o (x,L.drop b,o',t'):=hpr
  have ho':o'=o:=ho'
  subst ho'
  rw [hm,bSq] at h0
  simp only [Sum.elim_inl] at h
  rw [iP dM,iP dM,iP dM,iP oM] at h
  have h2:∃ x6,ca rp ⟨L.drop a,E,o',t⟩ (x,L.drop b,o',t') x6=some r∧(op≠7→x6=nx)∧(op=7→nx=2∧x6=if isB [[44]] (L.drop b)=true then 2 else 1):=by
   simp only [fmN,List.mem_cons,Prod.mk.injEq,List.not_mem_nil,or_false] at hop
   rcases hop with ⟨rfl,rfl⟩|⟨rfl,rfl⟩|⟨rfl,rfl⟩|⟨rfl,rfl⟩|⟨rfl,rfl⟩|⟨rfl,rfl⟩|⟨rfl,rfl⟩|⟨rfl,rfl⟩|⟨rfl,rfl⟩
   ·rw [iN dM,iP rfl,iH _ _ _ _ _ (by simp [lit]),bSq] at h
    by_cases hi:isB [[44]] (L.drop b)=true
    ·rw [iP (show isB (lit [[44]]) (L.drop b)=true from hi)] at h
     exact ⟨2,h,fun e=>absurd rfl e,fun _=>⟨rfl,by rw [iP hi]⟩⟩
    ·rw [iN (show ¬ isB (lit [[44]]) (L.drop b)=true from hi)] at h
     exact ⟨_,h,fun e=>absurd rfl e,fun _=>⟨rfl,by rw [iN hi];decide⟩⟩
   ·rw [iP dM] at h;exact ⟨2,h,fun _=>rfl,fun e=>absurd e dM⟩
   ·rw [iP dM] at h;exact ⟨2,h,fun _=>rfl,fun e=>absurd e dM⟩
   ·rw [iN dM,iN dM] at h;exact ⟨_,h,fun _=>by decide,fun e=>absurd e dM⟩
   ·rw [iN dM,iN dM] at h;exact ⟨_,h,fun _=>by decide,fun e=>absurd e dM⟩
   ·rw [iN dM,iN dM] at h;exact ⟨_,h,fun _=>by decide,fun e=>absurd e dM⟩
   ·rw [iP dM] at h;exact ⟨2,h,fun _=>rfl,fun e=>absurd e dM⟩
   ·rw [iP dM] at h;exact ⟨2,h,fun _=>rfl,fun e=>absurd e dM⟩
   ·rw [iP dM] at h;exact ⟨2,h,fun _=>rfl,fun e=>absurd e dM⟩
  obtain ⟨x6,h,hx1,hx2⟩:=h2
  unfold ca at h
  obtain ⟨z,hz,h⟩:=bd h
  rw [dZ h0]
  refine mZ (q:=fun (x88,x89,x90,x91,l92,x94)=>bN rr o' s op nx x88 x89 x90 x91 l92 x94)
   (R := fun (s : List aa × Int × Int × List ag) (s' : Int × Int × Int × Int × List ag × Int) =>
    ∃ (d:Nat) (t:Int) (l:List ag),d≤L.length∧s=(L.drop d,o',t,l)∧s'=((d:Int),0,0,t,l,(l.length:Int))∧1≤l.length∧l.length≤3∧(l.length=1→op=7→x6=if isB [[44]] (L.drop d)=true then 2 else 1)) (μ:=fun s=>s.1.length)
   (Post:=fun z m=>∀ r,(Sum.elim (fun (z45,z46,z47,z48)=>fU z45 z46 z47 z48) (fun z49=>some z49)) z=some r→SmP L m r) ?_ _ _ ((b:Int),0,0,t',lit [x],1) z rfl ⟨b,t',lit [x],hb,rfl,rfl,by simp [lit],by simp [lit],fun _ e=>(hx2 e).2⟩ hz r h
  rintro s1 s1' ⟨d,t3,l,hd,rfl,rfl,hl1,hl3,hl7⟩ w hw
  have hw:eX rp ⟨L.drop a,E,o',t⟩ x6 (L.drop d) o' t3 l=some w:=hw
  have hx6:x6≤nx:=by
   by_cases e:op=7
   ·obtain ⟨e1,e2⟩:=hx2 e
    rw [e2,e1];split<;>decide
   ·rw [hx1 e];omega
  unfold eX at hw
  by_cases hlt:(l.length:Int)<x6
  ·rw [iP hlt] at hw
   obtain ⟨y,hy,hw⟩:=bd hw
   rw [iT] at hy
   cases hy
   have hc:op=7→l.length=1→isB [[44]] (L.drop d)=true:=by
    intro e7 e1
    have:=hl7 e1 e7
    apply Classical.byContradiction
    intro hn
    rw [iN hn] at this
    omega
   have hturn:=yn (t:=t3) (o:=o') (op:=op) (nx:=nx) (rr:=rr) (l:=l) (s:=s) g d hd hsl hse hl1 oM oM oM hc
   by_cases hi:isB [[44]] (L.drop d)=true
   ·rw [iP hi] at hw hturn
    obtain ⟨v,q,e1,e2,e3,e4,e5,e6⟩:=cL hi
    simp only [Sum.elim_inl,List.drop_drop] at hw
    obtain ⟨y2,hy2,hw2⟩:=bd hw
    clear hw
    have hsp:=hs 0 o' t3 (d+1) y2 dM dM ho0 ho oM oM hy2
    have hpr:=kQ (hr 0 o' t3 _ dM dM ho0 ho oM (g.drop (d+1))) hy2
    cases y2 with
    |inr f =>
     cases hw2
     intro r hr
     cases hr
     obtain ⟨hf,x',t',b',hb',hm⟩:=hsp
     rw [hm,bSq] at hturn
     rw [dZ hturn,no hf]
     exact ⟨hf,_,_,b',hb',rfl⟩
    |inl z =>
     obtain ⟨x',l',o2,t'⟩:=z
     obtain ⟨b',hb',hm,hz⟩:=hsp
     have hz:l'=L.drop b':=hz
     subst hz
     obtain ⟨hcs2,ho2,_⟩:Ex (L.drop (d+1)) o' (x',L.drop b',o2,t'):=hpr
     have ho2:o2=o':=ho2
     subst ho2
     rw [hm,bSq] at hturn
     simp only [Sum.elim_inl] at hw2
     rw [iP (jG oM dM)] at hw2
     cases hw2
     have hll:(l++lit [x']).length=l.length+1:=by rw [List.length_append];rfl
     refine ⟨_,hturn,⟨b',t',l++lit [x'],hb',rfl,by rw [hll],by omega,by omega,fun e=>by omega⟩,?_⟩
     have h1:=hcs2.2
     have h2:(L.drop (d+1)).length+1=(L.drop d).length:=by rw [List.length_drop,List.length_drop];omega
     have h1:(L.drop b').length<(L.drop (d+1)).length:=h1
     show (L.drop b').length<(L.drop d).length
     omega
   ·rw [iN hi] at hw hturn
    cases hw
    intro r hr
    cases hr
    rw [dZ hturn,no (bq dM)]
    exact ⟨bq dM,_,_,d,hd,rfl⟩
  ·rw [iN hlt] at hw
   cases hw
   intro r hr
   cases hr
   rw [a8 (o:=((d:Int),0,0,t3,l)) (by
    obtain ⟨sl,sa,se,sf,sp⟩:=s
    cases hsl
    cases hse
    show bN rr o' ⟨sl,sa,se,sf,sp⟩ op nx (d:Int) 0 0 t3 l (l.length:Int)=_
    unfold bN
    by_cases hn2:(l.length:Int)<nx
    ·have e7:op=7:=Classical.byContradiction fun e=>hlt (by rw [hx1 e];exact hn2)
     obtain ⟨e1,_⟩:=hx2 e7
     have e2:l.length=1:=by omega
     have e3:=hl7 e2 e7
     have hi:¬ isB [[44]] (sl.drop d)=true:=fun hi=>by rw [iP hi] at e3;omega
     rw [iP hn2,cQ,bSq,iN dM,iP oM,iP e7,gR _ g (by intro c r h;cases h;decide) d,bSq,iN hi]
    ·rw [iN hn2])]
   exact ⟨d,hd,rfl,rfl⟩
theorem pP{sz t:Int}{s:ae}{f:Int×Int}(hf:f.1≠0)(b:Nat)(i:Int)(l:List (List aj)) :
  bJ (fun (x53,x54,x55,l57,x59)=>bz s sz t x53 x54 x55 l57 x59) ((b:Int),f.1,f.2,l,i)=some ((b:Int),f.1,f.2,l):=by
 refine a8 ?_
 show bz s sz t (b:Int) f.1 f.2 l i=_
 unfold bz
 by_cases h:i<sz
 ·rw [iP h,fq hf,bSq,iP rfl]
 ·rw [iN h]
theorem so{sz op K:Int}{s:ae}{f:Int×Int}(hf:f.1≠0)(b:Nat)(t:Int)(l:List ag):Fp b f (da s op K sz (b:Int) f.1 f.2 t l):=by
 unfold da
 rw [pP hf]
 simp only [bSq]
 unfold c8
 rw [dU _ hf]
 exact ⟨_,_,rfl⟩
theorem pQ{o op K nx sz:Int}{rr:RR}{s:ae}{f:Int×Int}(hf:f.1≠0)(b:Nat):Fp b f (bi rr o s (b:Int) f.1 f.2 op K nx sz):=by
 unfold bi
 rw [no hf]
 exact so hf b _ _
theorem pR{o op y:Int}{rr:RR}{s:ae}{f:Int×Int}(hf:f.1≠0)(b:Nat):Fp b f (cz rr o s op y (b:Int) f.1 f.2):=by
 unfold cz
 rw [dU _ hf]
 exact pQ hf b
abbrev RF:=(Int×Int×Int×(List UInt8)×(List ag)×Int×(List ag)×(List aa)×Int×Int×(List (List aj))) ⊕ (Int×Int)
def fR:RF→RX:=Sum.elim (fun z=>.inl (ag.mk z.1 z.2.1 z.2.2.1 z.2.2.2.1 z.2.2.2.2.2.2.2.2.2.2 z.2.2.2.2.1,z.2.2.2.2.2.2.2.1,z.2.2.2.2.2.2.2.2.1,z.2.2.2.2.2.2.2.2.2.1)) .inr
theorem tG{E o t op sz:Int}{L:List aa}{p7:af}{y11:List ag×List aa×Int×Int}{s:ae}(hE:0≤E)(g:dV E L)(hsz:((qo (((13,2):Int×Int) :: (((10,1):Int×Int) :: ([]:List (Int×Int)))) op).getD 0)=sz)(hsz2:sz≤2)(hp:p7.end_=E)(hy:y11.2.2=(o,t))(hsl:s.l=L)(hse:s.end_=E)
  (a:Nat) (ha:a≤L.length) {z:(List aa×List (List aj)) ⊕ RF} (h:bJ (fun (l38,l39,x41)=>dC op p7 y11 l38 l39 x41) (L.drop a,[],0)=some z) :
  Sum.elim (fun z=>∃ b:Nat,b≤L.length∧z.1=L.drop b∧bJ (fun (x53,x54,x55,l57,x59)=>bz s sz t x53 x54 x55 l57 x59) ((a:Int),0,0,[],0)=some ((b:Int),0,0,z.2))
   (Sum.elim (fun _=>False) (fun f=>f.1≠0∧∃ b:Nat,∃ l,b≤L.length∧bJ (fun (x53,x54,x55,l57,x59)=>bz s sz t x53 x54 x55 l57 x59) ((a:Int),0,0,[],0)=some ((b:Int),f.1,f.2,l))) z:=by
 have gl:=g.1.1
 obtain ⟨sl,sa,se,sf,sp⟩:=s
 cases hsl
 cases hse
 obtain ⟨pl,pe,po,pt⟩:=p7
 cases hp
 obtain ⟨yl,yt,yo,yt2⟩:=y11
 cases hy
 refine mZ (q:=fun (x53,x54,x55,l57,x59)=>bz ⟨sl,sa,se,sf,sp⟩ sz t x53 x54 x55 l57 x59)
  (R:=fun (s:List aa×List (List aj)×Int) (s':Int×Int×Int×List (List aj)×Int)=>∃ (d i:Nat) (l:List (List aj)),d≤sl.length∧s=(sl.drop d,l,(i:Int))∧s'=((d:Int),0,0,l,(i:Int))∧l.length≤i∧i≤3) (μ:=fun s=>s.1.length)
  (Post:=fun z m=>Sum.elim (fun z=>∃ b:Nat,b≤sl.length∧z.1=sl.drop b∧m=some ((b:Int),0,0,z.2)) (Sum.elim (fun _=>False) (fun f=>f.1≠0∧∃ b:Nat,∃ l,b≤sl.length∧m=some ((b:Int),f.1,f.2,l))) z) ?_ _ _ ((a:Int),0,0,[],0) z rfl ⟨a,0,[],ha,rfl,rfl,by decide,by decide⟩ h
 rintro s1 s1' ⟨d,i,l,hd,rfl,rfl,hl,hi3⟩ w hw
 have hw:dC op ⟨pl,se,po,pt⟩ (yl,yt,o,t) (sl.drop d) l (i:Int)=some w:=hw
 have hd:d≤sl.length:=hd
 have gl:sl.length≤9000000:=gl
 unfold dC at hw
 rw [hsz] at hw
 by_cases hlt:(i:Int)<sz
 ·rw [iP hlt] at hw
  obtain ⟨y,hy,hw2⟩:=bd hw
  clear hw
  rw [iT] at hy
  cases hy
  by_cases hi:isB [[44]] (sl.drop d)=true
  ·rw [iP hi] at hw2
   obtain ⟨v,q,e1,e2,e3,e4,e5,e6⟩:=cL hi
   simp only [Sum.elim_inl,List.drop_drop] at hw2
   obtain ⟨y2,hy2,hw3⟩:=bd hw2
   clear hw2
   have hsp:=tE (t':=t) hE g (d+1) (show d+1≤sl.length by omega) hy2
   have hpr:=kQ (rz hE (g.drop (d+1))) hy2
   have hturn:∀ m,cg ⟨sl,((d+1:Nat):Int),se,⟨0,0⟩,t⟩=m→bz ⟨sl,sa,se,sf,sp⟩ sz t (d:Int) 0 0 l (i:Int)=m.bind fun y63=>some (.inl (y63.2.1,y63.2.2.1,y63.2.2.2,(l++lit [y63.1]),((i+1:Nat):Int))):=by
    intro m hm
    unfold bz
    rw [iP hlt,cQ,bSq,iN dM,hP _ g (by intro c r h;cases h;decide) d hd,iP hi,bSq]
    simp only
    rw [cQ,bSq,iN dM,hm,wrs i oM]
    congr 1
    funext y
    rw [iP (jG oM dM)]
   cases y2 with
   |inr f =>
    cases hw3
    obtain ⟨hf,x',b',hb',hm⟩:=hsp
    have hq:=hturn _ hm
    rw [bSq] at hq
    show f.1≠0∧∃ b:Nat,∃ l2,b≤sl.length∧bJ _ _=some ((b:Int),f.1,f.2,l2)
    exact ⟨hf,b',_,hb',by rw [dZ hq];exact pP hf b' _ _⟩
   |inl z =>
    obtain ⟨x',l'⟩:=z
    obtain ⟨b',hb',hm,hz⟩:=hsp
    have hz:l'=sl.drop b':=hz
    subst hz
    have hq:=hturn _ hm
    rw [bSq] at hq
    simp only [Sum.elim_inl] at hw3
    rw [iP (jG oM dM),wrs i oM] at hw3
    cases hw3
    have h1:=hpr.1.2
    have h1:(sl.drop b').length<(sl.drop (d+1)).length:=h1
    have h2:(sl.drop (d+1)).length+1=(sl.drop d).length:=by rw [List.length_drop,List.length_drop];omega
    exact ⟨_,hq,⟨b',i+1,_,hb',rfl,rfl,by rw [List.length_append];simp only [lit,List.length_cons,List.length_nil];omega,by omega⟩,by show (sl.drop b').length<(sl.drop d).length;omega⟩
  ·rw [iN hi] at hw2
   cases hw2
   have hq:bz ⟨sl,sa,se,sf,sp⟩ sz t (d:Int) 0 0 l (i:Int)=some (.inl ((d:Int),(bG se 4 (sl.drop d)).1,(bG se 4 (sl.drop d)).2,l,((i+1:Nat):Int))):=by
    unfold bz
    rw [iP hlt,cQ,bSq,iN dM,hP _ g (by intro c r h;cases h;decide) d hd,iN hi,bSq]
    simp only
    rw [fq (bq dM),bSq,iP rfl,wrs i oM]
   show (bG se 4 (sl.drop d)).1≠0∧∃ b:Nat,∃ l2,b≤sl.length∧bJ _ _=some ((b:Int),(bG se 4 (sl.drop d)).1,(bG se 4 (sl.drop d)).2,l2)
   exact ⟨bq dM,d,l,hd,by rw [dZ hq];exact pP (bq dM) d _ _⟩
 ·rw [iN hlt] at hw
  cases hw
  show ∃ b:Nat,b≤sl.length∧sl.drop d=sl.drop b∧bJ _ _=some ((b:Int),0,0,l)
  refine ⟨d,hd,rfl,a8 ?_⟩
  show bz ⟨sl,sa,se,sf,sp⟩ sz t (d:Int) 0 0 l (i:Int)=_
  unfold bz
  rw [iN hlt]
def fmZ:List (Int×Int×Int):=[(7,2,0),(8,2,0),(9,2,0),(10,1,1),(12,3,0),(13,1,2),(14,2,0),(15,2,0),(5,2,0)]
theorem yq:∀ z∈fmZ,(z.1,z.2.1)∈fmN∧((qo (((13,2):Int×Int) :: (((10,1):Int×Int) :: ([]:List (Int×Int)))) z.1).getD 0)=z.2.2∧z.2.2≤2∧0≤z.1∧z.1≤100:=by decide
theorem sq{E o t k op nx sz K:Int}{L l0:List aa}{rp:Int→af→Option RX}{rr:RR}{s:ae}(hE:0≤E)(g:dV E L)(hr:RK E rp k)(hs:SK E L rp rr k)(hop:(op,nx,sz)∈fmZ)(hsl:s.l=L)(hse:s.end_=E)(hsp:s.parts=t)(ho0:0≤o)(ho:o≤60)(hk:7 * (60 - o)+6≤k)
  (c:Nat) (hc:c≤L.length) {r:RF} (h:bQ rp op op 0 [] ⟨l0,E,o,t⟩ [] K (L.drop c)=some r):Sp L (bi rr o s (c:Int) 0 0 op K nx sz) (fR r):=by
 obtain ⟨f1,f2,f3,f4,f5⟩:=yq _ hop
 unfold bQ at h
 unfold bi
 rw [hsp]
 obtain ⟨y,hy,h⟩:=bd h
 have hpa:=yp (s:=s) g hr hs f1 hsl hse ho0 ho hk c hc hy
 have hpr:=kQ (vP ⟨f4,f5⟩ ho0 ho hE (g.drop c) hr hk) hy
 cases y with
 |inr f =>
  cases h
  obtain ⟨hf,l,t2,b,hb,hm⟩:=hpa
  rw [hm]
  obtain ⟨x,t3,hx⟩:=so (s:=s) (op:=op) (K:=K) (sz:=sz) hf b t2 l
  exact ⟨hf,x,t3,b,hb,hx⟩
 |inl y11 =>
  obtain ⟨yl,yt,yo,yt2⟩:=y11
  obtain ⟨b,hb,hm,hz⟩:=hpa
  have hz:yt=L.drop b:=hz
  subst hz
  have hyo:yo=o:=hpr.2.1
  subst hyo
  rw [hm]
  simp only [Sum.elim_inl] at h
  rw [iP dM,iP oM] at h
  obtain ⟨z,hz,h⟩:=bd h
  have hss:=tG (s:=s) (p7:=⟨l0,E,yo,t⟩) (y11:=(yl,L.drop b,yo,yt2)) (t:=yt2) hE g f2 f3 rfl rfl hsl hse b hb hz
  show Sp L (da s op K sz (b:Int) 0 0 yt2 yl) _
  unfold da
  rcases z with ⟨l15,l16⟩|z|f
  ·obtain ⟨b2,hb2,hz2,hm2⟩:=hss
   have hz2:l15=L.drop b2:=hz2
   subst hz2
   rw [hm2]
   have h:cN op 0 [] ⟨l0,E,yo,t⟩ K (yl,L.drop b,yo,yt2) (L.drop b2) l16=some r:=h
   show Sp L (c8 s op K yt2 yl (b2:Int) 0 0 l16) _
   unfold cN at h
   unfold c8
   rw [hsl,hse]
   rw [iT,bSq] at h
   rw [hP _ g (by intro c r h;cases h;decide) b2 hb2,bSq]
   by_cases hi:isB [[41]] (L.drop b2)=true
   ·rw [iP hi] at h ⊢
    obtain ⟨v,q,e1,e2,e3,e4,e5,e6⟩:=cL hi
    rw [List.drop_drop] at h
    cases h
    exact ⟨b2+1,by omega,rfl,rfl⟩
   ·rw [iN hi] at h ⊢
    cases h
    exact ⟨bq dM,_,_,b2,hb2,rfl⟩
  ·exact hss.elim
  ·obtain ⟨hf,b2,l2,hb2,hm2⟩:=hss
   rw [hm2]
   cases h
   show Sp L (c8 s op K yt2 yl (b2:Int) f.1 f.2 l2) _
   unfold c8
   rw [dU _ hf]
   exact ⟨hf,_,_,b2,hb2,rfl⟩
def smB(w:List UInt8):Bool:=match w with|c :: _=>decide (tSm c)|[]=>false
theorem zH{E:Int}{L:List aa}{x:aa}{W:List (List UInt8)}(g:dV E L)(hx:x∈L)(h1:x.kind≠1)(h2:x.kind≠2)(hW:∀ w∈W,smB w=true):x.text ∉ W:=by
 intro hm
 have hs:=hW _ hm
 obtain ⟨d1,d2,d3⟩:=g.2 x hx
 cases ht:x.text with
 |nil=>rw [ht] at hs;cases hs
 |cons c w =>
  rw [ht] at hs
  have hs:tSm c:=by simpa [smB] using hs
  rcases d2 with d|d|d|d
  ·exact h1 d
  ·exact h2 d
  ·obtain ⟨c',w',e,hd⟩:=d1 d
   rw [ht] at e
   obtain ⟨rfl,_⟩:=List.cons.inj e
   unfold tSm at hs
   unfold tDg at hd
   omega
  ·exact d3 d c w ht hs
theorem od{W:List (List UInt8)}{x:List UInt8}(h:x ∉ W):kT W x<0:=Int.not_le.1 fun hn=>h (n8 hn)
theorem tH{E o t:Int}{x:aa}{r:List aa}:dt ⟨x :: r,E,o,t⟩=some (if x.kind=1 then x.text else []):=by
 unfold dt
 rw [iN (by simp;omega),iP (by simp)]
 show (if ¬ x.kind=1 then some [] else some x.text)=_
 by_cases h:x.kind=1
 ·rw [iN (fun z=>z h),iP h]
 ·rw [iP h,iN h]
def W14:List (List UInt8):=[[97,100,100],[115,117,98],[109,117,108],[100,105,118],[109,111,100],[109,105,110],[109,97,120],[108,101,115,115],[101,113],[97,110,100],[111,114],[120,111,114],[110,101,103],[110,111,116]]
theorem BS:∀ w∈W14,smB w=true:=by decide
theorem AJ:∀ w∈W14,kT (lit ([] :: W14)) w=kT W14 w+1:=by decide
theorem vZ{E o t:Int}{L:List aa}(g:dV E L)(a:Nat):fT ⟨L.drop a,E,o,t⟩ =
  some (if 0≤whR W14 (L.drop a) then .inl (whR W14 (L.drop a)+1,L.drop (a+1)) else .inr (bG E 4 (L.drop a))):=by
 show ((dt ⟨L.drop a,E,o,t⟩).bind fun y1=>(dK y1 (lit ([] :: W14))).bind fun y2=>if y2<1 then ((aC 4 ⟨L.drop a,E,o,t⟩).bind fun y3=>(some (.inr (y3.1,y3.2)):Option ((Int×List aa) ⊕ (Int×Int)))) else ((aD ⟨L.drop a,E,o,t⟩).bind fun y4=>(some (.inl (y2,y4.2)):Option ((Int×List aa) ⊕ (Int×Int)))))=_
 cases hd:L.drop a with
 |nil =>
  have:dt ⟨[],E,o,t⟩=some []:=rfl
  rw [this,bSq,lI _ _ dM,bSq,iP dM,iN dM,gG];rfl
 |cons x r =>
  obtain ⟨h1,h2,h3⟩:=o8 hd
  have hx:x∈L:=by rw [← h2];exact kG h1
  rw [tH,bSq,lI _ _ dM,bSq]
  by_cases h:x.kind=1
  ·rw [iP h]
   have hw:whR W14 (x :: r)=kT W14 x.text:=gF oM
   rw [hw]
   by_cases hm:x.text∈W14
   ·have h4:=nm hm
    rw [AJ _ hm,iN oM,iP h4,hO,h3];rfl
   ·have h4:=od hm
    have h5:kT (lit ([] :: W14)) x.text<1:=by
     by_cases he:x.text=[]
     ·rw [he];decide
     ·have:=od (W:=lit ([] :: W14)) (x:=x.text) (by
       intro h5
       rcases List.mem_cons.1 h5 with h5|h5
       ·exact he h5
       ·exact hm h5)
      omega
    rw [iP h5,iN (show ¬ 0≤kT W14 x.text by omega),gG];rfl
  ·have h6:¬ 0≤whR W14 (x :: r):=by
    by_cases h5:x.kind=2
    ·simp [whR,h5]
    ·rw [gF h5]
     have:=od (zH g hx h h5 BS)
     omega
   rw [iN h,iP dM,gG,iN h6];rfl
theorem BT{l:List aa}:whR W14 l<14:=by
 cases l with
 |nil=>decide
 |cons x r =>
  by_cases h:x.kind=2
  ·simp [whR,h]
  ·rw [gF h];exact nl (L:=W14)
theorem zI:∀ w∈W14,uv w=true:=by decide
def fmT:List (List UInt8×Int×Int×Int×Int):=[([109,97,112],7,0,2,0),([102,111,108,100],8,0,2,0),([115,99,97,110],9,0,2,0),([102,105,108,108],10,0,1,1),([119,105,116,104],12,0,3,0),([115,108,105,99,101],13,0,1,2),([99,97,116],14,0,2,0),([112,114,101],15,0,2,0),([109,105,110],5,6,2,0),([109,97,120],5,7,2,0)]
theorem BU{E o t op K nx sz:Int}{x:aa}{r:List aa}{rp:Int→af→Option RX}(h:(x.text,op,K,nx,sz)∈fmT)(hk:x.kind=1) :
  eY rp ⟨x :: r,E,o,t⟩=(eE rp ⟨x :: r,E,o,t⟩ op op K 0 [] [] []).bind fun y5=>Sum.elim (fun y8=>some (.inl ((ag.mk y8.1 y8.2.1 y8.2.2.1 y8.2.2.2.1 y8.2.2.2.2.2.2.2.2.2.2 y8.2.2.2.2.1),y8.2.2.2.2.2.1,y8.2.2.2.2.2.2.1,y8.2.2.2.2.2.2.2.1))) (fun y9=>some (.inr (y9.1,y9.2))) y5:=by
 unfold eY
 rw [tH,iP hk,bSq,lI _ _ (by simp [lit]),bSq]
 unfold dA
 simp only [fmT,List.mem_cons,Prod.mk.injEq,List.not_mem_nil,or_false] at h
 rcases h with ⟨e,rfl,rfl,rfl,rfl⟩|⟨e,rfl,rfl,rfl,rfl⟩|⟨e,rfl,rfl,rfl,rfl⟩|⟨e,rfl,rfl,rfl,rfl⟩|⟨e,rfl,rfl,rfl,rfl⟩|⟨e,rfl,rfl,rfl,rfl⟩|⟨e,rfl,rfl,rfl,rfl⟩|⟨e,rfl,rfl,rfl,rfl⟩|⟨e,rfl,rfl,rfl,rfl⟩|⟨e,rfl,rfl,rfl,rfl⟩<;>rw [e]
 ·rw [iN dM,iP dM,iN dM,iN dM];rfl
 ·rw [iN dM,iP dM,iN dM,iN dM];rfl
 ·rw [iN dM,iP dM,iN dM,iN dM];rfl
 ·rw [iN dM,iP dM,iN dM,iN dM];rfl
 ·rw [iN dM,iP dM,iN dM,iN dM];rfl
 ·rw [iN dM,iP dM,iN dM,iN dM];rfl
 ·rw [iN dM,iP dM,iN dM,iN dM];rfl
 ·rw [iN dM,iP dM,iN dM,iN dM];rfl
 ·rw [iN dM,iP dM,iP dM];rfl
 ·rw [iN dM,iP dM,iN dM,iP dM];rfl
theorem BV{o op K nx sz:Int}{w:List UInt8}{rr:RR}{s:ae}(h:(w,op,K,nx,sz)∈fmT) :
  gE rr w o s=(ar [40] s).bind fun y1=>if op=7∨op=8∨op=9 then et rr o s y1 op else bi rr o s y1.1 y1.2.1 y1.2.2 op K nx sz:=by
 unfold gE
 congr 1
 funext y1
 unfold gh gU
 simp only [fmT,List.mem_cons,Prod.mk.injEq,List.not_mem_nil,or_false] at h
 rcases h with ⟨rfl,rfl,rfl,rfl,rfl⟩|⟨rfl,rfl,rfl,rfl,rfl⟩|⟨rfl,rfl,rfl,rfl,rfl⟩|⟨rfl,rfl,rfl,rfl,rfl⟩|⟨rfl,rfl,rfl,rfl,rfl⟩|⟨rfl,rfl,rfl,rfl,rfl⟩|⟨rfl,rfl,rfl,rfl,rfl⟩|⟨rfl,rfl,rfl,rfl,rfl⟩|⟨rfl,rfl,rfl,rfl,rfl⟩|⟨rfl,rfl,rfl,rfl,rfl⟩<;>rfl
theorem yr:∀ z∈fmT,(z.2.1,z.2.2.2.1,z.2.2.2.2)∈fmZ∧((z.2.1=7∨z.2.1=8∨z.2.1=9)↔(z.2.1≤9∧z.2.1≥7))∧((z.2.1=7∨z.2.1=8∨z.2.1=9)→z.2.2.2.1=2∧z.2.2.2.2=0):=by decide
theorem tI{E op o t:Int}{L:List aa}{rr:RR}{s:ae}{f:ai}(g:dV E L)(hsl:s.l=L)(hse:s.end_=E)(hsp:s.parts=t)(a:Nat)(ha:a≤9000000):et rr o s ((a:Int),f.code,f.at_) op =
  if whR W14 (L.drop a)<0 then ((bh 4 ⟨L,a,E,f,t⟩).bind fun y=>cz rr o s op (whR W14 (L.drop a)) (a:Int) y.1 y.2) else if f.code≠0 then cz rr o s op (whR W14 (L.drop a)) (a:Int) f.code f.at_ else cz rr o s op (whR W14 (L.drop a)) ((a+1:Nat):Int) f.code f.at_:=by
 obtain ⟨sl,sa,se,sf,sp⟩:=s
 cases hsl
 cases hse
 cases hsp
 unfold et
 show ((bu W14 ⟨sl,(a:Int),se,f,sp⟩).bind _)=_
 rw [km W14 dM g (fun w hw=>oR (zI w hw)) a,bSq]
 by_cases h:whR W14 (sl.drop a)<0
 ·rw [iP h,iP h]
 ·rw [iN h,iN h]
  simp only
  rw [zx,bSq,wrs a oM]
  by_cases hf:f.code=0
  ·rw [iN (by simp [hf]),iN (fun x=>x hf)]
  ·rw [iP (by simp [hf]),iP hf]
theorem wV{E o t k op nx sz K:Int}{w:List UInt8}{L:List aa}{rp:Int→af→Option RX}{rr:RR}(hE:0≤E)(g:dV E L)(hr:RK E rp k)(hs:SK E L rp rr k)(hop:(w,op,K,nx,sz)∈fmT)(ho0:0≤o)(ho:o≤60)(hk:7 * (60 - o)+6≤k)
  (a:Nat) (ha:a≤L.length) {r:RF} (h:fF rp op op K 0 [] [] ⟨L.drop a,E,o,t⟩ []=some r):Sp L (gE rr w o ⟨L,a,E,⟨0,0⟩,t⟩) (fR r):=by
 have gl:=g.1.1
 obtain ⟨f1,f2,f3⟩:=yr _ hop
 have f1:(op,nx,sz)∈fmZ:=f1
 have f2:(op=7∨op=8∨op=9)↔(op≤9∧op≥7):=f2
 have f3:(op=7∨op=8∨op=9)→nx=2∧sz=0:=f3
 rw [BV hop,hP _ g (by intro c r h;cases h;decide) a ha,bSq]
 unfold fF at h
 rw [iT,bSq] at h
 have hbad:∀ (f:Int×Int) (b:Nat),f.1≠0→b≤L.length→Fp b f (if op=7∨op=8∨op=9 then et rr o ⟨L,a,E,⟨0,0⟩,t⟩ ((b:Int),f.1,f.2) op else bi rr o ⟨L,a,E,⟨0,0⟩,t⟩ (b:Int) f.1 f.2 op K nx sz):=by
  intro f b hf hb
  by_cases hc:op=7∨op=8∨op=9
  ·rw [iP hc]
   have:=tI (rr:=rr) (op:=op) (o:=o) (s:=⟨L,a,E,⟨0,0⟩,t⟩) (f:=⟨f.1,f.2⟩) g rfl rfl rfl b oM
   rw [this]
   by_cases hw:whR W14 (L.drop b)<0
   ·rw [iP hw,yk _ hf]
    exact pR hf b
   ·rw [iN hw,iP hf]
    exact pR hf b
  ·rw [iN hc]
   exact pQ hf b
 by_cases hi:isB [[40]] (L.drop a)=true
 ·rw [iP hi] at h ⊢
  obtain ⟨v,q,e1,e2,e3,e4,e5,e6⟩:=cL hi
  rw [List.drop_drop] at h
  simp only [Sum.elim_inl] at h
  by_cases hc:op=7∨op=8∨op=9
  ·obtain ⟨c1,c2⟩:=f2.1 hc
   obtain ⟨rfl,rfl⟩:=f3 hc
   rw [iP c1,iP c2,vZ g (a+1),bSq] at h
   rw [iP hc,tI (f:=⟨0,0⟩) g rfl rfl rfl (a+1) oM]
   by_cases hw:0≤whR W14 (L.drop (a+1))
   ·rw [iP hw] at h
    rw [iN oM,iN (fun x=>x rfl)]
    simp only [Sum.elim_inl] at h
    rw [iT,bSq] at h
    unfold cz
    have h14:=BT (l:=L.drop (a+1))
    have hlen:a+1+1≤L.length:=by
     obtain ⟨_,_,_,q,_⟩:=cL (lO.1 hw)
     omega
    rw [hP _ g (by intro c r h;cases h;decide) (a+1+1) hlen,bSq,wr (n:=_+1) oM oM]
    by_cases hj:isB [[44]] (L.drop (a+1+1))=true
    ·rw [iP hj] at h ⊢
     rw [List.drop_drop] at h
     obtain ⟨_,_,_,q,_⟩:=cL hj
     exact sq hE g hr hs f1 rfl rfl rfl ho0 ho hk (a+1+1+1) oM h
    ·rw [iN hj] at h ⊢
     cases h
     obtain ⟨x,t3,hx⟩:=pQ (rr:=rr) (o:=o) (op:=op) (K:=whR W14 (L.drop (a+1))+1) (nx:=2) (sz:=0) (s:=⟨L,a,E,⟨0,0⟩,t⟩) (f:=bG E 4 (L.drop (a+1+1))) (bq dM) (a+1+1)
     exact ⟨bq dM,x,t3,a+1+1,hlen,hx⟩
   ·rw [iN hw] at h
    rw [iP oM,iy,bSq]
    cases h
    obtain ⟨x,t3,hx⟩:=pR (rr:=rr) (o:=o) (op:=op) (y:=whR W14 (L.drop (a+1))) (s:=⟨L,a,E,⟨0,0⟩,t⟩) (f:=bG E 4 (L.drop (a+1))) (bq dM) (a+1)
    exact ⟨bq dM,x,t3,a+1,by omega,hx⟩
  ·rw [iN hc]
   have h:bQ rp op op 0 [] ⟨L.drop a,E,o,t⟩ [] K (L.drop (a+1))=some r:=by
    by_cases c1:op≤9
    ·rw [iP c1,iN (fun c2=>hc (f2.2 ⟨c1,c2⟩))] at h;exact h
    ·rw [iN c1] at h;exact h
   exact sq hE g hr hs f1 rfl rfl rfl ho0 ho hk (a+1) oM h
 ·rw [iN hi] at h ⊢
  cases h
  obtain ⟨x,t3,hx⟩:=hbad (bG E 4 (L.drop a)) a (bq dM) ha
  exact ⟨bq dM,x,t3,a,ha,hx⟩
def W12:List (List UInt8):=[[40],[105,102],[109,97,112],[102,111,108,100],[115,99,97,110],[102,105,108,108],[119,105,116,104],[115,108,105,99,101],[99,97,116],[112,114,101],[109,105,110],[109,97,120]]
def W10:List (List UInt8):=[[109,97,112],[102,111,108,100],[115,99,97,110],[102,105,108,108],[119,105,116,104],[115,108,105,99,101],[99,97,116],[112,114,101],[109,105,110],[109,97,120]]
def Wft:List (List UInt8):=[[102,97,108,115,101],[116,114,117,101]]
theorem v6:∀ w∈W12,uv w=true:=by decide
theorem tJ:∀ w∈Wft,uv w=true:=by decide
theorem BW:∀ w∈W10,smB w=true:=by decide
theorem zJ{E o t k op nx sz K:Int}{x:aa}{q L:List aa}{rp:Int→af→Option RX}{rr:RR}(hE:0≤E)(g:dV E L)(hr:RK E rp k)(hs:SK E L rp rr k)(ho0:0≤o)(ho:o≤60)(hk:7 * (60 - o)≤k)(a:Nat)
  (hd:L.drop a=x :: q) (hx:x.kind=1) (hop:(x.text,op,K,nx,sz)∈fmT) {r:RX} (h:eY rp ⟨L.drop a,E,o,t⟩=some r) :
  (o=60∧r=.inr (bG E 6 (L.drop a)))∨(o<60∧Sp L (gE rr x.text (o+1) ⟨L,((a+1:Nat):Int),E,⟨0,0⟩,t⟩) r):=by
 obtain ⟨h1,h2,h3⟩:=o8 hd
 rw [hd,BU hop hx] at h
 unfold eE at h
 by_cases h60:o=60
 ·rw [iP h60,gG] at h
  cases h
  exact .inl ⟨h60,by rw [hd]⟩
 ·refine .inr ⟨by omega,?_⟩
  rw [iN h60] at h
  simp only [wr (n:=o+1) oM oM] at h
  rw [hO,bSq,← h3] at h
  obtain ⟨y,hy,h⟩:=bd h
  obtain ⟨r1,hr1,hy⟩:=bd hy
  have hf:=wV hE g hr hs hop oM oM oM (a+1) oM hr1
  cases r1 with
  |inl z=>cases hy;cases h;exact hf
  |inr f=>cases hy;cases h;exact hf
theorem oT{E o t c:Int}{L:List aa}{rr:RR}(g:dV E L)(ho0:0≤o)(ho:o≤60)(a:Nat)(ha:a≤L.length)(h0:¬ isB Wft (L.drop a)=true)(hw:whR W12 (L.drop a)=c)(hc:0≤c)(hc2:c<12) :
  db rr o ⟨L,a,E,⟨0,0⟩,t⟩=if o≥60 then some (ag.mk 0 0 0 [] [] [],(a:Int),(bG E 6 (L.drop a)).1,(bG E 6 (L.drop a)).2,t)
   else if W12.getD c.toNat default=[40] then ((rr 0 (o+1) ⟨L,((a+1:Nat):Int),E,⟨0,0⟩,t⟩).bind fun y7=>(ar [41] ⟨L,y7.2.1,E,⟨y7.2.2.1,y7.2.2.2.1⟩,y7.2.2.2.2⟩).bind fun y8=>some (y7.1,y8.1,y8.2.1,y8.2.2,y7.2.2.2.2))
   else if W12.getD c.toNat default=[105,102] then ((rr 0 (o+1) ⟨L,((a+1:Nat):Int),E,⟨0,0⟩,t⟩).bind fun y9=>(ar [116,104,101,110] ⟨L,y9.2.1,E,⟨y9.2.2.1,y9.2.2.2.1⟩,y9.2.2.2.2⟩).bind fun y10=>(rr 0 (o+1) ⟨L,y10.1,E,⟨y10.2.1,y10.2.2⟩,y9.2.2.2.2⟩).bind fun y11 =>
   (ar [101,108,115,101] ⟨L,y11.2.1,E,⟨y11.2.2.1,y11.2.2.2.1⟩,y11.2.2.2.2⟩).bind fun y12=>(rr 0 (o+1) ⟨L,y12.1,E,⟨y12.2.1,y12.2.2⟩,y11.2.2.2.2⟩).bind fun y13 =>
   (cy (ag.mk 6 0 0 [] [] (lit [y9.1,y11.1,y13.1])) ⟨L,y13.2.1,E,⟨y13.2.2.1,y13.2.2.2.1⟩,y13.2.2.2.2⟩).bind fun y14=>some (y14.1,y13.2.1,y13.2.2.1,y13.2.2.2.1,y14.2))
   else ((gE rr (W12.getD c.toNat default) (o+1) ⟨L,((a+1:Nat):Int),E,⟨0,0⟩,t⟩).bind fun y15=>some (y15.1,y15.2.1,y15.2.2.1,y15.2.2.2.1,y15.2.2.2.2)):=by
 have gl:=g.1.1
 unfold db
 show ((bu Wft ⟨L,(a:Int),E,⟨0,0⟩,t⟩).bind _)=_
 rw [km Wft dM g (fun w hw=>oR (tJ w hw)) a,bSq,iN (fun h=>h0 (lO.1 h))]
 show ((bu W12 ⟨L,(a:Int),E,⟨0,0⟩,t⟩).bind _)=_
 rw [km W12 dM g (fun w hw=>oR (v6 w hw)) a,bSq,hw,iN oM,tF a oM,bSq]
 by_cases h60:o≥60
 ·rw [iP h60,iP h60,iN Bool.false_ne_true]
 ·rw [iN h60,iN h60,iP rfl,iP ⟨hc,hc2⟩]
  simp only [wr (n:=o+1) oM oM]
  rfl
theorem BX:∀ w∈W10,kT W12 w=kT W10 w+2:=by decide
theorem BY:∀ w∈W10,∃ z∈fmT,z.1=w:=by decide
theorem AL:∀ w∈W10,W12.getD (kT W12 w).toNat default=w∧w≠[40]∧w≠[105,102]:=by decide
theorem zM{E o t k:Int}{L:List aa}{rp:Int→af→Option RX}{rr:RR}(hE:0≤E)(g:dV E L)(hr:RK E rp k)(hs:SK E L rp rr k)(hb:o<60→BK E L rr)(ho0:0≤o)(ho:o≤60)(hk:7 * (60 - o)≤k)
  (a:Nat) (ha:a≤L.length) {r:RX} (h:eZ rp ⟨L.drop a,E,o,t⟩=some r):Sp L (iL rr o ⟨L,a,E,⟨0,0⟩,t⟩) r:=by
 have gl:=g.1.1
 have key:∀ r,(∀ x q,L.drop a=x :: q→x.kind≠3∧x.kind≠2)→((aE (lit ([([116,114,117,101]:List UInt8),([102,97,108,115,101]:List UInt8)]:List (List UInt8))) ⟨L.drop a,E,o,t⟩).bind fun y12=>if y12=true then ((aD ⟨L.drop a,E,o,t⟩).bind fun y16=>if ((y16.1).text)=([116,114,117,101]:List UInt8) then (ee ⟨L.drop a,E,o,t⟩ y16.2 1) else (ee ⟨L.drop a,E,o,t⟩ y16.2 0)) else ((aE (lit ([([40]:List UInt8)]:List (List UInt8))) ⟨L.drop a,E,o,t⟩).bind fun y17=>if y17=true then ((cF rp ⟨L.drop a,E,o,t⟩).bind fun y18=>Sum.elim (fun y21=>some (.inl ((y21.1),y21.2.1,y21.2.2.1,y21.2.2.2))) (fun y22=>some (.inr (y22.1,y22.2))) y18) else ((aE (lit ([([105,102]:List UInt8)]:List (List UInt8))) ⟨L.drop a,E,o,t⟩).bind fun y23=>if y23=true then ((cG rp ⟨L.drop a,E,o,t⟩).bind fun y24=>Sum.elim (fun y27=>some (.inl ((y27.1),y27.2.1,y27.2.2.1,y27.2.2.2))) (fun y28=>some (.inr (y28.1,y28.2))) y24) else (bV rp ⟨L.drop a,E,o,t⟩))))=some r →
   Sp L (db rr o ⟨L,a,E,⟨0,0⟩,t⟩) r:=by
  intro r hkind h
  rw [iH _ _ _ _ _ (by simp [lit]),bSq] at h
  by_cases h1:isB (lit [([116,114,117,101]:List UInt8),[102,97,108,115,101]]) (L.drop a)=true
  ·rw [iP h1] at h
   obtain ⟨v,q,e1,e2,e3,e4,e5,e6⟩:=cL h1
   have hnx:aD ⟨L.drop a,E,o,t⟩=some (v,L.drop (a+1)):=by rw [e1,hO,e4]
   rw [hnx,bSq] at h
   have key2:∀ n,whR Wft (L.drop a)=n→0≤n→ee ⟨L.drop a,E,o,t⟩ (L.drop (a+1)) n=some r→Sp L (db rr o ⟨L,a,E,⟨0,0⟩,t⟩) r:=by
    intro n hn hn0 h
    unfold db
    show Sp L ((bu Wft ⟨L,(a:Int),E,⟨0,0⟩,t⟩).bind _) r
    rw [km Wft dM g (fun w hw=>oR (tJ w hw)) a,bSq,hn,iP hn0]
    simp only
    rw [wrs a oM]
    cases h
    exact ⟨a+1,by omega,rfl,rfl⟩
   have e6':v.text=[116,114,117,101]∨v.text=[102,97,108,115,101]:=by simpa [lit] using e6
   rcases e6' with e7|e7
   ·rw [iP e7] at h
    exact key2 1 (by rw [e1,gF e5,e7];decide) dM h
   ·rw [iN (by rw [e7];decide)] at h
    exact key2 0 (by rw [e1,gF e5,e7];decide) dM h
  ·rw [iN h1,iH _ _ _ _ _ (by simp [lit]),bSq] at h
   have h0:¬ isB Wft (L.drop a)=true:=fun hh=>by
    obtain ⟨v,q,e1,e2,e3,e4,e5,e6⟩:=cL hh
    refine h1 ?_
    have e6':v.text=[102,97,108,115,101]∨v.text=[116,114,117,101]:=by simpa [Wft] using e6
    rw [e1]
    simp only [isB,dT e5,Bool.true_and,decide_eq_true_eq]
    exact nm (by simp [lit];exact e6'.symm)
   by_cases h2:isB (lit [([40]:List UInt8)]) (L.drop a)=true
   ·rw [iP h2] at h
    obtain ⟨v,q,e1,e2,e3,e4,e5,e6⟩:=cL h2
    have e7:v.text=[40]:=by simpa [lit] using e6
    rw [oT (c:=0) g ho0 ho a ha h0 (by rw [e1,gF e5,e7];decide) dM dM]
    obtain ⟨r1,hr1,h⟩:=bd h
    have hrr:r1=r:=by
     cases r1 with
     |inl z=>cases h;rfl
     |inr f=>cases h;rfl
    subst hrr
    unfold cF at hr1
    rcases oS (X:=fun p=>eO rp p) ho0 ho ⟨v,q,e1⟩ hr1 with ⟨h60,rfl⟩|⟨h60,r0,hr0,hm⟩
    ·rw [iP oM]
     exact ⟨bq dM,_,_,a,ha,rfl⟩
    ·rw [iN oM,iP dM]
     exact hm _ (wQ g hr hs oM oM oM (a+1) oM hr0)
   ·rw [iN h2,iH _ _ _ _ _ (by simp [lit]),bSq] at h
    by_cases h3:isB (lit [([105,102]:List UInt8)]) (L.drop a)=true
    ·rw [iP h3] at h
     obtain ⟨v,q,e1,e2,e3,e4,e5,e6⟩:=cL h3
     have e7:v.text=[105,102]:=by simpa [lit] using e6
     rw [oT (c:=1) g ho0 ho a ha h0 (by rw [e1,gF e5,e7];decide) dM dM]
     obtain ⟨r1,hr1,h⟩:=bd h
     have hrr:r1=r:=by
      cases r1 with
      |inl z=>cases h;rfl
      |inr f=>cases h;rfl
     subst hrr
     unfold cG at hr1
     rcases oS (X:=fun p=>eP rp p) ho0 ho ⟨v,q,e1⟩ hr1 with ⟨h60,rfl⟩|⟨h60,r0,hr0,hm⟩
     ·rw [iP oM]
      exact ⟨bq dM,_,_,a,ha,rfl⟩
     ·rw [iN oM,iN dM,iP dM]
      exact hm _ (wR g hr hs (hb h60) oM oM oM (a+1) oM hr0)
    ·rw [iN h3] at h
     unfold bV at h
     obtain ⟨r1,hr1,h⟩:=bd h
     have hrr:r1=r:=by
      cases r1 with
      |inl z=>cases h;rfl
      |inr f=>cases h;rfl
     subst hrr
     by_cases h4:∃ x q,L.drop a=x :: q∧x.kind=1∧x.text∈W10
     ·obtain ⟨x,q,hd,hx,hm⟩:=h4
      obtain ⟨⟨w,op,K,nx,sz⟩,hop,rfl⟩:=BY _ hm
      obtain ⟨w1,w2,w3⟩:=AL _ hm
      have hi:=BX _ hm
      have h10:=nm hm
      have h12:=nl (L:=W10) (x:=x.text)
      have hl:((W10.length:Nat):Int)=10:=rfl
      rw [oT g ho0 ho a ha h0 (by rw [hd,gF oM]) oM oM]
      rcases zJ hE g hr hs ho0 ho hk a hd hx hop hr1 with ⟨h60,rfl⟩|⟨h60,hsp⟩
      ·rw [iP oM]
       exact ⟨bq dM,_,_,a,ha,rfl⟩
      ·rw [iN oM,w1,iN w2,iN w3]
       cases r1 with
       |inl z=>obtain ⟨b,hb,hm,hz⟩:=hsp;rw [hm];exact ⟨b,hb,rfl,hz⟩
       |inr f=>obtain ⟨hf,x,t2,b,hb,hm⟩:=hsp;rw [hm];exact ⟨hf,x,t2,b,hb,rfl⟩
     ·have hneg:whR W12 (L.drop a)<0:=by
       cases hd:L.drop a with
       |nil=>decide
       |cons x q =>
        obtain ⟨k3,k2⟩:=hkind x q hd
        rw [gF k2]
        obtain ⟨d1,d2,d3⟩:=o8 hd
        have hx:x∈L:=by rw [← d2];exact kG d1
        refine od fun hm=>?_
        rcases List.mem_cons.1 hm with hm|hm
        ·exact h2 (by rw [hd];simp only [isB,dT k2,hm];decide)
        ·rcases List.mem_cons.1 hm with hm|hm
         ·exact h3 (by rw [hd];simp only [isB,dT k2,hm];decide)
         ·by_cases k1:x.kind=1
          ·exact h4 ⟨x,q,hd,k1,hm⟩
          ·exact zH g hx k1 k2 BW hm
      have hf:r1=.inr (bG E 4 (L.drop a)):=by
       unfold eY at hr1
       cases hd:L.drop a with
       |nil =>
        rw [hd] at hr1
        have:dt ⟨[],E,o,t⟩=some []:=rfl
        rw [this,bSq,lI _ _ (by simp [lit]),bSq,iP dM,gG] at hr1
        cases hr1;rfl
       |cons x q =>
        rw [hd,tH,bSq,lI _ _ (by simp [lit]),bSq] at hr1
        rw [iP ?_,gG] at hr1
        ·cases hr1;rfl
        ·show kT W10 _<0
         by_cases k1:x.kind=1
         ·rw [iP k1];exact od fun hm=>h4 ⟨x,q,hd,k1,hm⟩
         ·rw [iN k1];decide
      subst hf
      unfold db
      show Sp L ((bu Wft ⟨L,(a:Int),E,⟨0,0⟩,t⟩).bind _) _
      rw [km Wft dM g (fun w hw=>oR (tJ w hw)) a,bSq,iN (fun h=>h0 (lO.1 h))]
      show Sp L ((bu W12 ⟨L,(a:Int),E,⟨0,0⟩,t⟩).bind _) _
      rw [km W12 dM g (fun w hw=>oR (v6 w hw)) a,bSq,iP hneg,iy,bSq]
      exact ⟨bq dM,_,_,a,ha,rfl⟩
 unfold eZ at h
 unfold iL
 rw [cQ,bSq,iN dM]
 cases hd:L.drop a with
 |nil =>
  have:L.length≤a:=by simpa using hd
  rw [iN (by rw [hd];simp),iN (by rw [hd];simp)] at h
  rw [iN (show ¬ (a:Int)<(L.length:Int) by omega)]
  unfold gi
  rw [iN (show ¬ (a:Int)<(L.length:Int) by omega)]
  exact key r (fun x q e=>by rw [hd] at e;cases e) h
 |cons x q =>
  obtain ⟨h1,h2,h3⟩:=o8 hd
  rw [iP (by rw [hd];simp),iP (by rw [hd];simp)] at h
  rw [iP (show (a:Int)<(L.length:Int) by omega),iP (show 0≤(a:Int)∧(a:Int)<(L.length:Int) by omega)]
  simp only [tN,h2]
  have hx0:(L.drop a).getD 0 default=x:=by rw [hd];rfl
  by_cases hk3:x.kind=3
  ·rw [iP (by rw [hx0];exact hk3)] at h
   rw [iP hk3]
   rw [hd,hO,bSq] at h
   cases h
   unfold fH
   rw [cQ,bSq,iN dM,iN (show ¬ (a:Int)≥(L.length:Int) by omega),iP (show 0≤(a:Int)∧(a:Int)<(L.length:Int) by omega)]
   simp only [tN,h2]
   have e1:IntKind.wrap .i64 (IntKind.wrap .i64 ((a:Int)+1) - 1)=(a:Int):=by rw [wrs a oM,wr oM oM];omega
   rw [iN (fun z=>z hk3),e1,iP (show 0≤(a:Int)∧(a:Int)<(L.length:Int) by omega),tN,h2,wrs a oM]
   exact ⟨a+1,by omega,rfl,h3.symm⟩
  ·rw [iN (by rw [hx0];exact hk3),iP (by rw [hd];simp)] at h
   rw [iN hk3]
   unfold gi
   rw [iP (show (a:Int)<(L.length:Int) by omega),iP (show 0≤(a:Int)∧(a:Int)<(L.length:Int) by omega)]
   simp only [tN,h2]
   by_cases hk2:x.kind=2
   ·rw [iP (by rw [hx0];exact hk2)] at h
    rw [iP hk2]
    obtain ⟨y,hy,h⟩:=bd h
    have hn:=mY (t':=t) g a ha hy
    cases y with
    |inl z=>cases h;obtain ⟨b,hb,hm,hz⟩:=hn;rw [hm];exact ⟨b,hb,rfl,hz⟩
    |inr f=>cases h;obtain ⟨hf,x,b,hb,hm⟩:=hn;rw [hm];exact ⟨hf,_,_,b,hb,rfl⟩
   ·rw [iN (by rw [hx0];exact hk2)] at h
    rw [iN hk2]
    exact key r (fun y p e=>by rw [hd] at e;cases e;exact ⟨hk3,hk2⟩) h
theorem sr{E k om:Int}{L:List aa}{rp:Int→af→Option RX}{rr:RR}(hE:0≤E)(g:dV E L)(hr:RK E rp k)(hs:SK E L rp rr k)(hb:om<60→BK E L rr)(h0:0≤om)(hk:7 * (60 - om)≤k) :
  ∀ (m:Nat) (o t:Int) (a:Nat) (r:RX),om≤o→o≤60→61 - o≤m→a≤L.length→cR rp m ⟨L.drop a,E,o,t⟩=some r→Sp L (eu rr m o ⟨L,a,E,⟨0,0⟩,t⟩) r
 |0,o,t,a,r,_,h2,h3,_,_=>absurd h3 oM
 |m+1,o,t,a,r,h1,h2,h3,ha,h=>by
  have h:bW rp (cR rp m) ⟨L.drop a,E,o,t⟩=some r:=h
  show Sp L (dG rr (eu rr m) o ⟨L,a,E,⟨0,0⟩,t⟩) r
  by_cases hi:isB (lit [([45]:List UInt8),[110,111,116]]) (L.drop a)=true
  ·exact vX (ka:=m) hE g hr hs oM h2 oM h1 oM (sr hE g hr hs hb h0 hk m) a ha h hi
  ·exact vY hE g hr hs (fun h=>hb oM) oM h2 oM a ha (fun r hu=>zM hE g hr hs (fun h=>hb oM) oM h2 oM a ha hu) h hi
theorem tK{E:Int}{L:List aa}{F:Nat}(hf:60≤F)(hE:0≤E)(g:dV E L):∀ m:Nat,SK E L (dj (F+1) m) (cA (F+1) m) m
 |0,n,o,t,a,r,h0,h5,ho0,ho,hk,_,_=>absurd hk oM
 |m+1,n,o,t,a,r,h0,h5,ho0,ho,hk,ha,h=>by
  have h:di (F+1) (dj (F+1) m) n ⟨L.drop a,E,o,t⟩=some r:=h
  show Sp L (fc (F+1) (cA (F+1) m) n o ⟨L,a,E,⟨0,0⟩,t⟩) r
  have hr:=rQ (fuel:=F+1) oM hE m
  have hs:=tK hf hE g m
  have hb:o<60→BK E L (cA (F+1) m):=fun h60 f b op t hf hb=>sn hf b F m 0 op t dM dM oM
  exact wT hE g hr hs h0 h5 ho0 ho oM a ha (fun r hr'=>sr hE g hr hs hb ho0 oM (F+1) o t a r (Int.le_refl _) ho oM ha hr') h
def Sg{α:Type}(L:List aa)(m:Option (α×Int×Int×Int×Int)):(α×List aa×Int×Int) ⊕ (Int×Int)→Prop
 |.inl z=>∃ (a:Nat) (t:Int),a≤L.length∧m=some (z.1,(a:Int),0,0,t)∧z.2.1=L.drop a
 |.inr f=>f.1≠0∧∃ x t,∃ b:Nat,b≤L.length∧m=some (x,(b:Int),f.1,f.2,t)
def plP(E:Int)(l:List aa):Int:=match l with|x :: _=>x.at_|[]=>E
theorem mB{E t:Int}{f:ai}{L:List aa}(a:Nat):fg ⟨L,a,E,f,t⟩=some (plP E (L.drop a)):=by
 rw [vR];cases L.drop a<;>rfl
theorem v7{E t t':Int}{L:List aa}{F:Nat}(hf:430≤F)(hE:0≤E)(g:dV E L)(a:Nat)(ha:a≤L.length){r:RX}
  (h:dY (F+1) ⟨L.drop a,E,0,t⟩=some r):Sg L (cO (F+1) ⟨L,a,E,⟨0,0⟩,t'⟩) r:=by
 have key:cS (F+1) ⟨L.drop a,E,0,t⟩ (plP E (L.drop a))=some r:=by
  unfold dY at h
  cases hd:L.drop a with
  |nil=>rw [hd,iN (by simp)] at h;exact h
  |cons x q=>rw [hd,iP (by simp),iP (by simp)] at h;exact h
 unfold cS at key
 unfold cO
 rw [mB,bSq]
 generalize plP E (L.drop a)=pl at key ⊢
 obtain ⟨y,hy,key⟩:=bd key
 have hs:=tK (F:=F) oM hE g (F+1) 0 0 0 a y dM dM dM dM oM ha hy
 have hs:Sp L (lg (F+1) 0 0 ⟨L,a,E,⟨0,0⟩,0⟩) y:=hs
 cases y with
 |inr f =>
  cases key
  obtain ⟨hf,x,t2,b,hb,hm⟩:=hs
  rw [hm,bSq,fq hf,bSq,iP rfl]
  exact ⟨hf,_,_,b,hb,rfl⟩
 |inl z =>
  obtain ⟨x,l,o,t2⟩:=z
  obtain ⟨b,hb,hm,hz⟩:=hs
  have hz:l=L.drop b:=hz
  subst hz
  rw [hm,bSq,cQ,bSq,iN Bool.false_ne_true]
  have key:(if t2>30 then some (.inr (7,pl)) else some (.inl (x,L.drop b,o,t2)):Option RX)=some r:=key
  show Sg L (if t2>30 then _ else _) r
  by_cases h30:t2>30
  ·rw [iP h30] at key ⊢
   cases key
   exact ⟨show (7:Int)≠0 by decide,_,_,b,hb,rfl⟩
  ·rw [iN h30] at key ⊢
   cases key
   exact ⟨b,t2,hb,rfl,rfl⟩
def SgR{β:Type}(L:List aa)(m:Option (Int×Int×Int×Int×List β)):(List β×List aa×Int×Int) ⊕ (Int×Int)→Prop
 |.inl z=>∃ (a:Nat) (t:Int),a≤L.length∧m=some ((a:Int),0,0,t,z.1)∧z.2.1=L.drop a
 |.inr f=>f.1≠0∧∃ x t,∃ b:Nat,b≤L.length∧m=some ((b:Int),f.1,f.2,t,x)
theorem tL{E:Int}{F:Nat}{s:ae}{f:Int×Int}(hf:f.1≠0)(b:Nat)(t:Int)(acc:List ag) :
  bJ (fun (x74,x75,x76,x77,l80)=>cr F s x74 x75 x76 x77 l80) ((b:Int),f.1,f.2,t,acc)=some ((b:Int),f.1,f.2,t,acc):=by
 refine a8 ?_
 show cr F s (b:Int) f.1 f.2 t acc=_
 unfold cr
 rw [qj _ _ hf,bSq,iN Bool.false_ne_true]
theorem yu{E:Int}{L:List aa}{F:Nat}{p:af}{s:ae}(hf:430≤F)(hE:0≤E)(g:dV E L)(hpe:p.end_=E)(hsl:s.l=L)(hse:s.end_=E) :
  ∀ (n d:Nat) (t t':Int) (acc:List ag) (z),(L.drop d).length=n→d≤L.length→(acc.length:Int)<30 →
   bJ (fun (l17,x18,x19,l20)=>ce (F+1) 30 p l17 x18 x19 l20) (L.drop d,0,t,acc)=some z →
   SgR L ((cO (F+1) ⟨L,d,E,⟨0,0⟩,t'⟩).bind fun y=>bJ (fun (x74,x75,x76,x77,l80)=>cr (F+1) s x74 x75 x76 x77 l80) (y.2.1,y.2.2.1,y.2.2.2.1,y.2.2.2.2,acc++lit [y.1])) z:=by
 have gl:=g.1.1
 intro n
 induction n using Nat.strongRecOn with
 |_ n ih =>
  intro d t t' acc z hn hd hlt h
  rw [ln] at h
  obtain ⟨w,hw,h⟩:=bd h
  have hw:ce (F+1) 30 p (L.drop d) 0 t acc=some w:=hw
  unfold ce at hw
  rw [hpe,iN oM] at hw
  obtain ⟨y,hy,hw2⟩:=bd hw
  clear hw
  have hs:=v7 (t':=t') hf hE g d hd hy
  have hpr:=kQ (vd (E:=E) (fuel:=F+1) oM (Int.le_refl 0) dM hE (g.drop d)) hy
  cases y with
  |inr f =>
   cases hw2
   cases h
   obtain ⟨hf,x,t2,b,hb,hm⟩:=hs
   rw [hm,bSq,tL (E:=E) hf]
   exact ⟨hf,_,_,b,hb,rfl⟩
  |inl a =>
   obtain ⟨x,l,o,t2⟩:=a
   obtain ⟨b,t3,hb,hm,hz⟩:=hs
   have hz:l=L.drop b:=hz
   subst hz
   obtain ⟨hcs,ho,_⟩:Ex (L.drop d) 0 (x,L.drop b,o,t2):=hpr
   have ho:o=0:=ho
   subst ho
   have hcl:(L.drop b).length<(L.drop d).length:=hcs.2
   simp only [Sum.elim_inl] at hw2
   have hal:(acc++lit [x]).length=acc.length+1:=by rw [List.length_append];rfl
   rw [iP (jG oM dM),nE,bSq] at hw2
   rw [hm,bSq]
   have hturn:cr (F+1) s (b:Int) 0 0 t3 (acc++lit [x])=if isB [[44]] (L.drop b)=true then (if ((acc++lit [x]).length:Int)≥30 then some (.inr (((b+1:Nat):Int),(bG E 7 (L.drop (b+1))).1,(bG E 7 (L.drop (b+1))).2,t3,acc++lit [x])) else (cO (F+1) ⟨L,((b+1:Nat):Int),E,⟨0,0⟩,t3⟩).bind fun y83=>if d9 ((acc++lit [x]).length+1) 88 then (some (.inl (y83.2.1,y83.2.2.1,y83.2.2.2.1,y83.2.2.2.2,((acc++lit [x])++(lit ([(y83.1)]:List ag)))))) else none) else some (.inr ((b:Int),0,0,t3,acc++lit [x])):=by
    unfold cr
    rw [hsl,hse,rC g b hb,bSq]
    by_cases hi:isB [[44]] (L.drop b)=true
    ·rw [iP hi,iP hi]
     by_cases h30:((acc++lit [x]).length:Int)≥30
     ·rw [iP h30,iP h30,iN Bool.false_ne_true]
     ·rw [iN h30,iN h30,iP rfl]
    ·rw [iN hi,iN hi,iN Bool.false_ne_true]
   show SgR L (bJ _ ((b:Int),0,0,t3,acc++lit [x])) z
   by_cases hi:isB [[44]] (L.drop b)=true
   ·rw [iP hi] at hw2 hturn
    obtain ⟨v,q,e1,e2,_⟩:=cL hi
    have hbl:(L.drop (b+1)).length+1=(L.drop b).length:=by rw [List.length_drop,List.length_drop];omega
    rw [iP rfl,List.drop_drop] at hw2
    cases hw2
    have h:bJ (fun (l17,x18,x19,l20)=>ce (F+1) 30 p l17 x18 x19 l20) (L.drop (b+1),0,t2,acc++lit [x])=some z:=h
    by_cases h30:((acc++lit [x]).length:Int)≥30
    ·rw [iP h30] at hturn
     rw [a8 hturn]
     rw [ln] at h
     obtain ⟨w,hw,h⟩:=bd h
     have hw:ce (F+1) 30 p (L.drop (b+1)) 0 t2 (acc++lit [x])=some w:=hw
     unfold ce at hw
     rw [hpe,iP oM,gG] at hw
     cases hw
     cases h
     exact ⟨bq dM,_,_,b+1,by omega,rfl⟩
    ·rw [iN h30] at hturn
     have ih':=ih _ oM (b+1) t2 t3 (acc++lit [x]) z rfl oM oM h
     have hgo:bJ (fun (x74,x75,x76,x77,l80)=>cr (F+1) s x74 x75 x76 x77 l80) ((b:Int),0,0,t3,acc++lit [x])=(cO (F+1) ⟨L,((b+1:Nat):Int),E,⟨0,0⟩,t3⟩).bind fun y=>bJ (fun (x74,x75,x76,x77,l80)=>cr (F+1) s x74 x75 x76 x77 l80) (y.2.1,y.2.2.1,y.2.2.2.1,y.2.2.2.2,(acc++lit [x])++lit [y.1]):=by
      rw [ln]
      show (cr (F+1) s (b:Int) 0 0 t3 (acc++lit [x])).bind _=_
      rw [hturn]
      cases cO (F+1) ⟨L,((b+1:Nat):Int),E,⟨0,0⟩,t3⟩ with
      |none=>rfl
      |some y=>rw [bSq,iP (jG oM dM)];rfl
     rw [hgo]
     exact ih'
   ·rw [iN hi] at hw2 hturn
    rw [iN Bool.false_ne_true] at hw2
    cases hw2
    cases h
    rw [a8 hturn]
    exact ⟨b,t3,hb,rfl,rfl⟩
theorem uw{E o t t' m:Int}{L:List aa}{rb:Int×Int×Int×List (List UInt8)→Option ((Int×Int×Int×List (List UInt8)) ⊕ (Int×Int×Int×List (List UInt8)))}(hm:0<m)(hE:0≤E)(g:dV E L)(a:Nat)(ha:a≤L.length){r:(List (List UInt8)×List aa) ⊕ (Int×Int)}(h:dO m ⟨L.drop a,E,o,t⟩=some r)
  (hr:∀ b c f acc,rb (b,c,f,acc)=(cq (acc.length:Int) m ⟨L,b,E,⟨c,f⟩,t'⟩).bind fun y=>if y.1=true then (aT ⟨L,y.2.1,E,⟨y.2.2.1,y.2.2.2⟩,t'⟩).bind fun z=>if d9 (acc.length+1) 16 then some (.inl (z.2.1,z.2.2.1,z.2.2.2,acc++lit [z.1])) else none else some (.inr (y.2.1,y.2.2.1,y.2.2.2,acc))) :
  SmR L ((aT ⟨L,a,E,⟨0,0⟩,t'⟩).bind fun y=>bJ rb (y.2.1,y.2.2.1,y.2.2.2,lit [y.1])) r:=by
 unfold dO at h
 obtain ⟨z,hz,h⟩:=bd h
 cases h
 exact ve (E:=E) (t':=t') (most:=m) (rm:=16) g dM (pe:=fun l=>bf ⟨l,E,o,t⟩) (re:=aT) (rb:=rb) (rF (L:=L.drop a)) hr
  (fun d r hd h=>mY g d hd h) (fun d z hd h=>(kQ (nn hE (g.drop d)) h).2) _ a [] r rfl ha (by simpa using hm) (by rw [List.length_drop];simp;omega) hz
theorem yv{E o t t' m:Int}{L:List aa}{rb:Int×Int×Int×List (List aj)→Option ((Int×Int×Int×List (List aj)) ⊕ (Int×Int×Int×List (List aj)))}(hm:0<m)(hE:0≤E)(g:dV E L)(a:Nat)(ha:a≤L.length){r:(List (List aj)×List aa) ⊕ (Int×Int)}(h:f8 m ⟨L.drop a,E,o,t⟩=some r)
  (hr:∀ b c f acc,rb (b,c,f,acc)=(cq (acc.length:Int) m ⟨L,b,E,⟨c,f⟩,t'⟩).bind fun y=>if y.1=true then (cg ⟨L,y.2.1,E,⟨y.2.2.1,y.2.2.2⟩,t'⟩).bind fun z=>if d9 (acc.length+1) 24 then some (.inl (z.2.1,z.2.2.1,z.2.2.2,acc++lit [z.1])) else none else some (.inr (y.2.1,y.2.2.1,y.2.2.2,acc))) :
  SmR L ((cg ⟨L,a,E,⟨0,0⟩,t'⟩).bind fun y=>bJ rb (y.2.1,y.2.2.1,y.2.2.2,lit [y.1])) r:=by
 unfold f8 at h
 obtain ⟨z,hz,h⟩:=bd h
 cases h
 exact ve (E:=E) (t':=t') (most:=m) (rm:=24) g dM (pe:=fun l=>cZ ⟨l,E,o,t⟩) (re:=cg) (rb:=rb) (wU (L:=L.drop a)) hr
  (fun d r hd h=>tE hE g d hd h) (fun d z hd h=>(kQ (rz hE (g.drop d)) h).1.2) _ a [] r rfl ha (by simpa using hm) (by rw [List.length_drop];simp;omega) hz
theorem rR{p1:ae}{y1 x33:Int}{l8:List (List UInt8)}{y15:List UInt8×Int×Int×Int}{l23:List (List aj)}{l36:List ag}{f:Int×Int}(hf:f.1≠0)(b:Nat):Fp b f (cP p1 y1 l8 y15 l23 (b:Int) f.1 f.2 x33 l36):=by
 unfold cP
 rw [dU _ hf]
 exact ⟨_,_,rfl⟩
theorem rS{F:Nat}{p1:ae}{y1:Int}{l8:List (List UInt8)}{y15:List UInt8×Int×Int×Int}{l23:List (List aj)}{f:Int×Int}(hf:f.1≠0)(b:Nat):Fp b f (dm F p1 y1 l8 y15 (b:Int) f.1 f.2 l23):=by
 unfold dm
 rw [dU _ hf,bSq,fq hf,bSq,iP rfl]
 exact rR hf b
theorem rT{F:Nat}{p1:ae}{y1:Int}{l8:List (List UInt8)}{f:Int×Int}(hf:f.1≠0)(b:Nat):Fp b f (fj F p1 y1 (b:Int) f.1 f.2 l8):=by
 unfold fj
 rw [dU _ hf,bSq,fq hf,bSq,iP rfl]
 exact ⟨_,_,rfl⟩
theorem BZ{E t:Int}{F:Nat}{L:List aa}{f:Int×Int}(hf:f.1≠0)(b:Nat):Fp b f (fL F ⟨L,b,E,⟨f.1,f.2⟩,t⟩):=by
 unfold fL
 rw [mB,bSq,rB hf,bSq]
 simp only
 rw [a8 (o:=((b:Int),f.1,f.2,lit [[]])) (by
  show dp ⟨L,b,E,⟨f.1,f.2⟩,t⟩ (b:Int) f.1 f.2 (lit [[]])=_
  unfold dp
  rw [qj _ _ hf,bSq,iN Bool.false_ne_true])]
 exact rT hf b
theorem ux{E t t' x30 y1 o:Int}{a:Nat}{L:List aa}{s:ae}{y4:List (List UInt8)×List aa}{y19:List UInt8×List aa}{l8:List (List UInt8)}{y15:List UInt8×Int×Int×Int}{l22:List (List aj)}{l31:List ag}{pl:List aa}(g:dV E L)(hsl:s.l=L)(hse:s.end_=E)(hat:(pl.getD 0 default).at_=y1)(h8:y4.1=l8)(h15:y19.1=y15.1)
  (b:Nat) (hb:b≤L.length) {r:(TEq×List aa×Int×Int) ⊕ (Int×Int)} (h:dD ⟨pl,E,o,t⟩ y4 y19 l22 (L.drop b) 0 x30 l31=some r):Sg L (cP s y1 l8 y15 l22 (b:Int) 0 0 t' l31) r:=by
 unfold dD at h
 unfold cP
 rw [iT,bSq] at h
 rw [hsl,hse,hP _ g (by intro c r h;cases h;decide) b hb,bSq]
 by_cases hi:isB [[41]] (L.drop b)=true
 ·rw [iP hi] at h ⊢
  obtain ⟨v,q,e1,e2,_⟩:=cL hi
  rw [List.drop_drop] at h
  cases h
  exact ⟨b+1,t',by omega,by rw [← h8,← h15,← hat],rfl⟩
 ·rw [iN hi] at h ⊢
  cases h
  exact ⟨bq dM,_,_,b,hb,rfl⟩
theorem uy{E t y1:Int}{F:Nat}{L:List aa}{s:ae}{y4:List (List UInt8)×List aa}{y19:List UInt8×List aa}{l8:List (List UInt8)}{y15:List UInt8×Int×Int×Int}{l22:List (List aj)}{pl:List aa}(hf:430≤F)(hE:0≤E)(g:dV E L)(hsl:s.l=L)(hse:s.end_=E)(hat:(pl.getD 0 default).at_=y1)(h8:y4.1=l8)(h15:y19.1=y15.1)
  (b:Nat) (hb:b≤L.length) {r:(TEq×List aa×Int×Int) ⊕ (Int×Int)} (h:dE (F+1) ⟨pl,E,0,t⟩ y4 y19 (L.drop b) l22=some r):Sg L (dm (F+1) s y1 l8 y15 (b:Int) 0 0 l22) r:=by
 unfold dE at h
 unfold dm
 rw [iT,bSq] at h
 rw [hsl,hse,hP _ g (by intro c r h;cases h;decide) b hb,bSq]
 by_cases hi:isB [[40]] (L.drop b)=true
 ·rw [iP hi] at h ⊢
  obtain ⟨v,q,e1,e2,_⟩:=cL hi
  rw [List.drop_drop] at h
  simp only [Sum.elim_inl] at h
  rw [iH _ _ _ _ _ (by simp [lit]),bSq] at h
  simp only
  rw [cQ,bSq,iN dM,gR _ g (by intro c r h;cases h;decide) (b+1),bSq]
  by_cases hj:isB [[41]] (L.drop (b+1))=true
  ·rw [iP (show isB (lit [[41]]) (L.drop (b+1))=true from hj)] at h
   rw [iP hj]
   exact ux (a:=0) g hsl hse hat h8 h15 (b+1) oM h
  ·rw [iN (show ¬ isB (lit [[41]]) (L.drop (b+1))=true from hj)] at h
   rw [iN hj]
   obtain ⟨y,hy,h⟩:=bd h
   have hyo:=hy
   unfold gT at hy
   obtain ⟨z,hz,hy⟩:=bd hy
   cases hy
   have hrow:=yu (p:=⟨L.drop (b+1),E,0,t⟩) (s:=s) hf hE g rfl hsl hse _ (b+1) t s.parts [] y rfl oM dM hz
   have hgo:((cO (F+1) ⟨L,((b+1:Nat):Int),E,⟨0,0⟩,s.parts⟩).bind fun y41=>(bJ (fun (x74,x75,x76,x77,l80)=>cr (F+1) s x74 x75 x76 x77 l80) (y41.2.1,y41.2.2.1,y41.2.2.2.1,y41.2.2.2.2,(lit ([(y41.1)]:List ag)))).bind (fun (z84,z85,z86,z87,z88)=>cP s y1 l8 y15 l22 z84 z85 z86 z87 z88)) =
     ((cO (F+1) ⟨L,((b+1:Nat):Int),E,⟨0,0⟩,s.parts⟩).bind fun y=>bJ (fun (x74,x75,x76,x77,l80)=>cr (F+1) s x74 x75 x76 x77 l80) (y.2.1,y.2.2.1,y.2.2.2.1,y.2.2.2.2,[]++lit [y.1])).bind (fun (z84,z85,z86,z87,z88)=>cP s y1 l8 y15 l22 z84 z85 z86 z87 z88):=by
    cases cO (F+1) ⟨L,((b+1:Nat):Int),E,⟨0,0⟩,s.parts⟩<;>rfl
   refine (congrArg (fun m=>Sg L m r) hgo).mpr ?_
   cases y with
   |inr f =>
    cases h
    obtain ⟨hf,l,t2,b2,hb2,hm⟩:=hrow
    rw [hm]
    obtain ⟨x,t3,hx⟩:=rR (p1:=s) (y1:=y1) (l8:=l8) (y15:=y15) (l23:=l22) (x33:=t2) (l36:=l) hf b2
    exact ⟨hf,x,t3,b2,hb2,hx⟩
   |inl z =>
    obtain ⟨l,lst,o,t2⟩:=z
    obtain ⟨b2,t3,hb2,hm,hz2⟩:=hrow
    have hz2:lst=L.drop b2:=hz2
    subst hz2
    rw [hm]
    have ho:o=0:=(kQ (o7 (E:=E) (fuel:=F+1) 30 oM (Int.le_refl 0) dM hE (g.drop (b+1))) hyo).2.1
    subst ho
    exact ux (a:=0) g hsl hse hat h8 h15 b2 hb2 h
 ·rw [iN hi] at h ⊢
  cases h
  have hff:=bq (E:=E) (c:=4) (l:=L.drop b) dM
  simp only
  rw [fq hff,bSq,iP rfl]
  obtain ⟨x,t3,hx⟩:=rR (p1:=s) (y1:=y1) (l8:=l8) (y15:=y15) (l23:=l22) (x33:=s.parts) (l36:=[]) hff b
  exact ⟨hff,x,t3,b,hb,hx⟩
theorem yw{F:Nat}{p1:ae}{y1:Int}{l8:List (List UInt8)}{y15:List UInt8×Int×Int×Int}{l:List (List aj)}{f:Int×Int}(hf:f.1≠0)(b:Nat):Fp b f (eI F p1 y1 l8 y15 (b:Int) f.1 f.2 l):=by
 unfold eI
 rw [dU _ hf]
 exact rS hf b
theorem yx{E t y1:Int}{F:Nat}{L:List aa}{s:ae}{y4:List (List UInt8)×List aa}{l8:List (List UInt8)}{pl:List aa}(hf:430≤F)(hE:0≤E)(g:dV E L)(hsl:s.l=L)(hse:s.end_=E)(hat:(pl.getD 0 default).at_=y1)(h8:y4.1=l8)
  (b:Nat) (hb:b≤L.length) {r:(TEq×List aa×Int×Int) ⊕ (Int×Int)} (h:c7 (F+1) ⟨pl,E,0,t⟩ y4 (L.drop b)=some r):Sg L (gq (F+1) s y1 l8 ((b:Int),0,0)) r:=by
 have gl:=g.1.1
 unfold c7 at h
 unfold gq
 rw [iT,bSq] at h
 rw [hsl,hse,hP _ g (by intro c r h;cases h;decide) b hb,bSq]
 have hnb:∀ (f:Int×Int) (b:Nat) (n:List UInt8),f.1≠0→Fp b f ((aI ⟨L,(b:Int),E,⟨f.1,f.2⟩,s.parts⟩).bind fun y89=>if y89=true then (dm (F+1) s y1 l8 (n,(b:Int),f.1,f.2) (b:Int) f.1 f.2 []) else ((bj ([60]:List UInt8) ⟨L,(b:Int),E,⟨f.1,f.2⟩,s.parts⟩).bind fun y90=>if y90=true then ((cg ⟨L,(IntKind.wrap .i64 ((b:Int)+1)),E,⟨f.1,f.2⟩,s.parts⟩).bind fun y91=>(bJ (fun (x125,x126,x127,l129)=>fh s x125 x126 x127 l129) (y91.2.1,y91.2.2.1,y91.2.2.2,(lit ([y91.1]:List (List aj))))).bind (fun (z133,z134,z135,z136)=>eI (F+1) s y1 l8 (n,(b:Int),f.1,f.2) z133 z134 z135 z136)) else (dm (F+1) s y1 l8 (n,(b:Int),f.1,f.2) (b:Int) f.1 f.2 []))):=by
  intro f b n hf
  rw [fq hf,bSq,iP rfl]
  exact rS hf b
 by_cases hi:isB [[99,97,108,108]] (L.drop b)=true
 ·rw [iP hi] at h ⊢
  obtain ⟨v,q,e1,e2,_⟩:=cL hi
  rw [List.drop_drop] at h
  simp only [Sum.elim_inl] at h
  obtain ⟨y,hy,h⟩:=bd h
  have hn:=mY (t':=s.parts) g (b+1) oM hy
  simp only
  cases y with
  |inr f =>
   cases h
   obtain ⟨hf,n,b2,hb2,hm⟩:=hn
   rw [hm,bSq]
   obtain ⟨x,t3,hx⟩:=hnb f b2 n hf
   exact ⟨hf,x,t3,b2,hb2,hx⟩
  |inl z =>
   obtain ⟨n,lst⟩:=z
   obtain ⟨b2,hb2,hm,hz⟩:=hn
   have hz:lst=L.drop b2:=hz
   subst hz
   rw [hm,bSq]
   simp only [Sum.elim_inl] at h
   rw [nE,bSq] at h
   simp only
   rw [cQ,bSq,iN dM,gR _ g (by intro c r h;cases h;decide) b2,bSq]
   by_cases hj:isB [[60]] (L.drop b2)=true
   ·rw [iP hj] at h ⊢
    obtain ⟨v,q,e1,e2,_⟩:=cL hj
    rw [iP rfl,List.drop_drop] at h
    rw [wrs b2 oM]
    obtain ⟨y,hy,h⟩:=bd h
    have hs:=yv (t':=s.parts) (rb:=fun (x125,x126,x127,l129)=>fh s x125 x126 x127 l129) dM hE g (b2+1) oM hy (fun b c f acc=>by
     show fh s b c f acc=_
     unfold fh
     rw [hsl,hse])
    have hgo:∀ K:Int×Int×Int×List (List aj)→Option (TEq×Int×Int×Int×Int),((cg ⟨L,((b2+1:Nat):Int),E,⟨0,0⟩,s.parts⟩).bind fun y91=>(bJ (fun (x125,x126,x127,l129)=>fh s x125 x126 x127 l129) (y91.2.1,y91.2.2.1,y91.2.2.2,(lit ([y91.1]:List (List aj))))).bind K) =
      ((cg ⟨L,((b2+1:Nat):Int),E,⟨0,0⟩,s.parts⟩).bind fun y=>bJ (fun (x125,x126,x127,l129)=>fh s x125 x126 x127 l129) (y.2.1,y.2.2.1,y.2.2.2,lit [y.1])).bind K:=by
     intro K
     cases cg ⟨L,((b2+1:Nat):Int),E,⟨0,0⟩,s.parts⟩<;>rfl
    rw [hgo]
    cases y with
    |inr f =>
     cases h
     obtain ⟨hf,l,b3,hb3,hm⟩:=hs
     rw [hm]
     obtain ⟨x,t3,hx⟩:=yw (F:=F+1) (p1:=s) (y1:=y1) (l8:=l8) (y15:=(n,(b2:Int),0,0)) (l:=l) hf b3
     exact ⟨hf,x,t3,b3,hb3,hx⟩
    |inl z =>
     obtain ⟨l,lst⟩:=z
     obtain ⟨b3,hb3,hm,hz⟩:=hs
     have hz:lst=L.drop b3:=hz
     subst hz
     rw [hm]
     simp only [Sum.elim_inl] at h
     rw [iT,bSq] at h
     show Sg L (eI (F+1) s y1 l8 (n,(b2:Int),0,0) (b3:Int) 0 0 l) r
     unfold eI
     rw [hsl,hse,hP _ g (by intro c r h;cases h;decide) b3 hb3,bSq]
     by_cases hk:isB [[62]] (L.drop b3)=true
     ·rw [iP hk] at h ⊢
      obtain ⟨v,q,e1,e2,_⟩:=cL hk
      rw [List.drop_drop] at h
      exact uy hf hE g hsl hse hat h8 rfl (b3+1) oM h
     ·rw [iN hk] at h ⊢
      cases h
      have hff:=bq (E:=E) (c:=4) (l:=L.drop b3) dM
      obtain ⟨x,t3,hx⟩:=rS (F:=F+1) (p1:=s) (y1:=y1) (l8:=l8) (y15:=(n,(b2:Int),0,0)) (l23:=l) hff b3
      exact ⟨hff,x,t3,b3,hb3,hx⟩
   ·rw [iN hj] at h ⊢
    rw [iN Bool.false_ne_true] at h
    exact uy hf hE g hsl hse hat h8 rfl b2 hb2 h
 ·rw [iN hi] at h ⊢
  cases h
  have hff:=bq (E:=E) (c:=4) (l:=L.drop b) dM
  simp only
  rw [rB hff,bSq]
  obtain ⟨x,t3,hx⟩:=hnb (bG E 4 (L.drop b)) b [] hff
  exact ⟨hff,x,t3,b,hb,hx⟩
theorem B0{E t t':Int}{F:Nat}{L:List aa}(hf:430≤F)(hE:0≤E)(g:dV E L)(a:Nat)(ha:a≤L.length){r:(TEq×List aa×Int×Int) ⊕ (Int×Int)}
  (h:eH (F+1) ⟨L.drop a,E,0,t⟩=some r):Sg L (fL (F+1) ⟨L,a,E,⟨0,0⟩,t'⟩) r:=by
 have gl:=g.1.1
 unfold eH at h
 unfold fL
 rw [mB,bSq]
 by_cases hne:0<((L.drop a).length:Int)
 ·rw [iP ⟨by decide,hne⟩] at h
  have hat:((L.drop a).getD 0 default).at_=plP E (L.drop a):=by
   cases hd:L.drop a with
   |nil=>rw [hd] at hne;exact absurd hne dM
   |cons x q=>rfl
  obtain ⟨y,hy,h⟩:=bd h
  have hs:=uw (t':=t') (rb:=fun (x155,x156,x157,l158)=>dp ⟨L,a,E,⟨0,0⟩,t'⟩ x155 x156 x157 l158) dM hE g a ha hy (fun b c f acc=>by
   show dp ⟨L,a,E,⟨0,0⟩,t'⟩ b c f acc=_
   unfold dp
   rfl)
  have hgo:∀ K:Int×Int×Int×List (List UInt8)→Option (TEq×Int×Int×Int×Int),((aT ⟨L,a,E,⟨0,0⟩,t'⟩).bind fun y91=>(bJ (fun (x155,x156,x157,l158)=>dp ⟨L,a,E,⟨0,0⟩,t'⟩ x155 x156 x157 l158) (y91.2.1,y91.2.2.1,y91.2.2.2,(lit ([y91.1]:List (List UInt8))))).bind K) =
    ((aT ⟨L,a,E,⟨0,0⟩,t'⟩).bind fun y=>bJ (fun (x155,x156,x157,l158)=>dp ⟨L,a,E,⟨0,0⟩,t'⟩ x155 x156 x157 l158) (y.2.1,y.2.2.1,y.2.2.2,lit [y.1])).bind K:=by
   intro K
   cases aT ⟨L,a,E,⟨0,0⟩,t'⟩<;>rfl
  rw [hgo]
  cases y with
  |inr f =>
   cases h
   obtain ⟨hf,l,b3,hb3,hm⟩:=hs
   rw [hm]
   obtain ⟨x,t3,hx⟩:=rT (F:=F+1) (p1:=⟨L,a,E,⟨0,0⟩,t'⟩) (y1:=plP E (L.drop a)) (l8:=l) hf b3
   exact ⟨hf,x,t3,b3,hb3,hx⟩
  |inl z =>
   obtain ⟨l,lst⟩:=z
   obtain ⟨b,hb,hm,hz⟩:=hs
   have hz:lst=L.drop b:=hz
   subst hz
   rw [hm]
   show Sg L (fj (F+1) ⟨L,a,E,⟨0,0⟩,t'⟩ (plP E (L.drop a)) (b:Int) 0 0 l) r
   unfold fj
   simp only [Sum.elim_inl] at h
   rw [iT,bSq] at h
   rw [hP _ g (by intro c r h;cases h;decide) b hb,bSq]
   by_cases hi:isB [[61]] (L.drop b)=true
   ·rw [iP hi] at h ⊢
    obtain ⟨v,q,e1,e2,_⟩:=cL hi
    rw [List.drop_drop] at h
    simp only [Sum.elim_inl] at h
    simp only
    rw [cQ,bSq,iN dM,gR _ g (by intro c r h;cases h;decide) (b+1),bSq]
    have hcall:∀ (hcc:c7 (F+1) ⟨L.drop a,E,0,t⟩ (l,L.drop b) (L.drop (b+1))=some r),Sg L (gq (F+1) ⟨L,a,E,⟨0,0⟩,t'⟩ (plP E (L.drop a)) l (((b+1:Nat):Int),0,0)) r :=
     fun hcc=>yx (s:=⟨L,a,E,⟨0,0⟩,t'⟩) (y4:=(l,L.drop b)) (pl:=L.drop a) (l8:=l) hf hE g rfl rfl hat rfl (b+1) oM hcc
    by_cases h1:(l.length:Int)=1
    ·rw [iP h1,iH _ _ _ _ _ (by simp [lit]),bSq] at h
     by_cases hj:isB [[99,97,108,108]] (L.drop (b+1))=true
     ·rw [iP (show isB (lit [[99,97,108,108]]) (L.drop (b+1))=true from hj)] at h
      rw [iP hj]
      exact hcall h
     ·rw [iN (show ¬ isB (lit [[99,97,108,108]]) (L.drop (b+1))=true from hj)] at h
      rw [iN hj,iP h1]
      obtain ⟨y,hy,h⟩:=bd h
      have hx:=v7 (t':=t') hf hE g (b+1) oM hy
      cases y with
      |inr f =>
       cases h
       obtain ⟨hf,x,t2,b2,hb2,hm⟩:=hx
       rw [hm,bSq]
       exact ⟨hf,_,_,b2,hb2,rfl⟩
      |inl z =>
       cases h
       obtain ⟨b2,t2,hb2,hm,hz⟩:=hx
       rw [hm,bSq,← hat]
       exact ⟨b2,t2,hb2,rfl,hz⟩
    ·rw [iN h1] at h
     rw [iN h1,ite_self]
     exact hcall h
   ·rw [iN hi] at h ⊢
    cases h
    have hff:=bq (E:=E) (c:=4) (l:=L.drop b) dM
    simp only
    rw [fq hff,bSq,iP rfl]
    exact ⟨hff,_,_,b,hb,rfl⟩
 ·rw [iN (fun h=>hne h.2)] at h
  cases h
def zP(E:Int):List (List UInt8)→List aa→List aa ⊕ (Int×Int)
 |[],l=>.inl l
 |w :: W,l=>if isB [w] l=true then zP E W (l.drop 1) else .inr (bG E 4 l)
theorem uz{E o t:Int}{W:List (List UInt8)}{p:af}(hW:W.length≤1000)(hp:p=⟨p.l,E,o,t⟩):∀ (n k:Nat) (l:List aa),k+n=W.length →
  bJ (fun (l5,x6)=>bt W p l5 x6) (l,(k:Int))=some (zP E (W.drop k) l)
 |0,k,l,h=>by
  rw [List.drop_of_length_le oM]
  refine a8 ?_
  show bt W p l (k:Int)=_
  unfold bt
  rw [iN oM];rfl
 |n+1,k,l,h=>by
  have hk:k<W.length:=by omega
  have hd:W.drop k=W.getD k default :: W.drop (k+1):=by rw [List.drop_eq_getElem_cons hk,List.getD_eq_getElem?_getD,List.getElem?_eq_getElem hk];rfl
  rw [ln,hd]
  have e:bt W p l (k:Int)=if isB [W.getD k default] l=true then some (.inl (l.drop 1,((k+1:Nat):Int))) else some (.inr (.inr (bG E 4 l))):=by
   unfold bt
   rw [iP (ltI hk),iP (inI hk),tN,hp]
   simp only
   rw [iH _ _ _ _ _ (by simp [lit]),bSq]
   by_cases hi:isB [W.getD k default] l=true
   ·rw [iP (show isB (lit [W.getD k default]) l=true from hi),iP hi]
    obtain ⟨x,r,rfl,_⟩:=jS hi
    rw [hO,bSq,wrs k oM];rfl
   ·rw [iN (show ¬ isB (lit [W.getD k default]) l=true from hi),iN hi,gG];rfl
  show (bt W p l (k:Int)).bind _=_
  rw [e]
  by_cases hi:isB [W.getD k default] l=true
  ·rw [iP hi,bSq]
   show bJ _ (l.drop 1,((k+1:Nat):Int))=_
   rw [uz hW hp n (k+1) (l.drop 1) oM]
   show _=some (if isB [W.getD k default] l=true then _ else _)
   rw [iP hi]
  ·rw [iN hi,bSq]
   show (some (.inr (bG E 4 l)):Option (List aa ⊕ (Int×Int)))=some (if isB [W.getD k default] l=true then _ else _)
   rw [iN hi]
theorem wa{E o t:Int}{W:List (List UInt8)}{l:List aa}(hW:W.length≤1000):aA W ⟨l,E,o,t⟩=some (zP E W l):=by
 unfold aA
 have:=uz (E:=E) (o:=o) (t:=t) (W:=W) (p:=⟨l,E,o,t⟩) hW rfl W.length 0 l oM
 rw [show ((0:Nat):Int)=0 from rfl] at this
 rw [this];rfl
abbrev NS:=Int×Int×Int×Int×List az×List TEq
theorem nq{p1:ae}{y1 x37:Int}{y3:List UInt8×Int×Int×Int}{l9:List (List UInt8)}{l16 l25 l39:List az}{l41:List TEq}{f:Int×Int}(hf:f.1≠0)(b:Nat):Fp b f (bB p1 y1 y3 l9 l16 l25 (b:Int) f.1 f.2 x37 l39 l41):=by
 unfold bB
 rw [dU _ hf]
 exact ⟨_,_,rfl⟩
theorem nr{F:Nat}{p1:ae}{t:Int}{l84:List az}{l86:List TEq}{f:Int×Int}(hf:f.1≠0)(b:Nat) :
  bJ (fun (x79,x80,x81,x82,l84,l86)=>aW F p1 x79 x80 x81 x82 l84 l86) ((b:Int),f.1,f.2,t,l84,l86)=some ((b:Int),f.1,f.2,t,l84,l86):=by
 refine a8 ?_
 show aW F p1 (b:Int) f.1 f.2 t l84 l86=_
 unfold aW
 rw [fq hf,bSq,iP rfl]
theorem l3{p1:ae}{t:Int}{l84:List az}{l86:List TEq}{f:Int×Int}(hf:f.1≠0)(b:Nat):bO p1 (b:Int) f.1 f.2 t l84 l86=some (.inl ((b:Int),f.1,f.2,t,l84,l86)):=by
 unfold bO
 rw [dU _ hf];rfl
theorem wW{E t:Int}{L:List aa}{p1:ae}{l84:List az}{l86:List TEq}(g:dV E L)(hsl:p1.l=L)(hse:p1.end_=E)(b:Nat)(hb:b≤L.length):bO p1 (b:Int) 0 0 t l84 l86 =
  if isB [[59]] (L.drop b)=true then some (.inl (((b+1:Nat):Int),0,0,t,l84,l86)) else some (.inl ((b:Int),(bG E 4 (L.drop b)).1,(bG E 4 (L.drop b)).2,t,l84,l86)):=by
 unfold bO
 rw [hsl,hse,hP _ g (by intro c r h;cases h;decide) b hb,bSq]
 by_cases hi:isB [[59]] (L.drop b)=true
 ·rw [iP hi,iP hi]
 ·rw [iN hi,iN hi]
theorem lJ{F:Nat}{L:List aa}{p1:ae}{y1:Int}{y3:List UInt8×Int×Int×Int}{l9:List (List UInt8)}{l16 l25:List az}{s':NS}{f:Int×Int}{t:Int}{l84:List az}{l86:List TEq}(hf:f.1≠0)(b:Nat)(hb:b≤L.length)
  (hq:(fun (x79,x80,x81,x82,l84,l86)=>aW F p1 x79 x80 x81 x82 l84 l86) s'=some (.inl ((b:Int),f.1,f.2,t,l84,l86))) :
  Sg L ((bJ (fun (x79,x80,x81,x82,l84,l86)=>aW F p1 x79 x80 x81 x82 l84 l86) s').bind (fun (z126,z127,z128,z129,z130,z131)=>bB p1 y1 y3 l9 l16 l25 z126 z127 z128 z129 z130 z131)) (.inr f):=by
 rw [dZ hq,nr hf]
 obtain ⟨x,t3,hx⟩:=nq (p1:=p1) (y1:=y1) (x37:=t) (y3:=y3) (l9:=l9) (l16:=l16) (l25:=l25) (l39:=l84) (l41:=l86) hf b
 exact ⟨hf,x,t3,b,hb,hx⟩
theorem B1{E t:Int}{F:Nat}{L:List aa}(g:dV E L)(a:Nat)(ha:a≤L.length)(hd:L.drop a=[]):Fp a (bG E 4 []) (fL F ⟨L,a,E,⟨0,0⟩,t⟩):=by
 have hff:=bq (E:=E) (c:=4) (l:=[]) dM
 have hn:aT ⟨L,a,E,⟨0,0⟩,t⟩=some ([],(a:Int),(bG E 4 []).1,(bG E 4 []).2):=by
  have:L.length≤a:=by simpa using hd
  unfold aT fH
  rw [cQ,bSq,iN dM,iP (show (a:Int)≥(L.length:Int) by omega),iy,hd];rfl
 unfold fL
 rw [mB,bSq,hn,bSq]
 simp only
 rw [a8 (o:=((a:Int),(bG E 4 []).1,(bG E 4 []).2,lit [[]])) (by
  show dp ⟨L,a,E,⟨0,0⟩,t⟩ (a:Int) (bG E 4 []).1 (bG E 4 []).2 (lit [[]])=_
  unfold dp
  rw [qj _ _ hff,bSq,iN Bool.false_ne_true])]
 exact rT (F:=F) hff a
theorem ub{E t:Int}{F:Nat}{L:List aa}{p1:ae}{l84:List az}{l86:List TEq}(g:dV E L)(hsl:p1.l=L)(hse:p1.end_=E)(d:Nat)(hd:d≤L.length)(h1:¬ isB [[125]] (L.drop d)=true)(h2:isB [[118,97,114]] (L.drop d)=true)(hl:l84.length≤1000){m:Option (az×Int×Int×Int)}
  (hm:cx ⟨L,((d+1:Nat):Int),E,if (l84.length:Int)≥30 then ⟨(bG E 7 (L.drop (d+1))).1,(bG E 7 (L.drop (d+1))).2⟩ else ⟨0,0⟩,t⟩=m) :
  aW F p1 (d:Int) 0 0 t l84 l86=m.bind fun y=>bO p1 y.2.1 y.2.2.1 y.2.2.2 t (l84++lit [y.1]) l86:=by
 obtain ⟨sl,sa,se,sf,sp⟩:=p1
 cases hsl
 cases hse
 have gl:sl.length≤9000000:=g.1.1
 have hd:d≤sl.length:=hd
 have key:∀ f:ai,cx ⟨sl,((d+1:Nat):Int),se,f,t⟩=m→gj ⟨sl,sa,se,sf,sp⟩ (d:Int) t l84 l86 f.code f.at_=m.bind fun y=>bO ⟨sl,sa,se,sf,sp⟩ y.2.1 y.2.2.1 y.2.2.2 t (l84++lit [y.1]) l86:=by
  intro f hm
  unfold gj
  simp only
  rw [wrs d oM,hm]
  congr 1
  funext y
  rw [iP (jG oM dM)]
 unfold aW
 rw [cQ,bSq,iN dM,gR _ g (by intro c r h;cases h;decide) d,bSq,iN h1,gR _ g (by intro c r h;cases h;decide) d,bSq,iP h2]
 by_cases h30:(l84.length:Int)≥30
 ·rw [iP h30] at hm ⊢
  simp only
  rw [wrs d oM,iy,bSq]
  exact key ⟨(bG se 7 (sl.drop (d+1))).1,(bG se 7 (sl.drop (d+1))).2⟩ hm
 ·rw [iN h30] at hm ⊢
  exact key ⟨0,0⟩ hm
def nmB:List aa→Bool
 |x :: _=>decide (x.kind=2)
 |[]=>false
theorem vg{E t:Int}{F:Nat}{L:List aa}{p1:ae}{l84:List az}{l86:List TEq}(g:dV E L)(hsl:p1.l=L)(hse:p1.end_=E)(d:Nat)(hd:d≤L.length)(h1:¬ isB [[125]] (L.drop d)=true)(h2:¬ isB [[118,97,114]] (L.drop d)=true)(hl:l86.length≤1000){m:Option (TEq×Int×Int×Int×Int)}
  (hm:fL F ⟨L,(d:Int),E,if nmB (L.drop d)=true∧(l86.length:Int)≥60 then ⟨(bG E 7 (L.drop d)).1,(bG E 7 (L.drop d)).2⟩ else ⟨0,0⟩,t⟩=m) :
  aW F p1 (d:Int) 0 0 t l84 l86=m.bind fun y=>bO p1 y.2.1 y.2.2.1 y.2.2.2.1 y.2.2.2.2 l84 (l86++lit [y.1]):=by
 obtain ⟨sl,sa,se,sf,sp⟩:=p1
 cases hsl
 cases hse
 have gl:sl.length≤9000000:=g.1.1
 have hd:d≤sl.length:=hd
 have key:∀ f:ai,fL F ⟨sl,(d:Int),se,f,t⟩=m→ew F ⟨sl,sa,se,sf,sp⟩ (d:Int) t l84 l86 f.code f.at_=m.bind fun y=>bO ⟨sl,sa,se,sf,sp⟩ y.2.1 y.2.2.1 y.2.2.2.1 y.2.2.2.2 l84 (l86++lit [y.1]):=by
  intro f hm
  unfold ew
  simp only
  rw [hm]
  congr 1
  funext y
  rw [iP (jG oM dM)]
 unfold aW
 rw [cQ,bSq,iN dM,gR _ g (by intro c r h;cases h;decide) d,bSq,iN h1,gR _ g (by intro c r h;cases h;decide) d,bSq,iN h2]
 cases hdd:sl.drop d with
 |nil =>
  have:sl.length≤d:=by simpa using hdd
  rw [iN (show ¬ (d:Int)<(sl.length:Int) by omega)]
  rw [iN (by rw [hdd];exact fun h=>nomatch h.1)] at hm
  exact key ⟨0,0⟩ hm
 |cons x q =>
  obtain ⟨k1,k2,k3⟩:=o8 hdd
  rw [iP (show (d:Int)<(sl.length:Int) by omega),iP (show 0≤(d:Int)∧(d:Int)<(sl.length:Int) by omega)]
  simp only [tN,k2]
  by_cases hk:x.kind=2
  ·rw [iP hk]
   by_cases h60:(l86.length:Int)≥60
   ·rw [iP ⟨by rw [hdd];exact dT hk,h60⟩] at hm
    rw [iP h60,iy,bSq]
    exact key ⟨(bG se 7 (sl.drop d)).1,(bG se 7 (sl.drop d)).2⟩ hm
   ·rw [iN (fun h=>h60 h.2)] at hm
    rw [iN h60]
    exact key ⟨0,0⟩ hm
  ·rw [iN (by rw [hdd];exact fun h=>hk (of_decide_eq_true h.1))] at hm
   rw [iN hk]
   exact key ⟨0,0⟩ hm
theorem yy{E t y1:Int}{F:Nat}{L pl:List aa}{s:ae}{y5:List UInt8×List aa}{y3:List UInt8×Int×Int×Int}{l8:List (List UInt8)}{l15:List az}{y24:List az×List aa}(hf:430≤F)(hE:0≤E)(g:dV E L)(hsl:s.l=L)(hse:s.end_=E)(hat:(pl.getD 0 default).at_=y1)(h3:y5.1=y3.1)
  (b:Nat) (hb:b≤L.length) {z:(List aa×Int×Int×List az×List TEq) ⊕ ((bx×List aa×Int×Int) ⊕ (Int×Int))} {r:(bx×List aa×Int×Int) ⊕ (Int×Int)}
  (hz:bJ (fun (l69,x70,x71,l72,l74)=>cU (F+1) ⟨pl,E,0,t⟩ l69 x70 x71 l72 l74) (L.drop b,0,t,[],[])=some z)
  (h:(Sum.elim (fun (z107,z108,z109,z110,z111)=>bk ⟨pl,E,0,t⟩ y5 l8 l15 y24 z107 z108 z109 z110 z111) (fun z112=>some z112)) z=some r) :
  Sg L ((bJ (fun (x79,x80,x81,x82,l84,l86)=>aW (F+1) s x79 x80 x81 x82 l84 l86) ((b:Int),0,0,s.parts,[],[])).bind (fun (z126,z127,z128,z129,z130,z131)=>bB s y1 y3 l8 l15 y24.1 z126 z127 z128 z129 z130 z131)) r:=by
 have gl:=g.1.1
 refine mZ (q:=fun (x79,x80,x81,x82,l84,l86)=>aW (F+1) s x79 x80 x81 x82 l84 l86)
  (R:=fun (s:List aa×Int×Int×List az×List TEq) (s':NS)=>∃ (d:Nat) (t t':Int) (l:List az) (l':List TEq),d≤L.length∧s=(L.drop d,0,t,l,l')∧s'=((d:Int),0,0,t',l,l')∧l.length≤30∧l'.length≤60∧l.length+l'.length+(L.drop d).length≤L.length) (μ:=fun s=>s.1.length)
  (Post:=fun z m=>∀ r,(Sum.elim (fun (z107,z108,z109,z110,z111)=>bk ⟨pl,E,0,t⟩ y5 l8 l15 y24 z107 z108 z109 z110 z111) (fun z112=>some z112)) z=some r→Sg L (m.bind (fun (z126,z127,z128,z129,z130,z131)=>bB s y1 y3 l8 l15 y24.1 z126 z127 z128 z129 z130 z131)) r) ?_ _ _ ((b:Int),0,0,s.parts,[],[]) z rfl ⟨b,t,s.parts,[],[],hb,rfl,rfl,by decide,by decide,by rw [List.length_drop];simp⟩ hz r h
 rintro s1 s1' ⟨d,t2,t3,l,l',hd,rfl,rfl,hl,hl',hll⟩ w hw
 have hw:cU (F+1) ⟨pl,E,0,t⟩ (L.drop d) 0 t2 l l'=some w:=hw
 unfold cU at hw
 rw [iH _ _ _ _ _ (by simp [lit]),bSq] at hw
 have semi:∀ (b':Nat) (t4 t5:Int) (m:List az) (m':List TEq),b'≤L.length→(L.drop b').length<(L.drop d).length→m.length≤30→m'.length≤60→m.length+m'.length+(L.drop b').length≤L.length →
   cT ⟨pl,E,0,t⟩ (L.drop b') 0 t4 m m'=some w→aW (F+1) s (d:Int) 0 0 t3 l l'=bO s (b':Int) 0 0 t5 m m' →
   Sum.elim (fun (s1:List aa×Int×Int×List az×List TEq)=>∃ s1',aW (F+1) s (d:Int) 0 0 t3 l l'=some (.inl s1')∧(∃ (d:Nat) (t t':Int) (l:List az) (l':List TEq),d≤L.length∧s1=(L.drop d,0,t,l,l')∧s1'=((d:Int),0,0,t',l,l')∧l.length≤30∧l'.length≤60∧l.length+l'.length+(L.drop d).length≤L.length)∧s1.1.length<(L.drop d).length)
    (fun z=>∀ r,(Sum.elim (fun (z107,z108,z109,z110,z111)=>bk ⟨pl,E,0,t⟩ y5 l8 l15 y24 z107 z108 z109 z110 z111) (fun z112=>some z112)) z=some r→Sg L ((bJ (fun (x79,x80,x81,x82,l84,l86)=>aW (F+1) s x79 x80 x81 x82 l84 l86) ((d:Int),0,0,t3,l,l')).bind (fun (z126,z127,z128,z129,z130,z131)=>bB s y1 y3 l8 l15 y24.1 z126 z127 z128 z129 z130 z131)) r) w:=by
  intro b' t4 t5 m m' hb' hlt hm1 hm2 hm3 h4 hr
  rw [wW g hsl hse b' hb'] at hr
  unfold cT at h4
  rw [iT,bSq] at h4
  by_cases hi:isB [[59]] (L.drop b')=true
  ·rw [iP hi] at h4 hr
   obtain ⟨v,q,e1,e2,_⟩:=cL hi
   rw [List.drop_drop] at h4
   cases h4
   have h2:(L.drop (b'+1)).length+1=(L.drop b').length:=by rw [List.length_drop,List.length_drop];omega
   exact ⟨_,hr,⟨b'+1,t4,t5,m,m',by omega,rfl,rfl,hm1,hm2,by omega⟩,by show (L.drop (b'+1)).length<_;omega⟩
  ·rw [iN hi] at h4 hr
   cases h4
   intro r hr2
   cases hr2
   exact lJ (bq dM) b' hb' hr
 by_cases h1:isB [[125]] (L.drop d)=true
 ·rw [iP (show isB (lit [[125]]) (L.drop d)=true from h1)] at hw
  cases hw
  intro r hr
  have hr:bk ⟨pl,E,0,t⟩ y5 l8 l15 y24 (L.drop d) 0 t2 l l'=some r:=hr
  rw [a8 (o:=((d:Int),0,0,t3,l,l')) (by
   show aW (F+1) s (d:Int) 0 0 t3 l l'=_
   unfold aW
   rw [hsl,hse,cQ,bSq,iN dM,gR _ g (by intro c r h;cases h;decide) d,bSq,iP h1]),bSq]
  show Sg L (bB s y1 y3 l8 l15 y24.1 (d:Int) 0 0 t3 l l') r
  unfold bB
  rw [hsl,hse,hP _ g (by intro c r h;cases h;decide) d hd,iP h1,bSq]
  unfold bk at hr
  obtain ⟨v,q,e1,e2,e3,e4,_⟩:=cL h1
  rw [e1,hO] at hr
  cases hr
  exact ⟨d+1,t3,by omega,by rw [← h3,← hat],e4.symm⟩
 ·rw [iN (show ¬ isB (lit [[125]]) (L.drop d)=true from h1),nE,bSq] at hw
  by_cases h2:isB [[118,97,114]] (L.drop d)=true
  ·rw [iP h2,iP rfl,List.drop_drop] at hw
   obtain ⟨v,q,e1,e2,_⟩:=cL h2
   have hdl:(L.drop (d+1)).length+1=(L.drop d).length:=by rw [List.length_drop,List.length_drop];omega
   have hturn:=fun m hm=>ub (t:=t3) (F:=F+1) (l84:=l) (l86:=l') (m:=m) g hsl hse d hd h1 h2 oM hm
   by_cases h30:(l.length:Int)=30
   ·rw [iP h30,gG] at hw
    cases hw
    intro r hr
    cases hr
    have hff:=bq (E:=E) (c:=7) (l:=L.drop (d+1)) dM
    rw [iP oM] at hturn
    obtain ⟨x,hx⟩:=zA (E:=E) (t:=t3) (L:=L) hff (d+1)
    have hq:=hturn _ hx
    rw [bSq,l3 hff] at hq
    exact lJ hff (d+1) oM hq
   ·rw [iN h30] at hw
    rw [iN oM] at hturn
    obtain ⟨y,hy,hw2⟩:=bd hw
    clear hw
    have hs:=vU (t':=t3) hE g (d+1) oM hy
    have hpr:=kQ (sG hE (g.drop (d+1))) hy
    cases y with
    |inr f =>
     cases hw2
     intro r hr
     cases hr
     obtain ⟨hf,x,b',hb',hm⟩:=hs
     have hq:=hturn _ hm
     rw [bSq,l3 hf] at hq
     exact lJ hf b' hb' hq
    |inl a =>
     obtain ⟨x,lst⟩:=a
     obtain ⟨b',hb',hm,hz⟩:=hs
     have hz:lst=L.drop b':=hz
     subst hz
     have hcs:(L.drop b').length<(L.drop (d+1)).length:=hpr.1.2
     have hq:=hturn _ hm
     rw [bSq] at hq
     simp only [Sum.elim_inl] at hw2
     rw [iP (jG oM dM)] at hw2
     have hlen:(l++lit [x]).length=l.length+1:=by rw [List.length_append];rfl
     exact semi b' t2 t3 (l++lit [x]) l' hb' oM oM hl' oM hw2 hq
  ·rw [iN h2,iN Bool.false_ne_true] at hw
   have hturn:=fun m hm=>vg (t:=t3) (F:=F+1) (l84:=l) (l86:=l') (m:=m) g hsl hse d hd h1 h2 oM hm
   have rest:∀ (hc:¬ (nmB (L.drop d)=true∧(l'.length:Int)≥60)),co (F+1) ⟨pl,E,0,t⟩ 0 t2 l l' (false,L.drop d)=some w→(L.drop d≠[]→l'.length<60∨∃ f,eH (F+1) ⟨L.drop d,E,0,t2⟩=some (.inr f)) →
     Sum.elim (fun (s1:List aa×Int×Int×List az×List TEq)=>∃ s1',aW (F+1) s (d:Int) 0 0 t3 l l'=some (.inl s1')∧(∃ (d:Nat) (t t':Int) (l:List az) (l':List TEq),d≤L.length∧s1=(L.drop d,0,t,l,l')∧s1'=((d:Int),0,0,t',l,l')∧l.length≤30∧l'.length≤60∧l.length+l'.length+(L.drop d).length≤L.length)∧s1.1.length<(L.drop d).length)
      (fun z=>∀ r,(Sum.elim (fun (z107,z108,z109,z110,z111)=>bk ⟨pl,E,0,t⟩ y5 l8 l15 y24 z107 z108 z109 z110 z111) (fun z112=>some z112)) z=some r→Sg L ((bJ (fun (x79,x80,x81,x82,l84,l86)=>aW (F+1) s x79 x80 x81 x82 l84 l86) ((d:Int),0,0,t3,l,l')).bind (fun (z126,z127,z128,z129,z130,z131)=>bB s y1 y3 l8 l15 y24.1 z126 z127 z128 z129 z130 z131)) r) w:=by
    intro hc h5 hfew
    rw [iN hc] at hturn
    unfold co at h5
    simp only at h5
    by_cases hz:L.drop d=[]
    ·rw [iP (by rw [hz];rfl),gG,hz] at h5
     cases h5
     intro r hr
     cases hr
     have hff:=bq (E:=E) (c:=4) (l:=[]) dM
     obtain ⟨x,t5,hx⟩:=B1 (t:=t3) (F:=F+1) g d hd hz
     have hq:=hturn _ hx
     rw [bSq] at hq
     simp only at hq
     rw [l3 hff] at hq
     exact lJ hff d hd hq
    ·rw [iN (by cases hdd:L.drop d with|nil=>exact absurd hdd hz|cons x q=>simp;omega)] at h5
     obtain ⟨y,hy,hw2⟩:=bd h5
     clear h5
     have hs:=B0 (t':=t3) hf hE g d hd hy
     have hpr:=kQ (AY (E:=E) (fuel:=F+1) oM (Int.le_refl 0) dM hE (g.drop d) hz) hy
     cases y with
     |inr f =>
      cases hw2
      intro r hr
      cases hr
      obtain ⟨hf,x,t5,b',hb',hm⟩:=hs
      have hq:=hturn _ hm
      rw [bSq] at hq
      simp only at hq
      rw [l3 hf] at hq
      exact lJ hf b' hb' hq
     |inl a =>
      obtain ⟨x,lst,o,t6⟩:=a
      obtain ⟨b',t5,hb',hm,hz2⟩:=hs
      have hz2:lst=L.drop b':=hz2
      subst hz2
      have ho:o=0:=hpr.2.1
      subst ho
      have hcs:(L.drop b').length<(L.drop d).length:=hpr.1.2
      have h60:l'.length<60:=by
       rcases hfew hz with h|⟨f,hf'⟩
       ·exact h
       ·rw [hy] at hf';cases hf'
      have hq:=hturn _ hm
      rw [bSq] at hq
      simp only [Sum.elim_inl] at hw2
      rw [iP (jG oM dM)] at hw2
      have hlen:(l'++lit [x]).length=l'.length+1:=by rw [List.length_append];rfl
      exact semi b' t6 t5 l (l'++lit [x]) hb' hcs hl oM oM hw2 hq
   have nameless:∀ x q,L.drop d=x :: q→x.kind≠2→∃ f,eH (F+1) ⟨L.drop d,E,0,t2⟩=some (.inr f):=by
    intro x q hdd hk
    have hn:bf ⟨L.drop d,E,0,t2⟩=some (.inr (bG E 4 (L.drop d))):=by
     unfold bf cY
     rw [hdd,iN (by simp;omega),iP (by simp)]
     simp only [List.getD_cons_zero]
     rw [iP hk,gG];rfl
    unfold eH
    rw [iP ⟨by decide,by rw [hdd];simp⟩]
    have hrow:dO 30 ⟨L.drop d,E,0,t2⟩=some (.inr (bG E 4 (L.drop d))):=by
     unfold dO
     rw [a8 (o:=.inr (bG E 4 (L.drop d))) (by
      show (fun (l13,l14)=>dh 30 ⟨L.drop d,E,0,t2⟩ l13 l14) (L.drop d,[])=_
      rw [rF,iN (by simp),hn];rfl)]
     rfl
    rw [hrow]
    exact ⟨_,rfl⟩
   cases hdd:L.drop d with
   |nil =>
    rw [hdd,iN (by simp),← hdd] at hw
    exact hdd ▸ rest (by rw [hdd];exact fun h=>nomatch h.1) hw (fun h=>absurd hdd h)
   |cons x q =>
    rw [iP (by rw [hdd];simp),iP (by rw [hdd];simp)] at hw
    have hx0:(L.drop d).getD 0 default=x:=by rw [hdd];rfl
    simp only [hx0] at hw
    by_cases hk:x.kind=2
    ·rw [iP hk] at hw
     by_cases h60:(l'.length:Int)=60
     ·rw [iP h60,gG] at hw
      cases hw
      intro r hr
      cases hr
      have hff:=bq (E:=E) (c:=7) (l:=L.drop d) dM
      rw [iP ⟨by rw [hdd];exact dT hk,by omega⟩] at hturn
      obtain ⟨y,t5,hy⟩:=BZ (E:=E) (t:=t3) (F:=F+1) (L:=L) hff d
      have hq:=hturn _ hy
      rw [bSq] at hq
      simp only at hq
      rw [l3 hff] at hq
      exact lJ hff d hd hq
     ·rw [iN h60] at hw
      exact hdd ▸ rest (fun h=>h60 oM) hw (fun _=>.inl oM)
    ·rw [iN hk] at hw
     exact hdd ▸ rest (by rw [hdd];exact fun h=>hk (of_decide_eq_true h.1)) hw (fun _=>.inr (nameless x q hdd hk))
theorem l6{F:Nat}{p1:ae}{y1:Int}{y3:List UInt8×Int×Int×Int}{l9:List (List UInt8)}{l16 l25:List az}{f:Int×Int}(hf:f.1≠0)(b:Nat):Fp b f (ez F p1 y1 y3 l9 l16 (b:Int) f.1 f.2 l25):=by
 unfold ez
 rw [dU _ hf,bSq,dU _ hf,bSq]
 simp only
 rw [nr hf]
 exact nq hf b
theorem pS{F:Nat}{p1:ae}{y1:Int}{y3:List UInt8×Int×Int×Int}{l9:List (List UInt8)}{l16:List az}{f:Int×Int}(hf:f.1≠0)(b:Nat):Fp b f (dH F p1 y1 y3 l9 (b:Int) f.1 f.2 l16):=by
 unfold dH
 rw [dU _ hf,bSq,dU _ hf,bSq,dU _ hf,bSq,fq hf,bSq,iP rfl]
 exact l6 hf b
theorem nt{F:Nat}{p1:ae}{y1:Int}{y3:List UInt8×Int×Int×Int}{l9:List (List UInt8)}{f:Int×Int}(hf:f.1≠0)(b:Nat):Fp b f (dI F p1 y1 y3 (b:Int) f.1 f.2 l9):=by
 unfold dI
 rw [dU _ hf,bSq,fq hf,bSq,iP rfl]
 exact pS hf b
theorem wb{F:Nat}{p1:ae}{y1:Int}{y3:List UInt8×Int×Int×Int}{l:List (List UInt8)}{f:Int×Int}(hf:f.1≠0)(b:Nat):Fp b f (eA F p1 y1 y3 (b:Int) f.1 f.2 l):=by
 unfold eA
 rw [dU _ hf]
 exact nt hf b
theorem pT{α:Type}{L:List aa}{m:Option (α×Int×Int×Int×Int)}{r:(α×List aa×Int×Int) ⊕ (Int×Int)}{f:Int×Int}{b:Nat}(hf:f.1≠0)(hb:b≤L.length)(h:Fp b f m)(hr:some (.inr (f.1,f.2))=some r):Sg L m r:=by
 cases hr
 obtain ⟨x,t,hx⟩:=h
 exact ⟨hf,x,t,b,hb,hx⟩
theorem wc{E t y1:Int}{F:Nat}{L pl:List aa}{s:ae}{y5:List UInt8×List aa}{y3:List UInt8×Int×Int×Int}{l8:List (List UInt8)}{l15:List az}{y24:List az×List aa}(hf:430≤F)(hE:0≤E)(g:dV E L)(hsl:s.l=L)(hse:s.end_=E)(hat:(pl.getD 0 default).at_=y1)(h3:y5.1=y3.1)
  (b:Nat) (hb:b≤L.length) {r:(bx×List aa×Int×Int) ⊕ (Int×Int)}
  (h:((aA (lit ([([41]:List UInt8),([123]:List UInt8)]:List (List UInt8))) (af.mk (L.drop b) E 0 t)).bind fun y26=>Sum.elim (fun y29=>(bJ (fun (l69,x70,x71,l72,l74)=>cU (F+1) ⟨pl,E,0,t⟩ l69 x70 x71 l72 l74) (y29,0,t,[],[])).bind (Sum.elim (fun (z107,z108,z109,z110,z111)=>bk ⟨pl,E,0,t⟩ y5 l8 l15 y24 z107 z108 z109 z110 z111) (fun z112=>some z112))) (fun y30=>some (.inr (y30.1,y30.2))) y26)=some r) :
  Sg L (ez (F+1) s y1 y3 l8 l15 (b:Int) 0 0 y24.1) r:=by
 rw [wa (by simp [lit]),bSq] at h
 unfold ez
 have h:Sum.elim _ _ (if isB [[41]] (L.drop b)=true then (if isB [[123]] ((L.drop b).drop 1)=true then .inl (((L.drop b).drop 1).drop 1) else .inr (bG E 4 ((L.drop b).drop 1))) else .inr (bG E 4 (L.drop b)))=some r:=h
 rw [hsl,hse,hP _ g (by intro c r h;cases h;decide) b hb,bSq]
 by_cases hi:isB [[41]] (L.drop b)=true
 ·rw [iP hi] at h ⊢
  obtain ⟨v,q,e1,e2,_⟩:=cL hi
  simp only [List.drop_drop] at h
  simp only
  rw [hP _ g (by intro c r h;cases h;decide) (b+1) oM,bSq]
  by_cases hj:isB [[123]] (L.drop (b+1))=true
  ·rw [iP hj] at h ⊢
   obtain ⟨v,q,e1,e2,_⟩:=cL hj
   simp only [Sum.elim_inl] at h
   obtain ⟨z,hz,h⟩:=bd h
   exact yy (s:=s) (pl:=pl) (y5:=y5) (y3:=y3) (l8:=l8) (l15:=l15) (y24:=y24) hf hE g hsl hse hat h3 (b+1+1) oM hz h
  ·rw [iN hj] at h ⊢
   have hff:=bq (E:=E) (c:=4) (l:=L.drop (b+1)) dM
   simp only
   refine pT hff (b:=b+1) oM ?_ h
   rw [nr hff]
   exact nq hff (b+1)
 ·rw [iN hi] at h ⊢
  have hff:=bq (E:=E) (c:=4) (l:=L.drop b) dM
  simp only
  refine pT hff hb ?_ h
  rw [dU _ hff,bSq]
  simp only
  rw [nr hff]
  exact nq hff b
theorem ss{E t y1:Int}{F:Nat}{L pl:List aa}{s:ae}{y5:List UInt8×List aa}{y3:List UInt8×Int×Int×Int}{l8:List (List UInt8)}{l15:List az}(hf:430≤F)(hE:0≤E)(g:dV E L)(hsl:s.l=L)(hse:s.end_=E)(hat:(pl.getD 0 default).at_=y1)(h3:y5.1=y3.1)
  (b:Nat) (hb:b≤L.length) {r:(bx×List aa×Int×Int) ⊕ (Int×Int)} (h:cV (F+1) ⟨pl,E,0,t⟩ y5 l8 (L.drop b) l15=some r):Sg L (dH (F+1) s y1 y3 l8 (b:Int) 0 0 l15) r:=by
 unfold cV at h
 rw [wa (by simp [lit]),bSq] at h
 have h:Sum.elim _ _ (if isB [[41]] (L.drop b)=true then (if isB [[45,62]] ((L.drop b).drop 1)=true then (if isB [[40]] (((L.drop b).drop 1).drop 1)=true then .inl ((((L.drop b).drop 1).drop 1).drop 1) else .inr (bG E 4 (((L.drop b).drop 1).drop 1))) else .inr (bG E 4 ((L.drop b).drop 1))) else .inr (bG E 4 (L.drop b)))=some r:=h
 unfold dH
 rw [hsl,hse,hP _ g (by intro c r h;cases h;decide) b hb,bSq]
 by_cases hi:isB [[41]] (L.drop b)=true
 ·rw [iP hi] at h ⊢
  obtain ⟨v,q,e1,e2,_⟩:=cL hi
  simp only [List.drop_drop] at h
  simp only
  rw [hP _ g (by intro c r h;cases h;decide) (b+1) oM,bSq]
  by_cases hj:isB [[45,62]] (L.drop (b+1))=true
  ·rw [iP hj] at h ⊢
   obtain ⟨v,q,e1,e2,_⟩:=cL hj
   simp only
   rw [hP _ g (by intro c r h;cases h;decide) (b+1+1) oM,bSq]
   by_cases hk:isB [[40]] (L.drop (b+1+1))=true
   ·rw [iP hk] at h ⊢
    obtain ⟨v,q,e1,e2,_⟩:=cL hk
    simp only [Sum.elim_inl] at h
    simp only
    rw [cQ,bSq,iN dM]
    obtain ⟨y,hy,h⟩:=bd h
    have hs:=uu (t':=s.parts) hE g (b+1+1+1) oM hy
    cases y with
    |inr f =>
     obtain ⟨hf,x,b',hb',hm⟩:=hs
     rw [hm,bSq]
     exact pT hf hb' (l6 hf b') h
    |inl z =>
     obtain ⟨l,lst⟩:=z
     obtain ⟨b',hb',hm,hz⟩:=hs
     have hz:lst=L.drop b':=hz
     subst hz
     rw [hm,bSq]
     exact wc (s:=s) (pl:=pl) (y5:=y5) (y3:=y3) (l8:=l8) (l15:=l15) (y24:=(l,L.drop b')) hf hE g hsl hse hat h3 b' hb' h
   ·rw [iN hk] at h ⊢
    have hff:=bq (E:=E) (c:=4) (l:=L.drop (b+1+1)) dM
    simp only
    refine pT hff (b:=b+1+1) oM ?_ h
    rw [fq hff,bSq,iP rfl]
    exact l6 hff (b+1+1)
  ·rw [iN hj] at h ⊢
   have hff:=bq (E:=E) (c:=4) (l:=L.drop (b+1)) dM
   simp only
   refine pT hff (b:=b+1) oM ?_ h
   rw [dU _ hff,bSq,fq hff,bSq,iP rfl]
   exact l6 hff (b+1)
 ·rw [iN hi] at h ⊢
  have hff:=bq (E:=E) (c:=4) (l:=L.drop b) dM
  simp only
  refine pT hff hb ?_ h
  rw [dU _ hff,bSq,dU _ hff,bSq,fq hff,bSq,iP rfl]
  exact l6 hff b
theorem su{E t y1:Int}{F:Nat}{L pl:List aa}{s:ae}{y5:List UInt8×List aa}{y3:List UInt8×Int×Int×Int}{l8:List (List UInt8)}(hf:430≤F)(hE:0≤E)(g:dV E L)(hsl:s.l=L)(hse:s.end_=E)(hat:(pl.getD 0 default).at_=y1)(h3:y5.1=y3.1)
  (b:Nat) (hb:b≤L.length) {r:(bx×List aa×Int×Int) ⊕ (Int×Int)} (h:cW (F+1) ⟨pl,E,0,t⟩ y5 (L.drop b) l8=some r):Sg L (dI (F+1) s y1 y3 (b:Int) 0 0 l8) r:=by
 unfold cW at h
 rw [iT,bSq] at h
 unfold dI
 rw [hsl,hse,hP _ g (by intro c r h;cases h;decide) b hb,bSq]
 by_cases hi:isB [[40]] (L.drop b)=true
 ·rw [iP hi] at h ⊢
  obtain ⟨v,q,e1,e2,_⟩:=cL hi
  rw [List.drop_drop] at h
  simp only [Sum.elim_inl] at h
  rw [iH _ _ _ _ _ (by simp [lit]),bSq] at h
  simp only
  rw [cQ,bSq,iN dM,gR _ g (by intro c r h;cases h;decide) (b+1),bSq]
  by_cases hj:isB [[41]] (L.drop (b+1))=true
  ·rw [iP (show isB (lit [[41]]) (L.drop (b+1))=true from hj)] at h
   rw [iP hj]
   exact ss (s:=s) (pl:=pl) (y5:=y5) (y3:=y3) hf hE g hsl hse hat h3 (b+1) oM h
  ·rw [iN (show ¬ isB (lit [[41]]) (L.drop (b+1))=true from hj)] at h
   rw [iN hj]
   obtain ⟨y,hy,h⟩:=bd h
   have hs:=uu (t':=s.parts) hE g (b+1) oM hy
   cases y with
   |inr f =>
    obtain ⟨hf,x,b',hb',hm⟩:=hs
    rw [hm,bSq]
    exact pT hf hb' (pS hf b') h
   |inl z =>
    obtain ⟨l,lst⟩:=z
    obtain ⟨b',hb',hm,hz⟩:=hs
    have hz:lst=L.drop b':=hz
    subst hz
    rw [hm,bSq]
    exact ss (s:=s) (pl:=pl) (y5:=y5) (y3:=y3) (l8:=l8) (l15:=l) hf hE g hsl hse hat h3 b' hb' h
 ·rw [iN hi] at h ⊢
  have hff:=bq (E:=E) (c:=4) (l:=L.drop b) dM
  simp only
  refine pT hff hb ?_ h
  rw [fq hff,bSq,iP rfl]
  exact pS hff b
theorem zQ{E t t':Int}{F:Nat}{L:List aa}(hf:430≤F)(hE:0≤E)(g:dV E L)(a:Nat)(ha:a≤L.length)(hnode:isB [[110,111,100,101]] (L.drop a)=true){r:(bx×List aa×Int×Int) ⊕ (Int×Int)}
  (h:fG (F+1) ⟨L.drop a,E,0,t⟩=some r):Sg L (ij (F+1) ⟨L,a,E,⟨0,0⟩,t'⟩) r:=by
 have gl:=g.1.1
 obtain ⟨v,q,e1,e2,e3,e4,_⟩:=cL hnode
 unfold fG at h
 rw [iP ⟨by decide,by rw [e1];simp⟩] at h
 have hnx:aD ⟨L.drop a,E,0,t⟩=some (v,L.drop (a+1)):=by rw [e1,hO,e4]
 rw [hnx,bSq] at h
 unfold ij
 have hat:((L.drop a).getD 0 default).at_=plP E (L.drop a):=by rw [e1];rfl
 rw [mB,bSq,hP _ g (by intro c r h;cases h;decide) a ha,iP hnode,bSq]
 obtain ⟨y,hy,h⟩:=bd h
 have hn:=mY (t':=t') g (a+1) oM hy
 simp only
 cases y with
 |inr f =>
  obtain ⟨hf,n,b2,hb2,hm⟩:=hn
  rw [hm,bSq]
  refine pT hf hb2 ?_ h
  simp only
  rw [fq hf,bSq,iP rfl]
  exact nt hf b2
 |inl z =>
  obtain ⟨n,lst⟩:=z
  obtain ⟨b2,hb2,hm,hz⟩:=hn
  have hz:lst=L.drop b2:=hz
  subst hz
  rw [hm,bSq]
  simp only [Sum.elim_inl] at h
  rw [nE,bSq] at h
  simp only
  rw [cQ,bSq,iN dM,gR _ g (by intro c r h;cases h;decide) b2,bSq]
  by_cases hj:isB [[60]] (L.drop b2)=true
  ·rw [iP hj] at h ⊢
   obtain ⟨v,q,e1,e2,_⟩:=cL hj
   rw [iP rfl,List.drop_drop] at h
   rw [wrs b2 oM]
   obtain ⟨y,hy,h⟩:=bd h
   have hs:=uw (t':=t') (rb:=fun (x164,x165,x166,l167)=>fd ⟨L,a,E,⟨0,0⟩,t'⟩ x164 x165 x166 l167) dM hE g (b2+1) oM hy (fun b c f acc=>by
    show fd ⟨L,a,E,⟨0,0⟩,t'⟩ b c f acc=_
    unfold fd
    rfl)
   have hgo:∀ K:Int×Int×Int×List (List UInt8)→Option (bx×Int×Int×Int×Int),((aT ⟨L,((b2+1:Nat):Int),E,⟨0,0⟩,t'⟩).bind fun y91=>(bJ (fun (x164,x165,x166,l167)=>fd ⟨L,a,E,⟨0,0⟩,t'⟩ x164 x165 x166 l167) (y91.2.1,y91.2.2.1,y91.2.2.2,(lit ([y91.1]:List (List UInt8))))).bind K) =
     ((aT ⟨L,((b2+1:Nat):Int),E,⟨0,0⟩,t'⟩).bind fun y=>bJ (fun (x164,x165,x166,l167)=>fd ⟨L,a,E,⟨0,0⟩,t'⟩ x164 x165 x166 l167) (y.2.1,y.2.2.1,y.2.2.2,lit [y.1])).bind K:=by
    intro K
    cases aT ⟨L,((b2+1:Nat):Int),E,⟨0,0⟩,t'⟩<;>rfl
   rw [hgo]
   cases y with
   |inr f =>
    obtain ⟨hf,l,b3,hb3,hm⟩:=hs
    rw [hm]
    exact pT hf hb3 (wb hf b3) h
   |inl z =>
    obtain ⟨l,lst⟩:=z
    obtain ⟨b3,hb3,hm,hz⟩:=hs
    have hz:lst=L.drop b3:=hz
    subst hz
    rw [hm]
    simp only [Sum.elim_inl] at h
    rw [iT,bSq] at h
    show Sg L (eA (F+1) ⟨L,a,E,⟨0,0⟩,t'⟩ (plP E (L.drop a)) (n,(b2:Int),0,0) (b3:Int) 0 0 l) r
    unfold eA
    rw [hP _ g (by intro c r h;cases h;decide) b3 hb3,bSq]
    by_cases hk:isB [[62]] (L.drop b3)=true
    ·rw [iP hk] at h ⊢
     obtain ⟨v,q,e1,e2,_⟩:=cL hk
     rw [List.drop_drop] at h
     exact su (s:=⟨L,a,E,⟨0,0⟩,t'⟩) (pl:=L.drop a) (y5:=(n,L.drop b2)) (y3:=(n,(b2:Int),0,0)) (l8:=l) hf hE g rfl rfl hat rfl (b3+1) oM h
    ·rw [iN hk] at h ⊢
     have hff:=bq (E:=E) (c:=4) (l:=L.drop b3) dM
     exact pT hff hb3 (nt hff b3) h
  ·rw [iN hj] at h ⊢
   rw [iN Bool.false_ne_true] at h
   exact su (s:=⟨L,a,E,⟨0,0⟩,t'⟩) (pl:=L.drop a) (y5:=(n,L.drop b2)) (y3:=(n,(b2:Int),0,0)) (l8:=[]) hf hE g rfl rfl hat rfl b2 hb2 h
end Pam
