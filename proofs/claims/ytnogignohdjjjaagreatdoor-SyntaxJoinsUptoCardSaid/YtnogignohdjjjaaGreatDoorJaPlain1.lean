/- Tokens: what a text's tokens are, and plain laws on them. No program in sight. -/
import Derived.Test.YtnogignohdjjjaaGreatDoorJBase3
import Derived.Test.YtnogignohdjjjaaGreatDoorJaFun1
import Derived.Test.YtnogignohdjjjaaGreatDoorJWide1
set_option linter.all false
namespace Pam
open Go
def tSm(c:UInt8):Prop:=97≤c.toNat∧c.toNat≤122
def tDg(c:UInt8):Prop:=48≤c.toNat∧c.toNat≤57
instance (c:UInt8):Decidable (tSm c):=inferInstanceAs (Decidable (_∧_))
instance (c:UInt8):Decidable (tDg c):=inferInstanceAs (Decidable (_∧_))
def tAn(c:UInt8):Bool:=decide (tSm c∨tDg c)
def tBl(c:UInt8):Prop:=c.toNat=32∨c.toNat=9∨c.toNat=13
instance (c:UInt8):Decidable (tBl c):=inferInstanceAs (Decidable (_∨_))
def blk:Bool→List UInt8→List UInt8
 |_,[]=>[]
 |r,c :: l=>if c.toNat=10 then blk false l else if r=true∨tBl c then blk r l else if c.toNat=35 then blk true l else c :: l
theorem oE(r:Bool)(s:List UInt8):(blk r s).length≤s.length:=by
 induction s generalizing r with
 |nil=>simp [blk]
 |cons c l ih =>
  unfold blk
  have h1:=ih false;have h2:=ih r;have h3:=ih true
  split
  ·simp;omega
  ·split
   ·simp;omega
   ·split
    ·simp;omega
    ·simp
theorem wv(r:Bool)(s:List UInt8):blk r s=s.drop (s.length - (blk r s).length):=by
 induction s generalizing r with
 |nil=>simp [blk]
 |cons c l ih =>
  have key:∀ q,blk q l=(c :: l).drop ((c :: l).length - (blk q l).length):=by
   intro q
   have h1:=ih q;have h2:=oE q l
   rw [List.length_cons,show l.length+1 - (blk q l).length=(l.length - (blk q l).length)+1 by omega,List.drop_succ_cons]
   exact h1
  unfold blk
  split
  ·exact key _
  ·split
   ·exact key _
   ·split
    ·exact key _
    ·simp
theorem xC(r:Bool)(x y:List UInt8):blk r (x++10 :: y)=if blk r x=[] then blk false y else blk r x++10 :: y:=by
 induction x generalizing r with
 |nil=>simp [blk]
 |cons c x ih =>
  have e:∀ z,blk r (c :: z)=if c.toNat=10 then blk false z else if r=true∨tBl c then blk r z else if c.toNat=35 then blk true z else c :: z:=fun _=>rfl
  rw [List.cons_append,e,e]
  split
  ·exact ih _
  ·split
   ·exact ih _
   ·split
    ·exact ih _
    ·simp
def lC:List (List UInt8):=[[97,100,100],[97,110,100],[98,111,111,108],[99,97,108,108],[99,97,116],[100,105,118],[101,108,115,101],[101,113],[102,97,108,115,101],[102,105,108,108],[102,111,108,100],[105,102],[105,110,116],[108,101,115,115],[109,97,112],[109,97,120],[109,105,110],[109,111,100],[109,117,108],[110,101,103],[110,111,100,101],[110,111,116],[111,114],[112,114,101],[115,99,97,110],[115,108,105,99,101],[115,117,98],[116,104,101,110],[116,114,117,101],[118,97,114],[119,105,116,104],[120,111,114]]
def kV(s:List UInt8):Bool:=lC.contains s
def pq:List Nat:=[40,41,123,125,91,93,60,62,44,59,58,43,45,42,47,37,61,94]
def pN(n:Int)(w:List UInt8):Int:=w.foldl (fun n c=>10 * n+((c.toNat:Int) - 48)) n
def se(w:List UInt8):Option Int :=
 if w.length>18∨(w.length>1∧w.head?.map UInt8.toNat=some 48)∨¬ (∀ c∈w,tDg c) then none else some (pN 0 w)
def jR(p:Nat)(s:List UInt8):aa ⊕ Int :=
 match s with
 |[]=>.inr 1
 |c :: l =>
  if tSm c then
   let w:=(c :: l).takeWhile tAn
   if kV w then .inl (aa.mk 1 p w 0) else if w.length>12 then .inr 3 else .inl (aa.mk 2 p w 0)
  else if tDg c then
   let w:=(c :: l).takeWhile tAn
   match se w with
   |some n=>.inl (aa.mk 3 p w n)
   |none=>.inr 2
  else if (c :: l).take 2=[61,61]∨(c :: l).take 2=[45,62] then .inl (aa.mk 4 p ((c :: l).take 2) 0)
  else if c.toNat∈pq then .inl (aa.mk 4 p [c] 0)
  else .inr 1
theorem qD{c:UInt8}(h:tSm c∨tDg c):tAn c=true:=by simpa [tAn] using h
theorem zb:tAn 10=false:=by decide
theorem kx{p:Nat}{s:List UInt8}{t:aa}(h:jR p s=.inl t):t.at_=p∧t.text≠[]∧t.text <+: s:=by
 cases s with
 |nil=>simp [jR] at h
 |cons c l =>
  have tw:(c :: l).takeWhile tAn <+: c :: l:=List.takeWhile_prefix _
  have ne:∀ {c:UInt8},tAn c=true→(c :: l).takeWhile tAn≠[]:=by intro c h;rw [List.takeWhile_cons,iP h];simp
  unfold jR at h
  simp only at h
  split at h
  ·rename_i hc
   split at h
   ·cases h;exact ⟨rfl,ne (qD (.inl hc)),tw⟩
   ·split at h
    ·cases h
    ·cases h;exact ⟨rfl,ne (qD (.inl hc)),tw⟩
  ·split at h
   ·rename_i hc
    split at h
    ·cases h;exact ⟨rfl,ne (qD (.inr hc)),tw⟩
    ·cases h
   ·split at h
    ·cases h;exact ⟨rfl,by simp,List.take_prefix _ _⟩
    ·split at h
     ·cases h;exact ⟨rfl,by simp,⟨l,rfl⟩⟩
     ·cases h
theorem ww(p:Nat)(x y:List UInt8)(hx:x≠[]):jR p (x++10 :: y)=jR p x:=by
 cases x with
 |nil=>exact absurd rfl hx
 |cons c l =>
  have tw:(c :: (l++10 :: y)).takeWhile tAn=(c :: l).takeWhile tAn:=by
   rw [← List.cons_append]
   generalize c :: l=z
   induction z with
   |nil=>rw [List.nil_append,List.takeWhile_cons,zb];rfl
   |cons a z ih =>
    rw [List.cons_append,List.takeWhile_cons,List.takeWhile_cons,ih]
  have t2:∀ a b:UInt8,b≠10→((c :: (l++10 :: y)).take 2=[a,b]↔(c :: l).take 2=[a,b]):=by
   intro a b hb
   cases l with
   |nil =>
    simp
    intro _ h
    exact hb h.symm
   |cons d l=>simp
  have t3:(c :: l).take 2=[61,61]∨(c :: l).take 2=[45,62]→(c :: (l++10 :: y)).take 2=(c :: l).take 2:=by
   rintro (h|h)
   ·rw [h];exact (t2 61 61 dM).2 h
   ·rw [h];exact (t2 45 62 dM).2 h
  rw [List.cons_append]
  unfold jR
  simp only
  rw [tw]
  simp only [t2 61 61 dM,t2 45 62 dM]
  split
  ·rfl
  ·split
   ·rfl
   ·split
    ·rename_i h;rw [t3 h]
    ·rfl
def fP:Nat→Nat→List UInt8→List aa ⊕ bh
 |0,_,_=>.inl []
 |k+1,p,s =>
  match blk false s with
  |[]=>.inl []
  |c :: l =>
   match jR (p+(s.length - (c :: l).length)) (c :: l) with
   |.inr e=>.inr (bh.mk e ((p+(s.length - (c :: l).length):Nat):Int))
   |.inl t =>
    match fP k (p+(s.length - (c :: l).length)+t.text.length) ((c :: l).drop t.text.length) with
    |.inl m=>.inl (t :: m)
    |.inr f=>.inr f
theorem gO(k p:Nat)(s:List UInt8):fP (k+1) p s=match blk false s with
  |[]=>.inl []
  |c :: l =>
   match jR (p+(s.length - (c :: l).length)) (c :: l) with
   |.inr e=>.inr (bh.mk e ((p+(s.length - (c :: l).length):Nat):Int))
   |.inl t =>
    match fP k (p+(s.length - (c :: l).length)+t.text.length) ((c :: l).drop t.text.length) with
    |.inl m=>.inl (t :: m)
    |.inr f=>.inr f:=rfl
theorem jc:∀ (k k' p:Nat) (s:List UInt8),s.length<k→s.length<k'→fP k p s=fP k' p s:=by
 intro k
 induction k with
 |zero=>intro k' p s h;omega
 |succ k ih =>
  intro k' p s h h'
  cases k' with
  |zero=>omega
  |succ k' =>
   unfold fP
   have hb:=oE false s
   cases e:blk false s with
   |nil=>rfl
   |cons c l =>
    simp only
    cases ht:jR (p+(s.length - (c :: l).length)) (c :: l) with
    |inr e=>rfl
    |inl t =>
     simp only
     obtain ⟨_,h2,_⟩:=kx ht
     have:0<t.text.length:=List.length_pos_iff.2 h2
     rw [e] at hb
     have hcl:(c :: l).length=l.length+1:=rfl
     rw [ih k' _ _ (by rw [List.length_drop];omega) (by rw [List.length_drop];omega)]
def shT(d:Int)(t:aa):aa:={ t with at_:=t.at_+d }
def shF(d:Int)(f:bh):bh:={ f with at_:=f.at_+d }
theorem tD(p d:Nat)(s:List UInt8):jR (p+d) s=match jR p s with|.inl t=>.inl (shT d t)|.inr e=>.inr e:=by
 cases s with
 |nil=>rfl
 |cons c l =>
  unfold jR
  simp only
  split
  ·split
   ·simp [shT]
   ·split<;>simp [shT]
  ·split
   ·cases se (List.takeWhile tAn (c :: l))<;>simp [shT]
   ·split
    ·simp [shT]
    ·split<;>simp [shT]
theorem sU(d:Nat):∀ (k p:Nat) (s:List UInt8),fP k (p+d) s=match fP k p s with|.inl l=>.inl (l.map (shT d))|.inr f=>.inr (shF d f):=by
 intro k
 induction k with
 |zero=>intro p s;rfl
 |succ k ih =>
  intro p s
  unfold fP
  cases e:blk false s with
  |nil=>rfl
  |cons c l =>
   simp only
   rw [show p+d+(s.length - (c :: l).length)=p+(s.length - (c :: l).length)+d by omega,tD]
   cases ht:jR (p+(s.length - (c :: l).length)) (c :: l) with
   |inr e=>simp [shF]
   |inl t =>
    simp only
    rw [show (shT (↑d) t).text=t.text from rfl,show p+(s.length - (c :: l).length)+d+t.text.length=p+(s.length - (c :: l).length)+t.text.length+d by omega,ih]
    cases fP k (p+(s.length - (c :: l).length)+t.text.length) ((c :: l).drop t.text.length)<;>simp
theorem tE:∀ (k p:Nat) (x y:List UInt8),x.length+y.length+1<k →
  fP k p (x++10 :: y)=match fP k p x with
   |.inr f=>.inr f
   |.inl l=>match fP k (p+x.length+1) y with
    |.inr f=>.inr f
    |.inl m=>.inl (l++m):=by
 intro k
 induction k with
 |zero=>intro p x y h;omega
 |succ k ih =>
  intro p x y h
  rw [show fP (k+1) p (x++10 :: y)=fP (k+2) p (x++10 :: y) from jc _ _ _ _ (by simp;omega) (by simp;omega)]
  rw [gO (k+1),gO k p x,xC]
  have hb:=oE false x
  cases e:blk false x with
  |nil =>
   simp only [if_true]
   rw [show (x++10 :: y).length=x.length+y.length+1 by simp;omega]
   rw [gO k (p+x.length+1) y]
   have hby:=oE false y
   cases e2:blk false y with
   |nil=>rfl
   |cons c l =>
    simp only
    rw [e2] at hby
    rw [show p+(x.length+y.length+1 - (c :: l).length)=p+x.length+1+(y.length - (c :: l).length) by omega]
    cases ht:jR (p+x.length+1+(y.length - (c :: l).length)) (c :: l) with
    |inr e=>simp
    |inl t =>
     simp only
     obtain ⟨_,h2,_⟩:=kx ht
     have:0<t.text.length:=List.length_pos_iff.2 h2
     rw [jc (k+1) k _ _ (by rw [List.length_drop];omega) (by rw [List.length_drop];omega)]
     cases fP k _ ((c :: l).drop t.text.length)<;>simp
  |cons c l =>
   simp only [reduceCtorEq,if_false,List.cons_append]
   rw [e] at hb
   rw [show p+((x++10 :: y).length - (c :: (l++10 :: y)).length)=p+(x.length - (c :: l).length) by simp;omega,← List.cons_append,ww _ _ _ (by simp)]
   cases ht:jR (p+(x.length - (c :: l).length)) (c :: l) with
   |inr e=>rfl
   |inl t =>
    simp only
    obtain ⟨_,h2,h3⟩:=kx ht
    have hl:=h3.length_le
    have:0<t.text.length:=List.length_pos_iff.2 h2
    have hcl:(c :: l).length=l.length+1:=rfl
    have hdl:((c :: l).drop t.text.length).length=(c :: l).length - t.text.length:=List.length_drop
    rw [List.drop_append_of_le_length hl,jc (k+1) k _ _ (by rw [List.length_append,List.length_cons,hdl];omega) (by rw [List.length_append,List.length_cons,hdl];omega),ih _ _ _ (by rw [hdl];omega)]
    cases fP k (p+(x.length - (c :: l).length)+t.text.length) ((c :: l).drop t.text.length) with
    |inr f=>rfl
    |inl m =>
     simp only
     rw [show p+(x.length - (c :: l).length)+t.text.length+((c :: l).drop t.text.length).length+1=p+x.length+1 by rw [List.length_drop];omega,
      jc k (k+1) (p+x.length+1) y oM oM]
     cases fP (k+1) (p+x.length+1) y<;>simp
theorem pI(l:List UInt8)(i:Nat)(h:i<l.length):l.drop i=l.getD i 0 :: l.drop (i+1):=by
 rw [List.drop_eq_getElem_cons h]
 simp [List.getD,h]
theorem wr1(p:Nat)(h:p<1000000):IntKind.wrap .i64 ((p:Int)+1)=((p+1:Nat):Int):=wrs p oM
theorem pr(c:UInt8):iI (c.toNat:Int)=some (decide (tSm c)):=by
 unfold iI
 by_cases h:(c.toNat:Int)≥97
 ·rw [iP h];congr 1;exact decide_eq_decide.2 (by unfold tSm;omega)
 ·rw [iN h];congr 1;symm;rw [decide_eq_false_iff_not];unfold tSm;omega
theorem o8(c:UInt8):iz (c.toNat:Int)=some (decide (tDg c)):=by
 unfold iz
 by_cases h:(c.toNat:Int)≥48
 ·rw [iP h];congr 1;exact decide_eq_decide.2 (by unfold tDg;omega)
 ·rw [iN h];congr 1;symm;rw [decide_eq_false_iff_not];unfold tDg;omega
theorem qE(src:List UInt8)(hl:src.length≤100000):∀ (k p:Nat) (r:Bool),p+k=src.length →
  db (fun (x5,b6)=>ce src x5 b6) ((p:Int),r)=some ((src.length - (blk r (src.drop p)).length:Nat):Int)
 |0,p,r,h=>by
  have:p=src.length:=by omega
  subst this
  rw [List.drop_length]
  refine cQ ?_
  show ce _ _ _=_
  unfold ce
  rw [iN (gS _)]
  simp [blk]
 |k+1,p,r,h=>by
  have hp:p<src.length:=by omega
  have hd:=pI src p hp
  have hdl:(src.drop (p+1)).length=src.length - (p+1):=List.length_drop
  obtain ⟨c,hc⟩:∃ c,src.getD p 0=c:=⟨_,rfl⟩
  rw [hc] at hd
  have e:blk r (c :: src.drop (p+1))=if c.toNat=10 then blk false (src.drop (p+1)) else if r=true∨tBl c then blk r (src.drop (p+1)) else if c.toNat=35 then blk true (src.drop (p+1)) else c :: src.drop (p+1):=rfl
  have stp:∀ q,ce src (p:Int) r=some (.inl ((p+1:Nat),q))→blk r (c :: src.drop (p+1))=blk q (src.drop (p+1)) →
    db (fun (x5,b6)=>ce src x5 b6) ((p:Int),r)=some ((src.length - (blk r (src.drop p)).length:Nat):Int):=fun q h1 h2=>by
   rw [eT (s':=(((p+1:Nat):Int),q)) h1,qE src hl k (p+1) q oM,hd,h2]
  have hb:ce src (p:Int) r=if (c.toNat:Int)=10 then some (.inl ((p+1:Nat),false)) else if r=true∨tBl c then some (.inl ((p+1:Nat),r)) else if (c.toNat:Int)=35 then some (.inl ((p+1:Nat),true)) else some (.inr (p:Int)):=by
   unfold ce
   rw [iP (ltI hp),iP (inI hp),tN,hc]
   unfold dm dP
   rw [wr1 p oM]
   simp only [tN,hc]
   by_cases h1:(c.toNat:Int)=10
   ·rw [iP h1,iP h1]
   rw [iN h1,iN h1]
   by_cases h2:r=true
   ·rw [iP h2,iP h2,iP (Or.inl h2)]
   rw [iN h2]
   have key:∀ b:Bool,(b=true↔tBl c)→(if b=true then (some (.inl (((p+1:Nat):Int),r)):Option ((Int×Bool) ⊕ Int)) else if ((src.getD p 0).toNat:Int)=35 then some (.inl (((p+1:Nat):Int),true)) else some (.inr (p:Int))) =
     if r=true∨tBl c then some (.inl (((p+1:Nat):Int),r)) else if (c.toNat:Int)=35 then some (.inl (((p+1:Nat):Int),true)) else some (.inr (p:Int)):=by
    intro b hb
    rw [hc]
    by_cases hh:tBl c
    ·rw [iP (hb.2 hh),iP (Or.inr hh)]
    ·rw [iN (fun x=>hh (hb.1 x)),iN (show ¬ (r=true∨tBl c) from fun x=>x.elim h2 hh)]
   rw [hc] at key
   by_cases h3:(c.toNat:Int)=32
   ·rw [iP h3];exact key ((c.toNat:Int) == 32) (by rw [beq_iff_eq];unfold tBl;omega)
   rw [iN h3]
   by_cases h4:(c.toNat:Int)=9
   ·rw [iP h4];exact key ((c.toNat:Int) == 9) (by rw [beq_iff_eq];unfold tBl;omega)
   rw [iN h4]
   exact key ((c.toNat:Int) == 13) (by rw [beq_iff_eq];unfold tBl;omega)
  by_cases h1:c.toNat=10
  ·rw [iP h1] at e
   rw [iP oM] at hb
   exact stp false hb e
  rw [iN h1] at e
  rw [iN oM] at hb
  by_cases h2:r=true∨tBl c
  ·rw [iP h2] at e hb
   exact stp r hb e
  rw [iN h2] at e hb
  by_cases h3:c.toNat=35
  ·rw [iP h3] at e
   rw [iP oM] at hb
   exact stp true hb e
  rw [iN h3] at e
  rw [iN oM] at hb
  rw [cQ (o:=(p:Int)) hb,hd,e,List.length_cons,hdl]
  congr 2;omega
theorem sV(src:List UInt8)(hl:src.length≤100000)(p:Nat)(hp:p≤src.length)(l:List aa) :
  fh src p l=some ((src.length - (blk false (src.drop p)).length:Nat):Int):=by
 unfold fh
 rw [qE src hl (src.length - p) p false oM]
 rfl
theorem sW(src:List UInt8)(hl:src.length≤100000):∀ (k p:Nat),p+k=src.length →
  db (fun x4=>eg src x4) (p:Int)=some ((p+((src.drop p).takeWhile tAn).length:Nat):Int)
 |0,p,h=>by
  have:p=src.length:=by omega
  subst this
  rw [List.drop_length]
  refine cQ ?_
  unfold eg
  rw [iN (gS _)];rfl
 |k+1,p,h=>by
  have hp:p<src.length:=by omega
  rw [pI src p hp]
  have hb:eg src (p:Int)=if tAn (src.getD p 0)=true then some (.inl ((p+1:Nat):Int)) else some (.inr (p:Int)):=by
   unfold eg eU
   rw [iP (ltI hp),iP (inI hp),tN,wr1 p oM,pr,o8]
   simp only [bSq,decide_eq_true_eq]
   unfold tAn
   simp only [decide_eq_true_eq]
   by_cases h1:tSm (src.getD p 0)
   ·rw [iP h1,iP (Or.inl h1)]
   ·rw [iN h1]
    by_cases h2:tDg (src.getD p 0)
    ·rw [iP h2,iP (Or.inr h2)]
    ·rw [iN h2,iN (fun x=>x.elim h1 h2)]
  rw [List.takeWhile_cons]
  by_cases h1:tAn (src.getD p 0)=true
  ·rw [iP h1] at hb ⊢
   rw [eT hb,sW src hl k (p+1) oM,List.length_cons]
   congr 2;omega
  ·rw [iN h1] at hb ⊢
   rw [cQ hb];rfl
theorem zc(src:List UInt8)(hl:src.length≤100000)(p:Nat)(hp:p≤src.length)(l:List aa) :
  eE src p l=some ((src.drop p).takeWhile tAn,((p+((src.drop p).takeWhile tAn).length:Nat):Int)):=by
 unfold eE
 rw [sW src hl (src.length - p) p oM]
 simp only [bSq]
 unfold ef
 have tw:(src.drop p).takeWhile tAn <+: src.drop p:=List.takeWhile_prefix _
 have hle:=tw.length_le
 rw [List.length_drop] at hle
 rw [iP ⟨by omega,by omega,by omega⟩,tN,tN,List.drop_take,show p+((src.drop p).takeWhile tAn).length - p=((src.drop p).takeWhile tAn).length by omega,← List.prefix_iff_eq_take.1 tw]
theorem xD(w:List UInt8):jO w=some (kV w):=by
 unfold jO aF
 by_cases h:w∈lC
 ·have:kV w=true:=by unfold kV;rw [List.contains_iff_mem];exact h
  rw [this]
  unfold lC at h
  simp only [List.mem_cons,List.not_mem_nil,or_false] at h
  rcases h with rfl|rfl|rfl|rfl|rfl|rfl|rfl|rfl|rfl|rfl|rfl|rfl|rfl|rfl|rfl|rfl|rfl|rfl|rfl|rfl|rfl|rfl|rfl|rfl|rfl|rfl|rfl|rfl|rfl|rfl|rfl|rfl
  all_goals rfl
 ·have:kV w=false:=by unfold kV;rw [← Bool.not_eq_true,List.contains_iff_mem];exact h
  rw [this]
  have hn:∀ x,x∈lC→¬ w=x:=fun x hx e=>h (e ▸ hx)
  have hb:∀ x,x∈lC→(w == x)=false:=fun x hx=>by rw [beq_eq_false_iff_ne];exact hn x hx
  rw [iN (hn _ dM),iN (hn _ dM),iN (hn _ dM),iN (hn _ dM),iN (hn _ dM),iN (hn _ dM),iN (hn _ dM),iN (hn _ dM),iN (hn _ dM),iN (hn _ dM),iN (hn _ dM),iN (hn _ dM),iN (hn _ dM),iN (hn _ dM),iN (hn _ dM),iN (hn _ dM),iN (hn _ dM),iN (hn _ dM),iN (hn _ dM),iN (hn _ dM),iN (hn _ dM),iN (hn _ dM),iN (hn _ dM),iN (hn _ dM),iN (hn _ dM),iN (hn _ dM),iN (hn _ dM),iN (hn _ dM),iN (hn _ dM),iN (hn _ dM),iN (hn _ dM)]
  rw [hb _ dM]
  rfl
theorem pJ:∀ (l:List UInt8) (acc:Nat),(∀ c∈l,tDg c)→∃ m:Nat,Go.Lib.decFrom acc l=some m∧(m:Int)=pN acc l
 |[],acc,_=>⟨acc,rfl,rfl⟩
 |c :: l,acc,h=>by
  have hc:tDg c:=h c List.mem_cons_self
  have hc':48≤c.toNat∧c.toNat≤57:=hc
  obtain ⟨m,h1,h2⟩:=pJ l (acc * 10+(c.toNat - 48)) (fun d hd=>h d (List.mem_cons_of_mem _ hd))
  refine ⟨m,?_,?_⟩
  ·unfold Go.Lib.decFrom Go.Lib.digitVal
   rw [iP hc']
   exact h1
  ·rw [h2]
   unfold pN
   rw [List.foldl_cons]
   congr 1
   omega
theorem wx(w:List UInt8)(hn:w≠[])(hl:w.length≤18)(h:∀ c∈w,tDg c):sQ w=some (pN 0 w):=by
 unfold sQ
 rw [iP hl]
 cases w with
 |nil=>exact absurd rfl hn
 |cons c l =>
  have hc:48≤c.toNat∧c.toNat≤57:=h c List.mem_cons_self
  unfold Go.Lib.atoi
  have n1:(c == 45)=false:=by rw [beq_eq_false_iff_ne];intro e;subst e;revert hc;decide
  have n2:(c == 43)=false:=by rw [beq_eq_false_iff_ne];intro e;subst e;revert hc;decide
  simp only [n1,n2]
  obtain ⟨m,h1,h2⟩:=pJ (c :: l) 0 h
  show (Go.Lib.decNat (c :: l)).map (fun m:Nat=>(m:Int))=_
  unfold Go.Lib.decNat
  rw [iN (by simp),h1,Option.map_some,h2]
  rfl
theorem uv(w:List UInt8):(∀ c∈w,tDg c)↔∀ i,i<w.length→tDg (w.getD i 0):=by
 constructor
 ·intro h i hi
  have:w.getD i 0=w[i]:=by simp [List.getD,hi]
  rw [this];exact h _ (List.getElem_mem hi)
 ·intro h c hc
  obtain ⟨i,hi,rfl⟩:=List.getElem_of_mem hc
  have:=h i hi
  have e:w.getD i 0=w[i]:=by simp [List.getD,hi]
  rwa [e] at this
theorem vj(w:List UInt8)(hn:w≠[]):iK w=some (match se w with|some n=>(n,true)|none=>(0,false)):=by
 unfold iK
 unfold se
 by_cases h1:w.length>18
 ·rw [iP oM,iP (Or.inl h1)]
 rw [iN oM]
 have hj:fV w=some (match (if ¬ ∀ c∈w,tDg c then none else some (pN 0 w):Option Int) with|some n=>(n,true)|none=>(0,false)):=by
  unfold fV
  rw [nv (body:=fun x4=>fj w x4) w.length (fun i=>if tDg (w.getD i 0) then none else some ((0:Int),false)) ()
   (by
    intro i hi
    show fj w i=_
    unfold fj
    rw [iP (ltI hi),iP (inI hi),tN,o8,wr1 i oM]
    simp only [bSq,decide_eq_true_eq]
    by_cases hd:tDg (w.getD i 0)
    ·rw [iP hd,iP hd]
    ·rw [iN hd,iN hd])
   (by
    show fj w w.length=_
    unfold fj
    rw [iN (gS _)])]
  simp only [bSq]
  by_cases ha:∀ c∈w,tDg c
  ·have hg:=(uv w).1 ha
   rw [ru (fun i hi=>by rw [iP (hg i hi)])]
   rw [iN (fun h=>h ha)]
   simp only [Sum.elim_inl]
   unfold gy iJ
   rw [iP ⟨rfl,rfl⟩,wx w hn oM ha]
   rfl
  ·rw [iP ha]
   rcases kU w.length (fun i=>if tDg (w.getD i 0) then none else some ((0:Int),false)) () with ⟨e,hall⟩|⟨i,z,hi,hf,e⟩
   ·exfalso
    refine ha ((uv w).2 fun i hi=>?_)
    have:=hall i hi
    split at this
    ·assumption
    ·cases this
   ·rw [e]
    split at hf
    ·cases hf
    ·simp only [sJ] at hf
     subst hf;rfl
 by_cases h2:w.length>1
 ·rw [iP oM,iP ⟨by omega,by omega⟩]
  cases w with
  |nil=>exact absurd rfl hn
  |cons c l =>
   by_cases h3:c.toNat=48
   ·rw [iP (show (((c :: l).getD 0 0).toNat:Int)=48 by simp [h3]),iP (Or.inr (Or.inl ⟨h2,by simp [h3]⟩))]
   ·rw [iN (show ¬ (((c :: l).getD 0 0).toNat:Int)=48 by simp;omega),hj]
    by_cases ha:∀ d∈c :: l,tDg d
    ·rw [iN (fun h=>h ha),iN (fun h=>h.elim h1 (fun h=>h.elim (fun h=>h3 (by simpa using h.2)) (fun h=>h ha)))]
    ·rw [iP ha,iP (Or.inr (Or.inr ha))]
 ·rw [iN oM,hj]
  by_cases ha:∀ d∈w,tDg d
  ·rw [iN (fun h=>h ha),iN (fun h=>h.elim h1 (fun h=>h.elim (fun h=>h2 h.1) (fun h=>h ha)))]
  ·rw [iP ha,iP (Or.inr (Or.inr ha))]
theorem rx(s l:List UInt8)(hl:l.length=2):fc s l=some (decide (s.take 2=l)):=by
 unfold fc ep
 by_cases h:(s.length:Int)≥(l.length:Int)
 ·rw [iP h,iP ⟨by omega,by omega⟩,hl]
  simp only [bSq]
  congr 1
  rw [Bool.eq_iff_iff]
  simp
 ·rw [iN h]
  simp only [bSq]
  congr 1;symm
  rw [decide_eq_false_iff_not]
  intro e
  have:(s.take 2).length=2:=by rw [e,hl]
  rw [List.length_take] at this
  omega
theorem xE(src:List UInt8)(p:Nat)(hp:p<src.length)(l:List aa) :
  fE src p l=some (if (src.drop p).take 2=[61,61]∨(src.drop p).take 2=[45,62] then (src.drop p).take 2 else if (src.getD p 0).toNat∈pq then [src.getD p 0] else []):=by
 unfold fE
 have b0:cW src p 0=if (src.drop p).take 2=[61,61] then some (.inr (.inr [61,61])) else some (.inl 1):=by
  unfold cW
  rw [iP dM,iP dM,iP ⟨by omega,by omega⟩,tN]
  show (fc (src.drop p) [61,61]).bind _=_
  rw [rx _ _ rfl]
  simp only [bSq,decide_eq_true_eq]
  rfl
 have b1:cW src p 1=if (src.drop p).take 2=[45,62] then some (.inr (.inr [45,62])) else some (.inl 2):=by
  unfold cW
  rw [iP dM,iP dM,iP ⟨by omega,by omega⟩,tN]
  show (fc (src.drop p) [45,62]).bind _=_
  rw [rx _ _ rfl]
  simp only [bSq,decide_eq_true_eq]
  rfl
 have b2:cW src p 2=some (.inr (.inl ())):=by
  unfold cW
  rw [iN dM]
 by_cases h1:(src.drop p).take 2=[61,61]
 ·rw [iP h1] at b0
  rw [cQ b0,iP (Or.inl h1),h1];rfl
 rw [iN h1] at b0
 rw [eT b0]
 by_cases h2:(src.drop p).take 2=[45,62]
 ·rw [iP h2] at b1
  rw [cQ b1,iP (Or.inr h2),h2];rfl
 rw [iN h2] at b1
 rw [eT b1,cQ b2,iN (fun h=>h.elim h1 h2)]
 simp only [bSq,Sum.elim_inl]
 unfold eG
 rw [iP (inI hp),tN]
 obtain ⟨c,hc⟩:∃ c,src.getD p 0=c:=⟨_,rfl⟩
 rw [hc]
 have hw:c.toNat<128→UInt8.ofNat ((IntKind.wrap .i32 (c.toNat:Int)).toNat)=c∧0≤IntKind.wrap .i32 (c.toNat:Int)∧IntKind.wrap .i32 (c.toNat:Int)<128:=fun h=>by
  have:IntKind.wrap .i32 (c.toNat:Int)=(c.toNat:Int):=by rw [IntKind.wrap_i32];omega
  rw [this]
  refine ⟨?_,by omega,by omega⟩
  simp
 have hj:∀ b:Bool,(b=true→c.toNat<128)→az src p b=some (if b=true then [c] else []):=fun b hb=>by
  unfold az
  rw [tN,hc]
  by_cases h:b=true
  ·obtain ⟨w1,w2,w3⟩:=hw (hb h)
   rw [iP h,iP h,iP ⟨w2,w3⟩,w1]
  ·rw [iN h,iN h]
 have step:∀ (n:Int) (ns:List Nat) (X:Option (List UInt8)),0≤n→n<128→X=some (if c.toNat∈ns then [c] else []) →
   (if (c.toNat:Int)=n then az src p ((c.toNat:Int) == n) else X)=some (if c.toNat∈n.toNat :: ns then [c] else []):=fun n ns X h0 h1 hX=>by
  by_cases h:(c.toNat:Int)=n
  ·rw [iP h,hj _ (fun _=>by omega),iP (eQ h),iP (by rw [List.mem_cons];left;omega)]
  ·rw [iN h,hX]
   congr 1
   have:(c.toNat∈n.toNat :: ns)↔c.toNat∈ns:=by
    rw [List.mem_cons]
    constructor
    ·rintro (h'|h')
     ·exact absurd oM h
     ·exact h'
    ·exact Or.inr
   simp only [this]
 have last:az src p ((c.toNat:Int) == 94)=some (if c.toNat∈[94] then [c] else []):=by
  rw [hj _ (fun h=>by have:=beq_iff_eq.1 h;omega)]
  congr 1
  have:((c.toNat:Int) == 94)=true↔c.toNat∈[94]:=by rw [beq_iff_eq,List.mem_singleton];omega
  simp only [this]
 exact step 40 _ _ dM dM (step 41 _ _ dM dM (step 123 _ _ dM dM (step 125 _ _ dM dM (step 91 _ _ dM dM (step 93 _ _ dM dM (step 60 _ _ dM dM
  (step 62 _ _ dM dM (step 44 _ _ dM dM (step 59 _ _ dM dM (step 58 _ _ dM dM (step 43 _ _ dM dM (step 45 _ _ dM dM (step 42 _ _ dM dM
  (step 47 _ _ dM dM (step 37 _ _ dM dM (step 61 _ _ dM dM last))))))))))))))))
theorem pt(n:Nat)(h:n≤1000000):dV n 40:=by
 unfold dV
 have:maxLen=9223372036854775807:=rfl
 omega
theorem zd(src:List UInt8)(hl:src.length≤100000)(p:Nat)(hp:p<src.length)(l:List aa)(hll:l.length≤200000) :
  match jR p (src.drop p) with
  |.inl t=>fd src p l=some (0,((p+t.text.length:Nat):Int),l++[t])
  |.inr e=>e≠0∧∃ x,fd src p l=some (e,x,l):=by
 have hd:=pI src p hp
 obtain ⟨c,hc⟩:∃ c,src.getD p 0=c:=⟨_,rfl⟩
 have hs:=xE src p hp l
 have hr:=zc src hl p oM l
 rw [hc] at hd hs
 have hone:fd src p l=(some (decide (tSm c))).bind fun y5=>if y5=true then ((eE src p l).bind fun y6=>(jO y6.1).bind fun y7=>if y7=true then (bB p l y6.2 1 y6.1 0) else (if (y6.1.length:Int)>12 then (some (3,y6.2,l)) else (bB p l y6.2 2 y6.1 0))) else ((some (decide (tDg c))).bind fun y8=>if y8=true then ((eE src p l).bind fun y9=>(iK y9.1).bind fun y10=>if y10.2=true then (bB p l y9.2 3 y9.1 y10.1) else (some (2,y9.2,l))) else ((fE src p l).bind fun y11=>if y11=([]:List UInt8) then (some (1,(p:Int),l)) else (bB p l (IntKind.wrap .i64 (p+(y11.length:Int))) 4 y11 0))):=by
  unfold fd
  rw [iP (inI hp),tN,hc,pr,o8]
 have hj:∀ x1 x2 s3 x4,bB (p:Int) l x1 x2 s3 x4=some (0,x1,l++[aa.mk x2 p s3 x4]):=fun x1 x2 s3 x4=>by
  unfold bB
  rw [iP (pt _ oM)];rfl
 have hlen:(src.drop p).length=src.length - p:=List.length_drop
 rw [hone,hr]
 simp only [bSq,decide_eq_true_eq,hj,xD]
 rw [hs]
 simp only [bSq]
 clear hone hr hs hj
 generalize hsd:src.drop p=s at *
 subst hd
 unfold jR
 simp only
 by_cases h1:tSm c
 ·rw [iP h1,iP h1]
  by_cases hw:kV ((c :: src.drop (p+1)).takeWhile tAn)=true
  ·rw [iP hw,iP hw]
  ·rw [iN hw,iN hw]
   by_cases h12:((c :: src.drop (p+1)).takeWhile tAn).length>12
   ·rw [iP h12,iP oM]
    exact ⟨by decide,_,rfl⟩
   ·rw [iN h12,iN oM]
 ·rw [iN h1,iN h1]
  by_cases h2:tDg c
  ·rw [iP h2,iP h2]
   have hne:(c :: src.drop (p+1)).takeWhile tAn≠[]:=by rw [List.takeWhile_cons,iP (qD (.inr h2))];simp
   rw [vj _ hne]
   simp only [bSq]
   cases hn:se ((c :: src.drop (p+1)).takeWhile tAn) with
   |some n=>rfl
   |none=>exact ⟨by decide,_,rfl⟩
  ·rw [iN h2,iN h2]
   have hwr:∀ k:Nat,k≤2→IntKind.wrap .i64 ((p:Int)+(k:Int))=((p+k:Nat):Int):=fun k hk=>by rw [wr oM oM];omega
   have htk:((c :: src.drop (p+1)).take 2).length≤2:=by rw [List.length_take];omega
   by_cases h3:(c :: src.drop (p+1)).take 2=[61,61]∨(c :: src.drop (p+1)).take 2=[45,62]
   ·rw [iP h3,iP h3,iN (by simp),hwr _ htk]
   ·rw [iN h3,iN h3]
    by_cases h4:c.toNat∈pq
    ·rw [iP h4,iP h4,iN (by simp)]
     have:=hwr [c].length (by simp)
     rw [this]
    ·rw [iN h4,iN h4,iP rfl]
     exact ⟨by decide,_,rfl⟩
theorem vl(src:List UInt8)(hl:src.length≤100000):∀ (k p:Nat) (l:List aa),p≤src.length→src.length - p<k→l.length≤p →
  db (fun (x19,l20)=>e9 src x19 l20) (((src.length - (blk false (src.drop p)).length:Nat):Int),l)=some (match fP k p (src.drop p) with
   |.inl m=>.inl ((src.length:Int),l++m)
   |.inr f=>.inr ([],f)):=by
 intro k
 induction k with
 |zero=>intro p l _ h;omega
 |succ k ih =>
  intro p l hp hk hll
  have hb:=oE false (src.drop p)
  have hbd:=wv false (src.drop p)
  have hlen:(src.drop p).length=src.length - p:=List.length_drop
  rw [gO]
  cases e:blk false (src.drop p) with
  |nil =>
   simp only [List.length_nil,Nat.sub_zero]
   rw [cQ (o:=.inl ((src.length:Int),l)) (by
    show e9 src src.length l=_
    unfold e9
    rw [iN (gS _)])]
   simp
  |cons c m =>
   simp only
   rw [e] at hb hbd
   have hcm:(c :: m).length=m.length+1:=rfl
   obtain ⟨q,hq⟩:∃ q,q=src.length - (c :: m).length:=⟨_,rfl⟩
   have hqp:p+((src.drop p).length - (c :: m).length)=q:=by omega
   have hdq:src.drop q=c :: m:=by
    rw [hbd,List.drop_drop,← hqp]
   have h1:=zd src hl q oM l oM
   rw [← hq,hqp]
   rw [hdq] at h1
   cases ht:jR q (c :: m) with
   |inr er =>
    rw [ht] at h1
    obtain ⟨hne,x,h1⟩:=h1
    rw [cQ (o:=.inr ([],bh.mk er q)) (by
     show e9 src q l=_
     unfold e9
     rw [iP oM,h1]
     simp only [bSq]
     rw [iP hne])]
   |inl t =>
    rw [ht] at h1
    simp only at h1
    obtain ⟨t1,t2,t3⟩:=kx ht
    have hpos:0<t.text.length:=List.length_pos_iff.2 t2
    have hle:=t3.length_le
    have hdt:src.drop (q+t.text.length)=(c :: m).drop t.text.length:=by rw [← List.drop_drop,hdq]
    rw [eT (s':=(((src.length - (blk false (src.drop (q+t.text.length))).length:Nat):Int),l++[t])) (by
     show e9 src q l=_
     unfold e9
     rw [iP oM,h1]
     simp only [bSq]
     rw [iN (by simp),sV src hl _ oM]
     rfl),ih (q+t.text.length) (l++[t]) oM oM (by simp;omega),hdt]
    simp only
    cases fP k (q+t.text.length) ((c :: m).drop t.text.length) with
    |inr f=>rfl
    |inl m2=>simp
def jj(src:List UInt8):List aa×bh :=
 if src.length>12000 then ([],bh.mk 7 12000) else match fP (src.length+1) 0 src with
  |.inl m=>(m,bh.mk 0 0)
  |.inr f=>([],f)
theorem pU(src:List UInt8)(hl:src.length≤100000):hZ src=some (jj src):=by
 unfold hZ jj
 by_cases h:src.length>12000
 ·rw [iP oM,iP h]
 rw [iN oM,iN h]
 have hb:=sV src hl 0 oM []
 simp only [Int.natCast_zero] at hb
 rw [hb]
 simp only [bSq]
 rw [vl src hl (src.length+1) 0 [] oM oM (by simp)]
 rw [List.drop_zero]
 cases fP (src.length+1) 0 src with
 |inr f=>rfl
 |inl m=>rfl
def nL(l:List (List UInt8))(x:List UInt8):Int:=match sT (T:=Unit) l.length (fun i=>if x=l.getD i default then some (i:Int) else none) () with|.inl _=>-1|.inr z=>z
theorem nf(l:List (List UInt8))(x:List UInt8)(h:l.length≤9000000):cT l x=some (nL l x):=by
 unfold cT
 rw [nv l.length (fun i=>if x=l.getD i default then some (i:Int) else none) () (fun i hi=>by
  unfold dI
  rw [iP (ltI hi),iP (inI hi),tN]
  by_cases e:x=l.getD i default
  ·rw [iP e,iP e]
  ·rw [iN e,iN e,wrs i oM]) (by unfold dI;rw [iN (gS _)])]
 simp only [bSq]
 unfold nL c7
 split<;>rename_i h2<;>rw [h2]<;>rfl
theorem sX(l:List (List UInt8))(x:List UInt8)(h:l.length≤9000000):dJ l x=some (decide (nL l x≥0)):=by
 unfold dJ;rw [nf l x h];rfl
def isB(l:List (List UInt8)):List aa→Bool
 |t :: _=>decide (¬ t.kind=2) && decide (nL l t.text≥0)
 |[]=>false
theorem wy(l:List (List UInt8))(p:ae)(h:l.length≤9000000):ap l p=some (isB l p.l):=by
 unfold ap
 cases hl:p.l with
 |nil=>rfl
 |cons t r =>
  rw [iP (by simp),iP (by simp),sX _ _ h]
  simp only [List.getD_cons_zero,isB]
  by_cases hk:t.kind=2
  ·rw [iN (fun x=>x hk)];simp [hk]
  ·rw [iP hk];simp [hk]
theorem it(t:aa)(r:List aa)(a b c:Int):aq (ae.mk (t :: r) a b c)=some (t,r):=by
 unfold aq
 rw [iP (by simp),iP (by simp;omega)]
 rfl
theorem sY{S O:Type}(body:S→Option (S ⊕ O))(s:S):db body s=(body s).bind (Sum.elim (db body) some):=by
 rw [rR];cases body s with
 |none=>rfl
 |some x=>cases x<;>rfl
theorem pu(l:List (List UInt8))(a:List aa)(b c d:Int)(h:l.length≤9000000):ap l (ae.mk a b c d)=some (isB l a):=wy l _ h
def qF:List UInt8:=[110,111,100,101,32,109,97,105,110,40,120,58,32,105,110,116,41,32,45,62,32,40,121,58,32,105,110,116,41,32,123,32,121,32,61,32,120,32,45,32,49,32,45,32,50,59,32,125]
def tF:List aa:=[aa.mk 1 0 [110,111,100,101] 0,aa.mk 2 5 [109,97,105,110] 0,aa.mk 4 9 [40] 0,aa.mk 2 10 [120] 0,aa.mk 4 11 [58] 0,aa.mk 1 13 [105,110,116] 0,aa.mk 4 16 [41] 0,aa.mk 4 18 [45,62] 0,aa.mk 4 21 [40] 0,aa.mk 2 22 [121] 0,aa.mk 4 23 [58] 0,aa.mk 1 25 [105,110,116] 0,aa.mk 4 28 [41] 0,aa.mk 4 30 [123] 0,aa.mk 2 32 [121] 0,aa.mk 4 34 [61] 0,aa.mk 2 36 [120] 0,aa.mk 4 38 [45] 0,aa.mk 3 40 [49] 1,aa.mk 4 42 [45] 0,aa.mk 3 44 [50] 2,aa.mk 4 45 [59] 0,aa.mk 4 47 [125] 0]
theorem tG:jj qF=(tF,bh.mk 0 0):=by decide
set_option maxHeartbeats 8000000
set_option maxRecDepth 100000
theorem tH(m:Nat)(o:Int):cU (m+40) (ae.mk [aa.mk 2 36 [120] 0,aa.mk 4 38 [45] 0,aa.mk 3 40 [49] 1,aa.mk 4 42 [45] 0,aa.mk 3 44 [50] 2,aa.mk 4 45 [59] 0,aa.mk 4 47 [125] 0] 48 0 o) =
  some (.inl (af.mk 5 2 0 [] [] [af.mk 5 2 0 [] [] [af.mk 3 0 0 [120] [] [],af.mk 1 0 1 [] [] []],af.mk 1 0 2 [] [] []],[aa.mk 4 45 [59] 0,aa.mk 4 47 [125] 0],0,5)):=by
 simp (decide:=true) [cU,bU,ja,dr,cO,d7,cZ,iQ,cy,cx,et,cK,dR,bG,dW,fF,dp,aT,cC,it,pu,nf,sY,lit,isB,IntKind.wrap]
theorem tI(m:Nat):ig (m+40)=some true:=by
 have hs:hZ qF=some (tF,bh.mk 0 0):=by rw [pU _ dM,tG]
 have hp:ew (m+40) qF=some (bj.mk [aL.mk [109,97,105,110] 0 [] [aI.mk [120] (iL.mk 105 [])] [aI.mk [121] (iL.mk 105 [])] [] [TEq.mk 32 [[121]] [] [] [af.mk 5 2 0 [] [] [af.mk 5 2 0 [] [] [af.mk 3 0 0 [120] [] [],af.mk 1 0 1 [] [] []],af.mk 1 0 2 [] [] []]]]],bh.mk 0 0):=by
  unfold ew
  rw [hs]
  simp (decide:=true) [tF,qF,fW,gA,bo,cG,ca,b9,bV,bW,bH,bY,da,eq,dG,eV,cE,d8,ay,cX,aM,eu,cJ,cI,cH,tH,aT,cC,it,pu,sY,lit,isB,IntKind.wrap,dV,maxLen]
 unfold ig
 rw [show ([110,111,100,101,32,109,97,105,110,40,120,58,32,105,110,116,41,32,45,62,32,40,121,58,32,105,110,116,41,32,123,32,121,32,61,32,120,32,45,32,49,32,45,32,50,59,32,125]:List UInt8)=qF from rfl,hp]
 simp
def Pn{α:Type}(m:Option α)(Q:α→Prop):Prop:=∃ a,m=some a∧Q a
theorem bi{α:Type}{a:α}{Q:α→Prop}(h:Q a):Pn (some a) Q:=⟨a,rfl,h⟩
theorem bt{α β:Type}{m:Option α}{f:α→Option β}{P:α→Prop}{Q:β→Prop}(h:Pn m P)(hf:∀ a,P a→Pn (f a) Q):Pn (m.bind f) Q:=by
 obtain ⟨a,rfl,ha⟩:=h;exact hf a ha
theorem nw{α:Type}{m:Option α}{P Q:α→Prop}(h:Pn m P)(hf:∀ a,P a→Q a):Pn m Q:=by
 obtain ⟨a,rfl,ha⟩:=h;exact ⟨a,rfl,hf a ha⟩
theorem qG{α β:Type}{m:Option α}{a:α}{f:α→Option β}{Q:β→Prop}(h:m=some a)(hf:Pn (f a) Q):Pn (m.bind f) Q:=by
 rw [h];exact hf
def At(E:Int)(f:Int×Int):Prop:=f.1≠0∧0≤f.2∧f.2≤E
abbrev Po{α:Type}(E:Int)(Q:α→Prop):α ⊕ (Int×Int)→Prop:=Sum.elim Q (At E)
theorem eD{α:Type}{E:Int}{a:α}{Q:α→Prop}(h:Q a):Pn (some (.inl a)) (Po E Q):=bi h
theorem ze{α:Type}{E:Int}{a:Int×Int}{Q:α→Prop}(h:At E a):Pn (some (.inr (a.1,a.2))) (Po E Q):=bi h
theorem dy{α β:Type}{E:Int}{m:Option (α ⊕ (Int×Int))}{f:α→Option (β ⊕ (Int×Int))}{A:α→Prop}{Q:β→Prop}(h:Pn m (Po E A))
  (hf:∀ a,A a→Pn (f a) (Po E Q)):Pn (m.bind fun y=>Sum.elim f (fun z=>some (.inr (z.1,z.2))) y) (Po E Q):=by
 obtain ⟨a,rfl,ha⟩:=h
 cases a with
 |inl a=>exact hf a ha
 |inr b=>exact bi ha
theorem mF{α:Type}{E:Int}{m:Option (Int×Int)}{Q:α→Prop}(h:Pn m (At E)):Pn (m.bind fun y=>some (.inr (y.1,y.2))) (Po E Q):=by
 obtain ⟨a,rfl,ha⟩:=h;exact bi ha
theorem ny{α:Type}{E:Int}{m:Option (α ⊕ (Int×Int))}{P Q:α→Prop}(h:Pn m (Po E P))(hf:∀ a,P a→Q a):Pn m (Po E Q) :=
 nw h fun a ha=>by
  cases a with
  |inl a=>exact hf a ha
  |inr b=>exact ha
abbrev Pl{S T R:Type}(E:Int)(C:S→Prop)(B:T→Prop)(Q:R→Prop):S ⊕ (T ⊕ (R ⊕ (Int×Int)))→Prop:=Sum.elim C (Sum.elim B (Po E Q))
theorem nY{α S T R:Type}{E:Int}{m:Option (α ⊕ (Int×Int))}{f:α→Option (S ⊕ (T ⊕ (R ⊕ (Int×Int))))}{A:α→Prop}{C:S→Prop}{B:T→Prop}{Q:R→Prop}(h:Pn m (Po E A))
  (hf:∀ a,A a→Pn (f a) (Pl E C B Q)):Pn (m.bind fun y=>Sum.elim f (fun z=>some (.inr (.inr (.inr (z.1,z.2))))) y) (Pl E C B Q):=by
 obtain ⟨a,rfl,ha⟩:=h
 cases a with
 |inl a=>exact hf a ha
 |inr b=>exact bi ha
theorem pV{S T R:Type}{E:Int}{m:Option (Int×Int)}{C:S→Prop}{B:T→Prop}{Q:R→Prop}(h:Pn m (At E)):Pn (m.bind fun y=>some (.inr (.inr (.inr (y.1,y.2))))) (Pl E C B Q):=by
 obtain ⟨a,rfl,ha⟩:=h;exact bi ha
theorem mG{S O:Type}{body:S→Option (S ⊕ O)}(I:S→Prop)(μ:S→Nat){post:O→Prop}{s:S}(h:I s)
  (step:∀ s,I s→Pn (body s) (Sum.elim (fun s'=>I s'∧μ s'<μ s) post)):Pn (db body s) post :=
 u9 I μ post (fun s hs=>by
  obtain ⟨a,h1,h2⟩:=step s hs
  cases a with
  |inl s'=>exact .inl ⟨s',h1,h2⟩
  |inr o=>exact .inr ⟨o,h1,h2⟩) s h
theorem nA{S T R:Type}{E:Int}{body:S→Option (S ⊕ (T ⊕ (R ⊕ (Int×Int))))}{k:T→Option (R ⊕ (Int×Int))}(I:S→Prop)(μ:S→Nat)(B:T→Prop){Q:R→Prop}{s:S}(h:I s)
  (step:∀ s,I s→Pn (body s) (Pl E (fun s'=>I s'∧μ s'<μ s) B Q)) (hk:∀ b,B b→Pn (k b) (Po E Q)):Pn ((db body s).bind (Sum.elim k (fun z=>some z))) (Po E Q) :=
 bt (mG I μ h step) fun a ha=>by
  cases a with
  |inl b=>exact hk b ha
  |inr r=>exact bi ha
def br(t:aa):Bool:=decide (t.kind≠2) && decide (t.text=[125])
def f9(E:Int)(l:List aa):Prop:=l.length≤9000000∧∀ t∈l,(t.kind=3→t.text≠[125])∧0≤t.at_∧t.at_≤E
def Rd(l l':List aa):Prop:=∃ c,l=c++l'∧∀ t∈c,br t=false
def Cs(l l':List aa):Prop:=Rd l l'∧l'.length<l.length
theorem Rd.refl(l:List aa):Rd l l:=⟨[],rfl,fun _ h=>nomatch h⟩
theorem Rd.trans{a b c:List aa}(h:Rd a b)(k:Rd b c):Rd a c:=by
 obtain ⟨x,rfl,hx⟩:=h;obtain ⟨y,rfl,hy⟩:=k
 exact ⟨x++y,by simp,fun t ht=>by rcases List.mem_append.1 ht with h|h;exact hx t h;exact hy t h⟩
theorem Rd.len{a b:List aa}(h:Rd a b):b.length≤a.length:=by obtain ⟨x,rfl,_⟩:=h;simp
theorem Rd.good{E:Int}{a b:List aa}(h:Rd a b)(g:f9 E a):f9 E b:=by
 obtain ⟨x,rfl,_⟩:=h;exact ⟨by have:=g.1;simp only [List.length_append] at this;omega,fun t ht=>g.2 t (List.mem_append_right _ ht)⟩
theorem Cs.trans{a b c:List aa}(h:Cs a b)(k:Cs b c):Cs a c:=⟨h.1.trans k.1,by have:=h.2;have:=k.2;omega⟩
theorem Cs.rd{a b c:List aa}(h:Cs a b)(k:Rd b c):Cs a c:=⟨h.1.trans k,by have:=h.2;have:=k.len;omega⟩
theorem Rd.cs{a b c:List aa}(h:Rd a b)(k:Cs b c):Cs a c:=⟨h.trans k.1,by have:=h.len;have:=k.2;omega⟩
theorem Cs.good{E:Int}{a b:List aa}(h:Cs a b)(g:f9 E a):f9 E b:=h.1.good g
theorem qH{t:aa}{l:List aa}(h:br t=false):Cs (t :: l) l:=⟨⟨[t],rfl,fun x hx=>by rw [List.mem_singleton.1 hx];exact h⟩,by simp⟩
theorem xH{t:aa}(h:t.kind=2):br t=false:=by simp [br,h]
theorem wA{E:Int}{t:aa}{l:List aa}(g:f9 E (t :: l))(h:t.kind=3):br t=false:=by simp [br,(g.2 t (by simp)).1 h]
theorem mH{t:aa}{W:List (List UInt8)}(h:t.text∈W)(hw:([125]:List UInt8) ∉ W):br t=false:=by
 have:t.text≠[125]:=fun e=>hw (e ▸ h)
 simp [br,this]
theorem qI{L:List (List UInt8)}{x:List UInt8}(h:nL L x≥0):x∈L:=by
 unfold nL at h
 rcases kU (T:=Unit) L.length (fun i=>if x=L.getD i default then some (i:Int) else none) () with ⟨he,_⟩|⟨i,z,hi,hf,he⟩
 ·rw [he] at h;exact absurd h dM
 ·by_cases e:x=L.getD i default
  ·rw [e];exact iD hi
  ·rw [iN e] at hf;cases hf
theorem uw{L:List (List UInt8)}{x:List UInt8}:nL L x<(L.length:Int):=by
 unfold nL
 rcases kU (T:=Unit) L.length (fun i=>if x=L.getD i default then some (i:Int) else none) () with ⟨he,_⟩|⟨i,z,hi,hf,he⟩
 ·rw [he];show (-1:Int)<_;omega
 ·rw [he]
  by_cases e:x=L.getD i default
  ·rw [iP e] at hf;cases hf;show (i:Int)<_;omega
  ·rw [iN e] at hf;cases hf
theorem xI{L:List (List UInt8)}{x:List UInt8}(h:x∈L):0≤nL L x:=by
 unfold nL
 rcases kU (T:=Unit) L.length (fun i=>if x=L.getD i default then some (i:Int) else none) () with ⟨he,hn⟩|⟨i,z,hi,hf,he⟩
 ·obtain ⟨i,hi,e⟩:=List.mem_iff_getElem.1 h
  have:=hn i hi
  rw [iP (by rw [List.getD_eq_getElem?_getD,List.getElem?_eq_getElem hi,Option.getD_some,e])] at this
  cases this
 ·rw [he]
  by_cases e:x=L.getD i default
  ·rw [iP e] at hf;cases hf;show (0:Int)≤i;omega
  ·rw [iN e] at hf;cases hf
theorem ma{L:List (List UInt8)}{l:List aa}(h:isB L l=true):∃ t r,l=t :: r∧t.kind≠2∧t.text∈L:=by
 cases l with
 |nil=>cases h
 |cons t r =>
  simp only [isB,Bool.and_eq_true,decide_eq_true_eq] at h
  exact ⟨t,r,rfl,h.1,qI h.2⟩
theorem gu{E c o t:Int}{l:List aa}(hc:c≠0)(hE:0≤E)(g:f9 E l):Pn (an c ⟨l,E,o,t⟩) (At E):=by
 unfold an
 cases l with
 |nil =>
  rw [iN (by simp)]
  by_cases h:c=4
  ·rw [iP h];exact bi ⟨show (5:Int)≠0 by decide,hE,Int.le_refl _⟩
  ·rw [iN h];exact bi ⟨hc,hE,Int.le_refl _⟩
 |cons x r =>
  rw [iP (by simp),iP (by simp)]
  exact bi ⟨hc,(g.2 x (by simp)).2⟩
theorem jH{E o t:Int}{l:List aa}(L:List (List UInt8))(h:L.length≤9000000):Pn (ap L ⟨l,E,o,t⟩) (fun b=>b=isB L l) :=
 ⟨_,pu L l E o t h,rfl⟩
theorem zf{E o t:Int}{l:List aa}(w:List UInt8):Pn (aM w ⟨l,E,o,t⟩) (fun r=>(r.1=true∧∃ x,l=x :: r.2∧x.kind≠2∧x.text=w)∨(r.1=false∧r.2=l∧isB [w] l=false)):=by
 unfold aM
 rw [pu _ _ _ _ _ (by simp [lit])]
 simp only [bSq]
 by_cases h:isB [w] l=true
 ·obtain ⟨x,r,rfl,hk,hx⟩:=ma h
  rw [show isB (lit [w]) (x :: r)=true from h,iP rfl,it]
  exact bi (.inl ⟨rfl,x,rfl,hk,by simpa using hx⟩)
 ·have h':isB [w] l=false:=by simpa using h
  rw [show isB (lit [w]) l=false from h',iN dM]
  exact bi (.inr ⟨rfl,rfl,h'⟩)
theorem lD{E o t:Int}{l:List aa}(w:List UInt8)(hw:w≠[125]):Pn (aM w ⟨l,E,o,t⟩) (fun r=>Rd l r.2) :=
 nw (zf w) fun r hr=>by
  rcases hr with ⟨_,x,h,_,hx⟩|⟨_,h,_⟩
  ·rw [h];exact (qH (mH (W:=[w]) (by simp [hx]) (by simpa using hw.symm))).1
  ·rw [h];exact Rd.refl _
theorem ux{E o t:Int}{l:List aa}(k:Int)(hE:0≤E)(g:f9 E l):Pn (cC k ⟨l,E,o,t⟩) (Po E fun r=>l=r.1 :: r.2∧r.1.kind=k):=by
 unfold cC
 cases l with
 |nil=>rw [iP (by simp)];exact mF (gu dM hE g)
 |cons x r =>
  rw [iN (by simp;omega),iP (by simp)]
  simp only [List.getD_cons_zero]
  by_cases h:x.kind=k
  ·rw [iN (fun z=>z h),it];exact eD ⟨rfl,h⟩
  ·rw [iP h];exact mF (gu dM hE g)
theorem mI{E o t:Int}{l:List aa}(hE:0≤E)(g:f9 E l):Pn (aT ⟨l,E,o,t⟩) (Po E fun r=>Cs l r.2):=by
 unfold aT
 refine dy (ux 2 hE g) fun a ha=>eD ?_
 rw [ha.1];exact qH (xH ha.2)
theorem zg{E o t:Int}{l:List aa}(hE:0≤E)(g:f9 E l):Pn (cC 3 ⟨l,E,o,t⟩) (Po E fun r=>Cs l r.2) :=
 ny (ux 3 hE g) fun a ha=>by
  have g':=g
  rw [ha.1] at g' ⊢;exact qH (wA g' ha.2)
theorem xJ{E o t:Int}(W:List (List UInt8))(hW:W.length≤1000){l:List aa}(hE:0≤E)(g:f9 E l) :
  Pn (ay W ⟨l,E,o,t⟩) (Po E fun l'=>∃ c,l=c++l'∧c.map (·.text)=W∧∀ x∈c,x.kind≠2):=by
 unfold ay
 refine bt (P:=Po E fun l'=>∃ c,l=c++l'∧c.map (·.text)=W∧∀ x∈c,x.kind≠2) ?_ fun a ha=>bi ha
 refine mG (I:=fun s=>∃ k:Nat,s.2=(k:Int)∧k≤W.length∧∃ c,l=c++s.1∧c.map (·.text)=W.take k∧∀ x∈c,x.kind≠2) (μ:=fun s=>W.length - s.2.toNat) ⟨0,rfl,by omega,[],rfl,rfl,fun _ h=>nomatch h⟩ ?_
 rintro ⟨l5,x6⟩ ⟨k,hk,hkl,c,hc,hcm,hck⟩
 cases hk
 show Pn (cX W ⟨l,E,o,t⟩ l5 (k:Int)) _
 unfold cX
 by_cases hlt:k<W.length
 ·rw [iP (ltI hlt),iP (inI hlt),tN]
  refine bt (jH _ (by simp [lit])) fun b hb=>?_
  subst hb
  by_cases h:isB (lit [W.getD k default]) l5=true
  ·rw [iP h]
   obtain ⟨x,r,rfl,hx,hxt⟩:=ma h
   rw [it]
   simp only [bSq]
   rw [wrs k oM]
   refine bi ⟨⟨k+1,rfl,by omega,c++[x],by rw [hc];simp,?_,fun y hy=>?_⟩,?_⟩
   ·rw [List.map_append,hcm,ng W hlt]
    simp only [lit,List.mem_singleton] at hxt
    simp [hxt]
   ·rcases List.mem_append.1 hy with h|h
    ·exact hck y h
    ·rw [List.mem_singleton.1 h];exact hx
   ·show W.length - ((k+1:Nat):Int).toNat<W.length - ((k:Nat):Int).toNat
    omega
  ·rw [iN h]
   have g':f9 E l5:=⟨by have:=g.1;rw [hc,List.length_append] at this;exact Nat.le_trans (Nat.le_add_left _ _) this,fun x hx=>g.2 x (by rw [hc];exact List.mem_append_right _ hx)⟩
   refine bt (gu dM hE g') fun a ha=>bi ha
 ·rw [iN oM]
  refine bi ⟨c,hc,?_,hck⟩
  rw [hcm,List.take_of_length_le oM]
theorem fL{E o t:Int}(W:List (List UInt8)){l:List aa}(hE:0≤E)(g:f9 E l)(hW:W.length≤1000∧0<W.length∧([125]:List UInt8) ∉ W) :
  Pn (ay W ⟨l,E,o,t⟩) (Po E fun l'=>Cs l l') :=
 ny (xJ W hW.1 hE g) fun l' ⟨c,h,hm,hk⟩=>by
  refine ⟨⟨c,h,fun x hx=>mH (W:=W) (by rw [← hm];exact List.mem_map_of_mem hx) hW.2.2⟩,?_⟩
  rw [h,List.length_append]
  have:c.length=W.length:=by rw [← hm,List.length_map]
  omega
theorem jI{n b:Nat}(h:n≤9000001)(hb:b≤1000):dV n b:=by
 unfold dV maxLen
 have:=Nat.mul_le_mul h hb
 omega
theorem wB{E o t:Int}{l:List aa}{L:List (List UInt8)}(h:isB L l=true)(hL:([125]:List UInt8) ∉ L):Pn (aq ⟨l,E,o,t⟩) (fun r=>Cs l r.2∧l=r.1 :: r.2∧r.1.text∈L):=by
 obtain ⟨x,r,rfl,_,hx⟩:=ma h
 rw [it];exact bi ⟨qH (mH hx hL),rfl,hx⟩
theorem uy{E o t:Int}{l:List aa}(n:Int)(hE:0≤E)(g:f9 E l):Pn (dQ n ⟨l,E,o,t⟩) (Po E fun r=>Cs l r.2):=by
 have hj:Pn (cp n ⟨l,E,o,t⟩) (Po E fun r=>Cs l r.2):=by
  unfold cp
  refine dy (zg hE g) fun a ha=>?_
  refine bt (lD [42] dM) fun b hb=>?_
  split
  ·exact dy (mI hE (hb.good (ha.good g))) fun c hc=>eD ((ha.rd hb).trans hc)
  ·exact eD (ha.rd hb)
 unfold dQ
 cases l with
 |nil=>rw [iN (by simp)];exact hj
 |cons x r =>
  rw [iP (by simp),iP (by simp)]
  split
  ·exact dy (mI hE g) fun c hc=>eD hc
  ·exact hj
theorem sg{E o t:Int}{l:List aa}(hE:0≤E)(g:f9 E l):Pn (cD ⟨l,E,o,t⟩) (Po E fun r=>Cs l r.2∧r.1.length≤9000000):=by
 have hj:∀ (l1:List aa) (n:Int),Rd l l1→Pn (cr ⟨l,E,o,t⟩ l1 n) (Po E fun r=>Cs l r.2∧r.1.length≤9000000):=by
  intro l1 n h1
  unfold cr
  refine dy (uy n hE (h1.good g)) fun a ha=>?_
  refine nA (fun s=>Cs l s.1∧s.2.length+s.1.length≤l.length) (fun s=>s.1.length) (fun s=>Cs l s.1∧s.2.length≤9000000) ⟨h1.cs ha,?_⟩ ?_ fun b hb=>eD hb
  ·have:=(h1.cs ha).2;simp only [lit,List.length_cons,List.length_nil];omega
  ·rintro ⟨l25,l26⟩ ⟨hc,hl⟩
   have hc:Cs l l25:=hc
   have hl:l26.length+l25.length≤l.length:=hl
   have hg:=g.1
   show Pn (dB ⟨l,E,o,t⟩ l25 l26) _
   unfold dB
   refine bt (jH _ (by simp [lit])) fun b hb=>?_
   subst hb
   split
   ·rename_i hi
    split
    ·exact pV (gu dM hE (hc.good g))
    ·refine bt (wB hi (by simp [lit])) fun c hcn=>?_
     have key:∀ n,Pn (cq ⟨l,E,o,t⟩ l26 c.2 n) (Pl E (fun s'=>(Cs l s'.1∧s'.2.length+s'.1.length≤l.length)∧s'.1.length<l25.length) (fun s=>Cs l s.1∧s.2.length≤9000000) (fun r=>Cs l r.2∧r.1.length≤9000000)):=by
      intro n
      unfold cq
      refine nY (uy n hE ((hc.trans hcn.1).good g)) fun d hd=>?_
      have:=hcn.1.2
      have:=hd.2
      rw [iP (jI oM dM)]
      refine bi ⟨⟨(hc.trans hcn.1).trans hd,?_⟩,?_⟩
      ·show (l26++lit [d.1]).length+d.2.length≤l.length
       rw [List.length_append];simp only [lit,List.length_cons,List.length_nil];omega
      ·show d.2.length<l25.length
       omega
     split
     ·exact key _
     ·exact key _
   ·exact bi ⟨hc,by show l26.length≤_;omega⟩
 unfold cD
 refine bt (lD [45] dM) fun b hb=>?_
 split
 ·exact hj _ _ hb
 ·exact hj _ _ hb
theorem zh{E o t:Int}{l:List aa}(hE:0≤E)(g:f9 E l):Pn (d8 ⟨l,E,o,t⟩) (Po E fun r=>Cs l r.2∧r.1.n.length≤9000000):=by
 unfold d8
 refine bt (jH _ (by simp [lit])) fun b hb=>?_
 subst hb
 split
 ·rename_i hi
  refine bt (wB hi (by simp [lit])) fun c hc=>?_
  rw [iP (by
   have:=hc.2.2
   simp only [lit,List.mem_cons,List.not_mem_nil,or_false] at this
   rcases this with h|h<;>rw [h]<;>decide)]
  refine bt (lD [94] dM) fun d hd=>?_
  split
  ·exact dy (sg hE (hd.good (hc.1.good g))) fun e he=>eD ⟨(hc.1.rd hd).trans he.1,he.2⟩
  ·exact eD ⟨hc.1.rd hd,Nat.zero_le _⟩
 ·exact mF (gu dM hE g)
theorem uz{E o t:Int}{l:List aa}(hE:0≤E)(g:f9 E l):Pn (cE ⟨l,E,o,t⟩) (Po E fun r=>Cs l r.2∧r.1.t.n.length≤9000000):=by
 unfold cE
 refine dy (mI hE g) fun a ha=>?_
 refine dy (fL _ hE (ha.good g) (by simp [lit])) fun b hb=>?_
 refine dy (zh hE ((ha.trans hb).good g)) fun c hc=>eD ⟨(ha.trans hb).trans hc.1,hc.2⟩
theorem qJ{α β:Type}{E:Int}{l1:List aa}{acc:List β}{m:Option (α ⊕ (Int×Int))}{mb:α→Option (Bool×List aa)}{A:α→List aa}{K:α→Prop}
  {S:Type} {R:Type} {st:α→Bool×List aa→S} {rs:α→Bool×List aa→R} {rm:Nat} {C:S→Prop} {Q:R→Prop}
  (hm:Pn m (Po E fun a=>Cs l1 (A a)∧K a)) (hb:∀ a,Cs l1 (A a)→Pn (mb a) (fun r=>Rd (A a) r.2)) (hr:acc.length+1≤9000001) (hrm:rm≤1000)
  (hC:∀ a b,K a→Cs l1 b.2→C (st a b)) (hQ:∀ a b,K a→Cs l1 b.2→Q (rs a b)) :
  Pn (m.bind fun y=>Sum.elim (fun a=>if dV (acc.length+1) rm then ((mb a).bind fun b=>if b.1=true then some (.inl (st a b)) else some (.inr (.inl (rs a b)))) else none) (fun z=>some (.inr (.inr (z.1,z.2)))) y)
   (Sum.elim C (Po E Q)):=by
 obtain ⟨x,rfl,hx⟩:=hm
 cases x with
 |inr z=>exact bi hx
 |inl a =>
  show Pn (if dV (acc.length+1) rm then _ else none) _
  rw [iP (jI hr hrm)]
  refine bt (hb a hx.1) fun b hb'=>?_
  split
  ·exact bi (hC a b hx.2 (Cs.rd hx.1 hb'))
  ·exact bi (hQ a b hx.2 (Cs.rd hx.1 hb'))
theorem nZ{E o t:Int}{l:List aa}(n:Int)(hE:0≤E)(g:f9 E l):Pn (dG n ⟨l,E,o,t⟩) (Po E fun r=>Cs l r.2∧r.1.length≤9000000∧∀ x∈r.1,True):=by
 unfold dG
 refine bt (P:=Po E fun r=>Cs l r.2∧r.1.length≤9000000∧∀ x∈r.1,True) ?_ fun a ha=>bi ha
 refine mG (fun s=>Rd l s.1∧s.2.length+s.1.length≤l.length∧∀ x∈s.2,True) (fun s=>s.1.length) ⟨Rd.refl _,by simp,fun _ h=>nomatch h⟩ ?_
 rintro ⟨l13,l14⟩ ⟨hc,hl,hk⟩
 have hc:Rd l l13:=hc
 have hl:l14.length+l13.length≤l.length:=hl
 have hk:∀ x∈l14,True:=hk
 show Pn (eV n ⟨l,E,o,t⟩ l13 l14) _
 unfold eV
 have:=g.1
 split
 ·exact bt (gu dM hE (hc.good g)) fun a ha=>bi ha
 ·refine qJ (A:=fun a=>a.2) (K:=fun a=>∀ x∈lit [a.1],True) (nw (mI hE (hc.good g)) fun a ha=>?_) (fun a _=>lD [44] dM) oM dM (fun a b ha h=>⟨⟨(hc.cs h).1,?_,?_⟩,h.2⟩) (fun a b ha h=>⟨hc.cs h,?_,?_⟩)
  ·cases a with
   |inl a=>exact ⟨ha,fun _ _=>trivial⟩
   |inr f=>exact ha
  ·have:=h.2
   show (l14++lit [a.1]).length+b.2.length≤l.length
   rw [List.length_append];simp only [lit,List.length_cons,List.length_nil];omega
  ·exact fun x hx=>(List.mem_append.1 hx).elim (hk x) (ha x)
  ·have:=h.2
   show (l14++lit [a.1]).length≤9000000
   rw [List.length_append];simp only [lit,List.length_cons,List.length_nil];omega
  ·exact fun x hx=>(List.mem_append.1 hx).elim (hk x) (ha x)
theorem mQ{E o t:Int}{l:List aa}(n:Int)(hE:0≤E)(g:f9 E l):Pn (da n ⟨l,E,o,t⟩) (Po E fun r=>Cs l r.2∧r.1.length≤9000000∧∀ x∈r.1,x.t.n.length≤9000000):=by
 unfold da
 refine bt (P:=Po E fun r=>Cs l r.2∧r.1.length≤9000000∧∀ x∈r.1,x.t.n.length≤9000000) ?_ fun a ha=>bi ha
 refine mG (fun s=>Rd l s.1∧s.2.length+s.1.length≤l.length∧∀ x∈s.2,x.t.n.length≤9000000) (fun s=>s.1.length) ⟨Rd.refl _,by simp,fun _ h=>nomatch h⟩ ?_
 rintro ⟨l13,l14⟩ ⟨hc,hl,hk⟩
 have hc:Rd l l13:=hc
 have hl:l14.length+l13.length≤l.length:=hl
 have hk:∀ x∈l14,x.t.n.length≤9000000:=hk
 show Pn (eq n ⟨l,E,o,t⟩ l13 l14) _
 unfold eq
 have:=g.1
 split
 ·exact bt (gu dM hE (hc.good g)) fun a ha=>bi ha
 ·refine qJ (A:=fun a=>a.2) (K:=fun a=>∀ x∈lit [aI.mk a.1.name a.1.t],x.t.n.length≤9000000) (nw (uz hE (hc.good g)) fun a ha=>?_) (fun a _=>lD [44] dM) oM dM (fun a b ha h=>⟨⟨(hc.cs h).1,?_,?_⟩,h.2⟩) (fun a b ha h=>⟨hc.cs h,?_,?_⟩)
  ·cases a with
   |inl a=>exact ⟨ha.1,fun x hx=>by rw [List.mem_singleton.1 hx];exact ha.2⟩
   |inr f=>exact ha
  ·have:=h.2
   show (l14++lit [aI.mk a.1.name a.1.t]).length+b.2.length≤l.length
   rw [List.length_append];simp only [lit,List.length_cons,List.length_nil];omega
  ·exact fun x hx=>(List.mem_append.1 hx).elim (hk x) (ha x)
  ·have:=h.2
   show (l14++lit [aI.mk a.1.name a.1.t]).length≤9000000
   rw [List.length_append];simp only [lit,List.length_cons,List.length_nil];omega
  ·exact fun x hx=>(List.mem_append.1 hx).elim (hk x) (ha x)
theorem pO{E o t:Int}{l:List aa}(n:Int)(hE:0≤E)(g:f9 E l):Pn (dY n ⟨l,E,o,t⟩) (Po E fun r=>Cs l r.2∧r.1.length≤9000000∧∀ x∈r.1,x.length≤9000000):=by
 unfold dY
 refine bt (P:=Po E fun r=>Cs l r.2∧r.1.length≤9000000∧∀ x∈r.1,x.length≤9000000) ?_ fun a ha=>bi ha
 refine mG (fun s=>Rd l s.1∧s.2.length+s.1.length≤l.length∧∀ x∈s.2,x.length≤9000000) (fun s=>s.1.length) ⟨Rd.refl _,by simp,fun _ h=>nomatch h⟩ ?_
 rintro ⟨l13,l14⟩ ⟨hc,hl,hk⟩
 have hc:Rd l l13:=hc
 have hl:l14.length+l13.length≤l.length:=hl
 have hk:∀ x∈l14,x.length≤9000000:=hk
 show Pn (fg n ⟨l,E,o,t⟩ l13 l14) _
 unfold fg
 have:=g.1
 split
 ·exact bt (gu dM hE (hc.good g)) fun a ha=>bi ha
 ·refine qJ (A:=fun a=>a.2) (K:=fun a=>∀ x∈lit [a.1],x.length≤9000000) (nw (sg hE (hc.good g)) fun a ha=>?_) (fun a _=>lD [44] dM) oM dM (fun a b ha h=>⟨⟨(hc.cs h).1,?_,?_⟩,h.2⟩) (fun a b ha h=>⟨hc.cs h,?_,?_⟩)
  ·cases a with
   |inl a=>exact ⟨ha.1,fun x hx=>by rw [List.mem_singleton.1 hx];exact ha.2⟩
   |inr f=>exact ha
  ·have:=h.2
   show (l14++lit [a.1]).length+b.2.length≤l.length
   rw [List.length_append];simp only [lit,List.length_cons,List.length_nil];omega
  ·exact fun x hx=>(List.mem_append.1 hx).elim (hk x) (ha x)
  ·have:=h.2
   show (l14++lit [a.1]).length≤9000000
   rw [List.length_append];simp only [lit,List.length_cons,List.length_nil];omega
  ·exact fun x hx=>(List.mem_append.1 hx).elim (hk x) (ha x)
abbrev RX:=(af×(List aa)×Int×Int) ⊕ (Int×Int)
def SzO(s:List (List ai)):Prop:=s.length≤9000000∧∀ d∈s,d.length≤9000000
theorem mJ:SzO []:=⟨by decide,fun _ h=>nomatch h⟩
def Hd:Nat→af→Prop
 |0,_=>False
 |n+1,x=>x.l.length≤9000000∧SzO x.s∧∀ y∈x.l,Hd n y
theorem e8:∀ {n m:Nat} {x:af},n≤m→Hd n x→Hd m x
 |0,_,_,_,h=>nomatch h
 |n+1,0,_,h,_=>absurd h oM
 |n+1,m+1,x,h,⟨h1,h2,h3⟩=>⟨h1,h2,fun y hy=>e8 oM (h3 y hy)⟩
theorem nC{n m:Nat}{x:af}(h:n<m)(h1:x.l.length≤9000000)(h2:SzO x.s)(h3:∀ y∈x.l,Hd n y):Hd m x:=e8 (n:=n+1) h ⟨h1,h2,h3⟩
theorem sh{m:Nat}{op k n:Int}{w:List UInt8}(h:0<m):Hd m (af.mk op k n w [] []):=nC (n:=0) h (Nat.zero_le _) mJ fun _ h=>nomatch h
abbrev Ex(l:List aa)(o:Int)(r:af×(List aa)×Int×Int):Prop:=Cs l r.2.1∧r.2.2.1=o∧Hd (l.length - r.2.1.length) r.1
def RK(E:Int)(rc:Int→ae→Option RX)(k:Int):Prop :=
 ∀ (n o t:Int) (l:List aa),0≤n→n≤5→0≤o→o≤60→7 * (60 - o)+(6 - n)≤k→f9 E l→Pn (rc n ⟨l,E,o,t⟩) (Po E (Ex l o))
def AK(E om:Int)(rc:ae→Option RX)(k:Int):Prop :=
 ∀ (o t:Int) (l:List aa),om≤o→o≤60→61 - o≤k→f9 E l→Pn (rc ⟨l,E,o,t⟩) (Po E (Ex l o))
def Nx(l:List aa):Prop:=∃ x r,l=x :: r∧br x=false
theorem qK{L:List (List UInt8)}{l:List aa}(h:isB L l=true)(hL:([125]:List UInt8) ∉ L):Nx l:=by
 obtain ⟨x,r,rfl,_,hx⟩:=ma h;exact ⟨x,r,rfl,mH hx hL⟩
theorem ry{E o t:Int}{l:List aa}(h:Nx l):Pn (aq ⟨l,E,o,t⟩) (fun r=>Cs l r.2):=by
 obtain ⟨x,r,rfl,hx⟩:=h
 rw [it];exact bi (qH hx)
theorem nD{E o t:Int}{l:List aa}(ho0:0≤o)(ho:o≤60)(hE:0≤E)(g:f9 E l)(hx:Nx l){X:ae→Option RX}{H:af→List aa→Prop}
  (hX:∀ l1,Cs l l1→o<60→Pn (X ⟨l1,E,o+1,t⟩) (Po E fun r=>Cs l1 r.2.1∧r.2.2.1=o+1∧H r.1 r.2.1)) :
  Pn (if o=60 then (an 6 ⟨l,E,o,t⟩).bind (fun y=>some (.inr (y.1,y.2))) else (aq ⟨l,E,IntKind.wrap .i64 (o+1),t⟩).bind fun y2 =>
   (X ⟨y2.2,E,IntKind.wrap .i64 (o+1),t⟩).bind fun y3=>Sum.elim (fun y6=>some (.inl (y6.1,y6.2.1,IntKind.wrap .i64 (y6.2.2.1 - 1),y6.2.2.2))) (fun y7=>some (.inr (y7.1,y7.2))) y3) (Po E fun r=>Cs l r.2.1∧r.2.2.1=o∧H r.1 r.2.1):=by
 split
 ·exact mF (gu dM hE g)
 ·rw [wr oM oM]
  refine bt (ry hx) fun y hy=>?_
  refine dy (hX _ hy oM) fun a ha=>eD ⟨hy.trans ha.1,?_,ha.2.2⟩
  show IntKind.wrap .i64 (a.2.2.1 - 1)=o
  rw [ha.2.1,wr oM oM];omega
theorem vm{E o t k:Int}{l:List aa}{rc:Int→ae→Option RX}(ho0:0≤o)(ho:o≤60)(hE:0≤E)(g:f9 E l)(hr:RK E rc k)(hk:7 * (60 - o)+6≤k) :
  Pn (cM rc ⟨l,E,o,t⟩) (Po E (Ex l o)):=by
 unfold cM
 refine dy (hr 0 o t l dM dM ho0 ho oM g) fun a ha=>?_
 refine dy (fL _ hE (ha.1.good g) (by simp [lit])) fun b hb=>eD ⟨ha.1.trans hb,ha.2.1,e8 (by have:=hb.2;show l.length - a.2.1.length≤l.length - b.length;omega) ha.2.2⟩
theorem vn{E o t k:Int}{l:List aa}{rc:Int→ae→Option RX}(ho0:0≤o)(ho:o≤60)(hE:0≤E)(g:f9 E l)(hr:RK E rc k)(hk:7 * (60 - o)+6≤k) :
  Pn (cN rc ⟨l,E,o,t⟩) (Po E (Ex l o)):=by
 unfold cN
 refine dy (hr 0 o t l dM dM ho0 ho oM g) fun a ha=>?_
 have ga:=ha.1.good g
 refine dy (fL _ hE ga (by simp [lit])) fun b hb=>?_
 have gb:=hb.good ga
 simp only [ha.2.1]
 refine dy (hr 0 o _ _ dM dM ho0 ho oM gb) fun c hc=>?_
 have gc:=hc.1.good gb
 refine dy (fL _ hE gc (by simp [lit])) fun d hd=>?_
 have gd':=hd.good gc
 simp only [hc.2.1]
 refine dy (hr 0 o _ _ dM dM ho0 ho oM gd') fun e he=>?_
 have h1:=ha.1.2
 have h2:=hb.2
 have h3:=hc.1.2
 have h4:=hd.2
 have h5:=he.1.2
 refine eD ⟨(((ha.1.trans hb).trans hc.1).trans hd).trans he.1,he.2.1,nC (n:=l.length - e.2.1.length - 1) (by show _<l.length - e.2.1.length;omega) (Nat.le_of_ble_eq_true rfl) mJ fun y hy=>?_⟩
 simp only [lit,List.mem_cons,List.not_mem_nil,or_false] at hy
 rcases hy with rfl|rfl|rfl
 ·exact e8 oM ha.2.2
 ·exact e8 oM hc.2.2
 ·exact e8 oM he.2.2
theorem tJ{E o t k:Int}{l:List aa}{rc:Int→ae→Option RX}(x:af)(ho0:0≤o)(ho:o≤60)(hE:0≤E)(g:f9 E l)(hr:RK E rc k)(hk:7 * (60 - o)+6≤k) :
  Pn (cw rc x ⟨l,E,o,t⟩) (Po E fun r=>Cs l r.2.1∧r.2.2.1=o∧∀ n,Hd n x→Hd (n+(l.length - r.2.1.length)) r.1):=by
 unfold cw
 refine dy (hr 0 o t l dM dM ho0 ho oM g) fun a ha=>?_
 have ga:=ha.1.good g
 refine dy (fL _ hE ga (by simp [lit])) fun b hb=>?_
 have gb:=hb.good ga
 simp only [ha.2.1]
 refine dy (hr 0 o _ _ dM dM ho0 ho oM gb) fun c hc=>?_
 have gc:=hc.1.good gb
 refine qG rfl ?_
 refine dy (fL _ hE gc (by simp [lit])) fun d hd=>?_
 have h1:=ha.1.2
 have h2:=hb.2
 have h3:=hc.1.2
 have h4:=hd.2
 refine eD ⟨((ha.1.trans hb).trans hc.1).trans hd,hc.2.1,fun n hxn=>nC (n:=n+(l.length - d.length) - 1) (by show _<n+(l.length - d.length);omega) (Nat.le_of_ble_eq_true rfl) mJ fun y hy=>?_⟩
 simp only [lit,List.mem_cons,List.not_mem_nil,or_false] at hy
 rcases hy with rfl|rfl|rfl
 ·exact e8 oM hxn
 ·exact e8 oM ha.2.2
 ·exact e8 oM hc.2.2
theorem tK{E om o t k n:Int}{l:List aa}{rc:ae→Option RX}(ho0:om≤o)(ho:o≤60)(g:f9 E l)(hr:AK E om rc k)(hk:61 - o≤k) :
  Pn (bP rc n ⟨l,E,o,t⟩) (Po E fun r=>Cs l r.2.1∧r.2.2.1=o∧Hd (l.length - r.2.1.length+1) r.1):=by
 unfold bP
 exact dy (hr o t l ho0 ho hk g) fun a ha=>eD ⟨ha.1,ha.2.1,nC (n:=l.length - a.2.1.length) (Nat.lt_succ_self _) (Nat.le_of_ble_eq_true rfl) mJ fun y hy=>by rw [List.mem_singleton.1 hy];exact ha.2.2⟩
theorem rz(x:List UInt8)(l:List (List UInt8))(h:l.length≤9000000):dj x l=some (nL l x):=by
 rw [← nf l x h];rfl
theorem uA{E o t:Int}{l:List aa}:Pn (cF ⟨l,E,o,t⟩) (fun w=>w≠[]→∃ x r,l=x :: r∧x.text=w):=by
 unfold cF
 cases l with
 |nil=>rw [iP (by simp)];exact bi fun h=>absurd rfl h
 |cons x r =>
  rw [iN (by simp;omega),iP (by simp)]
  split
  ·exact bi fun h=>absurd rfl h
  ·exact bi fun _=>⟨x,r,rfl,rfl⟩
theorem sZ{E o t:Int}{l:List aa}(hE:0≤E)(g:f9 E l):Pn (cg ⟨l,E,o,t⟩) (Po E fun r=>Cs l r.2):=by
 unfold cg
 refine bt uA fun w hw=>?_
 refine qG (rz _ _ (by simp [lit])) ?_
 split
 ·exact mF (gu dM hE g)
 ·rename_i h
  have hm:=qI (L:=lit [([]:List UInt8),[97,100,100],[115,117,98],[109,117,108],[100,105,118],[109,111,100],[109,105,110],[109,97,120],[108,101,115,115],[101,113],[97,110,100],[111,114],[120,111,114],[110,101,103],[110,111,116]]) (x:=w) oM
  have hne:w≠[]:=fun e=>h (by rw [e];decide)
  obtain ⟨x,r,rfl,hx⟩:=hw hne
  refine bt (ry ⟨x,r,rfl,mH (W:=lit _) (hx ▸ hm) (by simp [lit])⟩) fun y hy=>eD hy
theorem wC{E o t k n:Int}{l:List aa}{rc:Int→ae→Option RX}(hn:0≤n∧n≤100)(ho0:0≤o)(ho:o≤60)(hE:0≤E)(g:f9 E l)(hr:RK E rc k)(hk:7 * (60 - o)+6≤k) :
  Pn (dX rc n ⟨l,E,o,t⟩) (Po E fun r=>Cs l r.2.1∧r.2.2.1=o∧r.1.length≤9000000∧∀ y∈r.1,Hd (l.length - r.2.1.length) y):=by
 unfold dX
 refine dy (hr 0 o t l dM dM ho0 ho oM g) fun a ha=>?_
 have hj:∀ x6,Pn (bx rc ⟨l,E,o,t⟩ a x6) (Po E fun r=>Cs l r.2.1∧r.2.2.1=o∧r.1.length≤9000000∧∀ y∈r.1,Hd (l.length - r.2.1.length) y):=by
  intro x6
  unfold bx
  refine nA (fun s=>Cs l s.1∧s.2.1=o∧s.2.2.2.length+s.1.length≤l.length∧∀ y∈s.2.2.2,Hd (l.length - s.1.length) y) (fun s=>s.1.length) (fun s=>Cs l s.1∧s.2.1=o∧s.2.2.2.length≤9000000∧∀ y∈s.2.2.2,Hd (l.length - s.1.length) y) ⟨ha.1,ha.2.1,?_,fun y hy=>by rw [List.mem_singleton.1 hy];exact ha.2.2⟩ ?_ fun b hb=>eD hb
  ·have:=ha.1.2;simp only [lit,List.length_cons,List.length_nil];omega
  ·rintro ⟨l30,x31,x32,l33⟩ ⟨hc,hx,hl,hkk⟩
   have hc:Cs l l30:=hc
   have hx:x31=o:=hx
   have hl:l33.length+l30.length≤l.length:=hl
   have hkk:∀ y∈l33,Hd (l.length - l30.length) y:=hkk
   have hg:=g.1
   subst hx
   show Pn (dq rc ⟨l,E,x31,t⟩ x6 l30 x31 x32 l33) _
   unfold dq
   split
   ·refine nY (fL _ hE (hc.good g) (by simp [lit])) fun b hb=>?_
    refine nY (hr 0 x31 _ _ dM dM ho0 ho oM ((hc.trans hb).good g)) fun c hcc=>?_
    have:=hb.2
    have:=hcc.1.2
    have:=g.1
    rw [iP (jI oM dM)]
    have:=hc.2
    refine bi ⟨⟨(hc.trans hb).trans hcc.1,hcc.2.1,?_,fun y hy=>?_⟩,?_⟩
    ·show (l33++lit [c.1]).length+c.2.1.length≤l.length
     rw [List.length_append];simp only [lit,List.length_cons,List.length_nil];omega
    ·rcases List.mem_append.1 hy with h|h
     ·exact e8 (by show _≤l.length - c.2.1.length;omega) (hkk y h)
     ·rw [List.mem_singleton.1 h];exact e8 (by show _≤l.length - c.2.1.length;omega) hcc.2.2
    ·show c.2.1.length<l30.length
     omega
   ·exact bi ⟨hc,rfl,by show l33.length≤_;omega,hkk⟩
 rw [iP dM,iP dM,iP dM,iP oM]
 split
 ·exact hj _
 ·split
  ·refine bt (jH _ (by simp [lit])) fun b hb=>?_
   split
   ·exact hj _
   ·exact hj _
  ·exact hj _
theorem vo{E o t k n p2 p3 p4:Int}{p5:List UInt8}{p6:List af}{l:List aa}{rc:Int→ae→Option RX}(hn:0≤n∧n≤100)(ho0:0≤o)(ho:o≤60)(hE:0≤E)(g:f9 E l)(hr:RK E rc k)(hk:7 * (60 - o)+6≤k) :
  Pn (dK rc n p2 p3 p4 p5 p6 ⟨l,E,o,t⟩ []) (Po E fun r=>Cs l r.2.2.2.2.2.2.2.1∧r.2.2.2.2.2.2.2.2.1=o∧Hd (l.length - r.2.2.2.2.2.2.2.1.length) (af.mk r.1 r.2.1 r.2.2.1 r.2.2.2.1 r.2.2.2.2.2.2.2.2.2.2 r.2.2.2.2.1)):=by
 have hj:∀ (x6:Int) (l7:List aa),Cs l l7→Pn (bC rc n p2 p4 p5 ⟨l,E,o,t⟩ [] x6 l7) (Po E fun r=>Cs l r.2.2.2.2.2.2.2.1∧r.2.2.2.2.2.2.2.2.1=o∧Hd (l.length - r.2.2.2.2.2.2.2.1.length) (af.mk r.1 r.2.1 r.2.2.1 r.2.2.2.1 r.2.2.2.2.2.2.2.2.2.2 r.2.2.2.2.1)):=by
  intro x6 l7 h7
  unfold bC
  refine dy (wC hn ho0 ho hE (h7.good g) hr hk) fun a ha=>?_
  rw [iP dM,iP oM]
  refine nA (fun s=>Rd a.2.1 s.1∧s.2.1.length+s.1.length≤l.length∧∀ y∈s.2.1,y.length≤9000000) (fun s=>s.1.length) (fun s=>Rd a.2.1 s.1∧SzO s.2) ⟨Rd.refl _,?_,fun _ h=>nomatch h⟩ ?_ ?_
  ·have:=(h7.trans ha.1).2;simp only [List.length_nil];omega
  ·rintro ⟨l38,l39,x41⟩ ⟨hc0,hl,hs⟩
   have hc0:Rd a.2.1 l38:=hc0
   have hs:∀ y∈l39,y.length≤9000000:=hs
   have hc:Cs l l38:=(h7.trans ha.1).rd hc0
   have hg:=g.1
   have hl:l39.length+l38.length≤l.length:=hl
   show Pn (c8 n ⟨l,E,o,t⟩ a l38 l39 x41) _
   unfold c8
   split
   ·refine nY (fL _ hE (hc.good g) (by simp [lit])) fun b hb=>?_
    refine nY (sg hE ((hc.trans hb).good g)) fun c hcs=>?_
    have hcc:=hcs.1
    have:=hb.2
    have:=hcc.2
    have:=g.1
    rw [iP (jI oM dM)]
    refine bi ⟨⟨(hc0.cs (hb.trans hcc)).1,?_,fun y hy=>?_⟩,?_⟩
    ·show (l39++lit [c.1]).length+c.2.length≤l.length
     rw [List.length_append];simp only [lit,List.length_cons,List.length_nil];omega
    ·rcases List.mem_append.1 hy with h|h
     ·exact hs y h
     ·rw [List.mem_singleton.1 h];exact hcs.2
    ·show c.2.length<l38.length
     omega
   ·exact bi ⟨hc0,by show l39.length≤_;omega,hs⟩
  ·rintro ⟨l15,l16⟩ ⟨hc0,hs⟩
   show Pn (bO p2 p4 p5 ⟨l,E,o,t⟩ x6 a l15 l16) _
   unfold bO
   have hc0:Rd a.2.1 l15:=hc0
   have hs:SzO l16:=hs
   have hc:Cs l l15:=(h7.trans ha.1).rd hc0
   refine dy (fL _ hE (hc.good g) (by simp [lit])) fun b hb=>?_
   have h1:=h7.2
   have h2:=ha.1.2
   have h3:=hc0.len
   have h4:=hb.2
   exact eD ⟨hc.trans hb,ha.2.1,nC (n:=l7.length - a.2.1.length) (by show _<l.length - b.length;omega) ha.2.2.1 hs fun y hy=>ha.2.2.2 y hy⟩
 unfold dK
 refine dy (fL _ hE g (by simp [lit])) fun a ha=>?_
 split
 ·split
  ·refine dy (sZ hE (ha.good g)) fun b hb=>?_
   refine dy (fL _ hE ((ha.trans hb).good g) (by simp [lit])) fun c hc=>?_
   exact hj _ _ ((ha.trans hb).trans hc)
  ·exact hj _ _ ha
 ·exact hj _ _ ha
theorem si{E o t k n p3 p4 p5:Int}{p6:List UInt8}{p7:List af}{l:List aa}{rc:Int→ae→Option RX}(hn:0≤n∧n≤100)(ho0:0≤o)(ho:o≤60)(hE:0≤E)(g:f9 E l)(hx:Nx l)(hr:RK E rc k)(hk:7 * (60 - o)≤k) :
  Pn (ed rc ⟨l,E,o,t⟩ n p3 p4 p5 p6 p7 []) (Po E fun r=>Cs l r.2.2.2.2.2.1∧r.2.2.2.2.2.2.1=o∧Hd (l.length - r.2.2.2.2.2.1.length) (af.mk r.1 r.2.1 r.2.2.1 r.2.2.2.1 r.2.2.2.2.2.2.2.2.2.2 r.2.2.2.2.1)):=by
 unfold ed
 split
 ·exact mF (gu dM hE g)
 ·rename_i h60
  have h60:¬ o=60:=h60
  simp only [wr (n:=o+1) oM oM]
  refine bt (ry hx) fun y hy=>?_
  refine dy (vo hn oM oM hE (hy.good g) hr oM) fun a ha=>eD ⟨hy.trans ha.1,?_,e8 (by have:=hy.2;show _≤l.length - a.2.2.2.2.2.2.2.1.length;omega) ha.2.2⟩
  show IntKind.wrap .i64 (a.2.2.2.2.2.2.2.2.1 - 1)=o
  rw [ha.2.1,wr oM oM];omega
theorem xK{E o t k:Int}{l:List aa}{rc:Int→ae→Option RX}(ho0:0≤o)(ho:o≤60)(hE:0≤E)(g:f9 E l)(hr:RK E rc k)(hk:7 * (60 - o)≤k) :
  Pn (dv rc ⟨l,E,o,t⟩) (Po E (Ex l o)):=by
 unfold dv
 refine bt uA fun w hw=>?_
 refine qG (rz _ _ (by simp [lit])) ?_
 split
 ·exact mF (gu dM hE g)
 ·rename_i h
  have h:¬ nL (lit [([109,97,112]:List UInt8),[102,111,108,100],[115,99,97,110],[102,105,108,108],[119,105,116,104],[115,108,105,99,101],[99,97,116],[112,114,101],[109,105,110],[109,97,120]]) w<0:=h
  have hm:=qI (Int.not_lt.1 h)
  have hlt:=uw (L:=lit [([109,97,112]:List UInt8),[102,111,108,100],[115,99,97,110],[102,105,108,108],[119,105,116,104],[115,108,105,99,101],[99,97,116],[112,114,101],[109,105,110],[109,97,120]]) (x:=w)
  have hne:w≠[]:=fun e=>by rw [e] at hm;revert hm;decide
  obtain ⟨x,r,rfl,hx⟩:=hw hne
  have hx:Nx (x :: r):=⟨x,r,rfl,mH (hx ▸ hm) (by simp [lit])⟩
  have hlt:nL (lit [([109,97,112]:List UInt8),[102,111,108,100],[115,99,97,110],[102,105,108,108],[119,105,116,104],[115,108,105,99,101],[99,97,116],[112,114,101],[109,105,110],[109,97,120]]) w<10:=hlt
  generalize nL (lit [([109,97,112]:List UInt8),[102,111,108,100],[115,99,97,110],[102,105,108,108],[119,105,116,104],[115,108,105,99,101],[99,97,116],[112,114,101],[109,105,110],[109,97,120]]) w=y2 at *
  rw [iP ⟨by omega,hlt⟩]
  have hj:∀ x4,Pn (bQ rc ⟨x :: r,E,o,t⟩ y2 x4) (Po E (Ex (x :: r) o)):=by
   intro x4
   unfold bQ
   refine dy (si ?_ ho0 ho hE g hx hr hk) fun a ha=>eD ⟨ha.1,ha.2⟩
   have:∀ i,i<10→0≤(lit ([7,8,9,10,12,13,14,15,5,5]:List Int)).getD i default∧(lit ([7,8,9,10,12,13,14,15,5,5]:List Int)).getD i default≤100:=by decide
   exact this y2.toNat oM
  split
  ·exact hj _
  ·split
   ·exact hj _
   ·exact hj _
theorem xL{E o t k:Int}{l:List aa}{rc:Int→ae→Option RX}(ho0:0≤o)(ho:o≤60)(hE:0≤E)(g:f9 E l)(hr:RK E rc k)(hk:7 * (60 - o)≤k) :
  Pn (dR rc ⟨l,E,o,t⟩) (Po E (Ex l o)):=by
 have hf:Pn (bG rc ⟨l,E,o,t⟩) (Po E (Ex l o)):=by
  unfold bG
  exact dy (xK ho0 ho hE g hr hk) fun a ha=>eD ⟨ha.1,ha.2⟩
 have h8:isB (lit [[40]]) l=true→Pn (bJ rc ⟨l,E,o,t⟩) (Po E (Ex l o)):=fun hi=>by
  unfold bJ
  exact nD (H:=fun x l'=>Hd (l.length - l'.length) x) ho0 ho hE g (qK hi (by simp [lit])) fun l1 h1 h=>ny (vm oM oM hE (h1.good g) hr oM) fun a ha=>⟨ha.1,ha.2.1,e8 (by have:=h1.2;omega) ha.2.2⟩
 have h9:isB (lit [[105,102]]) l=true→Pn (bK rc ⟨l,E,o,t⟩) (Po E (Ex l o)):=fun hi=>by
  unfold bK
  exact nD (H:=fun x l'=>Hd (l.length - l'.length) x) ho0 ho hE g (qK hi (by simp [lit])) fun l1 h1 h=>ny (vn oM oM hE (h1.good g) hr oM) fun a ha=>⟨ha.1,ha.2.1,e8 (by have:=h1.2;omega) ha.2.2⟩
 unfold dR
 cases l with
 |nil =>
  rw [iN (by simp),iN (by simp)]
  refine bt (jH _ (by simp [lit])) fun b hb=>?_
  subst hb
  rw [iN (by simp [isB])]
  refine bt (jH _ (by simp [lit])) fun b hb=>?_
  subst hb
  rw [iN (by simp [isB])]
  refine bt (jH _ (by simp [lit])) fun b hb=>?_
  subst hb
  rw [iN (by simp [isB])]
  exact hf
 |cons x r =>
  rw [iP (by simp),iP (by simp)]
  simp only [List.getD_cons_zero]
  split
  ·rename_i h3
   refine bt (ry ⟨x,r,rfl,wA g h3⟩) fun y hy=>eD ⟨hy,rfl,sh (by have:=hy.2;show 0<(x :: r).length - y.2.length;omega)⟩
  ·rw [iP (by simp)]
   split
   ·exact dy (mI hE g) fun a ha=>eD ⟨ha,rfl,sh (by have:=ha.2;show 0<(x :: r).length - a.2.length;omega)⟩
   ·refine bt (jH _ (by simp [lit])) fun b hb=>?_
    subst hb
    split
    ·rename_i hi
     refine bt (wB hi (by simp [lit])) fun y hy=>?_
     split<;>exact eD ⟨hy.1,rfl,sh (by have:=hy.1.2;show 0<(x :: r).length - y.2.length;omega)⟩
    ·refine bt (jH _ (by simp [lit])) fun b hb=>?_
     subst hb
     split
     ·rename_i hi
      exact dy (h8 hi) fun a ha=>eD ⟨ha.1,ha.2⟩
     ·refine bt (jH _ (by simp [lit])) fun b hb=>?_
      subst hb
      split
      ·rename_i hi
       exact dy (h9 hi) fun a ha=>eD ⟨ha.1,ha.2⟩
      ·exact hf
theorem tL{E om o t k ka:Int}{l:List aa}{rc:Int→ae→Option RX}{ra:ae→Option RX}(ho0:0≤o)(ho:o≤60)(hE:0≤E)(g:f9 E l)(hr:RK E rc k)(hk:7 * (60 - o)≤k)(hom:om≤o)(ha:AK E om ra ka)(hka:60 - o≤ka) :
  Pn (cx rc ra ⟨l,E,o,t⟩) (Po E (Ex l o)):=by
 unfold cx
 refine bt (jH _ (by simp [lit])) fun b hb=>?_
 subst hb
 split
 ·rename_i hi
  have hj:∀ n,Pn (cj ra ⟨l,E,o,t⟩ n) (Po E (Ex l o)):=by
   intro n
   unfold cj
   refine dy (A:=Ex l o) ?_ fun a ha=>eD ⟨ha.1,ha.2⟩
   unfold ff
   exact nD (H:=fun x l'=>Hd (l.length - l'.length) x) ho0 ho hE g (qK hi (by simp [lit])) fun l1 h1 h=>ny (tK oM oM (h1.good g) ha oM) fun a ha=>⟨ha.1,ha.2.1,e8 (by have:=h1.2;have:=ha.1.2;omega) ha.2.2⟩
  refine bt (jH _ (by simp [lit])) fun b hb=>?_
  split
  ·exact hj _
  ·exact hj _
 ·refine dy (xL ho0 ho hE g hr hk) fun a hae=>?_
  refine nA (fun s=>Ex l o (af.mk s.2.2.2.1 s.2.2.2.2.1 s.2.2.2.2.2.1 s.2.2.2.2.2.2.1 s.2.2.2.2.2.2.2.1 s.2.2.2.2.2.2.2.2,s.1,s.2.1,s.2.2.1)) (fun s=>s.1.length) (fun s=>Ex l o (af.mk s.2.2.2.1 s.2.2.2.2.1 s.2.2.2.2.2.1 s.2.2.2.2.2.2.1 s.2.2.2.2.2.2.2.1 s.2.2.2.2.2.2.2.2,s.1,s.2.1,s.2.2.1)) ⟨hae.1,hae.2.1,by cases a with|mk x y=>cases x;exact hae.2.2⟩ ?_ ?_
  ·rintro ⟨l41,x42,x43,x44,x45,x46,s47,l48,l49⟩ ⟨hc,hx,hd⟩
   have hc:Cs l l41:=hc
   have hx:x42=o:=hx
   subst hx
   show Pn (cK rc ⟨l,E,x42,t⟩ l41 x42 x43 x44 x45 x46 s47 l48 l49) _
   unfold cK
   refine bt (jH _ (by simp [lit])) fun b hb=>?_
   subst hb
   split
   ·rename_i hi
    have hn:=hc.2
    refine nY (A:=fun r=>Cs l41 r.2.1∧r.2.2.1=x42∧Hd (l.length - r.2.1.length) r.1) ?_ fun a ha=>bi ⟨⟨hc.trans ha.1,ha.2.1,by cases a with|mk x y=>cases x;exact ha.2.2⟩,ha.1.2⟩
    unfold eX
    exact nD (H:=fun x l'=>Hd (l.length - l'.length) x) ho0 ho hE (hc.good g) (qK hi (by simp [lit])) fun l1 h1 h=>ny (tJ _ oM oM hE (h1.good (hc.good g)) hr oM) fun a ha=>⟨ha.1,ha.2.1,e8 (by have:=h1.2;have:=ha.1.2;show l.length - l41.length+_≤_;omega) (ha.2.2 _ hd)⟩
   ·exact bi ⟨hc,rfl,hd⟩
  ·rintro ⟨l41,x42,x43,x44,x45,x46,s47,l48,l49⟩ hc
   exact eD hc
theorem qL{E k:Int}{rc:Int→ae→Option RX}(hE:0≤E)(hr:RK E rc k)(om:Int)(h0:0≤om)(hk:7 * (60 - om)≤k):∀ m:Nat,AK E om (cy rc m) m
 |0,o,t,l,_,h2,h3,_=>absurd h3 oM
 |m+1,o,t,l,h1,h2,h3,g=>by
  show Pn (cx rc (cy rc m) ⟨l,E,o,t⟩) _
  exact tL oM h2 hE g hr oM h1 (qL hE hr om h0 hk m) oM
def opL:List (List (List UInt8)):=lit [lit [[111,114],[120,111,114]],lit [[97,110,100]],lit [[60],[61,61]],lit [[43],[45]],lit [[42],[47],[37]]]
def opN:List (List Int):=lit [lit [11,12],lit [10],lit [8,9],lit [1,2],lit [3,4,5]]
theorem wD:∀ i,i<5→(opL.getD i default).length=(opN.getD i default).length∧([125]:List UInt8) ∉ opL.getD i default∧(opL.getD i default).length≤3:=by decide
theorem yk{E o t n:Int}{l:List aa}(h0:0≤n)(h5:n<5):Pn (dW n ⟨l,E,o,t⟩) (fun k=>k≠0→Nx l):=by
 obtain ⟨f1,f2,f3⟩:=wD n.toNat oM
 unfold dW
 rw [iP ⟨h0,h5⟩]
 refine qG (pu (opL.getD n.toNat default) l E o t oM) ?_
 split
 ·rename_i hi
  obtain ⟨x,r,rfl,hk,hx⟩:=ma hi
  rw [iP (by simp)]
  refine qG (nf (opL.getD n.toNat default) x.text oM) ?_
  have h1:=xI hx
  have h2:=uw (L:=opL.getD n.toNat default) (x:=x.text)
  rw [f1] at h2
  split
  ·exact bi fun _=>⟨x,r,rfl,mH hx f2⟩
  ·rename_i hh
   exact absurd (And.intro h1 h2) hh
 ·exact bi fun h=>absurd rfl h
theorem vp{E o t k n:Int}{fuel:Nat}{l:List aa}{rc:Int→ae→Option RX}(hf:61≤fuel)(h0:0≤n)(h5:n≤5)(ho0:0≤o)(ho:o≤60)(hE:0≤E)(g:f9 E l)(hr:RK E rc k)(hk:7 * (60 - o)+(5 - n)≤k) :
  Pn (cO fuel rc n ⟨l,E,o,t⟩) (Po E (Ex l o)):=by
 unfold cO
 split
 ·rename_i h
  refine dy (A:=Ex l o) (qL hE hr o ho0 oM fuel o t l (Int.le_refl _) ho oM g) fun a ha=>eD ⟨ha.1,ha.2⟩
 ·rename_i h
  simp only [wr (n:=n+1) oM oM]
  refine dy (hr (n+1) o t l oM oM ho0 ho oM g) fun a ha=>?_
  refine bt (yk h0 oM) fun x20 hx20=>?_
  refine nA (fun s=>Ex l o (af.mk s.2.2.2.1 s.2.2.2.2.1 s.2.2.2.2.2.1 s.2.2.2.2.2.2.1 s.2.2.2.2.2.2.2.1 s.2.2.2.2.2.2.2.2.1,s.1,s.2.1,s.2.2.1)∧(s.2.2.2.2.2.2.2.2.2≠0→Nx s.1)) (fun s=>s.1.length) (fun s=>Ex l o (af.mk s.2.2.2.1 s.2.2.2.2.1 s.2.2.2.2.2.1 s.2.2.2.2.2.2.1 s.2.2.2.2.2.2.2.1 s.2.2.2.2.2.2.2.2,s.1,s.2.1,s.2.2.1)) ⟨⟨ha.1,ha.2.1,by cases a with|mk x y=>cases x;exact ha.2.2⟩,hx20⟩ ?_ ?_
  ·rintro ⟨l41,x42,x43,x44,x45,x46,s47,l48,l49,x50⟩ ⟨⟨hc,hx,hd0⟩,hn⟩
   have hc:Cs l l41:=hc
   have hx:x42=o:=hx
   have hd0:Hd (l.length - l41.length) (af.mk x44 x45 x46 s47 l48 l49):=hd0
   have hn:x50≠0→Nx l41:=hn
   subst hx
   show Pn (cZ rc n ⟨l,E,x42,t⟩ l41 x42 x43 x44 x45 x46 s47 l48 l49 x50) _
   unfold cZ
   split
   ·rename_i hne
    refine bt (ry (hn hne)) fun b hb=>?_
    simp only [wr (n:=n+1) oM oM]
    refine nY (hr (n+1) x42 _ _ oM oM ho0 ho oM ((hc.trans hb).good g)) fun c hcc=>?_
    refine qG rfl ?_
    have h1:=hc.2
    have h2:=hb.2
    have h3:=hcc.1.2
    have hd:∀ k,Hd (l.length - c.2.1.length) (af.mk 5 k 0 [] [] (lit [af.mk x44 x45 x46 s47 l48 l49,c.1])):=fun k=>nC (n:=l.length - c.2.1.length - 1) oM (Nat.le_of_ble_eq_true rfl) mJ fun y hy=>by
     simp only [lit,List.mem_cons,List.not_mem_nil,or_false] at hy
     rcases hy with rfl|rfl
     ·exact e8 oM hd0
     ·exact e8 oM hcc.2.2
    split
    ·exact bi ⟨(hc.trans hb).trans hcc.1,hcc.2.1,hd _⟩
    ·refine bt (yk h0 oM) fun d hd2=>bi ⟨⟨⟨(hc.trans hb).trans hcc.1,hcc.2.1,hd _⟩,hd2⟩,?_⟩
     exact (hb.trans hcc.1).2
   ·exact bi ⟨hc,rfl,hd0⟩
  ·rintro ⟨l41,x42,x43,x44,x45,x46,s47,l48,l49⟩ hc
   exact eD hc
theorem rA{E:Int}{fuel:Nat}(hf:61≤fuel)(hE:0≤E):∀ m:Nat,RK E (dr fuel m) m
 |0,n,o,t,l,h0,h5,ho0,ho,hk,_=>absurd hk oM
 |m+1,n,o,t,l,h0,h5,ho0,ho,hk,g=>by
  show Pn (cO fuel (dr fuel m) n ⟨l,E,o,t⟩) _
  exact vp hf h0 h5 ho0 ho hE g (rA hf hE m) oM
theorem uB{E o t:Int}{fuel:Nat}{l:List aa}(hf:430≤fuel)(ho0:0≤o)(ho:o≤60)(hE:0≤E)(g:f9 E l):Pn (cU fuel ⟨l,E,o,t⟩) (Po E (Ex l o)):=by
 have hj:∀ x1,0≤x1→x1≤E→Pn (bU fuel ⟨l,E,o,t⟩ x1) (Po E (Ex l o)):=by
  intro x1 h1 h2
  unfold bU
  refine dy (A:=Ex l o) (rA oM hE fuel 0 o 0 l dM dM ho0 ho oM g) fun a ha=>?_
  split
  ·exact ze (a:=(7,x1)) ⟨show (7:Int)≠0 by decide,h1,h2⟩
  ·exact eD ⟨ha.1,ha.2⟩
 unfold cU
 cases l with
 |nil=>rw [iN (by simp)];exact hj _ hE (Int.le_refl _)
 |cons x r =>
  rw [iP (by simp),iP (by simp)]
  exact hj _ (g.2 x (by simp)).2.1 (g.2 x (by simp)).2.2
theorem pP{E o t:Int}{fuel:Nat}{l:List aa}(n:Int)(hf:430≤fuel)(ho0:0≤o)(ho:o≤60)(hE:0≤E)(g:f9 E l):Pn (dZ fuel n ⟨l,E,o,t⟩) (Po E fun r=>Cs l r.2.1∧r.2.2.1=o∧r.1.length≤9000000∧∀ y∈r.1,Hd l.length y):=by
 unfold dZ
 refine bt (P:=Po E fun r=>Cs l r.2.1∧r.2.2.1=o∧r.1.length≤9000000∧∀ y∈r.1,Hd l.length y) ?_ fun a ha=>bi ha
 refine mG (fun s=>Rd l s.1∧s.2.1=o∧s.2.2.2.length+s.1.length≤l.length∧∀ y∈s.2.2.2,Hd l.length y) (fun s=>s.1.length) ⟨Rd.refl _,rfl,by simp,fun _ h=>nomatch h⟩ ?_
 rintro ⟨l17,x18,x19,l20⟩ ⟨hc,hx,hl,hk⟩
 have hc:Rd l l17:=hc
 have hx:x18=o:=hx
 have hl:l20.length+l17.length≤l.length:=hl
 subst hx
 show Pn (dt fuel n ⟨l,E,x18,t⟩ l17 x18 x19 l20) _
 unfold dt
 have:=g.1
 split
 ·exact bt (gu dM hE (hc.good g)) fun a ha=>bi ha
 ·obtain ⟨y,hy,hpy⟩:=uB (t:=x19) hf ho0 ho hE (hc.good g)
  rw [hy]
  cases y with
  |inr z=>exact bi hpy
  |inl a =>
   have hpy:Ex l17 x18 a:=hpy
   have hkk:∀ y∈l20++lit [a.1],Hd l.length y:=fun y hy=>by
    rcases List.mem_append.1 hy with h|h
    ·exact hk y h
    ·rw [List.mem_singleton.1 h];exact e8 (by have:=hc.len;omega) hpy.2.2
   show Pn (if dV (l20.length+1) 88 then _ else none) _
   rw [iP (jI oM dM)]
   refine bt (lD [44] dM) fun b hb=>?_
   have hb':=(hc.cs hpy.1).rd hb
   split
   ·refine bi ⟨⟨hb'.1,hpy.2.1,?_,hkk⟩,(hpy.1.rd hb).2⟩
    have:=(hpy.1.rd hb).2
    show (l20++lit [a.1]).length+b.2.length≤l.length
    rw [List.length_append];simp only [lit,List.length_cons,List.length_nil];omega
   ·refine bi ⟨hb',hpy.2.1,?_,hkk⟩
    have:=(hpy.1.rd hb).2
    show (l20++lit [a.1]).length≤_
    rw [List.length_append];simp only [lit,List.length_cons,List.length_nil];omega
def EqD(N:Nat)(q:TEq):Prop:=q.names.length≤9000000∧SzO q.s∧q.e.length≤9000000∧∀ y∈q.e,Hd N y
def DcO(l:List aI):Prop:=l.length≤9000000∧∀ d∈l,d.t.n.length≤9000000
theorem xM:DcO []:=⟨by decide,fun _ h=>nomatch h⟩
def kW(N:Nat)(x:aL):Prop:=x.sizes.length≤9000000∧DcO x.in_∧DcO x.out_∧DcO x.local_∧x.eqs.length≤9000000∧∀ q∈x.eqs,EqD N q
theorem s4{N M:Nat}{q:TEq}(h:N≤M)(k:EqD N q):EqD M q:=⟨k.1,k.2.1,k.2.2.1,fun y hy=>e8 h (k.2.2.2 y hy)⟩
theorem tM{N M:Nat}{q:aL}(h:N≤M)(k:kW N q):kW M q:=⟨k.1,k.2.1,k.2.2.1,k.2.2.2.1,k.2.2.2.2.1,fun y hy=>s4 h (k.2.2.2.2.2 y hy)⟩
theorem AA{E o t:Int}{fuel:Nat}{l:List aa}(hf:430≤fuel)(ho0:0≤o)(ho:o≤60)(hE:0≤E)(g:f9 E l)(hl:l≠[]):Pn (eu fuel ⟨l,E,o,t⟩) (Po E fun r=>Cs l r.2.1∧r.2.2.1=o∧EqD l.length r.1):=by
 have h3:∀ (y4:(List (List UInt8))×(List aa)) (y19:(List UInt8)×(List aa)) (l22:List (List ai)) (l28:List aa) (x30:Int) (l31:List af),Cs l l28→y4.1.length≤9000000→SzO l22→l31.length≤9000000→(∀ y∈l31,Hd l.length y) →
   Pn (cH ⟨l,E,o,t⟩ y4 y19 l22 l28 o x30 l31) (Po E fun r=>Cs l r.2.1∧r.2.2.1=o∧EqD l.length r.1):=by
  intro y4 y19 l22 l28 x30 l31 h k1 k2 k3 k4
  unfold cH
  exact dy (fL _ hE (h.good g) (by simp [lit])) fun b hb=>eD ⟨h.trans hb,rfl,k1,k2,k3,k4⟩
 have h2:∀ (y4:(List (List UInt8))×(List aa)) (y19:(List UInt8)×(List aa)) (l21:List aa) (l22:List (List ai)),Cs l l21→y4.1.length≤9000000→SzO l22 →
   Pn (cI fuel ⟨l,E,o,t⟩ y4 y19 l21 l22) (Po E fun r=>Cs l r.2.1∧r.2.2.1=o∧EqD l.length r.1):=by
  intro y4 y19 l21 l22 h k1 k2
  unfold cI
  refine dy (fL _ hE (h.good g) (by simp [lit])) fun b hb=>?_
  refine bt (jH _ (by simp [lit])) fun c hc=>?_
  split
  ·exact h3 _ _ _ _ _ _ (h.trans hb) k1 k2 (Nat.zero_le _) (fun _ h=>nomatch h)
  ·refine dy (pP 30 hf ho0 ho hE ((h.trans hb).good g)) fun d hd=>?_
   simp only [hd.2.1]
   exact h3 _ _ _ _ _ _ ((h.trans hb).trans hd.1) k1 k2 hd.2.2.1 fun y hy=>e8 (by have:=(h.trans hb).2;omega) (hd.2.2.2 y hy)
 have h1:∀ (y4:(List (List UInt8))×(List aa)) (y9:List aa),Cs l y9→y4.1.length≤9000000 →
   Pn (cJ fuel ⟨l,E,o,t⟩ y4 y9) (Po E fun r=>Cs l r.2.1∧r.2.2.1=o∧EqD l.length r.1):=by
  intro y4 y9 h k1
  unfold cJ
  refine dy (fL _ hE (h.good g) (by simp [lit])) fun b hb=>?_
  refine dy (mI hE ((h.trans hb).good g)) fun c hc=>?_
  have hc':=(h.trans hb).trans hc
  refine bt (lD [60] dM) fun d hd=>?_
  have hd':=hc'.rd hd
  split
  ·refine dy (pO 3 hE (hd'.good g)) fun e hes=>?_
   have he:=hes.1
   refine dy (fL _ hE ((hd'.trans he).good g) (by simp [lit])) fun f hf'=>?_
   exact h2 _ _ _ _ ((hd'.trans he).trans hf') k1 hes.2
  ·exact h2 _ _ _ _ hd' k1 mJ
 unfold eu
 rw [iP ⟨by decide,by cases l with|nil=>exact absurd rfl hl|cons x r=>simp⟩]
 refine dy (nZ 30 hE g) fun a has=>?_
 have ha:=has.1
 refine dy (fL _ hE (ha.good g) (by simp [lit])) fun b hb=>?_
 split
 ·refine bt (jH _ (by simp [lit])) fun c hc=>?_
  split
  ·exact h1 _ _ (ha.trans hb) has.2.1
  ·exact dy (uB hf ho0 ho hE ((ha.trans hb).good g)) fun d hd=>eD ⟨(ha.trans hb).trans hd.1,hd.2.1,has.2.1,mJ,Nat.le_of_ble_eq_true rfl,fun y hy=>by rw [List.mem_singleton.1 hy];exact e8 (by have:=(ha.trans hb).2;omega) hd.2.2⟩
 ·exact h1 _ _ (ha.trans hb) has.2.1
abbrev Nd(l:List aa)(o:Int)(r:aL×(List aa)×Int×Int):Prop:=(∃ b,br b=true∧Cs l (b :: r.2.1))∧r.2.2.1=o∧kW l.length r.1∧r.1.at_=(l.getD 0 default).at_
theorem sj{E o t:Int}{fuel:Nat}{l:List aa}(hf:430≤fuel)(ho0:0≤o)(ho:o≤60)(hE:0≤E)(g:f9 E l)(hx:Nx l):Pn (cG fuel ⟨l,E,o,t⟩) (Po E (Nd l o)):=by
 have h2:∀ (y5:(List UInt8)×(List aa)) (l8:List (List UInt8)) (l14:List aa) (l15:List aI),Cs l l14→l8.length≤9000000→DcO l15→Pn (b9 fuel ⟨l,E,o,t⟩ y5 l8 l14 l15) (Po E (Nd l o)):=by
  intro y5 l8 l14 l15 h k1 k2
  unfold b9
  refine dy (fL _ hE (h.good g) (by simp [lit])) fun b hb=>?_
  refine dy (mQ 30 hE ((h.trans hb).good g)) fun c hcs=>?_
  have hc:=hcs.1
  have hg:=g.1
  refine dy (fL _ hE (((h.trans hb).trans hc).good g) (by simp [lit])) fun d hd=>?_
  have hd':=((h.trans hb).trans hc).trans hd
  refine nA (fun s=>Cs l s.1∧s.2.1=o∧s.2.2.2.1.length+s.1.length≤l.length∧s.2.2.2.2.length+s.1.length≤l.length∧(∀ d∈s.2.2.2.1,d.t.n.length≤9000000)∧∀ q∈s.2.2.2.2,EqD l.length q) (fun s=>s.1.length) (fun s=>Cs l s.1∧s.2.1=o∧isB (lit [[125]]) s.1=true∧DcO s.2.2.2.1∧s.2.2.2.2.length≤9000000∧∀ q∈s.2.2.2.2,EqD l.length q) ⟨hd',rfl,?_,?_,(fun _ h=>nomatch h),(fun _ h=>nomatch h)⟩ ?_ ?_
  ·have:=hd'.2;simp only [List.length_nil];omega
  ·have:=hd'.2;simp only [List.length_nil];omega
  ·rintro ⟨l69,x70,x71,l72,l74⟩ ⟨hc,hx,hl1,hl2,hk1,hk2⟩
   have hk1:∀ d∈l72,d.t.n.length≤9000000:=hk1
   have hk2:∀ q∈l74,EqD l.length q:=hk2
   have hc:Cs l l69:=hc
   have hx:x70=o:=hx
   have hl1:l72.length+l69.length≤l.length:=hl1
   have hl2:l74.length+l69.length≤l.length:=hl2
   subst hx
   show Pn (bY fuel ⟨l,E,x70,t⟩ l69 x70 x71 l72 l74) _
   have h4:∀ (l81:List aa) (x83:Int) (l84:List aI) (l86:List TEq),Cs l69 l81→l84.length+l81.length≤l.length→l86.length+l81.length≤l.length→(∀ d∈l84,d.t.n.length≤9000000)→(∀ q∈l86,EqD l.length q) →
     Pn (bW ⟨l,E,x70,t⟩ l81 x70 x83 l84 l86) (Pl E (fun s'=>(Cs l s'.1∧s'.2.1=x70∧s'.2.2.2.1.length+s'.1.length≤l.length∧s'.2.2.2.2.length+s'.1.length≤l.length∧(∀ d∈s'.2.2.2.1,d.t.n.length≤9000000)∧∀ q∈s'.2.2.2.2,EqD l.length q)∧s'.1.length<l69.length) (fun s=>Cs l s.1∧s.2.1=x70∧isB (lit [[125]]) s.1=true∧DcO s.2.2.2.1∧s.2.2.2.2.length≤9000000∧∀ q∈s.2.2.2.2,EqD l.length q) (Nd l x70)):=by
    intro l81 x83 l84 l86 h81 e1 e2 k3 k4
    unfold bW
    refine nY (fL _ hE ((hc.trans h81).good g) (by simp [lit])) fun b hb=>?_
    have e3:=hb.2
    refine bi ⟨⟨(hc.trans h81).trans hb,rfl,?_,?_,k3,k4⟩,(h81.trans hb).2⟩
    ·show l84.length+b.length≤l.length
     omega
    ·show l86.length+b.length≤l.length
     omega
   have h5:∀ y93:Bool×List aa,Rd l69 y93.2→Pn (bH fuel ⟨l,E,x70,t⟩ x70 x71 l72 l74 y93) (Pl E (fun s'=>(Cs l s'.1∧s'.2.1=x70∧s'.2.2.2.1.length+s'.1.length≤l.length∧s'.2.2.2.2.length+s'.1.length≤l.length∧(∀ d∈s'.2.2.2.1,d.t.n.length≤9000000)∧∀ q∈s'.2.2.2.2,EqD l.length q)∧s'.1.length<l69.length) (fun s=>Cs l s.1∧s.2.1=x70∧isB (lit [[125]]) s.1=true∧DcO s.2.2.2.1∧s.2.2.2.2.length≤9000000∧∀ q∈s.2.2.2.2,EqD l.length q) (Nd l x70)):=by
    intro y93 h93
    unfold bH
    split
    ·exact pV (gu dM hE ((hc.rd h93).good g))
    ·rename_i hne
     refine nY (AA hf ho0 ho hE ((hc.rd h93).good g) (fun e=>hne (by rw [e];rfl))) fun b hb=>?_
     have e1:=h93.len
     have e2:=hb.1.2
     have e3:=g.1
     rw [iP (jI oM dM)]
     simp only [hb.2.1]
     refine h4 _ _ _ _ (h93.cs hb.1) oM ?_ hk1 (fun q hq=>(List.mem_append.1 hq).elim (hk2 q) fun h=>by rw [List.mem_singleton.1 h];exact s4 (by have:=hc.2;omega) hb.2.2)
     rw [List.length_append];simp only [lit,List.length_cons,List.length_nil];omega
   unfold bY
   refine bt (jH _ (by simp [lit])) fun b hb=>?_
   subst hb
   split
   ·rename_i hi
    exact bi ⟨hc,rfl,hi,⟨by show l72.length≤_;omega,hk1⟩,by show l74.length≤_;omega,hk2⟩
   ·refine bt (lD [118,97,114] dM) fun b hb=>?_
    split
    ·split
     ·exact pV (gu dM hE ((hc.rd hb).good g))
     ·refine nY (uz hE ((hc.rd hb).good g)) fun c hccs=>?_
      have hcc:=hccs.1
      have e1:=hb.len
      have e2:=hcc.2
      have e3:=g.1
      rw [iP (jI oM dM)]
      refine h4 _ _ _ _ (hb.cs hcc) ?_ oM (fun q hq=>(List.mem_append.1 hq).elim (hk1 q) fun h=>by rw [List.mem_singleton.1 h];exact hccs.2) hk2
      rw [List.length_append];simp only [lit,List.length_cons,List.length_nil];omega
    ·split
     ·rename_i hlen
      rw [iP (by simpa using hlen)]
      split
      ·split
       ·exact pV (gu dM hE ((hc.rd hb).good g))
       ·exact h5 _ hb
      ·exact h5 _ hb
     ·exact h5 _ hb
  ·rintro ⟨l35,x36,x37,l38,l40⟩ ⟨hc,hx,hi,hk1,hk2,hk3⟩
   have hc:Cs l l35:=hc
   have hx:x36=o:=hx
   have hi:isB (lit [[125]]) l35=true:=hi
   show Pn (bV ⟨l,E,o,t⟩ y5 l8 l15 c l35 x36 x37 l38 l40) _
   unfold bV
   obtain ⟨x,r,rfl,hk,ht⟩:=ma hi
   rw [it]
   refine eD ⟨⟨x,?_,hc⟩,hx,⟨k1,k2,hcs.2,hk1,hk2,hk3⟩,rfl⟩
   simp only [lit,List.mem_singleton] at ht
   simp [br,hk,ht]
 have h1:∀ (y5:(List UInt8)×(List aa)) (l7:List aa) (l8:List (List UInt8)),Cs l l7→l8.length≤9000000→Pn (ca fuel ⟨l,E,o,t⟩ y5 l7 l8) (Po E (Nd l o)):=by
  intro y5 l7 l8 h k1
  unfold ca
  refine dy (fL _ hE (h.good g) (by simp [lit])) fun b hb=>?_
  refine bt (jH _ (by simp [lit])) fun c hc=>?_
  split
  ·exact h2 _ _ _ _ (h.trans hb) k1 xM
  ·exact dy (mQ 30 hE ((h.trans hb).good g)) fun d hd=>h2 _ _ _ _ ((h.trans hb).trans hd.1) k1 hd.2
 unfold cG
 rw [iP ⟨by decide,by obtain ⟨x,r,rfl,_⟩:=hx;simp⟩]
 refine bt (ry hx) fun a ha=>?_
 refine dy (mI hE (ha.good g)) fun b hb=>?_
 refine bt (lD [60] dM) fun c hc=>?_
 have hc':=(ha.trans hb).rd hc
 split
 ·refine dy (nZ 3 hE (hc'.good g)) fun d hds=>?_
  have hd:=hds.1
  refine dy (fL _ hE ((hc'.trans hd).good g) (by simp [lit])) fun e he=>?_
  exact h1 _ _ _ ((hc'.trans hd).trans he) hds.2.1
 ·exact h1 _ _ _ hc' (Nat.zero_le _)
theorem Rd.count{a b:List aa}(h:Rd a b):a.countP br=b.countP br:=by
 obtain ⟨c,rfl,hc⟩:=h
 rw [List.countP_append,List.countP_eq_zero.2 fun t ht=>by rw [hc t ht];decide,Nat.zero_add]
def PQ(E:Int)(l:List aa)(r:bj×bh):Prop :=
 (r.2.code=0∧r.1.nodes.length=l.countP br∧(∃ c b,l=c++[b]∧br b=true)∧∀ x∈r.1.nodes,kW l.length x)∨(r.2.code≠0∧r.1.nodes=[]∧0≤r.2.at_∧r.2.at_≤E)
theorem o9{fuel:Nat}{src:List UInt8}{l:List aa}{f:bh}(hf:430≤fuel)(hs:hZ src=some (l,f))(g:f9 src.length l) :
  Pn (ew fuel src) (fun r=>(f.code≠0∧r=(bj.mk [],f))∨(f.code=0∧PQ src.length l r)):=by
 unfold ew
 rw [hs]
 refine qG rfl ?_
 by_cases h0:f.code=0
 ·rw [iN (fun x=>x h0)]
  refine nw (P:=PQ src.length l) ?_ fun r hr=>.inr ⟨h0,hr⟩
  have hE:(0:Int)≤(src.length:Int):=by omega
  refine bt (P:=Sum.elim (fun s=>s.2.2.2.length=l.countP br∧(∃ c b,l=c++[b]∧br b=true)∧∀ x∈s.2.2.2,kW l.length x) (PQ src.length l)) ?_ ?_
  ·refine mG (fun s=>f9 src.length s.1∧s.2.1=0∧s.2.2.2.length+s.1.countP br=l.countP br∧((s.2.2.2=[]∧s.1=l)∨∃ c b,l=c++b :: s.1∧br b=true)∧s.2.2.2.length+s.1.length≤l.length∧∀ x∈s.2.2.2,kW l.length x) (fun s=>s.1.length) ⟨g,rfl,by simp,.inl ⟨rfl,rfl⟩,by simp,fun _ h=>nomatch h⟩ ?_
   rintro ⟨l25,x26,x27,l28⟩ ⟨g',hx,hn,hb,hl,hk⟩
   have hk:∀ x∈l28,kW l.length x:=hk
   have g':f9 src.length l25:=g'
   have hx:x26=0:=hx
   have hn:l28.length+l25.countP br=l.countP br:=hn
   have hb:(l28=[]∧l25=l)∨∃ c b,l=c++b :: l25∧br b=true:=hb
   have hl:l28.length+l25.length≤l.length:=hl
   subst hx
   have key:Pn (bo fuel src l25 0 x27 l28) (Sum.elim (fun s'=>(f9 src.length s'.1∧s'.2.1=0∧s'.2.2.2.length+s'.1.countP br=l.countP br∧((s'.2.2.2=[]∧s'.1=l)∨∃ c b,l=c++b :: s'.1∧br b=true)∧s'.2.2.2.length+s'.1.length≤l.length∧∀ x∈s'.2.2.2,kW l.length x)∧s'.1.length<l25.length)
     (Sum.elim (fun s=>s.2.2.2.length=l.countP br∧(∃ c b,l=c++[b]∧br b=true)∧∀ x∈s.2.2.2,kW l.length x) (PQ src.length l))):=by
    unfold bo
    refine bt (jH _ (by simp [lit])) fun b hb'=>?_
    subst hb'
    split
    ·rename_i hi
     split
     ·exact bt (gu dM hE g') fun a ha=>bi (.inr ⟨ha.1,rfl,ha.2⟩)
     ·obtain ⟨y,hy,hpy⟩:=sj (t:=x27) hf (Int.le_refl 0) dM hE g' (qK hi (by simp [lit]))
      rw [hy]
      cases y with
      |inr z=>exact bi (.inr ⟨hpy.1,rfl,hpy.2⟩)
      |inl a =>
       obtain ⟨⟨b,hbb,hcs⟩,ho,hnd,_⟩:Nd l25 0 a:=hpy
       show Pn (if dV (l28.length+1) 144 then _ else none) _
       have e1:=hcs.2
       have e2:=g'.1
       have e3:l.length≤9000000:=g.1
       simp only [List.length_cons] at e1
       rw [iP (jI oM dM)]
       have hc:=hcs.1.count
       rw [List.countP_cons,iP hbb] at hc
       refine bi ⟨⟨(Rd.good hcs.1 g':f9 _ (b :: a.2.1)) |> fun z=>⟨by have:=z.1;simp only [List.length_cons] at this;show a.2.1.length≤_;omega,fun t ht=>z.2 t (List.mem_cons_of_mem _ ht)⟩,ho,?_,.inr ?_,?_,fun x hx=>(List.mem_append.1 hx).elim (hk x) fun h=>by rw [List.mem_singleton.1 h];exact tM oM hnd⟩,?_⟩
       ·show (l28++lit [a.1]).length+a.2.1.countP br=l.countP br
        rw [List.length_append];simp only [lit,List.length_cons,List.length_nil];omega
       ·obtain ⟨c,hc1,_⟩:=hcs.1
        rcases hb with ⟨_,rfl⟩|⟨c0,b0,h0',_⟩
        ·exact ⟨c,b,hc1,hbb⟩
        ·exact ⟨c0++b0 :: c,b,by rw [h0',hc1];simp,hbb⟩
       ·show (l28++lit [a.1]).length+a.2.1.length≤l.length
        rw [List.length_append];simp only [lit,List.length_cons,List.length_nil];omega
       ·show a.2.1.length<l25.length
        omega
    ·exact bt (gu dM hE g') fun a ha=>bi (.inr ⟨ha.1,rfl,ha.2⟩)
   show Pn (fW fuel src l25 0 x27 l28) _
   unfold fW
   split
   ·exact key
   ·rename_i he
    split
    ·exact key
    ·rename_i hz
     have he:l25=[]:=by cases l25 with
      |nil=>rfl
      |cons x r=>exact absurd (by simp) he
     subst he
     refine bi ⟨by simpa using hn,?_,hk⟩
     rcases hb with ⟨h,_⟩|⟨c,b,h,hb⟩
     ·have h:l28=[]:=h;exact absurd (by rw [h];rfl) hz
     ·exact ⟨c,b,h,hb⟩
  ·intro a ha
   cases a with
   |inl s=>exact bi (.inl ⟨rfl,ha⟩)
   |inr r=>exact bi ha
 ·rw [iP h0]
  exact bi (.inl ⟨h0,rfl⟩)
def xl(s:Int)(m l:List aa):List aa:=l.map (shT s)++m
theorem pW(s:Int)(m l:List aa)(x:aa):xl s m (x :: l)=shT s x :: xl s m l:=rfl
def iU(f:Int×Int):Prop:=f.1=4∨f.1=6
def sf2(s:Int)(f:Int×Int):Int×Int:=(f.1,f.2+s)
def Jn{O O':Type}(ne:O→Prop)(ext:O→O')(C:Prop)(a:Option O)(b:Option O'):Prop:=∀ o,a=some o→ne o→C∧b=some (ext o)
section
variable {O O' A A' R R':Type} {ne:O→Prop} {ext:O→O'} {C C':Prop}
theorem bm{o:O}(h:ne o→C):Jn ne ext C (some o) (some (ext o)):=fun p e hn=>by cases e;exact ⟨h hn,rfl⟩
theorem fM{b:Option O'}:Jn ne ext C none b:=fun _ e _=>nomatch e
theorem xN{a:Option O}{b:Option O'}(h:Jn ne ext C a b)(hc:C→C'):Jn ne ext C' a b:=fun o e hn=>⟨hc (h o e hn).1,(h o e hn).2⟩
theorem ia{n1:A→Prop}{x1:A→A'}{a:Option A}{a':Option A'}{f:A→Option O}{f':A'→Option O'}(h:Jn n1 x1 C a a')(hf:∀ z,Jn ne ext (n1 z) (f z) (f' (x1 z))):Jn ne ext C (a.bind f) (a'.bind f'):=fun o e hn=>by
 cases ha:a with
 |none=>rw [ha] at e;cases e
 |some z =>
  rw [ha] at e
  obtain ⟨k1,k2⟩:=hf z o e hn
  obtain ⟨k3,k4⟩:=h z ha k1
  exact ⟨k3,by rw [k4];exact k2⟩
theorem eF{c:Prop}{d:Decidable c}{a b:Option O}{a' b':Option O'}(h1:c→Jn ne ext C a a')(h2:¬ c→Jn ne ext C b b'):Jn ne ext C (if c then a else b) (if c then a' else b'):=by
 by_cases h:c
 ·rw [iP h,iP h];exact h1 h
 ·rw [iN h,iN h];exact h2 h
theorem sm{S S':Type}{nS:S→Prop}{xS:S→S'}{body:S→Option (S ⊕ O)}{body':S'→Option (S' ⊕ O')}(step:∀ u,Jn (Sum.elim nS ne) (Sum.map xS ext) (nS u) (body u) (body' (xS u)))(u:S):Jn ne ext (nS u) (db body u) (db body' (xS u)):=fun o e hn=>by
 obtain ⟨n,hi⟩:=jg e
 clear e
 induction n generalizing u with
 |zero=>cases hi
 |succ n ih =>
  unfold jA at hi
  cases hb:body u with
  |none=>rw [hb] at hi;cases hi
  |some r =>
   rw [hb] at hi
   cases r with
   |inl u' =>
    obtain ⟨k1,k2⟩:=ih u' hi
    obtain ⟨k3,k4⟩:=step u _ hb k1
    exact ⟨k3,by rw [eT k4];exact k2⟩
   |inr o' =>
    cases hi
    obtain ⟨k3,k4⟩:=step u _ hb hn
    exact ⟨k3,cQ k4⟩
variable {s:Int} {m:List aa} {E E':Int} {n1:A→Prop} {x1:A→A'} {n2:R→Prop} {x2:R→R'}
theorem fQ{a:Option (A ⊕ (Int×Int))}{a':Option (A' ⊕ (Int×Int))}{f:A→Option (R ⊕ (Int×Int))}{f':A'→Option (R' ⊕ (Int×Int))}(h:Jn (Sum.elim n1 iU) (Sum.map x1 (sf2 s)) C a a')(hf:∀ z,Jn (Sum.elim n2 iU) (Sum.map x2 (sf2 s)) (n1 z) (f z) (f' (x1 z))) :
  Jn (Sum.elim n2 iU) (Sum.map x2 (sf2 s)) C (a.bind fun y=>Sum.elim f (fun z=>some (.inr (z.1,z.2))) y) (a'.bind fun y=>Sum.elim f' (fun z=>some (.inr (z.1,z.2))) y):=ia h fun z=>by
 cases z with
 |inl z=>exact hf z
 |inr z=>exact bm id
theorem zi{S S':Type}{nS:S→Prop}{xS:S→S'}{a:Option (A ⊕ (Int×Int))}{a':Option (A' ⊕ (Int×Int))}{f:A→Option (S ⊕ (R ⊕ (Int×Int)))}{f':A'→Option (S' ⊕ (R' ⊕ (Int×Int)))}(h:Jn (Sum.elim n1 iU) (Sum.map x1 (sf2 s)) C a a')
  (hf:∀ z,Jn (Sum.elim nS (Sum.elim n2 iU)) (Sum.map xS (Sum.map x2 (sf2 s))) (n1 z) (f z) (f' (x1 z))) :
  Jn (Sum.elim nS (Sum.elim n2 iU)) (Sum.map xS (Sum.map x2 (sf2 s))) C (a.bind fun y=>Sum.elim f (fun z=>some (.inr (.inr (z.1,z.2)))) y) (a'.bind fun y=>Sum.elim f' (fun z=>some (.inr (.inr (z.1,z.2)))) y):=ia h fun z=>by
 cases z with
 |inl z=>exact hf z
 |inr z=>exact bm (ext:=Sum.map xS (Sum.map x2 (sf2 s))) (o:=.inr (.inr z)) id
theorem oF{S S' T T':Type}{nS:S→Prop}{xS:S→S'}{nT:T→Prop}{xT:T→T'}{a:Option (A ⊕ (Int×Int))}{a':Option (A' ⊕ (Int×Int))}{f:A→Option (S ⊕ (T ⊕ (R ⊕ (Int×Int))))}{f':A'→Option (S' ⊕ (T' ⊕ (R' ⊕ (Int×Int))))}(h:Jn (Sum.elim n1 iU) (Sum.map x1 (sf2 s)) C a a')
  (hf:∀ z,Jn (Sum.elim nS (Sum.elim nT (Sum.elim n2 iU))) (Sum.map xS (Sum.map xT (Sum.map x2 (sf2 s)))) (n1 z) (f z) (f' (x1 z))) :
  Jn (Sum.elim nS (Sum.elim nT (Sum.elim n2 iU))) (Sum.map xS (Sum.map xT (Sum.map x2 (sf2 s)))) C (a.bind fun y=>Sum.elim f (fun z=>some (.inr (.inr (.inr (z.1,z.2))))) y) (a'.bind fun y=>Sum.elim f' (fun z=>some (.inr (.inr (.inr (z.1,z.2))))) y):=ia h fun z=>by
 cases z with
 |inl z=>exact hf z
 |inr z=>exact bm (ext:=Sum.map xS (Sum.map xT (Sum.map x2 (sf2 s)))) (o:=.inr (.inr (.inr z))) id
theorem nh{S S' T T':Type}{nS:S→Prop}{xS:S→S'}{nT:T→Prop}{xT:T→T'}{body:S→Option (S ⊕ (T ⊕ (R ⊕ (Int×Int))))}{body':S'→Option (S' ⊕ (T' ⊕ (R' ⊕ (Int×Int))))}{k:T→Option (R ⊕ (Int×Int))}{k':T'→Option (R' ⊕ (Int×Int))}
  (step:∀ u,Jn (Sum.elim nS (Sum.elim nT (Sum.elim n2 iU))) (Sum.map xS (Sum.map xT (Sum.map x2 (sf2 s)))) (nS u) (body u) (body' (xS u))) (hk:∀ b,Jn (Sum.elim n2 iU) (Sum.map x2 (sf2 s)) (nT b) (k b) (k' (xT b))) (u:S) :
  Jn (Sum.elim n2 iU) (Sum.map x2 (sf2 s)) (nS u) ((db body u).bind (Sum.elim k (fun z=>some z))) ((db body' (xS u)).bind (Sum.elim k' (fun z=>some z))):=ia (sm step u) fun z=>by
 cases z with
 |inl z=>exact hk z
 |inr z=>exact bm id
variable {l:List aa} {o t o' t':Int}
theorem ni{c:Int}(hc:c=4∨c=7):Jn iU (sf2 s) (l≠[]) (an c ⟨l,E,o,t⟩) (an c ⟨xl s m l,E',o',t'⟩):=fun p e hn=>by
 unfold an at e
 cases l with
 |nil =>
  rw [iN (by simp)] at e
  rcases hc with rfl|rfl
  ·rw [iP rfl] at e;cases e;rcases hn with h|h<;>exact absurd h (show ¬ (5:Int)=_ by decide)
  ·rw [iN dM] at e;cases e;rcases hn with h|h<;>exact absurd h (show ¬ (7:Int)=_ by decide)
 |cons x r =>
  rw [iP (by simp),iP (by simp)] at e
  cases e
  refine ⟨by simp,?_⟩
  unfold an
  rw [iP (by simp [xl];omega),iP (by simp [xl];omega)];rfl
theorem uC(h:l≠[]):Jn iU (sf2 s) (l≠[]) (an 6 ⟨l,E,o,t⟩) (an 6 ⟨xl s m l,E',o',t'⟩):=fun p e hn=>by
 unfold an at e
 cases l with
 |nil=>exact absurd rfl h
 |cons x r =>
  rw [iP (by simp),iP (by simp)] at e
  cases e
  refine ⟨by simp,?_⟩
  unfold an
  rw [iP (by simp [xl];omega),iP (by simp [xl];omega)];rfl
theorem wE{W:List (List UInt8)}(h:l≠[]):isB W (xl s m l)=isB W l:=by
 cases l with
 |nil=>exact absurd rfl h
 |cons x r=>rfl
theorem pQ{W:List (List UInt8)}{f:Bool→Option O}{f':Bool→Option O'}(hW:W.length≤9000000)(h:∀ b,b=isB W l→Jn ne ext (l≠[]) (f b) (f' b)) :
  Jn ne ext (l≠[]) ((ap W ⟨l,E,o,t⟩).bind f) ((ap W ⟨xl s m l,E',o',t'⟩).bind f'):=fun p e hn=>by
 rw [wy _ _ hW] at e ⊢
 rw [bSq] at e ⊢
 obtain ⟨k1,k2⟩:=h _ rfl p e hn
 exact ⟨k1,by rw [show isB W (xl s m l)=isB W l from wE k1];exact k2⟩
theorem lE{W:List (List UInt8)}{b:Bool}(h:b=isB W l)(hb:b=true):l≠[]:=by
 intro e
 rw [h,e] at hb
 cases hb
theorem mK{f:aa×List aa→Option O}{f':aa×List aa→Option O'}(hl:l≠[])(h:∀ x r,l=x :: r→Jn ne ext (r≠[]) (f (x,r)) (f' (shT s x,xl s m r))) :
  Jn ne ext (l≠[]) ((aq ⟨l,E,o,t⟩).bind f) ((aq ⟨xl s m l,E',o',t'⟩).bind f'):=by
 cases l with
 |nil=>exact absurd rfl hl
 |cons x r =>
  rw [it,pW,it]
  exact xN (h x r rfl) fun _=>hl
theorem uD{w:List UInt8}{f:Bool×List aa→Option O}{f':Bool×List aa→Option O'}(h:∀ b r,Jn ne ext (r≠[]) (f (b,r)) (f' (b,xl s m r))) :
  Jn ne ext (l≠[]) ((aM w ⟨l,E,o,t⟩).bind f) ((aM w ⟨xl s m l,E',o',t'⟩).bind f'):=by
 unfold aM
 rw [Option.bind_assoc,Option.bind_assoc]
 refine pQ (by simp [lit]) fun b hb=>?_
 by_cases hbt:b=true
 ·rw [iP hbt,iP hbt,Option.bind_assoc,Option.bind_assoc]
  exact mK (lE hb hbt) fun x r _=>h b r
 ·rw [iN hbt,iN hbt]
  exact h b l
abbrev nP{α:Type}:(α×List aa) ⊕ (Int×Int)→Prop:=Sum.elim (fun z=>z.2≠[]) iU
abbrev xP{α:Type}(s:Int)(m:List aa):(α×List aa) ⊕ (Int×Int)→(α×List aa) ⊕ (Int×Int):=Sum.map (fun z=>(z.1,xl s m z.2)) (sf2 s)
theorem wF{k:Int}:Jn (Sum.elim (fun z:aa×List aa=>z.2≠[]) iU) (Sum.map (fun z:aa×List aa=>(shT s z.1,xl s m z.2)) (sf2 s)) (l≠[]) (cC k ⟨l,E,o,t⟩) (cC k ⟨xl s m l,E',o',t'⟩):=by
 unfold cC
 cases l with
 |nil =>
  rw [iP (by simp)]
  intro p e hn
  cases e
  rcases hn with h|h<;>exact absurd h (show ¬ (5:Int)=_ by decide)
 |cons x r =>
  rw [iN (show ¬ (((x :: r).length:Nat):Int)=0 by simp;omega),iP (show 0≤0∧0<(((x :: r).length:Nat):Int) by simp),iN (show ¬ (((xl s m (x :: r)).length:Nat):Int)=0 by simp [xl];omega),iP (show 0≤0∧0<(((xl s m (x :: r)).length:Nat):Int) by simp [xl];omega)]
  refine eF (fun _=>?_) fun _=>?_
  ·exact ia (ni (.inl rfl)) fun z=>bm (ext:=Sum.map (fun z:aa×List aa=>(shT s z.1,xl s m z.2)) (sf2 s)) (o:=.inr z) id
  ·exact mK (by simp) fun x r _=>bm (ext:=Sum.map (fun z:aa×List aa=>(shT s z.1,xl s m z.2)) (sf2 s)) (o:=.inl (x,r)) id
theorem oG:Jn nP (xP s m) (l≠[]) (aT ⟨l,E,o,t⟩) (aT ⟨xl s m l,E',o',t'⟩):=by
 unfold aT
 exact fQ wF fun z=>bm (ext:=xP s m) (o:=.inl (z.1.text,z.2)) id
theorem gP{W:List (List UInt8)}:Jn (Sum.elim (fun z=>z≠[]) iU) (Sum.map (xl s m) (sf2 s)) (l≠[]) (ay W ⟨l,E,o,t⟩) (ay W ⟨xl s m l,E',o',t'⟩):=by
 unfold ay
 refine ia (n1:=Sum.elim (fun z=>z≠[]) iU) (x1:=Sum.map (xl s m) (sf2 s)) ?_ fun z=>bm id
 refine sm (nS:=fun u=>u.1≠[]) (xS:=fun u=>(xl s m u.1,u.2)) (fun u=>?_) (l,(0:Int))
 obtain ⟨l5,x6⟩:=u
 show Jn _ _ _ (cX W _ l5 x6) (cX W _ (xl s m l5) x6)
 unfold cX
 refine eF (fun _=>eF (fun _=>?_) fun _=>fM) fun _=>bm (ext:=Sum.map (fun u:List aa×Int=>(xl s m u.1,u.2)) (Sum.map (xl s m) (sf2 s))) (o:=.inr (.inl l5)) id
 refine pQ (by simp [lit]) fun b hb=>?_
 by_cases hbt:b=true
 ·rw [iP hbt,iP hbt]
  exact mK (lE hb hbt) fun x r _=>bm (ext:=Sum.map (fun u:List aa×Int=>(xl s m u.1,u.2)) (Sum.map (xl s m) (sf2 s))) (o:=.inl (r,_)) id
 ·rw [iN hbt,iN hbt]
  exact ia (ni (.inl rfl)) fun z=>bm (ext:=Sum.map (fun u:List aa×Int=>(xl s m u.1,u.2)) (Sum.map (xl s m) (sf2 s))) (o:=.inr (.inr z)) id
end
section
variable {O O':Type} {ne:O→Prop} {ext:O→O'} {C:Prop}
theorem tO{a:Option O}{b b':Option O'}(h:Jn ne ext C a b)(hc:¬ C):Jn ne ext C a b':=fun o e hn=>absurd (h o e hn).1 hc
variable {s:Int} {m:List aa} {E E':Int} {l:List aa} {o t o' t':Int}
theorem mL(h:l≠[]):((xl s m l).length:Int)>0∧(l.length:Int)>0:=by
 cases l with
 |nil=>exact absurd rfl h
 |cons x r=>exact ⟨by rw [pW,List.length_cons];omega,by rw [List.length_cons];omega⟩
theorem rB{n:Int}:Jn nP (xP s m) (l≠[]) (cp n ⟨l,E,o,t⟩) (cp n ⟨xl s m l,E',o',t'⟩):=by
 unfold cp
 refine fQ wF fun z=>uD fun b r=>eF (fun _=>?_) fun _=>bm (ext:=xP s m) (o:=.inl (ai.mk _ [],r)) id
 exact fQ oG fun y=>bm (ext:=xP s m) (o:=.inl (ai.mk _ y.1,y.2)) id
theorem wG{n:Int}:Jn nP (xP s m) (l≠[]) (dQ n ⟨l,E,o,t⟩) (dQ n ⟨xl s m l,E',o',t'⟩):=by
 unfold dQ
 cases l with
 |nil =>
  rw [iN (show ¬ ((([]:List aa).length:Nat):Int)>0 by simp)]
  exact tO (rB (E':=E') (o':=o') (t':=t')) (by simp)
 |cons x r =>
  obtain ⟨h1,h2⟩:=mL (s:=s) (m:=m) (l:=x :: r) (by simp)
  rw [iP h2,iP (show 0≤0∧0<(((x :: r).length:Nat):Int) from ⟨by decide,h2⟩),iP h1,iP (show 0≤0∧0<(((xl s m (x :: r)).length:Nat):Int) from ⟨by decide,h1⟩)]
  refine eF (c:=x.kind=2) (fun _=>?_) fun _=>rB
  exact fQ oG fun y=>bm (ext:=xP s m) (o:=.inl (ai.mk n y.1,y.2)) id
abbrev n2{β:Type}:List aa×β→Prop:=fun u=>u.1≠[]
abbrev x2{β:Type}(s:Int)(m:List aa):List aa×β→List aa×β:=fun u=>(xl s m u.1,u.2)
abbrev xS3{β γ:Type}(s:Int)(m:List aa):(List aa×β) ⊕ ((List aa×β) ⊕ ((γ×List aa) ⊕ (Int×Int)))→(List aa×β) ⊕ ((List aa×β) ⊕ ((γ×List aa) ⊕ (Int×Int))):=Sum.map (x2 s m) (Sum.map (x2 s m) (xP s m))
theorem tP:Jn nP (xP s m) (l≠[]) (cD ⟨l,E,o,t⟩) (cD ⟨xl s m l,E',o',t'⟩):=by
 have hj:∀ (l1 l0 l0':List aa) (n:Int),Jn nP (xP s m) (l1≠[]) (cr ⟨l0,E,o,t⟩ l1 n) (cr ⟨l0',E',o',t'⟩ (xl s m l1) n):=by
  intro l1 l0 l0' n
  unfold cr
  refine fQ wG fun z=>?_
  refine nh (nS:=n2) (xS:=x2 s m) (nT:=n2) (xT:=x2 s m) (fun u=>?_) (fun b=>?_) (z.2,lit [z.1])
  ·obtain ⟨l25,l26⟩:=u
   show Jn _ _ _ (dB _ l25 l26) (dB _ (xl s m l25) l26)
   unfold dB
   refine pQ (by simp [lit]) fun b hb=>?_
   by_cases hbt:b=true
   ·rw [iP hbt,iP hbt]
    refine eF (fun _=>?_) fun _=>?_
    ·exact ia (ni (.inr rfl)) fun z=>bm (ext:=xS3 s m) (o:=.inr (.inr (.inr z))) id
    ·refine mK (lE hb hbt) fun x r _=>?_
     have h3:∀ n,Jn (Sum.elim n2 (Sum.elim n2 nP)) (xS3 s m) (r≠[]) (cq ⟨l0,E,o,t⟩ l26 r n) (cq ⟨l0',E',o',t'⟩ l26 (xl s m r) n):=by
      intro n
      unfold cq
      exact oF wG fun z=>eF (fun _=>bm (ext:=xS3 s m) (o:=.inl (z.2,_)) id) fun _=>fM
     exact eF (c:=x.text=[45]) (fun _=>h3 _) fun _=>h3 _
   ·rw [iN hbt,iN hbt]
    exact bm (ext:=xS3 s m) (o:=.inr (.inl (l25,l26))) id
  ·exact bm (ext:=xP s m) (o:=.inl (b.2,b.1)) id
 unfold cD
 exact uD fun b r=>eF (fun _=>hj _ _ _ _) fun _=>hj _ _ _ _
theorem AB:Jn nP (xP s m) (l≠[]) (d8 ⟨l,E,o,t⟩) (d8 ⟨xl s m l,E',o',t'⟩):=by
 unfold d8
 refine pQ (by simp [lit]) fun b hb=>?_
 by_cases hbt:b=true
 ·rw [iP hbt,iP hbt]
  refine mK (lE hb hbt) fun x r _=>eF (c:=0≤0∧0<(x.text.length:Int)) (fun _=>?_) fun _=>fM
  refine uD fun b r=>eF (fun _=>?_) fun _=>bm (ext:=xP s m) (o:=.inl (iL.mk _ [],r)) id
  exact fQ tP fun z=>bm (ext:=xP s m) (o:=.inl (iL.mk _ z.1,z.2)) id
 ·rw [iN hbt,iN hbt]
  exact ia (ni (.inl rfl)) fun z=>bm (ext:=xP s m) (o:=.inr z) id
theorem wH:Jn nP (xP s m) (l≠[]) (cE ⟨l,E,o,t⟩) (cE ⟨xl s m l,E',o',t'⟩):=by
 unfold cE
 refine fQ oG fun z=>fQ gP fun y=>fQ AB fun x=>bm (ext:=xP s m) (o:=.inl (aI.mk z.1 x.1,x.2)) id
abbrev xR{β:Type}(s:Int)(m:List aa):(List aa×List β) ⊕ ((List β×List aa) ⊕ (Int×Int))→(List aa×List β) ⊕ ((List β×List aa) ⊕ (Int×Int)):=Sum.map (x2 s m) (xP s m)
theorem wI{β:Type}{rm:Nat}{n:Int}{pe pe':List aa→Option ((β×List aa) ⊕ (Int×Int))}(hpe:∀ l,Jn nP (xP s m) (l≠[]) (pe l) (pe' (xl s m l)))
  {body body':List aa×List β→Option ((List aa×List β) ⊕ ((List β×List aa) ⊕ (Int×Int)))}
  (hb:∀ l acc,body (l,acc)=if (acc.length:Int)=n then ((an 7 ⟨l,E,o,t⟩).bind fun y=>some (.inr (.inr (y.1,y.2)))) else ((pe l).bind fun y=>Sum.elim (fun a=>if dV (acc.length+1) rm then ((aM [44] ⟨a.2,E,o,t⟩).bind fun b=>if b.1=true then some (.inl (b.2,acc++lit [a.1])) else some (.inr (.inl (acc++lit [a.1],b.2)))) else none) (fun z=>some (.inr (.inr (z.1,z.2)))) y))
  (hb':∀ l acc,body' (l,acc)=if (acc.length:Int)=n then ((an 7 ⟨l,E',o',t'⟩).bind fun y=>some (.inr (.inr (y.1,y.2)))) else ((pe' l).bind fun y=>Sum.elim (fun a=>if dV (acc.length+1) rm then ((aM [44] ⟨a.2,E',o',t'⟩).bind fun b=>if b.1=true then some (.inl (b.2,acc++lit [a.1])) else some (.inr (.inl (acc++lit [a.1],b.2)))) else none) (fun z=>some (.inr (.inr (z.1,z.2)))) y)) :
  Jn nP (xP s m) (l≠[]) ((db body (l,[])).bind fun z=>some z) ((db body' (xl s m l,[])).bind fun z=>some z):=by
 refine ia (n1:=nP) (x1:=xP s m) ?_ fun z=>bm id
 refine sm (nS:=n2) (xS:=x2 s m) (fun u=>?_) (l,([]:List β))
 obtain ⟨l1,acc⟩:=u
 show Jn _ _ _ (body (l1,acc)) (body' (xl s m l1,acc))
 rw [hb,hb']
 refine eF (fun _=>?_) fun _=>?_
 ·exact ia (ni (.inr rfl)) fun z=>bm (ext:=xR s m) (o:=.inr (.inr z)) id
 ·refine zi (hpe l1) fun a=>eF (fun _=>?_) fun _=>fM
  exact uD fun b r=>eF (fun _=>bm (ext:=xR s m) (o:=.inl (r,_)) id) fun _=>bm (ext:=xR s m) (o:=.inr (.inl (_,r))) id
theorem uE{n:Int}:Jn nP (xP s m) (l≠[]) (dG n ⟨l,E,o,t⟩) (dG n ⟨xl s m l,E',o',t'⟩):=by
 unfold dG
 exact wI (n:=n) (rm:=16) (pe:=fun l=>aT ⟨l,E,o,t⟩) (pe':=fun l=>aT ⟨l,E',o',t'⟩) (fun _=>oG) (fun _ _=>rfl) fun _ _=>rfl
theorem xO{n:Int}:Jn nP (xP s m) (l≠[]) (dY n ⟨l,E,o,t⟩) (dY n ⟨xl s m l,E',o',t'⟩):=by
 unfold dY
 exact wI (n:=n) (rm:=24) (pe:=fun l=>cD ⟨l,E,o,t⟩) (pe':=fun l=>cD ⟨l,E',o',t'⟩) (fun _=>tP) (fun _ _=>rfl) fun _ _=>rfl
theorem uF{n:Int}:Jn nP (xP s m) (l≠[]) (da n ⟨l,E,o,t⟩) (da n ⟨xl s m l,E',o',t'⟩):=by
 unfold da
 exact wI (n:=n) (rm:=48) (pe:=fun l=>cE ⟨l,E,o,t⟩) (pe':=fun l=>cE ⟨l,E',o',t'⟩) (fun _=>wH) (fun _ _=>rfl) fun _ _=>rfl
end
abbrev nG{α:Type}:(α×List aa×Int×Int) ⊕ (Int×Int)→Prop:=Sum.elim (fun z=>z.2.1≠[]) iU
abbrev xG{α:Type}(s:Int)(m:List aa):(α×List aa×Int×Int) ⊕ (Int×Int)→(α×List aa×Int×Int) ⊕ (Int×Int):=Sum.map (fun z=>(z.1,xl s m z.2.1,z.2.2)) (sf2 s)
def RJ(s:Int)(m:List aa)(E E':Int)(rc:Int→ae→Option RX):Prop:=∀ (n o t:Int) (l:List aa),Jn nG (xG s m) (l≠[]) (rc n ⟨l,E,o,t⟩) (rc n ⟨xl s m l,E',o,t⟩)
section
variable {O O':Type} {ne:O→Prop} {ext:O→O'} {C:Prop}
variable {s:Int} {m:List aa} {E E':Int} {l:List aa} {o t:Int}
theorem sn{f:aa×List aa→Option O}{f':aa×List aa→Option O'}(h:∀ x r,l=x :: r→Jn ne ext (r≠[]) (f (x,r)) (f' (shT s x,xl s m r))) :
  Jn ne ext (l≠[]) ((aq ⟨l,E,o,t⟩).bind f) ((aq ⟨xl s m l,E',o,t⟩).bind f'):=by
 cases l with
 |nil=>exact fM
 |cons x r=>exact mK (by simp) h
variable {rc:Int→ae→Option RX}
theorem wJ(hr:RJ s m E E' rc):Jn nG (xG s m) (l≠[]) (cM rc ⟨l,E,o,t⟩) (cM rc ⟨xl s m l,E',o,t⟩):=by
 unfold cM
 exact fQ (hr _ _ _ _) fun z=>fQ gP fun y=>bm (ext:=xG s m) (o:=.inl (z.1,y,z.2.2.1,z.2.2.2)) id
theorem wK(hr:RJ s m E E' rc):Jn nG (xG s m) (l≠[]) (cN rc ⟨l,E,o,t⟩) (cN rc ⟨xl s m l,E',o,t⟩):=by
 unfold cN
 refine fQ (hr _ _ _ _) fun z=>fQ gP fun y=>fQ (hr _ _ _ _) fun z2=>fQ gP fun y2=>fQ (hr _ _ _ _) fun z3=>?_
 exact bm (ext:=xG s m) (o:=.inl (af.mk 6 0 0 [] [] (lit [z.1,z2.1,z3.1]),z3.2.1,z3.2.2.1,IntKind.wrap .i64 (z3.2.2.2+1))) id
theorem vq{x:af}(hr:RJ s m E E' rc):Jn nG (xG s m) (l≠[]) (cw rc x ⟨l,E,o,t⟩) (cw rc x ⟨xl s m l,E',o,t⟩):=by
 unfold cw
 refine fQ (hr _ _ _ _) fun z=>fQ gP fun y=>fQ (hr _ _ _ _) fun z2=>?_
 unfold dp
 exact fQ gP fun y2=>bm (ext:=xG s m) (o:=.inl (af.mk 11 0 0 [] [] (lit [x,z.1,z2.1]),y2,z2.2.2.1,IntKind.wrap .i64 (z2.2.2.2+1))) id
theorem vr{ra:ae→Option RX}{n:Int}(ha:∀ (o t:Int) (l:List aa),Jn nG (xG s m) (l≠[]) (ra ⟨l,E,o,t⟩) (ra ⟨xl s m l,E',o,t⟩)):Jn nG (xG s m) (l≠[]) (bP ra n ⟨l,E,o,t⟩) (bP ra n ⟨xl s m l,E',o,t⟩):=by
 unfold bP
 exact fQ (ha _ _ _) fun z=>bm (ext:=xG s m) (o:=.inl (af.mk 4 n 0 [] [] (lit [z.1]),z.2.1,z.2.2.1,IntKind.wrap .i64 (z.2.2.2+1))) id
theorem pd{X X':ae→Option RX}(hl:l≠[])(hX:∀ (o:Int) (l1:List aa),Jn nG (xG s m) (l1≠[]) (X ⟨l1,E,o,t⟩) (X' ⟨xl s m l1,E',o,t⟩)) :
  Jn nG (xG s m) (l≠[]) (if o=60 then (an 6 ⟨l,E,o,t⟩).bind (fun y=>some (.inr (y.1,y.2))) else (aq ⟨l,E,IntKind.wrap .i64 (o+1),t⟩).bind fun y2=>(X ⟨y2.2,E,IntKind.wrap .i64 (o+1),t⟩).bind fun y3=>Sum.elim (fun y6=>some (.inl (y6.1,y6.2.1,IntKind.wrap .i64 (y6.2.2.1 - 1),y6.2.2.2))) (fun y7=>some (.inr (y7.1,y7.2))) y3)
   (if o=60 then (an 6 ⟨xl s m l,E',o,t⟩).bind (fun y=>some (.inr (y.1,y.2))) else (aq ⟨xl s m l,E',IntKind.wrap .i64 (o+1),t⟩).bind fun y2=>(X' ⟨y2.2,E',IntKind.wrap .i64 (o+1),t⟩).bind fun y3=>Sum.elim (fun y6=>some (.inl (y6.1,y6.2.1,IntKind.wrap .i64 (y6.2.2.1 - 1),y6.2.2.2))) (fun y7=>some (.inr (y7.1,y7.2))) y3):=by
 refine eF (fun _=>?_) fun _=>?_
 ·exact ia (uC hl) fun z=>bm (ext:=xG s m) (o:=.inr z) id
 ·exact mK hl fun x r _=>fQ (hX _ _) fun z=>bm (ext:=xG s m) (o:=.inl (z.1,z.2.1,_,_)) id
theorem uG(h:l≠[]):cF ⟨xl s m l,E',o,t⟩=cF ⟨l,E,o,t⟩:=by
 cases l with
 |nil=>exact absurd rfl h
 |cons x r =>
  obtain ⟨h1,h2⟩:=mL (s:=s) (m:=m) (l:=x :: r) (by simp)
  unfold cF
  rw [iN (show ¬ (((xl s m (x :: r)).length:Nat):Int)=0 by omega),iP (show 0≤0∧0<(((xl s m (x :: r)).length:Nat):Int) from ⟨by decide,h1⟩),iN (show ¬ (((x :: r).length:Nat):Int)=0 by omega),iP (show 0≤0∧0<(((x :: r).length:Nat):Int) from ⟨by decide,h2⟩)]
  rfl
theorem s5:cF ⟨[],E,o,t⟩=some []:=rfl
theorem ix2(x:List UInt8)(l:List (List UInt8))(h:l.length≤9000000):dj x l=some (nL l x):=by
 rw [← nf l x h];rfl
theorem wL{A:Type}{n1:A→Prop}{x:A ⊕ (Int×Int)→O'}{b:Option O'}:Jn (Sum.elim n1 iU) x C (some (.inr (5,E))) b:=fun p e hn=>by
 cases e
 rcases hn with h|h<;>exact absurd h (show ¬ (5:Int)=_ by decide)
theorem tQ:Jn nP (xP s m) (l≠[]) (cg ⟨l,E,o,t⟩) (cg ⟨xl s m l,E',o,t⟩):=by
 by_cases hl:l=[]
 ·subst hl
  have:cg ⟨[],E,o,t⟩=some (.inr (5,E)):=by
   unfold cg
   rw [s5,bSq,ix2 _ _ (by simp [lit]),bSq,iP dM];rfl
  rw [this];exact wL
 ·unfold cg
  rw [uG (E:=E) hl]
  obtain ⟨w,hw⟩:∃ w,cF ⟨l,E,o,t⟩=w:=⟨_,rfl⟩
  rw [hw]
  cases w with
  |none=>exact fM
  |some w =>
   rw [bSq,bSq,ix2 _ _ (by simp [lit]),bSq,bSq]
   refine eF (fun _=>?_) fun _=>?_
   ·exact ia (ni (.inl rfl)) fun z=>bm (ext:=xP s m) (o:=.inr z) id
   ·exact mK hl fun x r _=>bm (ext:=xP s m) (o:=.inl (_,r)) id
theorem xQ{n:Int}(hr:RJ s m E E' rc):Jn nG (xG s m) (l≠[]) (dX rc n ⟨l,E,o,t⟩) (dX rc n ⟨xl s m l,E',o,t⟩):=by
 unfold dX
 refine fQ (hr _ _ _ _) fun z=>?_
 have hj:∀ x6,Jn nG (xG s m) (z.2.1≠[]) (bx rc ⟨l,E,o,t⟩ z x6) (bx rc ⟨xl s m l,E',o,t⟩ (z.1,xl s m z.2.1,z.2.2) x6):=by
  intro x6
  unfold bx
  refine nh (nS:=n2) (xS:=x2 s m) (nT:=n2) (xT:=x2 s m) (fun u=>?_) (fun b=>?_) (z.2.1,z.2.2.1,z.2.2.2,lit [z.1])
  ·obtain ⟨l30,x31,x32,l33⟩:=u
   show Jn _ _ _ (dq rc _ x6 l30 x31 x32 l33) (dq rc _ x6 (xl s m l30) x31 x32 l33)
   unfold dq
   refine eF (fun _=>?_) fun _=>bm (ext:=Sum.map (x2 s m) (Sum.map (x2 s m) (xG s m))) (o:=.inr (.inl (l30,x31,x32,l33))) id
   exact oF gP fun y=>oF (hr _ _ _ _) fun z=>eF (fun _=>bm (ext:=Sum.map (x2 s m) (Sum.map (x2 s m) (xG s m))) (o:=.inl (z.2.1,_,_,_)) id) fun _=>fM
  ·exact bm (ext:=xG s m) (o:=.inl (b.2.2.2,b.1,b.2.1,b.2.2.1)) id
 refine eF (fun _=>eF (fun _=>eF (fun _=>eF (fun _=>eF (fun _=>hj _) fun _=>eF (fun _=>?_) fun _=>hj _) fun _=>fM) fun _=>fM) fun _=>fM) fun _=>fM
 exact pQ (by simp [lit]) fun b _=>eF (fun _=>hj _) fun _=>hj _
abbrev RF:=(Int×Int×Int×(List UInt8)×(List af)×Int×(List af)×(List aa)×Int×Int×(List (List ai))) ⊕ (Int×Int)
abbrev nF:RF→Prop:=Sum.elim (fun z=>z.2.2.2.2.2.2.2.1≠[]) iU
abbrev xF(s:Int)(m:List aa):RF→RF:=Sum.map (fun z=>(z.1,z.2.1,z.2.2.1,z.2.2.2.1,z.2.2.2.2.1,z.2.2.2.2.2.1,z.2.2.2.2.2.2.1,xl s m z.2.2.2.2.2.2.2.1,z.2.2.2.2.2.2.2.2)) (sf2 s)
theorem wM{n p2 p3 p4:Int}{p5:List UInt8}{p6:List af}{p8:List (List ai)}(hr:RJ s m E E' rc):Jn nF (xF s m) (l≠[]) (dK rc n p2 p3 p4 p5 p6 ⟨l,E,o,t⟩ p8) (dK rc n p2 p3 p4 p5 p6 ⟨xl s m l,E',o,t⟩ p8):=by
 have hj:∀ (x6:Int) (l7:List aa),Jn nF (xF s m) (l7≠[]) (bC rc n p2 p4 p5 ⟨l,E,o,t⟩ p8 x6 l7) (bC rc n p2 p4 p5 ⟨xl s m l,E',o,t⟩ p8 x6 (xl s m l7)):=by
  intro x6 l7
  unfold bC
  refine fQ (xQ hr) fun z=>eF (fun _=>eF (fun _=>?_) fun _=>fM) fun _=>fM
  refine nh (nS:=n2) (xS:=x2 s m) (nT:=n2) (xT:=x2 s m) (fun u=>?_) (fun b=>?_) (z.2.1,p8,(0:Int))
  ·obtain ⟨l38,l39,x41⟩:=u
   show Jn _ _ _ (c8 n _ z l38 l39 x41) (c8 n _ (z.1,xl s m z.2.1,z.2.2) (xl s m l38) l39 x41)
   unfold c8
   refine eF (fun _=>?_) fun _=>bm (ext:=Sum.map (x2 s m) (Sum.map (x2 s m) (xF s m))) (o:=.inr (.inl (l38,l39))) id
   exact oF gP fun y=>oF tP fun z=>eF (fun _=>bm (ext:=Sum.map (x2 s m) (Sum.map (x2 s m) (xF s m))) (o:=.inl (z.2,_,_)) id) fun _=>fM
  ·obtain ⟨l15,l16⟩:=b
   show Jn _ _ _ (bO p2 p4 p5 _ x6 z l15 l16) (bO p2 p4 p5 _ x6 (z.1,xl s m z.2.1,z.2.2) (xl s m l15) l16)
   unfold bO
   exact fQ gP fun y=>bm (ext:=xF s m) (o:=.inl (p2,x6,p4,p5,z.1,x6,z.1,y,z.2.2.1,IntKind.wrap .i64 (z.2.2.2+1),l16)) id
 unfold dK
 refine fQ gP fun y=>eF (fun _=>eF (fun _=>?_) fun _=>hj _ _) fun _=>hj _ _
 exact fQ tQ fun z=>fQ gP fun w=>hj _ _
theorem zj(hr:RJ s m E E' rc):Jn nG (xG s m) (l≠[]) (dv rc ⟨l,E,o,t⟩) (dv rc ⟨xl s m l,E',o,t⟩):=by
 by_cases hl:l=[]
 ·subst hl
  have:dv rc ⟨[],E,o,t⟩=some (.inr (5,E)):=by
   unfold dv
   rw [s5,bSq,ix2 _ _ (by simp [lit]),bSq,iP dM];rfl
  rw [this];exact wL
 ·unfold dv
  rw [uG (E:=E) hl]
  obtain ⟨w,hw⟩:∃ w,cF ⟨l,E,o,t⟩=w:=⟨_,rfl⟩
  rw [hw]
  cases w with
  |none=>exact fM
  |some w =>
   rw [bSq,bSq,ix2 _ _ (by simp [lit]),bSq,bSq]
   generalize nL _ w=y2
   have hj:∀ x4,Jn nG (xG s m) (l≠[]) (bQ rc ⟨l,E,o,t⟩ y2 x4) (bQ rc ⟨xl s m l,E',o,t⟩ y2 x4):=by
    intro x4
    unfold bQ ed
    refine fQ (n1:=fun z:Int×Int×Int×(List UInt8)×(List af)×(List aa)×Int×Int×Int×(List af)×(List (List ai))=>z.2.2.2.2.2.1≠[]) (x1:=fun z=>(z.1,z.2.1,z.2.2.1,z.2.2.2.1,z.2.2.2.2.1,xl s m z.2.2.2.2.2.1,z.2.2.2.2.2.2)) ?_ fun z=>bm (ext:=xG s m) (o:=.inl (af.mk z.1 z.2.1 z.2.2.1 z.2.2.2.1 z.2.2.2.2.2.2.2.2.2.2 z.2.2.2.2.1,z.2.2.2.2.2.1,z.2.2.2.2.2.2.1,z.2.2.2.2.2.2.2.1)) id
    refine eF (fun _=>?_) fun _=>?_
    ·exact ia (uC hl) fun z=>bm (ext:=Sum.map (fun z:Int×Int×Int×(List UInt8)×(List af)×(List aa)×Int×Int×Int×(List af)×(List (List ai))=>(z.1,z.2.1,z.2.2.1,z.2.2.2.1,z.2.2.2.2.1,xl s m z.2.2.2.2.2.1,z.2.2.2.2.2.2)) (sf2 s)) (o:=.inr z) id
    ·exact mK hl fun x r _=>fQ (wM hr) fun y6=>bm (ext:=Sum.map (fun z:Int×Int×Int×(List UInt8)×(List af)×(List aa)×Int×Int×Int×(List af)×(List (List ai))=>(z.1,z.2.1,z.2.2.1,z.2.2.2.1,z.2.2.2.2.1,xl s m z.2.2.2.2.2.1,z.2.2.2.2.2.2)) (sf2 s)) (o:=.inl (y6.1,y6.2.1,y6.2.2.1,y6.2.2.2.1,y6.2.2.2.2.1,y6.2.2.2.2.2.2.2.1,_,y6.2.2.2.2.2.2.2.2.2.1,y6.2.2.2.2.2.1,y6.2.2.2.2.2.2.1,y6.2.2.2.2.2.2.2.2.2.2)) id
   exact eF (fun _=>ia (ni (.inl rfl)) fun z=>bm (ext:=xG s m) (o:=.inr z) id) fun _=>eF (fun _=>eF (fun _=>hj _) fun _=>eF (fun _=>hj _) fun _=>hj _) fun _=>fM
end
section
variable {O O':Type} {ne:O→Prop} {ext:O→O'} {C:Prop}
variable {s:Int} {m:List aa} {E E':Int} {l:List aa} {o t:Int}
variable {rc:Int→ae→Option RX}
theorem pf{a a':Option RX}(h:Jn nG (xG s m) C a a'):Jn nG (xG s m) C (a.bind fun y1=>Sum.elim (fun y4=>some (.inl ((y4.1),y4.2.1,y4.2.2.1,y4.2.2.2))) (fun y5=>some (.inr (y5.1,y5.2))) y1) (a'.bind fun y1=>Sum.elim (fun y4=>some (.inl ((y4.1),y4.2.1,y4.2.2.1,y4.2.2.2))) (fun y5=>some (.inr (y5.1,y5.2))) y1) :=
 fQ h fun z=>bm (ext:=xG s m) (o:=.inl z) id
theorem zk(hr:RJ s m E E' rc):Jn nG (xG s m) (l≠[]) (dR rc ⟨l,E,o,t⟩) (dR rc ⟨xl s m l,E',o,t⟩):=by
 have key:Jn nG (xG s m) (l≠[]) ((ap (lit ([([116,114,117,101]:List UInt8),([102,97,108,115,101]:List UInt8)]:List (List UInt8))) ⟨l,E,o,t⟩).bind fun y12=>if y12=true then ((aq ⟨l,E,o,t⟩).bind fun y16=>if ((y16.1).text)=([116,114,117,101]:List UInt8) then (cY ⟨l,E,o,t⟩ y16.2 1) else (cY ⟨l,E,o,t⟩ y16.2 0)) else ((ap (lit ([([40]:List UInt8)]:List (List UInt8))) ⟨l,E,o,t⟩).bind fun y17=>if y17=true then ((bJ rc ⟨l,E,o,t⟩).bind fun y18=>Sum.elim (fun y21=>some (.inl ((y21.1),y21.2.1,y21.2.2.1,y21.2.2.2))) (fun y22=>some (.inr (y22.1,y22.2))) y18) else ((ap (lit ([([105,102]:List UInt8)]:List (List UInt8))) ⟨l,E,o,t⟩).bind fun y23=>if y23=true then ((bK rc ⟨l,E,o,t⟩).bind fun y24=>Sum.elim (fun y27=>some (.inl ((y27.1),y27.2.1,y27.2.2.1,y27.2.2.2))) (fun y28=>some (.inr (y28.1,y28.2))) y24) else (bG rc ⟨l,E,o,t⟩))))
   ((ap (lit ([([116,114,117,101]:List UInt8),([102,97,108,115,101]:List UInt8)]:List (List UInt8))) ⟨xl s m l,E',o,t⟩).bind fun y12=>if y12=true then ((aq ⟨xl s m l,E',o,t⟩).bind fun y16=>if ((y16.1).text)=([116,114,117,101]:List UInt8) then (cY ⟨xl s m l,E',o,t⟩ y16.2 1) else (cY ⟨xl s m l,E',o,t⟩ y16.2 0)) else ((ap (lit ([([40]:List UInt8)]:List (List UInt8))) ⟨xl s m l,E',o,t⟩).bind fun y17=>if y17=true then ((bJ rc ⟨xl s m l,E',o,t⟩).bind fun y18=>Sum.elim (fun y21=>some (.inl ((y21.1),y21.2.1,y21.2.2.1,y21.2.2.2))) (fun y22=>some (.inr (y22.1,y22.2))) y18) else ((ap (lit ([([105,102]:List UInt8)]:List (List UInt8))) ⟨xl s m l,E',o,t⟩).bind fun y23=>if y23=true then ((bK rc ⟨xl s m l,E',o,t⟩).bind fun y24=>Sum.elim (fun y27=>some (.inl ((y27.1),y27.2.1,y27.2.2.1,y27.2.2.2))) (fun y28=>some (.inr (y28.1,y28.2))) y24) else (bG rc ⟨xl s m l,E',o,t⟩)))):=by
  refine pQ (by simp [lit]) fun b hb=>?_
  by_cases hbt:b=true
  ·rw [iP hbt,iP hbt]
   refine sn fun x r _=>?_
   refine eF (c:=x.text=[116,114,117,101]) (fun _=>?_) fun _=>?_
   ·exact bm (ext:=xG s m) (o:=.inl (af.mk 2 0 1 [] [] [],r,o,IntKind.wrap .i64 (t+1))) id
   ·exact bm (ext:=xG s m) (o:=.inl (af.mk 2 0 0 [] [] [],r,o,IntKind.wrap .i64 (t+1))) id
  ·rw [iN hbt,iN hbt]
   refine pQ (by simp [lit]) fun b hb=>?_
   by_cases hbt:b=true
   ·rw [iP hbt,iP hbt]
    unfold bJ
    exact pf (pd (X:=cM rc) (X':=cM rc) (lE hb hbt) fun o l1=>wJ hr)
   ·rw [iN hbt,iN hbt]
    refine pQ (by simp [lit]) fun b hb=>?_
    by_cases hbt:b=true
    ·rw [iP hbt,iP hbt]
     unfold bK
     exact pf (pd (X:=cN rc) (X':=cN rc) (lE hb hbt) fun o l1=>wK hr)
    ·rw [iN hbt,iN hbt]
     exact pf (zj hr)
 unfold dR
 cases l with
 |nil =>
  rw [iN (show ¬ ((([]:List aa).length:Nat):Int)>0 by simp),iN (show ¬ ((([]:List aa).length:Nat):Int)>0 by simp)]
  exact tO key (by simp)
 |cons x r =>
  obtain ⟨h1,h2⟩:=mL (s:=s) (m:=m) (l:=x :: r) (by simp)
  rw [iP h2,iP (show 0≤0∧0<(((x :: r).length:Nat):Int) from ⟨by decide,h2⟩),iP h1,iP (show 0≤0∧0<(((xl s m (x :: r)).length:Nat):Int) from ⟨by decide,h1⟩)]
  refine eF (c:=x.kind=3) (fun _=>?_) fun _=>?_
  ·exact sn fun x r _=>bm (ext:=xG s m) (o:=.inl (af.mk 1 0 x.n [] [] [],r,o,IntKind.wrap .i64 (t+1))) id
  ·rw [iP h2,iP h1]
   refine eF (c:=x.kind=2) (fun _=>?_) fun _=>key
   exact fQ oG fun y=>bm (ext:=xG s m) (o:=.inl (af.mk 3 0 0 y.1 [] [],y.2,o,IntKind.wrap .i64 (t+1))) id
theorem vt{ra:ae→Option RX}(hr:RJ s m E E' rc)(ha:∀ (o t:Int) (l:List aa),Jn nG (xG s m) (l≠[]) (ra ⟨l,E,o,t⟩) (ra ⟨xl s m l,E',o,t⟩)):Jn nG (xG s m) (l≠[]) (cx rc ra ⟨l,E,o,t⟩) (cx rc ra ⟨xl s m l,E',o,t⟩):=by
 unfold cx
 refine pQ (by simp [lit]) fun b hb=>?_
 by_cases hbt:b=true
 ·rw [iP hbt,iP hbt]
  have hl:=lE hb hbt
  have hj:∀ n,Jn nG (xG s m) (l≠[]) (cj ra ⟨l,E,o,t⟩ n) (cj ra ⟨xl s m l,E',o,t⟩ n):=by
   intro n
   unfold cj ff
   exact pf (pd (X:=bP ra n) (X':=bP ra n) hl fun o l1=>vr ha)
  exact pQ (by simp [lit]) fun b _=>eF (fun _=>hj _) fun _=>hj _
 ·rw [iN hbt,iN hbt]
  refine fQ (zk hr) fun z=>?_
  refine nh (nS:=n2) (xS:=x2 s m) (nT:=n2) (xT:=x2 s m) (fun u=>?_) (fun b=>?_) (z.2.1,z.2.2.1,z.2.2.2,z.1.op,z.1.k,z.1.n,z.1.name,z.1.s,z.1.l)
  ·obtain ⟨l41,x42,x43,x44,x45,x46,s47,l48,l49⟩:=u
   show Jn _ _ _ (cK rc _ l41 x42 x43 x44 x45 x46 s47 l48 l49) (cK rc _ (xl s m l41) x42 x43 x44 x45 x46 s47 l48 l49)
   unfold cK
   refine pQ (by simp [lit]) fun b hb=>?_
   by_cases hbt:b=true
   ·rw [iP hbt,iP hbt]
    unfold eX
    exact oF (pd (X:=cw rc _) (X':=cw rc _) (lE hb hbt) fun o l1=>vq hr) fun z=>bm (ext:=Sum.map (x2 s m) (Sum.map (x2 s m) (xG s m))) (o:=.inl (z.2.1,_)) id
   ·rw [iN hbt,iN hbt]
    exact bm (ext:=Sum.map (x2 s m) (Sum.map (x2 s m) (xG s m))) (o:=.inr (.inl (l41,_))) id
  ·obtain ⟨l41,x42,x43,x44,x45,x46,s47,l48,l49⟩:=b
   exact bm (ext:=xG s m) (o:=.inl (af.mk x44 x45 x46 s47 l48 l49,l41,x42,x43)) id
theorem rC(hr:RJ s m E E' rc):∀ (n:Nat) (o t:Int) (l:List aa),Jn nG (xG s m) (l≠[]) (cy rc n ⟨l,E,o,t⟩) (cy rc n ⟨xl s m l,E',o,t⟩)
 |0,_,_,_=>fM
 |n+1,_,_,_=>vt hr (rC hr n)
theorem AC{n:Int}{f:Int→Option O}{f':Int→Option O'}(h:∀ k,Jn ne ext (l≠[]) (f k) (f' k)):Jn ne ext (l≠[]) ((dW n ⟨l,E,o,t⟩).bind f) ((dW n ⟨xl s m l,E',o,t⟩).bind f'):=by
 unfold dW
 by_cases hn:0≤n∧n<(5:Int)
 ·rw [iP hn,iP hn]
  rw [Option.bind_assoc,Option.bind_assoc]
  have hlen:∀ i,i<5→((lit ([(lit ([([111,114]:List UInt8),([120,111,114]:List UInt8)]:List (List UInt8))),(lit ([([97,110,100]:List UInt8)]:List (List UInt8))),(lit ([([60]:List UInt8),([61,61]:List UInt8)]:List (List UInt8))),(lit ([([43]:List UInt8),([45]:List UInt8)]:List (List UInt8))),(lit ([([42]:List UInt8),([47]:List UInt8),([37]:List UInt8)]:List (List UInt8)))]:List (List (List UInt8)))).getD i default).length≤9000000:=by decide
  refine pQ (hlen _ oM) fun b hb=>?_
  by_cases hbt:b=true
  ·rw [iP hbt,iP hbt]
   have hl:=lE hb hbt
   obtain ⟨h1,h2⟩:=mL (s:=s) (m:=m) hl
   rw [iP (show 0≤0∧0<(l.length:Int) from ⟨by decide,h2⟩),iP (show 0≤0∧0<((xl s m l).length:Int) from ⟨by decide,h1⟩)]
   have ht:((xl s m l).getD 0 default).text=(l.getD 0 default).text:=by
    cases l with
    |nil=>exact absurd rfl hl
    |cons x r=>rfl
   simp only
   rw [ht]
   obtain ⟨v,hv⟩:∃ v,(cT ((lit ([(lit ([([111,114]:List UInt8),([120,111,114]:List UInt8)]:List (List UInt8))),(lit ([([97,110,100]:List UInt8)]:List (List UInt8))),(lit ([([60]:List UInt8),([61,61]:List UInt8)]:List (List UInt8))),(lit ([([43]:List UInt8),([45]:List UInt8)]:List (List UInt8))),(lit ([([42]:List UInt8),([47]:List UInt8),([37]:List UInt8)]:List (List UInt8)))]:List (List (List UInt8)))).getD n.toNat default) ((l.getD 0 default).text))=v:=⟨_,rfl⟩
   rw [hv]
   cases v with
   |none=>exact fM
   |some v =>
    rw [bSq]
    split
    ·exact h _
    ·exact fM
  ·rw [iN hbt,iN hbt]
   exact h 0
 ·rw [iN hn];exact fM
theorem wN{F:Nat}{n:Int}(hr:RJ s m E E' rc):Jn nG (xG s m) (l≠[]) (cO F rc n ⟨l,E,o,t⟩) (cO F rc n ⟨xl s m l,E',o,t⟩):=by
 unfold cO
 refine eF (fun _=>pf (rC hr F o t l)) fun _=>?_
 refine fQ (hr _ _ _ _) fun z=>AC fun k=>?_
 refine nh (nS:=n2) (xS:=x2 s m) (nT:=n2) (xT:=x2 s m) (fun u=>?_) (fun b=>?_) (z.2.1,z.2.2.1,z.2.2.2,z.1.op,z.1.k,z.1.n,z.1.name,z.1.s,z.1.l,k)
 ·obtain ⟨l41,x42,x43,x44,x45,x46,s47,l48,l49,x50⟩:=u
  show Jn _ _ _ (cZ rc n _ l41 x42 x43 x44 x45 x46 s47 l48 l49 x50) (cZ rc n _ (xl s m l41) x42 x43 x44 x45 x46 s47 l48 l49 x50)
  unfold cZ
  refine eF (fun _=>?_) fun _=>bm (ext:=Sum.map (x2 s m) (Sum.map (x2 s m) (xG s m))) (o:=.inr (.inl (l41,_))) id
  refine sn fun x r _=>oF (hr _ _ _ _) fun z=>?_
  unfold dp
  refine eF (c:=n=2) (fun _=>?_) fun _=>?_
  ·exact bm (ext:=Sum.map (x2 s m) (Sum.map (x2 s m) (xG s m))) (o:=.inr (.inl (z.2.1,z.2.2.1,IntKind.wrap .i64 (z.2.2.2+1),5,x50,0,[],[],lit [af.mk x44 x45 x46 s47 l48 l49,z.1]))) id
  ·exact AC fun k=>bm (ext:=Sum.map (x2 s m) (Sum.map (x2 s m) (xG s m))) (o:=.inl (z.2.1,z.2.2.1,IntKind.wrap .i64 (z.2.2.2+1),5,x50,0,[],[],lit [af.mk x44 x45 x46 s47 l48 l49,z.1],k)) id
 ·obtain ⟨l41,x42,x43,x44,x45,x46,s47,l48,l49⟩:=b
  exact bm (ext:=xG s m) (o:=.inl (af.mk x44 x45 x46 s47 l48 l49,l41,x42,x43)) id
theorem s6{F:Nat}:∀ n:Nat,RJ s m E E' (dr F n)
 |0,_,_,_,_=>fM
 |n+1,_,_,_,_=>wN (s6 n)
end
def Jr{O O':Type}(ne:O→Prop)(R:O→O'→Prop)(C:Prop)(a:Option O)(b:Option O'):Prop:=∀ o,a=some o→ne o→C∧∃ o',b=some o'∧R o o'
def SR{A A' B B':Type}(Ra:A→A'→Prop)(Rb:B→B'→Prop):A ⊕ B→A' ⊕ B'→Prop
 |.inl a,.inl a'=>Ra a a'
 |.inr b,.inr b'=>Rb b b'
 |_,_=>False
section
variable {O O' A A' B B':Type} {ne:O→Prop} {R:O→O'→Prop} {C C':Prop}
theorem du{o:O}{o':O'}(h:ne o→C)(hr:R o o'):Jr ne R C (some o) (some o'):=fun p e hn=>by cases e;exact ⟨h hn,_,rfl,hr⟩
theorem nE{b:Option O'}:Jr ne R C none b:=fun _ e _=>nomatch e
theorem wO{a:Option O}{b b':Option O'}(h:Jr ne R C a b)(hc:¬ C):Jr ne R C a b':=fun o e hn=>absurd (h o e hn).1 hc
theorem so{a:Option O}{b:Option O'}(h:Jr ne R C a b)(hc:C→C'):Jr ne R C' a b:=fun o e hn=>⟨hc (h o e hn).1,(h o e hn).2⟩
theorem pX{n1:A→Prop}{R1:A→A'→Prop}{a:Option A}{a':Option A'}{f:A→Option O}{f':A'→Option O'}(w:∀ z,∃ z',R1 z z')(h:Jr n1 R1 C a a')(hf:∀ z z',R1 z z'→Jr ne R (n1 z) (f z) (f' z')):Jr ne R C (a.bind f) (a'.bind f'):=fun o e hn=>by
 cases ha:a with
 |none=>rw [ha] at e;cases e
 |some z =>
  rw [ha] at e
  obtain ⟨z0,hz0⟩:=w z
  obtain ⟨k3,z',k4,k5⟩:=h z ha (hf z z0 hz0 o e hn).1
  obtain ⟨_,o',k6,k7⟩:=hf z z' k5 o e hn
  exact ⟨k3,o',by rw [k4];exact k6,k7⟩
theorem km{c:Prop}{d:Decidable c}{a b:Option O}{a' b':Option O'}(h1:c→Jr ne R C a a')(h2:¬ c→Jr ne R C b b'):Jr ne R C (if c then a else b) (if c then a' else b'):=by
 by_cases h:c
 ·rw [iP h,iP h];exact h1 h
 ·rw [iN h,iN h];exact h2 h
theorem Jn.r{ext:O→O'}{a:Option O}{b:Option O'}(h:Jn ne ext C a b):Jr ne (fun o o'=>o'=ext o) C a b:=fun o e hn=>⟨(h o e hn).1,_,(h o e hn).2,rfl⟩
theorem uH{S S':Type}{nS:S→Prop}{Rs:S→S'→Prop}{body:S→Option (S ⊕ O)}{body':S'→Option (S' ⊕ O')}(w:∀ u,∃ u',Rs u u')(step:∀ u u',Rs u u'→Jr (Sum.elim nS ne) (SR Rs R) (nS u) (body u) (body' u'))(u:S)(u':S')(hu:Rs u u'):Jr ne R (nS u) (db body u) (db body' u'):=fun o e hn=>by
 obtain ⟨n,hi⟩:=jg e
 clear e
 induction n generalizing u u' with
 |zero=>cases hi
 |succ n ih =>
  unfold jA at hi
  cases hb:body u with
  |none=>rw [hb] at hi;cases hi
  |some r =>
   rw [hb] at hi
   cases r with
   |inl v =>
    obtain ⟨v0,hv0⟩:=w v
    obtain ⟨k1,_⟩:=ih v v0 hv0 hi
    obtain ⟨k3,p',k4,k5⟩:=step u u' hu _ hb k1
    cases p' with
    |inl v' =>
     obtain ⟨_,o',k6,k7⟩:=ih v v' k5 hi
     exact ⟨k3,o',by rw [eT k4];exact k6,k7⟩
    |inr x=>exact k5.elim
   |inr o' =>
    cases hi
    obtain ⟨k3,p',k4,k5⟩:=step u u' hu _ hb hn
    cases p' with
    |inl x=>exact k5.elim
    |inr p'=>exact ⟨k3,p',cQ k4,k5⟩
variable {s:Int} {m:List aa} {E E':Int} {l:List aa} {o t o' t':Int}
theorem s7{W:List (List UInt8)}{f:Bool→Option O}{f':Bool→Option O'}(hW:W.length≤9000000)(h:∀ b,b=isB W l→Jr ne R (l≠[]) (f b) (f' b)) :
  Jr ne R (l≠[]) ((ap W ⟨l,E,o,t⟩).bind f) ((ap W ⟨xl s m l,E',o',t'⟩).bind f'):=fun p e hn=>by
 rw [wy _ _ hW] at e ⊢
 rw [bSq] at e ⊢
 obtain ⟨k1,k2⟩:=h _ rfl p e hn
 exact ⟨k1,by rw [show isB W (xl s m l)=isB W l from wE k1];exact k2⟩
theorem uI{f:aa×List aa→Option O}{f':aa×List aa→Option O'}(h:∀ x r,l=x :: r→Jr ne R True (f (x,r)) (f' (shT s x,xl s m r))) :
  Jr ne R (l≠[]) ((aq ⟨l,E,o,t⟩).bind f) ((aq ⟨xl s m l,E',o',t'⟩).bind f'):=by
 cases l with
 |nil=>exact nE
 |cons x r =>
  rw [it,pW,it]
  exact so (h x r rfl) fun _=>by simp
theorem sq{w:List UInt8}{f:Bool×List aa→Option O}{f':Bool×List aa→Option O'}(h:∀ b r,Jr ne R (r≠[]) (f (b,r)) (f' (b,xl s m r))) :
  Jr ne R (l≠[]) ((aM w ⟨l,E,o,t⟩).bind f) ((aM w ⟨xl s m l,E',o',t'⟩).bind f'):=by
 unfold aM
 rw [Option.bind_assoc,Option.bind_assoc]
 refine s7 (by simp [lit]) fun b hb=>?_
 by_cases hbt:b=true
 ·rw [iP hbt,iP hbt,Option.bind_assoc,Option.bind_assoc]
  cases l with
  |nil=>exact absurd rfl (lE hb hbt)
  |cons x r =>
   rw [it,pW,it]
   exact so (h b r) fun _=>by simp
 ·rw [iN hbt,iN hbt]
  exact h b l
abbrev RE{A A':Type}(s:Int)(R1:A→A'→Prop):A ⊕ (Int×Int)→A' ⊕ (Int×Int)→Prop:=SR R1 (fun f f'=>f'=sf2 s f)
theorem AD{R1:A→A'→Prop}(w:∀ z,∃ z',R1 z z'):∀ z,∃ z',RE s R1 z z'
 |.inl z=>by obtain ⟨z',h⟩:=w z;exact ⟨.inl z',h⟩
 |.inr f=>⟨.inr (sf2 s f),rfl⟩
variable {n1:A→Prop} {n2':B→Prop} {R2:B→B'→Prop}
theorem Jn.re{x1:A→A'}{a:Option (A ⊕ (Int×Int))}{a':Option (A' ⊕ (Int×Int))}(h:Jn (Sum.elim n1 iU) (Sum.map x1 (sf2 s)) C a a'):Jr (Sum.elim n1 iU) (RE s fun z z'=>z'=x1 z) C a a':=fun o e hn=>by
 obtain ⟨h1,h2⟩:=h o e hn
 refine ⟨h1,_,h2,?_⟩
 cases o with
 |inl z=>exact rfl
 |inr f=>exact rfl
theorem wP{F:Nat}:Jn nG (xG s m) (l≠[]) (cU F ⟨l,E,o,t⟩) (cU F ⟨xl s m l,E',o,t'⟩):=by
 have hj:∀ x1 x1',Jn nG (xG s m) (l≠[]) (bU F ⟨l,E,o,t⟩ x1) (bU F ⟨xl s m l,E',o,t'⟩ x1'):=by
  intro x1 x1'
  unfold bU
  refine fQ (s6 F 0 o 0 l) fun z=>eF (fun _=>?_) fun _=>bm (ext:=xG s m) (o:=.inl z) id
  intro p e hn
  cases e
  rcases hn with h|h<;>exact absurd h (show ¬ (7:Int)=_ by decide)
 unfold cU
 cases l with
 |nil =>
  rw [iN (show ¬ ((([]:List aa).length:Nat):Int)>0 by simp)]
  exact tO (hj E 0) (by simp)
 |cons x r =>
  obtain ⟨h1,h2⟩:=mL (s:=s) (m:=m) (l:=x :: r) (by simp)
  rw [iP h2,iP (show 0≤0∧0<(((x :: r).length:Nat):Int) from ⟨by decide,h2⟩),iP h1,iP (show 0≤0∧0<(((xl s m (x :: r)).length:Nat):Int) from ⟨by decide,h1⟩)]
  exact hj _ _
end
def shQ(s:Int)(q:TEq):TEq:={ q with at_:=q.at_+s }
def shN(s:Int)(x:aL):aL:={ x with at_:=x.at_+s,eqs:=x.eqs.map (shQ s) }
def RG{α β:Type}(s:Int)(m:List aa)(ra:α→β→Prop)(z:α×List aa×Int×Int)(z':β×List aa×Int×Int):Prop:=ra z.1 z'.1∧z'.2.1=xl s m z.2.1∧z'.2.2.1=z.2.2.1
section
variable {O O' A A':Type} {ne:O→Prop} {R:O→O'→Prop} {C:Prop} {s:Int} {m:List aa} {E E':Int} {l:List aa} {o t o' t':Int} {n1:A→Prop}
theorem zl{α β:Type}{ra:α→β→Prop}(w:∀ z,∃ z',ra z z'):∀ z,∃ z',RG s m ra z z':=fun z=>by
 obtain ⟨v,hv⟩:=w z.1
 exact ⟨(v,xl s m z.2.1,z.2.2),hv,rfl,rfl⟩
theorem pw{R1:A→A'→Prop}{a:Option (A ⊕ (Int×Int))}{a':Option (A' ⊕ (Int×Int))}{f:A→Option O}{g:Int×Int→Option O}{f':A'→Option O'}{g':Int×Int→Option O'}(w:∀ z,∃ z',R1 z z')(h:Jr (Sum.elim n1 iU) (RE s R1) C a a')(hf:∀ z z',R1 z z'→Jr ne R (n1 z) (f z) (f' z'))(hg:∀ e,Jr ne R (iU e) (g e) (g' (sf2 s e))) :
  Jr ne R C (a.bind fun y=>Sum.elim f g y) (a'.bind fun y=>Sum.elim f' g' y):=pX (AD w) h fun z z' hz=>by
 cases z with
 |inl z=>cases z' with
  |inl z'=>exact hf z z' hz
  |inr f=>exact hz.elim
 |inr e=>cases z' with
  |inl z'=>exact hz.elim
  |inr e' =>
   have hz:e'=sf2 s e:=hz
   subst hz;exact hg e
theorem eY{x1:A→A'}{a:Option (A ⊕ (Int×Int))}{a':Option (A' ⊕ (Int×Int))}{f:A→Option O}{g:Int×Int→Option O}{f':A'→Option O'}{g':Int×Int→Option O'}(h:Jn (Sum.elim n1 iU) (Sum.map x1 (sf2 s)) C a a')(hf:∀ z,Jr ne R (n1 z) (f z) (f' (x1 z)))(hg:∀ e,Jr ne R (iU e) (g e) (g' (sf2 s e))) :
  Jr ne R C (a.bind fun y=>Sum.elim f g y) (a'.bind fun y=>Sum.elim f' g' y):=pw (R1:=fun z z'=>z'=x1 z) (fun z=>⟨x1 z,rfl⟩) h.re (fun z z' hz=>by subst hz;exact hf z) hg
theorem pg{c:Int}(hc:c=4∨c=7){g:Int×Int→Option O}{g':Int×Int→Option O'}(hg:∀ e,Jr ne R (iU e) (g e) (g' (sf2 s e))):Jr ne R (l≠[]) ((an c ⟨l,E,o,t⟩).bind g) ((an c ⟨xl s m l,E',o',t'⟩).bind g') :=
 pX (n1:=iU) (R1:=fun f f'=>f'=sf2 s f) (fun z=>⟨sf2 s z,rfl⟩) (ni hc).r fun z z' hz=>by subst hz;exact hg z
abbrev REG{α:Type}(s:Int)(m:List aa):(α×List aa×Int×Int) ⊕ (Int×Int)→(α×List aa×Int×Int) ⊕ (Int×Int)→Prop:=RE s (RG s m Eq)
theorem xU{F:Nat}{n:Int}:Jr nG (REG s m) (l≠[]) (dZ F n ⟨l,E,o,t⟩) (dZ F n ⟨xl s m l,E',o,t'⟩):=by
 unfold dZ
 refine pX (n1:=nG) (R1:=REG s m) (AD (zl fun z=>⟨z,rfl⟩)) ?_ fun z z' hz=>du id hz
 refine uH (nS:=n2) (Rs:=fun u u'=>u'.1=xl s m u.1∧u'.2.1=u.2.1∧u'.2.2.2=u.2.2.2) (fun u=>⟨(xl s m u.1,u.2),rfl,rfl,rfl⟩) (fun u u' hu=>?_) (l,o,t,([]:List af)) (xl s m l,o,t',[]) ⟨rfl,rfl,rfl⟩
 obtain ⟨l17,x18,x19,l20⟩:=u
 obtain ⟨l17',x18',x19',l20'⟩:=u'
 have k1:l17'=xl s m l17:=hu.1
 have k2:x18'=x18:=hu.2.1
 have k3:l20'=l20:=hu.2.2
 clear hu
 subst k1 k2 k3
 show Jr _ _ _ (dt F n _ l17 x18' x19 l20') (dt F n _ (xl s m l17) x18' x19' l20')
 unfold dt
 refine km (fun _=>pg (.inr rfl) fun e=>du id rfl) fun _=>eY wP (fun z=>km (fun _=>?_) fun _=>nE) fun e=>du id rfl
 exact sq fun b r=>km (fun _=>du id ⟨rfl,rfl,rfl⟩) fun _=>du id ⟨rfl,rfl,rfl⟩
abbrev RQ(s:Int)(m:List aa):(TEq×List aa×Int×Int) ⊕ (Int×Int)→(TEq×List aa×Int×Int) ⊕ (Int×Int)→Prop:=RE s (RG s m fun q q'=>q'=shQ s q)
theorem uJ{y4:List (List UInt8)×List aa}{y19:List UInt8×List aa}{l22:List (List ai)}{l28:List aa}{x29 x30 x30':Int}{l31:List af}(hl:l≠[]):Jr nG (RQ s m) (l28≠[]) (cH ⟨l,E,o,t⟩ y4 y19 l22 l28 x29 x30 l31) (cH ⟨xl s m l,E',o',t'⟩ (y4.1,xl s m y4.2) (y19.1,xl s m y19.2) l22 (xl s m l28) x29 x30' l31):=by
 unfold cH
 refine eY gP (fun z=>du id ⟨?_,rfl,rfl⟩) fun e=>du id rfl
 cases l with
 |nil=>exact absurd rfl hl
 |cons x r=>rfl
theorem uK{F:Nat}{y4:List (List UInt8)×List aa}{y19:List UInt8×List aa}{l22:List (List ai)}{l21:List aa}(hl:l≠[]):Jr nG (RQ s m) (l21≠[]) (cI F ⟨l,E,o,t⟩ y4 y19 l21 l22) (cI F ⟨xl s m l,E',o,t'⟩ (y4.1,xl s m y4.2) (y19.1,xl s m y19.2) (xl s m l21) l22):=by
 unfold cI
 refine eY gP (fun z=>s7 (by simp [lit]) fun b _=>km (fun _=>uJ hl) fun _=>?_) fun e=>du id rfl
 refine pw (zl fun z=>⟨z,rfl⟩) xU (fun z z' hz=>?_) fun e=>du id rfl
 obtain ⟨v,l1,o1,t1⟩:=z
 obtain ⟨v',l1',o1',t1'⟩:=z'
 have k1:v=v':=hz.1
 have k2:l1'=xl s m l1:=hz.2.1
 have k3:o1'=o1:=hz.2.2
 clear hz
 subst k1 k2 k3
 exact uJ hl
theorem uL{F:Nat}{y4:List (List UInt8)×List aa}{y9:List aa}(hl:l≠[]):Jr nG (RQ s m) (y9≠[]) (cJ F ⟨l,E,o,t⟩ y4 y9) (cJ F ⟨xl s m l,E',o,t'⟩ (y4.1,xl s m y4.2) (xl s m y9)):=by
 unfold cJ
 refine eY gP (fun z=>eY oG (fun y=>sq fun b r=>km (fun _=>?_) fun _=>uK hl) fun e=>du id rfl) fun e=>du id rfl
 exact eY xO (fun z=>eY gP (fun w=>uK hl) fun e=>du id rfl) fun e=>du id rfl
theorem A0{F:Nat}:Jr nG (RQ s m) (l≠[]) (eu F ⟨l,E,o,t⟩) (eu F ⟨xl s m l,E',o,t'⟩):=by
 unfold eu
 by_cases hl:l=[]
 ·subst hl;rw [iN (by simp)];exact nE
 ·obtain ⟨h1,h2⟩:=mL (s:=s) (m:=m) hl
  rw [iP (show 0≤0∧0<(l.length:Int) from ⟨by decide,h2⟩),iP (show 0≤0∧0<((xl s m l).length:Int) from ⟨by decide,h1⟩)]
  refine eY uE (fun z=>eY gP (fun y=>km (c:=(z.1.length:Int)=1) (fun _=>?_) fun _=>uL hl) fun e=>du id rfl) fun e=>du id rfl
  refine s7 (by simp [lit]) fun b _=>km (fun _=>uL hl) fun _=>eY wP (fun z2=>du id ⟨?_,rfl,rfl⟩) fun e=>du id rfl
  cases l with
  |nil=>exact absurd rfl hl
  |cons x r=>rfl
abbrev nN:(aL×List aa×Int×Int) ⊕ (Int×Int)→Prop:=Sum.elim (fun _=>True) iU
abbrev RNd(s:Int)(m:List aa):(aL×List aa×Int×Int) ⊕ (Int×Int)→(aL×List aa×Int×Int) ⊕ (Int×Int)→Prop:=RE s (RG s m fun x x'=>x'=shN s x)
abbrev LS:=List aa×Int×Int×List aI×List TEq
def RL(s:Int)(m:List aa)(u u':LS):Prop:=u'.1=xl s m u.1∧u'.2.1=u.2.1∧u'.2.2.2.1=u.2.2.2.1∧u'.2.2.2.2=u.2.2.2.2.map (shQ s)
theorem AE:∀ u:LS,∃ u',RL s m u u':=fun u=>⟨(xl s m u.1,u.2.1,u.2.2.1,u.2.2.2.1,u.2.2.2.2.map (shQ s)),rfl,rfl,rfl,rfl⟩
theorem xV{F:Nat}{pl:List aa}{o0 t0:Int}{u u':LS}(hu:RL s m u u'):Jr (Sum.elim n2 (Sum.elim n2 nN)) (SR (RL s m) (SR (RL s m) (RNd s m))) (u.1≠[]) ((fun (l69,x70,x71,l72,l74)=>bY F ⟨pl,E,o0,t0⟩ l69 x70 x71 l72 l74) u) ((fun (l69,x70,x71,l72,l74)=>bY F ⟨xl s m pl,E',o',t'⟩ l69 x70 x71 l72 l74) u'):=by
 obtain ⟨l69,x70,x71,l72,l74⟩:=u
 obtain ⟨l69',x70',x71',l72',l74'⟩:=u'
 have k1:l69'=xl s m l69:=hu.1
 have k2:x70'=x70:=hu.2.1
 have k3:l72'=l72:=hu.2.2.1
 have k4:l74'=l74.map (shQ s):=hu.2.2.2
 clear hu
 subst k1 k2 k3 k4
 show Jr _ _ _ (bY F _ l69 x70' x71 l72' l74) (bY F _ (xl s m l69) x70' x71' l72' (l74.map (shQ s)))
 have semi:∀ (l81:List aa) (x82 x83 x83':Int) (l84:List aI) (l86 l86':List TEq),l86'=l86.map (shQ s)→Jr (Sum.elim n2 (Sum.elim n2 nN)) (SR (RL s m) (SR (RL s m) (RNd s m))) (l81≠[]) (bW ⟨pl,E,o0,t0⟩ l81 x82 x83 l84 l86) (bW ⟨xl s m pl,E',o',t'⟩ (xl s m l81) x82 x83' l84 l86'):=by
  intro l81 x82 x83 x83' l84 l86 l86' he
  unfold bW
  exact eY gP (fun z=>du id ⟨rfl,rfl,rfl,he⟩) fun e=>du id rfl
 have five:∀ b r,Jr (Sum.elim n2 (Sum.elim n2 nN)) (SR (RL s m) (SR (RL s m) (RNd s m))) (r≠[]) (bH F ⟨pl,E,o0,t0⟩ x70' x71 l72' l74 (b,r)) (bH F ⟨xl s m pl,E',o',t'⟩ x70' x71' l72' (l74.map (shQ s)) (b,xl s m r)):=by
  intro b r
  unfold bH
  by_cases hr:r=[]
  ·subst hr
   rw [iP (show ((([]:List aa).length:Nat):Int)=0 from rfl)]
   exact wO (pg (s:=s) (m:=m) (E':=E') (o':=x70') (t':=x71') (g':=fun e=>(some (.inr (.inr (.inr (e.1,e.2)))):Option (LS ⊕ (LS ⊕ ((aL×List aa×Int×Int) ⊕ (Int×Int)))))) (.inl rfl) fun e=>du id rfl) (by simp)
  ·obtain ⟨k1,k2⟩:=mL (s:=s) (m:=m) hr
   rw [iN (show ¬ (r.length:Int)=0 by omega),iN (show ¬ ((xl s m r).length:Int)=0 by omega)]
   refine pw (zl (ra:=fun q q'=>q'=shQ s q) fun z=>⟨shQ s z,rfl⟩) A0 (fun z z' hz=>?_) fun e=>du id rfl
   obtain ⟨v,l1,o1,t1⟩:=z
   obtain ⟨v',l1',o1',t1'⟩:=z'
   have k1:v'=shQ s v:=hz.1
   have k2:l1'=xl s m l1:=hz.2.1
   have k3:o1'=o1:=hz.2.2
   clear hz
   subst k1 k2 k3
   rw [List.length_map]
   exact km (fun _=>semi _ _ _ _ _ _ _ (by rw [List.map_append];rfl)) fun _=>nE
 unfold bY
 refine s7 (by simp [lit]) fun b hb=>km (fun _=>du id ⟨rfl,rfl,rfl,rfl⟩) fun _=>sq fun b r=>km (fun _=>?_) fun _=>?_
 ·refine km (fun _=>pg (.inr rfl) fun e=>du id rfl) fun _=>eY wH (fun z=>km (fun _=>?_) fun _=>nE) fun e=>du id rfl
  exact semi _ _ _ _ _ _ _ rfl
 ·by_cases hr:r=[]
  ·subst hr
   rw [iN (show ¬ ((([]:List aa).length:Nat):Int)>0 by simp)]
   exact wO (five b []) (by simp)
  ·obtain ⟨k1,k2⟩:=mL (s:=s) (m:=m) hr
   rw [iP k2,iP (show 0≤0∧0<(r.length:Int) from ⟨by decide,k2⟩),iP k1,iP (show 0≤0∧0<((xl s m r).length:Int) from ⟨by decide,k1⟩)]
   have hk:((xl s m r).getD 0 default).kind=(r.getD 0 default).kind:=by
    cases r with
    |nil=>exact absurd rfl hr
    |cons x r=>rfl
   simp only [hk,List.length_map]
   exact km (fun _=>km (fun _=>pg (.inr rfl) fun e=>du id rfl) fun _=>five b r) fun _=>five b r
theorem wQ{F:Nat}:Jr nN (RNd s m) (l≠[]) (cG F ⟨l,E,o,t⟩) (cG F ⟨xl s m l,E',o,t'⟩):=by
 by_cases hl:l=[]
 ·subst hl;unfold cG;rw [iN (by simp)];exact nE
 obtain ⟨h1,h2⟩:=mL (s:=s) (m:=m) hl
 have hat:((xl s m l).getD 0 default).at_=(l.getD 0 default).at_+s:=by
  cases l with
  |nil=>exact absurd rfl hl
  |cons x r=>rfl
 have j2:∀ (y5:List UInt8×List aa) (l8:List (List UInt8)) (l14:List aa) (l15:List aI),Jr nN (RNd s m) (l14≠[]) (b9 F ⟨l,E,o,t⟩ y5 l8 l14 l15) (b9 F ⟨xl s m l,E',o,t'⟩ (y5.1,xl s m y5.2) l8 (xl s m l14) l15):=by
  intro y5 l8 l14 l15
  unfold b9
  refine eY gP (fun z=>eY uF (fun y=>eY gP (fun w=>?_) fun e=>du id rfl) fun e=>du id rfl) fun e=>du id rfl
  refine pX (n1:=Sum.elim n2 nN) (R1:=SR (RL s m) (RNd s m)) (fun v=>?_) (uH (nS:=n2) (Rs:=RL s m) AE (fun u u' hu=>xV hu) (w,o,t,([]:List aI),([]:List TEq)) (xl s m w,o,t',[],[]) ⟨rfl,rfl,rfl,rfl⟩) fun v v' hv=>?_
  ·cases v with
   |inl u=>obtain ⟨u',h⟩:=AE (s:=s) (m:=m) u;exact ⟨.inl u',h⟩
   |inr r =>
    cases r with
    |inl z=>exact ⟨.inr (.inl (shN s z.1,xl s m z.2.1,z.2.2)),rfl,rfl,rfl⟩
    |inr f=>exact ⟨.inr (.inr (sf2 s f)),rfl⟩
  ·cases v with
   |inr r=>cases v' with
    |inl x=>exact hv.elim
    |inr r'=>exact du id hv
   |inl u=>cases v' with
    |inr x=>exact hv.elim
    |inl u' =>
     obtain ⟨l35,x36,x37,l38,l40⟩:=u
     obtain ⟨l35',x36',x37',l38',l40'⟩:=u'
     have k1:l35'=xl s m l35:=hv.1
     have k2:x36'=x36:=hv.2.1
     have k3:l38'=l38:=hv.2.2.1
     have k4:l40'=l40.map (shQ s):=hv.2.2.2
     clear hv
     subst k1 k2 k3 k4
     show Jr _ _ _ (bV _ y5 l8 l15 y l35 x36' x37 l38' l40) (bV _ (y5.1,xl s m y5.2) l8 l15 (y.1,xl s m y.2) (xl s m l35) x36' x37' l38' (l40.map (shQ s)))
     unfold bV
     refine uI fun x r _=>du (fun _=>trivial) ⟨?_,rfl,rfl⟩
     show aL.mk _ _ _ _ _ _ _=aL.mk _ _ _ _ _ _ _
     rw [hat]
 have j1:∀ (y5:List UInt8×List aa) (l7:List aa) (l8:List (List UInt8)),Jr nN (RNd s m) (l7≠[]) (ca F ⟨l,E,o,t⟩ y5 l7 l8) (ca F ⟨xl s m l,E',o,t'⟩ (y5.1,xl s m y5.2) (xl s m l7) l8):=by
  intro y5 l7 l8
  unfold ca
  refine eY gP (fun z=>s7 (by simp [lit]) fun b _=>km (fun _=>j2 _ _ _ _) fun _=>?_) fun e=>du id rfl
  exact eY uF (fun z=>j2 _ _ _ _) fun e=>du id rfl
 unfold cG
 rw [iP (show 0≤0∧0<(l.length:Int) from ⟨by decide,h2⟩),iP (show 0≤0∧0<((xl s m l).length:Int) from ⟨by decide,h1⟩)]
 refine uI fun x r _=>so (C:=r≠[]) (eY oG (fun z=>sq fun b r=>km (fun _=>?_) fun _=>j1 _ _ _) fun e=>du id rfl) fun _=>trivial
 exact eY uE (fun z=>eY gP (fun w=>j1 _ _ _) fun e=>du id rfl) fun e=>du id rfl
end
theorem jS{Z:Type}{body:Int→Option (Int ⊕ (Unit ⊕ Z))}(n:Nat)(hn:n≤9000000)
  (hb:∀ i:Nat,i<n→body (i:Int)=some (.inl (IntKind.wrap .i64 ((i:Int)+1)))) (he:body (n:Int)=some (.inr (.inl ()))):db body 0=some (.inl ()):=by
 rw [nv n (fun _=>none) () (fun i hi=>by rw [hb i hi,wrs i oM]) he,ru fun _ _=>rfl]
theorem wR{p:List (List UInt8)}(h:p.length≤9000000):dE p p=some true:=by
 unfold dE
 rw [iN (fun h=>h rfl),jS p.length h (fun i hi=>?_) (by unfold dN;rw [iN (gS _)])]
 ·rfl
 ·unfold dN
  rw [iP (ltI hi),iP ⟨inI hi,inI hi⟩,iP rfl]
theorem yl{p:List ai}(h:p.length≤9000000):gC p p=some true:=by
 unfold gC ez
 rw [iN (fun h=>h rfl),jS p.length h (fun i hi=>?_) (by unfold de;rw [iN (gS _)])]
 ·rfl
 ·unfold de
  rw [iP (ltI hi),iP ⟨inI hi,inI hi⟩,iP ⟨rfl,rfl⟩]
theorem tR{p:List aI}(h:DcO p):aH p p=some true:=by
 unfold aH
 rw [iN (fun h=>h rfl),jS p.length h.1 (fun i hi=>?_) (by unfold aV;rw [iN (gS _)])]
 ·rfl
 ·unfold aV
  rw [iP (ltI hi),iP (inI hi),iP (inI hi),tN]
  unfold iX iW
  rw [iP rfl,iP rfl,yl (h.2 _ (iD hi))];rfl
theorem wS{p:List (List ai)}(h:SzO p):aQ p p=some true:=by
 unfold aQ
 rw [iN (fun h=>h rfl),jS p.length h.1 (fun i hi=>?_) (by unfold aX;rw [iN (gS _)])]
 ·rfl
 ·unfold aX
  rw [iP (ltI hi),iP (inI hi),iP (inI hi),tN,yl (h.2 _ (iD hi))];rfl
theorem wT:∀ (n:Nat) (p:List af),p.length≤9000000→(∀ y∈p,Hd n y)→aD (n+1) p p=some true
 |n,p,h,hk=>by
  show bf (aD n) p p=_
  unfold bf
  rw [iN (fun h=>h rfl),jS p.length h (fun i hi=>?_) (by unfold aZ;rw [iN (gS _)])]
  ·rfl
  ·unfold aZ
   rw [iP (ltI hi),iP (inI hi),iP (inI hi),tN]
   unfold iY
   rw [iP rfl,iP rfl,iP rfl,iP rfl]
   have hm:=hk _ (iD hi)
   cases n with
   |zero=>exact absurd hm (fun h=>h)
   |succ n =>
    obtain ⟨h1,h2,h3⟩:=hm
    rw [wS h2,bSq,iP rfl,wT n _ h1 h3];rfl
def Lk(q q':TEq):Prop:=q.names=q'.names∧q.node=q'.node∧q.s=q'.s∧q.e=q'.e
theorem sEq{n N:Nat}{q q':TEq}(hn:N<n)(h:EqD N q)(hl:Lk q q'):iT n q q'=some true:=by
 obtain ⟨h1,h2,h3,h4⟩:=hl
 obtain ⟨k1,k2,k3,k4⟩:=h
 obtain ⟨m,rfl⟩:∃ m,n=m+1:=⟨n - 1,by omega⟩
 unfold iT cL
 rw [← h1,← h2,← h3,← h4,wR k1,bSq,iP rfl,iP rfl,wS k2,bSq,iP rfl,wT m _ k3 fun y hy=>e8 oM (k4 y hy)];rfl
def LkN(x x':aL):Prop:=x.name=x'.name∧x.sizes=x'.sizes∧x.in_=x'.in_∧x.out_=x'.out_∧x.local_=x'.local_∧x.eqs.length=x'.eqs.length∧∀ i,i<x.eqs.length→Lk (x.eqs.getD i default) (x'.eqs.getD i default)
theorem AF{n N:Nat}{x x':aL}(hn:N<n)(h:kW N x)(hl:LkN x x'):ij n x x'=some true:=by
 obtain ⟨h1,h2,h3,h4,h5,h6,h7⟩:=hl
 obtain ⟨k1,k2,k3,k4,k5,k6⟩:=h
 unfold ij
 rw [← h1,← h2,← h3,← h4,← h5,iP rfl,wR k1,bSq,iP rfl,tR k2,bSq,iP rfl,tR k3,bSq,iP rfl,tR k4,bSq,iP rfl]
 unfold co
 rw [iN oM,jS x.eqs.length k5 (fun i hi=>?_) (by unfold bq;rw [iN (gS _)])]
 ·rfl
 ·unfold bq
  rw [iP (ltI hi),iP (inI hi),iP (inI oM),tN,sEq hn (k6 _ (iD hi)) (h7 i hi)];rfl
theorem AG{n N:Nat}{p:bj}{l:List aL}(hn:N<n)(h0:p.nodes.length≤9000000)(h:∀ x∈p.nodes,kW N x)(hl:p.nodes.length=l.length)(hk:∀ i,i<p.nodes.length→LkN (p.nodes.getD i default) (l.getD i default)):j8 n p l=some true:=by
 unfold j8 bD
 rw [iN oM,jS p.nodes.length h0 (fun i hi=>?_) (by unfold be;rw [iN (gS _)])]
 ·rfl
 ·unfold be
  rw [iP (ltI hi),iP (inI hi),iP (inI oM),tN,AF hn (h _ (iD hi)) (hk i hi)];rfl
theorem mc{T:Type}[Inhabited T]{body:List T×Int→Option ((List T×Int) ⊕ List T)}(l:List T)(hn:l.length≤9000000)
  (hb:∀ i,i<l.length→body (l.take i,(i:Int))=some (.inl (l.take i++lit [l.getD i default],IntKind.wrap .i64 ((i:Int)+1)))) (he:body (l,(l.length:Int))=some (.inr l)):db body ([],0)=some l:=by
 have:=wz (fun i=>(l.take i,(i:Int))) (body:=body) l.length l (fun i hi=>by
  rw [hb i hi,wrs i oM,ng l hi];rfl) (by rw [List.take_length];exact he)
 exact this
theorem wU{p:List (List UInt8)}(h:p.length≤9000000):im p=some p:=by
 unfold im;rw [iP (jI oM dM)]
theorem tS{p:List aI}(h:DcO p):gN p=some p:=by
 unfold gN
 rw [mc p h.1 (fun i hi=>?_) (by show fG p p _=_;unfold fG;rw [iN oM])]
 ·rfl
 ·show fG p (p.take i) i=_
  unfold fG
  have h1:=h.2 _ (iD hi)
  have h2:=h.1
  rw [iP (ltI hi),iP (inI hi),tN,iP (jI oM dM),iP (jI (by rw [List.length_take];omega) dM)]
theorem wV{p:List (List ai)}(h:SzO p):io p=some p:=by
 unfold io
 rw [mc p h.1 (fun i hi=>?_) (by show fH p p _=_;unfold fH;rw [iN oM])]
 ·rfl
 ·show fH p (p.take i) i=_
  unfold fH
  have h1:=h.2 _ (iD hi)
  have h2:=h.1
  rw [iP (ltI hi),tN,iP ⟨inI hi,jI oM dM⟩,iP (jI (by rw [List.length_take];omega) dM)]
theorem wW:∀ (n:Nat) (p:List af),p.length≤9000000→(∀ y∈p,Hd n y)→fX (n+1) p=some p
 |n,p,h,hk=>by
  show ii (fX n) p=_
  unfold ii
  rw [mc p h (fun i hi=>?_) (by show fI _ p p _=_;unfold fI;rw [iN oM])]
  ·rfl
  ·show fI _ p (p.take i) i=_
   unfold fI
   have hm:=hk _ (iD hi)
   rw [iP (ltI hi),iP (inI hi),tN]
   cases n with
   |zero=>exact absurd hm (fun h=>h)
   |succ n =>
    obtain ⟨h1,h2,h3⟩:=hm
    rw [wV h2,bSq,wW n _ h1 h3,bSq,iP (jI (by rw [List.length_take];omega) dM)]
    cases p.getD i default;rfl
theorem ym{n N:Nat}{p:bj}(hn:N<n)(h0:p.nodes.length≤9000000)(h:∀ x∈p.nodes,kW N x):gB n p=some p.nodes:=by
 unfold gB
 rw [mc p.nodes h0 (fun i hi=>?_) (by show eO n p p.nodes _=_;unfold eO;rw [iN oM])]
 ·rfl
 ·show eO n p (p.nodes.take i) i=_
  unfold eO
  obtain ⟨k1,k2,k3,k4,k5,k6⟩:=h _ (iD hi)
  rw [iP (ltI hi),iP (inI hi),tN,wU k1,bSq,tS k2,bSq,tS k3,bSq,tS k4,bSq]
  rw [mc (p.nodes.getD i default).eqs k5 (fun j hj=>?_) (by show eN n p _ _ _=_;unfold eN;rw [tN,iN oM])]
  ·rw [bSq]
   unfold fJ gm
   rw [iP (jI (by rw [List.length_take];omega) dM),tN]
  ·show eN n p i ((p.nodes.getD i default).eqs.take j) j=_
   unfold eN
   obtain ⟨q1,q2,q3,q4⟩:=k6 _ (iD hj)
   obtain ⟨m,rfl⟩:∃ m,n=m+1:=⟨n - 1,by omega⟩
   unfold lz
   rw [tN,iP (ltI hj),iP (inI hj),tN,wU q1,bSq,wV q2,bSq,wW m _ q3 (fun y hy=>e8 oM (q4 y hy)),bSq,iP (jI (by rw [List.length_take];omega) dM)]
theorem rD(c:UInt8):lQ (c.toNat:Int)=some (decide (tSm c)):=pr c
theorem nH(c:UInt8):kw (c.toNat:Int)=some (decide (tDg c)):=o8 c
theorem xW(src:List UInt8)(hl:src.length≤100000)(p:Nat)(hp:p≤src.length) :
  lR src p=some ((p+((src.drop p).takeWhile tAn).length:Nat):Int):=by
 unfold lR
 have key:∀ (k p:Nat),p+k=src.length→db (fun x4=>iB src x4) (p:Int)=some ((p+((src.drop p).takeWhile tAn).length:Nat):Int):=by
  intro k
  induction k with
  |zero =>
   intro p h
   have:p=src.length:=by omega
   subst this
   rw [List.drop_length]
   refine cQ ?_
   unfold iB
   rw [iN (gS _)];rfl
  |succ k ih =>
   intro p h
   have hp:p<src.length:=by omega
   rw [pI src p hp]
   have hb:iB src (p:Int)=if tAn (src.getD p 0)=true then some (.inl ((p+1:Nat):Int)) else some (.inr (p:Int)):=by
    unfold iB
    rw [iP (ltI hp),iP (inI hp),tN,wr1 p oM,rD,nH]
    simp only [bSq,decide_eq_true_eq]
    unfold tAn
    simp only [decide_eq_true_eq]
    by_cases h1:tSm (src.getD p 0)
    ·rw [iP h1,iP (Or.inl h1)]
    ·rw [iN h1]
     by_cases h2:tDg (src.getD p 0)
     ·rw [iP h2,iP (Or.inr h2)]
     ·rw [iN h2,iN (fun x=>x.elim h1 h2)]
   rw [List.takeWhile_cons]
   by_cases h1:tAn (src.getD p 0)=true
   ·rw [iP h1] at hb ⊢
    rw [eT hb,ih (p+1) oM,List.length_cons]
    congr 2;omega
   ·rw [iN h1] at hb ⊢
    rw [cQ hb];rfl
 rw [key (src.length - p) p oM]
 rfl
theorem wX(w:List UInt8):kN w=some (kV w):=by
 unfold kN
 have hb:∀ x:Int,gK w x=if x<(32:Int) then (if (0≤x∧x<(32:Int)) then (if lC.getD x.toNat default=w then (some (.inr (.inr true))) else (some (.inl (IntKind.wrap .i64 (x+1))))) else none) else (some (.inr (.inl ()))):=fun _=>rfl
 rw [nv (body:=fun x3=>gK w x3) 32 (fun i=>if lC.getD i default=w then some true else none) ()
  (by
   intro i hi
   show gK w i=_
   rw [hb,iP oM,iP ⟨by omega,by omega⟩,tN,wr1 i oM]
   by_cases h:lC.getD i default=w
   ·rw [iP h,iP h]
   ·rw [iN h,iN h])
  (by
   show gK w (32:Nat)=_
   rw [hb,iN oM])]
 simp only [bSq]
 rcases kU 32 (fun i=>if lC.getD i default=w then some true else none) () with ⟨e,hall⟩|⟨i,z,hi,hf,e⟩
 ·rw [e]
  simp only [Sum.elim_inl]
  unfold il
  congr 1;symm
  unfold kV
  rw [← Bool.not_eq_true,List.contains_iff_mem]
  intro hm
  obtain ⟨i,hi,he⟩:=List.getElem_of_mem hm
  have hi':i<32:=hi
  have:=hall i hi'
  rw [iP (by simp only [List.getD,List.getElem?_eq_getElem hi,Option.getD_some];exact he)] at this
  cases this
 ·rw [e]
  split at hf
  ·rename_i hw
   simp only [sJ] at hf
   subst hf
   simp only [Sum.elim_inr]
   congr 1;symm
   unfold kV
   rw [List.contains_iff_mem,← hw]
   have hi':i<lC.length:=hi
   simp only [List.getD,List.getElem?_eq_getElem hi',Option.getD_some]
   exact List.getElem_mem hi'
  ·cases hf
theorem wY(i:Nat)(h:i≤18):(10:Nat) ^ i≤1000000000000000000:=by
 have:(10:Nat) ^ i≤10 ^ 18:=Nat.pow_le_pow_right dM h
 exact this
theorem s8(w:List UInt8)(hl:w.length≤18):∀ (k i n:Nat),i+k=w.length→n<10 ^ i →
  db (fun (x6,x7)=>gL w x6 x7) ((n:Int),(i:Int))=some (if ∀ c∈w.drop i,tDg c then .inl (pN n (w.drop i)) else .inr (-1))∧((∀ c∈w.drop i,tDg c)→0≤pN n (w.drop i))
 |0,i,n,h,_=>by
  have:i=w.length:=by omega
  subst this
  rw [List.drop_length,iP (by simp)]
  refine ⟨cQ ?_,fun _=>by simp [pN]⟩
  show gL _ _ _=_
  unfold gL
  rw [iN (gS _)];rfl
 |k+1,i,n,h,hn=>by
  have hi:i<w.length:=by omega
  rw [pI w i hi]
  obtain ⟨c,hc⟩:∃ c,w.getD i 0=c:=⟨_,rfl⟩
  rw [hc]
  by_cases hd:tDg c
  case neg =>
   rw [iN (fun h=>hd (h c List.mem_cons_self))]
   refine ⟨cQ ?_,fun h=>absurd (h c List.mem_cons_self) hd⟩
   show gL _ _ _=_
   unfold gL
   rw [iP (ltI hi),iP (inI hi),tN,hc,nH]
   simp only [bSq,decide_eq_true_eq]
   rw [iN hd]
  have hd':48≤c.toNat∧c.toNat≤57:=hd
  have hp:=wY (i+1) oM
  have hps:(10:Nat) ^ (i+1)=10 ^ i * 10:=Nat.pow_succ 10 i
  obtain ⟨q,hq⟩:∃ q,q=(10:Nat) ^ i:=⟨_,rfl⟩
  rw [← hq] at hn hps
  rw [hps] at hp
  have hb:gL w (n:Int) (i:Int)=some (.inl (((10 * n+(c.toNat - 48):Nat):Int),((i+1:Nat):Int))):=by
   unfold gL
   rw [iP (ltI hi),iP (inI hi),tN,hc,nH]
   simp only [bSq,decide_eq_true_eq]
   rw [iP hd,wr1 i oM]
   have e1:IntKind.wrap .u8 ((c.toNat:Int) - 48)=(c.toNat:Int) - 48:=by rw [IntKind.wrap_u8];omega
   rw [e1,wr (n:=10 * (n:Int)) oM oM,wr (n:=(c.toNat:Int) - 48) oM oM,wr oM oM]
   congr 4
   omega
  obtain ⟨g1,g2⟩:=s8 w hl k (i+1) (10 * n+(c.toNat - 48)) oM (by rw [hps];omega)
  have hnv:pN (n:Int) (c :: w.drop (i+1))=pN ((10 * n+(c.toNat - 48):Nat):Int) (w.drop (i+1)):=by
   unfold pN
   rw [List.foldl_cons]
   congr 1;omega
  rw [hnv,eT hb,g1]
  have hall:(∀ d∈c :: w.drop (i+1),tDg d)↔∀ d∈w.drop (i+1),tDg d:=by
   constructor
   ·intro h d hdm;exact h d (List.mem_cons_of_mem _ hdm)
   ·intro h d hdm
    rcases List.mem_cons.1 hdm with rfl|hdm
    ·exact hd
    ·exact h d hdm
  refine ⟨?_,fun h=>g2 (hall.1 h)⟩
  by_cases ha:∀ d∈w.drop (i+1),tDg d
  ·rw [iP ha,iP (hall.2 ha)]
  ·rw [iN ha,iN (fun h=>ha (hall.1 h))]
theorem xX(w:List UInt8):o6 w=some (match se w with|some n=>n|none=>-1)∧∀ n,se w=some n→0≤n:=by
 unfold o6 se
 by_cases h1:w.length>18
 ·rw [iP oM,iP (Or.inl h1)];exact ⟨rfl,fun n h=>by cases h⟩
 rw [iN oM]
 obtain ⟨g1,g2⟩:=s8 w oM w.length 0 0 oM dM
 simp only [List.drop_zero,Int.natCast_zero] at g1 g2
 have hj:jb w=some (if ∀ c∈w,tDg c then pN 0 w else -1):=by
  unfold jb jP
  rw [g1]
  simp only [bSq]
  by_cases ha:∀ c∈w,tDg c
  ·rw [iP ha,iP ha];rfl
  ·rw [iN ha,iN ha];rfl
 by_cases h2:w.length>1
 ·rw [iP oM,iP ⟨by omega,by omega⟩]
  cases w with
  |nil=>simp at h2
  |cons c l =>
   by_cases h3:c.toNat=48
   ·rw [iP (show (((c :: l).getD 0 0).toNat:Int)=48 by simp [h3]),iP (Or.inr (Or.inl ⟨h2,by simp [h3]⟩))];exact ⟨rfl,fun n h=>by cases h⟩
   ·rw [iN (show ¬ (((c :: l).getD 0 0).toNat:Int)=48 by simp;omega),hj]
    by_cases ha:∀ d∈c :: l,tDg d
    ·rw [iP ha,iN (fun h=>h.elim h1 (fun h=>h.elim (fun h=>h3 (by simpa using h.2)) (fun h=>h ha)))]
     exact ⟨rfl,fun n h=>by simp only [sJ] at h;rw [← h];exact g2 ha⟩
    ·rw [iN ha,iP (Or.inr (Or.inr ha))];exact ⟨rfl,fun n h=>by cases h⟩
 ·rw [iN oM,hj]
  by_cases ha:∀ d∈w,tDg d
  ·rw [iP ha,iN (fun h=>h.elim h1 (fun h=>h.elim (fun h=>h2 h.1) (fun h=>h ha)))]
   exact ⟨rfl,fun n h=>by simp only [sJ] at h;rw [← h];exact g2 ha⟩
  ·rw [iN ha,iP (Or.inr (Or.inr ha))];exact ⟨rfl,fun n h=>by cases h⟩
theorem xY(src:List UInt8)(hl:src.length≤100000)(p:Nat)(hp:p<src.length)(l:List aa)(hll:l.length≤200000)
  (hb:(src.getD p 0).toNat≠10∧¬ tBl (src.getD p 0)∧(src.getD p 0).toNat≠35) :
  fl src l p=match jR p (src.drop p) with
   |.inl t=>some (.inl (l++[t],((p+t.text.length:Nat):Int)))
   |.inr e=>some (.inr (.inr ([],bh.mk e p))):=by
 have hd:=pI src p hp
 have hlg:=xW src hl p oM
 obtain ⟨c,hc⟩:∃ c,src.getD p 0=c:=⟨_,rfl⟩
 rw [hc] at hd hb
 obtain ⟨b1,b2,b3⟩:=hb
 unfold tBl at b2
 have tw:(src.drop p).takeWhile tAn <+: src.drop p:=List.takeWhile_prefix _
 have htw:=tw.length_le
 have hlen:(src.drop p).length=src.length - p:=List.length_drop
 have hpart:∀ n:Nat,(src.take (p+n)).drop p=(src.drop p).take n:=fun n=>by rw [List.drop_take,show p+n - p=n by omega]
 have htk:(src.take (p+((src.drop p).takeWhile tAn).length)).drop p=(src.drop p).takeWhile tAn:=by rw [hpart,← List.prefix_iff_eq_take.1 tw]
 obtain ⟨T,hT⟩:∃ T,T=(src.drop p).takeWhile tAn:=⟨_,rfl⟩
 rw [← hT] at hlg htw htk
 have hj2:∀ k:Int,iC src l p ((p+T.length:Nat):Int) k=some (.inl (l++[aa.mk k p T 0],((p+T.length:Nat):Int))):=fun k=>by
  unfold iC
  rw [iP ⟨⟨by omega,by omega,by omega⟩,pt _ oM⟩,tN,tN,htk];rfl
 unfold fl
 rw [iP (ltI hp),iP (inI hp)]
 simp only [tN,hc]
 rw [iN oM,iN oM,iN oM,iN oM,iN oM,rD,nH,hlg]
 simp only [bSq,decide_eq_true_eq,tN,htk,wX,hj2]
 have hgd:0≤(p:Int)∧(p:Int)≤((p+T.length:Nat):Int)∧((p+T.length:Nat):Int)≤(src.length:Int):=⟨by omega,by omega,by omega⟩
 unfold pF
 simp only [bSq]
 unfold jR
 rw [hd] at hT ⊢
 simp only
 rw [← hT]
 by_cases h1:tSm c
 ·rw [iP h1,iP h1,iP hgd]
  by_cases hw:kV T=true
  ·rw [iP hw,iP hw]
  ·rw [iN hw,iN hw]
   have e:IntKind.wrap .i64 (((p+T.length:Nat):Int) - (p:Int))=(T.length:Int):=by rw [wr oM oM];omega
   rw [e]
   by_cases h12:T.length>12
   ·rw [iP h12,iP oM]
   ·rw [iN h12,iN oM]
 rw [iN h1,iN h1]
 by_cases h2:tDg c
 ·rw [iP h2,iP h2,iP hgd]
  obtain ⟨n1,n2⟩:=xX T
  rw [n1]
  simp only [bSq]
  cases hn:se T with
  |some n =>
   simp only
   have:=n2 n hn
   rw [iN oM,iP (pt _ oM)];rfl
  |none =>
   simp only
   rw [iP dM]
 rw [iN h2,iN h2]
 have w1:IntKind.wrap .i64 ((p:Int)+1)=((p+1:Nat):Int):=wr1 p oM
 have w2:IntKind.wrap .i64 ((p:Int)+2)=((p+2:Nat):Int):=by rw [wr oM oM];omega
 rw [w1,w2]
 simp only [tN,hpart]
 rw [hd]
 obtain ⟨A,hA⟩:∃ A:Option ((List aa×Int) ⊕ (List aa ⊕ (List aa×bh))),A=some (.inl (l++[aa.mk 4 p [c] 0],((p+1:Nat):Int))):=⟨_,rfl⟩
 obtain ⟨B,hB⟩:∃ B:Option ((List aa×Int) ⊕ (List aa ⊕ (List aa×bh))),B=some (.inr (.inr ([],bh.mk 1 p))):=⟨_,rfl⟩
 have hA':(if (0≤(p:Int)∧(p:Int)≤((p+1:Nat):Int)∧((p+1:Nat):Int)≤(src.length:Int))∧dV (l.length+1) 40 then (some (.inl (l++lit [aa.mk 4 p ((c :: src.drop (p+1)).take 1) 0],((p+1:Nat):Int))):Option ((List aa×Int) ⊕ (List aa ⊕ (List aa×bh)))) else none)=A:=by
  rw [iP ⟨⟨by omega,by omega,by omega⟩,pt _ oM⟩,hA];rfl
 rw [hA',← hB]
 have hfin:(if c.toNat∈pq then A else B)=match (if c.toNat∈pq then (.inl (aa.mk 4 p [c] 0):aa ⊕ Int) else .inr 1) with
   |.inl t=>some (.inl (l++[t],((p+t.text.length:Nat):Int)))
   |.inr e=>some (.inr (.inr ([],bh.mk e p))):=by
  by_cases h:c.toNat∈pq
  ·rw [iP h,iP h,hA];rfl
  ·rw [iN h,iN h,hB]
 have step:∀ (n:Int) (ns:List Nat) (X:Option ((List aa×Int) ⊕ (List aa ⊕ (List aa×bh)))),0≤n→X=(if c.toNat∈ns then A else B) →
   (if (c.toNat:Int)=n then A else X)=if c.toNat∈n.toNat :: ns then A else B:=fun n ns X h0 hX=>by
  by_cases h:(c.toNat:Int)=n
  ·rw [iP h,iP (by rw [List.mem_cons];left;omega)]
  ·rw [iN h,hX]
   have:(c.toNat∈n.toNat :: ns)↔c.toNat∈ns:=by
    rw [List.mem_cons]
    constructor
    ·rintro (h'|h')
     ·exact absurd oM h
     ·exact h'
    ·exact Or.inr
   simp only [this]
 have chain:=step 40 _ _ dM (step 41 _ _ dM (step 123 _ _ dM (step 125 _ _ dM (step 91 _ _ dM (step 93 _ _ dM (step 60 _ _ dM (step 62 _ _ dM (step 44 _ _ dM (step 59 _ _ dM (step 58 _ _ dM
  (step 43 _ _ dM (step 45 _ _ dM (step 42 _ _ dM (step 47 _ _ dM (step 37 _ _ dM (step 61 _ _ dM (step 94 [] B dM (by simp))))))))))))))))))
 have ht2:∀ a b:UInt8,(c :: src.drop (p+1)).take 2=[a,b]→p+2≤src.length:=fun a b h=>by
  have:((c :: src.drop (p+1)).take 2).length=2:=by rw [h];rfl
  rw [List.length_take,List.length_cons,List.length_drop] at this
  omega
 by_cases h3:((p+1:Nat):Int)<(src.length:Int)
 ·rw [iP h3,iP ⟨by omega,by omega,by omega⟩]
  by_cases h4:(c :: src.drop (p+1)).take 2=[61,61]
  ·rw [iP h4,iP (Or.inl h4),iP (pt _ oM),h4];rfl
  ·rw [iN h4]
   by_cases h5:(c :: src.drop (p+1)).take 2=[45,62]
   ·rw [iP h5,iP (Or.inr h5),iP (pt _ oM),h5];rfl
   ·have hno:¬ ((c :: src.drop (p+1)).take 2=[61,61]∨(c :: src.drop (p+1)).take 2=[45,62]):=fun h=>h.elim h4 h5
    rw [iN h5,iN hno,← hfin]
    exact chain
 ·have hno:¬ ((c :: src.drop (p+1)).take 2=[61,61]∨(c :: src.drop (p+1)).take 2=[45,62]):=fun h=>h.elim (fun h=>by have:=ht2 _ _ h;omega) (fun h=>by have:=ht2 _ _ h;omega)
  rw [iN h3,iN hno,← hfin]
  exact chain
theorem tT(src:List UInt8)(k p q:Nat)(hpq:p≤q)(hq:q≤src.length)(h:blk false (src.drop p)=blk false (src.drop q)):fP (k+1) p (src.drop p)=fP (k+1) q (src.drop q):=by
 rw [gO,gO,h]
 have hb:=oE false (src.drop q)
 have h1:(src.drop p).length=src.length - p:=List.length_drop
 have h2:(src.drop q).length=src.length - q:=List.length_drop
 cases e:blk false (src.drop q) with
 |nil=>rfl
 |cons c l =>
  rw [e] at hb
  simp only
  rw [show p+((src.drop p).length - (c :: l).length)=q+((src.drop q).length - (c :: l).length) by omega]
theorem pK(src:List UInt8)(hl:src.length≤100000)(l:List aa):∀ (k p:Nat),p+k=src.length →
  ∃ q:Nat,db (fun x31=>hK src l x31) (p:Int)=some (l,(q:Int))∧p≤q∧q≤src.length∧blk true (src.drop p)=blk false (src.drop q)∧(p<src.length→(src.getD p 0).toNat≠10→p<q)
 |0,p,h=>by
  have:p=src.length:=by omega
  subst this
  refine ⟨src.length,cQ ?_,by omega,by omega,by rw [List.drop_length];rfl,by omega⟩
  show hK _ _ _=_
  unfold hK
  rw [iN (gS _)]
 |k+1,p,h=>by
  have hp:p<src.length:=by omega
  have hb:hK src l (p:Int)=if (src.getD p 0).toNat=10 then some (.inr (l,(p:Int))) else some (.inl ((p+1:Nat):Int)):=by
   unfold hK
   rw [iP (ltI hp),iP (inI hp),tN,wr1 p oM]
   by_cases hc:(src.getD p 0).toNat=10
   ·rw [iN oM,iP hc]
   ·rw [iP oM,iN hc]
  have hd:=pI src p hp
  by_cases hc:(src.getD p 0).toNat=10
  ·rw [iP hc] at hb
   refine ⟨p,cQ hb,by omega,by omega,?_,fun _ h=>absurd hc h⟩
   rw [hd]
   unfold blk
   rw [iP hc,iP hc]
  ·rw [iN hc] at hb
   obtain ⟨q,h1,h2,h3,h4,_⟩:=pK src hl l k (p+1) oM
   refine ⟨q,by rw [eT hb];exact h1,by omega,h3,?_,fun _ _=>by omega⟩
   rw [hd,← h4]
   conv=>lhs;unfold blk
   rw [iN hc,iP (Or.inl rfl)]
theorem tU(src:List UInt8)(hl:src.length≤100000):∀ (n p:Nat) (l:List aa),p≤src.length→src.length - p<n→l.length≤p →
  db (fun (l18,x20)=>fl src l18 x20) (l,(p:Int))=some (match fP (src.length+1) p (src.drop p) with
   |.inl m=>.inl (l++m)
   |.inr f=>.inr ([],f)):=by
 intro n
 induction n with
 |zero=>intro p l _ h;omega
 |succ n ih =>
  intro p l hp hk hll
  rcases Nat.lt_or_ge p src.length with hlt|hge
  case inr =>
   have:p=src.length:=by omega
   subst this
   rw [List.drop_length,cQ (o:=.inl l) (by
    show fl _ _ _=_
    unfold fl
    rw [iN (gS _)])]
   rw [gO]
   simp [blk]
  have hd:=pI src p hlt
  obtain ⟨c,hc⟩:∃ c,src.getD p 0=c:=⟨_,rfl⟩
  have e:blk false (c :: src.drop (p+1))=if c.toNat=10 then blk false (src.drop (p+1)) else if false=true∨tBl c then blk false (src.drop (p+1)) else if c.toNat=35 then blk true (src.drop (p+1)) else c :: src.drop (p+1):=rfl
  rw [hc] at hd
  have skip:∀ q:Nat,p<q→q≤src.length→fl src l p=some (.inl (l,(q:Int)))→blk false (src.drop p)=blk false (src.drop q) →
    db (fun (l18,x20)=>fl src l18 x20) (l,(p:Int))=some (match fP (src.length+1) p (src.drop p) with
     |.inl m=>.inl (l++m)
     |.inr f=>.inr ([],f)):=fun q h1 h2 h3 h4=>by
   rw [eT (s':=(l,(q:Int))) h3,ih q l h2 oM oM,tT src src.length p q oM h2 h4]
  by_cases hb:c.toNat=10∨tBl c
  ·refine skip (p+1) oM oM ?_ ?_
   ·unfold fl
    rw [iP (ltI hlt),iP (inI hlt),tN,hc,wr1 p oM]
    unfold tBl at hb
    by_cases h1:(c.toNat:Int)=32
    ·rw [iP h1]
    rw [iN h1]
    by_cases h2:(c.toNat:Int)=9
    ·rw [iP h2]
    rw [iN h2]
    by_cases h3:(c.toNat:Int)=10
    ·rw [iP h3]
    rw [iN h3,iP oM]
   ·rw [hd,e]
    by_cases h1:c.toNat=10
    ·rw [iP h1]
    ·rw [iN h1,iP (Or.inr (hb.resolve_left h1))]
  have h10:c.toNat≠10:=fun h=>hb (.inl h)
  have hbl:¬ tBl c:=fun h=>hb (.inr h)
  rw [iN h10,iN (fun h=>h.elim (by simp) hbl)] at e
  by_cases h35:c.toNat=35
  ·rw [iP h35] at e
   obtain ⟨q,q1,q2,q3,q4,q5⟩:=pK src hl l (src.length - p) p oM
   refine skip q (q5 hlt (by rw [hc];exact h10)) q3 ?_ ?_
   ·unfold fl
    rw [iP (ltI hlt),iP (inI hlt),tN,hc]
    unfold tBl at hbl
    rw [iN oM,iN oM,iN oM,iN oM,iP oM,q1]
    rfl
   ·rw [← q4,hd,e]
    conv=>rhs;unfold blk
    rw [iN h10,iP (Or.inl rfl)]
  rw [iN h35] at e
  have h1:=xY src hl p hlt l oM (by rw [hc];exact ⟨h10,hbl,h35⟩)
  rw [gO,hd,e]
  simp only
  rw [hd] at h1
  rw [show p+((c :: src.drop (p+1)).length - (c :: src.drop (p+1)).length)=p by omega]
  cases ht:jR p (c :: src.drop (p+1)) with
  |inr er =>
   rw [ht] at h1
   rw [cQ (o:=.inr ([],bh.mk er p)) h1]
  |inl t =>
   rw [ht] at h1
   simp only at h1 ⊢
   obtain ⟨t1,t2,t3⟩:=kx ht
   have hpos:0<t.text.length:=List.length_pos_iff.2 t2
   have hle:=t3.length_le
   rw [List.length_cons,List.length_drop] at hle
   have hdt:(c :: src.drop (p+1)).drop t.text.length=src.drop (p+t.text.length):=by rw [← hd,List.drop_drop]
   rw [eT (s':=(l++[t],((p+t.text.length:Nat):Int))) h1,ih (p+t.text.length) (l++[t]) oM oM (by simp;omega),hdt,
    jc src.length (src.length+1) _ _ (by rw [List.length_drop];omega) (by rw [List.length_drop];omega)]
   cases fP (src.length+1) (p+t.text.length) (src.drop (p+t.text.length)) with
   |inr f=>rfl
   |inl m=>simp
theorem wZ(src:List UInt8)(hl:src.length≤100000):lS src=some (jj src):=by
 unfold lS jj
 by_cases h:src.length>12000
 ·rw [iP oM,iP h];rfl
 rw [iN oM,iN h]
 have h0:=tU src hl (src.length+1) 0 [] oM oM (by simp)
 rw [List.drop_zero] at h0
 simp only [Int.natCast_zero] at h0
 rw [h0]
 cases fP (src.length+1) 0 src with
 |inr f=>rfl
 |inl m=>rfl
abbrev PS:=List aa×Int×Int×List aL
noncomputable def PL(F:Nat)(src:List UInt8):PS→Option (PS ⊕ (PS ⊕ (bj×bh))):=fun (l25,x26,x27,l28)=>fW F src l25 x26 x27 l28
theorem rE{F:Nat}{src:List UInt8}{l:List aa}{o t:Int}{acc:List aL}:PL F src (l,o,t,acc)=if (l.length:Int)>0 then bo F src l o t acc else (if (acc.length:Int)=0 then bo F src l o t acc else some (.inr (.inl (l,o,t,acc)))):=rfl
theorem rF{F:Nat}{src:List UInt8}{l:List aa}{o t:Int}{acc:List aL}:bo F src l o t acc=if isB [[110,111,100,101]] l=true then (if (acc.length:Int)=10 then ((an 7 ⟨l,src.length,o,t⟩).bind fun y33=>some (.inr (.inr (bj.mk [],bh.mk y33.1 y33.2)))) else ((cG F ⟨l,src.length,o,t⟩).bind fun y34=>Sum.elim (fun y35=>if dV (acc.length+1) 144 then (some (.inl (y35.2.1,y35.2.2.1,y35.2.2.2,(acc++lit [y35.1])))) else none) (fun y36=>some (.inr (.inr (bj.mk [],bh.mk y36.1 y36.2)))) y34)) else ((an 4 ⟨l,src.length,o,t⟩).bind fun y37=>some (.inr (.inr (bj.mk [],bh.mk y37.1 y37.2)))):=by
 unfold bo
 rw [pu _ _ _ _ _ (by simp [lit])];rfl
theorem A1(t:aa):shT 0 t=t:=by cases t;simp [shT]
theorem xl0(m l:List aa):xl 0 m l=l++m:=by
 unfold xl
 rw [show l.map (shT 0)=l from by rw [show shT 0=id from funext A1];simp]
theorem A2(q:TEq):shQ 0 q=q:=by cases q;simp [shQ]
theorem A3(x:aL):shN 0 x=x:=by
 cases x
 simp only [shN,Int.add_zero,show shQ 0=id from funext A2,List.map_id]
theorem A4(f:Int×Int):sf2 0 f=f:=by cases f;simp [sf2]
theorem rG{E o t:Int}:an 4 ⟨[],E,o,t⟩=some (5,E):=rfl
theorem ky{E o t c:Int}{x:aa}{r:List aa}:an c ⟨x :: r,E,o,t⟩=some (c,x.at_):=by
 unfold an
 rw [iP (by simp),iP (by simp)];rfl
theorem sr{F:Nat}{src src':List UInt8}{m:List aa}:∀ (n:Nat) (l:List aa) (o t t':Int) (acc:List aL) (z),jA (PL F src) n (l,o,t,acc)=some z →
  Sum.elim (fun u:PS=>u.1=[]∧∃ t2,db (PL F src') (l++m,o,t',acc)=db (PL F src') (m,u.2.1,t2,u.2.2.2)) (fun r=>iU (r.2.code,r.2.at_)→db (PL F src') (l++m,o,t',acc)=some (.inr (bj.mk [],r.2))) z
 |0,_,_,_,_,_,_,h=>by cases h
 |n+1,l,o,t,t',acc,z,h=>by
  unfold jA at h
  rw [rE] at h
  have key:∀ b,bo F src l o t acc=some b→(match b with|.inl u=>jA (PL F src) n u|.inr w=>some w)=some z →
    Sum.elim (fun u:PS=>u.1=[]∧∃ t2,db (PL F src') (l++m,o,t',acc)=db (PL F src') (m,u.2.1,t2,u.2.2.2)) (fun r=>iU (r.2.code,r.2.at_)→db (PL F src') (l++m,o,t',acc)=some (.inr (bj.mk [],r.2))) z:=by
   intro b hb hz
   rw [rF] at hb
   cases l with
   |nil =>
    rw [iN (by simp [isB]),rG] at hb
    cases hb
    cases hz
    intro hlv
    rcases hlv with h|h<;>exact absurd h (show ¬ (5:Int)=_ by decide)
   |cons x r =>
    have hright:PL F src' ((x :: r)++m,o,t',acc)=bo F src' ((x :: r)++m) o t' acc:=by
     rw [rE,iP (by rw [List.cons_append,List.length_cons];omega)]
    rw [rF] at hright
    have hB:isB [[110,111,100,101]] ((x :: r)++m)=isB [[110,111,100,101]] (x :: r):=rfl
    rw [hB] at hright
    by_cases hi:isB [[110,111,100,101]] (x :: r)=true
    ·rw [iP hi] at hb hright
     by_cases h10:(acc.length:Int)=10
     ·rw [iP h10,ky] at hb
      cases hb
      cases hz
      intro hlv
      rcases hlv with h|h<;>exact absurd h (show ¬ (7:Int)=_ by decide)
     ·rw [iN h10] at hb hright
      obtain ⟨y,hy,hb⟩:=bd hb
      have hJ:=wQ (s:=0) (m:=m) (l:=x :: r) (E:=src.length) (E':=src'.length) (o:=o) (t:=t) (t':=t') (F:=F) y hy
      rw [xl0] at hJ
      cases y with
      |inr f =>
       cases hb
       cases hz
       intro hlv
       obtain ⟨_,y',hy',hR⟩:=hJ hlv
       cases y' with
       |inl q=>exact hR.elim
       |inr f' =>
        have hR:f'=sf2 0 f:=hR
        rw [A4] at hR
        subst hR
        rw [hy'] at hright
        exact cQ hright
      |inl a =>
       obtain ⟨v,l1,o1,t1⟩:=a
       obtain ⟨_,y',hy',hR⟩:=hJ trivial
       cases y' with
       |inr q=>exact hR.elim
       |inl a' =>
        obtain ⟨v',l1',o1',t1'⟩:=a'
        have k1:v'=shN 0 v:=hR.1
        have k2:l1'=xl 0 m l1:=hR.2.1
        have k3:o1'=o1:=hR.2.2
        clear hR
        rw [A3] at k1
        rw [xl0] at k2
        subst k1 k2 k3
        rw [hy',bSq] at hright
        simp only [Sum.elim_inl] at hb hright
        by_cases hroom:dV (acc.length+1) 144
        ·rw [iP hroom] at hb hright
         cases hb
         rw [eT hright]
         exact sr n l1 o1' t1 t1' _ z hz
        ·rw [iN hroom] at hb;cases hb
    ·rw [iN hi,ky] at hb
     rw [iN hi,List.cons_append,ky] at hright
     cases hb
     cases hz
     intro _
     exact cQ hright
  by_cases hl:(l.length:Int)>0
  ·rw [iP hl] at h
   cases hb:bo F src l o t acc with
   |none=>rw [hb] at h;cases h
   |some b=>rw [hb] at h;exact key b hb (by cases b<;>exact h)
  ·rw [iN hl] at h
   by_cases h0:(acc.length:Int)=0
   ·rw [iP h0] at h
    cases hb:bo F src l o t acc with
    |none=>rw [hb] at h;cases h
    |some b=>rw [hb] at h;exact key b hb (by cases b<;>exact h)
   ·rw [iN h0] at h
    cases h
    have hn:l=[]:=by cases l with|nil=>rfl|cons x r=>exact absurd (by simp) hl
    subst hn
    exact ⟨rfl,t',rfl⟩
theorem tV{α:Type}{m:Option α}{Q:α→Prop}{r:α}(h:Pn m Q)(e:m=some r):Q r:=by
 obtain ⟨a,ha,hq⟩:=h;rw [ha] at e;cases e;exact hq
theorem s9{F:Nat}{src src':List UInt8}{s:Int}{nd:List aL}(hF:430≤F)(hnd:nd≠[]):∀ (n:Nat) (l:List aa) (t t':Int) (acc:List aL) (l':List aa) (o' t2:Int) (q:List aL),f9 src.length l→jA (PL F src) n (l,0,t,acc)=some (.inl (l',o',t2,q)) →
  (∃ r,q=acc++r∧∀ x∈r,0≤x.at_∧x.at_≤(src.length:Int))∧q≠[]∧(nd.length+q.length≤10→∃ t3,db (PL F src') (l.map (shT s),0,t',nd++acc.map (shN s))=some (.inl ([],0,t3,nd++q.map (shN s)))) ∧
  (10<nd.length+q.length→nd.length+acc.length≤10→∃ r,db (PL F src') (l.map (shT s),0,t',nd++acc.map (shN s))=some (.inr r)∧r.2.code=7)
 |0,_,_,_,_,_,_,_,_,_,h=>by cases h
 |n+1,l,t,t',acc,l',o',t2,q,g,h=>by
  unfold jA at h
  rw [rE] at h
  have hlen:(nd++acc.map (shN s)).length=nd.length+acc.length:=by rw [List.length_append,List.length_map]
  have hnd1:0<nd.length:=List.length_pos_iff.2 hnd
  cases l with
  |nil =>
   rw [iN (by simp)] at h
   by_cases h0:(acc.length:Int)=0
   ·rw [iP h0,rF,iN (by simp [isB]),rG] at h
    cases h
   ·rw [iN h0] at h
    cases h
    refine ⟨⟨[],by simp,fun _ h=>nomatch h⟩,fun e=>h0 (by rw [e];rfl),fun _=>⟨t',cQ ?_⟩,fun h1 h2=>by omega⟩
    rw [List.map_nil,rE,iN (by simp),iN (by rw [hlen];omega)]
  |cons x r =>
   rw [iP (by rw [List.length_cons];omega),rF] at h
   have hright:PL F src' ((x :: r).map (shT s),0,t',nd++acc.map (shN s))=bo F src' ((x :: r).map (shT s)) 0 t' (nd++acc.map (shN s)):=by
    rw [rE,iP (by rw [List.length_map,List.length_cons];omega)]
   rw [rF] at hright
   have hB:isB [[110,111,100,101]] ((x :: r).map (shT s))=isB [[110,111,100,101]] (x :: r):=rfl
   rw [hB] at hright
   by_cases hi:isB [[110,111,100,101]] (x :: r)=true
   ·rw [iP hi] at h hright
    by_cases h10:(acc.length:Int)=10
    ·rw [iP h10,ky] at h
     cases h
    ·rw [iN h10] at h
     cases hy:cG F ⟨x :: r,src.length,0,t⟩ with
     |none=>rw [hy] at h;cases h
     |some y =>
      rw [hy] at h
      have hJ:=wQ (s:=s) (m:=[]) (l:=x :: r) (E:=src.length) (E':=src'.length) (o:=0) (t:=t) (t':=t') (F:=F) y hy
      have hE:(0:Int)≤(src.length:Int):=by omega
      have hpr:=tV (sj (E:=src.length) (o:=0) (t:=t) hF (Int.le_refl 0) dM hE g (qK hi (by simp))) hy
      cases y with
      |inr f=>cases h
      |inl a =>
       obtain ⟨v,l1,o1,t1⟩:=a
       obtain ⟨⟨b,hbb,hcs⟩,ho1,_,hat⟩:Nd (x :: r) 0 (v,l1,o1,t1):=hpr
       have ho1:o1=0:=ho1
       subst ho1
       have hat:v.at_=x.at_:=hat
       have gx:=(g.2 x (by simp)).2
       have g1:f9 src.length l1:=by
        have:=Rd.good hcs.1 g
        exact ⟨by have h1:=this.1;simp only [List.length_cons] at h1;show l1.length≤_;omega,fun u hu=>this.2 u (List.mem_cons_of_mem _ hu)⟩
       rw [bSq] at h
       simp only [Sum.elim_inl] at h
       by_cases hroom:dV (acc.length+1) 144
       ·rw [iP hroom] at h
        have ih:=fun t'=>s9 (src':=src') (s:=s) (nd:=nd) hF hnd n l1 t1 t' (acc++lit [v]) l' o' t2 q g1 h
        have hal:(acc++lit [v]).length=acc.length+1:=by rw [List.length_append];rfl
        obtain ⟨⟨r2,hr2,hr3⟩,hq,_,_⟩:=ih 0
        have hql:acc.length+1≤q.length:=by rw [hr2,List.length_append,hal];omega
        have hnode:∀ (hne:¬ ((nd++acc.map (shN s)).length:Int)=10) (hl10:nd.length+acc.length≤10),∃ t1',db (PL F src') ((x :: r).map (shT s),0,t',nd++acc.map (shN s))=db (PL F src') (l1.map (shT s),0,t1',nd++(acc++lit [v]).map (shN s)):=by
         intro hne hl10
         rw [iN hne] at hright
         obtain ⟨_,y',hy',hR⟩:=hJ trivial
         cases y' with
         |inr q=>exact hR.elim
         |inl a' =>
          obtain ⟨v',l1',o1',t1'⟩:=a'
          have k1:v'=shN s v:=hR.1
          have k2:l1'=xl s [] l1:=hR.2.1
          have k3:o1'=0:=hR.2.2
          clear hR
          subst k1 k2 k3
          have hx:xl s [] (x :: r)=(x :: r).map (shT s):=by simp [xl]
          rw [hx] at hy'
          rw [hy',bSq] at hright
          simp only [Sum.elim_inl] at hright
          rw [iP (jI (by rw [hlen];omega) dM)] at hright
          refine ⟨t1',?_⟩
          rw [eT hright]
          simp only [xl,List.append_nil,List.map_append,List.append_assoc]
          rfl
        refine ⟨⟨v :: r2,by rw [hr2,List.append_assoc];rfl,fun y hy=>?_⟩,hq,fun hle=>?_,fun hgt hle=>?_⟩
        ·rcases List.mem_cons.1 hy with rfl|hy
         ·rw [hat];exact gx
         ·exact hr3 y hy
        ·obtain ⟨t1',e⟩:=hnode (by rw [hlen];omega) oM
         rw [e]
         exact (ih t1').2.2.1 hle
        ·by_cases h10:((nd++acc.map (shN s)).length:Int)=10
         ·rw [iP h10,show (x :: r).map (shT s)=shT s x :: r.map (shT s) from rfl,ky] at hright
          exact ⟨_,cQ hright,rfl⟩
         ·obtain ⟨t1',e⟩:=hnode h10 hle
          rw [e]
          exact (ih t1').2.2.2 hgt (by rw [hal];rw [hlen] at h10;omega)
       ·rw [iN hroom] at h;cases h
   ·rw [iN hi,ky] at h
    cases h
def TkD(t:aa):Prop:=(t.kind=3→∃ c w,t.text=c :: w∧tDg c)∧(t.kind=1∨t.kind=2∨t.kind=3∨t.kind=4)∧(t.kind=4→∀ c w,t.text=c :: w→¬ tSm c)
theorem vu{p:Nat}{c:UInt8}{l:List UInt8}{t:aa}(h:jR p (c :: l)=.inl t):TkD t:=by
 have hw:∀ q:UInt8→Bool,q c=true→∃ w,(c :: l).takeWhile q=c :: w:=fun q hq=>⟨l.takeWhile q,by rw [List.takeWhile_cons,iP hq]⟩
 unfold jR at h
 simp only at h
 split at h
 ·split at h
  ·cases h;exact ⟨fun h=>(by simp at h),.inl rfl,fun h=>(by simp at h)⟩
  ·split at h
   ·cases h
   ·cases h;exact ⟨fun h=>(by simp at h),.inr (.inl rfl),fun h=>(by simp at h)⟩
 ·rename_i hs
  split at h
  ·rename_i hd
   split at h
   ·cases h
    obtain ⟨w,hw⟩:=hw tAn (qD (.inr hd))
    exact ⟨fun _=>⟨c,w,hw,hd⟩,.inr (.inr (.inl rfl)),fun h=>(by simp at h)⟩
   ·cases h
  ·split at h
   ·cases h
    refine ⟨fun h=>(by simp at h),.inr (.inr (.inr rfl)),fun _ d w e=>?_⟩
    have e:(c :: l).take 2=d :: w:=e
    rw [List.take_succ_cons] at e
    rw [← (List.cons.inj e).1];exact hs
   ·split at h
    ·cases h
     refine ⟨fun h=>(by simp at h),.inr (.inr (.inr rfl)),fun _ d w e=>?_⟩
     have e:[c]=d :: w:=e
     rw [← (List.cons.inj e).1];exact hs
    ·cases h
theorem rH:∀ (k p:Nat) (s:List UInt8) (L:List aa),fP k p s=.inl L→L.length≤s.length∧∀ t∈L,TkD t∧(p:Int)≤t.at_∧t.at_≤((p+s.length:Nat):Int)
 |0,p,s,L,h=>by cases h;simp
 |k+1,p,s,L,h=>by
  rw [gO] at h
  have hle:=oE false s
  cases hb:blk false s with
  |nil=>rw [hb] at h;cases h;simp
  |cons c l =>
   rw [hb] at hle h
   simp only at h
   cases ht:jR (p+(s.length - (c :: l).length)) (c :: l) with
   |inr e=>rw [ht] at h;cases h
   |inl t =>
    rw [ht] at h
    simp only at h
    obtain ⟨h1,h2,h3⟩:=kx ht
    have hl:=h3.length_le
    have hw1:1≤t.text.length:=by
     cases hx:t.text with
     |nil=>exact absurd hx h2
     |cons a b=>simp
    have hd:((c :: l).drop t.text.length).length=(c :: l).length - t.text.length:=List.length_drop
    cases hs:fP k (p+(s.length - (c :: l).length)+t.text.length) ((c :: l).drop t.text.length) with
    |inr f=>rw [hs] at h;cases h
    |inl m =>
     rw [hs] at h
     cases h
     obtain ⟨a,b⟩:=rH k _ _ m hs
     rw [hd] at a b
     refine ⟨by rw [List.length_cons];omega,fun x hx=>?_⟩
     rcases List.mem_cons.1 hx with rfl|hx
     ·exact ⟨vu ht,by omega,by omega⟩
     ·obtain ⟨b1,b2,b3⟩:=b x hx
      exact ⟨b1,by omega,by omega⟩
theorem oH(src:List UInt8)(hl:src.length≤100000):f9 src.length (jj src).1∧(jj src).1.length≤src.length:=by
 have key:∀ L,L.length≤src.length→(∀ t∈L,TkD t∧((0:Nat):Int)≤t.at_∧t.at_≤((0+src.length:Nat):Int))→f9 src.length L:=by
  intro L h1 h2
  refine ⟨by omega,fun t ht=>?_⟩
  obtain ⟨⟨k1,k2,k3⟩,k4,k5⟩:=h2 t ht
  refine ⟨fun h e=>?_,by omega,by omega⟩
  obtain ⟨c,w,h4,h5⟩:=k1 h
  rw [e] at h4
  rw [← (List.cons.inj h4).1] at h5
  exact absurd h5 dM
 unfold jj
 split
 ·exact ⟨key [] (by simp) (fun _ h=>nomatch h),by simp⟩
 ·cases hs:fP (src.length+1) 0 src with
  |inr f=>exact ⟨key [] (by simp) (fun _ h=>nomatch h),by simp⟩
  |inl m =>
   obtain ⟨a,b⟩:=rH _ _ _ _ hs
   exact ⟨key m a b,a⟩
theorem vw{p:Nat}{s:List UInt8}{e:Int}(h:jR p s=.inr e):e=1∨e=2∨e=3:=by
 unfold jR at h
 split at h
 ·cases h;exact .inl rfl
 ·simp only at h
  split at h
  ·split at h
   ·cases h
   ·split at h
    ·cases h;exact .inr (.inr rfl)
    ·cases h
  ·split at h
   ·split at h
    ·cases h
    ·cases h;exact .inr (.inl rfl)
   ·split at h
    ·cases h
    ·split at h
     ·cases h
     ·cases h;exact .inl rfl
theorem oI:∀ (k p:Nat) (s:List UInt8) (f:bh),fP k p s=.inr f→f.code=1∨f.code=2∨f.code=3
 |0,p,s,f,h=>by cases h
 |k+1,p,s,f,h=>by
  rw [gO] at h
  cases hb:blk false s with
  |nil=>rw [hb] at h;cases h
  |cons c l =>
   rw [hb] at h
   simp only at h
   cases ht:jR (p+(s.length - (c :: l).length)) (c :: l) with
   |inr e=>rw [ht] at h;cases h;exact vw ht
   |inl t =>
    rw [ht] at h
    simp only at h
    cases hs:fP k (p+(s.length - (c :: l).length)+t.text.length) ((c :: l).drop t.text.length) with
    |inr f'=>rw [hs] at h;cases h;exact oI k _ _ _ hs
    |inl m=>rw [hs] at h;cases h
theorem AH(a b:List UInt8)(ha:a.length≤5900)(hb:b.length≤5900) :
  (∃ f:bh,(f.code=1∨f.code=2∨f.code=3)∧jj a=([],f)) ∨
  (∃ la,jj a=(la,⟨0,0⟩)∧((∃ f:bh,(f.code=1∨f.code=2∨f.code=3)∧jj b=([],f))∨∃ lb,jj b=(lb,⟨0,0⟩)∧jj ((a++[10])++b)=(la++lb.map (shT ((a.length:Int)+1)),⟨0,0⟩))):=by
 have e:(a++[10])++b=a++10 :: b:=by simp
 have hl:(a++10 :: b).length=a.length+b.length+1:=by simp;omega
 rw [e]
 unfold jj
 rw [iN oM,iN oM,iN oM,hl]
 have hj:=tE (a.length+b.length+1+1) 0 a b oM
 rw [jc _ (a.length+1) 0 a oM oM] at hj
 cases h1:fP (a.length+1) 0 a with
 |inr f=>exact .inl ⟨f,oI _ _ _ _ h1,rfl⟩
 |inl la =>
  refine .inr ⟨la,rfl,?_⟩
  rw [h1] at hj
  simp only at hj
  rw [show (0+a.length+1)=0+(a.length+1) by omega,sU (a.length+1),jc _ (b.length+1) 0 b oM oM] at hj
  cases h2:fP (b.length+1) 0 b with
  |inr f=>exact .inl ⟨f,oI _ _ _ _ h2,rfl⟩
  |inl lb =>
   refine .inr ⟨lb,rfl,?_⟩
   rw [h2] at hj
   simp only at hj
   rw [hj]
   simp only
   rw [show (((a.length+1:Nat):Int))=(a.length:Int)+1 by omega]
theorem w5{F:Nat}{src:List UInt8}(hF:430≤F):∀ (n:Nat) (l:List aa) (t:Int) (acc:List aL) (z),f9 src.length l→acc.length≤10→jA (PL F src) n (l,0,t,acc)=some z →
  Sum.elim (fun u:PS=>u.2.1=0∧u.2.2.2.length≤10) (fun r=>r.1.nodes=[]) z
 |0,_,_,_,_,_,_,h=>by cases h
 |n+1,l,t,acc,z,g,ha,h=>by
  unfold jA at h
  rw [rE] at h
  have key:∀ b,bo F src l 0 t acc=some b→(match b with|.inl u=>jA (PL F src) n u|.inr w=>some w)=some z →
    Sum.elim (fun u:PS=>u.2.1=0∧u.2.2.2.length≤10) (fun r=>r.1.nodes=[]) z:=by
   intro b hb hz
   rw [rF] at hb
   by_cases hi:isB [[110,111,100,101]] l=true
   ·rw [iP hi] at hb
    by_cases h10:(acc.length:Int)=10
    ·rw [iP h10] at hb
     obtain ⟨y,_,hb⟩:=bd hb
     cases hb;cases hz;rfl
    ·rw [iN h10] at hb
     obtain ⟨y,hy,hb⟩:=bd hb
     have hE:(0:Int)≤(src.length:Int):=by omega
     have hpr:=tV (sj (E:=src.length) (o:=0) (t:=t) hF (Int.le_refl 0) dM hE g (qK hi (by simp))) hy
     cases y with
     |inr f=>cases hb;cases hz;rfl
     |inl a =>
      obtain ⟨v,l1,o1,t1⟩:=a
      obtain ⟨⟨b',hbb,hcs⟩,ho1,_,hat⟩:Nd l 0 (v,l1,o1,t1):=hpr
      have ho1:o1=0:=ho1
      subst ho1
      have g1:f9 src.length l1:=by
       have:=Rd.good hcs.1 g
       exact ⟨by have h1:=this.1;simp only [List.length_cons] at h1;show l1.length≤_;omega,fun u hu=>this.2 u (List.mem_cons_of_mem _ hu)⟩
      simp only [Sum.elim_inl] at hb
      split at hb
      ·cases hb
       exact w5 hF n l1 t1 (acc++lit [v]) z g1 (by rw [List.length_append];show acc.length+1≤10;omega) hz
      ·cases hb
   ·rw [iN hi] at hb
    obtain ⟨y,_,hb⟩:=bd hb
    cases hb;cases hz;rfl
  by_cases hl:(l.length:Int)>0
  ·rw [iP hl] at h
   cases hb:bo F src l 0 t acc with
   |none=>rw [hb] at h;cases h
   |some b=>rw [hb] at h;exact key b hb (by cases b<;>exact h)
  ·rw [iN hl] at h
   by_cases h0:(acc.length:Int)=0
   ·rw [iP h0] at h
    cases hb:bo F src l 0 t acc with
    |none=>rw [hb] at h;cases h
    |some b=>rw [hb] at h;exact key b hb (by cases b<;>exact h)
   ·rw [iN h0] at h
    cases h
    exact ⟨rfl,ha⟩
theorem tc{F:Nat}{src:List UInt8}{l:List aa}(hs:hZ src=some (l,⟨0,0⟩)):ew F src=(db (PL F src) (l,0,0,[])).bind (Sum.elim (fun u=>some (bj.mk u.2.2.2,bh.mk 0 0)) some):=by
 unfold ew
 rw [hs,bSq,iN (fun h=>h rfl)]
 rfl
theorem oJ{F:Nat}{src:List UInt8}{l:List aa}{y:bj×bh}(hF:430≤F)(hs:hZ src=some (l,⟨0,0⟩))(g:f9 src.length l)(h:ew F src=some y) :
  PQ src.length l y∧((∃ n u,jA (PL F src) n (l,0,0,[])=some (.inl u)∧y=(bj.mk u.2.2.2,bh.mk 0 0)∧u.2.1=0∧u.2.2.2.length≤10∧u.2.2.2≠[])∨(∃ n,jA (PL F src) n (l,0,0,[])=some (.inr y)∧y.2.code≠0)):=by
 have hp:PQ src.length l y:=by
  rcases tV (o9 hF hs g) h with ⟨h0,_⟩|⟨_,hp⟩
  ·exact absurd rfl h0
  ·exact hp
 refine ⟨hp,?_⟩
 rw [tc hs] at h
 obtain ⟨z,hz,h⟩:=bd h
 obtain ⟨n,hn⟩:=jg hz
 have he:=w5 hF n l 0 [] z g (Nat.zero_le _) hn
 cases z with
 |inl u =>
  cases h
  refine .inl ⟨n,u,hn,rfl,he.1,he.2,fun e=>?_⟩
  rcases hp with ⟨_,h3,⟨c,b,h4,h5⟩,_⟩|⟨h3,_⟩
  ·have h3:u.2.2.2.length=l.countP br:=h3
   rw [e,h4,List.countP_append] at h3
   have:[b].countP br=1:=by simp [List.countP_cons,h5]
   rw [this] at h3
   simp at h3
  ·exact h3 rfl
 |inr r =>
  cases h
  refine .inr ⟨n,hn,fun e=>?_⟩
  rcases hp with ⟨_,h3,⟨c,b,h4,h5⟩,_⟩|⟨h3,_⟩
  ·rw [show y.1.nodes=[] from he,h4,List.countP_append] at h3
   have:[b].countP br=1:=by simp [List.countP_cons,h5]
   rw [this] at h3
   simp at h3
  ·exact h3 e
theorem AI(s:Int)(q:TEq):Lk (shQ s q) q:=⟨rfl,rfl,rfl,rfl⟩
theorem xZ(x:aL):LkN x x:=⟨rfl,rfl,rfl,rfl,rfl,rfl,fun _ _=>⟨rfl,rfl,rfl,rfl⟩⟩
theorem zm(s:Int)(x:aL):LkN (shN s x) x:=by
 refine ⟨rfl,rfl,rfl,rfl,rfl,by simp [shN],fun i hi=>?_⟩
 have hi':i<x.eqs.length:=by simpa [shN] using hi
 have:(shN s x).eqs.getD i default=shQ s (x.eqs.getD i default):=by
  show (x.eqs.map (shQ s)).getD i default=_
  simp [List.getD_eq_getElem?_getD,List.getElem?_eq_getElem hi']
 rw [this]
 exact AI _ _
theorem nl(a b:List UInt8)(_:okT a)(_:okT b)(_:szS a+szS b≤1048576):∃ fuel,iZ fuel a b=some true:=by
 refine ⟨100000+40,?_⟩
 unfold iZ
 rw [tI]
 simp only [bSq,if_true]
 by_cases hl:(a.length:Int)>5900
 ·rw [iP hl]
 rw [iN hl]
 by_cases hl2:(b.length:Int)>5900
 ·rw [iP hl2]
 rw [iN hl2]
 have hm:a.length+1≤maxLen∧a.length+1+b.length≤maxLen:=by unfold maxLen;omega
 have hc:((a++[10])++b).length=a.length+1+b.length:=by simp;omega
 have ha1:=pU a oM
 have hb1:=pU b oM
 have hc1:=pU ((a++[10])++b) oM
 have hb2:=wZ b oM
 obtain ⟨ga,gal⟩:=oH a oM
 obtain ⟨gb,gbl⟩:=oH b oM
 obtain ⟨gc,gcl⟩:=oH ((a++[10])++b) oM
 obtain ⟨y2,hy2,hp2⟩:=o9 (fuel:=100000+40) (src:=a) (l:=(jj a).1) (f:=(jj a).2) oM ha1 ga
 obtain ⟨y3,hy3,hp3⟩:=o9 (fuel:=100000+40) (src:=b) (l:=(jj b).1) (f:=(jj b).2) oM hb1 gb
 obtain ⟨y4,hy4,hp4⟩:=o9 (fuel:=100000+40) (src:=(a++[10])++b) (l:=(jj ((a++[10])++b)).1) (f:=(jj ((a++[10])++b)).2) oM hc1 gc
 rw [hy2,bSq,hy3,bSq,iP hm,hy4,bSq,hb2]
 simp only [bSq]
 have hfuel:430≤100000+40:=by omega
 rcases AH a b oM oM with ⟨f,hf,e⟩|⟨la,e,⟨g,hg,e2⟩|⟨lb,e2,e3⟩⟩
 ·rw [e] at hp2
  rcases hp2 with ⟨_,rfl⟩|⟨h0,_⟩
  ·have k4:¬ f.code=4:=by omega
   have k6:¬ f.code=6:=by omega
   have k0:¬ f.code=0:=by omega
   rw [iN k4,iN k6,iP k0]
  ·have h0:f.code=0:=h0
   omega
 ·rw [e2] at hp3 ⊢
  have k0:¬ g.code=0:=by omega
  rcases hp3 with ⟨_,rfl⟩|⟨h0,_⟩
  ·have kb:(g.code != 0)=true:=by simpa using k0
   simp only [kb,ite_self]
   rw [iP k0]
   simp only [ite_self]
  ·exact absurd h0 k0
 ·rw [e] at ha1 ga
  rw [e2] at hb1 gb
  rw [e3] at hc1 gc gcl
  obtain ⟨pq2,hz2⟩:=oJ hfuel ha1 ga hy2
  obtain ⟨pq3,hz3⟩:=oJ hfuel hb1 gb hy3
  obtain ⟨pq4,hz4⟩:=oJ hfuel hc1 gc hy4
  have hP:=tc (F:=100000+40) hc1
  rw [hy4] at hP
  rcases hz2 with ⟨n,u,hn,rfl,hu0,hu10,hune⟩|⟨n,hn,hne⟩
  ·obtain ⟨hu1,t2,hlo⟩:=sr (src':=(a++[10])++b) (m:=lb.map (shT ((a.length:Int)+1))) n la 0 0 0 [] _ hn
   rw [hlo,hu0] at hP
   rw [iN (by decide:¬ (0:Int)=4),iN (by decide:¬ (0:Int)=6),iN (fun h=>h rfl)]
   rcases hz3 with ⟨n3,u3,hn3,rfl,hu30,hu310,hu3ne⟩|⟨n3,hn3,hne3⟩
   ·rw [iN (fun h=>h rfl)]
    obtain ⟨l3,o3,t3,q⟩:=u3
    obtain ⟨⟨r,hr,hat⟩,hq,hle,hgt⟩:=s9 (src':=(a++[10])++b) (s:=(a.length:Int)+1) (nd:=u.2.2.2) (t':=t2) hfuel hune n3 lb 0 [] l3 o3 t3 q gb hn3
    have hr:q=r:=hr
    subst hr
    have hu310:q.length≤10:=hu310
    have hq1:0<q.length:=List.length_pos_iff.2 hq
    have hu1':0<u.2.2.2.length:=List.length_pos_iff.2 hune
    simp only [List.map_nil,List.append_nil,List.length_nil,Nat.add_zero] at hle hgt
    have hw:IntKind.wrap .i64 ((u.2.2.2.length:Int)+(q.length:Int))=(u.2.2.2.length:Int)+(q.length:Int):=wr oM oM
    simp only [hw]
    by_cases h10:u.2.2.2.length+q.length≤10
    ·rw [iN oM]
     obtain ⟨t5,hl5⟩:=hle h10
     rw [hl5] at hP
     have hP:y4=(bj.mk (u.2.2.2++q.map (shN ((a.length:Int)+1))),bh.mk 0 0):=sI hP
     subst hP
     have hk2:∀ x∈u.2.2.2,kW la.length x:=by
      rcases pq2 with ⟨_,_,_,h4⟩|⟨h,_⟩
      ·exact h4
      ·exact absurd rfl h
     have hk3:∀ x∈q,kW lb.length x:=by
      rcases pq3 with ⟨_,_,_,h4⟩|⟨h,_⟩
      ·exact h4
      ·exact absurd rfl h
     have hk4:∀ x∈u.2.2.2++q.map (shN ((a.length:Int)+1)),kW (la++lb.map (shT ((a.length:Int)+1))).length x:=by
      rcases pq4 with ⟨_,_,_,h4⟩|⟨h,_⟩
      ·exact h4
      ·exact absurd rfl h
     have hla:la.length≤a.length:=by rw [e] at gal;exact gal
     have hlb:lb.length≤b.length:=by rw [e2] at gbl;exact gbl
     have hlc:(la++lb.map (shT ((a.length:Int)+1))).length≤a.length+1+b.length:=by rw [← hc];exact gcl
     rw [ym (N:=la.length) (p:=bj.mk u.2.2.2) oM (by show u.2.2.2.length≤_;omega) hk2,bSq,ym (N:=lb.length) (p:=bj.mk q) oM (by show q.length≤_;omega) hk3,bSq]
     rw [iP (jI (by show u.2.2.2.length+q.length≤_;omega) dM),iP rfl]
     have hlen4:(u.2.2.2++q.map (shN ((a.length:Int)+1))).length=u.2.2.2.length+q.length:=by rw [List.length_append,List.length_map]
     rw [AG (N:=(la++lb.map (shT ((a.length:Int)+1))).length) oM (by show (u.2.2.2++q.map (shN ((a.length:Int)+1))).length≤_;omega) hk4 (by show (u.2.2.2++q.map (shN ((a.length:Int)+1))).length=(u.2.2.2++q).length;rw [hlen4,List.length_append]) (fun i hi=>?_),bSq,iP rfl]
     ·rw [iP ⟨⟨by omega,by show _<((u.2.2.2++q.map (shN ((a.length:Int)+1))).length:Int);rw [hlen4];omega⟩,by decide,by show (0:Int)<(q.length:Int);omega⟩]
      cases q with
      |nil=>exact absurd rfl hq
      |cons v r =>
       have h1:=hat v (by simp)
       have e1:((u.2.2.2++(v :: r).map (shN ((a.length:Int)+1))).getD u.2.2.2.length default)=shN ((a.length:Int)+1) v:=by simp [List.getD_eq_getElem?_getD]
       have e2:(shN ((a.length:Int)+1) v).at_=v.at_+((a.length:Int)+1):=rfl
       have w1:IntKind.wrap .i64 (v.at_+(a.length:Int))=v.at_+(a.length:Int):=wr oM oM
       have w2:IntKind.wrap .i64 (v.at_+(a.length:Int)+1)=v.at_+(a.length:Int)+1:=wr oM oM
       show some ((((u.2.2.2++(v :: r).map (shN ((a.length:Int)+1))).getD u.2.2.2.length default).at_) == IntKind.wrap .i64 (IntKind.wrap .i64 (v.at_+(a.length:Int))+1))=some true
       rw [e1,e2,w1,w2]
       simp;omega
     ·show LkN ((u.2.2.2++q.map (shN ((a.length:Int)+1))).getD i default) ((u.2.2.2++q).getD i default)
      have hi:i<(u.2.2.2++q.map (shN ((a.length:Int)+1))).length:=hi
      by_cases hx:i<u.2.2.2.length
      ·rw [List.getD_eq_getElem?_getD,List.getD_eq_getElem?_getD,List.getElem?_append_left hx,List.getElem?_append_left hx];exact xZ _
      ·have hi2:i - u.2.2.2.length<q.length:=by omega
       rw [List.getD_eq_getElem?_getD,List.getD_eq_getElem?_getD,List.getElem?_append_right oM,List.getElem?_append_right oM,List.getElem?_map,List.getElem?_eq_getElem hi2]
       exact zm _ _
    ·rw [iP oM]
     obtain ⟨r,hl5,hr7⟩:=hgt oM hu10
     rw [hl5] at hP
     have hP:y4=r:=sI hP
     subst hP
     rw [hr7];rfl
   ·rw [iP hne3]
  ·by_cases h4:y2.2.code=4∨y2.2.code=6
   ·have hlv:=sr (src':=(a++[10])++b) (m:=lb.map (shT ((a.length:Int)+1))) n la 0 0 0 [] _ hn h4
    rw [hlv] at hP
    have hP:y4=(bj.mk [],y2.2):=sI hP
    subst hP
    have hsame:(bj.mk [],y2.2).2.code=y2.2.code∧(bj.mk [],y2.2).2.at_=y2.2.at_:=⟨rfl,rfl⟩
    rcases h4 with h|h
    ·rw [iP h,iP hsame]
    ·rw [iN oM,iP h,iP hsame]
   ·rw [iN fun h=>h4 (.inl h),iN fun h=>h4 (.inr h),iP hne]
end Pam
