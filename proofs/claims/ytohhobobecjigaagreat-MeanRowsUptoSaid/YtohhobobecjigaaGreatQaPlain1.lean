/- The fault of all of a system but its rules: the program and the document tell the same. -/
import Derived.Test.YtohhobobecjigaaGreatQaFun1
import Derived.Test.YtohhobobecjigaaGreatQWide1
import Derived.Test.YtohhobobecjigaaGreatQBase3
set_option linter.all false
namespace Pam
open Go
theorem yg(v:Int)(j:az):hZ v j=some (decide (0≤v∧v<(j.system.vars.length:Int))):=by
 unfold hZ
 by_cases h:v≥0
 ·rw [iP h];congr 1;rw [decide_eq_decide];omega
 ·rw [iN h];congr 1;symm;rw [decide_eq_false_iff_not];omega
theorem vO(l:List Int)(v:Int)(hl:l.length≤9000000):∃ k,fJ l v=some k∧(decide (k≥0))=l.contains v:=by
 unfold fJ
 rw [bW l.length (fun i=>if l.getD i default=v then some (i:Int) else none) () (fun i hi=>by
  unfold eo
  rw [iP (ltI hi),iP (inI hi)]
  simp only [tN]
  by_cases h:l.getD i default=v
  ·rw [iP h.symm,iP h]
  ·rw [iN (fun e=>h e.symm),iN h,wrs i (by omega)]) (by unfold eo;rw [iN (aW _)])]
 rcases cS l.length (fun i=>if l.getD i default=v then some (i:Int) else none) () with ⟨e,h⟩|⟨j,z,hj,hf,e⟩
 ·rw [e]
  refine ⟨-1,rfl,?_⟩
  have:¬ v∈l:=by
   intro hm
   obtain ⟨i,hi,rfl⟩:=List.mem_iff_getElem.1 hm
   have:=h i hi
   simp [List.getD,hi] at this
  simp [this]
 ·rw [e]
  refine ⟨z,rfl,?_⟩
  by_cases hh:l.getD j default=v
  ·rw [iP hh] at hf
   simp only [sJ] at hf
   subst hf
   have:v∈l:=by rw [← hh];exact aI hj
   simp [this]
  ·rw [iN hh] at hf;cases hf
theorem yZ(l:List Int)(v:Int)(hl:l.length≤9000000):ep l v=some (l.contains v):=by
 unfold ep
 obtain ⟨k,h1,h2⟩:=vO l v hl
 rw [h1]
 simp only [bSq,h2]
theorem lg(l:List Int)(v:Int)(hl:l.length≤9000000):mu l v=some (l.contains v):=by
 unfold mu
 rw [bW l.length (fun i=>if l.getD i default=v then some true else none) () (fun i hi=>by
  unfold po
  rw [iP (ltI hi),iP (inI hi)]
  simp only [tN]
  by_cases h:l.getD i default=v
  ·rw [iP h,iP h]
  ·rw [iN h,iN h,wrs i (by omega)]) (by unfold po;rw [iN (aW _)])]
 rcases cS l.length (fun i=>if l.getD i default=v then some true else none) () with ⟨e,h⟩|⟨j,z,hj,hf,e⟩
 ·rw [e]
  have:¬ v∈l:=by
   intro hm
   obtain ⟨i,hi,rfl⟩:=List.mem_iff_getElem.1 hm
   have:=h i hi
   simp [List.getD,hi] at this
  show some false=_
  simp [this]
 ·rw [e]
  by_cases hh:l.getD j default=v
  ·rw [iP hh] at hf
   simp only [sJ] at hf
   subst hf
   have:v∈l:=by rw [← hh];exact aI hj
   show some true=_
   simp [this]
  ·rw [iN hh] at hf;cases hf
def inV(s:ab)(v:Int):Prop:=0≤v∧v<(s.vars.length:Int)
instance (s:ab) (v:Int):Decidable (inV s v):=inferInstanceAs (Decidable (_∧_))
def BK(x:ap)(i:Nat):Option an :=
 if ¬ x.elem=105∧¬ x.elem=98 then some (an.mk 10 (-2 - i)) else if x.n<0∨x.n>300 then some (an.mk 13 (-2 - i)) else none
def tZ(s:ab)(i:Nat):Option an:=BK (s.vars.getD i default) i
def inF(s:ab)(i:Nat):Option an :=
 if ¬ inV s (s.in_.getD i default) then some (an.mk 16 (-1)) else if (s.in_.take i).contains (s.in_.getD i default) then some (an.mk 8 (-1)) else none
def rA(s:ab)(i:Nat):Option an:=if ¬ inV s (s.out_.getD i default) then some (an.mk 16 (-1)) else none
def nn(s:ab):an :=
 if (s.vars.length:Int)>400∨(s.rules.length:Int)>400∨(s.in_.length:Int)>400∨(s.out_.length:Int)>400 then an.mk 7 (-1)
 else match dG s.vars.length (tZ s) () with
  |.inr z=>z
  |.inl _=>match dG s.in_.length (inF s) () with
   |.inr z=>z
   |.inl _=>match dG s.out_.length (rA s) () with
    |.inr z=>z
    |.inl _=>an.mk 0 0
theorem wr2(i:Nat)(h:i<1000000):IntKind.wrap .i64 (-2 - (i:Int)) = -2 - i:=wr (by omega) (by omega)
theorem Aj(s:ab)(c:Int):jX (az.mk s c)=some (nn s):=by
 have out:s.out_.length≤400→eA (az.mk s c)=some (match dG s.out_.length (rA s) () with|.inr z=>z|.inl _=>an.mk 0 0):=by
  intro hl
  unfold eA
  rw [bW s.out_.length (rA s) () (fun i hi=>by
   unfold ib rA inV
   rw [iP (ltI hi),iP (inI hi)]
   simp only [tN]
   rw [yg]
   simp only [bSq]
   by_cases h:0≤s.out_.getD i default∧s.out_.getD i default<(s.vars.length:Int)
   ·rw [iP (by simpa using h),iN (by simpa using h),wrs i (by omega)]
   ·rw [iN (by simpa using h),iP h]) (by unfold ib;rw [iN (aW _)])]
  cases dG s.out_.length (rA s) ()<;>rfl
 have inn:s.in_.length≤400→s.out_.length≤400→dR (az.mk s c)=some (match dG s.in_.length (inF s) () with
   |.inr z=>z
   |.inl _=>match dG s.out_.length (rA s) () with|.inr z=>z|.inl _=>an.mk 0 0):=by
  intro hl ho
  unfold dR
  rw [bW s.in_.length (inF s) () (fun i hi=>by
   unfold ie inF inV
   rw [iP (ltI hi),iP (inI hi)]
   simp only [tN]
   rw [yg]
   simp only [bSq]
   by_cases h:0≤s.in_.getD i default∧s.in_.getD i default<(s.vars.length:Int)
   ·rw [iP (by simpa using h),iP ⟨by omega,by omega⟩,yZ _ _ (by simp;omega),iN (by simpa using h)]
    simp only [bSq]
    split
    ·rfl
    ·rw [wrs i (by omega)]
   ·rw [iN (by simpa using h),iP h]) (by unfold ie;rw [iN (aW _)])]
  cases dG s.in_.length (inF s) () with
  |inr z=>rfl
  |inl _=>exact out ho
 have main:s.vars.length≤400→s.in_.length≤400→s.out_.length≤400→(aM (fun x14=>fM (az.mk s c) x14) 0).bind (Sum.elim (fun _=>dR (az.mk s c)) (fun z15=>some z15))=some (match dG s.vars.length (tZ s) () with
   |.inr z=>z
   |.inl _=>match dG s.in_.length (inF s) () with
    |.inr z=>z
    |.inl _=>match dG s.out_.length (rA s) () with|.inr z=>z|.inl _=>an.mk 0 0):=by
  intro hv hl ho
  rw [bW s.vars.length (tZ s) () (fun i hi=>by
   unfold fM tZ
   rw [iP (ltI hi),iP (inI hi)]
   simp only [tN]
   obtain ⟨x,hx⟩:∃ x,s.vars.getD i default=x:=⟨_,rfl⟩
   simp only [hx]
   unfold BK
   have tail:eC (az.mk s c) (i:Int)=some (match (if x.n<0∨x.n>300 then some (an.mk 13 (-2 - (i:Int))) else none) with|some z=>.inr (.inr z)|none=>.inl ((i+1:Nat):Int)):=by
    unfold eC
    simp only [tN,hx]
    by_cases h1:x.n<0
    ·rw [iP h1,iP (.inl h1),wr2 i (by omega)]
    ·rw [iN h1]
     by_cases h2:x.n>300
     ·rw [iP h2,iP (.inr h2),wr2 i (by omega)]
     ·rw [iN h2,iN (by omega),wrs i (by omega)]
   by_cases h1:x.elem=105
   ·rw [iN (by simpa using h1),iN (by simp [h1])];rw [tail];generalize (if x.n<0∨x.n>300 then some (an.mk 13 (-2 - (i:Int))) else none)=q;cases q<;>rfl
   ·rw [iP h1]
    by_cases h2:x.elem=98
    ·rw [iN (by simpa using h2),iN (by simp [h2])];rw [tail];generalize (if x.n<0∨x.n>300 then some (an.mk 13 (-2 - (i:Int))) else none)=q;cases q<;>rfl
    ·rw [iP h2,iP ⟨h1,h2⟩,wr2 i (by omega)]) (by unfold fM;rw [iN (aW _)])]
  cases dG s.vars.length (tZ s) () with
  |inr z=>rfl
  |inl _=>exact inn hl ho
 unfold jX nn
 by_cases h1:(s.vars.length:Int)>400
 ·rw [iP h1,iP (.inl h1)]
 rw [iN h1]
 by_cases h2:(s.rules.length:Int)>400
 ·rw [iP h2,iP (.inr (.inl h2))]
 rw [iN h2]
 by_cases h3:(s.in_.length:Int)>400
 ·rw [iP h3,iP (.inr (.inr (.inl h3)))]
 rw [iN h3]
 by_cases h4:(s.out_.length:Int)>400
 ·rw [iP h4,iP (.inr (.inr (.inr h4)))]
 rw [iN h4,iN (by omega)]
 exact main (by omega) (by omega) (by omega)
theorem Ak(s:ab):n7 s=some (nn s):=by
 have hF:∀ a b,gq a b=some (an.mk a b):=fun _ _=>rfl
 have out:s.out_.length≤400→iE s=some (match dG s.out_.length (rA s) () with|.inr z=>z|.inl _=>an.mk 0 0):=by
  intro hl
  unfold iE
  rw [bW s.out_.length (rA s) () (fun i hi=>by
   unfold lb rA inV
   rw [iP (ltI hi),iP (inI hi)]
   simp only [tN]
   by_cases h1:s.out_.getD i default<0
   ·rw [iP h1,iP (by omega),hF];rfl
   ·rw [iN h1]
    by_cases h2:s.out_.getD i default≥(s.vars.length:Int)
    ·rw [iP h2,iP (by omega),hF];rfl
    ·rw [iN h2,iN (by omega),wrs i (by omega)]) (by unfold lb;rw [iN (aW _)])]
  cases dG s.out_.length (rA s) ()<;>rfl
 have inn:s.in_.length≤400→s.out_.length≤400→gu s=some (match dG s.in_.length (inF s) () with
   |.inr z=>z
   |.inl _=>match dG s.out_.length (rA s) () with|.inr z=>z|.inl _=>an.mk 0 0):=by
  intro hl ho
  unfold gu
  rw [bW s.in_.length (inF s) () (fun i hi=>by
   unfold lc inF inV
   rw [iP (ltI hi),iP (inI hi)]
   simp only [tN]
   by_cases h1:s.in_.getD i default<0
   ·rw [iP h1,iP (by omega),hF];rfl
   ·rw [iN h1]
    by_cases h2:s.in_.getD i default≥(s.vars.length:Int)
    ·rw [iP h2,iP (by omega),hF];rfl
    ·rw [iN h2,iP ⟨by omega,by omega⟩,iN (by omega),lg _ _ (by simp;omega)]
     simp only [bSq,hF]
     split
     ·rfl
     ·rw [wrs i (by omega)]) (by unfold lc;rw [iN (aW _)])]
  cases dG s.in_.length (inF s) () with
  |inr z=>rfl
  |inl _=>exact out ho
 have main:s.vars.length≤400→s.in_.length≤400→s.out_.length≤400→(aM (fun x21=>jG s x21) 0).bind (Sum.elim (fun _=>gu s) (fun z25=>some z25))=some (match dG s.vars.length (tZ s) () with
   |.inr z=>z
   |.inl _=>match dG s.in_.length (inF s) () with
    |.inr z=>z
    |.inl _=>match dG s.out_.length (rA s) () with|.inr z=>z|.inl _=>an.mk 0 0):=by
  intro hv hl ho
  rw [bW s.vars.length (tZ s) () (fun i hi=>by
   unfold jG tZ
   rw [iP (ltI hi),iP (inI hi)]
   simp only [tN]
   obtain ⟨x,hx⟩:∃ x,s.vars.getD i default=x:=⟨_,rfl⟩
   simp only [hx]
   unfold BK
   have tail:iF s (i:Int)=some (match (if x.n<0∨x.n>300 then some (an.mk 13 (-2 - (i:Int))) else none) with|some z=>.inr (.inr z)|none=>.inl ((i+1:Nat):Int)):=by
    unfold iF
    rw [iP (inI hi)]
    simp only [tN,hx]
    by_cases h1:x.n<0
    ·rw [iP h1,iP (.inl h1),wr2 i (by omega),hF];rfl
    ·rw [iN h1]
     by_cases h2:x.n>300
     ·rw [iP h2,iP (.inr h2),wr2 i (by omega),hF];rfl
     ·rw [iN h2,iN (by omega),wrs i (by omega)]
   by_cases h1:x.elem=105
   ·rw [iN (by simpa using h1),iN (by simp [h1])];rw [tail];generalize (if x.n<0∨x.n>300 then some (an.mk 13 (-2 - (i:Int))) else none)=q;cases q<;>rfl
   ·rw [iP h1]
    by_cases h2:x.elem=98
    ·rw [iN (by simpa using h2),iN (by simp [h2])];rw [tail];generalize (if x.n<0∨x.n>300 then some (an.mk 13 (-2 - (i:Int))) else none)=q;cases q<;>rfl
    ·rw [iP h2,iP ⟨h1,h2⟩,wr2 i (by omega),hF];rfl) (by unfold jG;rw [iN (aW _)])]
  cases dG s.vars.length (tZ s) () with
  |inr z=>rfl
  |inl _=>exact inn hl ho
 unfold n7 nn
 by_cases h1:(s.vars.length:Int)>400
 ·rw [iP h1,iP (.inl h1)];rfl
 rw [iN h1]
 by_cases h3:(s.in_.length:Int)>400
 ·rw [iP h3,iP (.inr (.inr (.inl h3)))];rfl
 rw [iN h3]
 by_cases h4:(s.out_.length:Int)>400
 ·rw [iP h4,iP (.inr (.inr (.inr h4)))];rfl
 rw [iN h4]
 by_cases h2:(s.rules.length:Int)>400
 ·rw [iP h2,iP (.inr (.inl h2))];rfl
 rw [iN h2,iN (by omega)]
 exact main (by omega) (by omega) (by omega)
def opT(k:Int):Int×Int×Int :=
 if 1≤k∧k≤7 then (105,105,2) else if k=8∨k=9 then (105,98,2) else if 10≤k∧k≤12 then (98,98,2) else if k=13 then (105,105,1) else if k=14 then (98,98,1) else (0,0,0)
theorem jh(k:Int):mM k=some (opT k):=by
 unfold mM opT
 repeat' split
 all_goals first
  |rfl
  |(exfalso;omega)
theorem bO(k:Int):mW k=some (opT k):=by
 unfold mW
 by_cases h1:k<1
 ·rw [iP h1];unfold opT
  rw [iN (by omega),iN (by omega),iN (by omega),iN (by omega),iN (by omega)]
 rw [iN h1]
 by_cases h2:k>14
 ·rw [iP h2];unfold opT
  rw [iN (by omega),iN (by omega),iN (by omega),iN (by omega),iN (by omega)]
 rw [iN h2]
 have:k=1∨k=2∨k=3∨k=4∨k=5∨k=6∨k=7∨k=8∨k=9∨k=10∨k=11∨k=12∨k=13∨k=14:=by omega
 rcases this with rfl|rfl|rfl|rfl|rfl|rfl|rfl|rfl|rfl|rfl|rfl|rfl|rfl|rfl<;>rfl
theorem CG(k:Int):(opT k).2.2=0∨((opT k).1=105∨(opT k).1=98)∧((opT k).2.1=105∨(opT k).2.1=98):=by
 unfold opT
 repeat' split
 all_goals simp
def dL(s:ab)(n:Int)(p:aL)(rs:List Int):Option (List Int) :=
 if p.op=1 then (if p.k=0 then some (105 :: rs) else if p.k=1∧(p.n=0∨p.n=1) then some (98 :: rs) else none)
 else if p.op=2 then (if (s.vars.getD p.v.toNat default).n=0 then some ((s.vars.getD p.v.toNat default).elem :: rs) else none)
 else if p.op=3 then (if (s.vars.getD p.v.toNat default).n>0∧p.n≥0∧p.n≤(s.vars.getD p.v.toNat default).n - n then some ((s.vars.getD p.v.toNat default).elem :: rs) else none)
 else if p.op=4 then (if p.n≥-1000000∧p.n≤1000000 then some (105 :: rs) else none)
 else if p.op=5 then (match rs with
  |a :: r=>if (opT p.k).2.2=1∧a=(opT p.k).1 then some ((opT p.k).2.1 :: r) else none
  |[]=>none)
 else if p.op=6 then (match rs with
  |a :: b :: r=>if (opT p.k).2.2=2∧a=(opT p.k).1∧b=(opT p.k).1 then some ((opT p.k).2.1 :: r) else none
  |_=>none)
 else if p.op=7 then (match rs with
  |a :: b :: c :: r=>if c=98∧b=a then some (a :: r) else none
  |_=>none)
 else if p.op=8 then (match rs with
  |a :: b :: r=>if (s.vars.getD p.v.toNat default).n>0∧b=105∧a=(s.vars.getD p.v.toNat default).elem then some ((s.vars.getD p.v.toNat default).elem :: r) else none
  |_=>none)
 else none
def okE(x:Int):Prop:=x=105∨x=98
def okS(rs:List Int):Prop:=∀ x∈rs,okE x
structure e7 (s:ab):Prop where
 e:∀ v∈s.vars,okE v.elem
 n:∀ v∈s.vars,0≤v.n∧v.n≤300
def pB(s:ab)(p:aL):Prop:=(p.op=2∨p.op=3∨p.op=8)→inV s p.v
theorem CH{s:ab}{n:Int}{p:aL}{rs rs':List Int}(hv:e7 s)(hu:pB s p)(hs:okS rs)(h:dL s n p rs=some rs'):okS rs'∧rs'.length≤rs.length+1:=by
 have hel:p.op=2∨p.op=3∨p.op=8→okE (s.vars.getD p.v.toNat default).elem:=fun ho=>hv.e _ (aI (by have:=hu ho;unfold inV at this;omega))
 have cons:∀ {x:Int} {r:List Int},okE x→okS r→okS (x :: r):=fun h1 h2 y hy=>by
  rcases List.mem_cons.1 hy with rfl|hy
  ·exact h1
  ·exact h2 y hy
 have tl:∀ {x:Int} {r:List Int},okS (x :: r)→okS r:=fun h1 y hy=>h1 y (by simp [hy])
 have hk:∀ m:Int,(opT p.k).2.2=m→m≠0→okE (opT p.k).2.1:=fun m h1 h2=>by
  rcases CG p.k with h|h
  ·exact absurd (h1.symm.trans h) h2
  ·exact h.2
 unfold dL at h
 by_cases h1:p.op=1
 ·rw [iP h1] at h
  split at h
  ·simp only [sJ] at h;subst h;exact ⟨cons (.inl rfl) hs,by simp⟩
  ·split at h
   ·simp only [sJ] at h;subst h;exact ⟨cons (.inr rfl) hs,by simp⟩
   ·cases h
 rw [iN h1] at h
 by_cases h2:p.op=2
 ·rw [iP h2] at h
  split at h
  ·simp only [sJ] at h;subst h;exact ⟨cons (hel (.inl h2)) hs,by simp⟩
  ·cases h
 rw [iN h2] at h
 by_cases h3:p.op=3
 ·rw [iP h3] at h
  split at h
  ·simp only [sJ] at h;subst h;exact ⟨cons (hel (.inr (.inl h3))) hs,by simp⟩
  ·cases h
 rw [iN h3] at h
 by_cases h4:p.op=4
 ·rw [iP h4] at h
  split at h
  ·simp only [sJ] at h;subst h;exact ⟨cons (.inl rfl) hs,by simp⟩
  ·cases h
 rw [iN h4] at h
 by_cases h5:p.op=5
 ·rw [iP h5] at h
  split at h
  ·split at h
   ·rename_i hc
    simp only [sJ] at h;subst h;exact ⟨cons (hk 1 hc.1 (by decide)) (tl hs),by simp⟩
   ·cases h
  ·cases h
 rw [iN h5] at h
 by_cases h6:p.op=6
 ·rw [iP h6] at h
  split at h
  ·split at h
   ·rename_i hc
    simp only [sJ] at h;subst h;exact ⟨cons (hk 2 hc.1 (by decide)) (tl (tl hs)),by simp⟩
   ·cases h
  ·cases h
 rw [iN h6] at h
 by_cases h7:p.op=7
 ·rw [iP h7] at h
  split at h
  ·split at h
   ·simp only [sJ] at h;subst h;exact ⟨cons (hs _ (by simp)) (tl (tl (tl hs))),by simp⟩
   ·cases h
  ·cases h
 rw [iN h7] at h
 by_cases h8:p.op=8
 ·rw [iP h8] at h
  split at h
  ·split at h
   ·simp only [sJ] at h;subst h;exact ⟨cons (hel (.inr (.inr h8))) (tl (tl hs)),by simp⟩
   ·cases h
  ·cases h
 rw [iN h8] at h
 cases h
theorem vP(n:Nat)(h:n≤1000000):cw n 1:=by
 unfold cw
 have:maxLen=9223372036854775807:=rfl
 omega
theorem dY(l:List Int):l.reverse.length=l.length:=by simp
theorem rv1(a:Int)(r:List Int):((a :: r).reverse).getD r.length default=a∧((a :: r).reverse).take r.length=r.reverse:=by
 constructor
 ·simp [List.getD]
 ·simp
theorem rv2(a b:Int)(r:List Int):((a :: b :: r).reverse).getD r.length default=b∧((a :: b :: r).reverse).getD (r.length+1) default=a∧((a :: b :: r).reverse).take r.length=r.reverse:=by
 refine ⟨?_,?_,?_⟩
 ·simp [List.getD]
 ·have:=(rv1 a (b :: r)).1
  simpa using this
 ·simp
theorem rv3(a b c:Int)(r:List Int):((a :: b :: c :: r).reverse).getD r.length default=c∧((a :: b :: c :: r).reverse).getD (r.length+1) default=b∧((a :: b :: c :: r).reverse).getD (r.length+2) default=a∧((a :: b :: c :: r).reverse).take r.length=r.reverse:=by
 refine ⟨?_,?_,?_,?_⟩
 ·simp [List.getD]
 ·have:=(rv2 a b (c :: r)).1
  simpa using this
 ·have:=(rv1 a (b :: c :: r)).1
  simpa using this
 ·simp
def kF(k:Nat)(rs:List Int):Int:=rs.getD (k - 1) 0
theorem Al(k:Nat)(rs:List Int)(hk:1≤k∧k≤3)(hl:rs.length≤1000):bK (k:Int) rs.reverse=some (kF k rs):=by
 unfold bK kF
 rw [dY]
 by_cases h:(k:Int)>(rs.length:Int)
 ·rw [iP h]
  have:rs.length≤k - 1:=by omega
  simp [List.getD,List.getElem?_eq_none this]
 ·rw [iN h,wr (by omega) (by omega),iP (by omega)]
  congr 1
  have e:((rs.length:Int) - (k:Int)).toNat=rs.length - k:=by omega
  rw [e]
  have h1:rs.length - k<rs.reverse.length:=by simp;omega
  have h2:k - 1<rs.length:=by omega
  simp only [List.getD,List.getElem?_eq_getElem h1,List.getElem?_eq_getElem h2,Option.getD_some,List.getElem_reverse]
  congr 1
  omega
theorem D5{e:List aL}{n:Int}{j:az}{l:List Int}{i:Nat}{t m:Int}(hi:i<e.length)(h:aO (e.getD i default) n j l=some (t,m,false)) :
  bu e n j l (i:Int)=some (.inr (.inr (0,false))):=by
 unfold bu
 rw [iP (ltI hi),iP (inI hi)]
 simp only [tN]
 rw [h]
 rfl
theorem EH{e:List aL}{n:Int}{j:az}{l:List Int}{i:Nat}{m:Int}(k:Nat)(hi:i<e.length)(h:aO (e.getD i default) n j l=some ((k:Int),m,true))(hl:k≤l.length)(hb:l.length≤1000)(hi':i<100000) :
  bu e n j l (i:Int)=some (.inl (l.take (l.length - k)++[m],((i+1:Nat):Int))):=by
 unfold bu
 rw [iP (ltI hi),iP (inI hi)]
 simp only [tN]
 rw [h]
 simp only [bSq,if_true]
 rw [iN (by omega),wr (by omega) (by omega),iP ⟨by omega,vP _ (by omega)⟩,wrs i (by omega)]
 have:((l.length:Int) - (k:Int)).toNat=l.length - k:=by omega
 rw [this]
 rfl
theorem D6(l:List Int)(x:Int):l.reverse.take (l.reverse.length - 0)++[x]=(x :: l).reverse:=by
 rw [Nat.sub_zero,List.take_length];simp
theorem CI{k m:Int}(h:(opT k).2.2=m)(hm:m≠0):(opT k).1≠0:=by
 rcases CG k with h'|h'
 ·exact absurd (h.symm.trans h') hm
 ·rcases h'.1 with h|h<;>omega
def Gi{Z:Type}(z:Z)(i:Nat):Option (List Int)→(List Int×Int) ⊕ (List Int ⊕ Z)
 |some rs'=>.inl (rs'.reverse,((i+1:Nat):Int))
 |none=>.inr (.inr z)
theorem D7{s:ab}{c:Int}{e:List aL}{n:Int}{rs:List Int}{i:Nat}(hv:e7 s)(hu:pB s (e.getD i default))(hs:okS rs)(hn:1≤n∧n≤300)(hl:rs.length≤900)(hi:i<e.length)(hi':i<100000) :
  bu e n (az.mk s c) rs.reverse (i:Int)=some (Gi (0,false) i (dL s n (e.getD i default) rs)):=by
 have hb:rs.reverse.length≤1000:=by simp;omega
 have ok0:∀ m,aO (e.getD i default) n (az.mk s c) rs.reverse=some (0,m,true)→bu e n (az.mk s c) rs.reverse (i:Int)=some (.inl ((m :: rs).reverse,((i+1:Nat):Int))):=fun m h=>by
  rw [EH 0 hi h (by omega) hb hi',D6]
 have fail:∀ t m,aO (e.getD i default) n (az.mk s c) rs.reverse=some (t,m,false)→bu e n (az.mk s c) rs.reverse (i:Int)=some (.inr (.inr (0,false))):=fun t m h=>D5 hi h
 have okk:∀ (k:Nat) (m:Int) (r:List Int),aO (e.getD i default) n (az.mk s c) rs.reverse=some ((k:Int),m,true)→rs.length=r.length+k→rs.reverse.take r.length=r.reverse →
   bu e n (az.mk s c) rs.reverse (i:Int)=some (.inl ((m :: r).reverse,((i+1:Nat):Int))):=fun k m r h h1 h2=>by
  rw [EH k hi h (by rw [dY];omega) hb hi',dY,show rs.length - k=r.length by omega,h2]
  simp
 have t1:=Al 1 rs (by omega) (by omega)
 have t2:=Al 2 rs (by omega) (by omega)
 have t3:=Al 3 rs (by omega) (by omega)
 simp only [Int.natCast_one,Int.cast_ofNat_Int] at t1 t2 t3
 generalize hp:e.getD i default=p at *
 have hvar:p.op=2∨p.op=3∨p.op=8→(0≤p.v∧p.v<(s.vars.length:Int))∧(0≤(s.vars.getD p.v.toNat default).n∧(s.vars.getD p.v.toNat default).n≤300)∧okE (s.vars.getD p.v.toNat default).elem:=fun ho=>by
  have h:=hu ho
  have hm:s.vars.getD p.v.toNat default∈s.vars:=aI (by unfold inV at h;omega)
  exact ⟨h,hv.n _ hm,hv.e _ hm⟩
 by_cases h1:p.op=1
 ·have hst:aO p n (az.mk s c) rs.reverse=if p.k=1 then (if p.n=0 then some (0,98,true) else some (0,98,p.n == 1)) else some (0,105,p.k == 0):=by
   unfold aO;rw [iP h1]
  unfold dL;rw [iP h1]
  by_cases k0:p.k=0
  ·rw [iP k0];exact ok0 105 (by rw [hst,iN (by omega),k0];rfl)
  ·rw [iN k0]
   by_cases k1:p.k=1
   ·by_cases n0:p.n=0
    ·rw [iP ⟨k1,.inl n0⟩];exact ok0 98 (by rw [hst,iP k1,iP n0])
    ·by_cases n1:p.n=1
     ·rw [iP ⟨k1,.inr n1⟩];exact ok0 98 (by rw [hst,iP k1,iN n0,n1];rfl)
     ·rw [iN (by omega)];exact fail 0 98 (by rw [hst,iP k1,iN n0,nB n1])
   ·rw [iN (by omega)];exact fail 0 105 (by rw [hst,iN k1,nB k0])
 by_cases h2:p.op=2
 ·obtain ⟨q1,q2,q3⟩:=hvar (.inl h2)
  have hst:aO p n (az.mk s c) rs.reverse=some (0,(s.vars.getD p.v.toNat default).elem,(s.vars.getD p.v.toNat default).n == 0):=by
   unfold aO;rw [iN h1,iP h2,iP q1]
  unfold dL;rw [iN h1,iP h2]
  by_cases n0:(s.vars.getD p.v.toNat default).n=0
  ·rw [iP n0];exact ok0 _ (by rw [hst,n0];rfl)
  ·rw [iN n0];exact fail _ _ (by rw [hst,nB n0])
 by_cases h3:p.op=3
 ·obtain ⟨q1,q2,q3⟩:=hvar (.inr (.inl h3))
  have hst:aO p n (az.mk s c) rs.reverse=some (0,(s.vars.getD p.v.toNat default).elem,decide ((s.vars.getD p.v.toNat default).n>0∧p.n≥0∧p.n≤(s.vars.getD p.v.toNat default).n - n)):=by
   unfold aO;rw [iN h1,iN h2,iP h3,iP q1]
   simp only
   rw [wr (by omega) (by omega)]
   by_cases a:(s.vars.getD p.v.toNat default).n>0
   ·rw [iP a]
    by_cases b:p.n≥0
    ·rw [iP b];congr 3;rw [decide_eq_decide];exact ⟨fun h=>⟨a,b,h⟩,fun h=>h.2.2⟩
    ·rw [iN b,dF (fun h=>b h.2.1)]
   ·rw [iN a,dF (fun h=>a h.1)]
  unfold dL;rw [iN h1,iN h2,iP h3]
  by_cases a:(s.vars.getD p.v.toNat default).n>0∧p.n≥0∧p.n≤(s.vars.getD p.v.toNat default).n - n
  ·rw [iP a];exact ok0 _ (by rw [hst,dT a])
  ·rw [iN a];exact fail _ _ (by rw [hst,dF a])
 by_cases h4:p.op=4
 ·have hst:aO p n (az.mk s c) rs.reverse=some (0,105,decide (p.n≥-1000000∧p.n≤1000000)):=by
   unfold aO;rw [iN h1,iN h2,iN h3,iP h4]
   by_cases a:p.n≥-1000000
   ·rw [iP a];simp [a]
   ·rw [iN a];simp [a]
  unfold dL;rw [iN h1,iN h2,iN h3,iP h4]
  by_cases a:p.n≥-1000000∧p.n≤1000000
  ·rw [iP a];exact ok0 _ (by rw [hst,dT a])
  ·rw [iN a];exact fail _ _ (by rw [hst,dF a])
 have w5:IntKind.wrap .i64 (IntKind.wrap .i64 ((5:Int) - 5)+1)=1:=by decide
 have w6:IntKind.wrap .i64 (IntKind.wrap .i64 ((6:Int) - 5)+1)=2:=by decide
 by_cases h5:p.op=5
 ·have hst:aO p n (az.mk s c) rs.reverse=if (opT p.k).2.2=1 then (if kF 1 rs=(opT p.k).1 then some ((opT p.k).2.2,(opT p.k).2.1,true) else some ((opT p.k).2.2,(opT p.k).2.1,false)) else some ((opT p.k).2.2,(opT p.k).2.1,false):=by
   unfold aO;rw [iN h1,iN h2,iN h3,iN h4,iP h5,show (p.op == 5)=true by simp [h5]]
   unfold cz
   rw [iP rfl,jh]
   simp only [bSq]
   rw [h5,w5,t1]
   simp only [bSq]
   by_cases a:(opT p.k).2.2=1
   ·rw [iP a,iP a,iP a]
   ·rw [iN a,iN a]
  unfold dL;rw [iN h1,iN h2,iN h3,iN h4,iP h5]
  by_cases a:(opT p.k).2.2=1
  ·rw [iP a] at hst
   have nz:=CI a (by decide)
   cases rs with
   |nil =>
    rw [iN (by show ¬ (0:Int)=_;omega)] at hst
    exact fail _ _ hst
   |cons x r =>
    by_cases b:x=(opT p.k).1
    ·rw [iP (show kF 1 (x :: r)=_ from b),a] at hst
     simp only
     rw [iP ⟨a,b⟩]
     exact okk 1 _ r hst (by simp) (rv1 x r).2
    ·rw [iN (show ¬ kF 1 (x :: r)=_ from b)] at hst
     simp only
     rw [iN (fun h=>b h.2)]
     exact fail _ _ hst
  ·rw [iN a] at hst
   have f:=fail _ _ hst
   cases rs with
   |nil=>exact f
   |cons x r=>simp only;rw [iN (fun h=>a h.1)];exact f
 by_cases h6:p.op=6
 ·have hst:aO p n (az.mk s c) rs.reverse=if (opT p.k).2.2=2 then (if kF 1 rs=(opT p.k).1 then some ((opT p.k).2.2,(opT p.k).2.1,kF 2 rs == (opT p.k).1) else some ((opT p.k).2.2,(opT p.k).2.1,false)) else some ((opT p.k).2.2,(opT p.k).2.1,false):=by
   unfold aO;rw [iN h1,iN h2,iN h3,iN h4,iN h5,show (p.op == 6)=true by simp [h6]]
   unfold cz
   rw [iP rfl,jh]
   simp only [bSq]
   rw [h6,w6,t1]
   simp only [bSq]
   by_cases a:(opT p.k).2.2=2
   ·rw [iP a,iP a,iN (by omega:¬ (opT p.k).2.2=1),t2]
    simp only [bSq]
   ·rw [iN a,iN a]
  unfold dL;rw [iN h1,iN h2,iN h3,iN h4,iN h5,iP h6]
  by_cases a:(opT p.k).2.2=2
  ·rw [iP a] at hst
   have nz:=CI a (by decide)
   match rs,hst,okk,fail with
   |[],hst,_,fail =>
    rw [iN (by show ¬ (0:Int)=_;omega)] at hst
    exact fail _ _ hst
   |[x],hst,_,fail =>
    have:(kF 2 [x] == (opT p.k).1)=false:=nB (by show (0:Int)≠_;omega)
    rw [this] at hst
    exact fail _ _ (by rw [hst];split<;>rfl)
   |x :: y :: r,hst,okk,fail =>
    simp only
    by_cases b:x=(opT p.k).1
    ·rw [iP (show kF 1 (x :: y :: r)=_ from b),a] at hst
     by_cases d:y=(opT p.k).1
     ·rw [show (kF 2 (x :: y :: r) == (opT p.k).1)=true from eQ d] at hst
      rw [iP ⟨a,b,d⟩]
      exact okk 2 _ r hst (by simp) (rv2 x y r).2.2
     ·rw [show (kF 2 (x :: y :: r) == (opT p.k).1)=false from nB d] at hst
      rw [iN (fun h=>d h.2.2)]
      exact fail _ _ hst
    ·rw [iN (show ¬ kF 1 (x :: y :: r)=_ from b)] at hst
     rw [iN (fun h=>b h.2.1)]
     exact fail _ _ hst
  ·rw [iN a] at hst
   have f:=fail _ _ hst
   match rs,f with
   |[],f=>exact f
   |[x],f=>exact f
   |x :: y :: r,f=>simp only;rw [iN (fun h=>a h.1)];exact f
 by_cases h7:p.op=7
 ·have hst:aO p n (az.mk s c) rs.reverse=if kF 3 rs=98 then (if kF 1 rs=kF 2 rs then some (3,kF 1 rs,kF 1 rs != 0) else some (3,kF 1 rs,false)) else some (3,kF 1 rs,false):=by
   unfold aO;rw [iN h1,iN h2,iN h3,iN h4,iN h5,show (p.op == 6)=false by simp [h6]]
   unfold cz
   rw [iN (by decide),iP h7,t1,t3]
   simp only [bSq]
   rw [t2]
   simp only [bSq]
  unfold dL;rw [iN h1,iN h2,iN h3,iN h4,iN h5,iN h6,iP h7]
  match rs,hst,okk,fail,hs with
  |[],hst,_,fail,_=>rw [iN (by show ¬ (0:Int)=_;omega)] at hst;exact fail _ _ hst
  |[x],hst,_,fail,_=>rw [iN (by show ¬ (0:Int)=_;omega)] at hst;exact fail _ _ hst
  |[x,y],hst,_,fail,_=>rw [iN (by show ¬ (0:Int)=_;omega)] at hst;exact fail _ _ hst
  |x :: y :: z :: r,hst,okk,fail,hs =>
   simp only
   by_cases b:z=98
   ·rw [iP (show kF 3 (x :: y :: z :: r)=98 from b)] at hst
    by_cases d:y=x
    ·have hx:x≠0:=by rcases hs x (by simp) with h|h<;>omega
     rw [iP (show kF 1 (x :: y :: z :: r)=kF 2 (x :: y :: z :: r) from d.symm),show (kF 1 (x :: y :: z :: r) != 0)=true from bne_iff_ne.2 hx] at hst
     rw [iP ⟨b,d⟩]
     exact okk 3 x r hst (by simp) (rv3 x y z r).2.2.2
    ·rw [iN (show ¬ kF 1 (x :: y :: z :: r)=kF 2 (x :: y :: z :: r) from fun h=>d h.symm)] at hst
     rw [iN (fun h=>d h.2)]
     exact fail _ _ hst
   ·rw [iN (show ¬ kF 3 (x :: y :: z :: r)=98 from b)] at hst
    rw [iN (fun h=>b h.1)]
    exact fail _ _ hst
 by_cases h8:p.op=8
 ·obtain ⟨q1,q2,q3⟩:=hvar (.inr (.inr h8))
  have hst:aO p n (az.mk s c) rs.reverse=if (s.vars.getD p.v.toNat default).n>0 then (if kF 1 rs=(s.vars.getD p.v.toNat default).elem then some (2,(s.vars.getD p.v.toNat default).elem,kF 2 rs == 105) else some (2,(s.vars.getD p.v.toNat default).elem,false)) else some (2,(s.vars.getD p.v.toNat default).elem,false):=by
   unfold aO;rw [iN h1,iN h2,iN h3,iN h4,iN h5,show (p.op == 6)=false by simp [h6]]
   unfold cz
   rw [iN (by decide),iN h7,iP h8,iP q1,t1]
   simp only [bSq]
   rw [t2]
   simp only [bSq]
  unfold dL;rw [iN h1,iN h2,iN h3,iN h4,iN h5,iN h6,iN h7,iP h8]
  match rs,hst,okk,fail with
  |[],hst,_,fail =>
   by_cases a:(s.vars.getD p.v.toNat default).n>0
   ·rw [iP a,iN (by show ¬ (0:Int)=_;rcases q3 with h|h<;>omega)] at hst;exact fail _ _ hst
   ·rw [iN a] at hst;exact fail _ _ hst
  |[x],hst,_,fail =>
   rw [show (kF 2 [x] == 105)=false from rfl] at hst
   exact fail _ _ (by rw [hst];split<;>(try split)<;>rfl)
  |x :: y :: r,hst,okk,fail =>
   simp only
   by_cases a:(s.vars.getD p.v.toNat default).n>0
   ·rw [iP a] at hst
    by_cases b:x=(s.vars.getD p.v.toNat default).elem
    ·rw [iP (show kF 1 (x :: y :: r)=_ from b)] at hst
     by_cases d:y=105
     ·rw [show (kF 2 (x :: y :: r) == 105)=true from eQ d] at hst
      rw [iP ⟨a,d,b⟩]
      exact okk 2 _ r hst (by simp) (rv2 x y r).2.2
     ·rw [show (kF 2 (x :: y :: r) == 105)=false from nB d] at hst
      rw [iN (fun h=>d h.2.1)]
      exact fail _ _ hst
    ·rw [iN (show ¬ kF 1 (x :: y :: r)=_ from b)] at hst
     rw [iN (fun h=>b h.2.2)]
     exact fail _ _ hst
   ·rw [iN a] at hst
    rw [iN (fun h=>a h.1)]
    exact fail _ _ hst
 ·have hst:aO p n (az.mk s c) rs.reverse=some (0,0,false):=by
   unfold aO;rw [iN h1,iN h2,iN h3,iN h4,iN h5,show (p.op == 6)=false by simp [h6]]
   unfold cz
   rw [iN (by decide),iN h7,iN h8]
  unfold dL;rw [iN h1,iN h2,iN h3,iN h4,iN h5,iN h6,iN h7,iN h8]
  exact fail _ _ hst
theorem CJ(x m:Int)(r:List Int):((x :: r).reverse).set r.length m=(m :: r).reverse:=by simp
theorem wl1(x:Int)(r:List Int)(h:r.length≤1000):IntKind.wrap .i64 (((x :: r).reverse.length:Int) - 1)=(r.length:Int):=by
 rw [dY,List.length_cons,wr (by omega) (by omega)];omega
theorem wl2(x y:Int)(r:List Int)(h:r.length≤1000):IntKind.wrap .i64 (((x :: y :: r).reverse.length:Int) - 2)=(r.length:Int)∧IntKind.wrap .i64 (((x :: y :: r).reverse.length:Int) - 1)=((r.length+1:Nat):Int):=by
 rw [dY,List.length_cons,List.length_cons,wr (by omega) (by omega),wr (by omega) (by omega)];omega
theorem wl3(x y z:Int)(r:List Int)(h:r.length≤1000):IntKind.wrap .i64 (((x :: y :: z :: r).reverse.length:Int) - 3)=(r.length:Int)∧IntKind.wrap .i64 (((x :: y :: z :: r).reverse.length:Int) - 2)=((r.length+1:Nat):Int) ∧
  IntKind.wrap .i64 (((x :: y :: z :: r).reverse.length:Int) - 1)=((r.length+2:Nat):Int):=by
 rw [dY,List.length_cons,List.length_cons,List.length_cons,wr (by omega) (by omega),wr (by omega) (by omega),wr (by omega) (by omega)];omega
theorem gf(l:List Int)(x:Int):l.reverse++(lit ([x]:List Int))=(x :: l).reverse:=by simp [lit]
theorem BL(n:Int):n9 n=some (decide (n≥-1000000∧n≤1000000)):=by
 unfold n9
 by_cases a:n≥-1000000
 ·rw [iP a];simp [a]
 ·rw [iN a];simp [a]
theorem D8{s:ab}{e:List aL}{n:Int}{rs:List Int}{i:Nat}(hv:e7 s)(hu:pB s (e.getD i default))(hn:1≤n∧n≤300)(hl:rs.length≤900)(hi:i<e.length)(hi':i<100000) :
  gv s e n rs.reverse (i:Int)=some (Gi (0:Int) i (dL s n (e.getD i default) rs)):=by
 unfold gv
 rw [iP (ltI hi),iP (inI hi)]
 simp only [tN]
 rw [wrs i (by omega)]
 obtain ⟨p,hp⟩:∃ p,e.getD i default=p:=⟨_,rfl⟩
 simp only [hp]
 rw [hp] at hu
 have hroom:cw (rs.reverse.length+1) 1:=vP _ (by simp;omega)
 have hvar:p.op=2∨p.op=3∨p.op=8→(0≤p.v∧p.v<(s.vars.length:Int))∧(0≤(s.vars.getD p.v.toNat default).n∧(s.vars.getD p.v.toNat default).n≤300):=fun ho=>by
  have h:=hu ho
  have hm:s.vars.getD p.v.toNat default∈s.vars:=aI (by unfold inV at h;omega)
  exact ⟨h,hv.n _ hm⟩
 by_cases h1:p.op=1
 ·unfold dL;rw [iP h1,iP h1]
  by_cases k0:p.k=0
  ·rw [iP k0,iP k0,iP hroom,gf];rfl
  ·rw [iN k0,iN k0]
   by_cases k1:p.k=1
   ·rw [iP k1]
    by_cases n0:p.n=0
    ·rw [iP n0,iP hroom,gf,iP ⟨k1,.inl n0⟩];rfl
    ·rw [iN n0]
     by_cases n1:p.n=1
     ·rw [iP n1,iP hroom,gf,iP ⟨k1,.inr n1⟩];rfl
     ·rw [iN n1,iN (by omega)];rfl
   ·rw [iN k1,iN (fun h=>k1 h.1)];rfl
 rw [iN h1]
 by_cases h2:p.op=2
 ·obtain ⟨q1,q2⟩:=hvar (.inl h2)
  unfold dL;rw [iP h2,iN h1,iP h2,iP q1]
  by_cases n0:(s.vars.getD p.v.toNat default).n=0
  ·rw [iN (fun h=>h n0),iP hroom,gf,iP n0];rfl
  ·rw [iP n0,iN n0];rfl
 rw [iN h2]
 by_cases h3:p.op=3
 ·obtain ⟨q1,q2⟩:=hvar (.inr (.inl h3))
  unfold dL;rw [iP h3,iN h1,iN h2,iP h3,iP q1]
  by_cases n0:(s.vars.getD p.v.toNat default).n=0
  ·rw [iP n0,iN (by omega)];rfl
  ·rw [iN n0]
   by_cases a:p.n<0
   ·rw [iP a,iN (by omega)];rfl
   ·rw [iN a]
    by_cases b:(s.vars.getD p.v.toNat default).n<n
    ·rw [iP b,iN (by omega)];rfl
    ·rw [iN b,wr (by omega) (by omega)]
     by_cases d:p.n>(s.vars.getD p.v.toNat default).n - n
     ·rw [iP d,iN (by omega)];rfl
     ·rw [iN d,iP hroom,gf,iP (by omega)];rfl
 rw [iN h3]
 by_cases h4:p.op=4
 ·unfold dL;rw [iP h4,iN h1,iN h2,iN h3,iP h4,BL]
  simp only [bSq]
  by_cases a:p.n≥-1000000∧p.n≤1000000
  ·rw [iP (dT a),iP hroom,gf,iP a];rfl
  ·rw [iN (by simpa using a),iN a];rfl
 rw [iN h4]
 by_cases h5:p.op=5
 ·unfold dL;rw [iP h5,iN h1,iN h2,iN h3,iN h4,iP h5,bO]
  simp only [bSq]
  match rs,hl with
  |[],_ =>
   split
   ·rfl
   ·rw [iP (by simp)];rfl
  |x :: r,hl =>
   simp only [List.length_cons] at hl
   simp only
   by_cases a:(opT p.k).2.2=1
   ·rw [iN (fun h=>h a),iN (by rw [dY];simp;omega),wl1 _ _ (by omega),iP ⟨by omega,by rw [dY];simp;omega⟩]
    simp only [tN]
    simp only [(rv1 x r).1]
    by_cases b:x=(opT p.k).1
    ·rw [iN (fun h=>h b),CJ,iP ⟨a,b⟩];rfl
    ·rw [iP b,iN (fun h=>b h.2)];rfl
   ·rw [iP a,iN (fun h=>a h.1)];rfl
 rw [iN h5]
 by_cases h6:p.op=6
 ·unfold dL;rw [iP h6,iN h1,iN h2,iN h3,iN h4,iN h5,iP h6,bO]
  simp only [bSq]
  match rs,hl with
  |[],_ =>
   split
   ·rfl
   ·rw [iP (by simp)];rfl
  |[x],_ =>
   split
   ·rfl
   ·rw [iP (by simp)];rfl
  |x :: y :: r,hl =>
   simp only [List.length_cons] at hl
   simp only
   obtain ⟨w2,w1⟩:=wl2 x y r (by omega)
   obtain ⟨g1,g2,g3⟩:=rv2 x y r
   by_cases a:(opT p.k).2.2=2
   ·rw [iN (fun h=>h a),iN (by rw [dY];simp;omega),w1,iP ⟨by omega,by rw [dY];simp;omega⟩]
    simp only [tN]
    simp only [g2]
    by_cases b:x=(opT p.k).1
    ·rw [iN (fun h=>h b),w2,iP ⟨by omega,by rw [dY];simp;omega⟩]
     simp only [tN]
     simp only [g1]
     by_cases d:y=(opT p.k).1
     ·rw [iN (fun h=>h d),iP ⟨⟨by omega,by rw [dY];simp;omega⟩,vP _ (by omega)⟩,g3,gf,iP ⟨a,b,d⟩];rfl
     ·rw [iP d,iN (fun h=>d h.2.2)];rfl
    ·rw [iP b,iN (fun h=>b h.2.1)];rfl
   ·rw [iP a,iN (fun h=>a h.1)];rfl
 rw [iN h6]
 by_cases h7:p.op=7
 ·unfold dL;rw [iP h7,iN h1,iN h2,iN h3,iN h4,iN h5,iN h6,iP h7]
  match rs,hl with
  |[],_=>rw [iP (by simp)];rfl
  |[x],_=>rw [iP (by simp)];rfl
  |[x,y],_=>rw [iP (by simp)];rfl
  |x :: y :: z :: r,hl =>
   simp only [List.length_cons] at hl
   simp only
   obtain ⟨w3,w2,w1⟩:=wl3 x y z r (by omega)
   obtain ⟨g1,g2,g3,g4⟩:=rv3 x y z r
   rw [iN (by rw [dY];simp;omega),w3,iP ⟨by omega,by rw [dY];simp;omega⟩]
   simp only [tN]
   simp only [g1]
   by_cases b:z=98
   ·rw [iN (fun h=>h b),w2,w1,iP ⟨⟨by omega,by rw [dY];simp;omega⟩,by omega,by rw [dY];simp;omega⟩]
    simp only [tN]
    simp only [g2,g3]
    by_cases d:y=x
    ·rw [iN (fun h=>h d),iP ⟨⟨by omega,by rw [dY];simp;omega⟩,vP _ (by omega)⟩,g4,gf,iP ⟨b,d⟩];rfl
    ·rw [iP d,iN (fun h=>d h.2)];rfl
   ·rw [iP b,iN (fun h=>b h.1)];rfl
 rw [iN h7]
 by_cases h8:p.op=8
 ·obtain ⟨q1,q2⟩:=hvar (.inr (.inr h8))
  unfold dL;rw [iP h8,iN h1,iN h2,iN h3,iN h4,iN h5,iN h6,iN h7,iP h8,iP q1]
  match rs,hl with
  |[],_ =>
   split
   ·rfl
   ·rw [iP (by simp)];rfl
  |[x],_ =>
   split
   ·rfl
   ·rw [iP (by simp)];rfl
  |x :: y :: r,hl =>
   simp only [List.length_cons] at hl
   simp only
   obtain ⟨w2,w1⟩:=wl2 x y r (by omega)
   obtain ⟨g1,g2,g3⟩:=rv2 x y r
   by_cases a:(s.vars.getD p.v.toNat default).n=0
   ·rw [iP a,iN (by omega)];rfl
   ·rw [iN a,iN (by rw [dY];simp;omega),w2,iP ⟨by omega,by rw [dY];simp;omega⟩]
    simp only [tN]
    simp only [g1]
    by_cases b:y=105
    ·rw [iN (fun h=>h b),w1,iP ⟨by omega,by rw [dY];simp;omega⟩]
     simp only [tN]
     simp only [g2]
     by_cases d:x=(s.vars.getD p.v.toNat default).elem
     ·rw [iN (fun h=>h d),iP ⟨⟨by omega,by rw [dY];simp;omega⟩,vP _ (by omega)⟩,g3,gf,iP ⟨by omega,b,d⟩];rfl
     ·rw [iP d,iN (fun h=>d h.2.2)];rfl
    ·rw [iP b,iN (fun h=>b h.2.1)];rfl
 ·rw [iN h8]
  unfold dL;rw [iN h1,iN h2,iN h3,iN h4,iN h5,iN h6,iN h7,iN h8];rfl
def lh(s:ab)(n:Int):List aL→List Int→Option (List Int)
 |[],rs=>some rs
 |p :: e,rs=>match dL s n p rs with|some rs'=>lh s n e rs'|none=>none
def li(s:ab)(n:Int)(e:List aL):Int:=match lh s n e [] with|some [x]=>x|_=>0
theorem vQ{Z:Type}(s:ab)(n:Int)(z:Z):∀ (e:List aL) (i:Nat) (rs:List Int),oe (fun _ a p=>match dL s n p a with|some a'=>.inl a'|none=>.inr z) i e rs=match lh s n e rs with|some a=>.inl a|none=>.inr z
 |[],i,rs=>rfl
 |p :: e,i,rs=>by
  rw [oe,lh]
  cases dL s n p rs with
  |none=>rfl
  |some a=>exact vQ s n z e (i+1) a
theorem xk{s:ab}{c:Int}{e:List aL}{n:Int}(hv:e7 s)(hu:∀ p∈e,pB s p)(hn:1≤n∧n≤300)(he:e.length≤800) :
  (∃ q:Int×Bool,j3 e n (az.mk s c)=some q∧(q.2=true→q.1=li s n e∧okE q.1)∧(q.2=false→li s n e=0))∧lU s e n=some (li s n e):=by
 have I:∀ (i:Nat) (a:List Int),i<e.length→(okS a∧a.length≤i)→∀ a',dL s n (e.getD i default) a=some a'→okS a'∧a'.length≤i+1:=by
  intro i a hi ha a' h
  obtain ⟨k1,k2⟩:=CH hv (hu _ (aI hi)) ha.1 h
  exact ⟨k1,by omega⟩
 obtain ⟨h1,h2⟩:=pY (A:=List Int) (T:=aL) (O:=List Int) (Z:=Int×Bool) (S:=List Int×Int) (fun a i=>(a.reverse,i)) (body:=fun x=>bu e n (az.mk s c) x.1 x.2) e
  (fun _ a p=>match dL s n p a with|some a'=>.inl a'|none=>.inr (0,false)) (fun i a=>okS a∧a.length≤i) (fun a=>a.reverse) [] ⟨fun x hx=>by simp at hx,by simp⟩
  (by
   intro i a hi ha
   refine ⟨?_,?_⟩
   ·show bu e n (az.mk s c) a.reverse (i:Int)=_
    rw [D7 hv (hu _ (aI hi)) ha.1 hn (by omega) hi (by omega)]
    cases dL s n (e.getD i default) a<;>rfl
   ·intro a' h
    cases hx:dL s n (e.getD i default) a with
    |none=>rw [hx] at h;cases h
    |some b =>
     rw [hx] at h
     simp only [Sum.inl.injEq] at h
     subst h
     exact I i a hi ha b hx)
  (by
   intro a _
   show bu e n (az.mk s c) a.reverse (e.length:Int)=_
   unfold bu
   rw [iN (aW _)])
 obtain ⟨h3,h4⟩:=pY (A:=List Int) (T:=aL) (O:=List Int) (Z:=Int) (S:=List Int×Int) (fun a i=>(a.reverse,i)) (body:=fun x=>gv s e n x.1 x.2) e
  (fun _ a p=>match dL s n p a with|some a'=>.inl a'|none=>.inr 0) (fun i a=>okS a∧a.length≤i) (fun a=>a.reverse) [] ⟨fun x hx=>by simp at hx,by simp⟩
  (by
   intro i a hi ha
   refine ⟨?_,?_⟩
   ·show gv s e n a.reverse (i:Int)=_
    rw [D8 hv (hu _ (aI hi)) hn (by omega) hi (by omega)]
    cases dL s n (e.getD i default) a<;>rfl
   ·intro a' h
    cases hx:dL s n (e.getD i default) a with
    |none=>rw [hx] at h;cases h
    |some b =>
     rw [hx] at h
     simp only [Sum.inl.injEq] at h
     subst h
     exact I i a hi ha b hx)
  (by
   intro a _
   show gv s e n a.reverse (e.length:Int)=_
   unfold gv
   rw [iN (aW _)])
 rw [vQ] at h1 h2 h3
 have e1:j3 e n (az.mk s c)=(aM (fun x:List Int×Int=>bu e n (az.mk s c) x.1 x.2) (([]:List Int).reverse,0)).bind (Sum.elim (fun z=>dt z) (fun z=>some z)):=rfl
 have e2:lU s e n=(aM (fun x:List Int×Int=>gv s e n x.1 x.2) (([]:List Int).reverse,0)).bind (Sum.elim (fun z=>ir z) (fun z=>some z)):=rfl
 rw [e1,e2,h1,h3]
 simp only [bSq]
 unfold li
 cases ht:lh s n e [] with
 |none=>exact ⟨⟨(0,false),rfl,fun h=>(by cases h),fun _=>rfl⟩,rfl⟩
 |some a =>
  have ha:=(h2 a (by rw [ht])).1
  simp only [Sum.elim_inl]
  match a,ha with
  |[],_ =>
   refine ⟨⟨(0,false),?_,fun h=>(by cases h),fun _=>rfl⟩,?_⟩
   ·unfold dt;rw [iP (by simp)]
   ·unfold ir;rw [iP (by simp)]
  |[x],ha =>
   refine ⟨⟨(x,true),?_,fun _=>⟨rfl,ha x (by simp)⟩,fun h=>by cases h⟩,?_⟩
   ·unfold dt;rw [iN (by simp),iP (by simp)];rfl
   ·unfold ir;rw [iN (by simp),iP (by simp)];rfl
  |x :: y :: r,_ =>
   refine ⟨⟨(0,false),?_,fun h=>(by cases h),fun _=>rfl⟩,?_⟩
   ·unfold dt;rw [iP (by simp;omega)]
   ·unfold ir;rw [iP (by simp;omega)]
def vOf(s:ab)(x:Int):ap:=s.vars.getD x.toNat default
theorem dH(s:ab)(x:Int):s.vars.getD x.toNat default=vOf s x:=by rw [vOf]
def qL(a b:ap):Bool:=a.elem == b.elem && a.n == b.n
def rM(s:ab)(l:List Int)(i:Nat):Option Bool:=if qL (vOf s (l.getD i default)) (vOf s (l.getD 0 default)) then none else some false
theorem xl(s:ab)(l:List Int):(match dG l.length (rM s l) () with|.inr z=>z|.inl _=>true)=l.all (fun x=>qL (vOf s x) (vOf s (l.getD 0 default))):=by
 rcases cS l.length (rM s l) () with ⟨e,h⟩|⟨j,z,hj,hf,e⟩
 ·rw [e]
  symm
  show _=true
  rw [List.all_eq_true]
  intro x hx
  obtain ⟨i,hi,rfl⟩:=List.mem_iff_getElem.1 hx
  have:=h i hi
  unfold rM at this
  have e2:l.getD i default=l[i]:=by simp [List.getD,hi]
  rw [e2] at this
  split at this
  ·assumption
  ·cases this
 ·rw [e]
  unfold rM at hf
  split at hf
  ·cases hf
  ·rename_i hb
   simp only [sJ] at hf
   subst hf
   symm
   show _=false
   rw [List.all_eq_false]
   exact ⟨_,aI hj,hb⟩
theorem rf(a b:ap):qL a b=true↔a.elem=b.elem∧a.n=b.n:=by unfold qL;simp
theorem D9{s:ab}{c:Int}{l:List Int}(hl:0<l.length)(hb:l.length≤1000)(hin:∀ x∈l,inV s x) :
  jY l (az.mk s c)=some (l.all (fun x=>qL (vOf s x) (vOf s (l.getD 0 default)))):=by
 unfold jY
 rw [bW l.length (rM s l) () (fun i hi=>by
  unfold ij rM
  have g0:=hin _ (aI (l:=l) (i:=0) hl)
  have gi:=hin _ (aI hi)
  unfold inV at g0 gi
  rw [iP (ltI hi),iP (inI hi)]
  simp only [tN]
  rw [iP ⟨gi,by omega,g0⟩,wrs i (by omega)]
  simp only [dH]
  by_cases h:qL (vOf s (l.getD i default)) (vOf s (l.getD 0 default))=true
  ·rw [iP ((rf _ _).1 h),iP h]
  ·rw [iN (fun h'=>h ((rf _ _).2 h')),iN h]) (by unfold ij;rw [iN (aW _)])]
 rw [← xl]
 cases dG l.length (rM s l) ()<;>rfl
theorem za{s:ab}{c:Int}{l:List Int}(hl:0<l.length)(hb:l.length≤1000)(hin:∀ x∈l,inV s x) :
  gB (az.mk s c) l=some (l.all (fun x=>qL (vOf s x) (vOf s (l.getD 0 default)))):=by
 unfold gB
 rw [bW l.length (rM s l) () (fun i hi=>by
  unfold f8 rM
  have g0:=hin _ (aI (l:=l) (i:=0) hl)
  have gi:=hin _ (aI hi)
  unfold inV at g0 gi
  rw [iP (ltI hi),iP (inI hi)]
  simp only [tN]
  rw [iP ⟨gi,by omega,g0⟩,wrs i (by omega)]
  simp only [dH]
  by_cases h:qL (vOf s (l.getD i default)) (vOf s (l.getD 0 default))=true
  ·rw [iP ((rf _ _).1 h),iP h]
  ·rw [iN (fun h'=>h ((rf _ _).2 h')),iN h]) (by unfold f8;rw [iN (aW _)])]
 rw [← xl]
 cases dG l.length (rM s l) ()<;>rfl
def yh(k:Int):Bool:=(opT k).2.2 == 2 && (opT k).1 == (opT k).2.1
theorem eV(k:Int):jZ k=some (yh k):=by
 unfold jZ yh
 rw [jh]
 simp only [bSq]
 split
 ·rename_i h;rw [h];rfl
 ·rename_i h;rw [nB h];rfl
theorem bG(k:Int):lA k=some (yh k):=by
 unfold lA yh
 rw [bO]
 simp only [bSq]
 split
 ·rename_i h;rw [h];rfl
 ·rename_i h;rw [nB h];rfl
def d9(n:Int):Int:=if n<1 then 1 else n
theorem bC(n:Int):jF n=some (d9 n):=by
 unfold jF d9;split<;>rfl
theorem Fs(n:Int):(if 1>n then 1 else n)=d9 n:=rfl
def fK(s:ab)(a:List Int):List ap:=[if 0<a.length then vOf s (a.getD 0 default) else ⟨0,0⟩,if 1<a.length then vOf s (a.getD 1 default) else ⟨0,0⟩,if 2<a.length then vOf s (a.getD 2 default) else ⟨0,0⟩]
theorem Ea{s:ab}{r:ae}{i:Nat}{l:List ap}(hi:i<r.a.length)(h3:r.a.length≤3)(hl:l.length=3)(hin:∀ x∈r.a,inV s x) :
  cO s r l (i:Int)=some (.inl (l.set i (vOf s (r.a.getD i default)),((i+1:Nat):Int))):=by
 unfold cO
 have gi:=hin _ (aI hi)
 unfold inV at gi
 rw [iP (ltI hi)]
 simp only [tN]
 rw [iP ⟨inI hi,gi,by omega,by omega⟩,wrs i (by omega)]
 rfl
theorem CK{s:ab}{r:ae}(h3:r.a.length≤3)(hin:∀ x∈r.a,inV s x) :
  aM (fun x:List ap×Int=>cO s r x.1 x.2) (List.replicate 3 (ap.mk 0 0),0)=some (fK s r.a):=by
 have fin:∀ l,aM (fun x:List ap×Int=>cO s r x.1 x.2) (l,(r.a.length:Int))=some l:=fun l=>cP (by
  show cO s r l (r.a.length:Int)=_
  unfold cO
  rw [iN (aW _)])
 have nx:∀ (i:Nat) (l:List ap),i<r.a.length→l.length=3→aM (fun x:List ap×Int=>cO s r x.1 x.2) (l,(i:Int))=aM (fun x:List ap×Int=>cO s r x.1 x.2) (l.set i (vOf s (r.a.getD i default)),((i+1:Nat):Int)) :=
  fun i l hi hl=>cH (Ea hi h3 hl hin)
 have e:r.a.length=0∨r.a.length=1∨r.a.length=2∨r.a.length=3:=by omega
 unfold fK
 rcases e with e|e|e|e
 ·have:=fin (List.replicate 3 (ap.mk 0 0))
  rw [e] at this ⊢
  exact this
 ·have h0:=nx 0 (List.replicate 3 (ap.mk 0 0)) (by omega) rfl
  have:=fin ((List.replicate 3 (ap.mk 0 0)).set 0 (vOf s (r.a.getD 0 default)))
  rw [e] at this ⊢
  exact h0.trans this
 ·have h0:=nx 0 (List.replicate 3 (ap.mk 0 0)) (by omega) rfl
  have h1:=nx 1 ((List.replicate 3 (ap.mk 0 0)).set 0 (vOf s (r.a.getD 0 default))) (by omega) rfl
  have:=fin (((List.replicate 3 (ap.mk 0 0)).set 0 (vOf s (r.a.getD 0 default))).set 1 (vOf s (r.a.getD 1 default)))
  rw [e] at this ⊢
  exact h0.trans (h1.trans this)
 ·have h0:=nx 0 (List.replicate 3 (ap.mk 0 0)) (by omega) rfl
  have h1:=nx 1 ((List.replicate 3 (ap.mk 0 0)).set 0 (vOf s (r.a.getD 0 default))) (by omega) rfl
  have h2:=nx 2 (((List.replicate 3 (ap.mk 0 0)).set 0 (vOf s (r.a.getD 0 default))).set 1 (vOf s (r.a.getD 1 default))) (by omega) rfl
  have:=fin ((((List.replicate 3 (ap.mk 0 0)).set 0 (vOf s (r.a.getD 0 default))).set 1 (vOf s (r.a.getD 1 default))).set 2 (vOf s (r.a.getD 2 default)))
  rw [e] at this ⊢
  exact h0.trans (h1.trans (h2.trans this))
theorem dJ{s:ab}{r:ae}(ho:inV s r.out_)(h3:r.a.length≤3)(hin:∀ x∈r.a,inV s x):aA s r=aB s r (fK s r.a):=by
 unfold aA
 unfold inV at ho
 rw [iP ho]
 show (aM (fun x:List ap×Int=>cO s r x.1 x.2) (List.replicate 3 (ap.mk 0 0),0)).bind (fun z21=>aB s r z21)=_
 rw [CK h3 hin]
 rfl
def nmd(p:aL):Bool:=p.op == 2 || p.op == 3 || p.op == 8
def mC(a:List Int)(e:List aL):List Int:=(e.foldl (fun l p=>if nmd p then l++[p.v] else l) a).foldl ins []
theorem wrN(i:Nat)(h:i<1000000000):IntKind.wrap .i64 ((i:Int)+1)=((i+1:Nat):Int):=wrs i (by omega)
theorem xm(n:Nat)(h:n≤1000000):cw n 8:=by
 unfold cw
 have:maxLen=9223372036854775807:=rfl
 omega
theorem CL(l:List Int)(h:l.length≤1000000):co l=some l:=by
 unfold co
 by_cases e:l=[]
 ·rw [iP e,e]
 ·rw [iN e,iP (xm _ h)]
theorem Eb(l:List Int)(h:l.length≤2000000):(fY l).bind (fun y6=>(eD l.length y6).bind fun y7=>some y7)=some (l.foldl ins []):=by
 unfold fY eD
 rw [iP (by omega)]
 show (if l.length=(qm l).length∧(qm l).length≤140737488355328 then some (Go.Lib.compact (qm l)) else none).bind (fun y7=>some y7)=_
 rw [iP ⟨(nw l).symm,by rw [nw];omega⟩,uU]
 rfl
theorem pZ(r:ae)(ha:r.a.length≤500000)(he:r.e.length≤500000):n5 r=some (mC r.a r.e):=by
 unfold n5
 rw [CL _ (by omega)]
 show (aM (fun (x:List Int×Int)=>ig r x.1 x.2) (r.a,0)).bind (fun z26=>lv z26)=_
 obtain ⟨h1,h2⟩:=nL (A:=List Int) (T:=aL) (O:=List Int) (S:=List Int×Int) (fun a i=>(a,i)) (body:=fun x=>ig r x.1 x.2) r.e (fun l p=>if nmd p then l++[p.v] else l)
  (fun i a=>a.length≤r.a.length+i) (fun a=>a) r.a (by omega)
  (by
   intro i a hi hI
   have step:∀ b:Bool,b=nmd (r.e.getD i default)→i4 r a (i:Int) b=some (.inl ((if nmd (r.e.getD i default) then a++[(r.e.getD i default).v] else a),((i+1:Nat):Int))):=by
    intro b hb
    subst hb
    unfold i4
    rw [wrN i (by omega)]
    cases nmd (r.e.getD i default)
    ·rfl
    ·rw [iP rfl,iP (xm _ (by omega))];rfl
   refine ⟨?_,?_⟩
   ·show ig r a (i:Int)=_
    unfold ig
    rw [iP (ltI hi),iP (inI hi)]
    simp only [tN]
    split
    ·rename_i h;exact step _ (by unfold nmd;rw [h];rfl)
    ·rename_i h
     split
     ·rename_i h';exact step _ (by unfold nmd;rw [h'];rfl)
     ·rename_i h';exact step _ (by unfold nmd;rw [nB h,nB h'];rfl)
   ·split
    ·simp;omega
    ·omega)
  (by
   intro a hI
   show ig r a (r.e.length:Int)=_
   unfold ig
   rw [iN (aW _)])
 rw [h1]
 exact Eb _ (by omega)
def pC(n:Int)(s:List Int×Bool)(x:Int):List Int×Bool :=
 if s.2 then (s.1++[x],true) else if x≥n then (if x>n then (s.1++[n]++[x],true) else (s.1++[x],true)) else (s.1++[x],false)
theorem xn(n:Int)(l:List Int):∀ (a:List Int),l.foldl (pC n) (a,true)=(a++l,true):=by
 induction l with
 |nil=>intro a;simp
 |cons x l ih=>intro a;rw [List.foldl_cons];show l.foldl (pC n) (a++[x],true)=_;rw [ih];simp
theorem An(n:Int)(l:List Int):∀ (a:List Int),(let s:=l.foldl (pC n) (a,false);if s.2 then s.1 else s.1++[n])=a++ins l n:=by
 induction l with
 |nil=>intro a;simp [ins]
 |cons x l ih =>
  intro a
  rw [List.foldl_cons]
  by_cases h:x≥n
  ·by_cases h':x>n
   ·have e:pC n (a,false) x=(a++[n]++[x],true):=by simp [pC,h,h']
    rw [e,xn]
    simp [ins,h,h']
   ·have e:pC n (a,false) x=(a++[x],true):=by simp [pC,h,h']
    rw [e,xn]
    simp [ins,h,h']
  ·have e:pC n (a,false) x=(a++[x],false):=by simp [pC,h]
   rw [e,ih]
   simp [ins,h]
theorem u3(l:List Int)(n:Int):(ins l n).length≤l.length+1:=by
 induction l with
 |nil=>simp [ins]
 |cons x l ih =>
  unfold ins
  split
  ·split<;>simp
  ·simp;omega
theorem ti(l:List Int)(n:Int)(h:l.length≤900000):mw l n=some (ins l n):=by
 unfold mw
 obtain ⟨h1,h2⟩:=nL (A:=List Int×Bool) (T:=Int) (O:=List Int×Bool) (S:=List Int×Bool×Int) (fun a i=>(a.1,a.2,i)) (body:=fun x=>fF l n x.1 x.2.1 x.2.2) l (pC n)
  (fun i a=>a.1.length≤i+(if a.2 then 1 else 0)) (fun a=>a) ([],false) (by simp)
  (by
   intro i a hi hI
   obtain ⟨a,b⟩:=a
   simp only at hI
   have hlen:a.length≤i+1:=by revert hI;cases b<;>simp<;>omega
   have j2:∀ (q:List Int) (c:Bool),q.length≤999999→fE l (i:Int) q c=some (.inl (q++[l.getD i default],c,((i+1:Nat):Int))):=by
    intro q c hq
    unfold fE
    rw [iP ⟨inI hi,xm _ (by omega)⟩,wrN i (by omega)]
    rfl
   refine ⟨?_,?_⟩
   ·show fF l n a b (i:Int)=_
    unfold fF
    rw [iP (ltI hi)]
    cases b with
    |true =>
     rw [iP rfl,j2 _ _ (by omega)]
     rfl
    |false =>
     rw [iN (by decide),iP (inI hi)]
     simp only [tN]
     by_cases hge:l.getD i default≥n
     ·rw [iP hge]
      by_cases hgt:l.getD i default>n
      ·rw [iP hgt,iP (xm _ (by omega)),j2 _ _ (by simp [lit];omega)]
       have e:pC n (a,false) (l.getD i default)=(a++[n]++[l.getD i default],true):=by unfold pC;rw [iN (by simp),iP hge,iP hgt]
       rw [e];rfl
      ·rw [iN hgt,j2 _ _ (by omega)]
       have e:pC n (a,false) (l.getD i default)=(a++[l.getD i default],true):=by unfold pC;rw [iN (by simp),iP hge,iN hgt]
       rw [e]
     ·rw [iN hge,j2 _ _ (by omega)]
      have e:pC n (a,false) (l.getD i default)=(a++[l.getD i default],false):=by unfold pC;rw [iN (by simp),iN hge]
      rw [e]
   ·have gen:∀ x:Int,(pC n (a,b) x).1.length≤i+1+(if (pC n (a,b) x).2=true then 1 else 0):=by
     intro x
     unfold pC
     cases b with
     |true=>simp at hI ⊢;omega
     |false =>
      simp at hI
      by_cases hge:x≥n
      ·by_cases hgt:x>n
       ·simp only [Bool.false_eq_true,if_false,iP hge,iP hgt];simp;omega
       ·simp only [Bool.false_eq_true,if_false,iP hge,iN hgt];simp;omega
      ·simp only [Bool.false_eq_true,if_false,iN hge];simp;omega
    exact gen _)
  (by
   intro a hI
   show fF l n a.1 a.2 (l.length:Int)=_
   unfold fF
   rw [iN (aW _)])
 show (aM (fun (x:List Int×Bool×Int)=>fF l n x.1 x.2.1 x.2.2) ([],false,0)).bind (fun z=>iG n z.1 z.2)=_
 rw [h1]
 have h3:=An n l []
 simp only [List.nil_append] at h3
 have hl:=u3 l n
 rw [← h3] at hl ⊢
 simp only [bSq]
 unfold iG
 cases hs:(l.foldl (pC n) ([],false)).2 with
 |true=>simp
 |false =>
  rw [hs] at h2
  simp only [Bool.false_eq_true,if_false,Nat.add_zero] at h2 ⊢
  rw [iP (xm _ (by omega))]
  rfl
theorem wQ(l a:List Int):(l.foldl ins a).length≤a.length+l.length:=by
 induction l generalizing a with
 |nil=>simp
 |cons x l ih=>rw [List.foldl_cons];have:=ih (ins a x);have:=u3 a x;simp;omega
theorem vS(r:ae)(ha:r.a.length≤400000)(he:r.e.length≤400000):qE r=some (mC r.a r.e):=by
 unfold qE
 obtain ⟨h1,h2⟩:=nL (A:=List Int) (T:=Int) (O:=List Int) (S:=List Int×Int) (fun a i=>(a,i)) (body:=fun x=>iq r x.1 x.2) r.a ins
  (fun i a=>a.length≤i) (fun a=>a) [] (by simp)
  (by
   intro i a hi hI
   refine ⟨?_,by have:=u3 a (r.a.getD i default);omega⟩
   show iq r a (i:Int)=_
   unfold iq
   rw [iP (ltI hi),iP (inI hi)]
   simp only [tN]
   rw [ti _ _ (by omega),wrN i (by omega)]
   rfl)
  (by
   intro a hI
   show iq r a (r.a.length:Int)=_
   unfold iq
   rw [iN (aW _)])
 show (aM (fun (x:List Int×Int)=>iq r x.1 x.2) ([],0)).bind (fun z=>kd r z)=_
 rw [h1]
 simp only [bSq]
 unfold kd
 obtain ⟨h3,h4⟩:=nL (A:=List Int) (T:=aL) (O:=List Int) (S:=List Int×Int) (fun a i=>(a,i)) (body:=fun x=>ip r x.1 x.2) r.e (fun l p=>if nmd p then ins l p.v else l)
  (fun i a=>a.length≤r.a.length+i) (fun a=>a) (r.a.foldl ins []) (by simpa using h2)
  (by
   intro i a hi hI
   have hn:pr (r.e.getD i default)=some (nmd (r.e.getD i default)):=by
    unfold pr nmd
    split
    ·rename_i h;rw [h];rfl
    ·rename_i h
     split
     ·rename_i h';rw [h'];rfl
     ·rename_i h';rw [nB h,nB h'];rfl
   refine ⟨?_,?_⟩
   ·show ip r a (i:Int)=_
    unfold ip
    rw [iP (ltI hi),iP (inI hi)]
    simp only [tN]
    rw [hn,wrN i (by omega)]
    simp only [bSq]
    cases nmd (r.e.getD i default)
    ·rfl
    ·simp only [if_true]
     rw [ti _ _ (by omega)]
     rfl
   ·split
    ·have:=u3 a (r.e.getD i default).v;omega
    ·omega)
  (by
   intro a hI
   show ip r a (r.e.length:Int)=_
   unfold ip
   rw [iN (aW _)])
 show (aM (fun (x:List Int×Int)=>ip r x.1 x.2) (r.a.foldl ins [],0)).bind (fun z=>lz z)=_
 rw [h3]
 have key:∀ (e:List aL) (a b:List Int),e.foldl (fun l p=>if nmd p then ins l p.v else l) (a.foldl ins b)=(e.foldl (fun l p=>if nmd p then l++[p.v] else l) a).foldl ins b:=by
  intro e
  induction e with
  |nil=>intro a b;rfl
  |cons p e ih =>
   intro a b
   rw [List.foldl_cons,List.foldl_cons]
   cases nmd p
   ·simp only [Bool.false_eq_true,if_false];exact ih a b
   ·simp only [if_true]
    rw [← ih,List.foldl_append]
    rfl
 rw [key]
 rfl
structure ki (s:ab) (r:ae):Prop where
 o:inV s r.out_
 a:∀ x∈r.a,inV s x
 u:14≤r.op→∀ p∈r.e,pB s p
 e:r.e.length≤24
theorem aF{s:ab}(hv:e7 s){x:Int}(h:inV s x):okE (vOf s x).elem∧0≤(vOf s x).n∧(vOf s x).n≤300:=by
 have:s.vars.getD x.toNat default∈s.vars:=aI (by unfold inV at h;omega)
 exact ⟨hv.e _ this,hv.n _ this⟩
theorem et(e:Int):i8 e=some (ap.mk e 0):=by unfold i8;rfl
theorem A9{s:ab}{c x:Int}(h:inV s x):j0 x (az.mk s c)=some (ap.mk (vOf s x).elem 0,decide ((vOf s x).n>0)):=by
 unfold j0
 unfold inV at h
 rw [iP h,et]
 rfl
theorem wrd{a b:Int}(ha:0≤a∧a≤300)(hb:0≤b∧b≤300):IntKind.wrap .i64 (a - b)=a - b∧IntKind.wrap .i64 (a+b)=a+b:=⟨wr (by omega) (by omega),wr (by omega) (by omega)⟩
theorem vT{s:ab}{c:Int}{r:ae}{o:ap}{n:Int}(hv:e7 s)(hu:∀ p∈r.e,pB s p)(he:r.e.length≤24)(ho:okE o.elem)(hn:1≤n∧n≤300) :
  eE r o (az.mk s c) n=some (li s n r.e == o.elem)∧lU s r.e n=some (li s n r.e):=by
 obtain ⟨⟨q,h1,h2,h3⟩,h4⟩:=xk (c:=c) hv hu hn (by omega)
 refine ⟨?_,h4⟩
 unfold eE
 rw [h1]
 simp only [bSq]
 by_cases hq:q.2=true
 ·rw [iP hq,(h2 hq).1]
 ·rw [iN hq,h3 (by simpa using hq)]
  congr 1
  symm
  rw [beq_eq_false_iff_ne]
  unfold okE at ho
  omega
theorem GJ{s:ab}{c k o n:Int}{e:List aL}(hv:e7 s)(h:ki s (ae.mk 1 k o n [] e)) :
  aG (ae.mk 1 k o n [] e) (az.mk s c)=aA s (ae.mk 1 k o n [] e)∧aA s (ae.mk 1 k o n [] e)≠none:=by
 have ho:inV s o:=h.o
 rw [dJ h.o (by simp) h.a]
 have go:=aF hv ho
 unfold inV at ho
 simp only [aG,aZ,aY,aX,aB,ho,and_self,bSq,jh,bO,eV,bG,et,dH,List.length_cons,List.length_nil,List.getD_cons_zero,List.getD_cons_succ,fK,Nat.reduceAdd,Nat.reduceLT,if_true,if_false,reduceCtorEq]
 unfold okE at *
 refine ⟨?_,?_⟩<;>grind
theorem GK{s:ab}{c k o n x:Int}{e:List aL}(hv:e7 s)(h:ki s (ae.mk 2 k o n [x] e)) :
  aG (ae.mk 2 k o n [x] e) (az.mk s c)=aA s (ae.mk 2 k o n [x] e)∧aA s (ae.mk 2 k o n [x] e)≠none:=by
 have ho:inV s o:=h.o
 have hx:inV s x:=h.a x (by simp)
 rw [dJ h.o (by simp) h.a]
 have go:=aF hv ho
 have gx:=aF hv hx
 unfold inV at ho hx
 simp only [aG,aZ,aY,aX,aB,ho,hx,and_self,bSq,jh,bO,eV,bG,et,dH,List.length_cons,List.length_nil,List.getD_cons_zero,List.getD_cons_succ,fK,Nat.reduceAdd,Nat.reduceLT,if_true,if_false,reduceCtorEq]
 unfold okE at *
 refine ⟨?_,?_⟩<;>grind
theorem GL{s:ab}{c k o n x:Int}{e:List aL}(hv:e7 s)(h:ki s (ae.mk 3 k o n [x] e)) :
  aG (ae.mk 3 k o n [x] e) (az.mk s c)=aA s (ae.mk 3 k o n [x] e)∧aA s (ae.mk 3 k o n [x] e)≠none:=by
 have ho:inV s o:=h.o
 have hx:inV s x:=h.a x (by simp)
 rw [dJ h.o (by simp) h.a]
 have go:=aF hv ho
 have gx:=aF hv hx
 unfold inV at ho hx
 simp only [aG,aZ,aY,aX,aB,ho,hx,and_self,bSq,jh,bO,eV,bG,et,dH,List.length_cons,List.length_nil,List.getD_cons_zero,List.getD_cons_succ,fK,Nat.reduceAdd,Nat.reduceLT,if_true,if_false,reduceCtorEq]
 unfold okE at *
 refine ⟨?_,?_⟩<;>grind
theorem GM{s:ab}{c k o n x y:Int}{e:List aL}(hv:e7 s)(h:ki s (ae.mk 4 k o n [x,y] e)) :
  aG (ae.mk 4 k o n [x,y] e) (az.mk s c)=aA s (ae.mk 4 k o n [x,y] e)∧aA s (ae.mk 4 k o n [x,y] e)≠none:=by
 have ho:inV s o:=h.o
 have hx:inV s x:=h.a x (by simp)
 have hy:inV s y:=h.a y (by simp)
 rw [dJ h.o (by simp) h.a]
 have go:=aF hv ho
 have gx:=aF hv hx
 have gy:=aF hv hy
 have hs:=D9 (s:=s) (c:=c) (l:=[x,y]) (by simp) (by simp) h.a
 simp only [List.getD_cons_zero,List.all_cons,List.all_nil,Bool.and_true] at hs
 unfold inV at ho hx hy
 simp only [aG,aZ,aY,aX,aB,ho,hx,hy,and_self,bSq,jh,bO,eV,bG,et,dH,List.length_cons,List.length_nil,List.getD_cons_zero,List.getD_cons_succ,fK,Nat.reduceAdd,Nat.reduceLT,if_true,if_false,reduceCtorEq,hs]
 unfold qL
 unfold okE at *
 refine ⟨?_,?_⟩<;>grind
theorem GN{s:ab}{c k o n x y z:Int}{e:List aL}(hv:e7 s)(h:ki s (ae.mk 5 k o n [x,y,z] e)) :
  aG (ae.mk 5 k o n [x,y,z] e) (az.mk s c)=aA s (ae.mk 5 k o n [x,y,z] e)∧aA s (ae.mk 5 k o n [x,y,z] e)≠none:=by
 have ho:inV s o:=h.o
 have hx:inV s x:=h.a x (by simp)
 have hy:inV s y:=h.a y (by simp)
 have hz:inV s z:=h.a z (by simp)
 rw [dJ h.o (by simp) h.a]
 have go:=aF hv ho
 have gx:=aF hv hx
 have gy:=aF hv hy
 have gz:=aF hv hz
 have hs:=za (s:=s) (c:=c) (l:=[y,z,o]) (by simp) (by simp) (by intro w hw;simp at hw;rcases hw with rfl|rfl|rfl<;>assumption)
 simp only [List.getD_cons_zero,List.all_cons,List.all_nil,Bool.and_true] at hs
 unfold inV at ho hx hy hz
 simp only [aG,aZ,aY,aX,aB,ho,hx,hy,hz,and_self,bSq,jh,bO,eV,bG,et,dH,List.length_cons,List.length_nil,List.getD_cons_zero,List.getD_cons_succ,fK,Nat.reduceAdd,Nat.reduceLT,if_true,if_false,reduceCtorEq,hs,lit]
 unfold qL
 unfold okE at *
 refine ⟨?_,?_⟩<;>grind
theorem GO{s:ab}{c k o n x y:Int}{e:List aL}(hv:e7 s)(h:ki s (ae.mk 6 k o n [x,y] e)) :
  aG (ae.mk 6 k o n [x,y] e) (az.mk s c)=aA s (ae.mk 6 k o n [x,y] e)∧aA s (ae.mk 6 k o n [x,y] e)≠none:=by
 have ho:inV s o:=h.o
 have hx:inV s x:=h.a x (by simp)
 have hy:inV s y:=h.a y (by simp)
 rw [dJ h.o (by simp) h.a]
 have go:=aF hv ho
 have gx:=aF hv hx
 have gy:=aF hv hy
 unfold inV at ho hx hy
 simp only [aG,aZ,aY,aX,aB,ho,hx,hy,and_self,bSq,jh,bO,eV,bG,et,dH,List.length_cons,List.length_nil,List.getD_cons_zero,List.getD_cons_succ,fK,Nat.reduceAdd,Nat.reduceLT,if_true,if_false,reduceCtorEq]
 unfold okE at *
 refine ⟨?_,?_⟩<;>grind
theorem GP{s:ab}{c k o n x y:Int}{e:List aL}(hv:e7 s)(h:ki s (ae.mk 7 k o n [x,y] e)) :
  aG (ae.mk 7 k o n [x,y] e) (az.mk s c)=aA s (ae.mk 7 k o n [x,y] e)∧aA s (ae.mk 7 k o n [x,y] e)≠none:=by
 have ho:inV s o:=h.o
 have hx:inV s x:=h.a x (by simp)
 have hy:inV s y:=h.a y (by simp)
 rw [dJ h.o (by simp) h.a]
 have go:=aF hv ho
 have gx:=aF hv hx
 have gy:=aF hv hy
 unfold inV at ho hx hy
 simp only [aG,aZ,aY,aX,aB,ho,hx,hy,and_self,bSq,jh,bO,eV,bG,et,dH,List.length_cons,List.length_nil,List.getD_cons_zero,List.getD_cons_succ,fK,Nat.reduceAdd,Nat.reduceLT,if_true,if_false,reduceCtorEq]
 unfold okE at *
 refine ⟨?_,?_⟩<;>grind
theorem GQ{s:ab}{c k o n x:Int}{e:List aL}(hv:e7 s)(h:ki s (ae.mk 8 k o n [x] e)) :
  aG (ae.mk 8 k o n [x] e) (az.mk s c)=aA s (ae.mk 8 k o n [x] e)∧aA s (ae.mk 8 k o n [x] e)≠none:=by
 have ho:inV s o:=h.o
 have hx:inV s x:=h.a x (by simp)
 rw [dJ h.o (by simp) h.a]
 have go:=aF hv ho
 have gx:=aF hv hx
 unfold inV at ho hx
 simp only [aG,aZ,aY,aX,aB,ho,hx,and_self,bSq,jh,bO,eV,bG,et,dH,List.length_cons,List.length_nil,List.getD_cons_zero,List.getD_cons_succ,fK,Nat.reduceAdd,Nat.reduceLT,if_true,if_false,reduceCtorEq]
 unfold okE at *
 refine ⟨?_,?_⟩<;>grind
theorem GR{s:ab}{c k o n x y z:Int}{e:List aL}(hv:e7 s)(h:ki s (ae.mk 9 k o n [x,y,z] e)) :
  aG (ae.mk 9 k o n [x,y,z] e) (az.mk s c)=aA s (ae.mk 9 k o n [x,y,z] e)∧aA s (ae.mk 9 k o n [x,y,z] e)≠none:=by
 have ho:inV s o:=h.o
 have hx:inV s x:=h.a x (by simp)
 have hy:inV s y:=h.a y (by simp)
 have hz:inV s z:=h.a z (by simp)
 rw [dJ h.o (by simp) h.a]
 have go:=aF hv ho
 have gx:=aF hv hx
 have gy:=aF hv hy
 have gz:=aF hv hz
 have he:=A9 (c:=c) hx
 unfold inV at ho hx hy hz
 simp only [aG,aZ,aY,aX,aB,ho,hx,hy,hz,and_self,bSq,jh,bO,eV,bG,et,dH,List.length_cons,List.length_nil,List.getD_cons_zero,List.getD_cons_succ,fK,Nat.reduceAdd,Nat.reduceLT,if_true,if_false,reduceCtorEq,he]
 unfold okE at *
 refine ⟨?_,?_⟩<;>grind
theorem Gj{s:ab}{c k o n x y z:Int}{e:List aL}(hv:e7 s)(h:ki s (ae.mk 10 k o n [x,y,z] e)) :
  aG (ae.mk 10 k o n [x,y,z] e) (az.mk s c)=aA s (ae.mk 10 k o n [x,y,z] e)∧aA s (ae.mk 10 k o n [x,y,z] e)≠none:=by
 have ho:inV s o:=h.o
 have hx:inV s x:=h.a x (by simp)
 have hy:inV s y:=h.a y (by simp)
 have hz:inV s z:=h.a z (by simp)
 rw [dJ h.o (by simp) h.a]
 have go:=aF hv ho
 have gx:=aF hv hx
 have gy:=aF hv hy
 have gz:=aF hv hz
 have he:=A9 (c:=c) hx
 unfold inV at ho hx hy hz
 simp only [aG,aZ,aY,aX,aB,ho,hx,hy,hz,and_self,bSq,jh,bO,eV,bG,et,dH,List.length_cons,List.length_nil,List.getD_cons_zero,List.getD_cons_succ,fK,Nat.reduceAdd,Nat.reduceLT,if_true,if_false,reduceCtorEq,he]
 unfold okE at *
 refine ⟨?_,?_⟩<;>grind
theorem Gk{s:ab}{c k o n x:Int}{e:List aL}(hv:e7 s)(h:ki s (ae.mk 11 k o n [x] e)) :
  aG (ae.mk 11 k o n [x] e) (az.mk s c)=aA s (ae.mk 11 k o n [x] e)∧aA s (ae.mk 11 k o n [x] e)≠none:=by
 have ho:inV s o:=h.o
 have hx:inV s x:=h.a x (by simp)
 rw [dJ h.o (by simp) h.a]
 have go:=aF hv ho
 have gx:=aF hv hx
 have hw:=(wrd gx.2 go.2).1
 unfold inV at ho hx
 simp only [aG,aZ,aY,aX,aB,ho,hx,and_self,bSq,jh,bO,eV,bG,et,dH,List.length_cons,List.length_nil,List.getD_cons_zero,List.getD_cons_succ,fK,Nat.reduceAdd,Nat.reduceLT,if_true,if_false,reduceCtorEq,hw]
 unfold okE at *
 by_cases hle:(vOf s o).n≤(vOf s x).n
 ·refine ⟨?_,?_⟩<;>grind
 ·by_cases hn0:n≥0
  ·have hd:decide (n≤(vOf s x).n - (vOf s o).n)=false:=by simp;omega
   simp only [hd]
   refine ⟨?_,?_⟩<;>grind
  ·refine ⟨?_,?_⟩<;>grind
theorem Gl{s:ab}{c k o n x y:Int}{e:List aL}(hv:e7 s)(h:ki s (ae.mk 12 k o n [x,y] e)) :
  aG (ae.mk 12 k o n [x,y] e) (az.mk s c)=aA s (ae.mk 12 k o n [x,y] e)∧aA s (ae.mk 12 k o n [x,y] e)≠none:=by
 have ho:inV s o:=h.o
 have hx:inV s x:=h.a x (by simp)
 have hy:inV s y:=h.a y (by simp)
 rw [dJ h.o (by simp) h.a]
 have go:=aF hv ho
 have gx:=aF hv hx
 have gy:=aF hv hy
 have hw:=(wrd gx.2 gy.2).2
 unfold inV at ho hx hy
 simp only [aG,aZ,aY,aX,aB,ho,hx,hy,and_self,bSq,jh,bO,eV,bG,et,dH,List.length_cons,List.length_nil,List.getD_cons_zero,List.getD_cons_succ,fK,Nat.reduceAdd,Nat.reduceLT,if_true,if_false,reduceCtorEq,hw]
 unfold okE at *
 refine ⟨?_,?_⟩<;>grind
theorem Gm{s:ab}{c k o n x y:Int}{e:List aL}(hv:e7 s)(h:ki s (ae.mk 13 k o n [x,y] e)) :
  aG (ae.mk 13 k o n [x,y] e) (az.mk s c)=aA s (ae.mk 13 k o n [x,y] e)∧aA s (ae.mk 13 k o n [x,y] e)≠none:=by
 have ho:inV s o:=h.o
 have hx:inV s x:=h.a x (by simp)
 have hy:inV s y:=h.a y (by simp)
 rw [dJ h.o (by simp) h.a]
 have go:=aF hv ho
 have gx:=aF hv hx
 have gy:=aF hv hy
 have hs:=za (s:=s) (c:=c) (l:=[x,y,o]) (by simp) (by simp) (by intro w hw;simp at hw;rcases hw with rfl|rfl|rfl<;>assumption)
 simp only [List.getD_cons_zero,List.all_cons,List.all_nil,Bool.and_true] at hs
 unfold inV at ho hx hy
 simp only [aG,aZ,aY,aX,aB,ho,hx,hy,and_self,bSq,jh,bO,eV,bG,et,dH,List.length_cons,List.length_nil,List.getD_cons_zero,List.getD_cons_succ,fK,Nat.reduceAdd,Nat.reduceLT,if_true,if_false,reduceCtorEq,hs,lit]
 unfold qL
 unfold okE at *
 refine ⟨?_,?_⟩<;>grind
theorem Gn{s:ab}{c k o n:Int}{e:List aL}(hv:e7 s)(h:ki s (ae.mk 14 k o n [] e)) :
  aG (ae.mk 14 k o n [] e) (az.mk s c)=aA s (ae.mk 14 k o n [] e)∧aA s (ae.mk 14 k o n [] e)≠none:=by
 have ho:inV s o:=h.o
 rw [dJ h.o (by simp) h.a]
 have go:=aF hv ho
 have hc:=vT (c:=c) (r:=ae.mk 14 k o n [] e) (o:=vOf s o) (n:=d9 (vOf s o).n) hv (h.u (by simp)) h.e go.1 (by unfold d9;split<;>omega)
 unfold inV at ho
 simp only [aG,aZ,aY,aX,aB,ho,and_self,bSq,jh,bO,eV,bG,et,dH,List.length_cons,List.length_nil,List.getD_cons_zero,List.getD_cons_succ,fK,Nat.reduceAdd,Nat.reduceLT,if_true,if_false,reduceCtorEq,iS,du,bC,Fs]
 simp only [hc.1,hc.2]
 refine ⟨?_,?_⟩<;>grind
theorem Gp{s:ab}{c k o n x:Int}{e:List aL}(hv:e7 s)(h:ki s (ae.mk 15 k o n [x] e)) :
  aG (ae.mk 15 k o n [x] e) (az.mk s c)=aA s (ae.mk 15 k o n [x] e)∧aA s (ae.mk 15 k o n [x] e)≠none:=by
 have ho:inV s o:=h.o
 have hx:inV s x:=h.a x (by simp)
 rw [dJ h.o (by simp) h.a]
 have go:=aF hv ho
 have gx:=aF hv hx
 have hc:=fun (hn:1≤n∧n≤300)=>vT (c:=c) (r:=ae.mk 15 k o n [x] e) (o:=vOf s o) (n:=n) hv (h.u (by simp)) h.e go.1 hn
 unfold inV at ho hx
 simp only [aG,aZ,aY,aX,aB,ho,hx,and_self,bSq,jh,bO,eV,bG,et,dH,List.length_cons,List.length_nil,List.getD_cons_zero,List.getD_cons_succ,fK,Nat.reduceAdd,Nat.reduceLT,if_true,if_false,reduceCtorEq,iS,du,bC,Fs]
 by_cases hn:1≤n∧n≤300
 ·simp only [(hc hn).1,(hc hn).2,bSq]
  unfold okE at *
  refine ⟨?_,?_⟩<;>grind
 ·unfold okE at *
  refine ⟨?_,?_⟩<;>grind
theorem Gq{s:ab}{c k o n x:Int}{e:List aL}(hv:e7 s)(h:ki s (ae.mk 16 k o n [x] e)) :
  aG (ae.mk 16 k o n [x] e) (az.mk s c)=aA s (ae.mk 16 k o n [x] e)∧aA s (ae.mk 16 k o n [x] e)≠none:=by
 have ho:inV s o:=h.o
 have hx:inV s x:=h.a x (by simp)
 rw [dJ h.o (by simp) h.a]
 have go:=aF hv ho
 have gx:=aF hv hx
 have hc:=fun (hn:1≤(vOf s o).n)=>vT (c:=c) (r:=ae.mk 16 k o n [x] e) (o:=vOf s o) (n:=(vOf s o).n) hv (h.u (by simp)) h.e go.1 ⟨hn,go.2.2⟩
 unfold inV at ho hx
 simp only [aG,aZ,aY,aX,aB,ho,hx,and_self,bSq,jh,bO,eV,bG,et,dH,List.length_cons,List.length_nil,List.getD_cons_zero,List.getD_cons_succ,fK,Nat.reduceAdd,Nat.reduceLT,if_true,if_false,reduceCtorEq,iS,du,bC,Fs]
 by_cases hn:1≤(vOf s o).n
 ·have hcv:d9 (vOf s o).n=(vOf s o).n:=by unfold d9;rw [iN (by omega)]
  simp only [hcv,(hc hn).1,(hc hn).2,bSq]
  unfold okE at *
  refine ⟨?_,?_⟩<;>grind
 ·unfold okE at *
  refine ⟨?_,?_⟩<;>grind
theorem wR(l:List Int):∀ (a:List Int) (x:Int),x∈l.foldl ins a↔x∈a∨x∈l:=by
 induction l with
 |nil=>intro a x;simp
 |cons y l ih=>intro a x;rw [List.foldl_cons,ih,yi];simp;grind
theorem BN(e:List aL):∀ (a:List Int) (x:Int),x∈e.foldl (fun l p=>if nmd p then l++[p.v] else l) a↔x∈a∨∃ p∈e,nmd p=true∧p.v=x:=by
 induction e with
 |nil=>intro a x;simp
 |cons p e ih =>
  intro a x
  rw [List.foldl_cons,ih]
  by_cases h:nmd p=true
  ·rw [iP h];simp;grind
  ·rw [iN h];simp;grind
theorem oh(a:List Int)(e:List aL)(x:Int):x∈mC a e↔x∈a∨∃ p∈e,nmd p=true∧p.v=x:=by
 unfold mC
 rw [wR,BN]
 simp
theorem Ba(p:aL):nmd p=true↔(p.op=2∨p.op=3∨p.op=8):=by unfold nmd;simp;grind
def cX(r:ae):List Int:=if r.op<14 then mC r.a [] else mC r.a r.e
theorem lC{r:ae}{x:Int}(h:x∈r.a):x∈cX r:=by
 unfold cX
 split<;>(rw [oh];exact .inl h)
theorem Ec{s:ab}{r:ae}(h:∀ x∈cX r,inV s x)(ho:14≤r.op):∀ p∈r.e,pB s p:=by
 intro p hp hn
 refine h _ ?_
 unfold cX
 rw [iN (by omega),oh]
 exact .inr ⟨p,hp,(Ba p).2 hn,rfl⟩
def aH(op:Int):Int:=if 1≤op∧op≤16 then ([0,0,1,1,2,3,2,2,1,3,3,1,2,2,0,1,1]:List Int).getD op.toNat 0 else -1
noncomputable def mf(s:ab)(mk:List Int)(r:ae):Int :=
 if ¬ inV s r.out_ then 16
 else if mk.contains r.out_ then 8
 else if aH r.op<0∨¬ (r.a.length:Int)=aH r.op then 4
 else if (r.e.length:Int)>24 then 7
 else if ∃ x∈cX r,¬ inV s x then 16
 else if aA s r=some true then 0 else 10
def bI(s:ab)(i:Nat):List Int:=s.in_++(s.rules.take i).map (fun r=>r.out_)
theorem qa(s:ab){i:Nat}(h:i<s.rules.length):bI s (i+1)=bI s i++[(s.rules.getD i default).out_]:=by
 unfold bI
 rw [b8 _ h,List.map_append,List.append_assoc]
 rfl
def cT(s:ab)(l:List Int):List Bool:=(List.range s.vars.length).map (fun (v:Nat)=>decide ((v:Int)∈l))
theorem i1(s:ab)(l:List Int):(cT s l).length=s.vars.length:=by unfold cT;simp
theorem xp{s:ab}{l:List Int}{v:Int}(h:inV s v):(cT s l).getD v.toNat default=l.contains v:=by
 unfold inV at h
 unfold cT
 have:v.toNat<s.vars.length:=by omega
 have e:((v.toNat:Nat):Int)=v:=by omega
 simp [List.getD,this,e]
theorem rg{s:ab}{l:List Int}{v:Int}(h:inV s v):(cT s l).set v.toNat true=cT s (l++[v]):=by
 unfold inV at h
 have e:((v.toNat:Nat):Int)=v:=by omega
 apply List.ext_getElem
 ·simp [i1]
 ·intro i h1 h2
  have hi:i<s.vars.length:=by simpa [i1] using h2
  rw [List.getElem_set]
  unfold cT
  simp only [List.getElem_map,List.getElem_range,List.mem_append,List.mem_singleton]
  split
  ·rename_i h3
   subst h3
   rw [e];simp
  ·rename_i h3
   have:¬ (i:Int)=v:=by omega
   simp [this]
noncomputable def lD(s:ab)(i:Nat):Option an :=
 let c:=mf s (bI s i) (s.rules.getD i default)
 if c=0 then none else some (an.mk c (i:Int))
noncomputable def np(s:ab)(i:Nat):Option an :=
 if ∃ x∈cX (s.rules.getD i default),¬ x∈bI s s.rules.length then some (an.mk 9 (i:Int)) else none
def t6(s:ab)(i:Nat):Option an :=
 if s.out_.getD i default∈bI s s.rules.length then none else some (an.mk 9 (-1))
noncomputable def eY(s:ab):an :=
 if ¬ (nn s).code=0 then nn s
 else match dG s.rules.length (lD s) () with
  |.inr z=>z
  |.inl _=>match dG s.rules.length (np s) () with
   |.inr z=>z
   |.inl _=>match dG s.out_.length (t6 s) () with
    |.inr z=>z
    |.inl _=>an.mk 0 0
theorem zd{s:ab}{c:Int}{r:ae}(hv:e7 s)(h:ki s r)(hp:¬ aH r.op<0)(hl:(r.a.length:Int)=aH r.op) :
  aG r (az.mk s c)=aA s r∧aA s r≠none:=by
 obtain ⟨op,k,o,n,a,e⟩:=r
 simp only at hp hl
 have hop:1≤op∧op≤16:=by
  by_cases hc:1≤op∧op≤16
  ·exact hc
  ·unfold aH at hp;rw [iN hc] at hp;omega
 have hcs:op=1∨op=2∨op=3∨op=4∨op=5∨op=6∨op=7∨op=8∨op=9∨op=10∨op=11∨op=12∨op=13∨op=14∨op=15∨op=16:=by omega
 rcases hcs with rfl|rfl|rfl|rfl|rfl|rfl|rfl|rfl|rfl|rfl|rfl|rfl|rfl|rfl|rfl|rfl
 ·have hl':a.length=0:=by simpa [aH] using hl
  match a,hl' with|[],_=>exact GJ hv h
 ·have hl':a.length=1:=by simp [aH] at hl;omega
  match a,hl' with|[x],_=>exact GK hv h
 ·have hl':a.length=1:=by simp [aH] at hl;omega
  match a,hl' with|[x],_=>exact GL hv h
 ·have hl':a.length=2:=by simp [aH] at hl;omega
  match a,hl' with|[x,y],_=>exact GM hv h
 ·have hl':a.length=3:=by simp [aH] at hl;omega
  match a,hl' with|[x,y,z],_=>exact GN hv h
 ·have hl':a.length=2:=by simp [aH] at hl;omega
  match a,hl' with|[x,y],_=>exact GO hv h
 ·have hl':a.length=2:=by simp [aH] at hl;omega
  match a,hl' with|[x,y],_=>exact GP hv h
 ·have hl':a.length=1:=by simp [aH] at hl;omega
  match a,hl' with|[x],_=>exact GQ hv h
 ·have hl':a.length=3:=by simp [aH] at hl;omega
  match a,hl' with|[x,y,z],_=>exact GR hv h
 ·have hl':a.length=3:=by simp [aH] at hl;omega
  match a,hl' with|[x,y,z],_=>exact Gj hv h
 ·have hl':a.length=1:=by simp [aH] at hl;omega
  match a,hl' with|[x],_=>exact Gk hv h
 ·have hl':a.length=2:=by simp [aH] at hl;omega
  match a,hl' with|[x,y],_=>exact Gl hv h
 ·have hl':a.length=2:=by simp [aH] at hl;omega
  match a,hl' with|[x,y],_=>exact Gm hv h
 ·have hl':a.length=0:=by simpa [aH] using hl
  match a,hl' with|[],_=>exact Gn hv h
 ·have hl':a.length=1:=by simp [aH] at hl;omega
  match a,hl' with|[x],_=>exact Gp hv h
 ·have hl':a.length=1:=by simp [aH] at hl;omega
  match a,hl' with|[x],_=>exact Gq hv h
theorem pD(op:Int):aH op≤3:=by
 unfold aH
 split
 ·rename_i h
  have hcs:op=1∨op=2∨op=3∨op=4∨op=5∨op=6∨op=7∨op=8∨op=9∨op=10∨op=11∨op=12∨op=13∨op=14∨op=15∨op=16:=by omega
  rcases hcs with rfl|rfl|rfl|rfl|rfl|rfl|rfl|rfl|rfl|rfl|rfl|rfl|rfl|rfl|rfl|rfl<;>decide
 ·decide
theorem ze(op:Int):nI op=some (aH op):=by
 unfold nI aH
 by_cases h:1≤op∧op≤16
 ·rw [iN (by omega),iN (by omega),iP (by omega),iP h];rfl
 ·rw [iN h]
  by_cases h1:op<1
  ·rw [iP h1]
  ·rw [iN h1,iP (by omega)]
theorem zf(op:Int):lw op=some (aH op):=by
 unfold lw aH
 by_cases h:1≤op∧op≤16
 ·rw [iN (by omega),iN (by omega),iP (by omega),iP h]
  have hcs:op=1∨op=2∨op=3∨op=4∨op=5∨op=6∨op=7∨op=8∨op=9∨op=10∨op=11∨op=12∨op=13∨op=14∨op=15∨op=16:=by omega
  rcases hcs with rfl|rfl|rfl|rfl|rfl|rfl|rfl|rfl|rfl|rfl|rfl|rfl|rfl|rfl|rfl|rfl<;>rfl
 ·rw [iN h]
  by_cases h1:op<0
  ·rw [iP h1]
  ·rw [iN h1]
   by_cases h2:op≥17
   ·rw [iP h2]
   ·rw [iN h2]
    have:op=0:=by omega
    subst this
    rfl
theorem Ed(b:Bool)(c k:Int)(s:ab):cm b c (az.mk s k)=some (if b=true∧k=0 then c else k):=by
 unfold cm
 cases b
 ·simp
 ·by_cases h:k=0<;>simp [h]
theorem vV(b:Bool)(c:Int)(s:ab):cm b c (az.mk s 0)=some (if b=true then c else 0):=by
 unfold cm
 cases b<;>rfl
theorem vW{b:Bool}{c k:Int}{s:ab}(h:k≠0):cm b c (az.mk s k)=some k:=by
 unfold cm
 cases b
 ·rfl
 ·simp [h]
theorem Ao{s:ab}{r:ae}{c x:Int}(h:x≠0):dS r (az.mk s c) x=some (x,x):=by
 unfold dS
 rw [vW h]
 simp only [bSq]
 rw [iP h]
theorem CM{s:ab}{r:ae}{c x:Int}(h:x≠0):dU r (az.mk s c) x=some (x,x):=by
 unfold dU
 rw [ze]
 simp only [bSq,vW h]
 rw [Ao h]
 split<;>rfl
theorem Ap(s:ab)(l:List Int):∀ a:Int,l.foldl (fun a x=>if ¬ inV s x∧a=0 then 16 else a) a=if (∃ x∈l,¬ inV s x)∧a=0 then 16 else a:=by
 induction l with
 |nil=>intro a;simp
 |cons y l ih =>
  intro a
  rw [List.foldl_cons,ih]
  by_cases ha:a=0
  ·subst ha
   by_cases hy:inV s y
   ·simp [hy]
   ·simp [hy]
  ·simp [ha]
theorem Aq{s:ab}{c:Int}{l:List Int}(hl:l.length≤1000) :
  aM (fun (x:Int×Int)=>cV (az.mk s c) l x.1 x.2) (0,0)=some (if ∃ x∈l,¬ inV s x then 16 else 0):=by
 obtain ⟨h1,_⟩:=nL (A:=Int) (T:=Int) (O:=Int) (S:=Int×Int) (fun a i=>(a,i)) (body:=fun x=>cV (az.mk s c) l x.1 x.2) l (fun a x=>if ¬ inV s x∧a=0 then 16 else a)
  (fun _ _=>True) (fun a=>a) 0 trivial
  (by
   intro i a hi _
   refine ⟨?_,trivial⟩
   show cV (az.mk s c) l a (i:Int)=_
   unfold cV
   rw [iP (ltI hi),iP (inI hi)]
   simp only [tN]
   rw [yg]
   simp only [bSq,Ed]
   rw [wrs i (by omega)]
   have:((!decide (0≤l.getD i default∧l.getD i default<(s.vars.length:Int)))=true∧a=0)↔(¬ inV s (l.getD i default)∧a=0):=by unfold inV;simp;omega
   simp only [this])
  (by
   intro a _
   show cV (az.mk s c) l a (l.length:Int)=_
   unfold cV
   rw [iN (aW _)])
 rw [Ap] at h1
 rw [h1]
 simp
theorem qb(a:List Int)(e:List aL):(mC a e).length≤a.length+e.length:=by
 have k:∀ (e:List aL) (a:List Int),(e.foldl (fun l p=>if nmd p then l++[p.v] else l) a).length≤a.length+e.length:=by
  intro e
  induction e with
  |nil=>intro a;simp
  |cons p e ih =>
   intro a
   rw [List.foldl_cons]
   have:=ih (if nmd p then a++[p.v] else a)
   have h2:(if nmd p then a++[p.v] else a).length≤a.length+1:=by split<;>simp
   simp only [List.length_cons]
   omega
 unfold mC
 have:=wQ (e.foldl (fun l p=>if nmd p then l++[p.v] else l) a) []
 have:=k e a
 simp at *
 omega
theorem vX{s:ab}{r:ae}(h1:inV s r.out_)(h2:¬ (r.e.length:Int)>24)(h3:¬ ∃ x∈cX r,¬ inV s x):ki s r:=by
 have h4:∀ x∈cX r,inV s x:=fun x hx=>Classical.byContradiction (fun hc=>h3 ⟨x,hx,hc⟩)
 exact ⟨h1,fun x hx=>h4 x (lC hx),fun ho=>Ec h4 ho,by omega⟩
theorem Ee{s:ab}{c:Int}{r:ae}{l:List Int}(hv:e7 s):j4 r (az.mk s c) (cT s l)=some (mf s l r,mf s l r):=by
 unfold j4 mf
 rw [yg]
 simp only [bSq,vV]
 by_cases h1:inV s r.out_
 ·have h1':0≤r.out_∧r.out_<(s.vars.length:Int):=h1
  simp only [h1',and_self,decide_true,Bool.not_true,Bool.false_eq_true,if_false,if_true,i1,xp h1,not_true_eq_false,h1]
  rw [vV]
  simp only [bSq]
  by_cases h2:l.contains r.out_=true
  ·rw [iP h2,iP h2,CM (by decide)]
  ·rw [iN h2,iN h2]
   unfold dU
   rw [ze]
   simp only [bSq,vV]
   by_cases h3:aH r.op<0
   ·rw [iP h3,iP trivial,iP (.inl h3),Ao (by decide)]
   ·rw [iN h3]
    by_cases h4:(r.a.length:Int)=aH r.op
    ·rw [iN (by simpa using h4),iN (fun hc=>hc.elim h3 (fun h=>h h4))]
     unfold dS
     rw [vV]
     simp only [bSq]
     by_cases h5:(r.e.length:Int)>24
     ·have e5:decide ((r.e.length:Int)>24)=true:=by simpa using h5
      simp only [e5,if_true]
      rw [iP (by decide),iP h5]
     ·have e5:decide ((r.e.length:Int)>24)=false:=by simpa using h5
      simp only [e5,Bool.false_eq_true,if_false,not_true_eq_false]
      rw [iN h5]
      have hle:=pD r.op
      have hj:∀ l':List Int,(∀ x,x∈l'↔x∈cX r)→l'.length≤1000→eF r (az.mk s c) 0 l' =
        some (if ∃ x∈cX r,¬ inV s x then 16 else if aA s r=some true then 0 else 10,if ∃ x∈cX r,¬ inV s x then 16 else if aA s r=some true then 0 else 10):=by
       intro l' hm hl
       unfold eF
       show (aM (fun (x:Int×Int)=>cV (az.mk s c) l' x.1 x.2) (0,0)).bind _=_
       rw [Aq hl]
       simp only [bSq,hm]
       unfold fN
       by_cases h6:∃ x∈cX r,¬ inV s x
       ·simp only [iP h6]
        rw [iN (by decide)]
       ·simp only [iN h6]
        rw [iP trivial]
        obtain ⟨f1,f2⟩:=zd (c:=0) hv (vX h1 h5 h6) h3 h4
        simp only [vV]
        rw [f1]
        cases hf:aA s r with
        |none=>exact absurd hf f2
        |some b=>cases b<;>simp
      by_cases h7:r.op≥14
      ·rw [iP h7,pZ _ (by omega) (by omega)]
       simp only [bSq]
       have hu:cX r=mC r.a r.e:=by unfold cX;rw [iN (by omega)]
       have:=qb r.a r.e
       exact hj _ (fun x=>by rw [hu]) (by omega)
      ·rw [iN h7]
       have hu:cX r=mC r.a []:=by unfold cX;rw [iP (by omega)]
       exact hj _ (fun x=>by rw [hu,oh];simp) (by omega)
    ·rw [iP (by simpa using h4),iP (.inr h4),Ao (by decide)]
 ·have h1':¬ (0≤r.out_∧r.out_<(s.vars.length:Int)):=h1
  simp only [h1',decide_false,Bool.not_false,if_true,h1,not_false_eq_true]
  rw [iN (by decide),vW (by decide)]
  simp only [bSq]
  rw [CM (by decide)]
theorem tj{T Z:Type}(l:List Int)(p:Int→Prop)[DecidablePred p](z:Z)(t:T) :
  dG l.length (fun k=>if p (l.getD k default) then none else some z) t=if ∃ x∈l,¬ p x then .inr z else .inl t:=by
 rcases cS l.length (fun k=>if p (l.getD k default) then none else some z) t with ⟨e,h⟩|⟨j,z',hj,hf,e⟩
 ·rw [e,iN]
  rintro ⟨x,hx,hp⟩
  obtain ⟨i,hi,rfl⟩:=List.mem_iff_getElem.1 hx
  have:=h i hi
  have e2:l.getD i default=l[i]:=by simp [List.getD,hi]
  simp only [e2,iN hp] at this
  cases this
 ·rw [e,iP]
  ·split at hf
   ·cases hf
   ·simp only [sJ] at hf;rw [hf]
  ·split at hf
   ·cases hf
   ·rename_i hp;exact ⟨_,aI hj,hp⟩
theorem zg(a b:Int):gq a b=some (an.mk a b):=by unfold gq;rfl
structure nq (s:ab):Prop where
 v:e7 s
 nv:s.vars.length≤400
 nr:s.rules.length≤400
 ni:s.in_.length≤400
 no:s.out_.length≤400
 i:∀ x∈s.in_,inV s x
 o:∀ x∈s.out_,inV s x
theorem t7{s:ab}(h:(nn s).code=0):nq s:=by
 unfold nn at h
 split at h
 ·cases h
 ·rename_i hl
  rcases cS s.vars.length (tZ s) () with ⟨e1,h1⟩|⟨j,z,hj,hf,e⟩
  ·rw [e1] at h
   rcases cS s.in_.length (inF s) () with ⟨e2,h2⟩|⟨j,z,hj,hf,e⟩
   ·simp only [e2] at h
    rcases cS s.out_.length (rA s) () with ⟨e3,h3⟩|⟨j,z,hj,hf,e⟩
    ·refine ⟨⟨fun v hv=>?_,fun v hv=>?_⟩,by omega,by omega,by omega,by omega,fun x hx=>?_,fun x hx=>?_⟩
     ·obtain ⟨i,hi,rfl⟩:=List.mem_iff_getElem.1 hv
      have:=h1 i hi
      have e2:s.vars.getD i default=s.vars[i]:=by simp [List.getD,hi]
      unfold tZ BK at this
      rw [e2] at this
      split at this
      ·cases this
      ·unfold okE;omega
     ·obtain ⟨i,hi,rfl⟩:=List.mem_iff_getElem.1 hv
      have:=h1 i hi
      have e2:s.vars.getD i default=s.vars[i]:=by simp [List.getD,hi]
      unfold tZ BK at this
      rw [e2] at this
      split at this
      ·cases this
      ·split at this
       ·cases this
       ·omega
     ·obtain ⟨i,hi,rfl⟩:=List.mem_iff_getElem.1 hx
      have:=h2 i hi
      have e2:s.in_.getD i default=s.in_[i]:=by simp [List.getD,hi]
      unfold inF at this
      rw [e2] at this
      by_cases hh:inV s s.in_[i]
      ·exact hh
      ·rw [iP hh] at this;cases this
     ·obtain ⟨i,hi,rfl⟩:=List.mem_iff_getElem.1 hx
      have:=h3 i hi
      have e2:s.out_.getD i default=s.out_[i]:=by simp [List.getD,hi]
      unfold rA at this
      rw [e2] at this
      by_cases hh:inV s s.out_[i]
      ·exact hh
      ·rw [iP hh] at this;cases this
    ·simp only [e] at h
     unfold rA at hf
     split at hf
     ·simp only [sJ] at hf;subst hf;cases h
     ·cases hf
   ·simp only [e] at h
    unfold inF at hf
    split at hf
    ·simp only [sJ] at hf;subst hf;cases h
    ·split at hf
     ·simp only [sJ] at hf;subst hf;cases h
     ·cases hf
  ·simp only [e] at h
   unfold tZ BK at hf
   split at hf
   ·simp only [sJ] at hf;subst hf;cases h
   ·split at hf
    ·simp only [sJ] at hf;subst hf;cases h
    ·cases hf
theorem oi{s:ab}{l:List Int}{r:ae}(h:mf s l r=0):ki s r∧(∀ x∈cX r,inV s x)∧r.a.length≤3∧¬ l.contains r.out_=true∧¬ aH r.op<0∧(r.a.length:Int)=aH r.op∧aA s r=some true:=by
 unfold mf at h
 by_cases h1:inV s r.out_
 ·rw [iN (by simpa using h1)] at h
  by_cases h2:l.contains r.out_=true
  ·rw [iP h2] at h;cases h
  ·rw [iN h2] at h
   by_cases h3:aH r.op<0∨¬ (r.a.length:Int)=aH r.op
   ·rw [iP h3] at h;cases h
   ·rw [iN h3] at h
    by_cases h5:(r.e.length:Int)>24
    ·rw [iP h5] at h;cases h
    ·rw [iN h5] at h
     by_cases h6:∃ x∈cX r,¬ inV s x
     ·rw [iP h6] at h;cases h
     ·rw [iN h6] at h
      have hle:=pD r.op
      refine ⟨vX h1 h5 h6,fun x hx=>Classical.byContradiction (fun hc=>h6 ⟨x,hx,hc⟩),by omega,h2,fun hc=>h3 (.inl hc),Classical.byContradiction (fun hc=>h3 (.inr hc)),?_⟩
      by_cases h7:aA s r=some true
      ·exact h7
      ·rw [iN h7] at h;cases h
 ·rw [iP h1] at h;cases h
theorem nM{s:ab}{l:List Int}{v:Int}(h:inV s v):(cT s l).getD v.toNat default=true↔v∈l:=by rw [xp h];simp
theorem xq(s:ab):List.replicate s.vars.length false=cT s []:=by
 apply List.ext_getElem
 ·simp [i1]
 ·intro i h1 h2;simp [cT]
theorem Ef{s:ab}(g:nq s):aM (fun (x:List Bool×Int)=>fC s x.1 x.2) (cT s [],0)=some (cT s s.in_):=by
 have:=e8 (S:=List Bool×Int) (T:=List Bool) (fun i=>(cT s (s.in_.take i),(i:Int))) (body:=fun x=>fC s x.1 x.2) s.in_.length (cT s s.in_)
  (by
   intro i hi
   show fC s (cT s (s.in_.take i)) (i:Int)=_
   have gi:=g.i _ (aI hi)
   have gi':=gi
   unfold inV at gi'
   unfold fC
   rw [iP (ltI hi),iP (inI hi)]
   simp only [tN]
   rw [i1,iP gi',rg gi,wrs i (by have:=g.ni;omega),b8 _ hi])
  (by
   show fC s (cT s (s.in_.take s.in_.length)) (s.in_.length:Int)=_
   unfold fC
   rw [iN (aW _),List.take_length])
 exact this
theorem Ar{s:ab}(g:nq s):aM (fun (x:Int×List Bool×Int)=>fA s x.1 x.2.1 x.2.2) (0,cT s s.in_,0)=some (dG s.rules.length (lD s) (0,cT s (bI s s.rules.length))):=by
 have e0:bI s 0=s.in_:=by simp [bI]
 have:=u4 (S:=Int×List Bool×Int) (T:=Int×List Bool) (Z:=an) (fun i=>(0,cT s (bI s i),(i:Int))) (body:=fun x=>fA s x.1 x.2.1 x.2.2) s.rules.length (lD s) (0,cT s (bI s s.rules.length))
  (by
   intro i hi
   show fA s 0 (cT s (bI s i)) (i:Int)=_
   unfold fA
   rw [iP (ltI hi),iP (inI hi)]
   simp only [tN]
   rw [Ee g.v]
   simp only [bSq]
   unfold lD
   by_cases h:mf s (bI s i) (s.rules.getD i default)=0
   ·obtain ⟨gr,_⟩:=oi h
    have go:=gr.o
    have go':=go
    unfold inV at go'
    simp only [h,not_true_eq_false,if_false,if_true]
    rw [i1,iP go',rg go,wrs i (by have:=g.nr;omega),qa s hi]
   ·simp only [h,not_false_eq_true,if_true,if_false])
  (by
   show fA s 0 (cT s (bI s s.rules.length)) (s.rules.length:Int)=_
   unfold fA
   rw [iN (aW _)])
 rw [e0] at this
 exact this
theorem BO{s:ab}(g:nq s)(hr:∀ i,i<s.rules.length→lD s i=none) :
  aM (fun x=>kx s (cT s (bI s s.rules.length)) x) 0=some (dG s.rules.length (np s) ()):=by
 refine bW s.rules.length (np s) () (fun i hi=>?_) ?_
 ·have h0:=hr i hi
  unfold lD at h0
  have h0':mf s (bI s i) (s.rules.getD i default)=0:=by
   by_cases h:mf s (bI s i) (s.rules.getD i default)=0
   ·exact h
   ·simp only [iN h] at h0;cases h0
  obtain ⟨gr,hu,ha,_⟩:=oi h0'
  have he:=gr.e
  unfold kx
  rw [iP (ltI hi),iP (inI hi)]
  simp only [tN]
  generalize hR:s.rules.getD i default=r at *
  have hj:∀ l:List Int,(∀ x,x∈l↔x∈cX r)→l.length≤1000→i9 (cT s (bI s s.rules.length)) (i:Int) l=some (match np s i with|some z=>.inr (.inr z)|none=>.inl ((i+1:Nat):Int)):=by
   intro l hm hl
   unfold i9
   rw [bW l.length (fun k=>if l.getD k default∈bI s s.rules.length then none else some (an.mk 9 (i:Int))) () (fun k hk=>by
    have gk:=hu _ ((hm _).1 (aI hk))
    have gk':=gk
    unfold inV at gk'
    unfold lR
    rw [iP (ltI hk),iP (inI hk)]
    simp only [tN]
    rw [i1,iP gk',wrs k (by omega)]
    by_cases hc:l.getD k default∈bI s s.rules.length
    ·rw [iP ((nM gk).2 hc),iP hc]
    ·rw [iN (fun h=>hc ((nM gk).1 h)),iN hc]) (by unfold lR;rw [iN (aW _)])]
   rw [tj l (fun x=>x∈bI s s.rules.length)]
   unfold np
   rw [hR]
   simp only [hm]
   by_cases h9:∃ x∈cX r,¬ x∈bI s s.rules.length
   ·simp only [iP h9];rfl
   ·simp only [iN h9,bSq,Sum.elim_inl]
    unfold kw
    rw [wrs i (by have:=g.nr;omega)]
  by_cases h7:r.op≥14
  ·rw [iP h7,pZ _ (by omega) (by omega)]
   simp only [bSq]
   have hu':cX r=mC r.a r.e:=by unfold cX;rw [iN (by omega)]
   have:=qb r.a r.e
   rw [hj (mC r.a r.e) (fun x=>by rw [hu']) (by omega)]
   cases np s i<;>rfl
  ·rw [iN h7]
   have hu':cX r=mC r.a []:=by unfold cX;rw [iP (by omega)]
   rw [hj r.a (fun x=>by rw [hu',oh];simp) (by omega)]
   cases np s i<;>rfl
 ·unfold kx;rw [iN (aW _)]
theorem CN{s:ab}(g:nq s):aM (fun x=>ku s (cT s (bI s s.rules.length)) x) 0=some (dG s.out_.length (t6 s) ()):=by
 refine bW s.out_.length (t6 s) () (fun i hi=>?_) ?_
 ·have gk:=g.o _ (aI hi)
  have gk':=gk
  unfold inV at gk'
  unfold ku t6
  rw [iP (ltI hi),iP (inI hi)]
  simp only [tN]
  rw [i1,iP gk',wrs i (by have:=g.no;omega)]
  by_cases hc:s.out_.getD i default∈bI s s.rules.length
  ·rw [iP ((nM gk).2 hc),iP hc]
  ·rw [iN (fun h=>hc ((nM gk).1 h)),iN hc]
 ·unfold ku;rw [iN (aW _)]
theorem zh(s:ab):ph s=some (eY s):=by
 unfold ph eY
 rw [Aj]
 simp only [bSq]
 by_cases h:(nn s).code=0
 ·have g:=t7 h
  simp only [h,not_true_eq_false,if_false]
  rw [iP ⟨by omega,vP _ (by have:=g.nv;omega)⟩]
  rw [xq]
  show (aM (fun (x:List Bool×Int)=>fC s x.1 x.2) (cT s [],0)).bind (fun z46=>jb s z46)=_
  rw [Ef g]
  simp only [bSq]
  unfold jb
  show (aM (fun (x:Int×List Bool×Int)=>fA s x.1 x.2.1 x.2.2) (0,cT s s.in_,0)).bind (Sum.elim (fun z=>ja s z.1 z.2) (fun z36=>some z36))=_
  rw [Ar g]
  simp only [bSq]
  rcases cS s.rules.length (lD s) ((0:Int),cT s (bI s s.rules.length)) with ⟨e,h1⟩|⟨j,z,hj,hf,e⟩
  ·rw [e,jH h1]
   simp only [Sum.elim_inl]
   unfold ja
   rw [BO g h1]
   simp only [bSq]
   cases dG s.rules.length (np s) () with
   |inr z=>rfl
   |inl u =>
    simp only [Sum.elim_inl]
    unfold kv
    rw [CN g]
    simp only [bSq]
    cases dG s.out_.length (t6 s) ()<;>rfl
  ·rw [e]
   rcases cS s.rules.length (lD s) () with ⟨e',h1⟩|⟨j',z',hj',hf',e'⟩
   ·rw [h1 j hj] at hf;cases hf
   ·have:z=z':=by
     unfold dG at e e'
     cases hq:(List.range s.rules.length).findSome? (lD s) with
     |none=>rw [hq] at e;cases e
     |some q=>rw [hq] at e e';simp at e e';rw [← e,← e']
    rw [e',this];rfl
 ·simp only [h,not_false_eq_true,if_true]
def kC(s:ab)(i:Nat):List Int:=(s.rules.take i).map (fun r=>r.out_)
theorem rh(s:ab){i:Nat}(h:i≤s.rules.length):(kC s i).length=i:=by unfold kC;simp [h]
theorem mD(s:ab)(i:Nat):bI s i=s.in_++kC s i:=rfl
theorem vY{s:ab}{n:Nat}(hn:n≤s.rules.length)(hb:s.rules.length≤100000):pq s (n:Int)=some (kC s n):=by
 unfold pq
 have:=e8 (S:=List Int×Int) (T:=List Int) (fun i=>(kC s i,(i:Int))) (body:=fun x=>io s (n:Int) x.1 x.2) n (kC s n)
  (by
   intro i hi
   show io s (n:Int) (kC s i) (i:Int)=_
   unfold io
   rw [iP (ltI hi),iP ⟨inI (by omega),xm _ (by rw [rh s (by omega)];omega)⟩,wrs i (by omega)]
   simp only [tN]
   have:kC s (i+1)=kC s i++[(s.rules.getD i default).out_]:=by unfold kC;rw [b8 _ (by omega),List.map_append];rfl
   rw [this]
   rfl)
  (by
   show io s (n:Int) (kC s n) (n:Int)=_
   unfold io
   rw [iN (aW _)])
 have e0:kC s 0=[]:=rfl
 rw [e0] at this
 show (aM (fun x=>io s (n:Int) x.1 x.2) ([],0)).bind _=_
 rw [show ((0:Nat):Int)=0 from rfl] at this
 rw [this]
 rfl
theorem su(r:ae)(ha:r.a.length≤100000)(he:r.e.length≤100000):n8 r=some (cX r):=by
 unfold n8 cX
 by_cases h:r.op<14
 ·rw [iP h,iP h]
  unfold ke
  rw [vS _ (by simp only;omega) (by simp)]
  rfl
 ·rw [iN h,iN h]
  unfold ke
  rw [vS _ (by simp only;omega) (by simp only;omega)]
  rfl
theorem t8(r:ae):(cX r).length≤r.a.length+r.e.length:=by
 unfold cX
 split
 ·have:=qb r.a [];simp at this;omega
 ·exact qb _ _
theorem uD(s:ab)(x:Int):¬ inV s x↔x<0∨x≥(s.vars.length:Int):=by unfold inV;omega
theorem CO{s:ab}(g:nq s){i:Nat}(hi:i<s.rules.length):gW s (i:Int)=some (match lD s i with|some z=>.inr (.inr z)|none=>.inl ((i+1:Nat):Int)):=by
 unfold gW lD mf
 rw [iP (ltI hi),iP (inI hi)]
 simp only [tN,zg,bSq]
 have hnr:=g.nr
 generalize hR:s.rules.getD i default=r
 by_cases h1:inV s r.out_
 ·have h1':=h1
  unfold inV at h1'
  rw [iN (by omega),iN (by omega)]
  rw [lg _ _ (by have:=g.ni;omega)]
  simp only [bSq,h1,not_true_eq_false,if_false]
  by_cases h2:s.in_.contains r.out_=true
  ·rw [iP h2]
   have:(bI s i).contains r.out_=true:=by rw [mD];simp at h2 ⊢;exact .inl h2
   simp only [this,if_true]
   rfl
  ·rw [iN h2,vY (by omega) (by omega)]
   simp only [bSq]
   rw [lg _ _ (by rw [rh s (by omega)];omega)]
   simp only [bSq]
   by_cases h3:(kC s i).contains r.out_=true
   ·rw [iP h3]
    have:(bI s i).contains r.out_=true:=by rw [mD];simp at h3 ⊢;exact .inr h3
    simp only [this,if_true]
    rfl
   ·rw [iN h3]
    have:(bI s i).contains r.out_=false:=by rw [mD];simp at h2 h3 ⊢;exact ⟨h2,h3⟩
    simp only [this,Bool.false_eq_true,if_false,zf,bSq]
    by_cases h4:aH r.op<0
    ·rw [iP h4]
     simp only [h4,true_or,if_true]
     rfl
    ·rw [iN h4]
     by_cases h5:(r.a.length:Int)=aH r.op
     ·rw [iN (fun hc=>hc h5.symm)]
      have h45:¬ (aH r.op<0∨¬ (r.a.length:Int)=aH r.op):=fun hc=>hc.elim h4 (fun h=>h h5)
      simp only [iN h45]
      have hle:=pD r.op
      by_cases h6:(r.e.length:Int)>24
      ·rw [iP h6]
       simp only [iP h6]
       rfl
      ·rw [iN h6]
       simp only [iN h6]
       rw [su r (by omega) (by omega)]
       simp only [bSq]
       have hul:=t8 r
       rw [bW (cX r).length (fun k=>if inV s ((cX r).getD k default) then none else some (an.mk 16 (i:Int))) () (fun k hk=>by
        unfold jt
        rw [iP (ltI hk),iP (inI hk)]
        simp only [tN,zg,bSq]
        rw [wrs k (by omega)]
        by_cases hc:inV s ((cX r).getD k default)
        ·have hc':=hc
         unfold inV at hc'
         rw [iN (by omega),iN (by omega),iP hc]
        ·rw [iN hc]
         rcases (uD s _).1 hc with h|h
         ·rw [iP h]
         ·by_cases h':(cX r).getD k default<0
          ·rw [iP h']
          ·rw [iN h',iP h]) (by unfold jt;rw [iN (aW _)])]
       rw [tj (cX r) (fun x=>inV s x)]
       by_cases h7:∃ x∈cX r,¬ inV s x
       ·simp only [iP h7];rfl
       ·simp only [iN h7,bSq,Sum.elim_inl]
        unfold gV
        simp only [tN,hR]
        obtain ⟨_,f2⟩:=zd (c:=0) g.v (vX h1 h6 h7) h4 h5
        cases hf:aA s r with
        |none=>exact absurd hf f2
        |some b =>
         cases b
         ·simp only [bSq,zg];rfl
         ·simp only [bSq,if_true]
          unfold js
          rw [wrs i (by omega)]
     ·rw [iP (fun hc=>h5 hc.symm)]
      have h45:aH r.op<0∨¬ (r.a.length:Int)=aH r.op:=.inr h5
      simp only [iP h45]
      rfl
 ·simp only [h1,not_false_eq_true,if_true]
  rcases (uD s _).1 h1 with h|h
  ·rw [iP h];rfl
  ·by_cases h':r.out_<0
   ·rw [iP h'];rfl
   ·rw [iN h',iP h];rfl
theorem CP{s:ab}(g:nq s)(hr:∀ i,i<s.rules.length→lD s i=none) :
  aM (fun x=>gT s (kC s s.rules.length) x) 0=some (dG s.rules.length (np s) ()):=by
 have hnr:=g.nr
 refine bW s.rules.length (np s) () (fun i hi=>?_) ?_
 ·have h0:=hr i hi
  unfold lD at h0
  have h0':mf s (bI s i) (s.rules.getD i default)=0:=by
   by_cases h:mf s (bI s i) (s.rules.getD i default)=0
   ·exact h
   ·simp only [iN h] at h0;cases h0
  obtain ⟨gr,hu,ha,_⟩:=oi h0'
  have he:=gr.e
  unfold gT np
  rw [iP (ltI hi),iP (inI hi)]
  simp only [tN]
  generalize hR:s.rules.getD i default=r at *
  rw [su r (by omega) (by omega)]
  simp only [bSq]
  have hul:=t8 r
  rw [bW (cX r).length (fun k=>if (cX r).getD k default∈bI s s.rules.length then none else some (an.mk 9 (i:Int))) () (fun k hk=>by
   unfold jr
   rw [iP (ltI hk),iP (inI hk)]
   simp only [tN,zg,bSq]
   rw [wrs k (by omega),lg _ _ (by have:=g.ni;omega)]
   simp only [bSq]
   rw [lg _ _ (by rw [rh s (by omega)];omega)]
   simp only [bSq]
   rw [mD]
   by_cases hc:(cX r).getD k default∈s.in_
   ·rw [iP (by simpa using hc),iP (List.mem_append.2 (.inl hc))]
   ·rw [iN (by simpa using hc)]
    by_cases hd:(cX r).getD k default∈kC s s.rules.length
    ·rw [iP (by simpa using hd),iP (List.mem_append.2 (.inr hd))]
    ·rw [iN (by simpa using hd),iN (fun h=>(List.mem_append.1 h).elim hc hd)]) (by unfold jr;rw [iN (aW _)])]
  rw [tj (cX r) (fun x=>x∈bI s s.rules.length)]
  by_cases h9:∃ x∈cX r,¬ x∈bI s s.rules.length
  ·simp only [iP h9];rfl
  ·simp only [iN h9,bSq,Sum.elim_inl]
   unfold gS
   rw [wrs i (by omega)]
 ·unfold gT;rw [iN (aW _)]
theorem Eg{s:ab}(g:nq s):aM (fun x=>gQ s (kC s s.rules.length) x) 0=some (dG s.out_.length (t6 s) ()):=by
 have hno:=g.no
 have hnr:=g.nr
 refine bW s.out_.length (t6 s) () (fun i hi=>?_) ?_
 ·unfold gQ t6
  rw [iP (ltI hi),iP (inI hi)]
  simp only [tN,zg,bSq]
  rw [wrs i (by omega),lg _ _ (by have:=g.ni;omega)]
  simp only [bSq]
  rw [lg _ _ (by rw [rh s (by omega)];omega)]
  simp only [bSq]
  rw [mD]
  by_cases hc:s.out_.getD i default∈s.in_
  ·rw [iP (by simpa using hc),iP (List.mem_append.2 (.inl hc))]
  ·rw [iN (by simpa using hc)]
   by_cases hd:s.out_.getD i default∈kC s s.rules.length
   ·rw [iP (by simpa using hd),iP (List.mem_append.2 (.inr hd))]
   ·rw [iN (by simpa using hd),iN (fun h=>(List.mem_append.1 h).elim hc hd)]
 ·unfold gQ;rw [iN (aW _)]
theorem zi(s:ab):lV s=some (eY s):=by
 unfold lV eY
 rw [Ak]
 simp only [bSq]
 by_cases h:(nn s).code=0
 ·have g:=t7 h
  simp only [h,not_true_eq_false,if_false]
  rw [bW s.rules.length (lD s) () (fun i hi=>by rw [CO g hi];cases lD s i<;>rfl) (by unfold gW;rw [iN (aW _)])]
  simp only [bSq]
  rcases cS s.rules.length (lD s) () with ⟨e,h1⟩|⟨j,z,hj,hf,e⟩
  ·rw [e]
   simp only [Sum.elim_inl]
   unfold gU
   rw [vY (Nat.le_refl _) (by have:=g.nr;omega)]
   simp only [bSq]
   rw [CP g h1]
   simp only [bSq]
   cases dG s.rules.length (np s) () with
   |inr z=>rfl
   |inl u =>
    simp only [Sum.elim_inl]
    unfold gR
    rw [Eg g]
    simp only [bSq]
    cases dG s.out_.length (t6 s) ()<;>rfl
  ·rw [e];rfl
 ·simp only [h,not_false_eq_true,if_true]
structure gg (s:ab):Prop where
 h:nq s
 r:∀ i,i<s.rules.length→mf s (bI s i) (s.rules.getD i default)=0
 u:∀ i,i<s.rules.length→∀ x∈cX (s.rules.getD i default),x∈bI s s.rules.length
 o:∀ x∈s.out_,x∈bI s s.rules.length
theorem mE{s:ab}(h:(eY s).code=0):gg s∧eY s=an.mk 0 0:=by
 unfold eY at h ⊢
 by_cases h0:(nn s).code=0
 ·simp only [h0,not_true_eq_false,if_false] at h ⊢
  have g:=t7 h0
  rcases cS s.rules.length (lD s) () with ⟨e1,h1⟩|⟨j,z,hj,hf,e⟩
  ·simp only [e1] at h ⊢
   rcases cS s.rules.length (np s) () with ⟨e2,h2⟩|⟨j,z,hj,hf,e⟩
   ·simp only [e2] at h ⊢
    rcases cS s.out_.length (t6 s) () with ⟨e3,h3⟩|⟨j,z,hj,hf,e⟩
    ·simp only [e3]
     refine ⟨⟨g,fun i hi=>?_,fun i hi x hx=>?_,fun x hx=>?_⟩,trivial⟩
     ·have:=h1 i hi
      unfold lD at this
      by_cases hc:mf s (bI s i) (s.rules.getD i default)=0
      ·exact hc
      ·simp only [iN hc] at this;cases this
     ·have:=h2 i hi
      unfold np at this
      refine Classical.byContradiction fun hc=>?_
      rw [iP ⟨x,hx,hc⟩] at this
      cases this
     ·obtain ⟨i,hi,rfl⟩:=List.mem_iff_getElem.1 hx
      have:=h3 i hi
      unfold t6 at this
      have e2:s.out_.getD i default=s.out_[i]:=by simp [List.getD,hi]
      rw [e2] at this
      refine Classical.byContradiction fun hc=>?_
      rw [iN hc] at this
      cases this
    ·simp only [e] at h
     unfold t6 at hf
     split at hf
     ·cases hf
     ·simp only [sJ] at hf;subst hf;cases h
   ·simp only [e] at h
    unfold np at hf
    split at hf
    ·simp only [sJ] at hf;subst hf;cases h
    ·cases hf
  ·simp only [e] at h
   unfold lD at hf
   by_cases hc:mf s (bI s j) (s.rules.getD j default)=0
   ·simp only [iP hc] at hf;cases hf
   ·simp only [iN hc,sJ] at hf;subst hf;exact absurd h hc
 ·simp only [h0,not_false_eq_true,if_true] at h
def bU(r:ae):List Int:=if r.op=13∧(r.a.length:Int)=2 then [r.a.getD 0 default] else cX r
theorem vZ{r:ae}{x:Int}(h:x∈bU r):x∈cX r:=by
 unfold bU at h
 split at h
 ·rename_i hc
  simp only [List.mem_singleton] at h
  subst h
  exact lC (aI (by omega))
 ·exact h
theorem v8(r:ae):(bU r).length≤r.a.length+r.e.length:=by
 unfold bU
 split
 ·simp;omega
 ·exact t8 r
theorem CQ(r:ae)(ha:r.a.length≤100000)(he:r.e.length≤100000):mO r=some (bU r):=by
 have j1:gF r=some (cX r):=by
  unfold gF cX
  by_cases h:r.op<14
  ·rw [iP h,iP h]
   unfold gE
   rw [pZ _ (by simp only;omega) (by simp)]
   rfl
  ·rw [iN h,iN h]
   unfold gE
   rw [pZ _ (by simp only;omega) (by simp only;omega)]
   rfl
 unfold mO bU
 by_cases h1:r.op=13
 ·rw [iP h1]
  by_cases h2:(r.a.length:Int)=2
  ·rw [iP h2,iP (by omega),iP ⟨h1,h2⟩];rfl
  ·rw [iN h2,iN (fun h=>h2 h.2),j1]
 ·rw [iN h1,iN (fun h=>h1 h.1),j1]
theorem zj(r:ae)(ha:r.a.length≤100000)(he:r.e.length≤100000):pt r=some (bU r):=by
 have j1:je r=some (cX r):=by
  unfold je
  rw [su r ha he]
  rfl
 unfold pt bU
 by_cases h1:r.op=13
 ·rw [iP h1]
  by_cases h2:(r.a.length:Int)=2
  ·rw [iP h2,iP (by omega),iP ⟨h1,h2⟩];rfl
  ·rw [iN h2,iN (fun h=>h2 h.2),j1]
 ·rw [iN h1,iN (fun h=>h1 h.1),j1]
def oP(l:List Int)(r:ae):Prop:=∀ x∈bU r,x∈l
instance (l:List Int) (r:ae):Decidable (oP l r):=inferInstanceAs (Decidable (∀ x∈bU r,x∈l))
theorem CR{s:ab}{l:List Int}{r:ae}{a:List ap}{b c:List Int}{d:List ae}(hu:∀ x∈bU r,inV s x)(ha:r.a.length≤1000)(he:r.e.length≤1000) :
  gG r a b c d (cT s l)=some (decide (oP l r)):=by
 unfold gG
 rw [CQ r (by omega) (by omega)]
 simp only [bSq]
 unfold eu eH
 have hn:=v8 r
 rw [bW (bU r).length (fun k=>if (bU r).getD k default∈l then none else some (k:Int)) () (fun k hk=>by
  have gk:=hu _ (aI hk)
  have gk':=gk
  unfold inV at gk'
  unfold cZ ik
  rw [iP (ltI hk),iP (inI hk)]
  simp only [tN]
  rw [i1,iP gk',wrs k (by omega)]
  simp only [bSq]
  by_cases hc:(bU r).getD k default∈l
  ·rw [(nM gk).2 hc,iP hc];rfl
  ·have:(cT s l).getD ((bU r).getD k default).toNat default=false:=by
    cases hh:(cT s l).getD ((bU r).getD k default).toNat default
    ·rfl
    ·exact absurd ((nM gk).1 hh) hc
   rw [this,iN hc];rfl) (by unfold cZ;rw [iN (aW _)])]
 rcases cS (bU r).length (fun k=>if (bU r).getD k default∈l then none else some (k:Int)) () with ⟨e,h⟩|⟨j,z,hj,hf,e⟩
 ·rw [e]
  have:oP l r:=by
   intro x hx
   obtain ⟨i,hi,rfl⟩:=List.mem_iff_getElem.1 hx
   have:=h i hi
   have e2:(bU r).getD i default=(bU r)[i]:=by simp [List.getD,hi]
   rw [e2] at this
   refine Classical.byContradiction fun hc=>?_
   rw [iN hc] at this;cases this
  simp only [this,decide_true]
  rfl
 ·rw [e]
  split at hf
  ·cases hf
  ·rename_i hc
   simp only [sJ] at hf
   have:¬ oP l r:=fun h=>hc (h _ (aI hj))
   simp only [this,decide_false,← hf]
   simp only [bSq,Sum.elim_inr]
   simp
def kB(s:ab):Prop:=∀ i,i<s.rules.length→oP (bI s i) (s.rules.getD i default)
instance (s:ab):Decidable (kB s):=inferInstanceAs (Decidable (∀ i,i<s.rules.length→oP (bI s i) (s.rules.getD i default)))
theorem gg.rule{s:ab}(g:gg s){i:Nat}(hi:i<s.rules.length):ki s (s.rules.getD i default)∧(∀ x∈cX (s.rules.getD i default),inV s x)∧(s.rules.getD i default).a.length≤3∧¬ (bI s i).contains (s.rules.getD i default).out_=true∧¬ aH (s.rules.getD i default).op<0∧((s.rules.getD i default).a.length:Int)=aH (s.rules.getD i default).op:=by
 obtain ⟨h1,h2,h3,h4,h5,h6,_⟩:=oi (g.r i hi)
 exact ⟨h1,h2,h3,h4,h5,h6⟩
theorem CS{s:ab}(g:gg s):mN s=some (s.vars,s.in_,s.out_,s.rules,cT s s.in_):=by
 unfold mN
 rw [iP ⟨by omega,vP _ (by have:=g.h.nv;omega)⟩,xq]
 have:=e8 (S:=List Bool×Int) (T:=List Bool) (fun i=>(cT s (s.in_.take i),(i:Int))) (body:=fun x=>eG s x.1 x.2) s.in_.length (cT s s.in_)
  (by
   intro i hi
   show eG s (cT s (s.in_.take i)) (i:Int)=_
   have gi:=g.h.i _ (aI hi)
   have gi':=gi
   unfold inV at gi'
   unfold eG
   rw [iP (ltI hi),iP (inI hi)]
   simp only [tN]
   rw [i1,iP gi',rg gi,wrs i (by have:=g.h.ni;omega),b8 _ hi])
  (by
   show eG s (cT s (s.in_.take s.in_.length)) (s.in_.length:Int)=_
   unfold eG
   rw [iN (aW _),List.take_length])
 show (aM (fun (x:List Bool×Int)=>eG s x.1 x.2) (cT s [],0)).bind (fun z=>iT s z)=_
 rw [show s.in_.take 0=[] from rfl,show ((0:Nat):Int)=0 from rfl] at this
 rw [this]
 rfl
theorem zk{T:Type}(p:T→Bool):∀ (l:List T) (b:Bool),l.foldl (fun b x=>b || p x) b=(b || l.any p)
 |[],b=>by simp
 |x :: l,b=>by rw [List.foldl_cons,zk p l];simp [Bool.or_assoc]
theorem pE{s:ab}(g:gg s){i:Nat}(hi:i<s.rules.length):¬ (s.rules.getD i default).out_∈bI s i:=fun h=>(g.rule hi).2.2.2.1 (List.contains_iff_mem.2 h)
theorem CY(s:ab)(x:Int){i:Nat}(hi:i≤s.rules.length):x∈kC s i↔∃ k,k<i∧(s.rules.getD k default).out_=x:=by
 induction i with
 |zero=>simp [kC]
 |succ i ih =>
  have e2:kC s (i+1)=kC s i++[(s.rules.getD i default).out_]:=by unfold kC;rw [b8 _ (by omega),List.map_append];rfl
  rw [e2,List.mem_append,ih (by omega),List.mem_singleton]
  constructor
  ·rintro (⟨k,hk,h⟩|h)
   ·exact ⟨k,by omega,h⟩
   ·exact ⟨i,by omega,h.symm⟩
  ·rintro ⟨k,hk,h⟩
   by_cases e:k=i
   ·subst e;exact .inr h.symm
   ·exact .inl ⟨k,by omega,h⟩
theorem mh(s:ab)(x:Int){i:Nat}(hi:i≤s.rules.length):x∈bI s i↔x∈s.in_∨∃ k,k<i∧(s.rules.getD k default).out_=x:=by
 rw [mD,List.mem_append,CY s x hi]
theorem zm{s:ab}(g:gg s){i k:Nat}(hi:i<s.rules.length)(hk:k<s.rules.length)(h:(s.rules.getD k default).out_=(s.rules.getD i default).out_):k=i:=by
 rcases Nat.lt_trichotomy k i with hh|hh|hh
 ·exact absurd ((mh s _ (by omega)).2 (.inr ⟨k,hh,h⟩)) (pE g hi)
 ·exact hh
 ·exact absurd ((mh s _ (by omega)).2 (.inr ⟨i,hh,h.symm⟩)) (pE g hk)
theorem BR{s:ab}(g:gg s){i:Nat}(hi:i<s.rules.length):¬ (s.rules.getD i default).out_∈s.in_:=fun h =>
 pE g hi ((mh s _ (by omega)).2 (.inl h))
theorem tn{α:Type}[Inhabited α]{l:List α}{i:Nat}(h:i<l.length):l.getD i default=l[i]:=by simp [List.getD,h]
def dI(d:List Nat):List Int:=d.map (fun (k:Nat)=>(k:Int))
theorem sx(d:List Nat):(dI d).length=d.length:=by unfold dI;simp
theorem wc{d:List Nat}{k:Nat}(h:k<d.length):(dI d).getD k default=((d.getD k default:Nat):Int):=by simp [dI,List.getD,h]
theorem Ft(d e:List Nat):dI (d++e)=dI d++dI e:=by simp [dI]
theorem yn{d:List Nat}{k:Nat}:(k:Int)∈dI d↔k∈d:=by
 unfold dI
 rw [List.mem_map]
 constructor
 ·rintro ⟨a,h,e⟩
  have:a=k:=by omega
  exact this ▸ h
 ·intro h;exact ⟨k,h,rfl⟩
def lj(s:ab)(d:List Nat):List Int:=s.in_++d.map (fun k=>(s.rules.getD k default).out_)
theorem CZ(s:ab)(d:List Nat)(i:Nat):lj s (d++[i])=lj s d++[(s.rules.getD i default).out_]:=by simp [lj]
theorem C3(s:ab):lj s []=s.in_:=by simp [lj]
theorem qP{s:ab}{d:List Nat}{x:Int}:x∈lj s d↔x∈s.in_∨∃ k,k∈d∧(s.rules.getD k default).out_=x:=by
 unfold lj
 rw [List.mem_append,List.mem_map]
def to(s:ab)(d:List Nat)(i:Nat):Bool:=decide (oP (lj s d) (s.rules.getD i default))
def bz(s:ab):List Nat:=mg s.rules.length (to s)
theorem C4(s:ab)(y:Int):∀ d:List Nat,(dI d).any (fun x=>(s.rules.getD x.toNat default).out_ == y)=(d.map (fun k=>(s.rules.getD k default).out_)).contains y
 |[]=>by simp [dI]
 |k :: d=>by
  have ih:=C4 s y d
  unfold dI at ih ⊢
  rw [List.map_cons,List.any_cons,ih,List.map_cons,List.contains_cons,tN]
  congr 1
  exact Bool.beq_comm
theorem Ej{s:ab}{r:ae}{d:List Nat}(hd:∀ k∈d,k<s.rules.length)(hl:d.length≤100000)(hn:s.rules.length≤100000)(hin:s.in_.length≤100000)(ha:r.a.length≤1000)(he:r.e.length≤1000) :
  pu s r (dI d)=some (decide (oP (lj s d) r)):=by
 unfold pu
 rw [zj r (by omega) (by omega)]
 simp only [bSq]
 have hnl:=v8 r
 have hbl:(dI d).length=d.length:=sx d
 have inner:∀ (k:Nat) (b:Bool),aM (fun (x:Bool×Int)=>fG s (dI d) (bU r) (k:Int) x.1 x.2) (b,0)=some (b || (d.map (fun k=>(s.rules.getD k default).out_)).contains ((bU r).getD k default)):=by
  intro k b
  obtain ⟨h1,_⟩:=nL (A:=Bool) (T:=Int) (O:=Bool) (S:=Bool×Int) (fun a i=>(a,i)) (body:=fun x=>fG s (dI d) (bU r) (k:Int) x.1 x.2) (dI d)
   (fun b x=>b || (s.rules.getD x.toNat default).out_ == (bU r).getD k default) (fun _ _=>True) (fun a=>a) b trivial
   (by
    intro j a hj _
    refine ⟨?_,trivial⟩
    show fG s (dI d) (bU r) (k:Int) a (j:Int)=_
    unfold fG
    rw [iP (ltI hj),wrs j (by omega)]
    have hj2:j<d.length:=by omega
    cases a
    ·have e:=wc hj2
     have hb:=hd _ (aI hj2)
     simp only [Bool.false_eq_true,if_false,tN,e]
     rw [iP ⟨inI hj,by omega⟩]
     simp
    ·simp)
   (by
    intro a _
    show fG s (dI d) (bU r) (k:Int) a ((dI d).length:Int)=_
    unfold fG
    rw [iN (aW _)])
  rw [h1,zk,C4 s _ d]
 rw [bW (bU r).length (fun k=>if (bU r).getD k default∈lj s d then none else some false) () (fun k hk=>by
  unfold lY
  rw [iP (ltI hk),iP (inI hk)]
  simp only [tN]
  rw [lg _ _ (by omega)]
  simp only [bSq]
  show (aM (fun (x:Bool×Int)=>fG s (dI d) (bU r) (k:Int) x.1 x.2) (s.in_.contains ((bU r).getD k default),0)).bind (fun z13=>jf (k:Int) z13)=_
  rw [inner]
  simp only [bSq]
  unfold jf lX
  rw [wrs k (by omega)]
  by_cases hc:(bU r).getD k default∈lj s d
  ·have:(s.in_.contains ((bU r).getD k default) || (d.map (fun k=>(s.rules.getD k default).out_)).contains ((bU r).getD k default))=true:=by
    rcases List.mem_append.1 hc with h|h
    ·rw [List.contains_iff_mem.2 h];rfl
    ·rw [List.contains_iff_mem.2 h,Bool.or_true]
   rw [this,iP hc];rfl
  ·have:(s.in_.contains ((bU r).getD k default) || (d.map (fun k=>(s.rules.getD k default).out_)).contains ((bU r).getD k default))=false:=by
    rw [Bool.or_eq_false_iff]
    constructor
    ·cases hq:s.in_.contains ((bU r).getD k default)
     ·rfl
     ·exact absurd (List.mem_append.2 (.inl (List.contains_iff_mem.1 hq))) hc
    ·cases hq:(d.map (fun k=>(s.rules.getD k default).out_)).contains ((bU r).getD k default)
     ·rfl
     ·exact absurd (List.mem_append.2 (.inr (List.contains_iff_mem.1 hq))) hc
   rw [this,iN hc];rfl) (by unfold lY;rw [iN (aW _)])]
 rw [tj (bU r) (fun x=>x∈lj s d)]
 by_cases h:oP (lj s d) r
 ·have:¬ ∃ x∈bU r,¬ x∈lj s d:=fun ⟨x,h1,h2⟩=>h2 (h x h1)
  simp only [iN this,h,decide_true]
  rfl
 ·have:∃ x∈bU r,¬ x∈lj s d:=Classical.byContradiction fun hc=>h (fun x hx=>Classical.byContradiction fun hd=>hc ⟨x,hx,hd⟩)
  simp only [iP this,h,decide_false]
  rfl
theorem BS{l l':List Int}{r:ae}(h:oP l r)(hl:∀ x,x∈l→x∈l'):oP l' r:=fun x hx=>hl x (h x hx)
theorem xv{A T Z:Type}(P:T→Prop)(f:Nat→A→T→A ⊕ Z)(h:∀ i a x a',f i a x=.inl a'→P x):∀ (l:List T) (i:Nat) (a b:A),oe f i l a=.inl b→∀ x∈l,P x
 |[],i,a,b,_,x,hx=>by cases hx
 |y :: l,i,a,b,he,x,hx=>by
  rw [oe] at he
  cases hf:f i a y with
  |inr z=>rw [hf] at he;cases he
  |inl a' =>
   rw [hf] at he
   rcases List.mem_cons.1 hx with rfl|hx
   ·exact h _ _ _ _ hf
   ·exact xv P f h l _ _ _ he x hx
theorem uc{A T Z:Type}(P:Z→Prop)(f:Nat→A→T→A ⊕ Z)(h:∀ i a x z,f i a x=.inr z→P z):∀ (l:List T) (i:Nat) (a:A) (z:Z),oe f i l a=.inr z→P z
 |[],i,a,z,he=>by cases he
 |y :: l,i,a,z,he=>by
  rw [oe] at he
  cases hf:f i a y with
  |inr z'=>rw [hf] at he;simp only [Sum.inr.injEq] at he;subst he;exact h _ _ _ _ hf
  |inl a'=>rw [hf] at he;exact uc P f h l _ _ _ he
structure we (s:ab) (m:Nat):Prop where
 nv:s.vars.length≤m
 nr:s.rules.length≤m
 ni:s.in_.length≤m
 no:s.out_.length≤m
 r:∀ r∈s.rules,r.a.length≤100∧r.e.length≤1000
theorem C5(s:ab)(m:Nat)(hm:m≤100000):∃ b,jo s (m:Int)=some b∧(b=false→we s m):=by
 unfold jo
 by_cases h1:(s.vars.length:Int)>m
 ·rw [iP h1];exact ⟨true,rfl,fun h=>by cases h⟩
 rw [iN h1]
 by_cases h2:(s.rules.length:Int)>m
 ·rw [iP h2];exact ⟨true,rfl,fun h=>by cases h⟩
 rw [iN h2]
 by_cases h3:(s.in_.length:Int)>m
 ·rw [iP h3];exact ⟨true,rfl,fun h=>by cases h⟩
 rw [iN h3]
 by_cases h4:(s.out_.length:Int)>m
 ·rw [iP h4];exact ⟨true,rfl,fun h=>by cases h⟩
 rw [iN h4]
 obtain ⟨e1,_⟩:=pY (A:=Int) (T:=ap) (O:=Int) (Z:=Bool) (S:=Int×Int) (fun a i=>(a,i)) (body:=fun x=>dj s x.1 x.2) s.vars
  (fun _ a v=>if v.n>1000 then .inr true else .inl (IntKind.wrap .i64 (a+d9 v.n))) (fun _ _=>True) (fun a=>a) 0 trivial
  (by
   intro i a hi _
   refine ⟨?_,fun _ _=>trivial⟩
   show dj s a (i:Int)=_
   unfold dj
   rw [iP (ltI hi),iP (inI hi)]
   simp only [tN,bC,bSq]
   rw [wrs i (by omega)]
   by_cases h:(s.vars.getD i default).n>1000
   ·rw [iP h,iP h]
   ·rw [iN h,iN h])
  (by
   intro a _
   show dj s a (s.vars.length:Int)=_
   unfold dj
   rw [iN (aW _)])
 show ∃ b,(aM (fun (x:Int×Int)=>dj s x.1 x.2) (0,0)).bind (Sum.elim (fun z18=>d8 s m z18) (fun z19=>some z19))=some b∧_
 rw [e1]
 simp only [bSq]
 cases hE:oe (fun _ a v=>if v.n>1000 then .inr true else .inl (IntKind.wrap .i64 (a+d9 v.n))) 0 s.vars (0:Int) with
 |inr z =>
  refine ⟨z,rfl,fun hz=>?_⟩
  have:=uc (fun z=>z=true) _ (fun i a x z h=>by
   split at h
   ·simp only [Sum.inr.injEq] at h;exact h.symm
   ·cases h) _ _ _ _ hE
  rw [hz] at this;cases this
 |inl a0 =>
  simp only [Sum.elim_inl]
  unfold d8
  obtain ⟨e2,_⟩:=pY (A:=Int) (T:=ae) (O:=Int) (Z:=Bool) (S:=Int×Int) (fun a i=>(a,i)) (body:=fun x=>di s x.1 x.2) s.rules
   (fun _ a r=>if (r.a.length:Int)>100∨(r.e.length:Int)>1000∨(r.op=15∧r.n>1000) then .inr true else .inl (IntKind.wrap .i64 (a+IntKind.wrap .i64 ((r.a.length:Int)+(r.e.length:Int))))) (fun _ _=>True) (fun a=>a) a0 trivial
   (by
    intro i a hi _
    refine ⟨?_,fun _ _=>trivial⟩
    show di s a (i:Int)=_
    unfold di fh
    rw [iP (ltI hi),iP (inI hi)]
    simp only [tN]
    rw [wrs i (by omega)]
    by_cases h1:((s.rules.getD i default).a.length:Int)>100
    ·rw [iP h1,iP (.inl h1)]
    ·rw [iN h1]
     by_cases h2:((s.rules.getD i default).e.length:Int)>1000
     ·rw [iP h2,iP (.inr (.inl h2))]
     ·rw [iN h2]
      by_cases h3:(s.rules.getD i default).op=15
      ·rw [iP h3]
       by_cases h4:(s.rules.getD i default).n>1000
       ·rw [iP h4,iP (.inr (.inr ⟨h3,h4⟩))]
       ·rw [iN h4,iN (fun h=>h.elim h1 (fun h=>h.elim h2 (fun h=>h4 h.2)))]
      ·rw [iN h3,iN (fun h=>h.elim h1 (fun h=>h.elim h2 (fun h=>h3 h.1)))])
   (by
    intro a _
    show di s a (s.rules.length:Int)=_
    unfold di
    rw [iN (aW _)])
  show ∃ b,(aM (fun (x:Int×Int)=>di s x.1 x.2) (a0,0)).bind (Sum.elim (fun z9=>fg m z9) (fun z10=>some z10))=some b∧_
  rw [e2]
  simp only [bSq]
  cases hF:oe (fun _ a r=>if (r.a.length:Int)>100∨(r.e.length:Int)>1000∨(r.op=15∧r.n>1000) then .inr true else .inl (IntKind.wrap .i64 (a+IntKind.wrap .i64 ((r.a.length:Int)+(r.e.length:Int))))) 0 s.rules a0 with
  |inr z =>
   refine ⟨z,rfl,fun hz=>?_⟩
   have:=uc (fun z=>z=true) _ (fun i a x z h=>by
    split at h
    ·simp only [Sum.inr.injEq] at h;exact h.symm
    ·cases h) _ _ _ _ hF
   rw [hz] at this;cases this
  |inl a1 =>
   have hR:=xv (fun r:ae=>r.a.length≤100∧r.e.length≤1000) _ (fun i a x a' h=>by
    split at h
    ·cases h
    ·rename_i hc
     have h1:¬ (x.a.length:Int)>100:=fun h=>hc (.inl h)
     have h2:¬ (x.e.length:Int)>1000:=fun h=>hc (.inr (.inl h))
     omega) _ _ _ _ hF
   exact ⟨_,rfl,fun _=>⟨by omega,by omega,by omega,by omega,hR⟩⟩
theorem qQ(r:ae)(h:r.a.length≤100∧r.e.length≤1000):jd r=some r:=by
 unfold jd
 have hm:maxLen=9223372036854775807:=rfl
 rw [iP (by unfold cw;omega),iP (by unfold cw;omega)]
theorem Ek{s:ab}{m:Nat}(h:we s m)(hm:m≤100000):kc s=some s:=by
 unfold kc
 have hx:maxLen=9223372036854775807:=rfl
 have h1:=h.nv
 have h2:=h.nr
 have h3:=h.ni
 have h4:=h.no
 rw [iP ⟨by unfold cw;omega,by unfold cw;omega,by unfold cw;omega⟩]
 have:=e8 (S:=List ae×Int) (T:=List ae) (fun i=>(s.rules.take i,(i:Int))) (body:=fun x=>dx s x.1 x.2) s.rules.length s.rules
  (by
   intro i hi
   show dx s (s.rules.take i) (i:Int)=_
   unfold dx
   rw [iP (ltI hi),iP (inI hi)]
   simp only [tN]
   rw [qQ _ (h.r _ (aI hi))]
   simp only [bSq]
   rw [iP (by unfold cw;simp;omega),wrs i (by omega),b8 _ hi]
   rfl)
  (by
   show dx s (s.rules.take s.rules.length) (s.rules.length:Int)=_
   unfold dx
   rw [iN (aW _),List.take_length])
 show (aM (fun x=>dx s x.1 x.2) ([],0)).bind (fun z21=>fQ s z21)=_
 have e0:s.rules.take 0=[]:=rfl
 rw [e0] at this
 rw [show ((0:Nat):Int)=0 from rfl] at this
 rw [this]
 rfl
theorem wg{s:ab}(g:gg s){l:List Int}{L:List Nat}(hL:∀ k∈L,k<s.rules.length)(hl:L.length≤100000){a:List ap}{b c:List Int}{d:List ae} :
  ∃ z,dq (dI L) s a b c d (cT s l)=some z∧((z = -1∧∀ i,i<L.length→decide (oP l (s.rules.getD (L.getD i default) default))=false) ∨
   ∃ j,j<L.length∧z=(j:Int)∧decide (oP l (s.rules.getD (L.getD j default) default))=true∧∀ i,i<j→decide (oP l (s.rules.getD (L.getD i default) default))=false):=by
 unfold dq
 have hbl:=sx L
 rw [bW (dI L).length (fun k=>if decide (oP l (s.rules.getD (L.getD k default) default))=true then some (k:Int) else none) () (fun k hk=>by
  have hk2:k<L.length:=by omega
  have hb:=hL _ (aI hk2)
  obtain ⟨gr,hu,ha,_⟩:=g.rule hb
  have he:=gr.e
  unfold dw ny
  rw [iP (ltI hk),iP (inI hk),wrs k (by omega)]
  simp only [tN]
  rw [wc hk2,iP (inI hb),tN,CR (fun x hx=>hu x (vZ hx)) (by omega) (by omega)]
  simp only [bSq]
  cases decide (oP l (s.rules.getD (L.getD k default) default))<;>rfl) (by unfold dw;rw [iN (aW _)])]
 rcases CX (dI L).length (fun k=>if decide (oP l (s.rules.getD (L.getD k default) default))=true then some (k:Int) else none) () with ⟨e,h⟩|⟨j,z,hj,hz,hm,e⟩
 ·rw [e]
  refine ⟨-1,rfl,.inl ⟨rfl,fun i hi=>?_⟩⟩
  have:=h i (by omega)
  cases hq:decide (oP l (s.rules.getD (L.getD i default) default))
  ·rfl
  ·simp only [hq,if_true] at this;cases this
 ·rw [e]
  refine ⟨z,rfl,.inr ⟨j,by omega,?_⟩⟩
  cases hq:decide (oP l (s.rules.getD (L.getD j default) default))
  ·simp only [hq] at hz;cases hz
  ·simp only [hq,if_true,sJ] at hz
   refine ⟨hz.symm,rfl,fun i hi=>?_⟩
   have:=hm i hi
   cases hq2:decide (oP l (s.rules.getD (L.getD i default) default))
   ·rfl
   ·simp only [hq2,if_true] at this;cases this
theorem om{n b:Nat}(h:n≤200000)(hb:b≤1000):cw n b:=by
 have hx:maxLen=9223372036854775807:=rfl
 have:n * b≤200000 * 1000:=Nat.mul_le_mul h hb
 unfold cw
 omega
theorem ud(l:List Int)(h:l.length≤100000):co l=some l:=by
 unfold co
 by_cases h0:l=[]
 ·rw [iP h0,h0]
 ·rw [iN h0,iP (om (by omega) (by omega))]
theorem xw{T:Type}(l:List T)(b:Nat)(h:l.length≤100000)(hb:b≤1000)[Decidable (l=[])]:(if l=[] then some [] else (if cw l.length b then some l else none))=some l:=by
 by_cases h0:l=[]
 ·rw [iP h0,h0]
 ·rw [iN h0,iP (om (by omega) hb)]
theorem Fu(r:ae)(ha:r.a.length≤1000)(he:r.e.length≤1000):pk r=some r:=by
 unfold pk dD
 rw [ud _ (by omega)]
 simp only [bSq]
 rw [xw r.e 32 (by omega) (by omega)]
 rfl
def lE(s:ab):ab:=ab.mk s.vars s.in_ s.out_ ((bz s).map (fun k=>s.rules.getD k default))
def noS:ab:=ab.mk [] [] [] []
def qR(s:ab):ab×an:=if (bz s).length=s.rules.length then (lE s,an.mk 0 0) else (noS,an.mk 15 (((cA s.rules.length (bz s)).getD 0 default:Nat):Int))
theorem oH{s:ab}{k:Nat}(h:k∈bz s):k<s.rules.length:=Eh h
theorem u5(s:ab):(bz s).length≤s.rules.length:=ym
theorem qc(s:ab):(bz s).Nodup:=As
theorem wh{s:ab}{k:Nat}(hk:k<(bz s).length):jM s.rules.length (to s) ((bz s).take k)=some ((bz s).getD k default):=CW hk
theorem zn(s:ab):jM s.rules.length (to s) (bz s)=none:=CT
theorem El{s:ab}{k i:Nat}(h:i∈(bz s).take k):i<s.rules.length:=oH (List.mem_of_mem_take h)
theorem Fv{L:List Nat}{j:Nat}:xU (dI L) j (j+1)=dI (L.take j++L.drop (j+1)):=by
 unfold xU dI
 rw [List.map_append,List.map_take,List.map_drop]
theorem Em(s:ab)(hn:s.rules.length≤100000):aM (fun (x:List Int×Int)=>ew s x.1 x.2) (List.replicate s.rules.length 0,0)=some (dI (cA s.rules.length [])):=by
 have:=e8 (S:=List Int×Int) (T:=List Int) (fun i=>(dZ s.rules.length (fun u=>if u<i then (u:Int) else 0),(i:Int))) (body:=fun x=>ew s x.1 x.2) s.rules.length (dI (cA s.rules.length []))
  (by
   intro i hi
   show ew s (dZ s.rules.length (fun u=>if u<i then (u:Int) else 0)) (i:Int)=_
   unfold ew
   rw [iP (ltI hi),jD,iP (inI hi),wrs i (by omega),tN,vU]
   congr 3
   apply kj
   intro v hv
   by_cases h:v=i
   ·subst h;simp
   ·rw [iN h]
    by_cases h2:v<i
    ·rw [iP h2,iP (by omega)]
    ·rw [iN h2,iN (by omega)])
  (by
   show ew s (dZ s.rules.length (fun u=>if u<s.rules.length then (u:Int) else 0)) (s.rules.length:Int)=_
   unfold ew
   rw [iN (aW _)]
   congr 2
   have:cA s.rules.length []=List.range s.rules.length:=by unfold cA;rw [List.filter_eq_self];intro a _;rfl
   rw [this]
   unfold dI dZ
   apply List.map_congr_left
   intro v hv
   rw [iP (List.mem_range.1 hv)])
 rw [show ((0:Nat):Int)=0 from rfl] at this
 have e:dZ s.rules.length (fun u=>if u<0 then (u:Int) else 0)=List.replicate s.rules.length 0:=by
  rw [zc]
  apply kj
  intro v _
  rw [iN (by omega)]
 rw [e] at this
 exact this
theorem BT{s:ab}(g:gg s){k:Nat}(hk:k<(bz s).length)(y:List ap×List Int×List Int×List ae×List Bool) :
  dA s y (cT s (lj s ((bz s).take k))) (dI (cA s.rules.length ((bz s).take k))) (((bz s).take k).map (fun k=>s.rules.getD k default)) =
   some (.inl (cT s (lj s ((bz s).take (k+1))),dI (cA s.rules.length ((bz s).take (k+1))),((bz s).take (k+1)).map (fun k=>s.rules.getD k default))):=by
 have hn:=g.h.nr
 have hL:∀ i∈cA s.rules.length ((bz s).take k),i<s.rules.length:=fun i hi=>(mF.1 hi).1
 have hLl:(cA s.rules.length ((bz s).take k)).length≤s.rules.length:=tk (qO _ _) hL
 have hx:=wh hk
 obtain ⟨z,hz,hc⟩:=wg g (l:=lj s ((bz s).take k)) hL (by omega) (a:=y.1) (b:=y.2.1) (c:=y.2.2.1) (d:=y.2.2.2.1)
 rcases hc with ⟨_,h⟩|⟨j,hj,rfl,h1,h2⟩
 ·have:=At (c:=to s) (d:=(bz s).take k) h
  rw [this] at hx;cases hx
 ·have:=wb (c:=to s) (d:=(bz s).take k) hj h1 h2
  rw [this] at hx
  have hx:=sI hx
  have hb:=hL _ (aI hj)
  obtain ⟨gr,hu,ha,_⟩:=g.rule hb
  have he:=gr.e
  have go:=gr.o
  have go':=go
  unfold inV at go'
  have hdl:=sx (cA s.rules.length ((bz s).take k))
  unfold dA
  rw [iP (by rw [hdl];omega),hz]
  simp only [bSq]
  rw [iN (by omega),tN,wc hj,hdl,iP ⟨inI hj,inI hb⟩,tN,Fu _ (by omega) (by omega)]
  simp only [bSq]
  have hle:=u5 s
  rw [iP (om (by simp;omega) (by omega)),i1,iP go']
  unfold gM
  rw [wrs j (by omega),iP ⟨⟨by omega,by omega,by rw [hdl];omega⟩,fun h=>by rw [h] at hdl;simp at hdl;omega⟩]
  simp only [bSq,tN]
  rw [Fv,BP hj,rg go,hx,b8 _ hk,CZ,List.map_append]
  rfl
theorem C6{s:ab}(g:gg s):iC s (s.vars,s.in_,s.out_,s.rules,cT s s.in_) (dI (cA s.rules.length []))=some (qR s):=by
 have hn:=g.h.nr
 have hni:=g.h.ni
 have hno:=g.h.no
 have hnv:=g.h.nv
 unfold iC
 have e0:lj s ((bz s).take 0)=s.in_:=by rw [List.take_zero,C3]
 have hL:∀ i∈cA s.rules.length (bz s),i<s.rules.length:=fun i hi=>(mF.1 hi).1
 have hLl:=xu (n:=s.rules.length) (qc s) (fun i hi=>oH hi)
 have hdl:=sx (cA s.rules.length (bz s))
 have key:∀ t,dA s (s.vars,s.in_,s.out_,s.rules,cT s s.in_) (cT s (lj s (bz s))) (dI (cA s.rules.length (bz s))) ((bz s).map (fun k=>s.rules.getD k default))=some (.inr t) →
   aM (fun (x:List Bool×List Int×List ae)=>dA s (s.vars,s.in_,s.out_,s.rules,cT s s.in_) x.1 x.2.1 x.2.2) (cT s s.in_,dI (cA s.rules.length []),[])=some t:=by
  intro t ht
  have:=e8 (S:=List Bool×List Int×List ae) (fun k=>(cT s (lj s ((bz s).take k)),dI (cA s.rules.length ((bz s).take k)),((bz s).take k).map (fun k=>s.rules.getD k default)))
   (body := fun x => dA s (s.vars, s.in_, s.out_, s.rules, cT s s.in_) x.1 x.2.1 x.2.2) (bz s).length t (fun i hi => BT g hi _) (by
    show dA s (s.vars,s.in_,s.out_,s.rules,cT s s.in_) (cT s (lj s ((bz s).take (bz s).length))) (dI (cA s.rules.length ((bz s).take (bz s).length))) (((bz s).take (bz s).length).map (fun k=>s.rules.getD k default))=_
    rw [List.take_length];exact ht)
  rw [e0] at this
  exact this
 show (aM (fun (x:List Bool×List Int×List ae)=>dA s (s.vars,s.in_,s.out_,s.rules,cT s s.in_) x.1 x.2.1 x.2.2) (cT s s.in_,dI (cA s.rules.length []),[])).bind _=_
 unfold qR
 by_cases hK:(bz s).length=s.rules.length
 ·rw [iP hK,key (.inl (cT s (lj s (bz s)),dI (cA s.rules.length (bz s)),(bz s).map (fun k=>s.rules.getD k default))) (by
   unfold dA
   rw [iN (by omega)])]
  show iB s (cT s (lj s (bz s))) (dI (cA s.rules.length (bz s))) ((bz s).map (fun k=>s.rules.getD k default))=_
  unfold iB d3
  rw [xw s.vars 16 (by omega) (by omega),ud _ (by omega)]
  simp only [bSq]
  rw [ud _ (by omega)]
  rfl
 ·have hle:=u5 s
  have hpos:0<(cA s.rules.length (bz s)).length:=by omega
  obtain ⟨z,hz,hc⟩:=wg g (l:=lj s (bz s)) hL (by omega) (a:=s.vars) (b:=s.in_) (c:=s.out_) (d:=s.rules)
  rw [iN hK,key (.inr (noS,an.mk 15 (((cA s.rules.length (bz s)).getD 0 default:Nat):Int))) (by
   unfold dA
   rw [iP (by omega)]
   show Option.bind (dq (dI (cA s.rules.length (bz s))) s s.vars s.in_ s.out_ s.rules (cT s (lj s (bz s)))) _=_
   rw [hz]
   rcases hc with ⟨rfl,h⟩|⟨j,hj,rfl,h1,h2⟩
   ·simp only [bSq]
    rw [iP (by omega),iP ⟨by omega,by omega⟩,wc hpos]
    rfl
   ·have:=wb (c:=to s) (d:=bz s) hj h1 h2
    rw [zn] at this;cases this)]
  rfl
theorem En(s:ab):n6 s=some (if (eY s).code=0 then qR s else (noS,eY s)):=by
 unfold n6
 rw [zh]
 simp only [bSq]
 by_cases hc:(eY s).code=0
 ·obtain ⟨g,_⟩:=mE hc
  rw [iN (by simpa using hc),iP hc,CS g]
  simp only [bSq]
  have hn:=g.h.nr
  rw [iP ⟨⟨by omega,by omega⟩,om (by omega) (by omega)⟩]
  show (aM (fun (x:List Int×Int)=>ew s x.1 x.2) (List.replicate s.rules.length 0,0)).bind _=_
  rw [Em s (by omega)]
  exact C6 g
 ·rw [iP hc,iN hc]
  rfl
end Pam
namespace Pam
open Go
theorem zo{s:ab}(h0:(nn s).code=0)(hr:∀ i,i<s.rules.length→mf s (bI s i) (s.rules.getD i default)=0)
  (hu:∀ i,i<s.rules.length→∀ x∈cX (s.rules.getD i default),x∈bI s s.rules.length) (ho:∀ x∈s.out_,x∈bI s s.rules.length):eY s=an.mk 0 0:=by
 unfold eY
 simp only [h0,not_true_eq_false,if_false]
 rw [jH (fun i hi=>by unfold lD;simp only [iP (hr i hi)])]
 simp only
 rw [jH (fun i hi=>by unfold np;rw [iN (fun ⟨x,h1,h2⟩=>h2 (hu i hi x h1))])]
 simp only
 rw [jH (fun i hi=>by unfold t6;rw [iP (ho _ (aI hi))])]
theorem BU(v:List ap)(i o:List Int)(R R':List ae)(r:ae):aA (ab.mk v i o R) r=aA (ab.mk v i o R') r:=rfl
def rN(s:ab)(l:List Nat):ab:=ab.mk s.vars s.in_ s.out_ (l.map (fun k=>s.rules.getD k default))
theorem ri(s:ab)(l:List Nat):(rN s l).rules.length=l.length:=by unfold rN;simp
theorem rj(s:ab){l:List Nat}{i:Nat}(h:i<l.length):(rN s l).rules.getD i default=s.rules.getD (l.getD i default) default:=by
 unfold rN;simp [List.getD,h]
theorem qd(s:ab)(l:List Nat)(i:Nat):bI (rN s l) i=lj s (l.take i):=by
 unfold bI lj rN
 simp only [← List.map_take,List.map_map]
 rfl
theorem wi(s:ab)(l:List Nat)(r:ae):aA (rN s l) r=aA s r:=BU _ _ _ _ _ _
theorem Au{s:ab}{l:List Nat}(h:l.length=s.rules.length):nn (rN s l)=nn s:=by
 have e:=ri s l
 unfold nn
 rw [e,h]
 rfl
theorem zp{l:List Nat}{n:Nat}(hn:l.Nodup)(hl:∀ k∈l,k<n)(hlen:l.length=n)(s:ab)(h:n=s.rules.length)(x:Int):x∈bI s s.rules.length→x∈lj s l:=by
 intro hx
 rcases (mh s x (Nat.le_refl _)).1 hx with h1|⟨k,hk,h1⟩
 ·exact qP.2 (.inl h1)
 ·exact qP.2 (.inr ⟨k,sv hn hl hlen k (by omega),h1⟩)
theorem Av{s:ab}(hc:(eY s).code=0){l:List Nat}(hn:l.Nodup)(hl:∀ k∈l,k<s.rules.length)(hlen:l.length=s.rules.length):eY (rN s l)=an.mk 0 0:=by
 obtain ⟨g,_⟩:=mE hc
 have hh:(nn s).code=0:=by
  refine Classical.byContradiction fun h0=>?_
  unfold eY at hc
  rw [iP h0] at hc
  exact h0 hc
 have hlen':=ri s l
 refine zo (by rw [Au hlen];exact hh) (fun i hi=>?_) (fun i hi x hx=>?_) (fun x hx=>?_)
 ·have hi':i<l.length:=by omega
  have hk:=hl _ (aI hi')
  have h1:=g.r _ hk
  rw [qd,rj s hi']
  have c1:(bI s (l.getD i default)).contains (s.rules.getD (l.getD i default) default).out_=false:=by
   cases hq:(bI s (l.getD i default)).contains (s.rules.getD (l.getD i default) default).out_
   ·rfl
   ·exact absurd (List.contains_iff_mem.1 hq) (pE g hk)
  have c2:(lj s (l.take i)).contains (s.rules.getD (l.getD i default) default).out_=false:=by
   cases hq:(lj s (l.take i)).contains (s.rules.getD (l.getD i default) default).out_
   ·rfl
   ·rcases qP.1 (List.contains_iff_mem.1 hq) with h|⟨k,h2,h3⟩
    ·exact absurd h (BR g hk)
    ·have e:=zm g hk (hl k (List.mem_of_mem_take h2)) h3
     subst e
     obtain ⟨j,hj,e⟩:=List.mem_iff_getElem.1 h2
     rw [List.length_take] at hj
     rw [List.getElem_take] at e
     have:=(List.getElem_inj hn).1 (e.trans (tn hi'))
     omega
  unfold mf at h1 ⊢
  rw [c1] at h1
  rw [c2,wi]
  exact h1
 ·have hi':i<l.length:=by omega
  rw [rj s hi'] at hx
  rw [qd,hlen',List.take_length]
  exact zp hn hl hlen s rfl x (g.u _ (hl _ (aI hi')) x hx)
 ·rw [qd,hlen',List.take_length]
  exact zp hn hl hlen s rfl x (g.o x hx)
theorem wj(s:ab):lE s=rN s (bz s):=rfl
theorem Aw{s:ab}(hc:(eY s).code=0)(hK:(bz s).length=s.rules.length):eY (lE s)=an.mk 0 0 :=
 Av hc (qc s) (fun _ h=>oH h) hK
theorem zq{s:ab}:kB (lE s):=by
 intro i hi
 rw [wj,ri] at hi
 rw [wj,qd,rj s hi]
 have:=(sw (wh hi)).2.2
 unfold to at this
 exact of_decide_eq_true this
theorem uE{s:ab}(hs:kB s):bz s=List.range s.rules.length:=by
 have key:∀ k,k≤s.rules.length→ji s.rules.length (to s) k=List.range k:=by
  intro k
  induction k with
  |zero=>intro _;rfl
  |succ k ih =>
   intro hk
   have:jM s.rules.length (to s) (List.range k)=some k:=by
    unfold jM
    rw [List.find?_range_eq_some]
    refine ⟨?_,List.mem_range.2 (by omega),fun j hj=>?_⟩
    ·have h1:(List.range k).contains k=false:=by
      cases hq:(List.range k).contains k
      ·rfl
      ·exact absurd (List.mem_range.1 (List.contains_iff_mem.1 hq)) (by omega)
     have h2:to s (List.range k) k=true:=by
      unfold to
      refine dT (BS (hs k (by omega)) (fun x hx=>?_))
      rcases (mh s x (by omega)).1 hx with h|⟨j,hj,h⟩
      ·exact qP.2 (.inl h)
      ·exact qP.2 (.inr ⟨j,List.mem_range.2 hj,h⟩)
     rw [h1,h2];rfl
    ·rw [List.contains_iff_mem.2 (List.mem_range.2 hj)];rfl
   rw [ji,ih (by omega),this,List.range_succ]
 exact key _ (Nat.le_refl _)
theorem wk{T:Type}[Inhabited T](l:List T):(List.range l.length).map (fun k=>l.getD k default)=l:=by
 apply List.ext_getElem
 ·simp
 ·intro i h1 h2
  simp [List.getD,h2]
theorem yo{s:ab}(hs:kB s):lE s=s:=by
 unfold lE
 rw [uE hs,wk]
end Pam
namespace Pam
open Go
theorem oQ(l:List Int)(hl:l.length≤9000000):jg l l=some true:=by
 unfold jg
 rw [iN (by simp)]
 rw [bW l.length (fun _=>none) () (fun i hi=>by
  simp only [jy,tN]
  rw [iP (ltI hi),iP ⟨inI hi,inI hi⟩,iN (by simp),wrs i (by omega)]) (by simp [jy]),jH (fun _ _=>rfl)]
 rfl
theorem wS(l:List aL)(hl:l.length≤9000000):mb l l=some true:=by
 unfold mb
 rw [iN (by simp),bW l.length (fun _=>none) ()]
 ·rw [jH (fun _ _=>rfl)];rfl
 ·intro i hi
  unfold jA
  rw [iP (ltI hi),iP ⟨inI hi,inI hi⟩,iP (by simp),wrs i (by omega)]
 ·unfold jA;rw [iN (aW _)]
theorem wT(r:ae)(h:r.a.length≤100∧r.e.length≤1000):mc r r=some true:=by
 unfold mc
 rw [iP rfl,iP rfl,iP rfl,iP rfl,oQ _ (by omega)]
 simp only [bSq,if_true]
 rw [wS _ (by omega)]
 rfl
theorem yp{s:ab}{m:Nat}(h:we s m)(hm:m≤100000):kh s s=some true:=by
 have h1:=h.nv
 have h2:=h.nr
 have h3:=h.ni
 have h4:=h.no
 unfold kh
 rw [iN (by simp),iN (by simp),oQ _ (by omega)]
 simp only [bSq,if_true]
 rw [oQ _ (by omega)]
 simp only [bSq,if_true]
 rw [bW s.vars.length (fun _=>none) () (fun i hi=>by
  unfold iv
  rw [iP (ltI hi),iP ⟨inI hi,inI hi⟩,iP ⟨rfl,rfl⟩,wrs i (by omega)]) (by unfold iv;rw [iN (aW _)]),jH (fun _ _=>rfl)]
 simp only [bSq,Sum.elim_inl]
 unfold fS
 rw [bW s.rules.length (fun _=>none) () (fun i hi=>by
  unfold iu
  rw [iP (ltI hi),iP ⟨inI hi,inI hi⟩]
  simp only [tN]
  rw [wT _ (h.r _ (aI hi)),wrs i (by omega)]
  rfl) (by unfold iu;rw [iN (aW _)]),jH (fun _ _=>rfl)]
 rfl
theorem zr{s:ab}{mk:List Int}{r:ae}(h1:inV s r.out_)(h2:¬ mk.contains r.out_=true)(h3:¬ (aH r.op<0∨¬ (r.a.length:Int)=aH r.op))(h4:¬ (r.e.length:Int)>24)
  (h5:¬ ∃ x∈cX r,¬ inV s x) (h6:aA s r=some true):mf s mk r=0:=by
 unfold mf
 rw [iN (not_not_intro h1),iN h2,iN h3,iN h4,iN h5,iP h6]
theorem qe(n:Int):okI .i64 (IntKind.wrap .i64 n):=by
 show -9223372036854775808≤IntKind.wrap .i64 n∧IntKind.wrap .i64 n≤9223372036854775807
 rw [IntKind.wrap_i64];omega
theorem tp(x t:Int):IntKind.wrap .i64 (x+18446744073709551616 * t)=IntKind.wrap .i64 x:=by
 simp only [IntKind.wrap_i64]
 have:(x+18446744073709551616 * t+9223372036854775808)=(x+9223372036854775808)+18446744073709551616 * t:=by omega
 rw [this,Int.add_mul_emod_self_left]
theorem Bb(x:Int):∃ t,IntKind.wrap .i64 x=x+18446744073709551616 * t:=by
 refine ⟨-((x+9223372036854775808) / 18446744073709551616),?_⟩
 rw [IntKind.wrap_i64];omega
theorem Eo{n:Int}(h:okI .i64 n):IntKind.wrap .i64 n=n:=wr h.1 h.2
theorem BV(a b:Int)(ha:okI .i64 a)(hb:b≠0):okI .i64 (a.tmod b)∧IntKind.wrap .i64 (a - IntKind.wrap .i64 (IntKind.wrap .i64 (a.tdiv b) * b))=a.tmod b:=by
 have ha':-9223372036854775808≤a∧a≤9223372036854775807:=ha
 have h1:=Int.mul_tdiv_add_tmod a b
 have hr:okI .i64 (a.tmod b):=by
  show -9223372036854775808≤a.tmod b∧a.tmod b≤9223372036854775807
  rcases Int.le_total 0 a with h|h
  ·have h2:=Int.tmod_nonneg b h
   have h3:a.tmod b≤a:=by
    rw [Int.tmod_eq_emod_of_nonneg h]
    have h4:=Int.mul_ediv_add_emod a b
    have h5:0≤b * (a / b):=by
     rcases Int.le_total 0 b with hb0|hb0
     ·exact Int.mul_nonneg hb0 (Int.ediv_nonneg h hb0)
     ·exact Int.mul_nonneg_of_nonpos_of_nonpos hb0 (Int.ediv_nonpos_of_nonneg_of_nonpos h hb0)
    omega
   omega
  ·have h2:0≤(-a).tmod b:=Int.tmod_nonneg b (by omega)
   have h3:(-a).tmod b≤-a:=by
    rw [Int.tmod_eq_emod_of_nonneg (by omega)]
    have h4:=Int.mul_ediv_add_emod (-a) b
    have h5:0≤b * (-a / b):=by
     rcases Int.le_total 0 b with hb0|hb0
     ·exact Int.mul_nonneg hb0 (Int.ediv_nonneg (by omega) hb0)
     ·exact Int.mul_nonneg_of_nonpos_of_nonpos hb0 (Int.ediv_nonpos_of_nonneg_of_nonpos (by omega) hb0)
    omega
   rw [Int.neg_tmod] at h2 h3
   omega
 refine ⟨hr,?_⟩
 obtain ⟨t,ht⟩:=Bb (a.tdiv b)
 rw [ht]
 have e1:(a.tdiv b+18446744073709551616 * t) * b=a.tdiv b * b+18446744073709551616 * (t * b):=by rw [Int.add_mul,Int.mul_assoc]
 rw [e1,tp]
 obtain ⟨t2,ht2⟩:=Bb (a.tdiv b * b)
 rw [ht2]
 have e2:a - (a.tdiv b * b+18446744073709551616 * t2)=a.tmod b+18446744073709551616 * (-t2):=by rw [Int.mul_comm (a.tdiv b) b];omega
 rw [e2,tp,Eo hr]
noncomputable def app(k a b:Int):Int:=(bg k a b).getD 0
theorem eP(k a b:Int)(ha:okI .i64 a)(hb:okI .i64 b):bg k a b=some (app k a b)∧bn k a b=some (app k a b)∧okI .i64 (app k a b):=by
 have h01:∀ c:Bool,(if c=true then some (1:Int) else some 0)=some (if c=true then 1 else 0):=fun c=>by cases c<;>rfl
 have ok01:∀ c:Bool,okI .i64 (if c=true then (1:Int) else 0):=fun c=>by cases c<;>exact ⟨by decide,by decide⟩
 have key:∀ v,bg k a b=some v→bn k a b=some v→okI .i64 v→bg k a b=some (app k a b)∧bn k a b=some (app k a b)∧okI .i64 (app k a b):=fun v h1 h2 h3=>by
  have:app k a b=v:=by unfold app;rw [h1];rfl
  rw [this];exact ⟨h1,h2,h3⟩
 by_cases c1:k=1
 ·exact key _ (by unfold bg;rw [iP c1]) (by unfold bn;rw [iP c1]) (qe _)
 by_cases c2:k=2
 ·exact key _ (by unfold bg;rw [iN c1,iP c2]) (by unfold bn;rw [iN c1,iP c2]) (qe _)
 by_cases c3:k=3
 ·exact key _ (by unfold bg;rw [iN c1,iN c2,iP c3]) (by unfold bn;rw [iN c1,iN c2,iP c3]) (qe _)
 by_cases c4:k=4
 ·subst c4
  by_cases z:b=0
  ·exact key 0 (by simp [bg,bb,jc,z]) (by simp [bn,z]) ⟨by decide,by decide⟩
  ·by_cases z1:b = -1
   ·subst z1
    exact key (IntKind.wrap .i64 (0 - a)) (by simp [bg,bb,jc,Int.tdiv_neg,Int.tdiv_one]) (by simp [bn]) (qe _)
   ·exact key (IntKind.wrap .i64 (a.tdiv b)) (by simp [bg,bb,jc,z]) (by simp [bn,z,z1]) (qe _)
 by_cases c5:k=5
 ·subst c5
  by_cases z:b=0
  ·exact key 0 (by simp [bg,bb,jc,z]) (by simp [bn,z]) ⟨by decide,by decide⟩
  ·by_cases z1:b = -1
   ·subst z1
    exact key 0 (by simp [bg,bb,jc,Int.tmod_neg,Int.tmod_one]) (by simp [bn]) ⟨by decide,by decide⟩
   ·obtain ⟨m1,m2⟩:=BV a b ha z
    exact key (a.tmod b) (by simp [bg,bb,jc,z]) (by simp only [bn];rw [iN (by decide),iN (by decide),iN (by decide),iN (by decide),iN (by decide),iP trivial,iN z,iN z1,iP z,m2]) m1
 by_cases c6:k=6
 ·subst c6
  exact key (if b<a then b else a) (by simp [bg,bb]) (by simp only [bn];simp;split<;>rfl) (by split<;>assumption)
 by_cases c7:k=7
 ·subst c7
  exact key (if b>a then b else a) (by simp [bg,bb]) (by simp only [bn];simp;split<;>rfl) (by split<;>assumption)
 by_cases c8:k=8
 ·subst c8
  by_cases z:a<b
  ·exact key 1 (by simp [bg,bb,cy,z]) (by simp [bn,bi,z]) ⟨by decide,by decide⟩
  ·exact key 0 (by simp [bg,bb,cy,z]) (by simp [bn,bi,z]) ⟨by decide,by decide⟩
 by_cases c9:k=9
 ·subst c9
  by_cases z:a=b
  ·exact key 1 (by simp [bg,bb,cy,z]) (by simp [bn,bi,z]) ⟨by decide,by decide⟩
  ·exact key 0 (by simp [bg,bb,cy,z]) (by simp [bn,bi,z]) ⟨by decide,by decide⟩
 by_cases c10:k=10
 ·subst c10
  by_cases z:a=0
  ·exact key 0 (by simp [bg,bb,cy,z]) (by simp [bn,bi,z]) ⟨by decide,by decide⟩
  ·by_cases z2:b=0
   ·exact key 0 (by simp [bg,bb,cy,z,z2]) (by simp [bn,bi,z,z2]) ⟨by decide,by decide⟩
   ·exact key 1 (by simp [bg,bb,cy,z,z2]) (by simp [bn,bi,z,z2]) ⟨by decide,by decide⟩
 by_cases c11:k=11
 ·subst c11
  by_cases z:a=0
  ·by_cases z2:b=0
   ·exact key 0 (by simp [bg,bb,cy,z,z2]) (by simp [bn,bi,z,z2]) ⟨by decide,by decide⟩
   ·exact key 1 (by simp [bg,bb,cy,z,z2]) (by simp [bn,bi,z,z2]) ⟨by decide,by decide⟩
  ·exact key 1 (by simp [bg,bb,cy,z]) (by simp [bn,bi,z]) ⟨by decide,by decide⟩
 by_cases c12:k=12
 ·subst c12
  by_cases z:a=0<;>by_cases z2:b=0
  ·exact key 0 (by simp [bg,bb,cy,z,z2]) (by simp [bn,bi,z,z2]) ⟨by decide,by decide⟩
  ·exact key 1 (by simp [bg,bb,cy,z,z2]) (by simp [bn,bi,z,z2]) ⟨by decide,by decide⟩
  ·exact key 1 (by simp [bg,bb,cy,z,z2]) (by simp [bn,bi,z,z2]) ⟨by decide,by decide⟩
  ·have e1:(a != 0)=true:=by simp [z]
   have e2:(b != 0)=true:=by simp [z2]
   have e3:(a == 0)=false:=by simp [z]
   have e4:(b == 0)=false:=by simp [z2]
   exact key 0 (by simp [bg,bb,cy,e1,e2]) (by simp [bn,bi,e3,e4]) ⟨by decide,by decide⟩
 by_cases c13:k=13
 ·subst c13
  exact key (IntKind.wrap .i64 (0 - a)) (by simp [bg,bb]) (by simp [bn]) (qe _)
 by_cases c14:k=14
 ·subst c14
  by_cases z:a=0
  ·exact key 1 (by simp [bg,bb,cy,z]) (by simp [bn,bi,z]) ⟨by decide,by decide⟩
  ·exact key 0 (by simp [bg,bb,cy,z]) (by simp [bn,bi,z]) ⟨by decide,by decide⟩
 exact key 0 (by simp [bg,bb,c1,c2,c3,c4,c5,c6,c7,c8,c9,c10,c11,c12,c13,c14]) (by simp [bn,bi,c1,c2,c3,c4,c5,c6,c7,c8,c9,c10,c11,c12,c13,c14]) ⟨by decide,by decide⟩
theorem oq:okI .i64 0:=⟨by decide,by decide⟩
theorem cN{l:List Int}(h:∀ y∈l,okI .i64 y)(i:Nat):okI .i64 (l.getD i default):=by
 by_cases hi:i<l.length
 ·exact h _ (aI hi)
 ·have:l.getD i default=0:=by simp [List.getD,List.getElem?_eq_none (Nat.le_of_not_lt hi)]
  rw [this];exact oq
def nV(s:ab)(v:Int):Int:=(vOf s v).n
def clN(s:ab)(v:Int):Nat:=(d9 (nV s v)).toNat
structure yq (s:ab) (op n o a b c:Int) (e:List aL):Prop where
 h1:op=1→o=0
 h2:op=2→a=o
 h3:op=3→a=o
 h4:op=4→a=o∧b=o
 h5:op=5→a=0∧b=o∧c=o
 h6:op=6→a=0∧o=0∧b>0
 h7:op=7→a=0∧b=o∧o>0
 h8:op=8→a=0∧o>0
 h9:op=9→a>0∧b=0∧c=0∧o=0
 h10:op=10→a=o∧o>0∧b=0∧c=0
 h11:op=11→a>0∧o>0∧0≤n∧n+o≤a
 h12:op=12→a>0∧b>0∧o=a+b
 h13:op=13→a=o∧b=o
 h14:op=14→li s (d9 o) e≠0
 h15:op=15→a=0∧o=0∧1≤n∧n≤300∧li s n e≠0
 h16:op=16→a=0∧o>0∧li s o e≠0
theorem Ax{x:Int}(h:okE x):x≠0:=by unfold okE at h;omega
theorem wl{s:ab}{e:List aL}{n:Int}(hv:e7 s)(hu:∀ p∈e,pB s p)(hn:1≤n∧n≤300)(he:e.length≤800):lU s e n=some (li s n e):=(xk (c:=0) hv hu hn he).2
theorem xx{n:Int}(h:0≤n∧n≤300):1≤d9 n∧d9 n≤300:=by unfold d9;split<;>omega
theorem C7{s:ab}(hv:e7 s){r:ae}(h:ki s r)(hp:¬ aH r.op<0)(hl:(r.a.length:Int)=aH r.op)(hf:aA s r=some true) :
  yq s r.op r.n (nV s r.out_) (nV s (r.a.getD 0 default)) (nV s (r.a.getD 1 default)) (nV s (r.a.getD 2 default)) r.e:=by
 obtain ⟨op,k,o,n,a,e⟩:=r
 simp only at hp hl
 have ho:inV s o:=h.o
 have go:=aF hv ho
 have h3:a.length≤3:=by have:=pD op;omega
 rw [dJ h.o h3 h.a] at hf
 have hop:1≤op∧op≤16:=by
  by_cases hc:1≤op∧op≤16
  ·exact hc
  ·unfold aH at hp;rw [iN hc] at hp;omega
 have ha:∀ x∈a,inV s x:=h.a
 have he:e.length≤24:=h.e
 have hu:14≤op→∀ p∈e,pB s p:=h.u
 have hcs:op=1∨op=2∨op=3∨op=4∨op=5∨op=6∨op=7∨op=8∨op=9∨op=10∨op=11∨op=12∨op=13∨op=14∨op=15∨op=16:=by omega
 have l0:(a.length:Int)=0→a=[]:=fun h=>List.eq_nil_of_length_eq_zero (by omega)
 have l1:(a.length:Int)=1→∃ x,a=[x]:=fun h=>by
  match a,h with
  |[x],_=>exact ⟨x,rfl⟩
  |[],h=>simp at h
  |_ :: _ :: _,h=>simp at h;omega
 have l2:(a.length:Int)=2→∃ x y,a=[x,y]:=fun h=>by
  match a,h with
  |[x,y],_=>exact ⟨x,y,rfl⟩
  |[],h=>simp at h
  |[_],h=>simp at h
  |_ :: _ :: _ :: _,h=>simp at h;omega
 have l3:(a.length:Int)=3→∃ x y z,a=[x,y,z]:=fun h=>by
  match a,h with
  |[x,y,z],_=>exact ⟨x,y,z,rfl⟩
  |[],h=>simp at h
  |[_],h=>simp at h
  |[_,_],h=>simp at h
  |_ :: _ :: _ :: _ :: _,h=>simp at h;omega
 rcases hcs with rfl|rfl|rfl|rfl|rfl|rfl|rfl|rfl|rfl|rfl|rfl|rfl|rfl|rfl|rfl|rfl
 ·obtain rfl:=l0 (hl.trans (by decide))
  simp only [aB,bO,bSq,bG,bC,dH,List.length_cons,List.length_nil,List.getD_cons_zero,List.getD_cons_succ,fK,Nat.reduceAdd,Nat.reduceLT,if_true,if_false,reduceCtorEq,Int.reduceEq,reduceIte,Int.reduceLE,Int.reduceLT,and_self] at hf
  have key:(vOf s o).n=0:=by grind
  exact ⟨(fun _=>key),(fun h=>absurd h (show ¬ (1:Int)=2 by decide)),(fun h=>absurd h (show ¬ (1:Int)=3 by decide)),(fun h=>absurd h (show ¬ (1:Int)=4 by decide)),(fun h=>absurd h (show ¬ (1:Int)=5 by decide)),(fun h=>absurd h (show ¬ (1:Int)=6 by decide)),(fun h=>absurd h (show ¬ (1:Int)=7 by decide)),(fun h=>absurd h (show ¬ (1:Int)=8 by decide)),(fun h=>absurd h (show ¬ (1:Int)=9 by decide)),(fun h=>absurd h (show ¬ (1:Int)=10 by decide)),(fun h=>absurd h (show ¬ (1:Int)=11 by decide)),(fun h=>absurd h (show ¬ (1:Int)=12 by decide)),(fun h=>absurd h (show ¬ (1:Int)=13 by decide)),(fun h=>absurd h (show ¬ (1:Int)=14 by decide)),(fun h=>absurd h (show ¬ (1:Int)=15 by decide)),(fun h=>absurd h (show ¬ (1:Int)=16 by decide))⟩
 ·obtain ⟨x,rfl⟩:=l1 (hl.trans (by decide))
  have gx:=aF hv (ha x (by simp))
  simp only [aB,bO,bSq,bG,bC,dH,List.length_cons,List.length_nil,List.getD_cons_zero,List.getD_cons_succ,fK,Nat.reduceAdd,Nat.reduceLT,if_true,if_false,reduceCtorEq,Int.reduceEq,reduceIte,Int.reduceLE,Int.reduceLT,and_self] at hf
  have key:(vOf s x).n=(vOf s o).n:=by grind
  exact ⟨(fun h=>absurd h (show ¬ (2:Int)=1 by decide)),(fun _=>key),(fun h=>absurd h (show ¬ (2:Int)=3 by decide)),(fun h=>absurd h (show ¬ (2:Int)=4 by decide)),(fun h=>absurd h (show ¬ (2:Int)=5 by decide)),(fun h=>absurd h (show ¬ (2:Int)=6 by decide)),(fun h=>absurd h (show ¬ (2:Int)=7 by decide)),(fun h=>absurd h (show ¬ (2:Int)=8 by decide)),(fun h=>absurd h (show ¬ (2:Int)=9 by decide)),(fun h=>absurd h (show ¬ (2:Int)=10 by decide)),(fun h=>absurd h (show ¬ (2:Int)=11 by decide)),(fun h=>absurd h (show ¬ (2:Int)=12 by decide)),(fun h=>absurd h (show ¬ (2:Int)=13 by decide)),(fun h=>absurd h (show ¬ (2:Int)=14 by decide)),(fun h=>absurd h (show ¬ (2:Int)=15 by decide)),(fun h=>absurd h (show ¬ (2:Int)=16 by decide))⟩
 ·obtain ⟨x,rfl⟩:=l1 (hl.trans (by decide))
  have gx:=aF hv (ha x (by simp))
  simp only [aB,bO,bSq,bG,bC,dH,List.length_cons,List.length_nil,List.getD_cons_zero,List.getD_cons_succ,fK,Nat.reduceAdd,Nat.reduceLT,if_true,if_false,reduceCtorEq,Int.reduceEq,reduceIte,Int.reduceLE,Int.reduceLT,and_self] at hf
  have key:(vOf s x).n=(vOf s o).n:=by grind
  exact ⟨(fun h=>absurd h (show ¬ (3:Int)=1 by decide)),(fun h=>absurd h (show ¬ (3:Int)=2 by decide)),(fun _=>key),(fun h=>absurd h (show ¬ (3:Int)=4 by decide)),(fun h=>absurd h (show ¬ (3:Int)=5 by decide)),(fun h=>absurd h (show ¬ (3:Int)=6 by decide)),(fun h=>absurd h (show ¬ (3:Int)=7 by decide)),(fun h=>absurd h (show ¬ (3:Int)=8 by decide)),(fun h=>absurd h (show ¬ (3:Int)=9 by decide)),(fun h=>absurd h (show ¬ (3:Int)=10 by decide)),(fun h=>absurd h (show ¬ (3:Int)=11 by decide)),(fun h=>absurd h (show ¬ (3:Int)=12 by decide)),(fun h=>absurd h (show ¬ (3:Int)=13 by decide)),(fun h=>absurd h (show ¬ (3:Int)=14 by decide)),(fun h=>absurd h (show ¬ (3:Int)=15 by decide)),(fun h=>absurd h (show ¬ (3:Int)=16 by decide))⟩
 ·obtain ⟨x,y,rfl⟩:=l2 (hl.trans (by decide))
  have gx:=aF hv (ha x (by simp))
  have gy:=aF hv (ha y (by simp))
  simp only [aB,bO,bSq,bG,bC,dH,List.length_cons,List.length_nil,List.getD_cons_zero,List.getD_cons_succ,fK,Nat.reduceAdd,Nat.reduceLT,if_true,if_false,reduceCtorEq,Int.reduceEq,reduceIte,Int.reduceLE,Int.reduceLT,and_self] at hf
  have key:(vOf s x).n=(vOf s o).n∧(vOf s y).n=(vOf s o).n:=by grind
  exact ⟨(fun h=>absurd h (show ¬ (4:Int)=1 by decide)),(fun h=>absurd h (show ¬ (4:Int)=2 by decide)),(fun h=>absurd h (show ¬ (4:Int)=3 by decide)),(fun _=>key),(fun h=>absurd h (show ¬ (4:Int)=5 by decide)),(fun h=>absurd h (show ¬ (4:Int)=6 by decide)),(fun h=>absurd h (show ¬ (4:Int)=7 by decide)),(fun h=>absurd h (show ¬ (4:Int)=8 by decide)),(fun h=>absurd h (show ¬ (4:Int)=9 by decide)),(fun h=>absurd h (show ¬ (4:Int)=10 by decide)),(fun h=>absurd h (show ¬ (4:Int)=11 by decide)),(fun h=>absurd h (show ¬ (4:Int)=12 by decide)),(fun h=>absurd h (show ¬ (4:Int)=13 by decide)),(fun h=>absurd h (show ¬ (4:Int)=14 by decide)),(fun h=>absurd h (show ¬ (4:Int)=15 by decide)),(fun h=>absurd h (show ¬ (4:Int)=16 by decide))⟩
 ·obtain ⟨x,y,z,rfl⟩:=l3 (hl.trans (by decide))
  have gx:=aF hv (ha x (by simp))
  have gy:=aF hv (ha y (by simp))
  have gz:=aF hv (ha z (by simp))
  simp only [aB,bO,bSq,bG,bC,dH,List.length_cons,List.length_nil,List.getD_cons_zero,List.getD_cons_succ,fK,Nat.reduceAdd,Nat.reduceLT,if_true,if_false,reduceCtorEq,Int.reduceEq,reduceIte,Int.reduceLE,Int.reduceLT,and_self] at hf
  have key:(vOf s x).n=0∧(vOf s y).n=(vOf s o).n∧(vOf s z).n=(vOf s o).n:=by grind
  exact ⟨(fun h=>absurd h (show ¬ (5:Int)=1 by decide)),(fun h=>absurd h (show ¬ (5:Int)=2 by decide)),(fun h=>absurd h (show ¬ (5:Int)=3 by decide)),(fun h=>absurd h (show ¬ (5:Int)=4 by decide)),(fun _=>key),(fun h=>absurd h (show ¬ (5:Int)=6 by decide)),(fun h=>absurd h (show ¬ (5:Int)=7 by decide)),(fun h=>absurd h (show ¬ (5:Int)=8 by decide)),(fun h=>absurd h (show ¬ (5:Int)=9 by decide)),(fun h=>absurd h (show ¬ (5:Int)=10 by decide)),(fun h=>absurd h (show ¬ (5:Int)=11 by decide)),(fun h=>absurd h (show ¬ (5:Int)=12 by decide)),(fun h=>absurd h (show ¬ (5:Int)=13 by decide)),(fun h=>absurd h (show ¬ (5:Int)=14 by decide)),(fun h=>absurd h (show ¬ (5:Int)=15 by decide)),(fun h=>absurd h (show ¬ (5:Int)=16 by decide))⟩
 ·obtain ⟨x,y,rfl⟩:=l2 (hl.trans (by decide))
  have gx:=aF hv (ha x (by simp))
  have gy:=aF hv (ha y (by simp))
  simp only [aB,bO,bSq,bG,bC,dH,List.length_cons,List.length_nil,List.getD_cons_zero,List.getD_cons_succ,fK,Nat.reduceAdd,Nat.reduceLT,if_true,if_false,reduceCtorEq,Int.reduceEq,reduceIte,Int.reduceLE,Int.reduceLT,and_self] at hf
  have key:(vOf s x).n=0∧(vOf s o).n=0∧(vOf s y).n>0:=by grind
  exact ⟨(fun h=>absurd h (show ¬ (6:Int)=1 by decide)),(fun h=>absurd h (show ¬ (6:Int)=2 by decide)),(fun h=>absurd h (show ¬ (6:Int)=3 by decide)),(fun h=>absurd h (show ¬ (6:Int)=4 by decide)),(fun h=>absurd h (show ¬ (6:Int)=5 by decide)),(fun _=>key),(fun h=>absurd h (show ¬ (6:Int)=7 by decide)),(fun h=>absurd h (show ¬ (6:Int)=8 by decide)),(fun h=>absurd h (show ¬ (6:Int)=9 by decide)),(fun h=>absurd h (show ¬ (6:Int)=10 by decide)),(fun h=>absurd h (show ¬ (6:Int)=11 by decide)),(fun h=>absurd h (show ¬ (6:Int)=12 by decide)),(fun h=>absurd h (show ¬ (6:Int)=13 by decide)),(fun h=>absurd h (show ¬ (6:Int)=14 by decide)),(fun h=>absurd h (show ¬ (6:Int)=15 by decide)),(fun h=>absurd h (show ¬ (6:Int)=16 by decide))⟩
 ·obtain ⟨x,y,rfl⟩:=l2 (hl.trans (by decide))
  have gx:=aF hv (ha x (by simp))
  have gy:=aF hv (ha y (by simp))
  simp only [aB,bO,bSq,bG,bC,dH,List.length_cons,List.length_nil,List.getD_cons_zero,List.getD_cons_succ,fK,Nat.reduceAdd,Nat.reduceLT,if_true,if_false,reduceCtorEq,Int.reduceEq,reduceIte,Int.reduceLE,Int.reduceLT,and_self] at hf
  have key:(vOf s x).n=0∧(vOf s y).n=(vOf s o).n∧(vOf s o).n>0:=by grind
  exact ⟨(fun h=>absurd h (show ¬ (7:Int)=1 by decide)),(fun h=>absurd h (show ¬ (7:Int)=2 by decide)),(fun h=>absurd h (show ¬ (7:Int)=3 by decide)),(fun h=>absurd h (show ¬ (7:Int)=4 by decide)),(fun h=>absurd h (show ¬ (7:Int)=5 by decide)),(fun h=>absurd h (show ¬ (7:Int)=6 by decide)),(fun _=>key),(fun h=>absurd h (show ¬ (7:Int)=8 by decide)),(fun h=>absurd h (show ¬ (7:Int)=9 by decide)),(fun h=>absurd h (show ¬ (7:Int)=10 by decide)),(fun h=>absurd h (show ¬ (7:Int)=11 by decide)),(fun h=>absurd h (show ¬ (7:Int)=12 by decide)),(fun h=>absurd h (show ¬ (7:Int)=13 by decide)),(fun h=>absurd h (show ¬ (7:Int)=14 by decide)),(fun h=>absurd h (show ¬ (7:Int)=15 by decide)),(fun h=>absurd h (show ¬ (7:Int)=16 by decide))⟩
 ·obtain ⟨x,rfl⟩:=l1 (hl.trans (by decide))
  have gx:=aF hv (ha x (by simp))
  simp only [aB,bO,bSq,bG,bC,dH,List.length_cons,List.length_nil,List.getD_cons_zero,List.getD_cons_succ,fK,Nat.reduceAdd,Nat.reduceLT,if_true,if_false,reduceCtorEq,Int.reduceEq,reduceIte,Int.reduceLE,Int.reduceLT,and_self] at hf
  have key:(vOf s x).n=0∧(vOf s o).n>0:=by grind
  exact ⟨(fun h=>absurd h (show ¬ (8:Int)=1 by decide)),(fun h=>absurd h (show ¬ (8:Int)=2 by decide)),(fun h=>absurd h (show ¬ (8:Int)=3 by decide)),(fun h=>absurd h (show ¬ (8:Int)=4 by decide)),(fun h=>absurd h (show ¬ (8:Int)=5 by decide)),(fun h=>absurd h (show ¬ (8:Int)=6 by decide)),(fun h=>absurd h (show ¬ (8:Int)=7 by decide)),(fun _=>key),(fun h=>absurd h (show ¬ (8:Int)=9 by decide)),(fun h=>absurd h (show ¬ (8:Int)=10 by decide)),(fun h=>absurd h (show ¬ (8:Int)=11 by decide)),(fun h=>absurd h (show ¬ (8:Int)=12 by decide)),(fun h=>absurd h (show ¬ (8:Int)=13 by decide)),(fun h=>absurd h (show ¬ (8:Int)=14 by decide)),(fun h=>absurd h (show ¬ (8:Int)=15 by decide)),(fun h=>absurd h (show ¬ (8:Int)=16 by decide))⟩
 ·obtain ⟨x,y,z,rfl⟩:=l3 (hl.trans (by decide))
  have gx:=aF hv (ha x (by simp))
  have gy:=aF hv (ha y (by simp))
  have gz:=aF hv (ha z (by simp))
  simp only [aB,bO,bSq,bG,bC,dH,List.length_cons,List.length_nil,List.getD_cons_zero,List.getD_cons_succ,fK,Nat.reduceAdd,Nat.reduceLT,if_true,if_false,reduceCtorEq,Int.reduceEq,reduceIte,Int.reduceLE,Int.reduceLT,and_self] at hf
  have key:(vOf s x).n>0∧(vOf s y).n=0∧(vOf s z).n=0∧(vOf s o).n=0:=by grind
  exact ⟨(fun h=>absurd h (show ¬ (9:Int)=1 by decide)),(fun h=>absurd h (show ¬ (9:Int)=2 by decide)),(fun h=>absurd h (show ¬ (9:Int)=3 by decide)),(fun h=>absurd h (show ¬ (9:Int)=4 by decide)),(fun h=>absurd h (show ¬ (9:Int)=5 by decide)),(fun h=>absurd h (show ¬ (9:Int)=6 by decide)),(fun h=>absurd h (show ¬ (9:Int)=7 by decide)),(fun h=>absurd h (show ¬ (9:Int)=8 by decide)),(fun _=>key),(fun h=>absurd h (show ¬ (9:Int)=10 by decide)),(fun h=>absurd h (show ¬ (9:Int)=11 by decide)),(fun h=>absurd h (show ¬ (9:Int)=12 by decide)),(fun h=>absurd h (show ¬ (9:Int)=13 by decide)),(fun h=>absurd h (show ¬ (9:Int)=14 by decide)),(fun h=>absurd h (show ¬ (9:Int)=15 by decide)),(fun h=>absurd h (show ¬ (9:Int)=16 by decide))⟩
 ·obtain ⟨x,y,z,rfl⟩:=l3 (hl.trans (by decide))
  have gx:=aF hv (ha x (by simp))
  have gy:=aF hv (ha y (by simp))
  have gz:=aF hv (ha z (by simp))
  simp only [aB,bO,bSq,bG,bC,dH,List.length_cons,List.length_nil,List.getD_cons_zero,List.getD_cons_succ,fK,Nat.reduceAdd,Nat.reduceLT,if_true,if_false,reduceCtorEq,Int.reduceEq,reduceIte,Int.reduceLE,Int.reduceLT,and_self] at hf
  have key:(vOf s x).n=(vOf s o).n∧(vOf s o).n>0∧(vOf s y).n=0∧(vOf s z).n=0:=by grind
  exact ⟨(fun h=>absurd h (show ¬ (10:Int)=1 by decide)),(fun h=>absurd h (show ¬ (10:Int)=2 by decide)),(fun h=>absurd h (show ¬ (10:Int)=3 by decide)),(fun h=>absurd h (show ¬ (10:Int)=4 by decide)),(fun h=>absurd h (show ¬ (10:Int)=5 by decide)),(fun h=>absurd h (show ¬ (10:Int)=6 by decide)),(fun h=>absurd h (show ¬ (10:Int)=7 by decide)),(fun h=>absurd h (show ¬ (10:Int)=8 by decide)),(fun h=>absurd h (show ¬ (10:Int)=9 by decide)),(fun _=>key),(fun h=>absurd h (show ¬ (10:Int)=11 by decide)),(fun h=>absurd h (show ¬ (10:Int)=12 by decide)),(fun h=>absurd h (show ¬ (10:Int)=13 by decide)),(fun h=>absurd h (show ¬ (10:Int)=14 by decide)),(fun h=>absurd h (show ¬ (10:Int)=15 by decide)),(fun h=>absurd h (show ¬ (10:Int)=16 by decide))⟩
 ·obtain ⟨x,rfl⟩:=l1 (hl.trans (by decide))
  have gx:=aF hv (ha x (by simp))
  simp only [aB,bO,bSq,bG,bC,dH,List.length_cons,List.length_nil,List.getD_cons_zero,List.getD_cons_succ,fK,Nat.reduceAdd,Nat.reduceLT,if_true,if_false,reduceCtorEq,Int.reduceEq,reduceIte,Int.reduceLE,Int.reduceLT,and_self] at hf
  have w:=(wrd gx.2 go.2).1
  rw [w] at hf
  have key:(vOf s x).n>0∧(vOf s o).n>0∧0≤n∧n+(vOf s o).n≤(vOf s x).n:=by grind
  exact ⟨(fun h=>absurd h (show ¬ (11:Int)=1 by decide)),(fun h=>absurd h (show ¬ (11:Int)=2 by decide)),(fun h=>absurd h (show ¬ (11:Int)=3 by decide)),(fun h=>absurd h (show ¬ (11:Int)=4 by decide)),(fun h=>absurd h (show ¬ (11:Int)=5 by decide)),(fun h=>absurd h (show ¬ (11:Int)=6 by decide)),(fun h=>absurd h (show ¬ (11:Int)=7 by decide)),(fun h=>absurd h (show ¬ (11:Int)=8 by decide)),(fun h=>absurd h (show ¬ (11:Int)=9 by decide)),(fun h=>absurd h (show ¬ (11:Int)=10 by decide)),(fun _=>key),(fun h=>absurd h (show ¬ (11:Int)=12 by decide)),(fun h=>absurd h (show ¬ (11:Int)=13 by decide)),(fun h=>absurd h (show ¬ (11:Int)=14 by decide)),(fun h=>absurd h (show ¬ (11:Int)=15 by decide)),(fun h=>absurd h (show ¬ (11:Int)=16 by decide))⟩
 ·obtain ⟨x,y,rfl⟩:=l2 (hl.trans (by decide))
  have gx:=aF hv (ha x (by simp))
  have gy:=aF hv (ha y (by simp))
  simp only [aB,bO,bSq,bG,bC,dH,List.length_cons,List.length_nil,List.getD_cons_zero,List.getD_cons_succ,fK,Nat.reduceAdd,Nat.reduceLT,if_true,if_false,reduceCtorEq,Int.reduceEq,reduceIte,Int.reduceLE,Int.reduceLT,and_self] at hf
  have w:=(wrd gx.2 gy.2).2
  rw [w] at hf
  have key:(vOf s x).n>0∧(vOf s y).n>0∧(vOf s o).n=(vOf s x).n+(vOf s y).n:=by grind
  exact ⟨(fun h=>absurd h (show ¬ (12:Int)=1 by decide)),(fun h=>absurd h (show ¬ (12:Int)=2 by decide)),(fun h=>absurd h (show ¬ (12:Int)=3 by decide)),(fun h=>absurd h (show ¬ (12:Int)=4 by decide)),(fun h=>absurd h (show ¬ (12:Int)=5 by decide)),(fun h=>absurd h (show ¬ (12:Int)=6 by decide)),(fun h=>absurd h (show ¬ (12:Int)=7 by decide)),(fun h=>absurd h (show ¬ (12:Int)=8 by decide)),(fun h=>absurd h (show ¬ (12:Int)=9 by decide)),(fun h=>absurd h (show ¬ (12:Int)=10 by decide)),(fun h=>absurd h (show ¬ (12:Int)=11 by decide)),(fun _=>key),(fun h=>absurd h (show ¬ (12:Int)=13 by decide)),(fun h=>absurd h (show ¬ (12:Int)=14 by decide)),(fun h=>absurd h (show ¬ (12:Int)=15 by decide)),(fun h=>absurd h (show ¬ (12:Int)=16 by decide))⟩
 ·obtain ⟨x,y,rfl⟩:=l2 (hl.trans (by decide))
  have gx:=aF hv (ha x (by simp))
  have gy:=aF hv (ha y (by simp))
  simp only [aB,bO,bSq,bG,bC,dH,List.length_cons,List.length_nil,List.getD_cons_zero,List.getD_cons_succ,fK,Nat.reduceAdd,Nat.reduceLT,if_true,if_false,reduceCtorEq,Int.reduceEq,reduceIte,Int.reduceLE,Int.reduceLT,and_self] at hf
  have key:(vOf s x).n=(vOf s o).n∧(vOf s y).n=(vOf s o).n:=by grind
  exact ⟨(fun h=>absurd h (show ¬ (13:Int)=1 by decide)),(fun h=>absurd h (show ¬ (13:Int)=2 by decide)),(fun h=>absurd h (show ¬ (13:Int)=3 by decide)),(fun h=>absurd h (show ¬ (13:Int)=4 by decide)),(fun h=>absurd h (show ¬ (13:Int)=5 by decide)),(fun h=>absurd h (show ¬ (13:Int)=6 by decide)),(fun h=>absurd h (show ¬ (13:Int)=7 by decide)),(fun h=>absurd h (show ¬ (13:Int)=8 by decide)),(fun h=>absurd h (show ¬ (13:Int)=9 by decide)),(fun h=>absurd h (show ¬ (13:Int)=10 by decide)),(fun h=>absurd h (show ¬ (13:Int)=11 by decide)),(fun h=>absurd h (show ¬ (13:Int)=12 by decide)),(fun _=>key),(fun h=>absurd h (show ¬ (13:Int)=14 by decide)),(fun h=>absurd h (show ¬ (13:Int)=15 by decide)),(fun h=>absurd h (show ¬ (13:Int)=16 by decide))⟩
 ·obtain rfl:=l0 (hl.trans (by decide))
  have ht:=wl hv (hu (by omega)) (xx ⟨go.2.1,go.2.2⟩) (by omega:e.length≤800)
  simp only [aB,bO,bSq,bG,bC,dH,List.length_cons,List.length_nil,List.getD_cons_zero,List.getD_cons_succ,fK,Nat.reduceAdd,Nat.reduceLT,if_true,if_false,reduceCtorEq,Int.reduceEq,reduceIte,Int.reduceLE,Int.reduceLT,and_self,ht] at hf
  have nz:=Ax go.1
  have key:li s (d9 (vOf s o).n) e≠0:=by grind
  exact ⟨(fun h=>absurd h (show ¬ (14:Int)=1 by decide)),(fun h=>absurd h (show ¬ (14:Int)=2 by decide)),(fun h=>absurd h (show ¬ (14:Int)=3 by decide)),(fun h=>absurd h (show ¬ (14:Int)=4 by decide)),(fun h=>absurd h (show ¬ (14:Int)=5 by decide)),(fun h=>absurd h (show ¬ (14:Int)=6 by decide)),(fun h=>absurd h (show ¬ (14:Int)=7 by decide)),(fun h=>absurd h (show ¬ (14:Int)=8 by decide)),(fun h=>absurd h (show ¬ (14:Int)=9 by decide)),(fun h=>absurd h (show ¬ (14:Int)=10 by decide)),(fun h=>absurd h (show ¬ (14:Int)=11 by decide)),(fun h=>absurd h (show ¬ (14:Int)=12 by decide)),(fun h=>absurd h (show ¬ (14:Int)=13 by decide)),(fun _=>key),(fun h=>absurd h (show ¬ (14:Int)=15 by decide)),(fun h=>absurd h (show ¬ (14:Int)=16 by decide))⟩
 ·obtain ⟨x,rfl⟩:=l1 (hl.trans (by decide))
  have gx:=aF hv (ha x (by simp))
  have ht:=fun hn=>wl hv (n:=n) (hu (by omega)) hn (by omega:e.length≤800)
  simp only [aB,bO,bSq,bG,bC,dH,List.length_cons,List.length_nil,List.getD_cons_zero,List.getD_cons_succ,fK,Nat.reduceAdd,Nat.reduceLT,if_true,if_false,reduceCtorEq,Int.reduceEq,reduceIte,Int.reduceLE,Int.reduceLT,and_self] at hf
  have nz:=Ax go.1
  have key:(vOf s x).n=0∧(vOf s o).n=0∧1≤n∧n≤300∧li s n e≠0:=by
   by_cases hn:1≤n∧n≤300
   ·rw [ht hn] at hf;grind
   ·exfalso;grind
  exact ⟨(fun h=>absurd h (show ¬ (15:Int)=1 by decide)),(fun h=>absurd h (show ¬ (15:Int)=2 by decide)),(fun h=>absurd h (show ¬ (15:Int)=3 by decide)),(fun h=>absurd h (show ¬ (15:Int)=4 by decide)),(fun h=>absurd h (show ¬ (15:Int)=5 by decide)),(fun h=>absurd h (show ¬ (15:Int)=6 by decide)),(fun h=>absurd h (show ¬ (15:Int)=7 by decide)),(fun h=>absurd h (show ¬ (15:Int)=8 by decide)),(fun h=>absurd h (show ¬ (15:Int)=9 by decide)),(fun h=>absurd h (show ¬ (15:Int)=10 by decide)),(fun h=>absurd h (show ¬ (15:Int)=11 by decide)),(fun h=>absurd h (show ¬ (15:Int)=12 by decide)),(fun h=>absurd h (show ¬ (15:Int)=13 by decide)),(fun h=>absurd h (show ¬ (15:Int)=14 by decide)),(fun _=>key),(fun h=>absurd h (show ¬ (15:Int)=16 by decide))⟩
 ·obtain ⟨x,rfl⟩:=l1 (hl.trans (by decide))
  have gx:=aF hv (ha x (by simp))
  have ht:=fun hn=>wl hv (n:=(vOf s o).n) (hu (by omega)) hn (by omega:e.length≤800)
  simp only [aB,bO,bSq,bG,bC,dH,List.length_cons,List.length_nil,List.getD_cons_zero,List.getD_cons_succ,fK,Nat.reduceAdd,Nat.reduceLT,if_true,if_false,reduceCtorEq,Int.reduceEq,reduceIte,Int.reduceLE,Int.reduceLT,and_self] at hf
  have nz:=Ax go.1
  have key:(vOf s x).n=0∧(vOf s o).n>0∧li s (vOf s o).n e≠0:=by
   by_cases hn:1≤(vOf s o).n∧(vOf s o).n≤300
   ·rw [ht hn] at hf;grind
   ·exfalso;grind
  exact ⟨(fun h=>absurd h (show ¬ (16:Int)=1 by decide)),(fun h=>absurd h (show ¬ (16:Int)=2 by decide)),(fun h=>absurd h (show ¬ (16:Int)=3 by decide)),(fun h=>absurd h (show ¬ (16:Int)=4 by decide)),(fun h=>absurd h (show ¬ (16:Int)=5 by decide)),(fun h=>absurd h (show ¬ (16:Int)=6 by decide)),(fun h=>absurd h (show ¬ (16:Int)=7 by decide)),(fun h=>absurd h (show ¬ (16:Int)=8 by decide)),(fun h=>absurd h (show ¬ (16:Int)=9 by decide)),(fun h=>absurd h (show ¬ (16:Int)=10 by decide)),(fun h=>absurd h (show ¬ (16:Int)=11 by decide)),(fun h=>absurd h (show ¬ (16:Int)=12 by decide)),(fun h=>absurd h (show ¬ (16:Int)=13 by decide)),(fun h=>absurd h (show ¬ (16:Int)=14 by decide)),(fun h=>absurd h (show ¬ (16:Int)=15 by decide)),(fun _=>key)⟩
def tq(l:List Int)(at_ o:Int):Int:=if 0≤at_∧at_<(l.length:Int) then l.getD at_.toNat default else o
noncomputable def oI(V:Int→List Int)(k:Int)(p:aL)(st:List Int):List Int :=
 if p.op=1 then p.n :: st
 else if p.op=2 then (V p.v).getD 0 default :: st
 else if p.op=3 then (V p.v).getD (k+p.n).toNat default :: st
 else if p.op=4 then IntKind.wrap .i64 (k+p.n) :: st
 else if p.op=5 then app p.k (st.getD 0 default) 0 :: st.drop 1
 else if p.op=6 then app p.k (st.getD 1 default) (st.getD 0 default) :: st.drop 2
 else if p.op=7 then (if ¬ st.getD 2 default=0 then st.getD 1 default else st.getD 0 default) :: st.drop 3
 else tq (V p.v) (st.getD 1 default) (st.getD 0 default) :: st.drop 2
noncomputable def yr(V:Int→List Int)(k:Int):List aL→List Int→List Int
 |[],st=>st
 |p :: r,st=>yr V k r (oI V k p st)
noncomputable def nf(V:Int→List Int)(k:Int)(l:List aL)(i:Nat):List Int:=yr V k (l.take i) []
noncomputable def rB(V:Int→List Int)(k:Int)(l:List aL):Int:=(nf V k l l.length).getD 0 default
structure e9 (s:ab) (V:Int→List Int) (v:Int):Prop where
 len:(V v).length=clN s v
 ok:∀ y∈V v,okI .i64 y
theorem uF(V:Int→List Int)(k:Int):∀ (l m:List aL) (st:List Int),yr V k (l++m) st=yr V k m (yr V k l st)
 |[],m,st=>rfl
 |s :: l,m,st=>by simp only [List.cons_append,yr];exact uF V k l m _
theorem ue(V:Int→List Int)(k:Int)(l:List aL)(i:Nat)(hi:i<l.length):nf V k l (i+1)=oI V k (l.getD i default) (nf V k l i):=by
 unfold nf
 have:l.take (i+1)=l.take i++[l.getD i default]:=by
  rw [List.take_succ,List.getElem?_eq_getElem hi]
  simp [List.getD,hi]
 rw [this,uF]
 rfl
theorem xy(V:Int→List Int)(k:Int)(l:List aL):nf V k l 0=[]:=rfl
theorem jN(s:ab)(v:Int):1≤clN s v:=by unfold clN d9;split<;>omega
theorem mi{s:ab}{v:Int}(h:nV s v>0):(clN s v:Int)=nV s v:=by unfold clN d9;rw [iN (by omega)];omega
theorem tt{s:ab}{v:Int}(h:nV s v=0):clN s v=1:=by unfold clN d9;rw [iP (by omega)];rfl
theorem C8{s:ab}{V:Int→List Int}{n k:Int}{p:aL}{rs rs' st:List Int}(h:dL s n p rs=some rs')(hl:st.length=rs.length)(hp:okI .i64 p.n)(hV:(p.op=2∨p.op=3∨p.op=8)→e9 s V p.v)(hst:∀ y∈st,okI .i64 y) :
  (oI V k p st).length=rs'.length∧∀ y∈oI V k p st,okI .i64 y:=by
 unfold dL at h
 unfold oI
 have hd:∀ n,∀ y∈st.drop n,okI .i64 y:=fun n y hy=>hst y (List.mem_of_mem_drop hy)
 have cons:∀ {v:Int} {r:List Int},okI .i64 v→(∀ y∈r,okI .i64 y)→∀ y∈v :: r,okI .i64 y:=fun hv hr y hy=>by
  rcases List.mem_cons.1 hy with rfl|hy
  ·exact hv
  ·exact hr y hy
 by_cases o1:p.op=1
 ·rw [iP o1] at h ⊢
  refine ⟨?_,cons hp hst⟩
  repeat' split at h
  all_goals first|(simp only [sJ] at h;subst h;simp;omega)|cases h
 rw [iN o1] at h ⊢
 by_cases o2:p.op=2
 ·rw [iP o2] at h ⊢
  refine ⟨?_,cons (cN (hV (.inl o2)).ok _) hst⟩
  split at h
  ·simp only [sJ] at h;subst h;simp;omega
  ·cases h
 rw [iN o2] at h ⊢
 by_cases o3:p.op=3
 ·rw [iP o3] at h ⊢
  refine ⟨?_,cons (cN (hV (.inr (.inl o3))).ok _) hst⟩
  split at h
  ·simp only [sJ] at h;subst h;simp;omega
  ·cases h
 rw [iN o3] at h ⊢
 by_cases o4:p.op=4
 ·rw [iP o4] at h ⊢
  refine ⟨?_,cons (qe _) hst⟩
  split at h
  ·simp only [sJ] at h;subst h;simp;omega
  ·cases h
 rw [iN o4] at h ⊢
 by_cases o5:p.op=5
 ·rw [iP o5] at h ⊢
  refine ⟨?_,cons (eP _ _ _ (cN hst 0) oq).2.2 (hd 1)⟩
  split at h
  ·split at h
   ·simp only [sJ] at h;subst h;simp at hl ⊢;omega
   ·cases h
  ·cases h
 rw [iN o5] at h ⊢
 by_cases o6:p.op=6
 ·rw [iP o6] at h ⊢
  refine ⟨?_,cons (eP _ _ _ (cN hst 1) (cN hst 0)).2.2 (hd 2)⟩
  split at h
  ·split at h
   ·simp only [sJ] at h;subst h;simp at hl ⊢;omega
   ·cases h
  ·cases h
 rw [iN o6] at h ⊢
 by_cases o7:p.op=7
 ·rw [iP o7] at h ⊢
  refine ⟨?_,cons (by split;exact cN hst 1;exact cN hst 0) (hd 3)⟩
  split at h
  ·split at h
   ·simp only [sJ] at h;subst h;simp at hl ⊢;omega
   ·cases h
  ·cases h
 rw [iN o7] at h ⊢
 by_cases o8:p.op=8
 ·rw [iP o8] at h
  refine ⟨?_,cons (by unfold tq;split;exact cN (hV (.inr (.inr o8))).ok _;exact cN hst 0) (hd 2)⟩
  split at h
  ·split at h
   ·simp only [sJ] at h;subst h;simp at hl ⊢;omega
   ·cases h
  ·cases h
 ·rw [iN o8] at h;cases h
theorem uf(s:ab)(n:Int):∀ (a b:List aL) (rs:List Int),lh s n (a++b) rs=(lh s n a rs).bind (lh s n b)
 |[],b,rs=>rfl
 |p :: a,b,rs=>by
  rw [List.cons_append,lh,lh]
  cases dL s n p rs with
  |none=>rfl
  |some r=>exact uf s n a b r
theorem wm{s:ab}{V:Int→List Int}{n k:Int}{l:List aL}{fin:List Int}(hlo:∀ p∈l,okI .i64 p.n)(hV:∀ p∈l,(p.op=2∨p.op=3∨p.op=8)→e9 s V p.v)(h:lh s n l []=some fin) :
  ∀ i,i≤l.length→∃ rs,lh s n (l.take i) []=some rs∧(nf V k l i).length=rs.length∧rs.length≤i∧(∀ y∈nf V k l i,okI .i64 y)∧(i<l.length→∃ rs',dL s n (l.getD i default) rs=some rs'):=by
 have nxt:∀ i rs,i<l.length→lh s n (l.take i) []=some rs→∃ rs',dL s n (l.getD i default) rs=some rs':=by
  intro i rs hi hrs
  have hsp:l=l.take i++(l.getD i default :: l.drop (i+1)):=by
   have:l.drop i=l.getD i default :: l.drop (i+1):=by
    rw [List.drop_eq_getElem_cons hi];simp [List.getD,hi]
   rw [← this,List.take_append_drop]
  rw [hsp,uf,hrs] at h
  simp only [bSq,lh] at h
  cases hn:dL s n (l.getD i default) rs with
  |none=>rw [hn] at h;cases h
  |some rs'=>exact ⟨rs',rfl⟩
 intro i
 induction i with
 |zero =>
  intro _
  refine ⟨[],rfl,rfl,Nat.le_refl _,fun y hy=>?_,fun hi=>nxt 0 [] hi rfl⟩
  rw [xy] at hy;simp at hy
 |succ i ih =>
  intro hi
  obtain ⟨rs,h1,h2,h3,h4,h5⟩:=ih (by omega)
  obtain ⟨rs',hn⟩:=h5 (by omega)
  have hm:l.getD i default∈l:=aI (by omega)
  obtain ⟨q1,q2⟩:=C8 (V:=V) (k:=k) hn h2 (hlo _ hm) (hV _ hm) h4
  have htk:lh s n (l.take (i+1)) []=some rs':=by
   have:l.take (i+1)=l.take i++[l.getD i default]:=by
    rw [List.take_succ,List.getElem?_eq_getElem (by omega)]
    simp [List.getD,(show i<l.length by omega)]
   rw [this,uf,h1]
   simp only [bSq,lh,hn]
  have hlen:rs'.length≤rs.length+1:=by
   have:(oI V k (l.getD i default) (nf V k l i)).length≤(nf V k l i).length+1:=by
    unfold oI
    repeat' split
    all_goals simp
    all_goals omega
   omega
  rw [ue V k l i (by omega)]
  exact ⟨rs',htk,q1,by omega,q2,fun hi'=>nxt (i+1) rs' hi' htk⟩
def eR(l:List (List Int))(v:Int):List Int:=l.getD v.toNat default
theorem Bc(l:List Int)(a o:Int):nJ l a o=some (tq l a o):=by
 unfold nJ tq
 by_cases h1:a<0
 ·rw [iP h1,iN (by omega)]
 ·by_cases h2:a≥(l.length:Int)
  ·rw [iN h1,iP h2,iN (by omega)]
  ·rw [iN h1,iN h2,iP (by omega),iP (by omega)]
theorem dz(n:Nat)(h:n≤1000000):cw n 8:=by
 unfold cw
 have:maxLen=9223372036854775807:=rfl
 omega
theorem C9{s:ab}{L:List (List Int)}{e:List aL}{n k:Int}{rs rs' st:List Int}{i:Nat}(hi:i<e.length)(hi':i<100000)(h:dL s n (e.getD i default) rs=some rs')(hl:st.length=rs.length)(hb:rs.length≤900)
  (hk:0≤k∧k<n) (hn:n≤300) (hL:L.length=s.vars.length) (hu:pB s (e.getD i default)) (hV:((e.getD i default).op=2∨(e.getD i default).op=3∨(e.getD i default).op=8)→e9 s (eR L) (e.getD i default).v) (hst:∀ y∈st,okI .i64 y) (hv:e7 s) :
  dr e k L st.reverse (i:Int)=some (.inl ((oI (eR L) k (e.getD i default) st).reverse,((i+1:Nat):Int))):=by
 unfold dr
 rw [iP (ltI hi),iP (inI hi)]
 simp only [tN]
 rw [wrs i (by omega)]
 have hin:∀ v:Int,inV s v→0≤v∧v<(L.length:Int):=fun v hv=>by unfold inV at hv;omega
 have he:∀ v:Int,L.getD v.toNat default=eR L v:=fun _=>rfl
 have hvo:∀ v:Int,s.vars.getD v.toNat default=vOf s v:=fun _=>rfl
 have hlr:st.reverse.length≤900:=by simp;omega
 revert h hu hV
 generalize e.getD i default=p
 intro h hu hV
 unfold dL at h
 unfold oI
 simp only [he]
 simp only [hvo] at h
 by_cases o1:p.op=1
 ·rw [iP o1,iP o1,iP (dz _ (by omega)),gf]
 rw [iN o1] at h ⊢
 rw [iN o1]
 by_cases o2:p.op=2
 ·rw [iP o2] at h
  rw [iP o2,iP o2]
  have g:=(hV (.inl o2)).len
  have:=jN s p.v
  rw [iP ⟨hin _ (hu (.inl o2)),by omega,dz _ (by omega)⟩,gf]
 rw [iN o2] at h ⊢
 rw [iN o2]
 by_cases o3:p.op=3
 ·rw [iP o3] at h
  rw [iP o3,iP o3]
  split at h
  ·rename_i hh
   have g:=(hV (.inr (.inl o3))).len
   have hc:(clN s p.v:Int)=(vOf s p.v).n:=mi (show nV s p.v>0 from hh.1)
   have go:=aF hv (hu (.inr (.inl o3)))
   rw [wr (n:=k+p.n) (by omega) (by omega),iP ⟨hin _ (hu (.inr (.inl o3))),by omega,dz _ (by omega)⟩,gf]
  ·cases h
 rw [iN o3] at h ⊢
 rw [iN o3]
 by_cases o4:p.op=4
 ·rw [iP o4,iP o4,iP (dz _ (by omega)),gf]
 rw [iN o4] at h ⊢
 rw [iN o4]
 by_cases o5:p.op=5
 ·rw [iP o5] at h
  rw [iP o5,iP o5]
  match rs,h with
  |a :: r,h =>
   match st,hl,hst with
   |x :: q,hl,hst =>
    have hq:q.length≤900:=by simp at hl hb;omega
    rw [wl1 x q (by omega)]
    simp only [tN]
    rw [iP ⟨by omega,by rw [dY,List.length_cons];omega⟩,(rv1 x q).1,(eP p.k x 0 (hst x (by simp)) oq).1]
    simp only [bSq,CJ,List.getD_cons_zero,List.drop_succ_cons,List.drop_zero]
   |[],hl,_=>simp at hl
  |[],h=>cases h
 rw [iN o5] at h ⊢
 rw [iN o5]
 by_cases o6:p.op=6
 ·rw [iP o6] at h
  rw [iP o6,iP o6]
  match rs,h with
  |a :: b :: r,h =>
   match st,hl,hst with
   |x :: y :: q,hl,hst =>
    have hq:q.length≤900:=by simp at hl hb;omega
    rw [(wl2 x y q (by omega)).1,(wl2 x y q (by omega)).2]
    simp only [tN]
    rw [iP ⟨⟨by omega,by rw [dY,List.length_cons,List.length_cons];omega⟩,⟨by omega,by rw [dY,List.length_cons,List.length_cons];omega⟩,⟨by omega,by rw [dY,List.length_cons,List.length_cons];omega⟩⟩,(rv2 x y q).1,(rv2 x y q).2.1,(eP p.k y x (hst y (by simp)) (hst x (by simp))).1]
    simp only [bSq]
    rw [iP (dz _ (by omega)),(rv2 x y q).2.2,gf]
    rfl
   |[x],hl,_=>simp at hl
   |[],hl,_=>simp at hl
  |[a],h=>cases h
  |[],h=>cases h
 rw [iN o6] at h ⊢
 rw [iN o6]
 by_cases o7:p.op=7
 ·rw [iP o7] at h
  rw [iP o7,iP o7]
  match rs,h with
  |a :: b :: c :: r,h =>
   match st,hl,hst with
   |x :: y :: z :: q,hl,hst =>
    have hq:q.length≤900:=by simp at hl hb;omega
    have j2:∀ v,fc (x :: y :: z :: q).reverse (i:Int) v=some (.inl ((v :: q).reverse,((i+1:Nat):Int))):=fun v=>by
     unfold fc
     rw [(wl3 x y z q (by omega)).1,wrs i (by omega)]
     simp only [tN]
     rw [iP ⟨⟨by omega,by rw [dY,List.length_cons,List.length_cons,List.length_cons];omega⟩,dz _ (by omega)⟩,(rv3 x y z q).2.2.2,gf]
    rw [(wl3 x y z q (by omega)).1,(wl3 x y z q (by omega)).2.1,(wl3 x y z q (by omega)).2.2]
    simp only [tN]
    rw [iP ⟨by omega,by rw [dY,List.length_cons,List.length_cons,List.length_cons];omega⟩,iP ⟨by omega,by rw [dY,List.length_cons,List.length_cons,List.length_cons];omega⟩,(rv3 x y z q).1,(rv3 x y z q).2.1,(rv3 x y z q).2.2.1]
    by_cases hz:z=0
    ·rw [iN (by simpa using hz),j2]
     simp [hz]
    ·rw [iP hz,iP ⟨by omega,by rw [dY,List.length_cons,List.length_cons,List.length_cons];omega⟩,j2]
     simp [hz]
   |[x,y],hl,_=>simp at hl
   |[x],hl,_=>simp at hl
   |[],hl,_=>simp at hl
  |[a,b],h=>cases h
  |[a],h=>cases h
  |[],h=>cases h
 rw [iN o7] at h ⊢
 rw [iN o7]
 by_cases o8:p.op=8
 ·rw [iP o8] at h
  rw [iP o8]
  match rs,h with
  |a :: b :: r,h =>
   match st,hl,hst with
   |x :: y :: q,hl,hst =>
    have hq:q.length≤900:=by simp at hl hb;omega
    rw [(wl2 x y q (by omega)).1,(wl2 x y q (by omega)).2]
    simp only [tN]
    rw [iP ⟨⟨by omega,by rw [dY,List.length_cons,List.length_cons];omega⟩,hin _ (hu (.inr (.inr o8))),⟨by omega,by rw [dY,List.length_cons,List.length_cons];omega⟩,⟨by omega,by rw [dY,List.length_cons,List.length_cons];omega⟩⟩,(rv2 x y q).1,(rv2 x y q).2.1,Bc]
    simp only [bSq]
    rw [iP (dz _ (by omega)),(rv2 x y q).2.2,gf]
    rfl
   |[x],hl,_=>simp at hl
   |[],hl,_=>simp at hl
  |[a],h=>cases h
  |[],h=>cases h
 ·rw [iN o8] at h;cases h
theorem tu{s:ab}{n:Int}{e:List aL}(h:li s n e≠0):∃ x,lh s n e []=some [x]:=by
 unfold li at h
 split at h
 ·rename_i x hx;exact ⟨x,hx⟩
 ·exact absurd rfl h
theorem nE{s:ab}{V:Int→List Int}{n k:Int}{l:List aL}(hlo:∀ p∈l,okI .i64 p.n)(hV:∀ p∈l,(p.op=2∨p.op=3∨p.op=8)→e9 s V p.v)(h:li s n l≠0) :
  nf V k l l.length=[rB V k l]∧okI .i64 (rB V k l):=by
 obtain ⟨x,hx⟩:=tu h
 obtain ⟨rs,h1,h2,_,h4,_⟩:=wm (k:=k) hlo hV hx l.length (Nat.le_refl _)
 rw [List.take_length,hx] at h1
 simp only [sJ] at h1
 subst h1
 unfold rB
 match hs:nf V k l l.length,h2 with
 |[v],_ =>
  refine ⟨rfl,?_⟩
  rw [hs] at h4
  exact h4 v (by simp)
theorem Da{s:ab}{L:List (List Int)}{e:List aL}{n k:Int}(p3:List ap)(p4 p5:List Int)(p6:List ae)(p8:List (Int×List Int))(hv:e7 s)(he:e.length≤24)(hk:0≤k∧k<n)(hn:n≤300)(hL:L.length=s.vars.length)
  (hu:∀ p∈e,pB s p) (hlo:∀ p∈e,okI .i64 p.n) (hV:∀ p∈e,(p.op=2∨p.op=3∨p.op=8)→e9 s (eR L) p.v) (h:li s n e≠0) :
  gm e k p3 p4 p5 p6 L p8=some (rB (eR L) k e):=by
 obtain ⟨x,hx⟩:=tu h
 have inv:=wm (k:=k) hlo hV hx
 have key:aM (fun (y:List Int×Int)=>dr e k L y.1 y.2) (([]:List Int),((0:Nat):Int))=some ((nf (eR L) k e e.length).reverse):=by
  refine e8 (S:=List Int×Int) (fun i=>((nf (eR L) k e i).reverse,(i:Int))) e.length _ (fun i hi=>?_) ?_
  ·obtain ⟨rs,h1,h2,h3,h4,h5⟩:=inv i (by omega)
   obtain ⟨rs',hn'⟩:=h5 hi
   have hm:e.getD i default∈e:=aI hi
   show dr e k L (nf (eR L) k e i).reverse (i:Int)=_
   rw [C9 hi (by omega) hn' h2 (by omega) hk hn hL (hu _ hm) (hV _ hm) h4 hv,ue _ _ _ _ hi]
  ·show dr e k L _ (e.length:Int)=_
   unfold dr
   rw [iN (aW _)]
 unfold gm
 show (aM (fun (y:List Int×Int)=>dr e k L y.1 y.2) (([]:List Int),((0:Nat):Int))).bind _=_
 rw [key,(nE (k:=k) hlo hV h).1]
 unfold gC
 rfl
noncomputable def fa(k:Int):Int→List Int→List Int
  |_,[]=>[]
  |x,y :: r=>app k x y :: fa k (app k x y) r
theorem ft(k:Int):∀ (x:Int) (l:List Int),(fa k x l).length=l.length
  |_,[]=>rfl
  |x,y :: r=>by simp [fa,ft k (app k x y) r]
theorem qS(k:Int):∀ (x:Int) (l:List Int),okI .i64 x→(∀ y∈l,okI .i64 y)→∀ y∈fa k x l,okI .i64 y
  |_,[],_,_,y,hy=>by simp [fa] at hy
  |x,a :: r,hx,hl,y,hy=>by
    have ha:=(eP k x a hx (hl a (by simp))).2.2
    rw [fa] at hy
    rcases List.mem_cons.1 hy with rfl|hy
    · exact ha
    · exact qS k _ r ha (fun y h=>hl y (by simp [h])) y hy
noncomputable def qT(k x:Int)(l:List Int)(i:Nat):Int:=(l.take i).foldl (app k) x
theorem ug(k x:Int)(l:List Int)(i:Nat)(h:i<l.length):qT k x l (i+1)=app k (qT k x l i) (l.getD i default):=by
  have e:l.take (i+1)=l.take i++[l.getD i default]:=by
    rw [List.take_succ,List.getElem?_eq_getElem h]
    simp [List.getD,h]
  unfold qT
  rw [e,List.foldl_append]
  rfl
theorem yt(k x:Int)(l:List Int)(hx:okI .i64 x)(hl:∀ y∈l,okI .i64 y):∀ i,i≤l.length→okI .i64 (qT k x l i)
  |0,_=>by unfold qT;simpa using hx
  |i+1,h=>by
    rw [ug k x l i (by omega)]
    exact (eP k _ _ (yt k x l hx hl i (by omega)) (hl _ (aI (by omega)))).2.2
theorem xz(k:Int):∀ (x:Int) (l:List Int) (i:Nat),i<l.length→(fa k x l).getD i default=qT k x l (i+1)
  |x,y :: r,0,_=>by simp [fa,qT]
  |x,y :: r,i+1,h=>by
    have:=xz k (app k x y) r i (by simpa using h)
    simp only [fa,List.getD_cons_succ]
    rw [this]
    simp [qT]
theorem wn(k x:Int)(l:List Int)(i:Nat)(h:i<l.length):(fa k x l).take (i+1)=(fa k x l).take i++[qT k x l (i+1)]:=by
  have hl:i<(fa k x l).length:=by rw [ft];exact h
  rw [List.take_succ,List.getElem?_eq_getElem hl]
  have:=xz k x l i h
  simp only [List.getD,List.getElem?_eq_getElem hl,Option.getD_some] at this
  rw [← this];rfl
def bx(r:ae)(i:Nat):Int:=r.a.getD i default
noncomputable def jK(V:Int→List Int)(n:Nat)(e:List aL):List Int:=dZ n fun k=>rB V (k:Int) e
noncomputable def rO(l:List Int):List Int:=l.drop (l.length - 1)
noncomputable def mj(s:ab)(V:Int→List Int)(kp:List Int)(r:ae):List Int :=
  if r.op=1 then [r.n]
  else if r.op=2 then V (bx r 0)
  else if r.op=3 then dZ (clN s r.out_) fun i=>app r.k ((V (bx r 0)).getD i default) 0
  else if r.op=4 then dZ (clN s r.out_) fun i=>app r.k ((V (bx r 0)).getD i default) ((V (bx r 1)).getD i default)
  else if r.op=5 then (if (V (bx r 0)).getD 0 default=0 then V (bx r 2) else V (bx r 1))
  else if r.op=6 then rO (fa r.k ((V (bx r 0)).getD 0 default) (V (bx r 1)))
  else if r.op=7 then fa r.k ((V (bx r 0)).getD 0 default) (V (bx r 1))
  else if r.op=8 then dZ (clN s r.out_) fun _=>(V (bx r 0)).getD 0 default
  else if r.op=9 then [tq (V (bx r 0)) ((V (bx r 1)).getD 0 default) ((V (bx r 2)).getD 0 default)]
  else if r.op=10 then dZ (clN s r.out_) fun i=>if (i:Int)=(V (bx r 1)).getD 0 default then (V (bx r 2)).getD 0 default else (V (bx r 0)).getD i default
  else if r.op=11 then dZ (clN s r.out_) fun i=>(V (bx r 0)).getD (i+r.n).toNat default
  else if r.op=12 then V (bx r 0)++V (bx r 1)
  else if r.op=14 then jK V (clN s r.out_) r.e
  else if r.op=15 then rO (fa r.k ((V (bx r 0)).getD 0 default) (jK V r.n.toNat r.e))
  else if r.op=16 then fa r.k ((V (bx r 0)).getD 0 default) (jK V (clN s r.out_) r.e)
  else if kp=[] then V (bx r 0) else kp
theorem nP{n:Nat}{B:List Int×Int→Option ((List Int×Int) ⊕ List Int)}(g:Nat→Int)
    (hB:∀ i l,i<n→l.length=n→B (l,(i:Int))=some (.inl (l.set i (g i),((i+1:Nat):Int)))) (hE:∀ l,B (l,(n:Int))=some (.inr l)):aM B (List.replicate n 0,((0:Nat):Int))=some (dZ n g):=by
  have h:=e8 (S:=List Int×Int) (fun i=>(dZ n (fun u=>if u<i then g u else 0),(i:Int))) (body:=B) n (dZ n g) (fun i hi=>by
    show B (_,(i:Int))=_
    rw [hB i _ hi (jD _ _),vU]
    congr 3
    refine kj fun v _=>?_
    by_cases e:v=i
    · subst e;rw [iP rfl,iP (by omega)]
    · rw [iN e]
      by_cases h':v<i
      · rw [iP h',iP (by omega)]
      · rw [iN h',iN (by omega)]) (by
    show B (_,(n:Int))=_
    rw [hE]
    congr 2
    exact kj fun v hv=>iP hv)
  rw [zc]
  simpa using h
theorem rk{ys:List Int}{k x:Int}{B:List Int×Int×Int→Option ((List Int×Int×Int) ⊕ List Int)}(hx:okI .i64 x)(hys:∀ y∈ys,okI .i64 y)
    (hB:∀ i l a,i<ys.length→l.length≤i→okI .i64 a→B (l,a,(i:Int))=some (.inl (l++[app k a (ys.getD i default)],app k a (ys.getD i default),((i+1:Nat):Int)))) (hE:∀ l a,B (l,a,(ys.length:Int))=some (.inr l)) :
    aM B ([],x,((0:Nat):Int))=some (fa k x ys):=by
  have h:=e8 (S:=List Int×Int×Int) (fun i=>((fa k x ys).take i,qT k x ys i,(i:Int))) (body:=B) ys.length (fa k x ys) (fun i hi=>by
    show B (_,_,(i:Int))=_
    rw [hB i _ _ hi (by rw [List.length_take];omega) (yt k x ys hx hys i (by omega)),← ug k x ys i hi,← wn k x ys i hi]) (by
    show B (_,_,(ys.length:Int))=_
    rw [hE,List.take_of_length_le (by rw [ft];omega)])
  simpa [qT] using h
structure ot (s:ab) (V:Int→List Int) (kp:List Int) (r:ae):Prop where
  v:e7 s
  g:ki s r
  ar:(r.a.length:Int)=aH r.op
  op:1≤r.op∧r.op≤16
  sh:yq s r.op r.n (nV s r.out_) (nV s (bx r 0)) (nV s (bx r 1)) (nV s (bx r 2)) r.e
  n:okI .i64 r.n
  e:∀ p∈r.e,okI .i64 p.n
  a:∀ i,i<r.a.length→(r.op=13→i=0)→e9 s V (bx r i)
  p:14≤r.op→∀ p∈r.e,(p.op=2∨p.op=3∨p.op=8)→e9 s V p.v
  k:kp=[]∨(kp.length=clN s r.out_∧∀ y∈kp,okI .i64 y)
theorem km{s:ab}{v w:Int}(h:nV s v=nV s w):clN s v=clN s w:=by unfold clN;rw [h]
theorem ml{s:ab}(hv:e7 s){v:Int}(h:inV s v):clN s v≤300:=by
  have:=aF hv h
  have:=(xx ⟨this.2.1,this.2.2⟩).2
  unfold clN nV
  omega
theorem iH(V:Int→List Int)(n:Nat)(e:List aL):(jK V n e).length=n:=jD _ _
theorem xA{l:List Int}(h:0<l.length):(rO l).length=1:=by unfold rO;rw [List.length_drop];omega
theorem xB{l:List Int}{y:Int}(h:y∈rO l):y∈l:=List.mem_of_mem_drop h
theorem lm{n:Nat}{g:Nat→Int}(h:∀ i,i<n→okI .i64 (g i)):∀ y∈dZ n g,okI .i64 y:=by
  intro y hy
  unfold dZ at hy
  obtain ⟨i,hi,rfl⟩:=List.mem_map.1 hy
  exact h i (List.mem_range.1 hi)
theorem Db{l:List Int}{a o:Int}(h:∀ y∈l,okI .i64 y)(ho:okI .i64 o):okI .i64 (tq l a o):=by
  unfold tq
  split
  · exact cN h _
  · exact ho
theorem Dc{s:ab}{V:Int→List Int}{kp:List Int}{r:ae}(h:ot s V kp r):(mj s V kp r).length=clN s r.out_∧∀ y∈mj s V kp r,okI .i64 y:=by
  have hop:=h.op
  have har:=h.ar
  have hcs:r.op=1∨r.op=2∨r.op=3∨r.op=4∨r.op=5∨r.op=6∨r.op=7∨r.op=8∨r.op=9∨r.op=10∨r.op=11∨r.op=12∨r.op=13∨r.op=14∨r.op=15∨r.op=16:=by omega
  have E:∀ i,i<r.a.length→(r.op=13→i=0)→e9 s V (bx r i):=h.a
  have hc:=jN s r.out_
  rcases hcs with o|o|o|o|o|o|o|o|o|o|o|o|o|o|o|o<;>(rw [o] at har;simp only [mj,o,Int.reduceEq,if_true,if_false,reduceIte])
  · exact ⟨(tt (h.sh.h1 o)).symm,fun y hy=>by rw [List.mem_singleton] at hy;rw [hy];exact h.n⟩
  · have e0 := E 0 (by have : aH 2 = 1 := by decide
                       omega) (fun h=>by omega)
    exact ⟨by rw [e0.len];exact km (h.sh.h2 o),e0.ok⟩
  · have e0 := E 0 (by have : aH 3 = 1 := by decide
                       omega) (fun h=>by omega)
    exact ⟨jD _ _,lm fun i _=>(eP _ _ _ (cN e0.ok i) oq).2.2⟩
  · have hp:aH 4=2:=by decide
    have e0:=E 0 (by omega) (fun h=>by omega)
    have e1:=E 1 (by omega) (fun h=>by omega)
    exact ⟨jD _ _,lm fun i _=>(eP _ _ _ (cN e0.ok i) (cN e1.ok i)).2.2⟩
  · have hp:aH 5=3:=by decide
    have e1:=E 1 (by omega) (fun h=>by omega)
    have e2:=E 2 (by omega) (fun h=>by omega)
    obtain ⟨_,q1,q2⟩:=h.sh.h5 o
    split
    · exact ⟨by rw [e2.len];exact km q2,e2.ok⟩
    · exact ⟨by rw [e1.len];exact km q1,e1.ok⟩
  · have hp:aH 6=2:=by decide
    have e0:=E 0 (by omega) (fun h=>by omega)
    have e1:=E 1 (by omega) (fun h=>by omega)
    obtain ⟨_,q1,q2⟩:=h.sh.h6 o
    have:=jN s (bx r 1)
    exact ⟨by rw [xA (by rw [ft,e1.len];omega),tt q1],fun y hy=>qS _ _ _ (cN e0.ok 0) e1.ok y (xB hy)⟩
  · have hp:aH 7=2:=by decide
    have e0:=E 0 (by omega) (fun h=>by omega)
    have e1:=E 1 (by omega) (fun h=>by omega)
    obtain ⟨_,q1,q2⟩:=h.sh.h7 o
    exact ⟨by rw [ft,e1.len];exact km q1,fun y hy=>qS _ _ _ (cN e0.ok 0) e1.ok y hy⟩
  · have hp:aH 8=1:=by decide
    have e0:=E 0 (by omega) (fun h=>by omega)
    exact ⟨jD _ _,lm fun i _=>cN e0.ok 0⟩
  · have hp:aH 9=3:=by decide
    have e0:=E 0 (by omega) (fun h=>by omega)
    have e2:=E 2 (by omega) (fun h=>by omega)
    obtain ⟨_,_,_,q⟩:=h.sh.h9 o
    exact ⟨(tt q).symm,fun y hy=>by rw [List.mem_singleton] at hy;rw [hy];exact Db e0.ok (cN e2.ok 0)⟩
  · have hp:aH 10=3:=by decide
    have e0:=E 0 (by omega) (fun h=>by omega)
    have e2:=E 2 (by omega) (fun h=>by omega)
    exact ⟨jD _ _,lm fun i _=>by split;exact cN e2.ok 0;exact cN e0.ok i⟩
  · have hp:aH 11=1:=by decide
    have e0:=E 0 (by omega) (fun h=>by omega)
    exact ⟨jD _ _,lm fun i _=>cN e0.ok _⟩
  · have hp:aH 12=2:=by decide
    have e0:=E 0 (by omega) (fun h=>by omega)
    have e1:=E 1 (by omega) (fun h=>by omega)
    obtain ⟨q1,q2,q3⟩:=h.sh.h12 o
    refine ⟨?_,fun y hy=>?_⟩
    · rw [List.length_append,e0.len,e1.len]
      have a1:=mi q1
      have a2:=mi q2
      have a3:=mi (s:=s) (v:=r.out_) (by omega)
      omega
    · rcases List.mem_append.1 hy with hy|hy
      · exact e0.ok y hy
      · exact e1.ok y hy
  · have hp:aH 13=2:=by decide
    have e0:=E 0 (by omega) (fun _=>rfl)
    obtain ⟨q1,q2⟩:=h.sh.h13 o
    rcases h.k with hk|hk
    · rw [iP hk];exact ⟨by rw [e0.len];exact km q1,e0.ok⟩
    · by_cases z:kp=[]
      · rw [iP z];exact ⟨by rw [e0.len];exact km q1,e0.ok⟩
      · rw [iN z];exact hk
  · have q:=h.sh.h14 o
    exact ⟨iH _ _ _,lm fun i _=>(nE h.e (h.p (by omega)) q).2⟩
  · have hp:aH 15=1:=by decide
    have e0:=E 0 (by omega) (fun h=>by omega)
    obtain ⟨_,q1,q2,q3,q4⟩:=h.sh.h15 o
    exact ⟨by rw [xA (by rw [ft,iH];omega),tt q1],fun y hy=>qS _ _ _ (cN e0.ok 0) (lm fun i _=>(nE h.e (h.p (by omega)) q4).2) y (xB hy)⟩
  · have hp:aH 16=1:=by decide
    have e0:=E 0 (by omega) (fun h=>by omega)
    obtain ⟨_,q1,q2⟩:=h.sh.h16 o
    exact ⟨by rw [ft,iH],fun y hy=>qS _ _ _ (cN e0.ok 0) (lm fun i _=>(nE h.e (h.p (by omega)) q2).2) y hy⟩
theorem Dd(n:Nat)(h:n≤200000):er (n:Int)=some []:=by
 have w0:IntKind.wrap .i64 (0 - 0)=0:=wr (by omega) (by omega)
 unfold er
 rw [iN (by omega),w0,Int.sub_zero,wr (by omega) (by omega)]
 by_cases z:(n:Int)>0
 ·rw [iP z,iP ⟨by omega,dz _ (by omega)⟩,iP ⟨by omega,by omega⟩,List.take_zero]
 ·rw [iN z]
theorem Ay(a b:List Int)(ha:a.length≤6000)(hb:b.length≤120000):dK (lit [a,b])=some (a++b):=by
 unfold dK
 rw [show lit ([a,b]:List (List Int))=[a,b] from rfl]
 have hlen:(([a,b]:List (List Int)).length:Int)=2:=rfl
 have e1:IntKind.wrap .i64 (0+(a.length:Int))=(a.length:Int):=by rw [Int.zero_add];exact wr (by omega) (by omega)
 have e2:IntKind.wrap .i64 ((a.length:Int)+(b.length:Int))=((a.length+b.length:Nat):Int):=by rw [wr (by omega) (by omega)];omega
 have s1:br [a,b] 0 0=some (.inl ((a.length:Int),1)):=by
  unfold br
  rw [iP (by rw [hlen];omega),iP (by rw [hlen];omega)]
  show (if IntKind.wrap .i64 (0+(a.length:Int))<0 then none else (some (.inl (IntKind.wrap .i64 (0+(a.length:Int)),IntKind.wrap .i64 (0+1))):Option ((Int×Int) ⊕ Int)))=_
  rw [e1,iN (by omega)];rfl
 have s2:br [a,b] (a.length:Int) 1=some (.inl (((a.length+b.length:Nat):Int),2)):=by
  unfold br
  rw [iP (by rw [hlen];omega),iP (by rw [hlen];omega)]
  show (if IntKind.wrap .i64 ((a.length:Int)+(b.length:Int))<0 then none else (some (.inl (IntKind.wrap .i64 ((a.length:Int)+(b.length:Int)),IntKind.wrap .i64 (1+1))):Option ((Int×Int) ⊕ Int)))=_
  rw [e2,iN (by omega)];rfl
 have s3:∀ x,br [a,b] x 2=some (.inr x):=by
  intro x
  unfold br
  rw [iN (by rw [hlen];omega)]
 rw [cH (s':=((a.length:Int),1)) s1,cH (s':=(((a.length+b.length:Nat):Int),2)) s2,cP (s3 _)]
 simp only [bSq]
 unfold cB
 rw [Dd _ (by omega)]
 simp only [bSq]
 have t1:bq [a,b] [] 0=some (.inl (a,1)):=by
  unfold bq
  rw [iP (by rw [hlen];omega),iP (by rw [hlen];omega)]
  show (if cw (0+a.length) 8 then (some (.inl ([]++a,IntKind.wrap .i64 (0+1))):Option ((List Int×Int) ⊕ List Int)) else none)=_
  rw [iP (dz _ (by omega))];rfl
 have t2:bq [a,b] a 1=some (.inl (a++b,2)):=by
  unfold bq
  rw [iP (by rw [hlen];omega),iP (by rw [hlen];omega)]
  show (if cw (a.length+b.length) 8 then (some (.inl (a++b,IntKind.wrap .i64 (1+1))):Option ((List Int×Int) ⊕ List Int)) else none)=_
  rw [iP (dz _ (by omega))];rfl
 have t3:bq [a,b] (a++b) 2=some (.inr (a++b)):=by
  unfold bq
  rw [iN (by rw [hlen];omega)]
 rw [cH (s':=(a,1)) t1,cH (s':=(a++b,2)) t2,cP t3]
 rfl
theorem nQ(l:List Int)(h:l.length≤1000000):bB l=some l:=by
 unfold bB
 by_cases h0:l=[]
 ·rw [iP h0,h0]
 ·rw [iN h0,iP (dz _ h)]
theorem uh(n:Int):mt n=some (d9 n):=rfl
section
variable {s:ab} {L:List (List Int)} {M:List (Int×List Int)} {kp:List Int} {r:ae} (p4 p5:List Int) (p6:List ae)
theorem Az(h:ot s (eR L) kp r)(hL:L.length=s.vars.length)(i:Nat)(hi:i<r.a.length):aQ (i:Int) r s.vars p4 p5 p6 L M=some (eR L (bx r i)):=by
 have g:=h.g.a _ (aI hi)
 unfold inV at g
 unfold aQ
 rw [tN,iP ⟨inI hi,by omega⟩]
 rfl
theorem Ep(h:ot s (eR L) kp r)(hL:L.length=s.vars.length)(hi:0<r.a.length):aQ 0 r s.vars p4 p5 p6 L M=some (eR L (bx r 0)):=Az p4 p5 p6 h hL 0 hi
theorem Er(h:ot s (eR L) kp r)(hL:L.length=s.vars.length)(hi:1<r.a.length):aQ 1 r s.vars p4 p5 p6 L M=some (eR L (bx r 1)):=Az p4 p5 p6 h hL 1 hi
theorem Es(h:ot s (eR L) kp r)(hL:L.length=s.vars.length)(hi:2<r.a.length):aQ 2 r s.vars p4 p5 p6 L M=some (eR L (bx r 2)):=Az p4 p5 p6 h hL 2 hi
theorem yu(h:ot s (eR L) kp r)(hL:L.length=s.vars.length){n:Int}{k:Nat}(ho:14≤r.op)(hk:(k:Int)<n)(hn:n≤300)(ht:li s n r.e≠0):gm r.e (k:Int) s.vars p4 p5 p6 L M=some (rB (eR L) (k:Int) r.e) :=
 Da _ _ _ _ _ h.v h.g.e ⟨by omega,hk⟩ hn hL (h.g.u ho) h.e (h.p ho) ht
theorem ui(n:Nat)(hn:n≤300)(g:Nat→Int)(hf:∀ i:Nat,i<n→kP (i:Int) r s.vars p4 p5 p6 L M=some (g i)):kQ r (List.replicate n 0) s.vars p4 p5 p6 L M=some (dZ n g):=by
 have k:=nP (n:=n) (B:=fun (x:List Int×Int)=>dE r (List.replicate n 0) s.vars p4 p5 p6 L M x.1 x.2) g (fun i l hi hl=>by
  show dE r _ s.vars p4 p5 p6 L M l (i:Int)=_
  unfold dE
  rw [List.length_replicate,iP (by omega),hf i hi]
  simp only [bSq,tN]
  rw [iP (by omega),wrs i (by omega)]) (fun l=>by
  show dE r _ s.vars p4 p5 p6 L M l (n:Int)=_
  unfold dE
  rw [List.length_replicate,iN (by omega)])
 unfold kQ
 show (aM (fun (x:List Int×Int)=>dE r (List.replicate n 0) s.vars p4 p5 p6 L M x.1 x.2) (List.replicate n 0,((0:Nat):Int))).bind _=_
 rw [k]
 rfl
theorem sy(n:Nat)(hn:n≤300)(g:Nat→Int)(hf:∀ i:Nat,i<n→kR (i:Int) r s.vars p4 p5 p6 L M=some (g i)):jj r (List.replicate n 0) s.vars p4 p5 p6 L M=some (dZ n g):=by
 have k:=nP (n:=n) (B:=fun (x:List Int×Int)=>db r (List.replicate n 0) s.vars p4 p5 p6 L M x.1 x.2) g (fun i l hi hl=>by
  show db r _ s.vars p4 p5 p6 L M l (i:Int)=_
  unfold db
  rw [List.length_replicate,iP (by omega),hf i hi]
  simp only [bSq,tN]
  rw [iP (by omega),wrs i (by omega)]) (fun l=>by
  show db r _ s.vars p4 p5 p6 L M l (n:Int)=_
  unfold db
  rw [List.length_replicate,iN (by omega)])
 unfold jj
 show (aM (fun (x:List Int×Int)=>db r (List.replicate n 0) s.vars p4 p5 p6 L M x.1 x.2) (List.replicate n 0,((0:Nat):Int))).bind _=_
 rw [k]
 rfl
theorem sB(n:Nat)(hn:n≤300)(g:Nat→Int)(hf:∀ i:Nat,i<n→kU (i:Int) r s.vars p4 p5 p6 L M=some (g i)):jk r (List.replicate n 0) s.vars p4 p5 p6 L M=some (dZ n g):=by
 have k:=nP (n:=n) (B:=fun (x:List Int×Int)=>dc r (List.replicate n 0) s.vars p4 p5 p6 L M x.1 x.2) g (fun i l hi hl=>by
  show dc r _ s.vars p4 p5 p6 L M l (i:Int)=_
  unfold dc
  rw [List.length_replicate,iP (by omega),hf i hi]
  simp only [bSq,tN]
  rw [iP (by omega),wrs i (by omega)]) (fun l=>by
  show dc r _ s.vars p4 p5 p6 L M l (n:Int)=_
  unfold dc
  rw [List.length_replicate,iN (by omega)])
 unfold jk
 show (aM (fun (x:List Int×Int)=>dc r (List.replicate n 0) s.vars p4 p5 p6 L M x.1 x.2) (List.replicate n 0,((0:Nat):Int))).bind _=_
 rw [k]
 rfl
theorem sC(n:Nat)(hn:n≤300)(g:Nat→Int)(hf:∀ i:Nat,i<n→kV (i:Int) r s.vars p4 p5 p6 L M=some (g i)):jl r (List.replicate n 0) s.vars p4 p5 p6 L M=some (dZ n g):=by
 have k:=nP (n:=n) (B:=fun (x:List Int×Int)=>dd r (List.replicate n 0) s.vars p4 p5 p6 L M x.1 x.2) g (fun i l hi hl=>by
  show dd r _ s.vars p4 p5 p6 L M l (i:Int)=_
  unfold dd
  rw [List.length_replicate,iP (by omega),hf i hi]
  simp only [bSq,tN]
  rw [iP (by omega),wrs i (by omega)]) (fun l=>by
  show dd r _ s.vars p4 p5 p6 L M l (n:Int)=_
  unfold dd
  rw [List.length_replicate,iN (by omega)])
 unfold jl
 show (aM (fun (x:List Int×Int)=>dd r (List.replicate n 0) s.vars p4 p5 p6 L M x.1 x.2) (List.replicate n 0,((0:Nat):Int))).bind _=_
 rw [k]
 rfl
theorem sD(n:Nat)(hn:n≤300)(g:Nat→Int)(hf:∀ i:Nat,i<n→kW (i:Int) r s.vars p4 p5 p6 L M=some (g i)):jm r (List.replicate n 0) s.vars p4 p5 p6 L M=some (dZ n g):=by
 have k:=nP (n:=n) (B:=fun (x:List Int×Int)=>de r (List.replicate n 0) s.vars p4 p5 p6 L M x.1 x.2) g (fun i l hi hl=>by
  show de r _ s.vars p4 p5 p6 L M l (i:Int)=_
  unfold de
  rw [List.length_replicate,iP (by omega),hf i hi]
  simp only [bSq,tN]
  rw [iP (by omega),wrs i (by omega)]) (fun l=>by
  show de r _ s.vars p4 p5 p6 L M l (n:Int)=_
  unfold de
  rw [List.length_replicate,iN (by omega)])
 unfold jm
 show (aM (fun (x:List Int×Int)=>de r (List.replicate n 0) s.vars p4 p5 p6 L M x.1 x.2) (List.replicate n 0,((0:Nat):Int))).bind _=_
 rw [k]
 rfl
theorem sE(n:Nat)(hn:n≤300)(g:Nat→Int)(hf:∀ i:Nat,i<n→j7 (i:Int) r s.vars p4 p5 p6 L M=some (g i)):jn r (List.replicate n 0) s.vars p4 p5 p6 L M=some (dZ n g):=by
 have k:=nP (n:=n) (B:=fun (x:List Int×Int)=>df r (List.replicate n 0) s.vars p4 p5 p6 L M x.1 x.2) g (fun i l hi hl=>by
  show df r _ s.vars p4 p5 p6 L M l (i:Int)=_
  unfold df
  rw [List.length_replicate,iP (by omega),hf i hi]
  simp only [bSq,tN]
  rw [iP (by omega),wrs i (by omega)]) (fun l=>by
  show df r _ s.vars p4 p5 p6 L M l (n:Int)=_
  unfold df
  rw [List.length_replicate,iN (by omega)])
 unfold jn
 show (aM (fun (x:List Int×Int)=>df r (List.replicate n 0) s.vars p4 p5 p6 L M x.1 x.2) (List.replicate n 0,((0:Nat):Int))).bind _=_
 rw [k]
 rfl
theorem yv(k x:Int)(ys:List Int)(hn:ys.length≤300)(hx:okI .i64 x)(hys:∀ y∈ys,okI .i64 y)(hf:∀ i:Nat,i<ys.length→kS (i:Int) r s.vars p4 p5 p6 L M=some (ys.getD i default)):pm k x (ys.length:Int) r s.vars p4 p5 p6 L M=some (fa k x ys):=by
 have q:=rk (ys:=ys) (k:=k) (x:=x) (B:=fun (z:List Int×Int×Int)=>gj k (ys.length:Int) r s.vars p4 p5 p6 L M z.1 z.2.1 z.2.2) hx hys (fun i l a hi hl ha=>by
  show gj k (ys.length:Int) r s.vars p4 p5 p6 L M l a (i:Int)=_
  unfold gj
  rw [iP (ltI hi),hf i hi]
  simp only [bSq]
  rw [(eP k a _ ha (hys _ (aI hi))).1]
  simp only [bSq]
  rw [iP (dz _ (by omega)),wrs i (by omega)]
  rfl) (fun l a=>by
  show gj k (ys.length:Int) r s.vars p4 p5 p6 L M l a (ys.length:Int)=_
  unfold gj
  rw [iN (aW _)])
 unfold pm
 show (aM (fun (z:List Int×Int×Int)=>gj k (ys.length:Int) r s.vars p4 p5 p6 L M z.1 z.2.1 z.2.2) ([],x,((0:Nat):Int))).bind _=_
 rw [q]
 rfl
theorem wo(k x:Int)(ys:List Int)(hn:ys.length≤300)(hx:okI .i64 x)(hys:∀ y∈ys,okI .i64 y)(hf:∀ i:Nat,i<ys.length→kT (i:Int) r s.vars p4 p5 p6 L M=some (ys.getD i default)):mQ k x (ys.length:Int) r s.vars p4 p5 p6 L M=some (fa k x ys):=by
 have q:=rk (ys:=ys) (k:=k) (x:=x) (B:=fun (z:List Int×Int×Int)=>eI k (ys.length:Int) r s.vars p4 p5 p6 L M z.1 z.2.1 z.2.2) hx hys (fun i l a hi hl ha=>by
  show eI k (ys.length:Int) r s.vars p4 p5 p6 L M l a (i:Int)=_
  unfold eI
  rw [iP (ltI hi),hf i hi]
  simp only [bSq]
  rw [(eP k a _ ha (hys _ (aI hi))).1]
  simp only [bSq]
  rw [iP (dz _ (by omega)),wrs i (by omega)]
  rfl) (fun l a=>by
  show eI k (ys.length:Int) r s.vars p4 p5 p6 L M l a (ys.length:Int)=_
  unfold eI
  rw [iN (aW _)])
 unfold mQ
 show (aM (fun (z:List Int×Int×Int)=>eI k (ys.length:Int) r s.vars p4 p5 p6 L M z.1 z.2.1 z.2.2) ([],x,((0:Nat):Int))).bind _=_
 rw [q]
 rfl
theorem wq(k x:Int)(ys:List Int)(hn:ys.length≤300)(hx:okI .i64 x)(hys:∀ y∈ys,okI .i64 y)(hf:∀ i:Nat,i<ys.length→j8 (i:Int) r s.vars p4 p5 p6 L M=some (ys.getD i default)):mR k x (ys.length:Int) r s.vars p4 p5 p6 L M=some (fa k x ys):=by
 have q:=rk (ys:=ys) (k:=k) (x:=x) (B:=fun (z:List Int×Int×Int)=>eJ k (ys.length:Int) r s.vars p4 p5 p6 L M z.1 z.2.1 z.2.2) hx hys (fun i l a hi hl ha=>by
  show eJ k (ys.length:Int) r s.vars p4 p5 p6 L M l a (i:Int)=_
  unfold eJ
  rw [iP (ltI hi),hf i hi]
  simp only [bSq]
  rw [(eP k a _ ha (hys _ (aI hi))).1]
  simp only [bSq]
  rw [iP (dz _ (by omega)),wrs i (by omega)]
  rfl) (fun l a=>by
  show eJ k (ys.length:Int) r s.vars p4 p5 p6 L M l a (ys.length:Int)=_
  unfold eJ
  rw [iN (aW _)])
 unfold mR
 show (aM (fun (z:List Int×Int×Int)=>eJ k (ys.length:Int) r s.vars p4 p5 p6 L M z.1 z.2.1 z.2.2) ([],x,((0:Nat):Int))).bind _=_
 rw [q]
 rfl
theorem ws(k x:Int)(ys:List Int)(hn:ys.length≤300)(hx:okI .i64 x)(hys:∀ y∈ys,okI .i64 y)(hf:∀ i:Nat,i<ys.length→ka (i:Int) r s.vars p4 p5 p6 L M=some (ys.getD i default)):mS k x (ys.length:Int) r s.vars p4 p5 p6 L M=some (fa k x ys):=by
 have q:=rk (ys:=ys) (k:=k) (x:=x) (B:=fun (z:List Int×Int×Int)=>eM k (ys.length:Int) r s.vars p4 p5 p6 L M z.1 z.2.1 z.2.2) hx hys (fun i l a hi hl ha=>by
  show eM k (ys.length:Int) r s.vars p4 p5 p6 L M l a (i:Int)=_
  unfold eM
  rw [iP (ltI hi),hf i hi]
  simp only [bSq]
  rw [(eP k a _ ha (hys _ (aI hi))).1]
  simp only [bSq]
  rw [iP (dz _ (by omega)),wrs i (by omega)]
  rfl) (fun l a=>by
  show eM k (ys.length:Int) r s.vars p4 p5 p6 L M l a (ys.length:Int)=_
  unfold eM
  rw [iN (aW _)])
 unfold mS
 show (aM (fun (z:List Int×Int×Int)=>eM k (ys.length:Int) r s.vars p4 p5 p6 L M z.1 z.2.1 z.2.2) ([],x,((0:Nat):Int))).bind _=_
 rw [q]
 rfl
theorem Bd(l:List Int)(h:0<l.length)(hl:l.length≤300):(if (0≤(IntKind.wrap .i64 ((l.length:Int) - 1))∧(IntKind.wrap .i64 ((l.length:Int) - 1))≤(l.length:Int)) then (some (l.drop ((IntKind.wrap .i64 ((l.length:Int) - 1)).toNat))) else none)=some (rO l):=by
 rw [wr (by omega) (by omega),iP (by omega)]
 unfold rO
 rw [show ((l.length:Int) - 1).toNat=l.length - 1 by omega]
end
theorem Gs{s:ab}{L:List (List Int)}{M:List (Int×List Int)}{r:ae}(p4 p5:List Int)(p6:List ae)(i:Nat)(hi:i<9000000)(h:ot s (eR L) ((mgL M (i:Int)).getD []) r)(hL:L.length=s.vars.length) :
  mT (i:Int) r s.vars p4 p5 p6 L M=some (mj s (eR L) ((mgL M (i:Int)).getD []) r):=by
 have hop:=h.op
 have har:=h.ar
 have hcs:r.op=1∨r.op=2∨r.op=3∨r.op=4∨r.op=5∨r.op=6∨r.op=7∨r.op=8∨r.op=9∨r.op=10∨r.op=11∨r.op=12∨r.op=13∨r.op=14∨r.op=15∨r.op=16:=by omega
 have E:∀ i,i<r.a.length→(r.op=13→i=0)→e9 s (eR L) (bx r i):=h.a
 have ho:=h.g.o
 have ho':=ho
 have hn:=ml h.v ho
 have hc1:=jN s r.out_
 unfold inV at ho'
 have A0:=Ep p4 p5 p6 (M:=M) h hL
 have A1:=Er p4 p5 p6 (M:=M) h hL
 have A2:=Es p4 p5 p6 (M:=M) h hL
 have hcv:d9 (s.vars.getD r.out_.toNat default).n=(clN s r.out_:Int):=by
  show d9 (nV s r.out_)=_
  have:1≤d9 (nV s r.out_):=by unfold d9;split<;>omega
  unfold clN;omega
 have cl:∀ v,inV s v→e9 s (eR L) v→(eR L v).length≤300∧0<(eR L v).length:=fun v hv e=>by
  have:=ml h.v hv
  have:=jN s v
  rw [e.len];omega
 have ain:∀ i,i<r.a.length→inV s (bx r i):=fun i hi=>h.g.a _ (aI hi)
 unfold mT
 rw [iP ho',uh,hcv]
 simp only [bSq,tN]
 rw [iP ⟨by omega,dz _ (by omega)⟩]
 rcases hcs with o|o|o|o|o|o|o|o|o|o|o|o|o|o|o|o<;>(rw [o] at har;simp only [mj,o,Int.reduceEq,if_true,if_false,reduceIte])
 ·rfl
 ·have hp:aH 2=1:=by decide
  have e0:=E 0 (by omega) (fun h=>by omega)
  rw [A0 (by omega)]
  simp only [bSq]
  rw [nQ _ (by have:=(cl _ (ain 0 (by omega)) e0).1;omega)]
  rfl
 ·have hp:aH 3=1:=by decide
  have e0:=E 0 (by omega) (fun h=>by omega)
  have l0:(eR L (bx r 0)).length=clN s r.out_:=by rw [e0.len];exact km (h.sh.h3 o)
  rw [ui p4 p5 p6 _ hn _ (fun j hj=>by
   unfold kP
   rw [A0 (by omega)]
   simp only [bSq,tN]
   rw [iP (by omega),(eP r.k _ 0 (cN e0.ok j) oq).1]
   rfl)]
  rfl
 ·have hp:aH 4=2:=by decide
  have e0:=E 0 (by omega) (fun h=>by omega)
  have e1:=E 1 (by omega) (fun h=>by omega)
  obtain ⟨q0,q1⟩:=h.sh.h4 o
  have l0:(eR L (bx r 0)).length=clN s r.out_:=by rw [e0.len];exact km q0
  have l1:(eR L (bx r 1)).length=clN s r.out_:=by rw [e1.len];exact km q1
  rw [sy p4 p5 p6 _ hn _ (fun j hj=>by
   unfold kR
   rw [A0 (by omega),A1 (by omega)]
   simp only [bSq,tN]
   rw [iP (by omega),iP (by omega),(eP r.k _ _ (cN e0.ok j) (cN e1.ok j)).1]
   rfl)]
  rfl
 ·have hp:aH 5=3:=by decide
  have e0:=E 0 (by omega) (fun h=>by omega)
  have e1:=E 1 (by omega) (fun h=>by omega)
  have e2:=E 2 (by omega) (fun h=>by omega)
  have c0:=cl _ (ain 0 (by omega)) e0
  have c1:=cl _ (ain 1 (by omega)) e1
  have c2:=cl _ (ain 2 (by omega)) e2
  rw [A0 (by omega),A1 (by omega),A2 (by omega)]
  simp only [bSq]
  rw [iP (by omega),nQ _ (by omega),nQ _ (by omega)]
  simp only [bSq]
  by_cases z:(eR L (bx r 0)).getD 0 default=0
  ·rw [iN (by simpa using z),iP z]
  ·rw [iP z,iN z]
 ·have hp:aH 6=2:=by decide
  have e0:=E 0 (by omega) (fun h=>by omega)
  have e1:=E 1 (by omega) (fun h=>by omega)
  have c0:=cl _ (ain 0 (by omega)) e0
  have c1:=cl _ (ain 1 (by omega)) e1
  rw [A0 (by omega),A1 (by omega)]
  simp only [bSq]
  rw [iP (by omega),yv p4 p5 p6 _ _ (eR L (bx r 1)) c1.1 (cN e0.ok 0) e1.ok (fun j hj=>by
   unfold kS
   rw [A1 (by omega)]
   simp only [bSq,tN]
   rw [iP (by omega)])]
  simp only [bSq]
  exact Bd _ (by rw [ft];omega) (by rw [ft];omega)
 ·have hp:aH 7=2:=by decide
  have e0:=E 0 (by omega) (fun h=>by omega)
  have e1:=E 1 (by omega) (fun h=>by omega)
  have c0:=cl _ (ain 0 (by omega)) e0
  have c1:=cl _ (ain 1 (by omega)) e1
  rw [A0 (by omega),A1 (by omega)]
  simp only [bSq]
  rw [iP (by omega),wo p4 p5 p6 _ _ (eR L (bx r 1)) c1.1 (cN e0.ok 0) e1.ok (fun j hj=>by
   unfold kT
   rw [A1 (by omega)]
   simp only [bSq,tN]
   rw [iP (by omega)])]
  rfl
 ·have hp:aH 8=1:=by decide
  have e0:=E 0 (by omega) (fun h=>by omega)
  have c0:=cl _ (ain 0 (by omega)) e0
  rw [sB p4 p5 p6 _ hn _ (fun j hj=>by
   unfold kU
   rw [A0 (by omega)]
   simp only [bSq,tN]
   rw [iP (by omega)])]
  rfl
 ·have hp:aH 9=3:=by decide
  have e0:=E 0 (by omega) (fun h=>by omega)
  have e1:=E 1 (by omega) (fun h=>by omega)
  have e2:=E 2 (by omega) (fun h=>by omega)
  have c1:=cl _ (ain 1 (by omega)) e1
  have c2:=cl _ (ain 2 (by omega)) e2
  rw [A0 (by omega),A1 (by omega),A2 (by omega)]
  simp only [bSq]
  rw [iP (by omega),iP (by omega),Bc]
  rfl
 ·have hp:aH 10=3:=by decide
  have e0:=E 0 (by omega) (fun h=>by omega)
  have e1:=E 1 (by omega) (fun h=>by omega)
  have e2:=E 2 (by omega) (fun h=>by omega)
  have c1:=cl _ (ain 1 (by omega)) e1
  have c2:=cl _ (ain 2 (by omega)) e2
  have l0:(eR L (bx r 0)).length=clN s r.out_:=by rw [e0.len];exact km (h.sh.h10 o).1
  rw [sC p4 p5 p6 _ hn (fun i=>if (i:Int)=(eR L (bx r 1)).getD 0 default then (eR L (bx r 2)).getD 0 default else (eR L (bx r 0)).getD i default) (fun j hj=>by
   unfold kV
   rw [A0 (by omega),A1 (by omega),A2 (by omega)]
   simp only [bSq,tN]
   rw [iP (by omega)]
   by_cases z:(j:Int)=(eR L (bx r 1)).getD 0 default
   ·rw [iP z,iP (by omega),iP z]
   ·rw [iN z,iP (by omega),iN z])]
  rfl
 ·have hp:aH 11=1:=by decide
  have e0:=E 0 (by omega) (fun h=>by omega)
  obtain ⟨q1,q2,q3,q4⟩:=h.sh.h11 o
  have l0:=e0.len
  have a0:=mi q1
  have a1:=mi q2
  have g0:=aF h.v (ain 0 (by omega))
  have g0':nV s (bx r 0)≤300:=g0.2.2
  rw [sD p4 p5 p6 _ hn _ (fun j hj=>by
   unfold kW
   rw [A0 (by omega)]
   simp only [bSq]
   rw [wr (n:=(j:Int)+r.n) (by omega) (by omega),iP (by omega)])]
  rfl
 ·have hp:aH 12=2:=by decide
  have e0:=E 0 (by omega) (fun h=>by omega)
  have e1:=E 1 (by omega) (fun h=>by omega)
  have c0:=cl _ (ain 0 (by omega)) e0
  have c1:=cl _ (ain 1 (by omega)) e1
  rw [A0 (by omega),A1 (by omega)]
  simp only [bSq]
  rw [Ay _ _ (by omega) (by omega)]
  rfl
 ·have hp:aH 13=2:=by decide
  have e0:=E 0 (by omega) (fun _=>rfl)
  have c0:=cl _ (ain 0 (by omega)) e0
  rw [iP (by omega),A0 (by omega)]
  simp only [bSq]
  rw [nQ _ (by omega)]
  simp only [bSq]
  exact (apply_ite some _ _ _).symm
 ·have q:=h.sh.h14 o
  have hcc:(clN s r.out_:Int)=d9 (nV s r.out_):=hcv.symm
  rw [sE p4 p5 p6 _ hn (fun j=>rB (eR L) (j:Int) r.e) (fun j hj=>by
   unfold j7
   rw [yu p4 p5 p6 h hL (n:=d9 (nV s r.out_)) (by omega) (by omega) (by omega) q]
   rfl)]
  rfl
 ·have hp:aH 15=1:=by decide
  have e0:=E 0 (by omega) (fun h=>by omega)
  have c0:=cl _ (ain 0 (by omega)) e0
  obtain ⟨_,q1,q2,q3,q4⟩:=h.sh.h15 o
  rw [A0 (by omega)]
  simp only [bSq]
  have hlen:((jK (eR L) r.n.toNat r.e).length:Int)=r.n:=by rw [iH];omega
  have f:=wq p4 p5 p6 (r:=r) (s:=s) (L:=L) (M:=M) r.k ((eR L (bx r 0)).getD 0 default) (jK (eR L) r.n.toNat r.e) (by omega) (cN e0.ok 0) (lm fun i _=>(nE h.e (h.p (by omega)) q4).2) (fun j hj=>by
   rw [iH] at hj
   unfold j8
   rw [yu p4 p5 p6 h hL (n:=r.n) (by omega) (by omega) (by omega) q4]
   unfold jK
   rw [qM hj]
   rfl)
  rw [hlen] at f
  rw [iP (by omega),f]
  simp only [bSq]
  exact Bd _ (by rw [ft];omega) (by rw [ft];omega)
 ·have hp:aH 16=1:=by decide
  have e0:=E 0 (by omega) (fun h=>by omega)
  have c0:=cl _ (ain 0 (by omega)) e0
  obtain ⟨_,q1,q2⟩:=h.sh.h16 o
  have a1:=mi q1
  have g0':nV s r.out_≤300:=(aF h.v ho).2.2
  rw [A0 (by omega)]
  simp only [bSq]
  have f:=ws p4 p5 p6 (r:=r) (s:=s) (L:=L) (M:=M) r.k ((eR L (bx r 0)).getD 0 default) (jK (eR L) (clN s r.out_) r.e) (by rw [iH];omega) (cN e0.ok 0) (lm fun i _=>(nE h.e (h.p (by omega)) q2).2) (fun j hj=>by
   rw [iH] at hj
   unfold ka
   rw [yu p4 p5 p6 h hL (n:=nV s r.out_) (by omega) (by omega) (by omega) q2]
   unfold jK
   rw [qM hj]
   rfl)
  rw [iH] at f
  rw [iP (by omega),f]
  rfl
def rl(s:ab)(i:Nat):ae:=s.rules.getD i default
inductive Nd (s:ab):Nat→Prop
 |base (i:Nat) (hi:i<s.rules.length) (h:(rl s i).out_∈s.out_):Nd s i
 |step (i k:Nat) (hi:i<s.rules.length) (hk:Nd s k) (h:(rl s i).out_∈cX (rl s k)):Nd s i
theorem Nd.lt{s:ab}{i:Nat}(h:Nd s i):i<s.rules.length:=by cases h<;>assumption
def Fl(s:ab)(l:List Bool):Prop:=l.length=s.rules.length∧∀ i,i<s.rules.length→(l.getD i default=true↔Nd s i)
abbrev fl(l:List Bool)(i:Nat):Prop:=l.getD i default=true
def clo(s:ab)(l:List Bool):Prop:=∀ i,i<s.rules.length→((rl s i).out_∈s.out_∨∃ k,k<s.rules.length∧fl l k∧(rl s i).out_∈cX (rl s k))→fl l i
theorem Fl.of{s:ab}{l:List Bool}(hl:l.length=s.rules.length)(h:∀ i,i<s.rules.length→fl l i→Nd s i)(hc:clo s l):Fl s l:=by
 refine ⟨hl,fun i hi=>⟨h i hi,fun hn=>?_⟩⟩
 clear hi
 induction hn with
 |base i hi h=>exact hc i hi (.inl h)
 |step i k hi hk h ih=>exact hc i hi (.inr ⟨k,hk.lt,ih,h⟩)
structure WI (s:ab) (l:List Bool) (row:List Int):Prop where
 len:l.length=s.rules.length
 snd:∀ i,i<s.rules.length→fl l i→Nd s i
 rowp:∀ v∈row,v∈s.out_∨∃ k,k<s.rules.length∧fl l k∧v∈cX (rl s k)
 cou:∀ i,i<s.rules.length→(rl s i).out_∈s.out_→fl l i∨(rl s i).out_∈row
 cus:∀ k,k<s.rules.length→fl l k→∀ i,i<s.rules.length→(rl s i).out_∈cX (rl s k)→fl l i∨(rl s i).out_∈row
end Pam
namespace Pam
open Go
theorem zs{V V':Int→List Int}{k:Int}{p:aL}{st:List Int}(hop:p.op=2∨p.op=3∨¬ (1≤p.op∧p.op≤7)→V p.v=V' p.v):oI V k p st=oI V' k p st:=by
  unfold oI
  by_cases o1:p.op=1
  · rw [iP o1,iP o1]
  rw [iN o1,iN o1]
  by_cases o2:p.op=2
  · rw [iP o2,iP o2,hop (.inl o2)]
  rw [iN o2,iN o2]
  by_cases o3:p.op=3
  · rw [iP o3,iP o3,hop (.inr (.inl o3))]
  rw [iN o3,iN o3]
  by_cases o4:p.op=4
  · rw [iP o4,iP o4]
  rw [iN o4,iN o4]
  by_cases o5:p.op=5
  · rw [iP o5,iP o5]
  rw [iN o5,iN o5]
  by_cases o6:p.op=6
  · rw [iP o6,iP o6]
  rw [iN o6,iN o6]
  by_cases o7:p.op=7
  · rw [iP o7,iP o7]
  rw [iN o7,iN o7,hop (.inr (.inr (by omega)))]
theorem wt{V V':Int→List Int}{k:Int}:∀ {l:List aL} {st:List Int},(∀ p∈l,p.op=2∨p.op=3∨¬ (1≤p.op∧p.op≤7)→V p.v=V' p.v)→yr V k l st=yr V' k l st
  |[],st,_=>rfl
  |p :: l,st,h=>by
    unfold yr
    rw [zs (h p (by simp))]
    exact wt fun q hq=>h q (by simp [hq])
theorem AA{V V':Int→List Int}{k:Int}{l:List aL}(h:∀ p∈l,p.op=2∨p.op=3∨¬ (1≤p.op∧p.op≤7)→V p.v=V' p.v):rB V k l=rB V' k l:=by
  unfold rB nf
  rw [wt fun p hp=>h p (List.mem_of_mem_take hp)]
theorem Et{s:ab}{n:Int}{p:aL}{rs rs':List Int}(h:dL s n p rs=some rs'):1≤p.op∧p.op≤8:=by
  unfold dL at h
  by_cases hc:1≤p.op∧p.op≤8
  · exact hc
  · rw [iN (by omega),iN (by omega),iN (by omega),iN (by omega),iN (by omega),iN (by omega),iN (by omega),iN (by omega)] at h
    cases h
theorem zt{s:ab}{n:Int}:∀ {l:List aL} {rs rs':List Int},lh s n l rs=some rs'→∀ p∈l,1≤p.op∧p.op≤8
  |[],_,_,_,p,hp=>by simp at hp
  |q :: l,rs,rs',h,p,hp=>by
    unfold lh at h
    cases hn:dL s n q rs with
    |none=>rw [hn] at h;cases h
    |some r =>
      rw [hn] at h
      rcases List.mem_cons.1 hp with rfl|hp
      · exact Et hn
      · exact zt h p hp
theorem wU{s:ab}{r:ae}{a b c o:Int}(sh:yq s r.op r.n o a b c r.e)(ho:14≤r.op∧r.op≤16):∀ p∈r.e,1≤p.op∧p.op≤8:=by
  have key:∀ n,li s n r.e≠0→∀ p∈r.e,1≤p.op∧p.op≤8:=fun n h=>by
    obtain ⟨x,hx⟩:=tu h
    exact zt hx
  rcases (show r.op=14∨r.op=15∨r.op=16 by omega) with o|o|o
  · exact key _ (sh.h14 o)
  · exact key _ (sh.h15 o).2.2.2.2
  · exact key _ (sh.h16 o).2.2
theorem qU{r:ae}{i:Nat}(hi:i<r.a.length)(h:r.op=13→i=0):bx r i∈bU r:=by
  unfold bU
  split
  · rename_i hc
    rw [h hc.1]
    simp [bx]
  · exact lC (aI hi)
theorem qV{r:ae}(ho:14≤r.op){p:aL}(hp:p∈r.e)(hn:p.op=2∨p.op=3∨p.op=8):p.v∈bU r:=by
  unfold bU
  rw [iN (by omega)]
  unfold cX
  rw [iN (by omega),oh]
  exact .inr ⟨p,hp,(Ba p).2 hn,rfl⟩
structure Be (s:ab) (r:ae):Prop where
  v:e7 s
  g:ki s r
  ar:(r.a.length:Int)=aH r.op
  op:1≤r.op∧r.op≤16
  sh:yq s r.op r.n (nV s r.out_) (nV s (bx r 0)) (nV s (bx r 1)) (nV s (bx r 2)) r.e
  n:okI .i64 r.n
  e:∀ p∈r.e,okI .i64 p.n
theorem Be.ok{s:ab}{r:ae}{V:Int→List Int}{kp:List Int}(k:Be s r)(h:∀ v∈bU r,e9 s V v)(hk:kp=[]∨(kp.length=clN s r.out_∧∀ y∈kp,okI .i64 y)):ot s V kp r :=
  ⟨k.v,k.g,k.ar,k.op,k.sh,k.n,k.e,fun _ hi h13=>h _ (qU hi h13),fun ho _ hp hn=>h _ (qV ho hp hn),hk⟩
theorem uG{s:ab}{r:ae}{V V':Int→List Int}{kp:List Int}(k:Be s r)(h:∀ v∈bU r,V v=V' v):mj s V kp r=mj s V' kp r:=by
  have hop:=k.op
  have har:=k.ar
  have A:∀ i,i<r.a.length→(r.op=13→i=0)→V (bx r i)=V' (bx r i):=fun i hi h13=>h _ (qU hi h13)
  have T:14≤r.op→∀ n,jK V n r.e=jK V' n r.e:=fun ho n=>kj fun i _=>AA fun p hp hn=>by
    have:=wU k.sh ⟨ho,hop.2⟩ p hp
    exact h _ (qV ho hp (by omega))
  have hcs:r.op=1∨r.op=2∨r.op=3∨r.op=4∨r.op=5∨r.op=6∨r.op=7∨r.op=8∨r.op=9∨r.op=10∨r.op=11∨r.op=12∨r.op=13∨r.op=14∨r.op=15∨r.op=16:=by omega
  have p2:aH 2=1:=by decide
  have p3:aH 3=1:=by decide
  have p4:aH 4=2:=by decide
  have p5:aH 5=3:=by decide
  have p6:aH 6=2:=by decide
  have p7:aH 7=2:=by decide
  have p8:aH 8=1:=by decide
  have p9:aH 9=3:=by decide
  have p10:aH 10=3:=by decide
  have p11:aH 11=1:=by decide
  have p12:aH 12=2:=by decide
  have p13:aH 13=2:=by decide
  have p15:aH 15=1:=by decide
  have p16:aH 16=1:=by decide
  rcases hcs with o|o|o|o|o|o|o|o|o|o|o|o|o|o|o|o<;>(rw [o] at har;simp only [mj,o,Int.reduceEq,if_true,if_false,reduceIte])
  · rw [A 0 (by omega) (by omega)]
  · rw [A 0 (by omega) (by omega)]
  · rw [A 0 (by omega) (by omega),A 1 (by omega) (by omega)]
  · rw [A 0 (by omega) (by omega),A 1 (by omega) (by omega),A 2 (by omega) (by omega)]
  · rw [A 0 (by omega) (by omega),A 1 (by omega) (by omega)]
  · rw [A 0 (by omega) (by omega),A 1 (by omega) (by omega)]
  · rw [A 0 (by omega) (by omega)]
  · rw [A 0 (by omega) (by omega),A 1 (by omega) (by omega),A 2 (by omega) (by omega)]
  · rw [A 0 (by omega) (by omega),A 1 (by omega) (by omega),A 2 (by omega) (by omega)]
  · rw [A 0 (by omega) (by omega)]
  · rw [A 0 (by omega) (by omega),A 1 (by omega) (by omega)]
  · rw [A 0 (by omega) (fun _=>rfl)]
  · exact T (by omega) _
  · rw [A 0 (by omega) (by omega),T (by omega)]
  · rw [A 0 (by omega) (by omega),T (by omega)]
theorem qf{s:ab}(g:gg s)(hs:s.ok){i:Nat}(hi:i<s.rules.length):Be s (rl s i):=by
  have h:=oi (g.r i hi)
  have hr:ae.ok (rl s i):=hs.2.2.2 _ (aI hi)
  have hop:1≤(rl s i).op∧(rl s i).op≤16:=by
    have h5:=h.2.2.2.2.1
    unfold aH at h5
    by_cases hc:1≤(s.rules.getD i default).op∧(s.rules.getD i default).op≤16
    · exact hc
    · rw [iN hc] at h5;omega
  exact ⟨g.h.v,h.1,h.2.2.2.2.2.1,hop,C7 g.h.v h.1 h.2.2.2.2.1 h.2.2.2.2.2.1 h.2.2.2.2.2.2,hr.2.2.2.1,fun p hp=>(hr.2.2.2.2.2 p hp).2.2.2⟩
def upd(V:Int→List Int)(v:Int)(x:List Int):Int→List Int:=fun w=>if w=v then x else V w
theorem uj(V:Int→List Int)(v:Int)(x:List Int):upd V v x v=x:=iP rfl
theorem sF{V:Int→List Int}{v w:Int}(x:List Int)(h:w≠v):upd V v x w=V w:=iN h
def mm(P:Int→List Int)(r:ae):List Int:=if r.op=13 then P (bx r 1) else []
noncomputable def stV(s:ab)(P W:Int→List Int):Nat→Int→List Int
  |0=>W
  |i+1=>upd (stV s P W i) (rl s i).out_ (mj s (stV s P W i) (mm P (rl s i)) (rl s i))
noncomputable def pF(s:ab)(P W:Int→List Int):Int→List Int:=stV s P W s.rules.length
def ng(s:ab)(P:Int→List Int):Prop:=∀ i,i<s.rules.length→(rl s i).op=13→P (bx (rl s i) 1)=[]∨e9 s P (bx (rl s i) 1)
theorem yw{s:ab}(g:gg s)(hs:s.ok){P:Int→List Int}(hP:ng s P){i:Nat}(hi:i<s.rules.length):mm P (rl s i)=[]∨((mm P (rl s i)).length=clN s (rl s i).out_∧∀ y∈mm P (rl s i),okI .i64 y):=by
  unfold mm
  by_cases o:(rl s i).op=13
  · rw [iP o]
    rcases hP i hi o with h|h
    · exact .inl h
    · exact .inr ⟨by rw [h.len];exact km ((qf g hs hi).sh.h13 o).2,h.ok⟩
  · rw [iN o];exact .inl rfl
theorem yx{s:ab}(g:gg s)(hs:s.ok)(hso:kB s){P W:Int→List Int}(hP:ng s P)(hW:∀ v∈s.in_,e9 s W v):∀ i,i≤s.rules.length→∀ v∈bI s i,e9 s (stV s P W i) v
  |0,_,v,hv=>hW v (by simpa [bI] using hv)
  |i+1,hi,v,hv=>by
    have ih:=yx g hs hso hP hW i (by omega)
    have hil:i<s.rules.length:=by omega
    rw [qa s hil,List.mem_append,List.mem_singleton] at hv
    have R:=(qf g hs hil).ok (V:=stV s P W i) (fun v hv=>ih v (hso i hil v hv)) (yw g hs hP hil)
    have:=Dc R
    show e9 s (upd _ _ _) v
    by_cases e:v=(rl s i).out_
    · subst e
      exact ⟨by rw [uj];exact this.1,by rw [uj];exact this.2⟩
    · rcases hv with hv|hv
      · have q:=ih v hv
        exact ⟨by rw [sF _ e];exact q.len,by rw [sF _ e];exact q.ok⟩
      · exact absurd hv e
theorem tv{s:ab}(g:gg s)(P W:Int→List Int){i:Nat}:∀ {k:Nat},i≤k→k≤s.rules.length→∀ v∈bI s i,stV s P W k v=stV s P W i v
  | 0, h, _, v, _ => by obtain rfl : i = 0 := by omega
                        rfl
  |k+1,h,hk,v,hv=>by
    by_cases e:i=k+1
    · subst e;rfl
    · have hkl:k<s.rules.length:=by omega
      have hm:v∈bI s k:=by
        rw [mh s _ (by omega)] at hv ⊢
        rcases hv with hv|⟨j,hj,hv⟩
        · exact .inl hv
        · exact .inr ⟨j,by omega,hv⟩
      have hne:v≠(rl s k).out_:=fun e=>pE g hkl (by rw [e] at hm;exact hm)
      show upd _ _ _ v=_
      rw [sF _ hne]
      exact tv g P W (by omega) (by omega) v hv
structure Eu (s:ab) (P W V:Int→List Int):Prop where
  i:∀ v∈s.in_,V v=W v
  r:∀ j,j<s.rules.length→V (rl s j).out_=mj s V (mm P (rl s j)) (rl s j)
theorem De{s:ab}(g:gg s)(hs:s.ok)(hso:kB s)(P W:Int→List Int):Eu s P W (pF s P W):=by
  refine ⟨fun v hv=>?_,fun j hj=>?_⟩
  · exact tv g P W (Nat.zero_le _) (Nat.le_refl _) v (by simpa [bI] using hv)
  · have h1:pF s P W (rl s j).out_=stV s P W (j+1) (rl s j).out_:=tv g P W (by omega) (Nat.le_refl _) _ (by rw [qa s hj,List.mem_append,List.mem_singleton];exact .inr rfl)
    rw [h1]
    show upd _ _ _ _=_
    rw [uj]
    exact uG (qf g hs hj) fun v hv=>(tv g P W (by omega) (Nat.le_refl _) v (hso j hj v hv)).symm
def qq(s:ab)(l:List Int)(i:Nat):Nat:=((l.take i).map (clN s)).sum
theorem jI(s:ab)(l:List Int){i:Nat}(h:i<l.length):qq s l (i+1)=qq s l i+clN s (l.getD i default):=by
  unfold qq
  rw [b8 _ h,List.map_append,List.sum_append]
  simp
theorem rm(s:ab)(l:List Int){i:Nat}:∀ {k:Nat},i≤k→k≤l.length→qq s l i≤qq s l k
  | 0, h, _ => by obtain rfl : i = 0 := by omega
                  exact Nat.le_refl _
  |k+1,h,hk=>by
    by_cases e:i=k+1
    · subst e;exact Nat.le_refl _
    · rw [jI s l (by omega)]
      have:=rm s l (i:=i) (k:=k) (by omega) (by omega)
      omega
theorem m6{s:ab}(hv:e7 s){l:List Int}(hl:∀ x∈l,inV s x):∀ i,i≤l.length→qq s l i≤300 * i
  |0,_=>Nat.le_refl _
  |i+1,h=>by
    rw [jI s l (by omega)]
    have:=m6 hv hl i (by omega)
    have:=ml hv (hl _ (aI (show i<l.length by omega)))
    omega
theorem lF(s:ab)(v:Int):d9 (s.vars.getD v.toNat default).n=(clN s v:Int):=by
  show d9 (nV s v)=_
  have:1≤d9 (nV s v):=by unfold d9;split<;>omega
  unfold clN;omega
theorem wu{s:ab}(hv:e7 s){l:List Int}(hl:∀ x∈l,inV s x)(hb:l.length≤1000):iD s l=some (qq s l l.length:Int):=by
  have k:=e8 (S:=Int×Int) (fun i=>((qq s l i:Int),(i:Int))) (body:=fun x=>fD s l x.1 x.2) l.length (qq s l l.length:Int) (fun i hi=>by
    show fD s l _ (i:Int)=_
    have g:=hl _ (aI hi)
    have m:=m6 hv hl i (by omega)
    have c:=ml hv g
    unfold inV at g
    unfold fD
    rw [iP (ltI hi),iP (inI hi)]
    simp only [tN]
    rw [iP g,uh,lF]
    simp only [bSq]
    rw [wr (by omega) (by omega),wrs i (by omega),jI s l hi]
    rfl) (by
    show fD s l _ (l.length:Int)=_
    unfold fD
    rw [iN (aW _)])
  unfold iD
  show (aM (fun (x:Int×Int)=>fD s l x.1 x.2) (((qq s l 0:Nat):Int),((0:Nat):Int))).bind _=_
  rw [k]
  rfl
def ofI(s:ab)(i:Nat):Nat:=qq s s.in_ i
def ivI(s:ab)(i:Nat):Int:=s.in_.getD i default
def rC(s:ab)(inn:List Int)(i j:Nat):Option an :=
  if (vOf s (ivI s i)).elem=98∧¬ inn.getD (ofI s i+j) default=0∧¬ inn.getD (ofI s i+j) default=1 then some (an.mk 17 ((ofI s i+j:Nat):Int)) else none
def uk(s:ab)(inn:List Int)(i:Nat):Option an:=match dG (clN s (ivI s i)) (rC s inn i) () with|.inr z=>some z|.inl _=>none
def kG(s:ab)(inn:List Int):an :=
  if ¬ inn.length=ofI s s.in_.length then an.mk 17 (-1)
  else match dG s.in_.length (uk s inn) () with|.inr z=>z|.inl _=>an.mk 0 0
def inC(s:ab)(inn:List Int)(i:Nat):List Int:=(inn.take (ofI s i+clN s (ivI s i))).drop (ofI s i)
def inW(s:ab)(inn:List Int):Nat→Int→List Int
  |0=>fun _=>[]
  |i+1=>upd (inW s inn i) (ivI s i) (inC s inn i)
def inE(s:ab)(inn:List Int):Int→List Int:=inW s inn s.in_.length
theorem Bf{s:ab}{inn:List Int}(h:inn.length=ofI s s.in_.length){i:Nat}(hi:i<s.in_.length):(inC s inn i).length=clN s (ivI s i):=by
  have h1:ofI s (i+1)=ofI s i+clN s (ivI s i):=jI s s.in_ hi
  have h2:ofI s (i+1)≤ofI s s.in_.length:=rm s s.in_ (by omega) (Nat.le_refl _)
  unfold inC
  rw [List.length_drop,List.length_take]
  omega
theorem Df{s:ab}{inn:List Int}(h:inn.length=ofI s s.in_.length)(hin:∀ y∈inn,okI .i64 y):∀ i,i≤s.in_.length→∀ v∈s.in_.take i,e9 s (inW s inn i) v
  |0,_,v,hv=>by simp at hv
  |i+1,hi,v,hv=>by
    rw [b8 _ (by omega),List.mem_append,List.mem_singleton] at hv
    show e9 s (upd _ _ _) v
    by_cases e:v=ivI s i
    · subst e
      exact ⟨by rw [uj];exact Bf h (by omega),by rw [uj];exact fun y hy=>hin y (List.mem_of_mem_take (List.mem_of_mem_drop hy))⟩
    · rcases hv with hv|hv
      · have q:=Df h hin i (by omega) v hv
        exact ⟨by rw [sF _ e];exact q.len,by rw [sF _ e];exact q.ok⟩
      · exact absurd hv e
theorem qW{s:ab}{inn:List Int}(h:(kG s inn).code=0):inn.length=ofI s s.in_.length:=by
  unfold kG at h
  refine Classical.byContradiction fun hc=>?_
  rw [iP hc] at h
  cases h
theorem Dg{s:ab}{inn:List Int}(h:(kG s inn).code=0)(hin:∀ y∈inn,okI .i64 y):∀ v∈s.in_,e9 s (inE s inn) v:=fun v hv =>
  Df (qW h) hin s.in_.length (Nat.le_refl _) v (by simpa using hv)
structure wV (s:ab) (L:List (List Int)) (V:Int→List Int):Prop where
  len:L.length=s.vars.length
  at_:∀ v,inV s v→eR L v=V v
theorem wV.set{s:ab}{L:List (List Int)}{V:Int→List Int}(h:wV s L V){v:Int}(hv:inV s v)(x:List Int):wV s (L.set v.toNat x) (upd V v x):=by
  refine ⟨by rw [List.length_set];exact h.len,fun w hw=>?_⟩
  have hl:=h.len
  have hv':=hv
  have hw':=hw
  unfold inV at hv' hw'
  unfold eR
  by_cases e:w=v
  · subst e
    rw [uj,List.getD_eq_getElem?_getD,List.getElem?_set_self (by omega)]
    rfl
  · rw [sF _ e,List.getD_eq_getElem?_getD,List.getElem?_set_ne (by omega),← List.getD_eq_getElem?_getD]
    exact h.at_ w hw
theorem Ev(s:ab):wV s (List.replicate s.vars.length []) (fun _=>[]):=⟨by simp,fun v _=>by
  unfold eR
  rw [List.getD_eq_getElem?_getD,List.getElem?_replicate]
  split<;>rfl⟩
def inL(s:ab)(inn:List Int):Nat→List (List Int)
  |0=>List.replicate s.vars.length []
  |i+1=>(inL s inn i).set (ivI s i).toNat (inC s inn i)
theorem tw{s:ab}(g:nq s)(inn:List Int):∀ i,i≤s.in_.length→wV s (inL s inn i) (inW s inn i)
  |0,_=>Ev s
  |i+1,h=>(tw g inn i (by omega)).set (g.i _ (aI (by omega))) _
theorem zv{Z Y:Type}(f:Nat→Option Z)(h:Z→Y):∀ l:List Nat,l.findSome? (fun j=>(f j).map h)=(l.findSome? f).map h
  |[]=>rfl
  |j :: l=>by
    rw [List.findSome?_cons,List.findSome?_cons]
    cases hf:f j with
    |none=>exact zv f h l
    |some z=>rfl
theorem zw{Z Y:Type}(f:Nat→Option Z)(h:Nat→Z→Y):∀ l:List Nat,(∃ i z,i∈l∧f i=some z∧l.findSome? (fun j=>(f j).map (h j))=some (h i z)∧l.findSome? f=some z)∨(l.findSome? (fun j=>(f j).map (h j))=none∧l.findSome? f=none)
  |[]=>.inr ⟨rfl,rfl⟩
  |j :: l=>by
    rw [List.findSome?_cons,List.findSome?_cons]
    cases hf:f j with
    |none =>
      rcases zw f h l with ⟨i,z,h1,h2,h3,h4⟩|⟨h1,h2⟩
      · exact .inl ⟨i,z,by simp [h1],h2,h3,h4⟩
      · exact .inr ⟨h1,h2⟩
    |some z=>exact .inl ⟨j,z,by simp,hf,rfl,rfl⟩
theorem zx{T T' Z Y:Type}(n:Nat)(f:Nat→Option Z)(h:Nat→Z→Y)(t:T)(t':T'):(∃ i z,i<n∧f i=some z∧dG n (fun j=>(f j).map (h j)) t=.inr (h i z)∧dG n f t'=.inr z)∨(dG n (fun j=>(f j).map (h j)) t=.inl t∧dG n f t'=.inl t'):=by
  unfold dG
  rcases zw f h (List.range n) with ⟨i,z,h1,h2,h3,h4⟩|⟨h1,h2⟩
  · rw [h3,h4];exact .inl ⟨i,z,List.mem_range.1 h1,h2,rfl,rfl⟩
  · rw [h1,h2];exact .inr ⟨rfl,rfl⟩
theorem Dh{T Z Y:Type}(n:Nat)(f:Nat→Option Z)(h:Z→Y)(t:T):dG n (fun j=>(f j).map h) t=(match dG n f t with|.inl t=>.inl t|.inr z=>.inr (h z)):=by
  unfold dG
  rw [zv]
  cases (List.range n).findSome? f with
  |none=>rfl
  |some z=>rfl
theorem ul{s:ab}{inn:List Int}{i:Nat}{z:an}(h:uk s inn i=some z):z.code=17:=by
  unfold uk at h
  rcases cS (clN s (ivI s i)) (rC s inn i) () with ⟨e,_⟩|⟨j,y,_,hf,e⟩
  · rw [e] at h;cases h
  · rw [e] at h
    simp only [sJ] at h
    subst h
    unfold rC at hf
    split at hf
    · simp only [sJ] at hf;subst hf;rfl
    · cases hf
theorem AB{s:ab}(g:nq s){inn:List Int}(hl:inn.length=ofI s s.in_.length){i:Nat}(hi:i<s.in_.length)(L:List (List Int)) :
    aM (fun x23=>fP inn s.vars s.in_ L (ofI s i:Int) (i:Int) (clN s (ivI s i):Int) x23) 0=some (match dG (clN s (ivI s i)) (rC s inn i) () with|.inl t=>.inl t|.inr z=>.inr (z,L)):=by
  have h1:ofI s (i+1)=ofI s i+clN s (ivI s i):=jI s s.in_ hi
  have h2:ofI s (i+1)≤ofI s s.in_.length:=rm s s.in_ (by omega) (Nat.le_refl _)
  have hb:=m6 g.v g.i s.in_.length (Nat.le_refl _)
  have hni:=g.ni
  have hb':ofI s s.in_.length≤120000:=by unfold ofI;omega
  have hc:=ml g.v (g.i _ (aI hi))
  rw [bW (clN s (ivI s i)) (fun j=>(rC s inn i j).map fun z=>(z,L)) () (fun j hj=>by
    unfold fP
    rw [iP (by omega),wr (n:=(ofI s i:Int)+(j:Int)) (by omega) (by omega),iP (by omega),wrs j (by omega)]
    have hn:((ofI s i:Int)+(j:Int)).toNat=ofI s i+j:=by omega
    rw [hn]
    simp only [tN]
    unfold rC
    show (if (vOf s (ivI s i)).elem=98 then _ else _)=_
    have hcast:(((ofI s i+j:Nat):Int))=(ofI s i:Int)+(j:Int):=by omega
    rw [hcast]
    by_cases c1:(vOf s (ivI s i)).elem=98
    · rw [iP c1]
      by_cases c2:inn.getD (ofI s i+j) default=0
      · rw [iN (by simpa using c2),iN (fun h=>h.2.1 c2)];rfl
      · rw [iP c2]
        by_cases c3:inn.getD (ofI s i+j) default=1
        · rw [iN (by simpa using c3),iN (fun h=>h.2.2 c3)];rfl
        · rw [iP c3,iP ⟨c1,c2,c3⟩];rfl
    · rw [iN c1,iN (fun h=>c1 h.1)];rfl) (by
    unfold fP
    rw [iN (by omega)])]
  rw [Dh]
  cases dG (clN s (ivI s i)) (rC s inn i) ()<;>rfl
theorem Di{s:ab}(g:nq s)(inn:List Int)(R:List ae)(M:List (Int×List Int))(hR:R=s.rules) :
  ∃ L,j5 inn s.vars s.in_ s.out_ R (List.replicate s.vars.length []) M=some (kG s inn,L)∧((kG s inn).code=0→wV s L (inE s inn)):=by
 subst hR
 have hni:=g.ni
 have hw:iD (ab.mk s.vars s.in_ s.out_ s.rules) s.in_=some (ofI s s.in_.length:Int):=wu g.v g.i (by omega)
 unfold j5
 rw [hw]
 simp only [bSq]
 by_cases hl:inn.length=ofI s s.in_.length
 ·rw [iN (by omega)]
  have hb:=m6 g.v g.i s.in_.length (Nat.le_refl _)
  have hb':ofI s s.in_.length≤120000:=by unfold ofI;omega
  have key:=u4 (S:=List (List Int)×Int×Int) (fun i=>(inL s inn i,(ofI s i:Int),(i:Int))) (body:=fun x=>cW inn s.vars s.in_ x.1 x.2.1 x.2.2) s.in_.length (fun i=>(uk s inn i).map fun z=>(z,inL s inn i)) (inL s inn s.in_.length) (fun i hi=>by
   show cW inn s.vars s.in_ (inL s inn i) (ofI s i:Int) (i:Int)=_
   have gi:=g.i _ (aI hi)
   have gi':=gi
   have h1:ofI s (i+1)=ofI s i+clN s (ivI s i):=jI s s.in_ hi
   have h2:ofI s (i+1)≤ofI s s.in_.length:=rm s s.in_ (by omega) (Nat.le_refl _)
   have hc:=ml g.v gi
   have hc':clN s (ivI s i)≤300:=hc
   unfold inV at gi'
   unfold cW
   rw [iP (ltI hi),iP (inI hi)]
   simp only [tN]
   rw [iP gi',uh,lF]
   simp only [bSq]
   have gb:=AB g hl hi (inL s inn i)
   rw [show s.in_.getD i default=ivI s i from rfl,gb]
   unfold uk
   cases hu:dG (clN s (ivI s i)) (rC s inn i) () with
   |inr z=>rfl
   |inl u =>
    simp only [bSq,Sum.elim_inl,Option.map_none]
    unfold fO
    have hw2:IntKind.wrap .i64 ((ofI s i:Int)+(clN s (ivI s i):Int))=((ofI s i+clN s (ivI s i):Nat):Int):=by
     rw [wr (by omega) (by omega)];omega
    rw [hw2]
    simp only [tN]
    rw [iP (by omega),nQ _ (by rw [List.length_drop,List.length_take];omega)]
    simp only [bSq]
    have hL:=(tw g inn i (by omega)).len
    rw [iP (by omega)]
    unfold im
    rw [wrs i (by omega),h1]
    rfl) (by
   show cW inn s.vars s.in_ _ _ (s.in_.length:Int)=_
   unfold cW
   rw [iN (aW _)])
  have hrf:kG s inn=(match dG s.in_.length (uk s inn) () with|.inr z=>z|.inl _=>an.mk 0 0):=by
   unfold kG
   rw [iN (not_not_intro hl)]<;>(cases dG s.in_.length (uk s inn) ()<;>rfl)
  have key':aM (fun (x:List (List Int)×Int×Int)=>cW inn s.vars s.in_ x.1 x.2.1 x.2.2) (List.replicate s.vars.length [],0,0)=_:=key
  show ∃ L,(aM (fun (x:List (List Int)×Int×Int)=>cW inn s.vars s.in_ x.1 x.2.1 x.2.2) (List.replicate s.vars.length [],0,0)).bind _=_∧_
  rw [key',hrf]
  rcases zx s.in_.length (uk s inn) (fun i z=>(z,inL s inn i)) (inL s inn s.in_.length) () with ⟨i,z,hi,hf,e1,e2⟩|⟨e1,e2⟩
  ·rw [e1,e2]
   refine ⟨_,rfl,fun h=>?_⟩
   have:=ul hf
   simp only at h
   omega
  ·rw [e1,e2]
   exact ⟨_,rfl,fun _=>tw g inn s.in_.length (Nat.le_refl _)⟩
 ·rw [iP (by omega)]
  refine ⟨List.replicate s.vars.length [],?_,fun h=>absurd (qW h) hl⟩
  unfold kG
  rw [iP hl]
def um(s:ab)(V:Int→List Int):List Int:=(s.out_.map V).flatten
def zy(s:ab)(M:List (Int×List Int))(P:Int→List Int):Prop:=∀ i,i<s.rules.length→(mgL M (i:Int)).getD []=mm P (rl s i)
theorem zz(s:ab):zy s [] (fun _=>[]):=fun i _=>by
 unfold mm
 split<;>rfl
theorem wv(s:ab):ng s (fun _=>[]):=fun _ _ _=>.inl rfl
section
variable {s:ab} {P W:Int→List Int} {M:List (Int×List Int)}
theorem uH(g:gg s)(hs:s.ok)(hso:kB s)(hP:ng s P)(hW:∀ v∈s.in_,e9 s W v)(hM:zy s M P):∀ (k i:Nat) (L:List (List Int)),i+k=s.rules.length→wV s L (stV s P W i) →
  ∃ L',aM (fun (x:List (List Int)×Int)=>dh s.vars s.in_ s.out_ s.rules M x.1 x.2) (L,(i:Int))=some L'∧wV s L' (pF s P W)
 |0,i,L,hi,hL=>by
  obtain rfl:i=s.rules.length:=by omega
  refine ⟨L,cP ?_,hL⟩
  show dh s.vars s.in_ s.out_ s.rules M L _=_
  unfold dh
  rw [iN (aW _)]
 |k+1,i,L,hi,hL=>by
  have hil:i<s.rules.length:=by omega
  have hnr:=g.h.nr
  have K:=qf g hs hil
  have hneed:∀ v∈bU (rl s i),inV s v:=fun v hv=>(g.rule hil).2.1 v (vZ hv)
  have hE:∀ v∈bU (rl s i),e9 s (eR L) v:=fun v hv=>by
   have q:=yx g hs hso hP hW i (by omega) v (hso i hil v hv)
   have e:=hL.at_ v (hneed v hv)
   exact ⟨by rw [e];exact q.len,by rw [e];exact q.ok⟩
  have hk:=hM i hil
  have R:ot s (eR L) ((mgL M (i:Int)).getD []) (rl s i):=by rw [hk];exact K.ok hE (yw g hs hP hil)
  have e1:=Gs s.in_ s.out_ s.rules i (by omega) R hL.len
  rw [hk] at e1
  have e2:mj s (eR L) (mm P (rl s i)) (rl s i)=mj s (stV s P W i) (mm P (rl s i)) (rl s i):=uG K fun v hv=>hL.at_ v (hneed v hv)
  have ho:inV s (rl s i).out_:=K.g.o
  have hst:dh s.vars s.in_ s.out_ s.rules M L (i:Int)=some (.inl (L.set (rl s i).out_.toNat (mj s (stV s P W i) (mm P (rl s i)) (rl s i)),((i+1:Nat):Int))):=by
   unfold dh
   rw [iP (ltI hil),iP (inI hil)]
   simp only [tN]
   rw [show s.rules.getD i default=rl s i from rfl,e1,e2]
   simp only [bSq]
   have hl:=hL.len
   unfold inV at ho
   rw [iP (by omega),wrs i (by omega)]
  rw [cH (s:=(L,(i:Int))) hst]
  exact uH g hs hso hP hW hM k (i+1) _ (by omega) (hL.set ho _)
theorem un(g:gg s)(hs:s.ok){V:Int→List Int}{L:List (List Int)}(hL:wV s L V)(hV:∀ v∈bI s s.rules.length,e9 s V v)(hMl:M.length≤500000):∀ (k i:Nat) (N:List (Int×List Int)),i+k=s.rules.length→N.length≤M.length+i →
  (∀ j,j<i→(rl s j).op=13→mgL N (j:Int)=some (V (bx (rl s j) 1)))→(∀ j,(rl s j).op≠13→mgL N (j:Int)=mgL M (j:Int)) →
  ∃ N',aM (fun (x:List (Int×List Int)×Int)=>cp s.rules L x.1 x.2) (N,(i:Int))=some N'∧N'.length≤M.length+s.rules.length∧(∀ j,j<s.rules.length→(rl s j).op=13→mgL N' (j:Int)=some (V (bx (rl s j) 1)))∧(∀ j,(rl s j).op≠13→mgL N' (j:Int)=mgL M (j:Int))
 |0,i,N,hi,h1,h2,h3=>by
  obtain rfl:i=s.rules.length:=by omega
  refine ⟨N,cP ?_,h1,h2,h3⟩
  show cp s.rules L N _=_
  unfold cp
  rw [iN (aW _)]
 |k+1,i,N,hi,h1,h2,h3=>by
  have hil:i<s.rules.length:=by omega
  have hnr:=g.h.nr
  have K:=qf g hs hil
  by_cases o:(rl s i).op=13
  ·have har:=K.ar
   rw [o] at har
   have p13:aH 13=2:=by decide
   have hin:inV s (bx (rl s i) 1):=K.g.a _ (aI (by omega))
   have hmade:bx (rl s i) 1∈bI s s.rules.length:=g.u i hil _ (lC (aI (by unfold rl at har;omega)))
   have q:=hV _ hmade
   have hc:=jN s (bx (rl s i) 1)
   have hc2:=ml g.h.v hin
   have hst:cp s.rules L N (i:Int)=some (.inl (((i:Int),V (bx (rl s i) 1)) :: N,((i+1:Nat):Int))):=by
    unfold cp
    rw [iP (ltI hil),iP (inI hil)]
    simp only [tN]
    rw [show s.rules.getD i default=rl s i from rfl,iP o]
    have hl:=hL.len
    have hin':=hin
    unfold inV at hin'
    rw [show (rl s i).a.getD 1 default=bx (rl s i) 1 from rfl,iP ⟨by omega,by omega⟩,show L.getD (bx (rl s i) 1).toNat default=eR L (bx (rl s i) 1) from rfl,hL.at_ _ hin,nQ _ (by rw [q.len];omega)]
    simp only [bSq]
    rw [iP ⟨by omega,by omega,fun e=>by have:=q.len;rw [e] at this;simp at this;omega⟩,wrs i (by omega)]
   rw [cH (s:=(N,(i:Int))) hst]
   refine un g hs hL hV hMl k (i+1) _ (by omega) (by simp;omega) (fun j hj ho=>?_) (fun j ho=>?_)
   ·unfold mgL
    by_cases e:i=j
    ·subst e;rw [iP rfl]
    ·rw [iN (by omega)];exact h2 j (by omega) ho
   ·have hne:¬ (i:Int)=(j:Int):=fun e=>by
     have:i=j:=by omega
     subst this;exact ho o
    show (if (i:Int)=(j:Int) then some (V (bx (rl s i) 1)) else mgL N (j:Int))=_
    rw [iN hne]
    exact h3 j ho
  ·have hst:cp s.rules L N (i:Int)=some (.inl (N,((i+1:Nat):Int))):=by
    unfold cp
    rw [iP (ltI hil),iP (inI hil)]
    simp only [tN]
    rw [show s.rules.getD i default=rl s i from rfl,iN o,wrs i (by omega)]
   rw [cH (s:=(N,(i:Int))) hst]
   refine un g hs hL hV hMl k (i+1) N (by omega) (by omega) (fun j hj ho=>?_) h3
   by_cases e:j=i
   ·subst e;exact absurd ho o
   ·exact h2 j (by omega) ho
theorem Dj(g:gg s){V:Int→List Int}{L:List (List Int)}(hL:wV s L V)(hV:∀ v∈bI s s.rules.length,e9 s V v) :
  aM (fun (x:List Int×Int)=>dg s.out_ L x.1 x.2) ([],((0:Nat):Int))=some (um s V):=by
 have hno:=g.h.no
 have hin:∀ i,i<s.out_.length→inV s (s.out_.getD i default)∧(V (s.out_.getD i default)).length≤300:=fun i hi=>by
  have h1:=g.h.o _ (aI hi)
  have:=ml g.h.v h1
  exact ⟨h1,by rw [(hV _ (g.o _ (aI hi))).len];exact this⟩
 have hlen:∀ i,i≤s.out_.length→(((s.out_.take i).map V).flatten).length≤300 * i:=by
  intro i
  induction i with
  |zero=>intro _;simp
  |succ i ih =>
   intro h
   rw [b8 _ (by omega),List.map_append,List.flatten_append,List.length_append]
   have q1:=ih (by omega)
   have q2:=(hin i (by omega)).2
   have q3:(List.map V [s.out_.getD i default]).flatten.length=(V (s.out_.getD i default)).length:=by
    rw [List.map_cons,List.map_nil,List.flatten_cons,List.flatten_nil,List.append_nil]
   omega
 refine e8 (S:=List Int×Int) (fun i=>(((s.out_.take i).map V).flatten,(i:Int))) s.out_.length _ (fun i hi=>?_) ?_
 ·show dg s.out_ L _ (i:Int)=_
  have h1:=(hin i hi).1
  have h2:=(hin i hi).2
  have h3:=hlen i (by omega)
  have hl:=hL.len
  unfold dg
  rw [iP (ltI hi),iP (inI hi)]
  simp only [tN]
  rw [show L.getD (s.out_.getD i default).toNat default=eR L (s.out_.getD i default) from rfl,hL.at_ _ h1]
  unfold inV at h1
  rw [iP ⟨by omega,dz _ (by omega)⟩,wrs i (by omega),b8 _ hi,List.map_append,List.flatten_append]
  simp
 ·show dg s.out_ L _ (s.out_.length:Int)=_
  unfold dg
  rw [iN (aW _),List.take_length]
  rfl
theorem AC(g:gg s)(hs:s.ok)(hso:kB s)(hP:ng s P)(hM:zy s M P)(hMl:M.length≤500000)(inn:List Int)(hin:∀ y∈inn,okI .i64 y) :
  ∃ M',fW inn s.vars s.in_ s.out_ s.rules M=some (if (kG s inn).code=0 then um s (pF s P (inE s inn)) else [],kG s inn,M')∧((kG s inn).code≠0→M'=M) ∧
   ((kG s inn).code=0→zy s M' (pF s P (inE s inn))∧ng s (pF s P (inE s inn))∧M'.length≤M.length+400∧∀ v∈bI s s.rules.length,e9 s (pF s P (inE s inn)) v):=by
 have hnv:=g.h.nv
 have hnr:=g.h.nr
 obtain ⟨L,e1,h1⟩:=Di g.h inn s.rules M rfl
 unfold fW
 have hroom:cw s.vars.length 24:=om (by omega) (by omega)
 rw [iP ⟨by omega,hroom⟩,e1]
 simp only [bSq]
 by_cases c:(kG s inn).code=0
 ·rw [iN (by simpa using c),iP c]
  have hW:=Dg c hin
  obtain ⟨L',e2,h2⟩:=uH g hs hso hP hW hM s.rules.length 0 L (by omega) (h1 c)
  have hV:∀ v∈bI s s.rules.length,e9 s (pF s P (inE s inn)) v:=yx g hs hso hP hW s.rules.length (Nat.le_refl _)
  obtain ⟨M',e3,k1,k2,k3⟩:=un (M:=M) g hs h2 hV hMl s.rules.length 0 M (by omega) (by omega) (fun j hj=>by omega) (fun j _=>rfl)
  refine ⟨M',?_,fun h=>absurd c h,fun _=>⟨fun i hi=>?_,fun i hi o=>?_,by omega,hV⟩⟩
  ·show (aM (fun (x:List (List Int)×Int)=>dh s.vars s.in_ s.out_ s.rules M x.1 x.2) (L,((0:Nat):Int))).bind _=_
   rw [e2]
   simp only [bSq]
   unfold ff
   show (aM (fun (x:List (Int×List Int)×Int)=>cp s.rules L' x.1 x.2) (M,((0:Nat):Int))).bind _=_
   rw [e3]
   simp only [bSq]
   unfold fe
   show (aM (fun (x:List Int×Int)=>dg s.out_ L' x.1 x.2) ([],((0:Nat):Int))).bind _=_
   rw [Dj g h2 hV]
   simp only [bSq]
   unfold fd
   have hz:kG s inn=an.mk 0 0:=by
    have hlen:=qW c
    unfold kG at c ⊢
    rw [iN (not_not_intro hlen)] at c ⊢
    rcases cS s.in_.length (uk s inn) () with ⟨e,_⟩|⟨i,z,_,hf,e⟩
    ·rw [e]
    ·rw [e] at c
     have:=ul hf
     simp only at c
     omega
   rw [hz]
  ·by_cases o:(rl s i).op=13
   ·rw [k2 i hi o]
    unfold mm
    rw [iP o]
    rfl
   ·rw [k3 i o,hM i hi]
    unfold mm
    rw [iN o,iN o]
  ·have har:=(qf g hs hi).ar
   rw [o] at har
   have p13:aH 13=2:=by decide
   exact .inr (hV _ (g.u i hi _ (lC (aI (by unfold rl at har;omega)))))
 ·rw [iP c,iN c]
  exact ⟨M,rfl,fun _=>rfl,fun h=>absurd h c⟩
end
structure yy (A B:ab):Prop where
 v:A.vars=B.vars
 i:A.in_=B.in_
 o:A.out_=B.out_
 r:∀ j,j<B.rules.length→∃ i,i<A.rules.length∧rl A i=rl B j
theorem zA{A B:ab}(h:A.vars=B.vars)(v:Int):clN A v=clN B v:=by unfold clN nV vOf;rw [h]
theorem AD{A B:ab}(h:A.vars=B.vars)(V:Int→List Int)(kp:List Int)(r:ae):mj A V kp r=mj B V kp r:=by unfold mj;simp only [zA h]
theorem e9.vars{A B:ab}(h:A.vars=B.vars){V:Int→List Int}{v:Int}(e:e9 A V v):e9 B V v:=⟨by rw [e.len];exact zA h v,e.ok⟩
theorem Dk{A B:ab}(h:yy A B){P P' W V:Int→List Int}(hP:∀ j,j<B.rules.length→mm P (rl B j)=mm P' (rl B j))(f:Eu A P W V):Eu B P' W V:=by
 refine ⟨fun v hv=>f.i v (by rw [h.i];exact hv),fun j hj=>?_⟩
 obtain ⟨i,hi,e⟩:=h.r j hj
 have:=f.r i hi
 rw [e] at this
 rw [this,hP j hj,AD h.v]
theorem Dl{A B:ab}(h:yy A B)(inn:List Int):inE A inn=inE B inn∧kG A inn=kG B inn:=by
 obtain ⟨v,i,o,r⟩:=A
 obtain ⟨v',i',o',r'⟩:=B
 have h1:v=v':=h.v
 have h2:i=i':=h.i
 subst h1;subst h2
 have e1:∀ l k,qq (ab.mk v i o r) l k=qq (ab.mk v i o' r') l k:=fun l k=>rfl
 have e2:∀ k,inW (ab.mk v i o r) inn k=inW (ab.mk v i o' r') inn k:=by
  intro k
  induction k with
  |zero=>rfl
  |succ k ih =>
   show upd (inW _ inn k) _ _=upd (inW _ inn k) _ _
   rw [ih]
   rfl
 refine ⟨e2 _,?_⟩
 rfl
theorem Dm{s:ab}(hs:s.ok):(lE s).ok:=⟨hs.1,hs.2.1,hs.2.2.1,fun r hr=>by
 have hr':r∈(bz s).map (fun k=>s.rules.getD k default):=hr
 obtain ⟨k,hk,rfl⟩:=List.mem_map.1 hr'
 exact hs.2.2.2 _ (aI (oH hk))⟩
theorem AE{s:ab}(hc:(eY s).code=0)(hK:(bz s).length=s.rules.length):gg (lE s):=(mE (s:=lE s) (by rw [Aw hc hK])).1
theorem zB(s:ab){i:Nat}(hi:i<(bz s).length):rl (lE s) i=rl s ((bz s).getD i default):=rj s hi
theorem xC(s:ab):(lE s).rules.length=(bz s).length:=ri s (bz s)
theorem Dn(s:ab):mP s=some (if (eY s).code=0 then (if (bz s).length=s.rules.length then .inr (an.mk 0 0,[],0,0,s.vars,s.in_,s.out_,(lE s).rules) else .inl (qR s).2) else .inl (eY s)):=by
 unfold mP
 rw [En]
 simp only [bSq]
 by_cases hc:(eY s).code=0
 ·rw [iP hc,iP hc]
  unfold qR
  by_cases hK:(bz s).length=s.rules.length
  ·rw [iP hK,iP hK,iN (by simp)]
   rfl
  ·rw [iN hK,iN hK,iP (by simp)]
 ·rw [iN hc,iN hc,iP (by simpa using hc)]
theorem mn(l:List Int)(hl:l.length≤9000000):gn l l=some true:=by
 unfold gn
 rw [iN (by simp),bW l.length (fun _=>none) ()]
 ·rw [jH (fun _ _=>rfl)];rfl
 ·intro i hi
  unfold iW
  rw [iP (ltI hi),iP ⟨inI hi,inI hi⟩,iN (by simp),wrs i (by omega)]
 ·unfold iW;rw [iN (aW _)]
theorem yz(rows:List (List Int))(hl:rows.length≤9000000):∃ b,kY rows=some b∧(b=false→rows.length≤60∧∀ i,i<rows.length→(rows.getD i default).length≤10000):=by
 unfold kY
 by_cases c:(rows.length:Int)>60
 ·rw [iP c];exact ⟨true,rfl,fun h=>by cases h⟩
 rw [iN c,bW rows.length (fun i=>if ((rows.getD i default).length:Int)>10000 then some true else none) ()]
 ·rcases cS rows.length (fun i=>if ((rows.getD i default).length:Int)>10000 then some true else none) () with ⟨e,h⟩|⟨j,z,_,hf,e⟩
  ·rw [e]
   refine ⟨false,rfl,fun _=>⟨by omega,fun i hi=>?_⟩⟩
   have:=h i hi
   split at this
   ·cases this
   ·omega
  ·rw [e]
   refine ⟨z,rfl,fun h=>?_⟩
   split at hf
   ·simp_all
   ·cases hf
 ·intro i hi
  unfold iY
  rw [iP (ltI hi),iP (inI hi),tN,wrs i (by omega)]
  split<;>rfl
 ·unfold iY;rw [iN (aW _)]
theorem Do{s:ab}(g:gg s){V:Int→List Int}(hV:∀ v∈bI s s.rules.length,e9 s V v):(um s V).length≤120000:=by
 have hno:=g.h.no
 have key:∀ l:List Int,(∀ v∈l,(V v).length≤300)→((l.map V).flatten).length≤300 * l.length:=by
  intro l
  induction l with
  |nil=>intro _;simp
  |cons v l ih =>
   intro h
   have:=ih fun w hw=>h w (by simp [hw])
   have:=h v (by simp)
   rw [List.map_cons,List.flatten_cons,List.length_append,List.length_cons]
   omega
 have:=key s.out_ fun v hv=>by rw [(hV v (g.o v hv)).len];exact ml g.h.v (g.h.o v hv)
 unfold um
 omega
theorem Ew{rows:List (List Int)}(h:okL (okL (okI .i64)) rows){i:Nat}(hi:i<rows.length):∀ y∈rows.getD i default,okI .i64 y:=h _ (aI hi)
def s0M:ab:=ab.mk (lit ([(ap.mk 105 0),(ap.mk 105 0),(ap.mk 105 0)]:List ap)) (lit ([0]:List Int)) (lit ([2]:List Int)) (lit ([(ae.mk 1 0 1 5 [] []),(ae.mk 13 0 2 0 (lit ([1,0]:List Int)) [])]:List ae))
theorem Dp:aA s0M (ae.mk 1 0 1 5 [] [])=some true:=by
 rw [dJ (by decide) (by decide) (by decide)]
 unfold aB
 rfl
theorem Dq:aA s0M (ae.mk 13 0 2 0 (lit ([1,0]:List Int)) [])=some true:=by
 rw [dJ (by decide) (by decide) (by decide)]
 unfold aB
 rw [bO]
 simp only [bSq]
 rfl
theorem BW:eY s0M=an.mk 0 0:=by
 refine zo (by rfl) (fun i hi=>?_) (fun i hi=>?_) (by decide)
 ·have:i=0∨i=1:=by have:s0M.rules.length=2:=rfl;omega
  rcases this with rfl|rfl
  ·exact zr (r:=ae.mk 1 0 1 5 [] []) (by decide) (by decide) (by decide) (by decide) (by decide) Dp
  ·exact zr (r:=ae.mk 13 0 2 0 (lit ([1,0]:List Int)) []) (by decide) (by decide) (by decide) (by decide) (by decide) Dq
 ·have:i=0∨i=1:=by have:s0M.rules.length=2:=rfl;omega
  rcases this with rfl|rfl<;>decide
theorem sG:kB s0M:=by decide
theorem Dr:s0M.ok:=by
 refine ⟨fun x hx=>?_,fun x hx=>?_,fun x hx=>?_,fun x hx=>?_⟩
 ·simp only [s0M,lit,List.mem_cons,List.not_mem_nil,or_false,or_self] at hx
  subst hx
  exact ⟨⟨by decide,by decide⟩,⟨by decide,by decide⟩⟩
 ·simp only [s0M,lit,List.mem_cons,List.not_mem_nil,or_false] at hx
  subst hx
  exact ⟨by decide,by decide⟩
 ·simp only [s0M,lit,List.mem_cons,List.not_mem_nil,or_false] at hx
  subst hx
  exact ⟨by decide,by decide⟩
 ·simp only [s0M,lit,List.mem_cons,List.not_mem_nil,or_false] at hx
  rcases hx with rfl|rfl
  ·exact ⟨⟨by decide,by decide⟩,⟨by decide,by decide⟩,⟨by decide,by decide⟩,⟨by decide,by decide⟩,fun y hy=>by simp at hy,fun y hy=>by simp at hy⟩
  ·refine ⟨⟨by decide,by decide⟩,⟨by decide,by decide⟩,⟨by decide,by decide⟩,⟨by decide,by decide⟩,fun y hy=>?_,fun y hy=>by simp at hy⟩
   simp only [List.mem_cons,List.not_mem_nil,or_false] at hy
   rcases hy with rfl|rfl<;>exact ⟨by decide,by decide⟩
end Pam
