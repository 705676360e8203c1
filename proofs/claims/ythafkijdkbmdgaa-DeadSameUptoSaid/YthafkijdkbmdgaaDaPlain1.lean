/- The fault of all of a system but its rules: the program and the document tell the same. -/
import Derived.Test.YthafkijdkbmdgaaDaFun1
import Derived.Test.YthafkijdkbmdgaaDWide1
import Derived.Test.YthafkijdkbmdgaaDBase3
set_option linter.all false
namespace Pam
open Go
theorem uJ (v:Int) (j:aB):fF v j = some (decide (0 ≤ v∧v < (j.system.vars.length:Int))):=by
 unfold fF
 by_cases h:v ≥ 0
 ·rw [iP h];congr 1;rw [decide_eq_decide];omega
 ·rw [iN h];congr 1;symm;rw [decide_eq_false_iff_not];omega
theorem sy (l:List Int) (v:Int) (hl:l.length ≤ 9000000):∃ k,ed l v = some k∧(decide (k ≥ 0)) = l.contains v:=by
 unfold ed
 rw [b8 l.length (fun i=>if l.getD i default = v then some (i:Int) else none) () (fun i hi=>by
  unfold dt
  rw [iP (ltI hi),iP (inI hi)]
  simp only [tN]
  by_cases h:l.getD i default = v
  ·rw [iP h.symm,iP h]
  ·rw [iN (fun e=>h e.symm),iN h,wrs i (by omega)]) (by unfold dt;rw [iN (bm _)])]
 rcases cL l.length (fun i=>if l.getD i default = v then some (i:Int) else none) () with ⟨e,h⟩ | ⟨j,z,hj,hf,e⟩
 ·rw [e]
  refine ⟨-1,rfl,?_⟩
  have:¬ v∈l:=by
   intro hm
   obtain ⟨i,hi,rfl⟩:=List.mem_iff_getElem.1 hm
   have:=h i hi
   simp [List.getD,hi] at this
  simp [this]
 ·rw [e]
  refine ⟨z,rfl,?_⟩
  by_cases hh:l.getD j default = v
  ·rw [iP hh] at hf
   simp only [sJ] at hf
   subst hf
   have:v∈l:=by rw [← hh];exact aS hj
   simp [this]
  ·rw [iN hh] at hf;cases hf
theorem vC (l:List Int) (v:Int) (hl:l.length ≤ 9000000):du l v = some (l.contains v):=by
 unfold du
 obtain ⟨k,h1,h2⟩:=sy l v hl
 rw [h1]
 simp only [bSq,h2]
theorem je (l:List Int) (v:Int) (hl:l.length ≤ 9000000):j9 l v = some (l.contains v):=by
 unfold j9
 rw [b8 l.length (fun i=>if l.getD i default = v then some true else none) () (fun i hi=>by
  unfold mJ
  rw [iP (ltI hi),iP (inI hi)]
  simp only [tN]
  by_cases h:l.getD i default = v
  ·rw [iP h,iP h]
  ·rw [iN h,iN h,wrs i (by omega)]) (by unfold mJ;rw [iN (bm _)])]
 rcases cL l.length (fun i=>if l.getD i default = v then some true else none) () with ⟨e,h⟩ | ⟨j,z,hj,hf,e⟩
 ·rw [e]
  have:¬ v∈l:=by
   intro hm
   obtain ⟨i,hi,rfl⟩:=List.mem_iff_getElem.1 hm
   have:=h i hi
   simp [List.getD,hi] at this
  show some false = _
  simp [this]
 ·rw [e]
  by_cases hh:l.getD j default = v
  ·rw [iP hh] at hf
   simp only [sJ] at hf
   subst hf
   have:v∈l:=by rw [← hh];exact aS hj
   show some true = _
   simp [this]
  ·rw [iN hh] at hf;cases hf
def inV (s:ae) (v:Int):Prop:=0 ≤ v∧v < (s.vars.length:Int)
instance (s:ae) (v:Int):Decidable (inV s v):=inferInstanceAs (Decidable (_∧_))
def yw (x:ao) (i:Nat):Option aw :=
 if ¬ x.elem = 105∧¬ x.elem = 98 then some (aw.mk 10 (-2 - i)) else if x.n < 0∨x.n > 300 then some (aw.mk 13 (-2 - i)) else none
def qH (s:ae) (i:Nat):Option aw:=yw (s.vars.getD i default) i
def inF (s:ae) (i:Nat):Option aw :=
 if ¬ inV s (s.in_.getD i default) then some (aw.mk 16 (-1)) else if (s.in_.take i).contains (s.in_.getD i default) then some (aw.mk 8 (-1)) else none
def oV (s:ae) (i:Nat):Option aw:=if ¬ inV s (s.out_.getD i default) then some (aw.mk 16 (-1)) else none
def jv (s:ae):aw :=
 if (s.vars.length:Int) > 400∨(s.rules.length:Int) > 400∨(s.in_.length:Int) > 400∨(s.out_.length:Int) > 400 then aw.mk 7 (-1)
 else match dO s.vars.length (qH s) () with
  | .inr z=>z
  | .inl _=>match dO s.in_.length (inF s) () with
   | .inr z=>z
   | .inl _=>match dO s.out_.length (oV s) () with
    | .inr z=>z
    | .inl _=>aw.mk 0 0
theorem wr2 (i:Nat) (h:i < 1000000):IntKind.wrap .i64 (-2 - (i:Int)) = -2 - i:=wr (by omega) (by omega)
theorem wK (s:ae) (c:Int):iv (aB.mk s c) = some (jv s):=by
 have out:s.out_.length ≤ 400→dy (aB.mk s c) = some (match dO s.out_.length (oV s) () with | .inr z=>z | .inl _=>aw.mk 0 0):=by
  intro hl
  unfold dy
  rw [b8 s.out_.length (oV s) () (fun i hi=>by
   unfold fH oV inV
   rw [iP (ltI hi),iP (inI hi)]
   simp only [tN]
   rw [uJ]
   simp only [bSq]
   by_cases h:0 ≤ s.out_.getD i default∧s.out_.getD i default < (s.vars.length:Int)
   ·rw [iP (by simpa using h),iN (by simpa using h),wrs i (by omega)]
   ·rw [iN (by simpa using h),iP h]) (by unfold fH;rw [iN (bm _)])]
  cases dO s.out_.length (oV s) () <;> rfl
 have inn:s.in_.length ≤ 400→s.out_.length ≤ 400→cX (aB.mk s c) = some (match dO s.in_.length (inF s) () with
   | .inr z=>z
   | .inl _=>match dO s.out_.length (oV s) () with | .inr z=>z | .inl _=>aw.mk 0 0):=by
  intro hl ho
  unfold cX
  rw [b8 s.in_.length (inF s) () (fun i hi=>by
   unfold fI inF inV
   rw [iP (ltI hi),iP (inI hi)]
   simp only [tN]
   rw [uJ]
   simp only [bSq]
   by_cases h:0 ≤ s.in_.getD i default∧s.in_.getD i default < (s.vars.length:Int)
   ·rw [iP (by simpa using h),iP ⟨by omega,by omega⟩,vC _ _ (by simp;omega),iN (by simpa using h)]
    simp only [bSq]
    split
    ·rfl
    ·rw [wrs i (by omega)]
   ·rw [iN (by simpa using h),iP h]) (by unfold fI;rw [iN (bm _)])]
  cases dO s.in_.length (inF s) () with
  | inr z=>rfl
  | inl _=>exact out ho
 have main:s.vars.length ≤ 400→s.in_.length ≤ 400→s.out_.length ≤ 400→(aZ (fun x14=>eh (aB.mk s c) x14) 0).bind (Sum.elim (fun _=>cX (aB.mk s c)) (fun z15=>some z15)) = some (match dO s.vars.length (qH s) () with
   | .inr z=>z
   | .inl _=>match dO s.in_.length (inF s) () with
    | .inr z=>z
    | .inl _=>match dO s.out_.length (oV s) () with | .inr z=>z | .inl _=>aw.mk 0 0):=by
  intro hv hl ho
  rw [b8 s.vars.length (qH s) () (fun i hi=>by
   unfold eh qH
   rw [iP (ltI hi),iP (inI hi)]
   simp only [tN]
   obtain ⟨x,hx⟩:∃ x,s.vars.getD i default = x:=⟨_,rfl⟩
   simp only [hx]
   unfold yw
   have tail:dz (aB.mk s c) (i:Int) = some (match (if x.n < 0∨x.n > 300 then some (aw.mk 13 (-2 - (i:Int))) else none) with | some z=>.inr (.inr z) | none=>.inl ((i + 1:Nat):Int)):=by
    unfold dz
    simp only [tN,hx]
    by_cases h1:x.n < 0
    ·rw [iP h1,iP (.inl h1),wr2 i (by omega)]
    ·rw [iN h1]
     by_cases h2:x.n > 300
     ·rw [iP h2,iP (.inr h2),wr2 i (by omega)]
     ·rw [iN h2,iN (by omega),wrs i (by omega)]
   by_cases h1:x.elem = 105
   ·rw [iN (by simpa using h1),iN (by simp [h1])];rw [tail];generalize (if x.n < 0∨x.n > 300 then some (aw.mk 13 (-2 - (i:Int))) else none) = q;cases q <;> rfl
   ·rw [iP h1]
    by_cases h2:x.elem = 98
    ·rw [iN (by simpa using h2),iN (by simp [h2])];rw [tail];generalize (if x.n < 0∨x.n > 300 then some (aw.mk 13 (-2 - (i:Int))) else none) = q;cases q <;> rfl
    ·rw [iP h2,iP ⟨h1,h2⟩,wr2 i (by omega)]) (by unfold eh;rw [iN (bm _)])]
  cases dO s.vars.length (qH s) () with
  | inr z=>rfl
  | inl _=>exact inn hl ho
 unfold iv jv
 by_cases h1:(s.vars.length:Int) > 400
 ·rw [iP h1,iP (.inl h1)]
 rw [iN h1]
 by_cases h2:(s.rules.length:Int) > 400
 ·rw [iP h2,iP (.inr (.inl h2))]
 rw [iN h2]
 by_cases h3:(s.in_.length:Int) > 400
 ·rw [iP h3,iP (.inr (.inr (.inl h3)))]
 rw [iN h3]
 by_cases h4:(s.out_.length:Int) > 400
 ·rw [iP h4,iP (.inr (.inr (.inr h4)))]
 rw [iN h4,iN (by omega)]
 exact main (by omega) (by omega) (by omega)
theorem wL (s:ae):lH s = some (jv s):=by
 have hF:∀ a b,eV a b = some (aw.mk a b):=fun _ _=>rfl
 have out:s.out_.length ≤ 400→fV s = some (match dO s.out_.length (oV s) () with | .inr z=>z | .inl _=>aw.mk 0 0):=by
  intro hl
  unfold fV
  rw [b8 s.out_.length (oV s) () (fun i hi=>by
   unfold ja oV inV
   rw [iP (ltI hi),iP (inI hi)]
   simp only [tN]
   by_cases h1:s.out_.getD i default < 0
   ·rw [iP h1,iP (by omega),hF];rfl
   ·rw [iN h1]
    by_cases h2:s.out_.getD i default ≥ (s.vars.length:Int)
    ·rw [iP h2,iP (by omega),hF];rfl
    ·rw [iN h2,iN (by omega),wrs i (by omega)]) (by unfold ja;rw [iN (bm _)])]
  cases dO s.out_.length (oV s) () <;> rfl
 have inn:s.in_.length ≤ 400→s.out_.length ≤ 400→eW s = some (match dO s.in_.length (inF s) () with
   | .inr z=>z
   | .inl _=>match dO s.out_.length (oV s) () with | .inr z=>z | .inl _=>aw.mk 0 0):=by
  intro hl ho
  unfold eW
  rw [b8 s.in_.length (inF s) () (fun i hi=>by
   unfold jb inF inV
   rw [iP (ltI hi),iP (inI hi)]
   simp only [tN]
   by_cases h1:s.in_.getD i default < 0
   ·rw [iP h1,iP (by omega),hF];rfl
   ·rw [iN h1]
    by_cases h2:s.in_.getD i default ≥ (s.vars.length:Int)
    ·rw [iP h2,iP (by omega),hF];rfl
    ·rw [iN h2,iP ⟨by omega,by omega⟩,iN (by omega),je _ _ (by simp;omega)]
     simp only [bSq,hF]
     split
     ·rfl
     ·rw [wrs i (by omega)]) (by unfold jb;rw [iN (bm _)])]
  cases dO s.in_.length (inF s) () with
  | inr z=>rfl
  | inl _=>exact out ho
 have main:s.vars.length ≤ 400→s.in_.length ≤ 400→s.out_.length ≤ 400→(aZ (fun x21=>ig s x21) 0).bind (Sum.elim (fun _=>eW s) (fun z25=>some z25)) = some (match dO s.vars.length (qH s) () with
   | .inr z=>z
   | .inl _=>match dO s.in_.length (inF s) () with
    | .inr z=>z
    | .inl _=>match dO s.out_.length (oV s) () with | .inr z=>z | .inl _=>aw.mk 0 0):=by
  intro hv hl ho
  rw [b8 s.vars.length (qH s) () (fun i hi=>by
   unfold ig qH
   rw [iP (ltI hi),iP (inI hi)]
   simp only [tN]
   obtain ⟨x,hx⟩:∃ x,s.vars.getD i default = x:=⟨_,rfl⟩
   simp only [hx]
   unfold yw
   have tail:fW s (i:Int) = some (match (if x.n < 0∨x.n > 300 then some (aw.mk 13 (-2 - (i:Int))) else none) with | some z=>.inr (.inr z) | none=>.inl ((i + 1:Nat):Int)):=by
    unfold fW
    rw [iP (inI hi)]
    simp only [tN,hx]
    by_cases h1:x.n < 0
    ·rw [iP h1,iP (.inl h1),wr2 i (by omega),hF];rfl
    ·rw [iN h1]
     by_cases h2:x.n > 300
     ·rw [iP h2,iP (.inr h2),wr2 i (by omega),hF];rfl
     ·rw [iN h2,iN (by omega),wrs i (by omega)]
   by_cases h1:x.elem = 105
   ·rw [iN (by simpa using h1),iN (by simp [h1])];rw [tail];generalize (if x.n < 0∨x.n > 300 then some (aw.mk 13 (-2 - (i:Int))) else none) = q;cases q <;> rfl
   ·rw [iP h1]
    by_cases h2:x.elem = 98
    ·rw [iN (by simpa using h2),iN (by simp [h2])];rw [tail];generalize (if x.n < 0∨x.n > 300 then some (aw.mk 13 (-2 - (i:Int))) else none) = q;cases q <;> rfl
    ·rw [iP h2,iP ⟨h1,h2⟩,wr2 i (by omega),hF];rfl) (by unfold ig;rw [iN (bm _)])]
  cases dO s.vars.length (qH s) () with
  | inr z=>rfl
  | inl _=>exact inn hl ho
 unfold lH jv
 by_cases h1:(s.vars.length:Int) > 400
 ·rw [iP h1,iP (.inl h1)];rfl
 rw [iN h1]
 by_cases h3:(s.in_.length:Int) > 400
 ·rw [iP h3,iP (.inr (.inr (.inl h3)))];rfl
 rw [iN h3]
 by_cases h4:(s.out_.length:Int) > 400
 ·rw [iP h4,iP (.inr (.inr (.inr h4)))];rfl
 rw [iN h4]
 by_cases h2:(s.rules.length:Int) > 400
 ·rw [iP h2,iP (.inr (.inl h2))];rfl
 rw [iN h2,iN (by omega)]
 exact main (by omega) (by omega) (by omega)
def opT (k:Int):Int×Int×Int :=
 if 1 ≤ k∧k ≤ 7 then (105,105,2) else if k = 8∨k = 9 then (105,98,2) else if 10 ≤ k∧k ≤ 12 then (98,98,2) else if k = 13 then (105,105,1) else if k = 14 then (98,98,1) else (0,0,0)
theorem gS (k:Int):ky k = some (opT k):=by
 unfold ky opT
 repeat' split
 all_goals first
  | rfl
  | (exfalso;omega)
theorem bB (k:Int):kC k = some (opT k):=by
 unfold kC
 by_cases h1:k < 1
 ·rw [iP h1];unfold opT
  rw [iN (by omega),iN (by omega),iN (by omega),iN (by omega),iN (by omega)]
 rw [iN h1]
 by_cases h2:k > 14
 ·rw [iP h2];unfold opT
  rw [iN (by omega),iN (by omega),iN (by omega),iN (by omega),iN (by omega)]
 rw [iN h2]
 have:k = 1∨k = 2∨k = 3∨k = 4∨k = 5∨k = 6∨k = 7∨k = 8∨k = 9∨k = 10∨k = 11∨k = 12∨k = 13∨k = 14:=by omega
 rcases this with rfl | rfl | rfl | rfl | rfl | rfl | rfl | rfl | rfl | rfl | rfl | rfl | rfl | rfl <;> rfl
theorem zE (k:Int):(opT k).2.2 = 0∨((opT k).1 = 105∨(opT k).1 = 98)∧((opT k).2.1 = 105∨(opT k).2.1 = 98):=by
 unfold opT
 repeat' split
 all_goals simp
def dd (s:ae) (n:Int) (p:ay) (rs:List Int):Option (List Int) :=
 if p.op = 1 then (if p.k = 0 then some (105 :: rs) else if p.k = 1∧(p.n = 0∨p.n = 1) then some (98 :: rs) else none)
 else if p.op = 2 then (if (s.vars.getD p.v.toNat default).n = 0 then some ((s.vars.getD p.v.toNat default).elem :: rs) else none)
 else if p.op = 3 then (if (s.vars.getD p.v.toNat default).n > 0∧p.n ≥ 0∧p.n ≤ (s.vars.getD p.v.toNat default).n - n then some ((s.vars.getD p.v.toNat default).elem :: rs) else none)
 else if p.op = 4 then (if p.n ≥ -1000000∧p.n ≤ 1000000 then some (105 :: rs) else none)
 else if p.op = 5 then (match rs with
  | a :: r=>if (opT p.k).2.2 = 1∧a = (opT p.k).1 then some ((opT p.k).2.1 :: r) else none
  | []=>none)
 else if p.op = 6 then (match rs with
  | a :: b :: r=>if (opT p.k).2.2 = 2∧a = (opT p.k).1∧b = (opT p.k).1 then some ((opT p.k).2.1 :: r) else none
  | _=>none)
 else if p.op = 7 then (match rs with
  | a :: b :: c :: r=>if c = 98∧b = a then some (a :: r) else none
  | _=>none)
 else if p.op = 8 then (match rs with
  | a :: b :: r=>if (s.vars.getD p.v.toNat default).n > 0∧b = 105∧a = (s.vars.getD p.v.toNat default).elem then some ((s.vars.getD p.v.toNat default).elem :: r) else none
  | _=>none)
 else none
def okE (x:Int):Prop:=x = 105∨x = 98
def okS (rs:List Int):Prop:=∀ x∈rs,okE x
structure ew (s:ae):Prop where
 e:∀ v∈s.vars,okE v.elem
 n:∀ v∈s.vars,0 ≤ v.n∧v.n ≤ 300
def od (s:ae) (p:ay):Prop:=(p.op = 2∨p.op = 3∨p.op = 8)→inV s p.v
theorem zF {s:ae} {n:Int} {p:ay} {rs rs':List Int} (hv:ew s) (hu:od s p) (hs:okS rs) (h:dd s n p rs = some rs'):okS rs'∧rs'.length ≤ rs.length + 1:=by
 have hel:p.op = 2∨p.op = 3∨p.op = 8→okE (s.vars.getD p.v.toNat default).elem:=fun ho=>hv.e _ (aS (by have:=hu ho;unfold inV at this;omega))
 have cons:∀ {x:Int} {r:List Int},okE x→okS r→okS (x :: r):=fun h1 h2 y hy=>by
  rcases List.mem_cons.1 hy with rfl | hy
  ·exact h1
  ·exact h2 y hy
 have tl:∀ {x:Int} {r:List Int},okS (x :: r)→okS r:=fun h1 y hy=>h1 y (by simp [hy])
 have hk:∀ m:Int,(opT p.k).2.2 = m→m ≠ 0→okE (opT p.k).2.1:=fun m h1 h2=>by
  rcases zE p.k with h | h
  ·exact absurd (h1.symm.trans h) h2
  ·exact h.2
 unfold dd at h
 by_cases h1:p.op = 1
 ·rw [iP h1] at h
  split at h
  ·simp only [sJ] at h;subst h;exact ⟨cons (.inl rfl) hs,by simp⟩
  ·split at h
   ·simp only [sJ] at h;subst h;exact ⟨cons (.inr rfl) hs,by simp⟩
   ·cases h
 rw [iN h1] at h
 by_cases h2:p.op = 2
 ·rw [iP h2] at h
  split at h
  ·simp only [sJ] at h;subst h;exact ⟨cons (hel (.inl h2)) hs,by simp⟩
  ·cases h
 rw [iN h2] at h
 by_cases h3:p.op = 3
 ·rw [iP h3] at h
  split at h
  ·simp only [sJ] at h;subst h;exact ⟨cons (hel (.inr (.inl h3))) hs,by simp⟩
  ·cases h
 rw [iN h3] at h
 by_cases h4:p.op = 4
 ·rw [iP h4] at h
  split at h
  ·simp only [sJ] at h;subst h;exact ⟨cons (.inl rfl) hs,by simp⟩
  ·cases h
 rw [iN h4] at h
 by_cases h5:p.op = 5
 ·rw [iP h5] at h
  split at h
  ·split at h
   ·rename_i hc
    simp only [sJ] at h;subst h;exact ⟨cons (hk 1 hc.1 (by decide)) (tl hs),by simp⟩
   ·cases h
  ·cases h
 rw [iN h5] at h
 by_cases h6:p.op = 6
 ·rw [iP h6] at h
  split at h
  ·split at h
   ·rename_i hc
    simp only [sJ] at h;subst h;exact ⟨cons (hk 2 hc.1 (by decide)) (tl (tl hs)),by simp⟩
   ·cases h
  ·cases h
 rw [iN h6] at h
 by_cases h7:p.op = 7
 ·rw [iP h7] at h
  split at h
  ·split at h
   ·simp only [sJ] at h;subst h;exact ⟨cons (hs _ (by simp)) (tl (tl (tl hs))),by simp⟩
   ·cases h
  ·cases h
 rw [iN h7] at h
 by_cases h8:p.op = 8
 ·rw [iP h8] at h
  split at h
  ·split at h
   ·simp only [sJ] at h;subst h;exact ⟨cons (hel (.inr (.inr h8))) (tl (tl hs)),by simp⟩
   ·cases h
  ·cases h
 rw [iN h8] at h
 cases h
theorem tQ (n:Nat) (h:n ≤ 1000000):dg n 1:=by
 unfold dg
 have:maxLen = 9223372036854775807:=rfl
 omega
theorem fY (l:List Int):l.reverse.length = l.length:=by simp
theorem rv1 (a:Int) (r:List Int):((a :: r).reverse).getD r.length default = a∧((a :: r).reverse).take r.length = r.reverse:=by
 constructor
 ·simp [List.getD]
 ·simp
theorem rv2 (a b:Int) (r:List Int):((a :: b :: r).reverse).getD r.length default = b∧((a :: b :: r).reverse).getD (r.length + 1) default = a∧((a :: b :: r).reverse).take r.length = r.reverse:=by
 refine ⟨?_,?_,?_⟩
 ·simp [List.getD]
 ·have:=(rv1 a (b :: r)).1
  simpa using this
 ·simp
theorem rv3 (a b c:Int) (r:List Int):((a :: b :: c :: r).reverse).getD r.length default = c∧((a :: b :: c :: r).reverse).getD (r.length + 1) default = b∧((a :: b :: c :: r).reverse).getD (r.length + 2) default = a∧((a :: b :: c :: r).reverse).take r.length = r.reverse:=by
 refine ⟨?_,?_,?_,?_⟩
 ·simp [List.getD]
 ·have:=(rv2 a b (c :: r)).1
  simpa using this
 ·have:=(rv1 a (b :: c :: r)).1
  simpa using this
 ·simp
def i4 (k:Nat) (rs:List Int):Int:=rs.getD (k - 1) 0
theorem wM (k:Nat) (rs:List Int) (hk:1 ≤ k∧k ≤ 3) (hl:rs.length ≤ 1000):bz (k:Int) rs.reverse = some (i4 k rs):=by
 unfold bz i4
 rw [fY]
 by_cases h:(k:Int) > (rs.length:Int)
 ·rw [iP h]
  have:rs.length ≤ k - 1:=by omega
  simp [List.getD,List.getElem?_eq_none this]
 ·rw [iN h,wr (by omega) (by omega),iP (by omega)]
  congr 1
  have e:((rs.length:Int) - (k:Int)).toNat = rs.length - k:=by omega
  rw [e]
  have h1:rs.length - k < rs.reverse.length:=by simp;omega
  have h2:k - 1 < rs.length:=by omega
  simp only [List.getD,List.getElem?_eq_getElem h1,List.getElem?_eq_getElem h2,Option.getD_some,List.getElem_reverse]
  congr 1
  omega
theorem AQ {e:List ay} {n:Int} {j:aB} {l:List Int} {i:Nat} {t m:Int} (hi:i < e.length) (h:aP (e.getD i default) n j l = some (t,m,false)) :
  bo e n j l (i:Int) = some (.inr (.inr (0,false))):=by
 unfold bo
 rw [iP (ltI hi),iP (inI hi)]
 simp only [tN]
 rw [h]
 rfl
theorem Bm {e:List ay} {n:Int} {j:aB} {l:List Int} {i:Nat} {m:Int} (k:Nat) (hi:i < e.length) (h:aP (e.getD i default) n j l = some ((k:Int),m,true)) (hl:k ≤ l.length) (hb:l.length ≤ 1000) (hi':i < 100000) :
  bo e n j l (i:Int) = some (.inl (l.take (l.length - k) ++ [m],((i + 1:Nat):Int))):=by
 unfold bo
 rw [iP (ltI hi),iP (inI hi)]
 simp only [tN]
 rw [h]
 simp only [bSq,if_true]
 rw [iN (by omega),wr (by omega) (by omega),iP ⟨by omega,tQ _ (by omega)⟩,wrs i (by omega)]
 have:((l.length:Int) - (k:Int)).toNat = l.length - k:=by omega
 rw [this]
 rfl
theorem AR (l:List Int) (x:Int):l.reverse.take (l.reverse.length - 0) ++ [x] = (x :: l).reverse:=by
 rw [Nat.sub_zero,List.take_length];simp
theorem zG {k m:Int} (h:(opT k).2.2 = m) (hm:m ≠ 0):(opT k).1 ≠ 0:=by
 rcases zE k with h' | h'
 ·exact absurd (h.symm.trans h') hm
 ·rcases h'.1 with h | h <;> omega
def CM {Z:Type} (z:Z) (i:Nat):Option (List Int)→(List Int×Int) ⊕ (List Int ⊕ Z)
 | some rs'=>.inl (rs'.reverse,((i + 1:Nat):Int))
 | none=>.inr (.inr z)
theorem AS {s:ae} {c:Int} {e:List ay} {n:Int} {rs:List Int} {i:Nat} (hv:ew s) (hu:od s (e.getD i default)) (hs:okS rs) (hn:1 ≤ n∧n ≤ 300) (hl:rs.length ≤ 900) (hi:i < e.length) (hi':i < 100000) :
  bo e n (aB.mk s c) rs.reverse (i:Int) = some (CM (0,false) i (dd s n (e.getD i default) rs)):=by
 have hb:rs.reverse.length ≤ 1000:=by simp;omega
 have ok0:∀ m,aP (e.getD i default) n (aB.mk s c) rs.reverse = some (0,m,true)→bo e n (aB.mk s c) rs.reverse (i:Int) = some (.inl ((m :: rs).reverse,((i + 1:Nat):Int))):=fun m h=>by
  rw [Bm 0 hi h (by omega) hb hi',AR]
 have fail:∀ t m,aP (e.getD i default) n (aB.mk s c) rs.reverse = some (t,m,false)→bo e n (aB.mk s c) rs.reverse (i:Int) = some (.inr (.inr (0,false))):=fun t m h=>AQ hi h
 have okk:∀ (k:Nat) (m:Int) (r:List Int),aP (e.getD i default) n (aB.mk s c) rs.reverse = some ((k:Int),m,true)→rs.length = r.length + k→rs.reverse.take r.length = r.reverse →
   bo e n (aB.mk s c) rs.reverse (i:Int) = some (.inl ((m :: r).reverse,((i + 1:Nat):Int))):=fun k m r h h1 h2=>by
  rw [Bm k hi h (by rw [fY];omega) hb hi',fY,show rs.length - k = r.length by omega,h2]
  simp
 have t1:=wM 1 rs (by omega) (by omega)
 have t2:=wM 2 rs (by omega) (by omega)
 have t3:=wM 3 rs (by omega) (by omega)
 simp only [Int.natCast_one,Int.cast_ofNat_Int] at t1 t2 t3
 generalize hp:e.getD i default = p at *
 have hvar:p.op = 2∨p.op = 3∨p.op = 8→(0 ≤ p.v∧p.v < (s.vars.length:Int))∧(0 ≤ (s.vars.getD p.v.toNat default).n∧(s.vars.getD p.v.toNat default).n ≤ 300)∧okE (s.vars.getD p.v.toNat default).elem:=fun ho=>by
  have h:=hu ho
  have hm:s.vars.getD p.v.toNat default∈s.vars:=aS (by unfold inV at h;omega)
  exact ⟨h,hv.n _ hm,hv.e _ hm⟩
 by_cases h1:p.op = 1
 ·have hst:aP p n (aB.mk s c) rs.reverse = if p.k = 1 then (if p.n = 0 then some (0,98,true) else some (0,98,p.n == 1)) else some (0,105,p.k == 0):=by
   unfold aP;rw [iP h1]
  unfold dd;rw [iP h1]
  by_cases k0:p.k = 0
  ·rw [iP k0];exact ok0 105 (by rw [hst,iN (by omega),k0];rfl)
  ·rw [iN k0]
   by_cases k1:p.k = 1
   ·by_cases n0:p.n = 0
    ·rw [iP ⟨k1,.inl n0⟩];exact ok0 98 (by rw [hst,iP k1,iP n0])
    ·by_cases n1:p.n = 1
     ·rw [iP ⟨k1,.inr n1⟩];exact ok0 98 (by rw [hst,iP k1,iN n0,n1];rfl)
     ·rw [iN (by omega)];exact fail 0 98 (by rw [hst,iP k1,iN n0,nB n1])
   ·rw [iN (by omega)];exact fail 0 105 (by rw [hst,iN k1,nB k0])
 by_cases h2:p.op = 2
 ·obtain ⟨q1,q2,q3⟩:=hvar (.inl h2)
  have hst:aP p n (aB.mk s c) rs.reverse = some (0,(s.vars.getD p.v.toNat default).elem,(s.vars.getD p.v.toNat default).n == 0):=by
   unfold aP;rw [iN h1,iP h2,iP q1]
  unfold dd;rw [iN h1,iP h2]
  by_cases n0:(s.vars.getD p.v.toNat default).n = 0
  ·rw [iP n0];exact ok0 _ (by rw [hst,n0];rfl)
  ·rw [iN n0];exact fail _ _ (by rw [hst,nB n0])
 by_cases h3:p.op = 3
 ·obtain ⟨q1,q2,q3⟩:=hvar (.inr (.inl h3))
  have hst:aP p n (aB.mk s c) rs.reverse = some (0,(s.vars.getD p.v.toNat default).elem,decide ((s.vars.getD p.v.toNat default).n > 0∧p.n ≥ 0∧p.n ≤ (s.vars.getD p.v.toNat default).n - n)):=by
   unfold aP;rw [iN h1,iN h2,iP h3,iP q1]
   simp only
   rw [wr (by omega) (by omega)]
   by_cases a:(s.vars.getD p.v.toNat default).n > 0
   ·rw [iP a]
    by_cases b:p.n ≥ 0
    ·rw [iP b];congr 3;rw [decide_eq_decide];exact ⟨fun h=>⟨a,b,h⟩,fun h=>h.2.2⟩
    ·rw [iN b,dF (fun h=>b h.2.1)]
   ·rw [iN a,dF (fun h=>a h.1)]
  unfold dd;rw [iN h1,iN h2,iP h3]
  by_cases a:(s.vars.getD p.v.toNat default).n > 0∧p.n ≥ 0∧p.n ≤ (s.vars.getD p.v.toNat default).n - n
  ·rw [iP a];exact ok0 _ (by rw [hst,dT a])
  ·rw [iN a];exact fail _ _ (by rw [hst,dF a])
 by_cases h4:p.op = 4
 ·have hst:aP p n (aB.mk s c) rs.reverse = some (0,105,decide (p.n ≥ -1000000∧p.n ≤ 1000000)):=by
   unfold aP;rw [iN h1,iN h2,iN h3,iP h4]
   by_cases a:p.n ≥ -1000000
   ·rw [iP a];simp [a]
   ·rw [iN a];simp [a]
  unfold dd;rw [iN h1,iN h2,iN h3,iP h4]
  by_cases a:p.n ≥ -1000000∧p.n ≤ 1000000
  ·rw [iP a];exact ok0 _ (by rw [hst,dT a])
  ·rw [iN a];exact fail _ _ (by rw [hst,dF a])
 have w5:IntKind.wrap .i64 (IntKind.wrap .i64 ((5:Int) - 5) + 1) = 1:=by decide
 have w6:IntKind.wrap .i64 (IntKind.wrap .i64 ((6:Int) - 5) + 1) = 2:=by decide
 by_cases h5:p.op = 5
 ·have hst:aP p n (aB.mk s c) rs.reverse = if (opT p.k).2.2 = 1 then (if i4 1 rs = (opT p.k).1 then some ((opT p.k).2.2,(opT p.k).2.1,true) else some ((opT p.k).2.2,(opT p.k).2.1,false)) else some ((opT p.k).2.2,(opT p.k).2.1,false):=by
   unfold aP;rw [iN h1,iN h2,iN h3,iN h4,iP h5,show (p.op == 5) = true by simp [h5]]
   unfold cb
   rw [iP rfl,gS]
   simp only [bSq]
   rw [h5,w5,t1]
   simp only [bSq]
   by_cases a:(opT p.k).2.2 = 1
   ·rw [iP a,iP a,iP a]
   ·rw [iN a,iN a]
  unfold dd;rw [iN h1,iN h2,iN h3,iN h4,iP h5]
  by_cases a:(opT p.k).2.2 = 1
  ·rw [iP a] at hst
   have nz:=zG a (by decide)
   cases rs with
   | nil =>
    rw [iN (by show ¬ (0:Int) = _;omega)] at hst
    exact fail _ _ hst
   | cons x r =>
    by_cases b:x = (opT p.k).1
    ·rw [iP (show i4 1 (x :: r) = _ from b),a] at hst
     simp only
     rw [iP ⟨a,b⟩]
     exact okk 1 _ r hst (by simp) (rv1 x r).2
    ·rw [iN (show ¬ i4 1 (x :: r) = _ from b)] at hst
     simp only
     rw [iN (fun h=>b h.2)]
     exact fail _ _ hst
  ·rw [iN a] at hst
   have f:=fail _ _ hst
   cases rs with
   | nil=>exact f
   | cons x r=>simp only;rw [iN (fun h=>a h.1)];exact f
 by_cases h6:p.op = 6
 ·have hst:aP p n (aB.mk s c) rs.reverse = if (opT p.k).2.2 = 2 then (if i4 1 rs = (opT p.k).1 then some ((opT p.k).2.2,(opT p.k).2.1,i4 2 rs == (opT p.k).1) else some ((opT p.k).2.2,(opT p.k).2.1,false)) else some ((opT p.k).2.2,(opT p.k).2.1,false):=by
   unfold aP;rw [iN h1,iN h2,iN h3,iN h4,iN h5,show (p.op == 6) = true by simp [h6]]
   unfold cb
   rw [iP rfl,gS]
   simp only [bSq]
   rw [h6,w6,t1]
   simp only [bSq]
   by_cases a:(opT p.k).2.2 = 2
   ·rw [iP a,iP a,iN (by omega:¬ (opT p.k).2.2 = 1),t2]
    simp only [bSq]
   ·rw [iN a,iN a]
  unfold dd;rw [iN h1,iN h2,iN h3,iN h4,iN h5,iP h6]
  by_cases a:(opT p.k).2.2 = 2
  ·rw [iP a] at hst
   have nz:=zG a (by decide)
   match rs,hst,okk,fail with
   | [],hst,_,fail =>
    rw [iN (by show ¬ (0:Int) = _;omega)] at hst
    exact fail _ _ hst
   | [x],hst,_,fail =>
    have:(i4 2 [x] == (opT p.k).1) = false:=nB (by show (0:Int) ≠ _;omega)
    rw [this] at hst
    exact fail _ _ (by rw [hst];split <;> rfl)
   | x :: y :: r,hst,okk,fail =>
    simp only
    by_cases b:x = (opT p.k).1
    ·rw [iP (show i4 1 (x :: y :: r) = _ from b),a] at hst
     by_cases d:y = (opT p.k).1
     ·rw [show (i4 2 (x :: y :: r) == (opT p.k).1) = true from eQ d] at hst
      rw [iP ⟨a,b,d⟩]
      exact okk 2 _ r hst (by simp) (rv2 x y r).2.2
     ·rw [show (i4 2 (x :: y :: r) == (opT p.k).1) = false from nB d] at hst
      rw [iN (fun h=>d h.2.2)]
      exact fail _ _ hst
    ·rw [iN (show ¬ i4 1 (x :: y :: r) = _ from b)] at hst
     rw [iN (fun h=>b h.2.1)]
     exact fail _ _ hst
  ·rw [iN a] at hst
   have f:=fail _ _ hst
   match rs,f with
   | [],f=>exact f
   | [x],f=>exact f
   | x :: y :: r,f=>simp only;rw [iN (fun h=>a h.1)];exact f
 by_cases h7:p.op = 7
 ·have hst:aP p n (aB.mk s c) rs.reverse = if i4 3 rs = 98 then (if i4 1 rs = i4 2 rs then some (3,i4 1 rs,i4 1 rs != 0) else some (3,i4 1 rs,false)) else some (3,i4 1 rs,false):=by
   unfold aP;rw [iN h1,iN h2,iN h3,iN h4,iN h5,show (p.op == 6) = false by simp [h6]]
   unfold cb
   rw [iN (by decide),iP h7,t1,t3]
   simp only [bSq]
   rw [t2]
   simp only [bSq]
  unfold dd;rw [iN h1,iN h2,iN h3,iN h4,iN h5,iN h6,iP h7]
  match rs,hst,okk,fail,hs with
  | [],hst,_,fail,_=>rw [iN (by show ¬ (0:Int) = _;omega)] at hst;exact fail _ _ hst
  | [x],hst,_,fail,_=>rw [iN (by show ¬ (0:Int) = _;omega)] at hst;exact fail _ _ hst
  | [x,y],hst,_,fail,_=>rw [iN (by show ¬ (0:Int) = _;omega)] at hst;exact fail _ _ hst
  | x :: y :: z :: r,hst,okk,fail,hs =>
   simp only
   by_cases b:z = 98
   ·rw [iP (show i4 3 (x :: y :: z :: r) = 98 from b)] at hst
    by_cases d:y = x
    ·have hx:x ≠ 0:=by rcases hs x (by simp) with h | h <;> omega
     rw [iP (show i4 1 (x :: y :: z :: r) = i4 2 (x :: y :: z :: r) from d.symm),show (i4 1 (x :: y :: z :: r) != 0) = true from bne_iff_ne.2 hx] at hst
     rw [iP ⟨b,d⟩]
     exact okk 3 x r hst (by simp) (rv3 x y z r).2.2.2
    ·rw [iN (show ¬ i4 1 (x :: y :: z :: r) = i4 2 (x :: y :: z :: r) from fun h=>d h.symm)] at hst
     rw [iN (fun h=>d h.2)]
     exact fail _ _ hst
   ·rw [iN (show ¬ i4 3 (x :: y :: z :: r) = 98 from b)] at hst
    rw [iN (fun h=>b h.1)]
    exact fail _ _ hst
 by_cases h8:p.op = 8
 ·obtain ⟨q1,q2,q3⟩:=hvar (.inr (.inr h8))
  have hst:aP p n (aB.mk s c) rs.reverse = if (s.vars.getD p.v.toNat default).n > 0 then (if i4 1 rs = (s.vars.getD p.v.toNat default).elem then some (2,(s.vars.getD p.v.toNat default).elem,i4 2 rs == 105) else some (2,(s.vars.getD p.v.toNat default).elem,false)) else some (2,(s.vars.getD p.v.toNat default).elem,false):=by
   unfold aP;rw [iN h1,iN h2,iN h3,iN h4,iN h5,show (p.op == 6) = false by simp [h6]]
   unfold cb
   rw [iN (by decide),iN h7,iP h8,iP q1,t1]
   simp only [bSq]
   rw [t2]
   simp only [bSq]
  unfold dd;rw [iN h1,iN h2,iN h3,iN h4,iN h5,iN h6,iN h7,iP h8]
  match rs,hst,okk,fail with
  | [],hst,_,fail =>
   by_cases a:(s.vars.getD p.v.toNat default).n > 0
   ·rw [iP a,iN (by show ¬ (0:Int) = _;rcases q3 with h | h <;> omega)] at hst;exact fail _ _ hst
   ·rw [iN a] at hst;exact fail _ _ hst
  | [x],hst,_,fail =>
   rw [show (i4 2 [x] == 105) = false from rfl] at hst
   exact fail _ _ (by rw [hst];split <;> (try split) <;> rfl)
  | x :: y :: r,hst,okk,fail =>
   simp only
   by_cases a:(s.vars.getD p.v.toNat default).n > 0
   ·rw [iP a] at hst
    by_cases b:x = (s.vars.getD p.v.toNat default).elem
    ·rw [iP (show i4 1 (x :: y :: r) = _ from b)] at hst
     by_cases d:y = 105
     ·rw [show (i4 2 (x :: y :: r) == 105) = true from eQ d] at hst
      rw [iP ⟨a,d,b⟩]
      exact okk 2 _ r hst (by simp) (rv2 x y r).2.2
     ·rw [show (i4 2 (x :: y :: r) == 105) = false from nB d] at hst
      rw [iN (fun h=>d h.2.1)]
      exact fail _ _ hst
    ·rw [iN (show ¬ i4 1 (x :: y :: r) = _ from b)] at hst
     rw [iN (fun h=>b h.2.2)]
     exact fail _ _ hst
   ·rw [iN a] at hst
    rw [iN (fun h=>a h.1)]
    exact fail _ _ hst
 ·have hst:aP p n (aB.mk s c) rs.reverse = some (0,0,false):=by
   unfold aP;rw [iN h1,iN h2,iN h3,iN h4,iN h5,show (p.op == 6) = false by simp [h6]]
   unfold cb
   rw [iN (by decide),iN h7,iN h8]
  unfold dd;rw [iN h1,iN h2,iN h3,iN h4,iN h5,iN h6,iN h7,iN h8]
  exact fail _ _ hst
theorem BX (x m : Int) (r : List Int) : ((x :: r).reverse).set r.length m = (m :: r).reverse := by simp
theorem wl1 (x : Int) (r : List Int) (h : r.length ≤ 1000) : IntKind.wrap .i64 (((x :: r).reverse.length : Int) - 1) = (r.length : Int) := by
 rw [fY, List.length_cons, wr (by omega) (by omega)]; omega
theorem wl2 (x y : Int) (r : List Int) (h : r.length ≤ 1000) : IntKind.wrap .i64 (((x :: y :: r).reverse.length : Int) - 2) = (r.length : Int) ∧ IntKind.wrap .i64 (((x :: y :: r).reverse.length : Int) - 1) = ((r.length + 1 : Nat) : Int) := by
 rw [fY, List.length_cons, List.length_cons, wr (by omega) (by omega), wr (by omega) (by omega)]; omega
theorem wl3 (x y z : Int) (r : List Int) (h : r.length ≤ 1000) : IntKind.wrap .i64 (((x :: y :: z :: r).reverse.length : Int) - 3) = (r.length : Int) ∧ IntKind.wrap .i64 (((x :: y :: z :: r).reverse.length : Int) - 2) = ((r.length + 1 : Nat) : Int) ∧
  IntKind.wrap .i64 (((x :: y :: z :: r).reverse.length : Int) - 1) = ((r.length + 2 : Nat) : Int) := by
 rw [fY, List.length_cons, List.length_cons, List.length_cons, wr (by omega) (by omega), wr (by omega) (by omega), wr (by omega) (by omega)]; omega
theorem jX (l : List Int) (x : Int) : l.reverse ++ (lit ([x] : List Int)) = (x :: l).reverse := by simp [lit]
theorem yx (n : Int) : lJ n = some (decide (n ≥ -1000000 ∧ n ≤ 1000000)) := by
 unfold lJ
 by_cases a : n ≥ -1000000
 ·rw [iP a]; simp [a]
 ·rw [iN a]; simp [a]
theorem AT {s : ae} {e : List ay} {n : Int} {rs : List Int} {i : Nat} (hv : ew s) (hu : od s (e.getD i default)) (hn : 1 ≤ n ∧ n ≤ 300) (hl : rs.length ≤ 900) (hi : i < e.length) (hi' : i < 100000) :
  eX s e n rs.reverse (i : Int) = some (CM (0 : Int) i (dd s n (e.getD i default) rs)) := by
 unfold eX
 rw [iP (ltI hi), iP (inI hi)]
 simp only [tN]
 rw [wrs i (by omega)]
 obtain ⟨p, hp⟩ : ∃ p, e.getD i default = p := ⟨_, rfl⟩
 simp only [hp]
 rw [hp] at hu
 have hroom : dg (rs.reverse.length + 1) 1 := tQ _ (by simp; omega)
 have hvar : p.op = 2 ∨ p.op = 3 ∨ p.op = 8 → (0 ≤ p.v ∧ p.v < (s.vars.length : Int)) ∧ (0 ≤ (s.vars.getD p.v.toNat default).n ∧ (s.vars.getD p.v.toNat default).n ≤ 300) := fun ho => by
  have h := hu ho
  have hm : s.vars.getD p.v.toNat default ∈ s.vars := aS (by unfold inV at h; omega)
  exact ⟨h, hv.n _ hm⟩
 by_cases h1 : p.op = 1
 ·unfold dd; rw [iP h1, iP h1]
  by_cases k0 : p.k = 0
  ·rw [iP k0, iP k0, iP hroom, jX]; rfl
  ·rw [iN k0, iN k0]
   by_cases k1 : p.k = 1
   ·rw [iP k1]
    by_cases n0 : p.n = 0
    ·rw [iP n0, iP hroom, jX, iP ⟨k1, .inl n0⟩]; rfl
    ·rw [iN n0]
     by_cases n1 : p.n = 1
     ·rw [iP n1, iP hroom, jX, iP ⟨k1, .inr n1⟩]; rfl
     ·rw [iN n1, iN (by omega)]; rfl
   ·rw [iN k1, iN (fun h => k1 h.1)]; rfl
 rw [iN h1]
 by_cases h2 : p.op = 2
 ·obtain ⟨q1, q2⟩ := hvar (.inl h2)
  unfold dd; rw [iP h2, iN h1, iP h2, iP q1]
  by_cases n0 : (s.vars.getD p.v.toNat default).n = 0
  ·rw [iN (fun h => h n0), iP hroom, jX, iP n0]; rfl
  ·rw [iP n0, iN n0]; rfl
 rw [iN h2]
 by_cases h3 : p.op = 3
 ·obtain ⟨q1, q2⟩ := hvar (.inr (.inl h3))
  unfold dd; rw [iP h3, iN h1, iN h2, iP h3, iP q1]
  by_cases n0 : (s.vars.getD p.v.toNat default).n = 0
  ·rw [iP n0, iN (by omega)]; rfl
  ·rw [iN n0]
   by_cases a : p.n < 0
   ·rw [iP a, iN (by omega)]; rfl
   ·rw [iN a]
    by_cases b : (s.vars.getD p.v.toNat default).n < n
    ·rw [iP b, iN (by omega)]; rfl
    ·rw [iN b, wr (by omega) (by omega)]
     by_cases d : p.n > (s.vars.getD p.v.toNat default).n - n
     ·rw [iP d, iN (by omega)]; rfl
     ·rw [iN d, iP hroom, jX, iP (by omega)]; rfl
 rw [iN h3]
 by_cases h4 : p.op = 4
 ·unfold dd; rw [iP h4, iN h1, iN h2, iN h3, iP h4, yx]
  simp only [bSq]
  by_cases a : p.n ≥ -1000000 ∧ p.n ≤ 1000000
  ·rw [iP (dT a), iP hroom, jX, iP a]; rfl
  ·rw [iN (by simpa using a), iN a]; rfl
 rw [iN h4]
 by_cases h5 : p.op = 5
 ·unfold dd; rw [iP h5, iN h1, iN h2, iN h3, iN h4, iP h5, bB]
  simp only [bSq]
  match rs, hl with
  | [], _ =>
   split
   ·rfl
   ·rw [iP (by simp)]; rfl
  | x :: r, hl =>
   simp only [List.length_cons] at hl
   simp only
   by_cases a : (opT p.k).2.2 = 1
   ·rw [iN (fun h => h a), iN (by rw [fY]; simp; omega), wl1 _ _ (by omega), iP ⟨by omega, by rw [fY]; simp; omega⟩]
    simp only [tN]
    simp only [(rv1 x r).1]
    by_cases b : x = (opT p.k).1
    ·rw [iN (fun h => h b), BX, iP ⟨a, b⟩]; rfl
    ·rw [iP b, iN (fun h => b h.2)]; rfl
   ·rw [iP a, iN (fun h => a h.1)]; rfl
 rw [iN h5]
 by_cases h6 : p.op = 6
 ·unfold dd; rw [iP h6, iN h1, iN h2, iN h3, iN h4, iN h5, iP h6, bB]
  simp only [bSq]
  match rs, hl with
  | [], _ =>
   split
   ·rfl
   ·rw [iP (by simp)]; rfl
  | [x], _ =>
   split
   ·rfl
   ·rw [iP (by simp)]; rfl
  | x :: y :: r, hl =>
   simp only [List.length_cons] at hl
   simp only
   obtain ⟨w2, w1⟩ := wl2 x y r (by omega)
   obtain ⟨g1, g2, g3⟩ := rv2 x y r
   by_cases a : (opT p.k).2.2 = 2
   ·rw [iN (fun h => h a), iN (by rw [fY]; simp; omega), w1, iP ⟨by omega, by rw [fY]; simp; omega⟩]
    simp only [tN]
    simp only [g2]
    by_cases b : x = (opT p.k).1
    ·rw [iN (fun h => h b), w2, iP ⟨by omega, by rw [fY]; simp; omega⟩]
     simp only [tN]
     simp only [g1]
     by_cases d : y = (opT p.k).1
     ·rw [iN (fun h => h d), iP ⟨⟨by omega, by rw [fY]; simp; omega⟩, tQ _ (by omega)⟩, g3, jX, iP ⟨a, b, d⟩]; rfl
     ·rw [iP d, iN (fun h => d h.2.2)]; rfl
    ·rw [iP b, iN (fun h => b h.2.1)]; rfl
   ·rw [iP a, iN (fun h => a h.1)]; rfl
 rw [iN h6]
 by_cases h7 : p.op = 7
 ·unfold dd; rw [iP h7, iN h1, iN h2, iN h3, iN h4, iN h5, iN h6, iP h7]
  match rs, hl with
  | [], _ => rw [iP (by simp)]; rfl
  | [x], _ => rw [iP (by simp)]; rfl
  | [x, y], _ => rw [iP (by simp)]; rfl
  | x :: y :: z :: r, hl =>
   simp only [List.length_cons] at hl
   simp only
   obtain ⟨w3, w2, w1⟩ := wl3 x y z r (by omega)
   obtain ⟨g1, g2, g3, g4⟩ := rv3 x y z r
   rw [iN (by rw [fY]; simp; omega), w3, iP ⟨by omega, by rw [fY]; simp; omega⟩]
   simp only [tN]
   simp only [g1]
   by_cases b : z = 98
   ·rw [iN (fun h => h b), w2, w1, iP ⟨⟨by omega, by rw [fY]; simp; omega⟩, by omega, by rw [fY]; simp; omega⟩]
    simp only [tN]
    simp only [g2, g3]
    by_cases d : y = x
    ·rw [iN (fun h => h d), iP ⟨⟨by omega, by rw [fY]; simp; omega⟩, tQ _ (by omega)⟩, g4, jX, iP ⟨b, d⟩]; rfl
    ·rw [iP d, iN (fun h => d h.2)]; rfl
   ·rw [iP b, iN (fun h => b h.1)]; rfl
 rw [iN h7]
 by_cases h8 : p.op = 8
 ·obtain ⟨q1, q2⟩ := hvar (.inr (.inr h8))
  unfold dd; rw [iP h8, iN h1, iN h2, iN h3, iN h4, iN h5, iN h6, iN h7, iP h8, iP q1]
  match rs, hl with
  | [], _ =>
   split
   ·rfl
   ·rw [iP (by simp)]; rfl
  | [x], _ =>
   split
   ·rfl
   ·rw [iP (by simp)]; rfl
  | x :: y :: r, hl =>
   simp only [List.length_cons] at hl
   simp only
   obtain ⟨w2, w1⟩ := wl2 x y r (by omega)
   obtain ⟨g1, g2, g3⟩ := rv2 x y r
   by_cases a : (s.vars.getD p.v.toNat default).n = 0
   ·rw [iP a, iN (by omega)]; rfl
   ·rw [iN a, iN (by rw [fY]; simp; omega), w2, iP ⟨by omega, by rw [fY]; simp; omega⟩]
    simp only [tN]
    simp only [g1]
    by_cases b : y = 105
    ·rw [iN (fun h => h b), w1, iP ⟨by omega, by rw [fY]; simp; omega⟩]
     simp only [tN]
     simp only [g2]
     by_cases d : x = (s.vars.getD p.v.toNat default).elem
     ·rw [iN (fun h => h d), iP ⟨⟨by omega, by rw [fY]; simp; omega⟩, tQ _ (by omega)⟩, g3, jX, iP ⟨by omega, b, d⟩]; rfl
     ·rw [iP d, iN (fun h => d h.2.2)]; rfl
    ·rw [iP b, iN (fun h => b h.2.1)]; rfl
 ·rw [iN h8]
  unfold dd; rw [iN h1, iN h2, iN h3, iN h4, iN h5, iN h6, iN h7, iN h8]; rfl
def jf (s : ae) (n : Int) : List ay → List Int → Option (List Int)
 | [], rs => some rs
 | p :: e, rs => match dd s n p rs with | some rs' => jf s n e rs' | none => none
def jY (s : ae) (n : Int) (e : List ay) : Int := match jf s n e [] with | some [x] => x | _ => 0
theorem sC {Z : Type} (s : ae) (n : Int) (z : Z) : ∀ (e : List ay) (i : Nat) (rs : List Int), lO (fun _ a p => match dd s n p a with | some a' => .inl a' | none => .inr z) i e rs = match jf s n e rs with | some a => .inl a | none => .inr z
 | [], i, rs => rfl
 | p :: e, i, rs => by
  rw [lO, jf]
  cases dd s n p rs with
  | none => rfl
  | some a => exact sC s n z e (i + 1) a
theorem tR {s : ae} {c : Int} {e : List ay} {n : Int} (hv : ew s) (hu : ∀ p ∈ e, od s p) (hn : 1 ≤ n ∧ n ≤ 300) (he : e.length ≤ 800) :
  (∃ q : Int × Bool, iz e n (aB.mk s c) = some q ∧ (q.2 = true → q.1 = jY s n e ∧ okE q.1) ∧ (q.2 = false → jY s n e = 0)) ∧ jP s e n = some (jY s n e) := by
 have I : ∀ (i : Nat) (a : List Int), i < e.length → (okS a ∧ a.length ≤ i) → ∀ a', dd s n (e.getD i default) a = some a' → okS a' ∧ a'.length ≤ i + 1 := by
  intro i a hi ha a' h
  obtain ⟨k1, k2⟩ := zF hv (hu _ (aS hi)) ha.1 h
  exact ⟨k1, by omega⟩
 obtain ⟨h1, h2⟩ := ng (A := List Int) (T := ay) (O := List Int) (Z := Int × Bool) (S := List Int × Int) (fun a i => (a.reverse, i)) (body := fun x => bo e n (aB.mk s c) x.1 x.2) e
  (fun _ a p => match dd s n p a with | some a' => .inl a' | none => .inr (0, false)) (fun i a => okS a ∧ a.length ≤ i) (fun a => a.reverse) [] ⟨fun x hx => by simp at hx, by simp⟩
  (by
   intro i a hi ha
   refine ⟨?_, ?_⟩
   ·show bo e n (aB.mk s c) a.reverse (i : Int) = _
    rw [AS hv (hu _ (aS hi)) ha.1 hn (by omega) hi (by omega)]
    cases dd s n (e.getD i default) a <;> rfl
   ·intro a' h
    cases hx : dd s n (e.getD i default) a with
    | none => rw [hx] at h; cases h
    | some b =>
     rw [hx] at h
     simp only [Sum.inl.injEq] at h
     subst h
     exact I i a hi ha b hx)
  (by
   intro a _
   show bo e n (aB.mk s c) a.reverse (e.length : Int) = _
   unfold bo
   rw [iN (bm _)])
 obtain ⟨h3, h4⟩ := ng (A := List Int) (T := ay) (O := List Int) (Z := Int) (S := List Int × Int) (fun a i => (a.reverse, i)) (body := fun x => eX s e n x.1 x.2) e
  (fun _ a p => match dd s n p a with | some a' => .inl a' | none => .inr 0) (fun i a => okS a ∧ a.length ≤ i) (fun a => a.reverse) [] ⟨fun x hx => by simp at hx, by simp⟩
  (by
   intro i a hi ha
   refine ⟨?_, ?_⟩
   ·show eX s e n a.reverse (i : Int) = _
    rw [AT hv (hu _ (aS hi)) hn (by omega) hi (by omega)]
    cases dd s n (e.getD i default) a <;> rfl
   ·intro a' h
    cases hx : dd s n (e.getD i default) a with
    | none => rw [hx] at h; cases h
    | some b =>
     rw [hx] at h
     simp only [Sum.inl.injEq] at h
     subst h
     exact I i a hi ha b hx)
  (by
   intro a _
   show eX s e n a.reverse (e.length : Int) = _
   unfold eX
   rw [iN (bm _)])
 rw [sC] at h1 h2 h3
 have e1 : iz e n (aB.mk s c) = (aZ (fun x : List Int × Int => bo e n (aB.mk s c) x.1 x.2) (([] : List Int).reverse, 0)).bind (Sum.elim (fun z => cI z) (fun z => some z)) := rfl
 have e2 : jP s e n = (aZ (fun x : List Int × Int => eX s e n x.1 x.2) (([] : List Int).reverse, 0)).bind (Sum.elim (fun z => fR z) (fun z => some z)) := rfl
 rw [e1, e2, h1, h3]
 simp only [bSq]
 unfold jY
 cases ht : jf s n e [] with
 | none => exact ⟨⟨(0, false), rfl, fun h => (by cases h), fun _ => rfl⟩, rfl⟩
 | some a =>
  have ha := (h2 a (by rw [ht])).1
  simp only [Sum.elim_inl]
  match a, ha with
  | [], _ =>
   refine ⟨⟨(0, false), ?_, fun h => (by cases h), fun _ => rfl⟩, ?_⟩
   ·unfold cI; rw [iP (by simp)]
   ·unfold fR; rw [iP (by simp)]
  | [x], ha =>
   refine ⟨⟨(x, true), ?_, fun _ => ⟨rfl, ha x (by simp)⟩, fun h => by cases h⟩, ?_⟩
   ·unfold cI; rw [iN (by simp), iP (by simp)]; rfl
   ·unfold fR; rw [iN (by simp), iP (by simp)]; rfl
  | x :: y :: r, _ =>
   refine ⟨⟨(0, false), ?_, fun h => (by cases h), fun _ => rfl⟩, ?_⟩
   ·unfold cI; rw [iP (by simp; omega)]
   ·unfold fR; rw [iP (by simp; omega)]
def vOf (s:ae) (x:Int):ao:=s.vars.getD x.toNat default
theorem cO (s:ae) (x:Int):s.vars.getD x.toNat default = vOf s x:=by rw [vOf]
def oe (a b:ao):Bool:=a.elem == b.elem && a.n == b.n
def ph (s:ae) (l:List Int) (i:Nat):Option Bool:=if oe (vOf s (l.getD i default)) (vOf s (l.getD 0 default)) then none else some false
theorem tS (s:ae) (l:List Int):(match dO l.length (ph s l) () with | .inr z=>z | .inl _=>true) = l.all (fun x=>oe (vOf s x) (vOf s (l.getD 0 default))):=by
 rcases cL l.length (ph s l) () with ⟨e,h⟩ | ⟨j,z,hj,hf,e⟩
 ·rw [e]
  symm
  show _ = true
  rw [List.all_eq_true]
  intro x hx
  obtain ⟨i,hi,rfl⟩:=List.mem_iff_getElem.1 hx
  have:=h i hi
  unfold ph at this
  have e2:l.getD i default = l[i]:=by simp [List.getD,hi]
  rw [e2] at this
  split at this
  ·assumption
  ·cases this
 ·rw [e]
  unfold ph at hf
  split at hf
  ·cases hf
  ·rename_i hb
   simp only [sJ] at hf
   subst hf
   symm
   show _ = false
   rw [List.all_eq_false]
   exact ⟨_,aS hj,hb⟩
theorem oE (a b:ao):oe a b = true↔a.elem = b.elem∧a.n = b.n:=by unfold oe;simp
theorem AU {s:ae} {c:Int} {l:List Int} (hl:0 < l.length) (hb:l.length ≤ 1000) (hin:∀ x∈l,inV s x) :
  iw l (aB.mk s c) = some (l.all (fun x=>oe (vOf s x) (vOf s (l.getD 0 default)))):=by
 unfold iw
 rw [b8 l.length (ph s l) () (fun i hi=>by
  unfold fK ph
  have g0:=hin _ (aS (l:=l) (i:=0) hl)
  have gi:=hin _ (aS hi)
  unfold inV at g0 gi
  rw [iP (ltI hi),iP (inI hi)]
  simp only [tN]
  rw [iP ⟨gi,by omega,g0⟩,wrs i (by omega)]
  simp only [cO]
  by_cases h:oe (vOf s (l.getD i default)) (vOf s (l.getD 0 default)) = true
  ·rw [iP ((oE _ _).1 h),iP h]
  ·rw [iN (fun h'=>h ((oE _ _).2 h')),iN h]) (by unfold fK;rw [iN (bm _)])]
 rw [← tS]
 cases dO l.length (ph s l) () <;> rfl
theorem vD {s:ae} {c:Int} {l:List Int} (hl:0 < l.length) (hb:l.length ≤ 1000) (hin:∀ x∈l,inV s x) :
  eZ (aB.mk s c) l = some (l.all (fun x=>oe (vOf s x) (vOf s (l.getD 0 default)))):=by
 unfold eZ
 rw [b8 l.length (ph s l) () (fun i hi=>by
  unfold eG ph
  have g0:=hin _ (aS (l:=l) (i:=0) hl)
  have gi:=hin _ (aS hi)
  unfold inV at g0 gi
  rw [iP (ltI hi),iP (inI hi)]
  simp only [tN]
  rw [iP ⟨gi,by omega,g0⟩,wrs i (by omega)]
  simp only [cO]
  by_cases h:oe (vOf s (l.getD i default)) (vOf s (l.getD 0 default)) = true
  ·rw [iP ((oE _ _).1 h),iP h]
  ·rw [iN (fun h'=>h ((oE _ _).2 h')),iN h]) (by unfold eG;rw [iN (bm _)])]
 rw [← tS]
 cases dO l.length (ph s l) () <;> rfl
def uK (k:Int):Bool:=(opT k).2.2 == 2 && (opT k).1 == (opT k).2.1
theorem dJ (k:Int):ix k = some (uK k):=by
 unfold ix uK
 rw [gS]
 simp only [bSq]
 split
 ·rename_i h;rw [h];rfl
 ·rename_i h;rw [nB h];rfl
theorem bw (k:Int):ju k = some (uK k):=by
 unfold ju uK
 rw [bB]
 simp only [bSq]
 split
 ·rename_i h;rw [h];rfl
 ·rename_i h;rw [nB h];rfl
def eU (n:Int):Int:=if n < 1 then 1 else n
theorem bu (n:Int):ie n = some (eU n):=by
 unfold ie eU;split <;> rfl
theorem BY (n:Int):(if 1 > n then 1 else n) = eU n:=rfl
def ee (s:ae) (a:List Int):List ao:=[if 0 < a.length then vOf s (a.getD 0 default) else ⟨0,0⟩,if 1 < a.length then vOf s (a.getD 1 default) else ⟨0,0⟩,if 2 < a.length then vOf s (a.getD 2 default) else ⟨0,0⟩]
theorem AV {s:ae} {r:af} {i:Nat} {l:List ao} (hi:i < r.a.length) (h3:r.a.length ≤ 3) (hl:l.length = 3) (hin:∀ x∈r.a,inV s x) :
  cq s r l (i:Int) = some (.inl (l.set i (vOf s (r.a.getD i default)),((i + 1:Nat):Int))):=by
 unfold cq
 have gi:=hin _ (aS hi)
 unfold inV at gi
 rw [iP (ltI hi)]
 simp only [tN]
 rw [iP ⟨inI hi,gi,by omega,by omega⟩,wrs i (by omega)]
 rfl
theorem zH {s:ae} {r:af} (h3:r.a.length ≤ 3) (hin:∀ x∈r.a,inV s x) :
  aZ (fun x:List ao×Int=>cq s r x.1 x.2) (List.replicate 3 (ao.mk 0 0),0) = some (ee s r.a):=by
 have fin:∀ l,aZ (fun x:List ao×Int=>cq s r x.1 x.2) (l,(r.a.length:Int)) = some l:=fun l=>cB (by
  show cq s r l (r.a.length:Int) = _
  unfold cq
  rw [iN (bm _)])
 have nx:∀ (i:Nat) (l:List ao),i < r.a.length→l.length = 3→aZ (fun x:List ao×Int=>cq s r x.1 x.2) (l,(i:Int)) = aZ (fun x:List ao×Int=>cq s r x.1 x.2) (l.set i (vOf s (r.a.getD i default)),((i + 1:Nat):Int)) :=
  fun i l hi hl=>cH (AV hi h3 hl hin)
 have e:r.a.length = 0∨r.a.length = 1∨r.a.length = 2∨r.a.length = 3:=by omega
 unfold ee
 rcases e with e | e | e | e
 ·have:=fin (List.replicate 3 (ao.mk 0 0))
  rw [e] at this ⊢
  exact this
 ·have h0:=nx 0 (List.replicate 3 (ao.mk 0 0)) (by omega) rfl
  have:=fin ((List.replicate 3 (ao.mk 0 0)).set 0 (vOf s (r.a.getD 0 default)))
  rw [e] at this ⊢
  exact h0.trans this
 ·have h0:=nx 0 (List.replicate 3 (ao.mk 0 0)) (by omega) rfl
  have h1:=nx 1 ((List.replicate 3 (ao.mk 0 0)).set 0 (vOf s (r.a.getD 0 default))) (by omega) rfl
  have:=fin (((List.replicate 3 (ao.mk 0 0)).set 0 (vOf s (r.a.getD 0 default))).set 1 (vOf s (r.a.getD 1 default)))
  rw [e] at this ⊢
  exact h0.trans (h1.trans this)
 ·have h0:=nx 0 (List.replicate 3 (ao.mk 0 0)) (by omega) rfl
  have h1:=nx 1 ((List.replicate 3 (ao.mk 0 0)).set 0 (vOf s (r.a.getD 0 default))) (by omega) rfl
  have h2:=nx 2 (((List.replicate 3 (ao.mk 0 0)).set 0 (vOf s (r.a.getD 0 default))).set 1 (vOf s (r.a.getD 1 default))) (by omega) rfl
  have:=fin ((((List.replicate 3 (ao.mk 0 0)).set 0 (vOf s (r.a.getD 0 default))).set 1 (vOf s (r.a.getD 1 default))).set 2 (vOf s (r.a.getD 2 default)))
  rw [e] at this ⊢
  exact h0.trans (h1.trans (h2.trans this))
theorem cP {s:ae} {r:af} (ho:inV s r.out_) (h3:r.a.length ≤ 3) (hin:∀ x∈r.a,inV s x):aD s r = aE s r (ee s r.a):=by
 unfold aD
 unfold inV at ho
 rw [iP ho]
 show (aZ (fun x:List ao×Int=>cq s r x.1 x.2) (List.replicate 3 (ao.mk 0 0),0)).bind (fun z21=>aE s r z21) = _
 rw [zH h3 hin]
 rfl
def nmd (p : ay) : Bool := p.op == 2 || p.op == 3 || p.op == 8
def jj (a : List Int) (e : List ay) : List Int := (e.foldl (fun l p => if nmd p then l ++ [p.v] else l) a).foldl ins []
theorem wrN (i : Nat) (h : i < 1000000000) : IntKind.wrap .i64 ((i : Int) + 1) = ((i + 1 : Nat) : Int) := wrs i (by omega)
theorem tT (n : Nat) (h : n ≤ 1000000) : dg n 8 := by
 unfold dg
 have : maxLen = 9223372036854775807 := rfl
 omega
theorem zI (l : List Int) (h : l.length ≤ 1000000) : bH l = some l := by
 unfold bH
 by_cases e : l = []
 ·rw [iP e, e]
 ·rw [iN e, iP (tT _ h)]
theorem AW (l : List Int) (h : l.length ≤ 2000000) : (eE l).bind (fun y6 => (dx l.length y6).bind fun y7 => some y7) = some (l.foldl ins []) := by
 unfold eE dx
 rw [iP (by omega)]
 show (if l.length = (nG l).length ∧ (nG l).length ≤ 140737488355328 then some (Go.Lib.compact (nG l)) else none).bind (fun y7 => some y7) = _
 rw [iP ⟨(kY l).symm, by rw [kY]; omega⟩, rC]
 rfl
theorem pE (r : af) (ha : r.a.length ≤ 500000) (he : r.e.length ≤ 500000) : lG r = some (jj r.a r.e) := by
 unfold lG
 rw [zI _ (by omega)]
 show (aZ (fun (x : List Int × Int) => fE r x.1 x.2) (r.a, 0)).bind (fun z26 => jq z26) = _
 obtain ⟨h1, h2⟩ := lm (A := List Int) (T := ay) (O := List Int) (S := List Int × Int) (fun a i => (a, i)) (body := fun x => fE r x.1 x.2) r.e (fun l p => if nmd p then l ++ [p.v] else l)
  (fun i a => a.length ≤ r.a.length + i) (fun a => a) r.a (by omega)
  (by
   intro i a hi hI
   have step : ∀ b : Bool, b = nmd (r.e.getD i default) → gH r a (i : Int) b = some (.inl ((if nmd (r.e.getD i default) then a ++ [(r.e.getD i default).v] else a), ((i + 1 : Nat) : Int))) := by
    intro b hb
    subst hb
    unfold gH
    rw [wrN i (by omega)]
    cases nmd (r.e.getD i default)
    ·rfl
    ·rw [iP rfl, iP (tT _ (by omega))]; rfl
   refine ⟨?_, ?_⟩
   ·show fE r a (i : Int) = _
    unfold fE
    rw [iP (ltI hi), iP (inI hi)]
    simp only [tN]
    split
    ·rename_i h; exact step _ (by unfold nmd; rw [h]; rfl)
    ·rename_i h
     split
     ·rename_i h'; exact step _ (by unfold nmd; rw [h']; rfl)
     ·rename_i h'; exact step _ (by unfold nmd; rw [nB h, nB h']; rfl)
   ·split
    ·simp; omega
    ·omega)
  (by
   intro a hI
   show fE r a (r.e.length : Int) = _
   unfold fE
   rw [iN (bm _)])
 rw [h1]
 exact AW _ (by omega)
def mR (n : Int) (s : List Int × Bool) (x : Int) : List Int × Bool :=
 if s.2 then (s.1 ++ [x], true) else if x ≥ n then (if x > n then (s.1 ++ [n] ++ [x], true) else (s.1 ++ [x], true)) else (s.1 ++ [x], false)
theorem tU (n : Int) (l : List Int) : ∀ (a : List Int), l.foldl (mR n) (a, true) = (a ++ l, true) := by
 induction l with
 | nil => intro a; simp
 | cons x l ih => intro a; rw [List.foldl_cons]; show l.foldl (mR n) (a ++ [x], true) = _; rw [ih]; simp
theorem wO (n : Int) (l : List Int) : ∀ (a : List Int), (let s := l.foldl (mR n) (a, false); if s.2 then s.1 else s.1 ++ [n]) = a ++ ins l n := by
 induction l with
 | nil => intro a; simp [ins]
 | cons x l ih =>
  intro a
  rw [List.foldl_cons]
  by_cases h : x ≥ n
  ·by_cases h' : x > n
   ·have e : mR n (a, false) x = (a ++ [n] ++ [x], true) := by simp [mR, h, h']
    rw [e, tU]
    simp [ins, h, h']
   ·have e : mR n (a, false) x = (a ++ [x], true) := by simp [mR, h, h']
    rw [e, tU]
    simp [ins, h, h']
  ·have e : mR n (a, false) x = (a ++ [x], false) := by simp [mR, h]
   rw [e, ih]
   simp [ins, h]
theorem rI (l : List Int) (n : Int) : (ins l n).length ≤ l.length + 1 := by
 induction l with
 | nil => simp [ins]
 | cons x l ih =>
  unfold ins
  split
  ·split <;> simp
  ·simp; omega
theorem ql (l : List Int) (n : Int) (h : l.length ≤ 900000) : ka l n = some (ins l n) := by
 unfold ka
 obtain ⟨h1, h2⟩ := lm (A := List Int × Bool) (T := Int) (O := List Int × Bool) (S := List Int × Bool × Int) (fun a i => (a.1, a.2, i)) (body := fun x => d5 l n x.1 x.2.1 x.2.2) l (mR n)
  (fun i a => a.1.length ≤ i + (if a.2 then 1 else 0)) (fun a => a) ([], false) (by simp)
  (by
   intro i a hi hI
   obtain ⟨a, b⟩ := a
   simp only at hI
   have hlen : a.length ≤ i + 1 := by revert hI; cases b <;> simp <;> omega
   have j2 : ∀ (q : List Int) (c : Bool), q.length ≤ 999999 → d4 l (i : Int) q c = some (.inl (q ++ [l.getD i default], c, ((i + 1 : Nat) : Int))) := by
    intro q c hq
    unfold d4
    rw [iP ⟨inI hi, tT _ (by omega)⟩, wrN i (by omega)]
    rfl
   refine ⟨?_, ?_⟩
   ·show d5 l n a b (i : Int) = _
    unfold d5
    rw [iP (ltI hi)]
    cases b with
    | true =>
     rw [iP rfl, j2 _ _ (by omega)]
     rfl
    | false =>
     rw [iN (by decide), iP (inI hi)]
     simp only [tN]
     by_cases hge : l.getD i default ≥ n
     ·rw [iP hge]
      by_cases hgt : l.getD i default > n
      ·rw [iP hgt, iP (tT _ (by omega)), j2 _ _ (by simp [lit]; omega)]
       have e : mR n (a, false) (l.getD i default) = (a ++ [n] ++ [l.getD i default], true) := by unfold mR; rw [iN (by simp), iP hge, iP hgt]
       rw [e]; rfl
      ·rw [iN hgt, j2 _ _ (by omega)]
       have e : mR n (a, false) (l.getD i default) = (a ++ [l.getD i default], true) := by unfold mR; rw [iN (by simp), iP hge, iN hgt]
       rw [e]
     ·rw [iN hge, j2 _ _ (by omega)]
      have e : mR n (a, false) (l.getD i default) = (a ++ [l.getD i default], false) := by unfold mR; rw [iN (by simp), iN hge]
      rw [e]
   ·have gen : ∀ x : Int, (mR n (a, b) x).1.length ≤ i + 1 + (if (mR n (a, b) x).2 = true then 1 else 0) := by
     intro x
     unfold mR
     cases b with
     | true => simp at hI ⊢; omega
     | false =>
      simp at hI
      by_cases hge : x ≥ n
      ·by_cases hgt : x > n
       ·simp only [Bool.false_eq_true, if_false, iP hge, iP hgt]; simp; omega
       ·simp only [Bool.false_eq_true, if_false, iP hge, iN hgt]; simp; omega
      ·simp only [Bool.false_eq_true, if_false, iN hge]; simp; omega
    exact gen _)
  (by
   intro a hI
   show d5 l n a.1 a.2 (l.length : Int) = _
   unfold d5
   rw [iN (bm _)])
 show (aZ (fun (x : List Int × Bool × Int) => d5 l n x.1 x.2.1 x.2.2) ([], false, 0)).bind (fun z => fX n z.1 z.2) = _
 rw [h1]
 have h3 := wO n l []
 simp only [List.nil_append] at h3
 have hl := rI l n
 rw [← h3] at hl ⊢
 simp only [bSq]
 unfold fX
 cases hs : (l.foldl (mR n) ([], false)).2 with
 | true => simp
 | false =>
  rw [hs] at h2
  simp only [Bool.false_eq_true, if_false, Nat.add_zero] at h2 ⊢
  rw [iP (tT _ (by omega))]
  rfl
theorem to (l a : List Int) : (l.foldl ins a).length ≤ a.length + l.length := by
 induction l generalizing a with
 | nil => simp
 | cons x l ih => rw [List.foldl_cons]; have := ih (ins a x); have := rI a x; simp; omega
theorem sE (r : af) (ha : r.a.length ≤ 400000) (he : r.e.length ≤ 400000) : n5 r = some (jj r.a r.e) := by
 unfold n5
 obtain ⟨h1, h2⟩ := lm (A := List Int) (T := Int) (O := List Int) (S := List Int × Int) (fun a i => (a, i)) (body := fun x => fQ r x.1 x.2) r.a ins
  (fun i a => a.length ≤ i) (fun a => a) [] (by simp)
  (by
   intro i a hi hI
   refine ⟨?_, by have := rI a (r.a.getD i default); omega⟩
   show fQ r a (i : Int) = _
   unfold fQ
   rw [iP (ltI hi), iP (inI hi)]
   simp only [tN]
   rw [ql _ _ (by omega), wrN i (by omega)]
   rfl)
  (by
   intro a hI
   show fQ r a (r.a.length : Int) = _
   unfold fQ
   rw [iN (bm _)])
 show (aZ (fun (x : List Int × Int) => fQ r x.1 x.2) ([], 0)).bind (fun z => iD r z) = _
 rw [h1]
 simp only [bSq]
 unfold iD
 obtain ⟨h3, h4⟩ := lm (A := List Int) (T := ay) (O := List Int) (S := List Int × Int) (fun a i => (a, i)) (body := fun x => fP r x.1 x.2) r.e (fun l p => if nmd p then ins l p.v else l)
  (fun i a => a.length ≤ r.a.length + i) (fun a => a) (r.a.foldl ins []) (by simpa using h2)
  (by
   intro i a hi hI
   have hn : mL (r.e.getD i default) = some (nmd (r.e.getD i default)) := by
    unfold mL nmd
    split
    ·rename_i h; rw [h]; rfl
    ·rename_i h
     split
     ·rename_i h'; rw [h']; rfl
     ·rename_i h'; rw [nB h, nB h']; rfl
   refine ⟨?_, ?_⟩
   ·show fP r a (i : Int) = _
    unfold fP
    rw [iP (ltI hi), iP (inI hi)]
    simp only [tN]
    rw [hn, wrN i (by omega)]
    simp only [bSq]
    cases nmd (r.e.getD i default)
    ·rfl
    ·simp only [if_true]
     rw [ql _ _ (by omega)]
     rfl
   ·split
    ·have := rI a (r.e.getD i default).v; omega
    ·omega)
  (by
   intro a hI
   show fP r a (r.e.length : Int) = _
   unfold fP
   rw [iN (bm _)])
 show (aZ (fun (x : List Int × Int) => fP r x.1 x.2) (r.a.foldl ins [], 0)).bind (fun z => jt z) = _
 rw [h3]
 have key : ∀ (e : List ay) (a b : List Int), e.foldl (fun l p => if nmd p then ins l p.v else l) (a.foldl ins b) = (e.foldl (fun l p => if nmd p then l ++ [p.v] else l) a).foldl ins b := by
  intro e
  induction e with
  | nil => intro a b; rfl
  | cons p e ih =>
   intro a b
   rw [List.foldl_cons, List.foldl_cons]
   cases nmd p
   ·simp only [Bool.false_eq_true, if_false]; exact ih a b
   ·simp only [if_true]
    rw [← ih, List.foldl_append]
    rfl
 rw [key]
 rfl
structure iH (s:ae) (r:af):Prop where
 o:inV s r.out_
 a:∀ x∈r.a,inV s x
 u:14 ≤ r.op→∀ p∈r.e,od s p
 e:r.e.length ≤ 24
theorem aL {s:ae} (hv:ew s) {x:Int} (h:inV s x):okE (vOf s x).elem∧0 ≤ (vOf s x).n∧(vOf s x).n ≤ 300:=by
 have:s.vars.getD x.toNat default∈s.vars:=aS (by unfold inV at h;omega)
 exact ⟨hv.e _ this,hv.n _ this⟩
theorem dw (e:Int):gL e = some (ao.mk e 0):=by unfold gL;rfl
theorem xH {s:ae} {c x:Int} (h:inV s x):iy x (aB.mk s c) = some (ao.mk (vOf s x).elem 0,decide ((vOf s x).n > 0)):=by
 unfold iy
 unfold inV at h
 rw [iP h,dw]
 rfl
theorem wrd {a b:Int} (ha:0 ≤ a∧a ≤ 300) (hb:0 ≤ b∧b ≤ 300):IntKind.wrap .i64 (a - b) = a - b∧IntKind.wrap .i64 (a + b) = a + b:=⟨wr (by omega) (by omega),wr (by omega) (by omega)⟩
theorem sF {s:ae} {c:Int} {r:af} {o:ao} {n:Int} (hv:ew s) (hu:∀ p∈r.e,od s p) (he:r.e.length ≤ 24) (ho:okE o.elem) (hn:1 ≤ n∧n ≤ 300) :
  dA r o (aB.mk s c) n = some (jY s n r.e == o.elem)∧jP s r.e n = some (jY s n r.e):=by
 obtain ⟨⟨q,h1,h2,h3⟩,h4⟩:=tR (c:=c) hv hu hn (by omega)
 refine ⟨?_,h4⟩
 unfold dA
 rw [h1]
 simp only [bSq]
 by_cases hq:q.2 = true
 ·rw [iP hq,(h2 hq).1]
 ·rw [iN hq,h3 (by simpa using hq)]
  congr 1
  symm
  rw [beq_eq_false_iff_ne]
  unfold okE at ho
  omega
theorem De {s:ae} {c:Int} {k o n:Int} {e:List ay} (hv:ew s) (h:iH s (af.mk 1 k o n [] e)) :
  aH (af.mk 1 k o n [] e) (aB.mk s c) = aD s (af.mk 1 k o n [] e)∧aD s (af.mk 1 k o n [] e) ≠ none:=by
 have ho:inV s o:=h.o
 rw [cP h.o (by simp) h.a]
 have go:=aL hv ho
 unfold inV at ho
 simp only [aH,aW,aV,aU,aE,ho,and_self,bSq,gS,bB,dJ,bw,dw,cO,List.length_cons,List.length_nil,List.getD_cons_zero,List.getD_cons_succ,ee,Nat.reduceAdd,Nat.reduceLT,if_true,if_false,reduceCtorEq]
 unfold okE at *
 refine ⟨?_,?_⟩ <;> grind
theorem Df {s:ae} {c:Int} {k o n x:Int} {e:List ay} (hv:ew s) (h:iH s (af.mk 2 k o n [x] e)) :
  aH (af.mk 2 k o n [x] e) (aB.mk s c) = aD s (af.mk 2 k o n [x] e)∧aD s (af.mk 2 k o n [x] e) ≠ none:=by
 have ho:inV s o:=h.o
 have hx:inV s x:=h.a x (by simp)
 rw [cP h.o (by simp) h.a]
 have go:=aL hv ho
 have gx:=aL hv hx
 unfold inV at ho hx
 simp only [aH,aW,aV,aU,aE,ho,hx,and_self,bSq,gS,bB,dJ,bw,dw,cO,List.length_cons,List.length_nil,List.getD_cons_zero,List.getD_cons_succ,ee,Nat.reduceAdd,Nat.reduceLT,if_true,if_false,reduceCtorEq]
 unfold okE at *
 refine ⟨?_,?_⟩ <;> grind
theorem Dg {s:ae} {c:Int} {k o n x:Int} {e:List ay} (hv:ew s) (h:iH s (af.mk 3 k o n [x] e)) :
  aH (af.mk 3 k o n [x] e) (aB.mk s c) = aD s (af.mk 3 k o n [x] e)∧aD s (af.mk 3 k o n [x] e) ≠ none:=by
 have ho:inV s o:=h.o
 have hx:inV s x:=h.a x (by simp)
 rw [cP h.o (by simp) h.a]
 have go:=aL hv ho
 have gx:=aL hv hx
 unfold inV at ho hx
 simp only [aH,aW,aV,aU,aE,ho,hx,and_self,bSq,gS,bB,dJ,bw,dw,cO,List.length_cons,List.length_nil,List.getD_cons_zero,List.getD_cons_succ,ee,Nat.reduceAdd,Nat.reduceLT,if_true,if_false,reduceCtorEq]
 unfold okE at *
 refine ⟨?_,?_⟩ <;> grind
theorem Dh {s:ae} {c:Int} {k o n x y:Int} {e:List ay} (hv:ew s) (h:iH s (af.mk 4 k o n [x,y] e)) :
  aH (af.mk 4 k o n [x,y] e) (aB.mk s c) = aD s (af.mk 4 k o n [x,y] e)∧aD s (af.mk 4 k o n [x,y] e) ≠ none:=by
 have ho:inV s o:=h.o
 have hx:inV s x:=h.a x (by simp)
 have hy:inV s y:=h.a y (by simp)
 rw [cP h.o (by simp) h.a]
 have go:=aL hv ho
 have gx:=aL hv hx
 have gy:=aL hv hy
 have hs:=AU (s:=s) (c:=c) (l:=[x,y]) (by simp) (by simp) h.a
 simp only [List.getD_cons_zero,List.all_cons,List.all_nil,Bool.and_true] at hs
 unfold inV at ho hx hy
 simp only [aH,aW,aV,aU,aE,ho,hx,hy,and_self,bSq,gS,bB,dJ,bw,dw,cO,List.length_cons,List.length_nil,List.getD_cons_zero,List.getD_cons_succ,ee,Nat.reduceAdd,Nat.reduceLT,if_true,if_false,reduceCtorEq,hs]
 unfold oe
 unfold okE at *
 refine ⟨?_,?_⟩ <;> grind
theorem Di {s:ae} {c:Int} {k o n x y z:Int} {e:List ay} (hv:ew s) (h:iH s (af.mk 5 k o n [x,y,z] e)) :
  aH (af.mk 5 k o n [x,y,z] e) (aB.mk s c) = aD s (af.mk 5 k o n [x,y,z] e)∧aD s (af.mk 5 k o n [x,y,z] e) ≠ none:=by
 have ho:inV s o:=h.o
 have hx:inV s x:=h.a x (by simp)
 have hy:inV s y:=h.a y (by simp)
 have hz:inV s z:=h.a z (by simp)
 rw [cP h.o (by simp) h.a]
 have go:=aL hv ho
 have gx:=aL hv hx
 have gy:=aL hv hy
 have gz:=aL hv hz
 have hs:=vD (s:=s) (c:=c) (l:=[y,z,o]) (by simp) (by simp) (by intro w hw;simp at hw;rcases hw with rfl | rfl | rfl <;> assumption)
 simp only [List.getD_cons_zero,List.all_cons,List.all_nil,Bool.and_true] at hs
 unfold inV at ho hx hy hz
 simp only [aH,aW,aV,aU,aE,ho,hx,hy,hz,and_self,bSq,gS,bB,dJ,bw,dw,cO,List.length_cons,List.length_nil,List.getD_cons_zero,List.getD_cons_succ,ee,Nat.reduceAdd,Nat.reduceLT,if_true,if_false,reduceCtorEq,hs,lit]
 unfold oe
 unfold okE at *
 refine ⟨?_,?_⟩ <;> grind
theorem Dj {s:ae} {c:Int} {k o n x y:Int} {e:List ay} (hv:ew s) (h:iH s (af.mk 6 k o n [x,y] e)) :
  aH (af.mk 6 k o n [x,y] e) (aB.mk s c) = aD s (af.mk 6 k o n [x,y] e)∧aD s (af.mk 6 k o n [x,y] e) ≠ none:=by
 have ho:inV s o:=h.o
 have hx:inV s x:=h.a x (by simp)
 have hy:inV s y:=h.a y (by simp)
 rw [cP h.o (by simp) h.a]
 have go:=aL hv ho
 have gx:=aL hv hx
 have gy:=aL hv hy
 unfold inV at ho hx hy
 simp only [aH,aW,aV,aU,aE,ho,hx,hy,and_self,bSq,gS,bB,dJ,bw,dw,cO,List.length_cons,List.length_nil,List.getD_cons_zero,List.getD_cons_succ,ee,Nat.reduceAdd,Nat.reduceLT,if_true,if_false,reduceCtorEq]
 unfold okE at *
 refine ⟨?_,?_⟩ <;> grind
theorem Dk {s:ae} {c:Int} {k o n x y:Int} {e:List ay} (hv:ew s) (h:iH s (af.mk 7 k o n [x,y] e)) :
  aH (af.mk 7 k o n [x,y] e) (aB.mk s c) = aD s (af.mk 7 k o n [x,y] e)∧aD s (af.mk 7 k o n [x,y] e) ≠ none:=by
 have ho:inV s o:=h.o
 have hx:inV s x:=h.a x (by simp)
 have hy:inV s y:=h.a y (by simp)
 rw [cP h.o (by simp) h.a]
 have go:=aL hv ho
 have gx:=aL hv hx
 have gy:=aL hv hy
 unfold inV at ho hx hy
 simp only [aH,aW,aV,aU,aE,ho,hx,hy,and_self,bSq,gS,bB,dJ,bw,dw,cO,List.length_cons,List.length_nil,List.getD_cons_zero,List.getD_cons_succ,ee,Nat.reduceAdd,Nat.reduceLT,if_true,if_false,reduceCtorEq]
 unfold okE at *
 refine ⟨?_,?_⟩ <;> grind
theorem Dl {s:ae} {c:Int} {k o n x:Int} {e:List ay} (hv:ew s) (h:iH s (af.mk 8 k o n [x] e)) :
  aH (af.mk 8 k o n [x] e) (aB.mk s c) = aD s (af.mk 8 k o n [x] e)∧aD s (af.mk 8 k o n [x] e) ≠ none:=by
 have ho:inV s o:=h.o
 have hx:inV s x:=h.a x (by simp)
 rw [cP h.o (by simp) h.a]
 have go:=aL hv ho
 have gx:=aL hv hx
 unfold inV at ho hx
 simp only [aH,aW,aV,aU,aE,ho,hx,and_self,bSq,gS,bB,dJ,bw,dw,cO,List.length_cons,List.length_nil,List.getD_cons_zero,List.getD_cons_succ,ee,Nat.reduceAdd,Nat.reduceLT,if_true,if_false,reduceCtorEq]
 unfold okE at *
 refine ⟨?_,?_⟩ <;> grind
theorem Dm {s:ae} {c:Int} {k o n x y z:Int} {e:List ay} (hv:ew s) (h:iH s (af.mk 9 k o n [x,y,z] e)) :
  aH (af.mk 9 k o n [x,y,z] e) (aB.mk s c) = aD s (af.mk 9 k o n [x,y,z] e)∧aD s (af.mk 9 k o n [x,y,z] e) ≠ none:=by
 have ho:inV s o:=h.o
 have hx:inV s x:=h.a x (by simp)
 have hy:inV s y:=h.a y (by simp)
 have hz:inV s z:=h.a z (by simp)
 rw [cP h.o (by simp) h.a]
 have go:=aL hv ho
 have gx:=aL hv hx
 have gy:=aL hv hy
 have gz:=aL hv hz
 have he:=xH (c:=c) hx
 unfold inV at ho hx hy hz
 simp only [aH,aW,aV,aU,aE,ho,hx,hy,hz,and_self,bSq,gS,bB,dJ,bw,dw,cO,List.length_cons,List.length_nil,List.getD_cons_zero,List.getD_cons_succ,ee,Nat.reduceAdd,Nat.reduceLT,if_true,if_false,reduceCtorEq,he]
 unfold okE at *
 refine ⟨?_,?_⟩ <;> grind
theorem CN {s:ae} {c:Int} {k o n x y z:Int} {e:List ay} (hv:ew s) (h:iH s (af.mk 10 k o n [x,y,z] e)) :
  aH (af.mk 10 k o n [x,y,z] e) (aB.mk s c) = aD s (af.mk 10 k o n [x,y,z] e)∧aD s (af.mk 10 k o n [x,y,z] e) ≠ none:=by
 have ho:inV s o:=h.o
 have hx:inV s x:=h.a x (by simp)
 have hy:inV s y:=h.a y (by simp)
 have hz:inV s z:=h.a z (by simp)
 rw [cP h.o (by simp) h.a]
 have go:=aL hv ho
 have gx:=aL hv hx
 have gy:=aL hv hy
 have gz:=aL hv hz
 have he:=xH (c:=c) hx
 unfold inV at ho hx hy hz
 simp only [aH,aW,aV,aU,aE,ho,hx,hy,hz,and_self,bSq,gS,bB,dJ,bw,dw,cO,List.length_cons,List.length_nil,List.getD_cons_zero,List.getD_cons_succ,ee,Nat.reduceAdd,Nat.reduceLT,if_true,if_false,reduceCtorEq,he]
 unfold okE at *
 refine ⟨?_,?_⟩ <;> grind
theorem CO {s:ae} {c:Int} {k o n x:Int} {e:List ay} (hv:ew s) (h:iH s (af.mk 11 k o n [x] e)) :
  aH (af.mk 11 k o n [x] e) (aB.mk s c) = aD s (af.mk 11 k o n [x] e)∧aD s (af.mk 11 k o n [x] e) ≠ none:=by
 have ho:inV s o:=h.o
 have hx:inV s x:=h.a x (by simp)
 rw [cP h.o (by simp) h.a]
 have go:=aL hv ho
 have gx:=aL hv hx
 have hw:=(wrd gx.2 go.2).1
 unfold inV at ho hx
 simp only [aH,aW,aV,aU,aE,ho,hx,and_self,bSq,gS,bB,dJ,bw,dw,cO,List.length_cons,List.length_nil,List.getD_cons_zero,List.getD_cons_succ,ee,Nat.reduceAdd,Nat.reduceLT,if_true,if_false,reduceCtorEq,hw]
 unfold okE at *
 by_cases hle:(vOf s o).n ≤ (vOf s x).n
 ·refine ⟨?_,?_⟩ <;> grind
 ·by_cases hn0:n ≥ 0
  ·have hd:decide (n ≤ (vOf s x).n - (vOf s o).n) = false:=by simp;omega
   simp only [hd]
   refine ⟨?_,?_⟩ <;> grind
  ·refine ⟨?_,?_⟩ <;> grind
theorem CP {s:ae} {c:Int} {k o n x y:Int} {e:List ay} (hv:ew s) (h:iH s (af.mk 12 k o n [x,y] e)) :
  aH (af.mk 12 k o n [x,y] e) (aB.mk s c) = aD s (af.mk 12 k o n [x,y] e)∧aD s (af.mk 12 k o n [x,y] e) ≠ none:=by
 have ho:inV s o:=h.o
 have hx:inV s x:=h.a x (by simp)
 have hy:inV s y:=h.a y (by simp)
 rw [cP h.o (by simp) h.a]
 have go:=aL hv ho
 have gx:=aL hv hx
 have gy:=aL hv hy
 have hw:=(wrd gx.2 gy.2).2
 unfold inV at ho hx hy
 simp only [aH,aW,aV,aU,aE,ho,hx,hy,and_self,bSq,gS,bB,dJ,bw,dw,cO,List.length_cons,List.length_nil,List.getD_cons_zero,List.getD_cons_succ,ee,Nat.reduceAdd,Nat.reduceLT,if_true,if_false,reduceCtorEq,hw]
 unfold okE at *
 refine ⟨?_,?_⟩ <;> grind
theorem CQ {s:ae} {c:Int} {k o n x y:Int} {e:List ay} (hv:ew s) (h:iH s (af.mk 13 k o n [x,y] e)) :
  aH (af.mk 13 k o n [x,y] e) (aB.mk s c) = aD s (af.mk 13 k o n [x,y] e)∧aD s (af.mk 13 k o n [x,y] e) ≠ none:=by
 have ho:inV s o:=h.o
 have hx:inV s x:=h.a x (by simp)
 have hy:inV s y:=h.a y (by simp)
 rw [cP h.o (by simp) h.a]
 have go:=aL hv ho
 have gx:=aL hv hx
 have gy:=aL hv hy
 have hs:=vD (s:=s) (c:=c) (l:=[x,y,o]) (by simp) (by simp) (by intro w hw;simp at hw;rcases hw with rfl | rfl | rfl <;> assumption)
 simp only [List.getD_cons_zero,List.all_cons,List.all_nil,Bool.and_true] at hs
 unfold inV at ho hx hy
 simp only [aH,aW,aV,aU,aE,ho,hx,hy,and_self,bSq,gS,bB,dJ,bw,dw,cO,List.length_cons,List.length_nil,List.getD_cons_zero,List.getD_cons_succ,ee,Nat.reduceAdd,Nat.reduceLT,if_true,if_false,reduceCtorEq,hs,lit]
 unfold oe
 unfold okE at *
 refine ⟨?_,?_⟩ <;> grind
theorem CR {s:ae} {c:Int} {k o n:Int} {e:List ay} (hv:ew s) (h:iH s (af.mk 14 k o n [] e)) :
  aH (af.mk 14 k o n [] e) (aB.mk s c) = aD s (af.mk 14 k o n [] e)∧aD s (af.mk 14 k o n [] e) ≠ none:=by
 have ho:inV s o:=h.o
 rw [cP h.o (by simp) h.a]
 have go:=aL hv ho
 have hc:=sF (c:=c) (r:=af.mk 14 k o n [] e) (o:=vOf s o) (n:=eU (vOf s o).n) hv (h.u (by simp)) h.e go.1 (by unfold eU;split <;> omega)
 unfold inV at ho
 simp only [aH,aW,aV,aU,aE,ho,and_self,bSq,gS,bB,dJ,bw,dw,cO,List.length_cons,List.length_nil,List.getD_cons_zero,List.getD_cons_succ,ee,Nat.reduceAdd,Nat.reduceLT,if_true,if_false,reduceCtorEq,gq,cJ,bu,BY]
 simp only [hc.1,hc.2]
 refine ⟨?_,?_⟩ <;> grind
theorem CS {s:ae} {c:Int} {k o n x:Int} {e:List ay} (hv:ew s) (h:iH s (af.mk 15 k o n [x] e)) :
  aH (af.mk 15 k o n [x] e) (aB.mk s c) = aD s (af.mk 15 k o n [x] e)∧aD s (af.mk 15 k o n [x] e) ≠ none:=by
 have ho:inV s o:=h.o
 have hx:inV s x:=h.a x (by simp)
 rw [cP h.o (by simp) h.a]
 have go:=aL hv ho
 have gx:=aL hv hx
 have hc:=fun (hn:1 ≤ n∧n ≤ 300)=>sF (c:=c) (r:=af.mk 15 k o n [x] e) (o:=vOf s o) (n:=n) hv (h.u (by simp)) h.e go.1 hn
 unfold inV at ho hx
 simp only [aH,aW,aV,aU,aE,ho,hx,and_self,bSq,gS,bB,dJ,bw,dw,cO,List.length_cons,List.length_nil,List.getD_cons_zero,List.getD_cons_succ,ee,Nat.reduceAdd,Nat.reduceLT,if_true,if_false,reduceCtorEq,gq,cJ,bu,BY]
 by_cases hn:1 ≤ n∧n ≤ 300
 ·simp only [(hc hn).1,(hc hn).2,bSq]
  unfold okE at *
  refine ⟨?_,?_⟩ <;> grind
 ·unfold okE at *
  refine ⟨?_,?_⟩ <;> grind
theorem CT {s:ae} {c:Int} {k o n x:Int} {e:List ay} (hv:ew s) (h:iH s (af.mk 16 k o n [x] e)) :
  aH (af.mk 16 k o n [x] e) (aB.mk s c) = aD s (af.mk 16 k o n [x] e)∧aD s (af.mk 16 k o n [x] e) ≠ none:=by
 have ho:inV s o:=h.o
 have hx:inV s x:=h.a x (by simp)
 rw [cP h.o (by simp) h.a]
 have go:=aL hv ho
 have gx:=aL hv hx
 have hc:=fun (hn:1 ≤ (vOf s o).n)=>sF (c:=c) (r:=af.mk 16 k o n [x] e) (o:=vOf s o) (n:=(vOf s o).n) hv (h.u (by simp)) h.e go.1 ⟨hn,go.2.2⟩
 unfold inV at ho hx
 simp only [aH,aW,aV,aU,aE,ho,hx,and_self,bSq,gS,bB,dJ,bw,dw,cO,List.length_cons,List.length_nil,List.getD_cons_zero,List.getD_cons_succ,ee,Nat.reduceAdd,Nat.reduceLT,if_true,if_false,reduceCtorEq,gq,cJ,bu,BY]
 by_cases hn:1 ≤ (vOf s o).n
 ·have hcv:eU (vOf s o).n = (vOf s o).n:=by unfold eU;rw [iN (by omega)]
  simp only [hcv,(hc hn).1,(hc hn).2,bSq]
  unfold okE at *
  refine ⟨?_,?_⟩ <;> grind
 ·unfold okE at *
  refine ⟨?_,?_⟩ <;> grind
theorem tp (l:List Int):∀ (a:List Int) (x:Int),x∈l.foldl ins a↔x∈a∨x∈l:=by
 induction l with
 | nil=>intro a x;simp
 | cons y l ih=>intro a x;rw [List.foldl_cons,ih,uL];simp;grind
theorem yz (e:List ay):∀ (a:List Int) (x:Int),x∈e.foldl (fun l p=>if nmd p then l ++ [p.v] else l) a↔x∈a∨∃ p∈e,nmd p = true∧p.v = x:=by
 induction e with
 | nil=>intro a x;simp
 | cons p e ih =>
  intro a x
  rw [List.foldl_cons,ih]
  by_cases h:nmd p = true
  ·rw [iP h];simp;grind
  ·rw [iN h];simp;grind
theorem lP (a:List Int) (e:List ay) (x:Int):x∈jj a e↔x∈a∨∃ p∈e,nmd p = true∧p.v = x:=by
 unfold jj
 rw [tp,yz]
 simp
theorem xI (p:ay):nmd p = true↔(p.op = 2∨p.op = 3∨p.op = 8):=by unfold nmd;simp;grind
def b9 (r:af):List Int:=if r.op < 14 then jj r.a [] else jj r.a r.e
theorem kK {r:af} {x:Int} (h:x∈r.a):x∈b9 r:=by
 unfold b9
 split <;> (rw [lP];exact .inl h)
theorem AX {s:ae} {r:af} (h:∀ x∈b9 r,inV s x) (ho:14 ≤ r.op):∀ p∈r.e,od s p:=by
 intro p hp hn
 refine h _ ?_
 unfold b9
 rw [iN (by omega),lP]
 exact .inr ⟨p,hp,(xI p).2 hn,rfl⟩
def aO (op:Int):Int:=if 1 ≤ op∧op ≤ 16 then ([0,0,1,1,2,3,2,2,1,3,3,1,2,2,0,1,1]:List Int).getD op.toNat 0 else -1
noncomputable def jx (s:ae) (mk:List Int) (r:af):Int :=
 if ¬ inV s r.out_ then 16
 else if mk.contains r.out_ then 8
 else if aO r.op < 0∨¬ (r.a.length:Int) = aO r.op then 4
 else if (r.e.length:Int) > 24 then 7
 else if ∃ x∈b9 r,¬ inV s x then 16
 else if aD s r = some true then 0 else 10
def bt (s:ae) (i:Nat):List Int:=s.in_ ++ (s.rules.take i).map (fun r=>r.out_)
theorem lQ (s:ae) {i:Nat} (h:i < s.rules.length):bt s (i + 1) = bt s i ++ [(s.rules.getD i default).out_]:=by
 unfold bt
 rw [cE _ h,List.map_append,List.append_assoc]
 rfl
def fS (s:ae) (l:List Int):List Bool:=(List.range s.vars.length).map (fun (v:Nat)=>decide ((v:Int)∈l))
theorem jy (s:ae) (l:List Int):(fS s l).length = s.vars.length:=by unfold fS;simp
theorem tW {s:ae} {l:List Int} {v:Int} (h:inV s v):(fS s l).getD v.toNat default = l.contains v:=by
 unfold inV at h
 unfold fS
 have:v.toNat < s.vars.length:=by omega
 have e:((v.toNat:Nat):Int) = v:=by omega
 simp [List.getD,this,e]
theorem tX {s:ae} {l:List Int} {v:Int} (h:inV s v):(fS s l).set v.toNat true = fS s (l ++ [v]):=by
 unfold inV at h
 have e:((v.toNat:Nat):Int) = v:=by omega
 apply List.ext_getElem
 ·simp [jy]
 ·intro i h1 h2
  have hi:i < s.vars.length:=by simpa [jy] using h2
  rw [List.getElem_set]
  unfold fS
  simp only [List.getElem_map,List.getElem_range,List.mem_append,List.mem_singleton]
  split
  ·rename_i h3
   subst h3
   rw [e];simp
  ·rename_i h3
   have:¬ (i:Int) = v:=by omega
   simp [this]
noncomputable def jz (s:ae) (i:Nat):Option aw :=
 let c:=jx s (bt s i) (s.rules.getD i default)
 if c = 0 then none else some (aw.mk c (i:Int))
noncomputable def kU (s:ae) (i:Nat):Option aw :=
 if ∃ x∈b9 (s.rules.getD i default),¬ x∈bt s s.rules.length then some (aw.mk 9 (i:Int)) else none
def qI (s:ae) (i:Nat):Option aw :=
 if s.out_.getD i default∈bt s s.rules.length then none else some (aw.mk 9 (-1))
noncomputable def cU (s:ae):aw :=
 if ¬ (jv s).code = 0 then jv s
 else match dO s.rules.length (jz s) () with
  | .inr z=>z
  | .inl _=>match dO s.rules.length (kU s) () with
   | .inr z=>z
   | .inl _=>match dO s.out_.length (qI s) () with
    | .inr z=>z
    | .inl _=>aw.mk 0 0
theorem vF {s : ae} {c : Int} {r : af} (hv : ew s) (h : iH s r) (hp : ¬ aO r.op < 0) (hl : (r.a.length : Int) = aO r.op) :
  aH r (aB.mk s c) = aD s r ∧ aD s r ≠ none := by
 obtain ⟨op, k, o, n, a, e⟩ := r
 simp only at hp hl
 have hop : 1 ≤ op ∧ op ≤ 16 := by
  by_cases hc : 1 ≤ op ∧ op ≤ 16
  ·exact hc
  ·unfold aO at hp; rw [iN hc] at hp; omega
 have hcs : op = 1 ∨ op = 2 ∨ op = 3 ∨ op = 4 ∨ op = 5 ∨ op = 6 ∨ op = 7 ∨ op = 8 ∨ op = 9 ∨ op = 10 ∨ op = 11 ∨ op = 12 ∨ op = 13 ∨ op = 14 ∨ op = 15 ∨ op = 16 := by omega
 rcases hcs with rfl | rfl | rfl | rfl | rfl | rfl | rfl | rfl | rfl | rfl | rfl | rfl | rfl | rfl | rfl | rfl
 ·have hl' : a.length = 0 := by simpa [aO] using hl
  match a, hl' with | [], _ => exact De hv h
 ·have hl' : a.length = 1 := by simp [aO] at hl; omega
  match a, hl' with | [x], _ => exact Df hv h
 ·have hl' : a.length = 1 := by simp [aO] at hl; omega
  match a, hl' with | [x], _ => exact Dg hv h
 ·have hl' : a.length = 2 := by simp [aO] at hl; omega
  match a, hl' with | [x, y], _ => exact Dh hv h
 ·have hl' : a.length = 3 := by simp [aO] at hl; omega
  match a, hl' with | [x, y, z], _ => exact Di hv h
 ·have hl' : a.length = 2 := by simp [aO] at hl; omega
  match a, hl' with | [x, y], _ => exact Dj hv h
 ·have hl' : a.length = 2 := by simp [aO] at hl; omega
  match a, hl' with | [x, y], _ => exact Dk hv h
 ·have hl' : a.length = 1 := by simp [aO] at hl; omega
  match a, hl' with | [x], _ => exact Dl hv h
 ·have hl' : a.length = 3 := by simp [aO] at hl; omega
  match a, hl' with | [x, y, z], _ => exact Dm hv h
 ·have hl' : a.length = 3 := by simp [aO] at hl; omega
  match a, hl' with | [x, y, z], _ => exact CN hv h
 ·have hl' : a.length = 1 := by simp [aO] at hl; omega
  match a, hl' with | [x], _ => exact CO hv h
 ·have hl' : a.length = 2 := by simp [aO] at hl; omega
  match a, hl' with | [x, y], _ => exact CP hv h
 ·have hl' : a.length = 2 := by simp [aO] at hl; omega
  match a, hl' with | [x, y], _ => exact CQ hv h
 ·have hl' : a.length = 0 := by simpa [aO] using hl
  match a, hl' with | [], _ => exact CR hv h
 ·have hl' : a.length = 1 := by simp [aO] at hl; omega
  match a, hl' with | [x], _ => exact CS hv h
 ·have hl' : a.length = 1 := by simp [aO] at hl; omega
  match a, hl' with | [x], _ => exact CT hv h
theorem mS (op : Int) : aO op ≤ 3 := by
 unfold aO
 split
 ·rename_i h
  have hcs : op = 1 ∨ op = 2 ∨ op = 3 ∨ op = 4 ∨ op = 5 ∨ op = 6 ∨ op = 7 ∨ op = 8 ∨ op = 9 ∨ op = 10 ∨ op = 11 ∨ op = 12 ∨ op = 13 ∨ op = 14 ∨ op = 15 ∨ op = 16 := by omega
  rcases hcs with rfl | rfl | rfl | rfl | rfl | rfl | rfl | rfl | rfl | rfl | rfl | rfl | rfl | rfl | rfl | rfl <;> decide
 ·decide
theorem vG (op : Int) : lj op = some (aO op) := by
 unfold lj aO
 by_cases h : 1 ≤ op ∧ op ≤ 16
 ·rw [iN (by omega), iN (by omega), iP (by omega), iP h]; rfl
 ·rw [iN h]
  by_cases h1 : op < 1
  ·rw [iP h1]
  ·rw [iN h1, iP (by omega)]
theorem vH (op : Int) : js op = some (aO op) := by
 unfold js aO
 by_cases h : 1 ≤ op ∧ op ≤ 16
 ·rw [iN (by omega), iN (by omega), iP (by omega), iP h]
  have hcs : op = 1 ∨ op = 2 ∨ op = 3 ∨ op = 4 ∨ op = 5 ∨ op = 6 ∨ op = 7 ∨ op = 8 ∨ op = 9 ∨ op = 10 ∨ op = 11 ∨ op = 12 ∨ op = 13 ∨ op = 14 ∨ op = 15 ∨ op = 16 := by omega
  rcases hcs with rfl | rfl | rfl | rfl | rfl | rfl | rfl | rfl | rfl | rfl | rfl | rfl | rfl | rfl | rfl | rfl <;> rfl
 ·rw [iN h]
  by_cases h1 : op < 0
  ·rw [iP h1]
  ·rw [iN h1]
   by_cases h2 : op ≥ 17
   ·rw [iP h2]
   ·rw [iN h2]
    have : op = 0 := by omega
    subst this
    rfl
theorem AY (b : Bool) (c k : Int) (s : ae) : bQ b c (aB.mk s k) = some (if b = true ∧ k = 0 then c else k) := by
 unfold bQ
 cases b
 ·simp
 ·by_cases h : k = 0 <;> simp [h]
theorem sH (b : Bool) (c : Int) (s : ae) : bQ b c (aB.mk s 0) = some (if b = true then c else 0) := by
 unfold bQ
 cases b <;> rfl
theorem sK {b : Bool} {c k : Int} {s : ae} (h : k ≠ 0) : bQ b c (aB.mk s k) = some k := by
 unfold bQ
 cases b
 ·rfl
 ·simp [h]
theorem wP {s : ae} {r : af} {c x : Int} (h : x ≠ 0) : cY r (aB.mk s c) x = some (x, x) := by
 unfold cY
 rw [sK h]
 simp only [bSq]
 rw [iP h]
theorem zK {s : ae} {r : af} {c x : Int} (h : x ≠ 0) : cZ r (aB.mk s c) x = some (x, x) := by
 unfold cZ
 rw [vG]
 simp only [bSq, sK h]
 rw [wP h]
 split <;> rfl
theorem wQ (s : ae) (l : List Int) : ∀ a : Int, l.foldl (fun a x => if ¬ inV s x ∧ a = 0 then 16 else a) a = if (∃ x ∈ l, ¬ inV s x) ∧ a = 0 then 16 else a := by
 induction l with
 | nil => intro a; simp
 | cons y l ih =>
  intro a
  rw [List.foldl_cons, ih]
  by_cases ha : a = 0
  ·subst ha
   by_cases hy : inV s y
   ·simp [hy]
   ·simp [hy]
  ·simp [ha]
theorem wR {s : ae} {c : Int} {l : List Int} (hl : l.length ≤ 1000) :
  aZ (fun (x : Int × Int) => cz (aB.mk s c) l x.1 x.2) (0, 0) = some (if ∃ x ∈ l, ¬ inV s x then 16 else 0) := by
 obtain ⟨h1, _⟩ := lm (A := Int) (T := Int) (O := Int) (S := Int × Int) (fun a i => (a, i)) (body := fun x => cz (aB.mk s c) l x.1 x.2) l (fun a x => if ¬ inV s x ∧ a = 0 then 16 else a)
  (fun _ _ => True) (fun a => a) 0 trivial
  (by
   intro i a hi _
   refine ⟨?_, trivial⟩
   show cz (aB.mk s c) l a (i : Int) = _
   unfold cz
   rw [iP (ltI hi), iP (inI hi)]
   simp only [tN]
   rw [uJ]
   simp only [bSq, AY]
   rw [wrs i (by omega)]
   have : ((!decide (0 ≤ l.getD i default ∧ l.getD i default < (s.vars.length : Int))) = true ∧ a = 0) ↔ (¬ inV s (l.getD i default) ∧ a = 0) := by unfold inV; simp; omega
   simp only [this])
  (by
   intro a _
   show cz (aB.mk s c) l a (l.length : Int) = _
   unfold cz
   rw [iN (bm _)])
 rw [wQ] at h1
 rw [h1]
 simp
theorem nl (a : List Int) (e : List ay) : (jj a e).length ≤ a.length + e.length := by
 have k : ∀ (e : List ay) (a : List Int), (e.foldl (fun l p => if nmd p then l ++ [p.v] else l) a).length ≤ a.length + e.length := by
  intro e
  induction e with
  | nil => intro a; simp
  | cons p e ih =>
   intro a
   rw [List.foldl_cons]
   have := ih (if nmd p then a ++ [p.v] else a)
   have h2 : (if nmd p then a ++ [p.v] else a).length ≤ a.length + 1 := by split <;> simp
   simp only [List.length_cons]
   omega
 unfold jj
 have := to (e.foldl (fun l p => if nmd p then l ++ [p.v] else l) a) []
 have := k e a
 simp at *
 omega
theorem sL {s : ae} {r : af} (h1 : inV s r.out_) (h2 : ¬ (r.e.length : Int) > 24) (h3 : ¬ ∃ x ∈ b9 r, ¬ inV s x) : iH s r := by
 have h4 : ∀ x ∈ b9 r, inV s x := fun x hx => Classical.byContradiction (fun hc => h3 ⟨x, hx, hc⟩)
 exact ⟨h1, fun x hx => h4 x (kK hx), fun ho => AX h4 ho, by omega⟩
theorem AZ {s : ae} {c : Int} {r : af} {l : List Int} (hv : ew s) : iA r (aB.mk s c) (fS s l) = some (jx s l r, jx s l r) := by
 unfold iA jx
 rw [uJ]
 simp only [bSq, sH]
 by_cases h1 : inV s r.out_
 ·have h1' : 0 ≤ r.out_ ∧ r.out_ < (s.vars.length : Int) := h1
  simp only [h1', and_self, decide_true, Bool.not_true, Bool.false_eq_true, if_false, if_true, jy, tW h1, not_true_eq_false, h1]
  rw [sH]
  simp only [bSq]
  by_cases h2 : l.contains r.out_ = true
  ·rw [iP h2, iP h2, zK (by decide)]
  ·rw [iN h2, iN h2]
   unfold cZ
   rw [vG]
   simp only [bSq, sH]
   by_cases h3 : aO r.op < 0
   ·rw [iP h3, iP trivial, iP (.inl h3), wP (by decide)]
   ·rw [iN h3]
    by_cases h4 : (r.a.length : Int) = aO r.op
    ·rw [iN (by simpa using h4), iN (fun hc => hc.elim h3 (fun h => h h4))]
     unfold cY
     rw [sH]
     simp only [bSq]
     by_cases h5 : (r.e.length : Int) > 24
     ·have e5 : decide ((r.e.length : Int) > 24) = true := by simpa using h5
      simp only [e5, if_true]
      rw [iP (by decide), iP h5]
     ·have e5 : decide ((r.e.length : Int) > 24) = false := by simpa using h5
      simp only [e5, Bool.false_eq_true, if_false, not_true_eq_false]
      rw [iN h5]
      have hle := mS r.op
      have hj : ∀ l' : List Int, (∀ x, x ∈ l' ↔ x ∈ b9 r) → l'.length ≤ 1000 → dB r (aB.mk s c) 0 l' =
        some (if ∃ x ∈ b9 r, ¬ inV s x then 16 else if aD s r = some true then 0 else 10, if ∃ x ∈ b9 r, ¬ inV s x then 16 else if aD s r = some true then 0 else 10) := by
       intro l' hm hl
       unfold dB
       show (aZ (fun (x : Int × Int) => cz (aB.mk s c) l' x.1 x.2) (0, 0)).bind _ = _
       rw [wR hl]
       simp only [bSq, hm]
       unfold eo
       by_cases h6 : ∃ x ∈ b9 r, ¬ inV s x
       ·simp only [iP h6]
        rw [iN (by decide)]
       ·simp only [iN h6]
        rw [iP trivial]
        obtain ⟨f1, f2⟩ := vF (c := 0) hv (sL h1 h5 h6) h3 h4
        simp only [sH]
        rw [f1]
        cases hf : aD s r with
        | none => exact absurd hf f2
        | some b => cases b <;> simp
      by_cases h7 : r.op ≥ 14
      ·rw [iP h7, pE _ (by omega) (by omega)]
       simp only [bSq]
       have hu : b9 r = jj r.a r.e := by unfold b9; rw [iN (by omega)]
       have := nl r.a r.e
       exact hj _ (fun x => by rw [hu]) (by omega)
      ·rw [iN h7]
       have hu : b9 r = jj r.a [] := by unfold b9; rw [iP (by omega)]
       exact hj _ (fun x => by rw [hu, lP]; simp) (by omega)
    ·rw [iP (by simpa using h4), iP (.inr h4), wP (by decide)]
 ·have h1' : ¬ (0 ≤ r.out_ ∧ r.out_ < (s.vars.length : Int)) := h1
  simp only [h1', decide_false, Bool.not_false, if_true, h1, not_false_eq_true]
  rw [iN (by decide), sK (by decide)]
  simp only [bSq]
  rw [zK (by decide)]
theorem qm {T Z : Type} (l : List Int) (p : Int → Prop) [DecidablePred p] (z : Z) (t : T) :
  dO l.length (fun k => if p (l.getD k default) then none else some z) t = if ∃ x ∈ l, ¬ p x then .inr z else .inl t := by
 rcases cL l.length (fun k => if p (l.getD k default) then none else some z) t with ⟨e, h⟩ | ⟨j, z', hj, hf, e⟩
 ·rw [e, iN]
  rintro ⟨x, hx, hp⟩
  obtain ⟨i, hi, rfl⟩ := List.mem_iff_getElem.1 hx
  have := h i hi
  have e2 : l.getD i default = l[i] := by simp [List.getD, hi]
  simp only [e2, iN hp] at this
  cases this
 ·rw [e, iP]
  ·split at hf
   ·cases hf
   ·simp only [sJ] at hf; rw [hf]
  ·split at hf
   ·cases hf
   ·rename_i hp; exact ⟨_, aS hj, hp⟩
theorem vI (a b : Int) : eV a b = some (aw.mk a b) := by unfold eV; rfl
structure md (s : ae) : Prop where
 v : ew s
 nv : s.vars.length ≤ 400
 nr : s.rules.length ≤ 400
 ni : s.in_.length ≤ 400
 no : s.out_.length ≤ 400
 i : ∀ x ∈ s.in_, inV s x
 o : ∀ x ∈ s.out_, inV s x
theorem qJ {s : ae} (h : (jv s).code = 0) : md s := by
 unfold jv at h
 split at h
 ·cases h
 ·rename_i hl
  rcases cL s.vars.length (qH s) () with ⟨e1, h1⟩ | ⟨j, z, hj, hf, e⟩
  ·rw [e1] at h
   rcases cL s.in_.length (inF s) () with ⟨e2, h2⟩ | ⟨j, z, hj, hf, e⟩
   ·simp only [e2] at h
    rcases cL s.out_.length (oV s) () with ⟨e3, h3⟩ | ⟨j, z, hj, hf, e⟩
    ·refine ⟨⟨fun v hv => ?_, fun v hv => ?_⟩, by omega, by omega, by omega, by omega, fun x hx => ?_, fun x hx => ?_⟩
     ·obtain ⟨i, hi, rfl⟩ := List.mem_iff_getElem.1 hv
      have := h1 i hi
      have e2 : s.vars.getD i default = s.vars[i] := by simp [List.getD, hi]
      unfold qH yw at this
      rw [e2] at this
      split at this
      ·cases this
      ·unfold okE; omega
     ·obtain ⟨i, hi, rfl⟩ := List.mem_iff_getElem.1 hv
      have := h1 i hi
      have e2 : s.vars.getD i default = s.vars[i] := by simp [List.getD, hi]
      unfold qH yw at this
      rw [e2] at this
      split at this
      ·cases this
      ·split at this
       ·cases this
       ·omega
     ·obtain ⟨i, hi, rfl⟩ := List.mem_iff_getElem.1 hx
      have := h2 i hi
      have e2 : s.in_.getD i default = s.in_[i] := by simp [List.getD, hi]
      unfold inF at this
      rw [e2] at this
      by_cases hh : inV s s.in_[i]
      ·exact hh
      ·rw [iP hh] at this; cases this
     ·obtain ⟨i, hi, rfl⟩ := List.mem_iff_getElem.1 hx
      have := h3 i hi
      have e2 : s.out_.getD i default = s.out_[i] := by simp [List.getD, hi]
      unfold oV at this
      rw [e2] at this
      by_cases hh : inV s s.out_[i]
      ·exact hh
      ·rw [iP hh] at this; cases this
    ·simp only [e] at h
     unfold oV at hf
     split at hf
     ·simp only [sJ] at hf; subst hf; cases h
     ·cases hf
   ·simp only [e] at h
    unfold inF at hf
    split at hf
    ·simp only [sJ] at hf; subst hf; cases h
    ·split at hf
     ·simp only [sJ] at hf; subst hf; cases h
     ·cases hf
  ·simp only [e] at h
   unfold qH yw at hf
   split at hf
   ·simp only [sJ] at hf; subst hf; cases h
   ·split at hf
    ·simp only [sJ] at hf; subst hf; cases h
    ·cases hf
theorem iI {s : ae} {l : List Int} {r : af} (h : jx s l r = 0) : iH s r ∧ (∀ x ∈ b9 r, inV s x) ∧ r.a.length ≤ 3 ∧ ¬ l.contains r.out_ = true ∧ ¬ aO r.op < 0 ∧ (r.a.length : Int) = aO r.op ∧ aD s r = some true := by
 unfold jx at h
 by_cases h1 : inV s r.out_
 ·rw [iN (by simpa using h1)] at h
  by_cases h2 : l.contains r.out_ = true
  ·rw [iP h2] at h; cases h
  ·rw [iN h2] at h
   by_cases h3 : aO r.op < 0 ∨ ¬ (r.a.length : Int) = aO r.op
   ·rw [iP h3] at h; cases h
   ·rw [iN h3] at h
    by_cases h5 : (r.e.length : Int) > 24
    ·rw [iP h5] at h; cases h
    ·rw [iN h5] at h
     by_cases h6 : ∃ x ∈ b9 r, ¬ inV s x
     ·rw [iP h6] at h; cases h
     ·rw [iN h6] at h
      have hle := mS r.op
      refine ⟨sL h1 h5 h6, fun x hx => Classical.byContradiction (fun hc => h6 ⟨x, hx, hc⟩), by omega, h2, fun hc => h3 (.inl hc), Classical.byContradiction (fun hc => h3 (.inr hc)), ?_⟩
      by_cases h7 : aD s r = some true
      ·exact h7
      ·rw [iN h7] at h; cases h
 ·rw [iP h1] at h; cases h
theorem oF {s : ae} {l : List Int} {v : Int} (h : inV s v) : (fS s l).getD v.toNat default = true ↔ v ∈ l := by rw [tW h]; simp
theorem yA (s : ae) : List.replicate s.vars.length false = fS s [] := by
 apply List.ext_getElem
 ·simp [jy]
 ·intro i h1 h2; simp [fS]
theorem A0 {s : ae} (g : md s) : aZ (fun (x : List Bool × Int) => d3 s x.1 x.2) (fS s [], 0) = some (fS s s.in_) := by
 have := kJ (S := List Bool × Int) (T := List Bool) (fun i => (fS s (s.in_.take i), (i : Int))) (body := fun x => d3 s x.1 x.2) s.in_.length (fS s s.in_)
  (by
   intro i hi
   show d3 s (fS s (s.in_.take i)) (i : Int) = _
   have gi := g.i _ (aS hi)
   have gi' := gi
   unfold inV at gi'
   unfold d3
   rw [iP (ltI hi), iP (inI hi)]
   simp only [tN]
   rw [jy, iP gi', tX gi, wrs i (by have := g.ni; omega), cE _ hi])
  (by
   show d3 s (fS s (s.in_.take s.in_.length)) (s.in_.length : Int) = _
   unfold d3
   rw [iN (bm _), List.take_length])
 exact this
theorem wS {s : ae} (g : md s) : aZ (fun (x : Int × List Bool × Int) => d2 s x.1 x.2.1 x.2.2) (0, fS s s.in_, 0) = some (dO s.rules.length (jz s) (0, fS s (bt s s.rules.length))) := by
 have e0 : bt s 0 = s.in_ := by simp [bt]
 have := uN (S := Int × List Bool × Int) (T := Int × List Bool) (Z := aw) (fun i => (0, fS s (bt s i), (i : Int))) (body := fun x => d2 s x.1 x.2.1 x.2.2) s.rules.length (jz s) (0, fS s (bt s s.rules.length))
  (by
   intro i hi
   show d2 s 0 (fS s (bt s i)) (i : Int) = _
   unfold d2
   rw [iP (ltI hi), iP (inI hi)]
   simp only [tN]
   rw [AZ g.v]
   simp only [bSq]
   unfold jz
   by_cases h : jx s (bt s i) (s.rules.getD i default) = 0
   ·obtain ⟨gr, _⟩ := iI h
    have go := gr.o
    have go' := go
    unfold inV at go'
    simp only [h, not_true_eq_false, if_false, if_true]
    rw [jy, iP go', tX go, wrs i (by have := g.nr; omega), lQ s hi]
   ·simp only [h, not_false_eq_true, if_true, if_false])
  (by
   show d2 s 0 (fS s (bt s s.rules.length)) (s.rules.length : Int) = _
   unfold d2
   rw [iN (bm _)])
 rw [e0] at this
 exact this
theorem yB {s : ae} (g : md s) (hr : ∀ i, i < s.rules.length → jz s i = none) :
  aZ (fun x => iU s (fS s (bt s s.rules.length)) x) 0 = some (dO s.rules.length (kU s) ()) := by
 refine b8 s.rules.length (kU s) () (fun i hi => ?_) ?_
 ·have h0 := hr i hi
  unfold jz at h0
  have h0' : jx s (bt s i) (s.rules.getD i default) = 0 := by
   by_cases h : jx s (bt s i) (s.rules.getD i default) = 0
   ·exact h
   ·simp only [iN h] at h0; cases h0
  obtain ⟨gr, hu, ha, _⟩ := iI h0'
  have he := gr.e
  unfold iU
  rw [iP (ltI hi), iP (inI hi)]
  simp only [tN]
  generalize hR : s.rules.getD i default = r at *
  have hj : ∀ l : List Int, (∀ x, x ∈ l ↔ x ∈ b9 r) → l.length ≤ 1000 → gM (fS s (bt s s.rules.length)) (i : Int) l = some (match kU s i with | some z => .inr (.inr z) | none => .inl ((i + 1 : Nat) : Int)) := by
   intro l hm hl
   unfold gM
   rw [b8 l.length (fun k => if l.getD k default ∈ bt s s.rules.length then none else some (aw.mk 9 (i : Int))) () (fun k hk => by
    have gk := hu _ ((hm _).1 (aS hk))
    have gk' := gk
    unfold inV at gk'
    unfold jL
    rw [iP (ltI hk), iP (inI hk)]
    simp only [tN]
    rw [jy, iP gk', wrs k (by omega)]
    by_cases hc : l.getD k default ∈ bt s s.rules.length
    ·rw [iP ((oF gk).2 hc), iP hc]
    ·rw [iN (fun h => hc ((oF gk).1 h)), iN hc]) (by unfold jL; rw [iN (bm _)])]
   rw [qm l (fun x => x ∈ bt s s.rules.length)]
   unfold kU
   rw [hR]
   simp only [hm]
   by_cases h9 : ∃ x ∈ b9 r, ¬ x ∈ bt s s.rules.length
   ·simp only [iP h9]; rfl
   ·simp only [iN h9, bSq, Sum.elim_inl]
    unfold iT
    rw [wrs i (by have := g.nr; omega)]
  by_cases h7 : r.op ≥ 14
  ·rw [iP h7, pE _ (by omega) (by omega)]
   simp only [bSq]
   have hu' : b9 r = jj r.a r.e := by unfold b9; rw [iN (by omega)]
   have := nl r.a r.e
   rw [hj (jj r.a r.e) (fun x => by rw [hu']) (by omega)]
   cases kU s i <;> rfl
  ·rw [iN h7]
   have hu' : b9 r = jj r.a [] := by unfold b9; rw [iP (by omega)]
   rw [hj r.a (fun x => by rw [hu', lP]; simp) (by omega)]
   cases kU s i <;> rfl
 ·unfold iU; rw [iN (bm _)]
theorem zL {s : ae} (g : md s) : aZ (fun x => iR s (fS s (bt s s.rules.length)) x) 0 = some (dO s.out_.length (qI s) ()) := by
 refine b8 s.out_.length (qI s) () (fun i hi => ?_) ?_
 ·have gk := g.o _ (aS hi)
  have gk' := gk
  unfold inV at gk'
  unfold iR qI
  rw [iP (ltI hi), iP (inI hi)]
  simp only [tN]
  rw [jy, iP gk', wrs i (by have := g.no; omega)]
  by_cases hc : s.out_.getD i default ∈ bt s s.rules.length
  ·rw [iP ((oF gk).2 hc), iP hc]
  ·rw [iN (fun h => hc ((oF gk).1 h)), iN hc]
 ·unfold iR; rw [iN (bm _)]
theorem vJ (s : ae) : mH s = some (cU s) := by
 unfold mH cU
 rw [wK]
 simp only [bSq]
 by_cases h : (jv s).code = 0
 ·have g := qJ h
  simp only [h, not_true_eq_false, if_false]
  rw [iP ⟨by omega, tQ _ (by have := g.nv; omega)⟩]
  rw [yA]
  show (aZ (fun (x : List Bool × Int) => d3 s x.1 x.2) (fS s [], 0)).bind (fun z46 => gO s z46) = _
  rw [A0 g]
  simp only [bSq]
  unfold gO
  show (aZ (fun (x : Int × List Bool × Int) => d2 s x.1 x.2.1 x.2.2) (0, fS s s.in_, 0)).bind (Sum.elim (fun z => gN s z.1 z.2) (fun z36 => some z36)) = _
  rw [wS g]
  simp only [bSq]
  rcases cL s.rules.length (jz s) ((0 : Int), fS s (bt s s.rules.length)) with ⟨e, h1⟩ | ⟨j, z, hj, hf, e⟩
  ·rw [e, iY h1]
   simp only [Sum.elim_inl]
   unfold gN
   rw [yB g h1]
   simp only [bSq]
   cases dO s.rules.length (kU s) () with
   | inr z => rfl
   | inl u =>
    simp only [Sum.elim_inl]
    unfold iS
    rw [zL g]
    simp only [bSq]
    cases dO s.out_.length (qI s) () <;> rfl
  ·rw [e]
   rcases cL s.rules.length (jz s) () with ⟨e', h1⟩ | ⟨j', z', hj', hf', e'⟩
   ·rw [h1 j hj] at hf; cases hf
   ·have : z = z' := by
     unfold dO at e e'
     cases hq : (List.range s.rules.length).findSome? (jz s) with
     | none => rw [hq] at e; cases e
     | some q => rw [hq] at e e'; simp at e e'; rw [← e, ← e']
    rw [e', this]; rfl
 ·simp only [h, not_false_eq_true, if_true]
def i0 (s : ae) (i : Nat) : List Int := (s.rules.take i).map (fun r => r.out_)
theorem oG (s : ae) {i : Nat} (h : i ≤ s.rules.length) : (i0 s i).length = i := by unfold i0; simp [h]
theorem kd (s : ae) (i : Nat) : bt s i = s.in_ ++ i0 s i := rfl
theorem sM {s : ae} {n : Nat} (hn : n ≤ s.rules.length) (hb : s.rules.length ≤ 100000) : mK s (n : Int) = some (i0 s n) := by
 unfold mK
 have := kJ (S := List Int × Int) (T := List Int) (fun i => (i0 s i, (i : Int))) (body := fun x => fO s (n : Int) x.1 x.2) n (i0 s n)
  (by
   intro i hi
   show fO s (n : Int) (i0 s i) (i : Int) = _
   unfold fO
   rw [iP (ltI hi), iP ⟨inI (by omega), tT _ (by rw [oG s (by omega)]; omega)⟩, wrs i (by omega)]
   simp only [tN]
   have : i0 s (i + 1) = i0 s i ++ [(s.rules.getD i default).out_] := by unfold i0; rw [cE _ (by omega), List.map_append]; rfl
   rw [this]
   rfl)
  (by
   show fO s (n : Int) (i0 s n) (n : Int) = _
   unfold fO
   rw [iN (bm _)])
 have e0 : i0 s 0 = [] := rfl
 rw [e0] at this
 show (aZ (fun x => fO s (n : Int) x.1 x.2) ([], 0)).bind _ = _
 rw [show ((0 : Nat) : Int) = 0 from rfl] at this
 rw [this]
 rfl
theorem pF (r : af) (ha : r.a.length ≤ 100000) (he : r.e.length ≤ 100000) : lI r = some (b9 r) := by
 unfold lI b9
 by_cases h : r.op < 14
 ·rw [iP h, iP h]
  unfold iE
  rw [sE _ (by simp only; omega) (by simp)]
  rfl
 ·rw [iN h, iN h]
  unfold iE
  rw [sE _ (by simp only; omega) (by simp only; omega)]
  rfl
theorem oH (r : af) : (b9 r).length ≤ r.a.length + r.e.length := by
 unfold b9
 split
 ·have := nl r.a []; simp at this; omega
 ·exact nl _ _
theorem ri (s : ae) (x : Int) : ¬ inV s x ↔ x < 0 ∨ x ≥ (s.vars.length : Int) := by unfold inV; omega
theorem zM {s : ae} (g : md s) {i : Nat} (hi : i < s.rules.length) : fm s (i : Int) = some (match jz s i with | some z => .inr (.inr z) | none => .inl ((i + 1 : Nat) : Int)) := by
 unfold fm jz jx
 rw [iP (ltI hi), iP (inI hi)]
 simp only [tN, vI, bSq]
 have hnr := g.nr
 generalize hR : s.rules.getD i default = r
 by_cases h1 : inV s r.out_
 ·have h1' := h1
  unfold inV at h1'
  rw [iN (by omega), iN (by omega)]
  rw [je _ _ (by have := g.ni; omega)]
  simp only [bSq, h1, not_true_eq_false, if_false]
  by_cases h2 : s.in_.contains r.out_ = true
  ·rw [iP h2]
   have : (bt s i).contains r.out_ = true := by rw [kd]; simp at h2 ⊢; exact .inl h2
   simp only [this, if_true]
   rfl
  ·rw [iN h2, sM (by omega) (by omega)]
   simp only [bSq]
   rw [je _ _ (by rw [oG s (by omega)]; omega)]
   simp only [bSq]
   by_cases h3 : (i0 s i).contains r.out_ = true
   ·rw [iP h3]
    have : (bt s i).contains r.out_ = true := by rw [kd]; simp at h3 ⊢; exact .inr h3
    simp only [this, if_true]
    rfl
   ·rw [iN h3]
    have : (bt s i).contains r.out_ = false := by rw [kd]; simp at h2 h3 ⊢; exact ⟨h2, h3⟩
    simp only [this, Bool.false_eq_true, if_false, vH, bSq]
    by_cases h4 : aO r.op < 0
    ·rw [iP h4]
     simp only [h4, true_or, if_true]
     rfl
    ·rw [iN h4]
     by_cases h5 : (r.a.length : Int) = aO r.op
     ·rw [iN (fun hc => hc h5.symm)]
      have h45 : ¬ (aO r.op < 0 ∨ ¬ (r.a.length : Int) = aO r.op) := fun hc => hc.elim h4 (fun h => h h5)
      simp only [iN h45]
      have hle := mS r.op
      by_cases h6 : (r.e.length : Int) > 24
      ·rw [iP h6]
       simp only [iP h6]
       rfl
      ·rw [iN h6]
       simp only [iN h6]
       rw [pF r (by omega) (by omega)]
       simp only [bSq]
       have hul := oH r
       rw [b8 (b9 r).length (fun k => if inV s ((b9 r).getD k default) then none else some (aw.mk 16 (i : Int))) () (fun k hk => by
        unfold hU
        rw [iP (ltI hk), iP (inI hk)]
        simp only [tN, vI, bSq]
        rw [wrs k (by omega)]
        by_cases hc : inV s ((b9 r).getD k default)
        ·have hc' := hc
         unfold inV at hc'
         rw [iN (by omega), iN (by omega), iP hc]
        ·rw [iN hc]
         rcases (ri s _).1 hc with h | h
         ·rw [iP h]
         ·by_cases h' : (b9 r).getD k default < 0
          ·rw [iP h']
          ·rw [iN h', iP h]) (by unfold hU; rw [iN (bm _)])]
       rw [qm (b9 r) (fun x => inV s x)]
       by_cases h7 : ∃ x ∈ b9 r, ¬ inV s x
       ·simp only [iP h7]; rfl
       ·simp only [iN h7, bSq, Sum.elim_inl]
        unfold fj
        simp only [tN, hR]
        obtain ⟨_, f2⟩ := vF (c := 0) g.v (sL h1 h6 h7) h4 h5
        cases hf : aD s r with
        | none => exact absurd hf f2
        | some b =>
         cases b
         ·simp only [bSq, vI]; rfl
         ·simp only [bSq, if_true]
          unfold hQ
          rw [wrs i (by omega)]
     ·rw [iP (fun hc => h5 hc.symm)]
      have h45 : aO r.op < 0 ∨ ¬ (r.a.length : Int) = aO r.op := .inr h5
      simp only [iP h45]
      rfl
 ·simp only [h1, not_false_eq_true, if_true]
  rcases (ri s _).1 h1 with h | h
  ·rw [iP h]; rfl
  ·by_cases h' : r.out_ < 0
   ·rw [iP h']; rfl
   ·rw [iN h', iP h]; rfl
theorem zN {s : ae} (g : md s) (hr : ∀ i, i < s.rules.length → jz s i = none) :
  aZ (fun x => fg s (i0 s s.rules.length) x) 0 = some (dO s.rules.length (kU s) ()) := by
 have hnr := g.nr
 refine b8 s.rules.length (kU s) () (fun i hi => ?_) ?_
 ·have h0 := hr i hi
  unfold jz at h0
  have h0' : jx s (bt s i) (s.rules.getD i default) = 0 := by
   by_cases h : jx s (bt s i) (s.rules.getD i default) = 0
   ·exact h
   ·simp only [iN h] at h0; cases h0
  obtain ⟨gr, hu, ha, _⟩ := iI h0'
  have he := gr.e
  unfold fg kU
  rw [iP (ltI hi), iP (inI hi)]
  simp only [tN]
  generalize hR : s.rules.getD i default = r at *
  rw [pF r (by omega) (by omega)]
  simp only [bSq]
  have hul := oH r
  rw [b8 (b9 r).length (fun k => if (b9 r).getD k default ∈ bt s s.rules.length then none else some (aw.mk 9 (i : Int))) () (fun k hk => by
   unfold gZ
   rw [iP (ltI hk), iP (inI hk)]
   simp only [tN, vI, bSq]
   rw [wrs k (by omega), je _ _ (by have := g.ni; omega)]
   simp only [bSq]
   rw [je _ _ (by rw [oG s (by omega)]; omega)]
   simp only [bSq]
   rw [kd]
   by_cases hc : (b9 r).getD k default ∈ s.in_
   ·rw [iP (by simpa using hc), iP (List.mem_append.2 (.inl hc))]
   ·rw [iN (by simpa using hc)]
    by_cases hd : (b9 r).getD k default ∈ i0 s s.rules.length
    ·rw [iP (by simpa using hd), iP (List.mem_append.2 (.inr hd))]
    ·rw [iN (by simpa using hd), iN (fun h => (List.mem_append.1 h).elim hc hd)]) (by unfold gZ; rw [iN (bm _)])]
  rw [qm (b9 r) (fun x => x ∈ bt s s.rules.length)]
  by_cases h9 : ∃ x ∈ b9 r, ¬ x ∈ bt s s.rules.length
  ·simp only [iP h9]; rfl
  ·simp only [iN h9, bSq, Sum.elim_inl]
   unfold ff
   rw [wrs i (by omega)]
 ·unfold fg; rw [iN (bm _)]
theorem A1 {s : ae} (g : md s) : aZ (fun x => fd s (i0 s s.rules.length) x) 0 = some (dO s.out_.length (qI s) ()) := by
 have hno := g.no
 have hnr := g.nr
 refine b8 s.out_.length (qI s) () (fun i hi => ?_) ?_
 ·unfold fd qI
  rw [iP (ltI hi), iP (inI hi)]
  simp only [tN, vI, bSq]
  rw [wrs i (by omega), je _ _ (by have := g.ni; omega)]
  simp only [bSq]
  rw [je _ _ (by rw [oG s (by omega)]; omega)]
  simp only [bSq]
  rw [kd]
  by_cases hc : s.out_.getD i default ∈ s.in_
  ·rw [iP (by simpa using hc), iP (List.mem_append.2 (.inl hc))]
  ·rw [iN (by simpa using hc)]
   by_cases hd : s.out_.getD i default ∈ i0 s s.rules.length
   ·rw [iP (by simpa using hd), iP (List.mem_append.2 (.inr hd))]
   ·rw [iN (by simpa using hd), iN (fun h => (List.mem_append.1 h).elim hc hd)]
 ·unfold fd; rw [iN (bm _)]
theorem vK (s : ae) : jQ s = some (cU s) := by
 unfold jQ cU
 rw [wL]
 simp only [bSq]
 by_cases h : (jv s).code = 0
 ·have g := qJ h
  simp only [h, not_true_eq_false, if_false]
  rw [b8 s.rules.length (jz s) () (fun i hi => by rw [zM g hi]; cases jz s i <;> rfl) (by unfold fm; rw [iN (bm _)])]
  simp only [bSq]
  rcases cL s.rules.length (jz s) () with ⟨e, h1⟩ | ⟨j, z, hj, hf, e⟩
  ·rw [e]
   simp only [Sum.elim_inl]
   unfold fh
   rw [sM (Nat.le_refl _) (by have := g.nr; omega)]
   simp only [bSq]
   rw [zN g h1]
   simp only [bSq]
   cases dO s.rules.length (kU s) () with
   | inr z => rfl
   | inl u =>
    simp only [Sum.elim_inl]
    unfold fe
    rw [A1 g]
    simp only [bSq]
    cases dO s.out_.length (qI s) () <;> rfl
  ·rw [e]; rfl
 ·simp only [h, not_false_eq_true, if_true]
structure dM (s:ae):Prop where
 h:md s
 r:∀ i,i < s.rules.length→jx s (bt s i) (s.rules.getD i default) = 0
 u:∀ i,i < s.rules.length→∀ x∈b9 (s.rules.getD i default),x∈bt s s.rules.length
 o:∀ x∈s.out_,x∈bt s s.rules.length
theorem fZ {s:ae} (h:(cU s).code = 0):dM s∧cU s = aw.mk 0 0:=by
 unfold cU at h ⊢
 by_cases h0:(jv s).code = 0
 ·simp only [h0,not_true_eq_false,if_false] at h ⊢
  have g:=qJ h0
  rcases cL s.rules.length (jz s) () with ⟨e1,h1⟩ | ⟨j,z,hj,hf,e⟩
  ·simp only [e1] at h ⊢
   rcases cL s.rules.length (kU s) () with ⟨e2,h2⟩ | ⟨j,z,hj,hf,e⟩
   ·simp only [e2] at h ⊢
    rcases cL s.out_.length (qI s) () with ⟨e3,h3⟩ | ⟨j,z,hj,hf,e⟩
    ·simp only [e3]
     refine ⟨⟨g,fun i hi=>?_,fun i hi x hx=>?_,fun x hx=>?_⟩,trivial⟩
     ·have:=h1 i hi
      unfold jz at this
      by_cases hc:jx s (bt s i) (s.rules.getD i default) = 0
      ·exact hc
      ·simp only [iN hc] at this;cases this
     ·have:=h2 i hi
      unfold kU at this
      refine Classical.byContradiction fun hc=>?_
      rw [iP ⟨x,hx,hc⟩] at this
      cases this
     ·obtain ⟨i,hi,rfl⟩:=List.mem_iff_getElem.1 hx
      have:=h3 i hi
      unfold qI at this
      have e2:s.out_.getD i default = s.out_[i]:=by simp [List.getD,hi]
      rw [e2] at this
      refine Classical.byContradiction fun hc=>?_
      rw [iN hc] at this
      cases this
    ·simp only [e] at h
     unfold qI at hf
     split at hf
     ·cases hf
     ·simp only [sJ] at hf;subst hf;cases h
   ·simp only [e] at h
    unfold kU at hf
    split at hf
    ·simp only [sJ] at hf;subst hf;cases h
    ·cases hf
  ·simp only [e] at h
   unfold jz at hf
   by_cases hc:jx s (bt s j) (s.rules.getD j default) = 0
   ·simp only [iP hc] at hf;cases hf
   ·simp only [iN hc,sJ] at hf;subst hf;exact absurd h hc
 ·simp only [h0,not_false_eq_true,if_true] at h
def cA (r:af):List Int:=if r.op = 13∧(r.a.length:Int) = 2 then [r.a.getD 0 default] else b9 r
theorem wT {r:af} {x:Int} (h:x∈cA r):x∈b9 r:=by
 unfold cA at h
 split at h
 ·rename_i hc
  simp only [List.mem_singleton] at h
  subst h
  exact kK (aS (by omega))
 ·exact h
theorem wU (r:af):(cA r).length ≤ r.a.length + r.e.length:=by
 unfold cA
 split
 ·simp;omega
 ·exact oH r
theorem vL (r:af) (ha:r.a.length ≤ 100000) (he:r.e.length ≤ 100000):mM r = some (cA r):=by
 have j1:gQ r = some (b9 r):=by
  unfold gQ
  rw [pF r ha he]
  rfl
 unfold mM cA
 by_cases h1:r.op = 13
 ·rw [iP h1]
  by_cases h2:(r.a.length:Int) = 2
  ·rw [iP h2,iP (by omega),iP ⟨h1,h2⟩];rfl
  ·rw [iN h2,iN (fun h=>h2 h.2),j1]
 ·rw [iN h1,iN (fun h=>h1 h.1),j1]
def tq (l:List Int) (r:af):Prop:=∀ x∈cA r,x∈l
instance (l:List Int) (r:af):Decidable (tq l r):=inferInstanceAs (Decidable (∀ x∈cA r,x∈l))
def jZ (s:ae):Prop:=∀ i,i < s.rules.length→tq (bt s i) (s.rules.getD i default)
instance (s:ae):Decidable (jZ s):=inferInstanceAs (Decidable (∀ i,i < s.rules.length→tq (bt s i) (s.rules.getD i default)))
theorem dM.rule {s:ae} (g:dM s) {i:Nat} (hi:i < s.rules.length):iH s (s.rules.getD i default)∧(∀ x∈b9 (s.rules.getD i default),inV s x)∧(s.rules.getD i default).a.length ≤ 3∧¬ (bt s i).contains (s.rules.getD i default).out_ = true∧¬ aO (s.rules.getD i default).op < 0∧((s.rules.getD i default).a.length:Int) = aO (s.rules.getD i default).op:=by
 obtain ⟨h1,h2,h3,h4,h5,h6,_⟩:=iI (g.r i hi)
 exact ⟨h1,h2,h3,h4,h5,h6⟩
theorem vM {T:Type} (p:T→Bool):∀ (l:List T) (b:Bool),l.foldl (fun b x=>b || p x) b = (b || l.any p)
 | [],b=>by simp
 | x :: l,b=>by rw [List.foldl_cons,vM p l];simp [Bool.or_assoc]
theorem lp {s : ae} (g : dM s) {i : Nat} (hi : i < s.rules.length) : ¬ (s.rules.getD i default).out_ ∈ bt s i := fun h => (g.rule hi).2.2.2.1 (List.contains_iff_mem.2 h)
theorem zQ (s : ae) (x : Int) {i : Nat} (hi : i ≤ s.rules.length) : x ∈ i0 s i ↔ ∃ k, k < i ∧ (s.rules.getD k default).out_ = x := by
 induction i with
 | zero => simp [i0]
 | succ i ih =>
  have e2 : i0 s (i + 1) = i0 s i ++ [(s.rules.getD i default).out_] := by unfold i0; rw [cE _ (by omega), List.map_append]; rfl
  rw [e2, List.mem_append, ih (by omega), List.mem_singleton]
  constructor
  ·rintro (⟨k, hk, h⟩ | h)
   ·exact ⟨k, by omega, h⟩
   ·exact ⟨i, by omega, h.symm⟩
  ·rintro ⟨k, hk, h⟩
   by_cases e : k = i
   ·subst e; exact .inr h.symm
   ·exact .inl ⟨k, by omega, h⟩
theorem iJ (s : ae) (x : Int) {i : Nat} (hi : i ≤ s.rules.length) : x ∈ bt s i ↔ x ∈ s.in_ ∨ ∃ k, k < i ∧ (s.rules.getD k default).out_ = x := by
 rw [kd, List.mem_append, zQ s x hi]
theorem mU {s : ae} (g : dM s) {i k : Nat} (hi : i < s.rules.length) (hk : k < s.rules.length) (h : (s.rules.getD k default).out_ = (s.rules.getD i default).out_) : k = i := by
 rcases Nat.lt_trichotomy k i with hh | hh | hh
 ·exact absurd ((iJ s _ (by omega)).2 (.inr ⟨k, hh, h⟩)) (lp g hi)
 ·exact hh
 ·exact absurd ((iJ s _ (by omega)).2 (.inr ⟨i, hh, h.symm⟩)) (lp g hk)
theorem oJ {s : ae} (g : dM s) {i : Nat} (hi : i < s.rules.length) : ¬ (s.rules.getD i default).out_ ∈ s.in_ := fun h =>
 lp g hi ((iJ s _ (by omega)).2 (.inl h))
theorem me {α : Type} [Inhabited α] {l : List α} {i : Nat} (h : i < l.length) : l.getD i default = l[i] := by simp [List.getD, h]
def dI (d : List Nat) : List Int := d.map (fun (k : Nat) => (k : Int))
theorem uR (d : List Nat) : (dI d).length = d.length := by unfold dI; simp
theorem zR {d : List Nat} {k : Nat} (h : k < d.length) : (dI d).getD k default = ((d.getD k default : Nat) : Int) := by simp [dI, List.getD, h]
theorem BZ (d e : List Nat) : dI (d ++ e) = dI d ++ dI e := by simp [dI]
theorem uS {d : List Nat} {k : Nat} : (k : Int) ∈ dI d ↔ k ∈ d := by
 unfold dI
 rw [List.mem_map]
 constructor
 ·rintro ⟨a, h, e⟩
  have : a = k := by omega
  exact this ▸ h
 ·intro h; exact ⟨k, h, rfl⟩
def j5 (s : ae) (d : List Nat) : List Int := s.in_ ++ d.map (fun k => (s.rules.getD k default).out_)
theorem zS (s : ae) (d : List Nat) (i : Nat) : j5 s (d ++ [i]) = j5 s d ++ [(s.rules.getD i default).out_] := by simp [j5]
theorem zT (s : ae) : j5 s [] = s.in_ := by simp [j5]
theorem ia {s : ae} {d : List Nat} {x : Int} : x ∈ j5 s d ↔ x ∈ s.in_ ∨ ∃ k, k ∈ d ∧ (s.rules.getD k default).out_ = x := by
 unfold j5
 rw [List.mem_append, List.mem_map]
def tt (s : ae) (d : List Nat) (i : Nat) : Bool := decide (tq (j5 s d) (s.rules.getD i default))
def cm (s : ae) : List Nat := j0 s.rules.length (tt s)
theorem zU (s : ae) (y : Int) : ∀ d : List Nat, (dI d).any (fun x => (s.rules.getD x.toNat default).out_ == y) = (d.map (fun k => (s.rules.getD k default).out_)).contains y
 | [] => by simp [dI]
 | k :: d => by
  have ih := zU s y d
  unfold dI at ih ⊢
  rw [List.map_cons, List.any_cons, ih, List.map_cons, List.contains_cons, tN]
  congr 1
  exact Bool.beq_comm
theorem A3 {s : ae} {r : af} {d : List Nat} (hd : ∀ k ∈ d, k < s.rules.length) (hl : d.length ≤ 100000) (hn : s.rules.length ≤ 100000) (hin : s.in_.length ≤ 100000) (ha : r.a.length ≤ 1000) (he : r.e.length ≤ 1000) :
  mN s r (dI d) = some (decide (tq (j5 s d) r)) := by
 unfold mN
 rw [vL r (by omega) (by omega)]
 simp only [bSq]
 have hnl := wU r
 have hbl : (dI d).length = d.length := uR d
 have inner : ∀ (k : Nat) (b : Bool), aZ (fun (x : Bool × Int) => d6 s (dI d) (cA r) (k : Int) x.1 x.2) (b, 0) = some (b || (d.map (fun k => (s.rules.getD k default).out_)).contains ((cA r).getD k default)) := by
  intro k b
  obtain ⟨h1, _⟩ := lm (A := Bool) (T := Int) (O := Bool) (S := Bool × Int) (fun a i => (a, i)) (body := fun x => d6 s (dI d) (cA r) (k : Int) x.1 x.2) (dI d)
   (fun b x => b || (s.rules.getD x.toNat default).out_ == (cA r).getD k default) (fun _ _ => True) (fun a => a) b trivial
   (by
    intro j a hj _
    refine ⟨?_, trivial⟩
    show d6 s (dI d) (cA r) (k : Int) a (j : Int) = _
    unfold d6
    rw [iP (ltI hj), wrs j (by omega)]
    have hj2 : j < d.length := by omega
    cases a
    ·have e := zR hj2
     have hb := hd _ (aS hj2)
     simp only [Bool.false_eq_true, if_false, tN, e]
     rw [iP ⟨inI hj, by omega⟩]
     simp
    ·simp)
   (by
    intro a _
    show d6 s (dI d) (cA r) (k : Int) a ((dI d).length : Int) = _
    unfold d6
    rw [iN (bm _)])
  rw [h1, vM, zU s _ d]
 rw [b8 (cA r).length (fun k => if (cA r).getD k default ∈ j5 s d then none else some false) () (fun k hk => by
  unfold jT
  rw [iP (ltI hk), iP (inI hk)]
  simp only [tN]
  rw [je _ _ (by omega)]
  simp only [bSq]
  show (aZ (fun (x : Bool × Int) => d6 s (dI d) (cA r) (k : Int) x.1 x.2) (s.in_.contains ((cA r).getD k default), 0)).bind (fun z13 => gR (k : Int) z13) = _
  rw [inner]
  simp only [bSq]
  unfold gR jS
  rw [wrs k (by omega)]
  by_cases hc : (cA r).getD k default ∈ j5 s d
  ·have : (s.in_.contains ((cA r).getD k default) || (d.map (fun k => (s.rules.getD k default).out_)).contains ((cA r).getD k default)) = true := by
    rcases List.mem_append.1 hc with h | h
    ·rw [List.contains_iff_mem.2 h]; rfl
    ·rw [List.contains_iff_mem.2 h, Bool.or_true]
   rw [this, iP hc]; rfl
  ·have : (s.in_.contains ((cA r).getD k default) || (d.map (fun k => (s.rules.getD k default).out_)).contains ((cA r).getD k default)) = false := by
    rw [Bool.or_eq_false_iff]
    constructor
    ·cases hq : s.in_.contains ((cA r).getD k default)
     ·rfl
     ·exact absurd (List.mem_append.2 (.inl (List.contains_iff_mem.1 hq))) hc
    ·cases hq : (d.map (fun k => (s.rules.getD k default).out_)).contains ((cA r).getD k default)
     ·rfl
     ·exact absurd (List.mem_append.2 (.inr (List.contains_iff_mem.1 hq))) hc
   rw [this, iN hc]; rfl) (by unfold jT; rw [iN (bm _)])]
 rw [qm (cA r) (fun x => x ∈ j5 s d)]
 by_cases h : tq (j5 s d) r
 ·have : ¬ ∃ x ∈ cA r, ¬ x ∈ j5 s d := fun ⟨x, h1, h2⟩ => h2 (h x h1)
  simp only [iN this, h, decide_true]
  rfl
 ·have : ∃ x ∈ cA r, ¬ x ∈ j5 s d := Classical.byContradiction fun hc => h (fun x hx => Classical.byContradiction fun hd => hc ⟨x, hx, hd⟩)
  simp only [iP this, h, decide_false]
  rfl
theorem yE {l l' : List Int} {r : af} (h : tq l r) (hl : ∀ x, x ∈ l → x ∈ l') : tq l' r := fun x hx => hl x (h x hx)
theorem t6 {A T Z : Type} (P : T → Prop) (f : Nat → A → T → A ⊕ Z) (h : ∀ i a x a', f i a x = .inl a' → P x) : ∀ (l : List T) (i : Nat) (a b : A), lO f i l a = .inl b → ∀ x ∈ l, P x
 | [], i, a, b, _, x, hx => by cases hx
 | y :: l, i, a, b, he, x, hx => by
  rw [lO] at he
  cases hf : f i a y with
  | inr z => rw [hf] at he; cases he
  | inl a' =>
   rw [hf] at he
   rcases List.mem_cons.1 hx with rfl | hx
   ·exact h _ _ _ _ hf
   ·exact t6 P f h l _ _ _ he x hx
theorem qL {A T Z : Type} (P : Z → Prop) (f : Nat → A → T → A ⊕ Z) (h : ∀ i a x z, f i a x = .inr z → P z) : ∀ (l : List T) (i : Nat) (a : A) (z : Z), lO f i l a = .inr z → P z
 | [], i, a, z, he => by cases he
 | y :: l, i, a, z, he => by
  rw [lO] at he
  cases hf : f i a y with
  | inr z' => rw [hf] at he; simp only [Sum.inr.injEq] at he; subst he; exact h _ _ _ _ hf
  | inl a' => rw [hf] at he; exact qL P f h l _ _ _ he
structure lR (s : ae) (m : Nat) : Prop where
 nv : s.vars.length ≤ m
 nr : s.rules.length ≤ m
 ni : s.in_.length ≤ m
 no : s.out_.length ≤ m
 r : ∀ r ∈ s.rules, r.a.length ≤ 100 ∧ r.e.length ≤ 1000
theorem zV (s : ae) (m : Nat) (hm : m ≤ 100000) : ∃ b, gT s (m : Int) = some b ∧ (b = false → lR s m) := by
 unfold gT
 by_cases h1 : (s.vars.length : Int) > m
 ·rw [iP h1]; exact ⟨true, rfl, fun h => by cases h⟩
 rw [iN h1]
 by_cases h2 : (s.rules.length : Int) > m
 ·rw [iP h2]; exact ⟨true, rfl, fun h => by cases h⟩
 rw [iN h2]
 by_cases h3 : (s.in_.length : Int) > m
 ·rw [iP h3]; exact ⟨true, rfl, fun h => by cases h⟩
 rw [iN h3]
 by_cases h4 : (s.out_.length : Int) > m
 ·rw [iP h4]; exact ⟨true, rfl, fun h => by cases h⟩
 rw [iN h4]
 obtain ⟨e1, _⟩ := ng (A := Int) (T := ao) (O := Int) (Z := Bool) (S := Int × Int) (fun a i => (a, i)) (body := fun x => cD s x.1 x.2) s.vars
  (fun _ a v => if v.n > 1000 then .inr true else .inl (IntKind.wrap .i64 (a + eU v.n))) (fun _ _ => True) (fun a => a) 0 trivial
  (by
   intro i a hi _
   refine ⟨?_, fun _ _ => trivial⟩
   show cD s a (i : Int) = _
   unfold cD
   rw [iP (ltI hi), iP (inI hi)]
   simp only [tN, bu, bSq]
   rw [wrs i (by omega)]
   by_cases h : (s.vars.getD i default).n > 1000
   ·rw [iP h, iP h]
   ·rw [iN h, iN h])
  (by
   intro a _
   show cD s a (s.vars.length : Int) = _
   unfold cD
   rw [iN (bm _)])
 show ∃ b, (aZ (fun (x : Int × Int) => cD s x.1 x.2) (0, 0)).bind (Sum.elim (fun z18 => dm s m z18) (fun z19 => some z19)) = some b ∧ _
 rw [e1]
 simp only [bSq]
 cases hE : lO (fun _ a v => if v.n > 1000 then .inr true else .inl (IntKind.wrap .i64 (a + eU v.n))) 0 s.vars (0 : Int) with
 | inr z =>
  refine ⟨z, rfl, fun hz => ?_⟩
  have := qL (fun z => z = true) _ (fun i a x z h => by
   split at h
   ·simp only [Sum.inr.injEq] at h; exact h.symm
   ·cases h) _ _ _ _ hE
  rw [hz] at this; cases this
 | inl a0 =>
  simp only [Sum.elim_inl]
  unfold dm
  obtain ⟨e2, _⟩ := ng (A := Int) (T := af) (O := Int) (Z := Bool) (S := Int × Int) (fun a i => (a, i)) (body := fun x => cC s x.1 x.2) s.rules
   (fun _ a r => if (r.a.length : Int) > 100 ∨ (r.e.length : Int) > 1000 ∨ (r.op = 15 ∧ r.n > 1000) then .inr true else .inl (IntKind.wrap .i64 (a + IntKind.wrap .i64 ((r.a.length : Int) + (r.e.length : Int))))) (fun _ _ => True) (fun a => a) a0 trivial
   (by
    intro i a hi _
    refine ⟨?_, fun _ _ => trivial⟩
    show cC s a (i : Int) = _
    unfold cC dR
    rw [iP (ltI hi), iP (inI hi)]
    simp only [tN]
    rw [wrs i (by omega)]
    by_cases h1 : ((s.rules.getD i default).a.length : Int) > 100
    ·rw [iP h1, iP (.inl h1)]
    ·rw [iN h1]
     by_cases h2 : ((s.rules.getD i default).e.length : Int) > 1000
     ·rw [iP h2, iP (.inr (.inl h2))]
     ·rw [iN h2]
      by_cases h3 : (s.rules.getD i default).op = 15
      ·rw [iP h3]
       by_cases h4 : (s.rules.getD i default).n > 1000
       ·rw [iP h4, iP (.inr (.inr ⟨h3, h4⟩))]
       ·rw [iN h4, iN (fun h => h.elim h1 (fun h => h.elim h2 (fun h => h4 h.2)))]
      ·rw [iN h3, iN (fun h => h.elim h1 (fun h => h.elim h2 (fun h => h3 h.1)))])
   (by
    intro a _
    show cC s a (s.rules.length : Int) = _
    unfold cC
    rw [iN (bm _)])
  show ∃ b, (aZ (fun (x : Int × Int) => cC s x.1 x.2) (a0, 0)).bind (Sum.elim (fun z9 => dQ m z9) (fun z10 => some z10)) = some b ∧ _
  rw [e2]
  simp only [bSq]
  cases hF : lO (fun _ a r => if (r.a.length : Int) > 100 ∨ (r.e.length : Int) > 1000 ∨ (r.op = 15 ∧ r.n > 1000) then .inr true else .inl (IntKind.wrap .i64 (a + IntKind.wrap .i64 ((r.a.length : Int) + (r.e.length : Int))))) 0 s.rules a0 with
  | inr z =>
   refine ⟨z, rfl, fun hz => ?_⟩
   have := qL (fun z => z = true) _ (fun i a x z h => by
    split at h
    ·simp only [Sum.inr.injEq] at h; exact h.symm
    ·cases h) _ _ _ _ hF
   rw [hz] at this; cases this
  | inl a1 =>
   have hR := t6 (fun r : af => r.a.length ≤ 100 ∧ r.e.length ≤ 1000) _ (fun i a x a' h => by
    split at h
    ·cases h
    ·rename_i hc
     have h1 : ¬ (x.a.length : Int) > 100 := fun h => hc (.inl h)
     have h2 : ¬ (x.e.length : Int) > 1000 := fun h => hc (.inr (.inl h))
     omega) _ _ _ _ hF
   exact ⟨_, rfl, fun _ => ⟨by omega, by omega, by omega, by omega, hR⟩⟩
theorem rj (r : af) (h : r.a.length ≤ 100 ∧ r.e.length ≤ 1000) : iV r = some r := by
 unfold iV
 have hm : maxLen = 9223372036854775807 := rfl
 rw [iP (by unfold dg; omega), iP (by unfold dg; omega)]
theorem mf {n b:Nat} (h:n ≤ 200000) (hb:b ≤ 1000):dg n b:=by
 have hx:maxLen = 9223372036854775807:=rfl
 have:n * b ≤ 200000 * 1000:=Nat.mul_le_mul h hb
 unfold dg
 omega
theorem oK (l:List Int) (h:l.length ≤ 100000):bH l = some l:=by
 unfold bH
 by_cases h0:l = []
 ·rw [iP h0,h0]
 ·rw [iN h0,iP (mf (by omega) (by omega))]
theorem t7 {T:Type} (l:List T) (b:Nat) (h:l.length ≤ 100000) (hb:b ≤ 1000) [Decidable (l = [])]:(if l = [] then some [] else (if dg l.length b then some l else none)) = some l:=by
 by_cases h0:l = []
 ·rw [iP h0,h0]
 ·rw [iN h0,iP (mf (by omega) hb)]
theorem B0 (r:af) (ha:r.a.length ≤ 1000) (he:r.e.length ≤ 1000):mG r = some r:=by
 unfold mG cN
 rw [oK _ (by omega)]
 simp only [bSq]
 rw [t7 r.e 32 (by omega) (by omega)]
 rfl
def lS (s:ae):ae:=ae.mk s.vars s.in_ s.out_ ((cm s).map (fun k=>s.rules.getD k default))
def noS:ae:=ae.mk [] [] [] []
def rk (s:ae):ae×aw:=if (cm s).length = s.rules.length then (lS s,aw.mk 0 0) else (noS,aw.mk 15 (((jh s.rules.length (cm s)).getD 0 default:Nat):Int))
theorem lf {s:ae} {k:Nat} (h:k∈cm s):k < s.rules.length:=A2 h
theorem uT (s:ae):(cm s).length ≤ s.rules.length:=uQ
theorem np (s:ae):(cm s).Nodup:=wW
theorem sO {s:ae} {k:Nat} (hk:k < (cm s).length):jA s.rules.length (tt s) ((cm s).take k) = some ((cm s).getD k default):=zP hk
theorem zW (s:ae):jA s.rules.length (tt s) (cm s) = none:=vO
theorem A4 {s:ae} {k i:Nat} (h:i∈(cm s).take k):i < s.rules.length:=lf (List.mem_of_mem_take h)
end Pam
namespace Pam
open Go
theorem sP {s:ae} (h0:(jv s).code = 0) (hr:∀ i,i < s.rules.length→jx s (bt s i) (s.rules.getD i default) = 0)
  (hu:∀ i,i < s.rules.length→∀ x∈b9 (s.rules.getD i default),x∈bt s s.rules.length) (ho:∀ x∈s.out_,x∈bt s s.rules.length):cU s = aw.mk 0 0:=by
 unfold cU
 simp only [h0,not_true_eq_false,if_false]
 rw [iY (fun i hi=>by unfold jz;simp only [iP (hr i hi)])]
 simp only
 rw [iY (fun i hi=>by unfold kU;rw [iN (fun ⟨x,h1,h2⟩=>h2 (hu i hi x h1))])]
 simp only
 rw [iY (fun i hi=>by unfold qI;rw [iP (ho _ (aS hi))])]
theorem yF (v:List ao) (i o:List Int) (R R':List af) (r:af):aD (ae.mk v i o R) r = aD (ae.mk v i o R') r:=rfl
def eJ (s:ae) (l:List Nat):ae:=ae.mk s.vars s.in_ s.out_ (l.map (fun k=>s.rules.getD k default))
theorem iZ (s:ae) (l:List Nat):(eJ s l).rules.length = l.length:=by unfold eJ;simp
theorem fq (s:ae) {l:List Nat} {i:Nat} (h:i < l.length):(eJ s l).rules.getD i default = s.rules.getD (l.getD i default) default:=by
 unfold eJ;simp [List.getD,h]
theorem jk (s:ae) (l:List Nat) (i:Nat):bt (eJ s l) i = j5 s (l.take i):=by
 unfold bt j5 eJ
 simp only [← List.map_take,List.map_map]
 rfl
theorem oi (s:ae) (l:List Nat) (r:af):aD (eJ s l) r = aD s r:=yF _ _ _ _ _ _
theorem wX {s:ae} {l:List Nat} (h:l.length = s.rules.length):jv (eJ s l) = jv s:=by
 have e:=iZ s l
 unfold jv
 rw [e,h]
 rfl
theorem vR {l:List Nat} {n:Nat} (hn:l.Nodup) (hl:∀ k∈l,k < n) (hlen:l.length = n) (s:ae) (h:n = s.rules.length) (x:Int):x∈bt s s.rules.length→x∈j5 s l:=by
 intro hx
 rcases (iJ s x (Nat.le_refl _)).1 hx with h1 | ⟨k,hk,h1⟩
 ·exact ia.2 (.inl h1)
 ·exact ia.2 (.inr ⟨k,nm hn hl hlen k (by omega),h1⟩)
theorem wY {s:ae} (hc:(cU s).code = 0) {l:List Nat} (hn:l.Nodup) (hl:∀ k∈l,k < s.rules.length) (hlen:l.length = s.rules.length):cU (eJ s l) = aw.mk 0 0:=by
 obtain ⟨g,_⟩:=fZ hc
 have hh:(jv s).code = 0:=by
  refine Classical.byContradiction fun h0=>?_
  unfold cU at hc
  rw [iP h0] at hc
  exact h0 hc
 have hlen':=iZ s l
 refine sP (by rw [wX hlen];exact hh) (fun i hi=>?_) (fun i hi x hx=>?_) (fun x hx=>?_)
 ·have hi':i < l.length:=by omega
  have hk:=hl _ (aS hi')
  have h1:=g.r _ hk
  rw [jk,fq s hi']
  have c1:(bt s (l.getD i default)).contains (s.rules.getD (l.getD i default) default).out_ = false:=by
   cases hq:(bt s (l.getD i default)).contains (s.rules.getD (l.getD i default) default).out_
   ·rfl
   ·exact absurd (List.contains_iff_mem.1 hq) (lp g hk)
  have c2:(j5 s (l.take i)).contains (s.rules.getD (l.getD i default) default).out_ = false:=by
   cases hq:(j5 s (l.take i)).contains (s.rules.getD (l.getD i default) default).out_
   ·rfl
   ·rcases ia.1 (List.contains_iff_mem.1 hq) with h | ⟨k,h2,h3⟩
    ·exact absurd h (oJ g hk)
    ·have e:=mU g hk (hl k (List.mem_of_mem_take h2)) h3
     subst e
     obtain ⟨j,hj,e⟩:=List.mem_iff_getElem.1 h2
     rw [List.length_take] at hj
     rw [List.getElem_take] at e
     have:=(List.getElem_inj hn).1 (e.trans (me hi'))
     omega
  unfold jx at h1 ⊢
  rw [c1] at h1
  rw [c2,oi]
  exact h1
 ·have hi':i < l.length:=by omega
  rw [fq s hi'] at hx
  rw [jk,hlen',List.take_length]
  exact vR hn hl hlen s rfl x (g.u _ (hl _ (aS hi')) x hx)
 ·rw [jk,hlen',List.take_length]
  exact vR hn hl hlen s rfl x (g.o x hx)
theorem sQ (s:ae):lS s = eJ s (cm s):=rfl
theorem wZ {s:ae} (hc:(cU s).code = 0) (hK:(cm s).length = s.rules.length):cU (lS s) = aw.mk 0 0 :=
 wY hc (np s) (fun _ h=>lf h) hK
theorem rm {s:ae}:jZ (lS s):=by
 intro i hi
 rw [sQ,iZ] at hi
 rw [sQ,jk,fq s hi]
 have:=(nn (sO hi)).2.2
 unfold tt at this
 exact of_decide_eq_true this
theorem sR {T:Type} [Inhabited T] (l:List T):(List.range l.length).map (fun k=>l.getD k default) = l:=by
 apply List.ext_getElem
 ·simp
 ·intro i h1 h2
  simp [List.getD,h2]
theorem A5 {s:ae} {L:List Int} (h1:∀ x∈s.in_,x∈L) (h3:∀ j,j < s.rules.length→(s.rules.getD j default).out_∈L∨¬ tq L (s.rules.getD j default)):∀ x∈j5 s (cm s),x∈L:=by
 have key:∀ k,k ≤ (cm s).length→∀ x∈j5 s ((cm s).take k),x∈L:=by
  intro k
  induction k with
  | zero =>
   intro _ x hx
   rw [List.take_zero,zT] at hx
   exact h1 x hx
  | succ k ih =>
   intro hk x hx
   rw [cE _ (by omega),zS] at hx
   rcases List.mem_append.1 hx with hx | hx
   ·exact ih (by omega) x hx
   ·simp only [List.mem_singleton] at hx
    subst hx
    obtain ⟨q1,_,q3⟩:=nn (sO (s:=s) (k:=k) (by omega))
    rcases h3 _ q1 with h | h
    ·exact h
    ·unfold tt at q3
     exact absurd (yE (of_decide_eq_true q3) (ih (by omega))) h
 intro x hx
 have:=key (cm s).length (Nat.le_refl _)
 rw [List.take_length] at this
 exact this x hx
theorem mi (l:List Int) (hl:l.length ≤ 9000000):gP l l = some true:=by
 unfold gP
 rw [iN (by simp)]
 rw [b8 l.length (fun _=>none) () (fun i hi=>by
  simp only [gV,tN]
  rw [iP (ltI hi),iP ⟨inI hi,inI hi⟩,iN (by simp),wrs i (by omega)]) (by simp [gV]),iY (fun _ _=>rfl)]
 rfl
theorem tu (l:List ay) (hl:l.length ≤ 9000000):jN l l = some true:=by
 unfold jN
 rw [iN (by simp),b8 l.length (fun _=>none) ()]
 ·rw [iY (fun _ _=>rfl)];rfl
 ·intro i hi
  unfold gX
  rw [iP (ltI hi),iP ⟨inI hi,inI hi⟩,iP (by simp),wrs i (by omega)]
 ·unfold gX;rw [iN (bm _)]
theorem tv (r:af) (h:r.a.length ≤ 100∧r.e.length ≤ 1000):jO r r = some true:=by
 unfold jO
 rw [iP rfl,iP rfl,iP rfl,iP rfl,mi _ (by omega)]
 simp only [bSq,if_true]
 rw [tu _ (by omega)]
 rfl
theorem uU {s:ae} {m:Nat} (h:lR s m) (hm:m ≤ 100000):iC s s = some true:=by
 have h1:=h.nv
 have h2:=h.nr
 have h3:=h.ni
 have h4:=h.no
 unfold iC
 rw [iN (by simp),iN (by simp),mi _ (by omega)]
 simp only [bSq,if_true]
 rw [mi _ (by omega)]
 simp only [bSq,if_true]
 rw [b8 s.vars.length (fun _=>none) () (fun i hi=>by
  unfold fN
  rw [iP (ltI hi),iP ⟨inI hi,inI hi⟩,iP ⟨rfl,rfl⟩,wrs i (by omega)]) (by unfold fN;rw [iN (bm _)]),iY (fun _ _=>rfl)]
 simp only [bSq,Sum.elim_inl]
 unfold et
 rw [b8 s.rules.length (fun _=>none) () (fun i hi=>by
  unfold fM
  rw [iP (ltI hi),iP ⟨inI hi,inI hi⟩]
  simp only [tN]
  rw [tv _ (h.r _ (aS hi)),wrs i (by omega)]
  rfl) (by unfold fM;rw [iN (bm _)]),iY (fun _ _=>rfl)]
 rfl
theorem vS {s:ae} {mk:List Int} {r:af} (h1:inV s r.out_) (h2:¬ mk.contains r.out_ = true) (h3:¬ (aO r.op < 0∨¬ (r.a.length:Int) = aO r.op)) (h4:¬ (r.e.length:Int) > 24)
  (h5:¬ ∃ x∈b9 r,¬ inV s x) (h6:aD s r = some true):jx s mk r = 0:=by
 unfold jx
 rw [iN (not_not_intro h1),iN h2,iN h3,iN h4,iN h5,iP h6]
theorem nq (n:Int):okI .i64 (IntKind.wrap .i64 n):=by
 show -9223372036854775808 ≤ IntKind.wrap .i64 n∧IntKind.wrap .i64 n ≤ 9223372036854775807
 rw [IntKind.wrap_i64];omega
theorem qn (x t:Int):IntKind.wrap .i64 (x + 18446744073709551616 * t) = IntKind.wrap .i64 x:=by
 simp only [IntKind.wrap_i64]
 have:(x + 18446744073709551616 * t + 9223372036854775808) = (x + 9223372036854775808) + 18446744073709551616 * t:=by omega
 rw [this,Int.add_mul_emod_self_left]
theorem xJ (x:Int):∃ t,IntKind.wrap .i64 x = x + 18446744073709551616 * t:=by
 refine ⟨-((x + 9223372036854775808) / 18446744073709551616),?_⟩
 rw [IntKind.wrap_i64];omega
theorem A6 {n:Int} (h:okI .i64 n):IntKind.wrap .i64 n = n:=wr h.1 h.2
theorem yG (a b:Int) (ha:okI .i64 a) (hb:b ≠ 0):okI .i64 (a.tmod b)∧IntKind.wrap .i64 (a - IntKind.wrap .i64 (IntKind.wrap .i64 (a.tdiv b) * b)) = a.tmod b:=by
 have ha':-9223372036854775808 ≤ a∧a ≤ 9223372036854775807:=ha
 have h1:=Int.mul_tdiv_add_tmod a b
 have hr:okI .i64 (a.tmod b):=by
  show -9223372036854775808 ≤ a.tmod b∧a.tmod b ≤ 9223372036854775807
  rcases Int.le_total 0 a with h | h
  ·have h2:=Int.tmod_nonneg b h
   have h3:a.tmod b ≤ a:=by
    rw [Int.tmod_eq_emod_of_nonneg h]
    have h4:=Int.mul_ediv_add_emod a b
    have h5:0 ≤ b * (a / b):=by
     rcases Int.le_total 0 b with hb0 | hb0
     ·exact Int.mul_nonneg hb0 (Int.ediv_nonneg h hb0)
     ·exact Int.mul_nonneg_of_nonpos_of_nonpos hb0 (Int.ediv_nonpos_of_nonneg_of_nonpos h hb0)
    omega
   omega
  ·have h2:0 ≤ (-a).tmod b:=Int.tmod_nonneg b (by omega)
   have h3:(-a).tmod b ≤ -a:=by
    rw [Int.tmod_eq_emod_of_nonneg (by omega)]
    have h4:=Int.mul_ediv_add_emod (-a) b
    have h5:0 ≤ b * (-a / b):=by
     rcases Int.le_total 0 b with hb0 | hb0
     ·exact Int.mul_nonneg hb0 (Int.ediv_nonneg (by omega) hb0)
     ·exact Int.mul_nonneg_of_nonpos_of_nonpos hb0 (Int.ediv_nonpos_of_nonneg_of_nonpos (by omega) hb0)
    omega
   rw [Int.neg_tmod] at h2 h3
   omega
 refine ⟨hr,?_⟩
 obtain ⟨t,ht⟩:=xJ (a.tdiv b)
 rw [ht]
 have e1:(a.tdiv b + 18446744073709551616 * t) * b = a.tdiv b * b + 18446744073709551616 * (t * b):=by rw [Int.add_mul,Int.mul_assoc]
 rw [e1,qn]
 obtain ⟨t2,ht2⟩:=xJ (a.tdiv b * b)
 rw [ht2]
 have e2:a - (a.tdiv b * b + 18446744073709551616 * t2) = a.tmod b + 18446744073709551616 * (-t2):=by rw [Int.mul_comm (a.tdiv b) b];omega
 rw [e2,qn,A6 hr]
noncomputable def app (k a b:Int):Int:=(br k a b).getD 0
theorem iK (k a b:Int) (ha:okI .i64 a) (hb:okI .i64 b):br k a b = some (app k a b)∧bi k a b = some (app k a b)∧okI .i64 (app k a b):=by
 have h01:∀ c:Bool,(if c = true then some (1:Int) else some 0) = some (if c = true then 1 else 0):=fun c=>by cases c <;> rfl
 have ok01:∀ c:Bool,okI .i64 (if c = true then (1:Int) else 0):=fun c=>by cases c <;> exact ⟨by decide,by decide⟩
 have key:∀ v,br k a b = some v→bi k a b = some v→okI .i64 v→br k a b = some (app k a b)∧bi k a b = some (app k a b)∧okI .i64 (app k a b):=fun v h1 h2 h3=>by
  have:app k a b = v:=by unfold app;rw [h1];rfl
  rw [this];exact ⟨h1,h2,h3⟩
 by_cases c1:k = 1
 ·exact key _ (by unfold br;rw [iP c1]) (by unfold bi;rw [iP c1]) (nq _)
 by_cases c2:k = 2
 ·exact key _ (by unfold br;rw [iN c1,iP c2]) (by unfold bi;rw [iN c1,iP c2]) (nq _)
 by_cases c3:k = 3
 ·exact key _ (by unfold br;rw [iN c1,iN c2,iP c3]) (by unfold bi;rw [iN c1,iN c2,iP c3]) (nq _)
 by_cases c4:k = 4
 ·subst c4
  by_cases z:b = 0
  ·exact key 0 (by simp [br,bg,jl,z]) (by simp [bi,z]) ⟨by decide,by decide⟩
  ·by_cases z1:b = -1
   ·subst z1
    exact key (IntKind.wrap .i64 (0 - a)) (by simp [br,bg,jl,Int.tdiv_neg,Int.tdiv_one]) (by simp [bi]) (nq _)
   ·exact key (IntKind.wrap .i64 (a.tdiv b)) (by simp [br,bg,jl,z]) (by simp [bi,z,z1]) (nq _)
 by_cases c5:k = 5
 ·subst c5
  by_cases z:b = 0
  ·exact key 0 (by simp [br,bg,jl,z]) (by simp [bi,z]) ⟨by decide,by decide⟩
  ·by_cases z1:b = -1
   ·subst z1
    exact key 0 (by simp [br,bg,jl,Int.tmod_neg,Int.tmod_one]) (by simp [bi]) ⟨by decide,by decide⟩
   ·obtain ⟨m1,m2⟩:=yG a b ha z
    exact key (a.tmod b) (by simp [br,bg,jl,z]) (by simp only [bi];rw [iN (by decide),iN (by decide),iN (by decide),iN (by decide),iN (by decide),iP trivial,iN z,iN z1,iP z,m2]) m1
 by_cases c6:k = 6
 ·subst c6
  exact key (if b < a then b else a) (by simp [br,bg]) (by simp only [bi];simp;split <;> rfl) (by split <;> assumption)
 by_cases c7:k = 7
 ·subst c7
  exact key (if b > a then b else a) (by simp [br,bg]) (by simp only [bi];simp;split <;> rfl) (by split <;> assumption)
 by_cases c8:k = 8
 ·subst c8
  by_cases z:a < b
  ·exact key 1 (by simp [br,bg,cj,z]) (by simp [bi,bf,z]) ⟨by decide,by decide⟩
  ·exact key 0 (by simp [br,bg,cj,z]) (by simp [bi,bf,z]) ⟨by decide,by decide⟩
 by_cases c9:k = 9
 ·subst c9
  by_cases z:a = b
  ·exact key 1 (by simp [br,bg,cj,z]) (by simp [bi,bf,z]) ⟨by decide,by decide⟩
  ·exact key 0 (by simp [br,bg,cj,z]) (by simp [bi,bf,z]) ⟨by decide,by decide⟩
 by_cases c10:k = 10
 ·subst c10
  by_cases z:a = 0
  ·exact key 0 (by simp [br,bg,cj,z]) (by simp [bi,bf,z]) ⟨by decide,by decide⟩
  ·by_cases z2:b = 0
   ·exact key 0 (by simp [br,bg,cj,z,z2]) (by simp [bi,bf,z,z2]) ⟨by decide,by decide⟩
   ·exact key 1 (by simp [br,bg,cj,z,z2]) (by simp [bi,bf,z,z2]) ⟨by decide,by decide⟩
 by_cases c11:k = 11
 ·subst c11
  by_cases z:a = 0
  ·by_cases z2:b = 0
   ·exact key 0 (by simp [br,bg,cj,z,z2]) (by simp [bi,bf,z,z2]) ⟨by decide,by decide⟩
   ·exact key 1 (by simp [br,bg,cj,z,z2]) (by simp [bi,bf,z,z2]) ⟨by decide,by decide⟩
  ·exact key 1 (by simp [br,bg,cj,z]) (by simp [bi,bf,z]) ⟨by decide,by decide⟩
 by_cases c12:k = 12
 ·subst c12
  by_cases z:a = 0 <;> by_cases z2:b = 0
  ·exact key 0 (by simp [br,bg,cj,z,z2]) (by simp [bi,bf,z,z2]) ⟨by decide,by decide⟩
  ·exact key 1 (by simp [br,bg,cj,z,z2]) (by simp [bi,bf,z,z2]) ⟨by decide,by decide⟩
  ·exact key 1 (by simp [br,bg,cj,z,z2]) (by simp [bi,bf,z,z2]) ⟨by decide,by decide⟩
  ·have e1:(a != 0) = true:=by simp [z]
   have e2:(b != 0) = true:=by simp [z2]
   have e3:(a == 0) = false:=by simp [z]
   have e4:(b == 0) = false:=by simp [z2]
   exact key 0 (by simp [br,bg,cj,e1,e2]) (by simp [bi,bf,e3,e4]) ⟨by decide,by decide⟩
 by_cases c13:k = 13
 ·subst c13
  exact key (IntKind.wrap .i64 (0 - a)) (by simp [br,bg]) (by simp [bi]) (nq _)
 by_cases c14:k = 14
 ·subst c14
  by_cases z:a = 0
  ·exact key 1 (by simp [br,bg,cj,z]) (by simp [bi,bf,z]) ⟨by decide,by decide⟩
  ·exact key 0 (by simp [br,bg,cj,z]) (by simp [bi,bf,z]) ⟨by decide,by decide⟩
 exact key 0 (by simp [br,bg,c1,c2,c3,c4,c5,c6,c7,c8,c9,c10,c11,c12,c13,c14]) (by simp [bi,bf,c1,c2,c3,c4,c5,c6,c7,c8,c9,c10,c11,c12,c13,c14]) ⟨by decide,by decide⟩
theorem om:okI .i64 0:=⟨by decide,by decide⟩
theorem db {l:List Int} (h:∀ y∈l,okI .i64 y) (i:Nat):okI .i64 (l.getD i default):=by
 by_cases hi:i < l.length
 ·exact h _ (aS hi)
 ·have:l.getD i default = 0:=by simp [List.getD,List.getElem?_eq_none (Nat.le_of_not_lt hi)]
  rw [this];exact om
def nV (s:ae) (v:Int):Int:=(vOf s v).n
def clN (s:ae) (v:Int):Nat:=(eU (nV s v)).toNat
structure uV (s:ae) (op n o a b c:Int) (e:List ay):Prop where
 h1:op = 1→o = 0
 h2:op = 2→a = o
 h3:op = 3→a = o
 h4:op = 4→a = o∧b = o
 h5:op = 5→a = 0∧b = o∧c = o
 h6:op = 6→a = 0∧o = 0∧b > 0
 h7:op = 7→a = 0∧b = o∧o > 0
 h8:op = 8→a = 0∧o > 0
 h9:op = 9→a > 0∧b = 0∧c = 0∧o = 0
 h10:op = 10→a = o∧o > 0∧b = 0∧c = 0
 h11:op = 11→a > 0∧o > 0∧0 ≤ n∧n + o ≤ a
 h12:op = 12→a > 0∧b > 0∧o = a + b
 h13:op = 13→a = o∧b = o
 h14:op = 14→jY s (eU o) e ≠ 0
 h15:op = 15→a = 0∧o = 0∧1 ≤ n∧n ≤ 300∧jY s n e ≠ 0
 h16:op = 16→a = 0∧o > 0∧jY s o e ≠ 0
theorem w4 {x:Int} (h:okE x):x ≠ 0:=by unfold okE at h;omega
theorem sS {s:ae} {e:List ay} {n:Int} (hv:ew s) (hu:∀ p∈e,od s p) (hn:1 ≤ n∧n ≤ 300) (he:e.length ≤ 800):jP s e n = some (jY s n e):=(tR (c:=0) hv hu hn he).2
theorem t8 {n:Int} (h:0 ≤ n∧n ≤ 300):1 ≤ eU n∧eU n ≤ 300:=by unfold eU;split <;> omega
theorem zX {s:ae} (hv:ew s) {r:af} (h:iH s r) (hp:¬ aO r.op < 0) (hl:(r.a.length:Int) = aO r.op) (hf:aD s r = some true) :
  uV s r.op r.n (nV s r.out_) (nV s (r.a.getD 0 default)) (nV s (r.a.getD 1 default)) (nV s (r.a.getD 2 default)) r.e:=by
 obtain ⟨op,k,o,n,a,e⟩:=r
 simp only at hp hl
 have ho:inV s o:=h.o
 have go:=aL hv ho
 have h3:a.length ≤ 3:=by have:=mS op;omega
 rw [cP h.o h3 h.a] at hf
 have hop:1 ≤ op∧op ≤ 16:=by
  by_cases hc:1 ≤ op∧op ≤ 16
  ·exact hc
  ·unfold aO at hp;rw [iN hc] at hp;omega
 have ha:∀ x∈a,inV s x:=h.a
 have he:e.length ≤ 24:=h.e
 have hu:14 ≤ op→∀ p∈e,od s p:=h.u
 have hcs:op = 1∨op = 2∨op = 3∨op = 4∨op = 5∨op = 6∨op = 7∨op = 8∨op = 9∨op = 10∨op = 11∨op = 12∨op = 13∨op = 14∨op = 15∨op = 16:=by omega
 have l0:(a.length:Int) = 0→a = []:=fun h=>List.eq_nil_of_length_eq_zero (by omega)
 have l1:(a.length:Int) = 1→∃ x,a = [x]:=fun h=>by
  match a,h with
  | [x],_=>exact ⟨x,rfl⟩
  | [],h=>simp at h
  | _ :: _ :: _,h=>simp at h;omega
 have l2:(a.length:Int) = 2→∃ x y,a = [x,y]:=fun h=>by
  match a,h with
  | [x,y],_=>exact ⟨x,y,rfl⟩
  | [],h=>simp at h
  | [_],h=>simp at h
  | _ :: _ :: _ :: _,h=>simp at h;omega
 have l3:(a.length:Int) = 3→∃ x y z,a = [x,y,z]:=fun h=>by
  match a,h with
  | [x,y,z],_=>exact ⟨x,y,z,rfl⟩
  | [],h=>simp at h
  | [_],h=>simp at h
  | [_,_],h=>simp at h
  | _ :: _ :: _ :: _ :: _,h=>simp at h;omega
 rcases hcs with rfl | rfl | rfl | rfl | rfl | rfl | rfl | rfl | rfl | rfl | rfl | rfl | rfl | rfl | rfl | rfl
 ·obtain rfl:=l0 (hl.trans (by decide))
  simp only [aE,bB,bSq,bw,bu,cO,List.length_cons,List.length_nil,List.getD_cons_zero,List.getD_cons_succ,ee,Nat.reduceAdd,Nat.reduceLT,if_true,if_false,reduceCtorEq,Int.reduceEq,reduceIte,Int.reduceLE,Int.reduceLT,and_self] at hf
  have key:(vOf s o).n = 0:=by grind
  exact ⟨(fun _=>key),(fun h=>absurd h (show ¬ (1:Int) = 2 by decide)),(fun h=>absurd h (show ¬ (1:Int) = 3 by decide)),(fun h=>absurd h (show ¬ (1:Int) = 4 by decide)),(fun h=>absurd h (show ¬ (1:Int) = 5 by decide)),(fun h=>absurd h (show ¬ (1:Int) = 6 by decide)),(fun h=>absurd h (show ¬ (1:Int) = 7 by decide)),(fun h=>absurd h (show ¬ (1:Int) = 8 by decide)),(fun h=>absurd h (show ¬ (1:Int) = 9 by decide)),(fun h=>absurd h (show ¬ (1:Int) = 10 by decide)),(fun h=>absurd h (show ¬ (1:Int) = 11 by decide)),(fun h=>absurd h (show ¬ (1:Int) = 12 by decide)),(fun h=>absurd h (show ¬ (1:Int) = 13 by decide)),(fun h=>absurd h (show ¬ (1:Int) = 14 by decide)),(fun h=>absurd h (show ¬ (1:Int) = 15 by decide)),(fun h=>absurd h (show ¬ (1:Int) = 16 by decide))⟩
 ·obtain ⟨x,rfl⟩:=l1 (hl.trans (by decide))
  have gx:=aL hv (ha x (by simp))
  simp only [aE,bB,bSq,bw,bu,cO,List.length_cons,List.length_nil,List.getD_cons_zero,List.getD_cons_succ,ee,Nat.reduceAdd,Nat.reduceLT,if_true,if_false,reduceCtorEq,Int.reduceEq,reduceIte,Int.reduceLE,Int.reduceLT,and_self] at hf
  have key:(vOf s x).n = (vOf s o).n:=by grind
  exact ⟨(fun h=>absurd h (show ¬ (2:Int) = 1 by decide)),(fun _=>key),(fun h=>absurd h (show ¬ (2:Int) = 3 by decide)),(fun h=>absurd h (show ¬ (2:Int) = 4 by decide)),(fun h=>absurd h (show ¬ (2:Int) = 5 by decide)),(fun h=>absurd h (show ¬ (2:Int) = 6 by decide)),(fun h=>absurd h (show ¬ (2:Int) = 7 by decide)),(fun h=>absurd h (show ¬ (2:Int) = 8 by decide)),(fun h=>absurd h (show ¬ (2:Int) = 9 by decide)),(fun h=>absurd h (show ¬ (2:Int) = 10 by decide)),(fun h=>absurd h (show ¬ (2:Int) = 11 by decide)),(fun h=>absurd h (show ¬ (2:Int) = 12 by decide)),(fun h=>absurd h (show ¬ (2:Int) = 13 by decide)),(fun h=>absurd h (show ¬ (2:Int) = 14 by decide)),(fun h=>absurd h (show ¬ (2:Int) = 15 by decide)),(fun h=>absurd h (show ¬ (2:Int) = 16 by decide))⟩
 ·obtain ⟨x,rfl⟩:=l1 (hl.trans (by decide))
  have gx:=aL hv (ha x (by simp))
  simp only [aE,bB,bSq,bw,bu,cO,List.length_cons,List.length_nil,List.getD_cons_zero,List.getD_cons_succ,ee,Nat.reduceAdd,Nat.reduceLT,if_true,if_false,reduceCtorEq,Int.reduceEq,reduceIte,Int.reduceLE,Int.reduceLT,and_self] at hf
  have key:(vOf s x).n = (vOf s o).n:=by grind
  exact ⟨(fun h=>absurd h (show ¬ (3:Int) = 1 by decide)),(fun h=>absurd h (show ¬ (3:Int) = 2 by decide)),(fun _=>key),(fun h=>absurd h (show ¬ (3:Int) = 4 by decide)),(fun h=>absurd h (show ¬ (3:Int) = 5 by decide)),(fun h=>absurd h (show ¬ (3:Int) = 6 by decide)),(fun h=>absurd h (show ¬ (3:Int) = 7 by decide)),(fun h=>absurd h (show ¬ (3:Int) = 8 by decide)),(fun h=>absurd h (show ¬ (3:Int) = 9 by decide)),(fun h=>absurd h (show ¬ (3:Int) = 10 by decide)),(fun h=>absurd h (show ¬ (3:Int) = 11 by decide)),(fun h=>absurd h (show ¬ (3:Int) = 12 by decide)),(fun h=>absurd h (show ¬ (3:Int) = 13 by decide)),(fun h=>absurd h (show ¬ (3:Int) = 14 by decide)),(fun h=>absurd h (show ¬ (3:Int) = 15 by decide)),(fun h=>absurd h (show ¬ (3:Int) = 16 by decide))⟩
 ·obtain ⟨x,y,rfl⟩:=l2 (hl.trans (by decide))
  have gx:=aL hv (ha x (by simp))
  have gy:=aL hv (ha y (by simp))
  simp only [aE,bB,bSq,bw,bu,cO,List.length_cons,List.length_nil,List.getD_cons_zero,List.getD_cons_succ,ee,Nat.reduceAdd,Nat.reduceLT,if_true,if_false,reduceCtorEq,Int.reduceEq,reduceIte,Int.reduceLE,Int.reduceLT,and_self] at hf
  have key:(vOf s x).n = (vOf s o).n∧(vOf s y).n = (vOf s o).n:=by grind
  exact ⟨(fun h=>absurd h (show ¬ (4:Int) = 1 by decide)),(fun h=>absurd h (show ¬ (4:Int) = 2 by decide)),(fun h=>absurd h (show ¬ (4:Int) = 3 by decide)),(fun _=>key),(fun h=>absurd h (show ¬ (4:Int) = 5 by decide)),(fun h=>absurd h (show ¬ (4:Int) = 6 by decide)),(fun h=>absurd h (show ¬ (4:Int) = 7 by decide)),(fun h=>absurd h (show ¬ (4:Int) = 8 by decide)),(fun h=>absurd h (show ¬ (4:Int) = 9 by decide)),(fun h=>absurd h (show ¬ (4:Int) = 10 by decide)),(fun h=>absurd h (show ¬ (4:Int) = 11 by decide)),(fun h=>absurd h (show ¬ (4:Int) = 12 by decide)),(fun h=>absurd h (show ¬ (4:Int) = 13 by decide)),(fun h=>absurd h (show ¬ (4:Int) = 14 by decide)),(fun h=>absurd h (show ¬ (4:Int) = 15 by decide)),(fun h=>absurd h (show ¬ (4:Int) = 16 by decide))⟩
 ·obtain ⟨x,y,z,rfl⟩:=l3 (hl.trans (by decide))
  have gx:=aL hv (ha x (by simp))
  have gy:=aL hv (ha y (by simp))
  have gz:=aL hv (ha z (by simp))
  simp only [aE,bB,bSq,bw,bu,cO,List.length_cons,List.length_nil,List.getD_cons_zero,List.getD_cons_succ,ee,Nat.reduceAdd,Nat.reduceLT,if_true,if_false,reduceCtorEq,Int.reduceEq,reduceIte,Int.reduceLE,Int.reduceLT,and_self] at hf
  have key:(vOf s x).n = 0∧(vOf s y).n = (vOf s o).n∧(vOf s z).n = (vOf s o).n:=by grind
  exact ⟨(fun h=>absurd h (show ¬ (5:Int) = 1 by decide)),(fun h=>absurd h (show ¬ (5:Int) = 2 by decide)),(fun h=>absurd h (show ¬ (5:Int) = 3 by decide)),(fun h=>absurd h (show ¬ (5:Int) = 4 by decide)),(fun _=>key),(fun h=>absurd h (show ¬ (5:Int) = 6 by decide)),(fun h=>absurd h (show ¬ (5:Int) = 7 by decide)),(fun h=>absurd h (show ¬ (5:Int) = 8 by decide)),(fun h=>absurd h (show ¬ (5:Int) = 9 by decide)),(fun h=>absurd h (show ¬ (5:Int) = 10 by decide)),(fun h=>absurd h (show ¬ (5:Int) = 11 by decide)),(fun h=>absurd h (show ¬ (5:Int) = 12 by decide)),(fun h=>absurd h (show ¬ (5:Int) = 13 by decide)),(fun h=>absurd h (show ¬ (5:Int) = 14 by decide)),(fun h=>absurd h (show ¬ (5:Int) = 15 by decide)),(fun h=>absurd h (show ¬ (5:Int) = 16 by decide))⟩
 ·obtain ⟨x,y,rfl⟩:=l2 (hl.trans (by decide))
  have gx:=aL hv (ha x (by simp))
  have gy:=aL hv (ha y (by simp))
  simp only [aE,bB,bSq,bw,bu,cO,List.length_cons,List.length_nil,List.getD_cons_zero,List.getD_cons_succ,ee,Nat.reduceAdd,Nat.reduceLT,if_true,if_false,reduceCtorEq,Int.reduceEq,reduceIte,Int.reduceLE,Int.reduceLT,and_self] at hf
  have key:(vOf s x).n = 0∧(vOf s o).n = 0∧(vOf s y).n > 0:=by grind
  exact ⟨(fun h=>absurd h (show ¬ (6:Int) = 1 by decide)),(fun h=>absurd h (show ¬ (6:Int) = 2 by decide)),(fun h=>absurd h (show ¬ (6:Int) = 3 by decide)),(fun h=>absurd h (show ¬ (6:Int) = 4 by decide)),(fun h=>absurd h (show ¬ (6:Int) = 5 by decide)),(fun _=>key),(fun h=>absurd h (show ¬ (6:Int) = 7 by decide)),(fun h=>absurd h (show ¬ (6:Int) = 8 by decide)),(fun h=>absurd h (show ¬ (6:Int) = 9 by decide)),(fun h=>absurd h (show ¬ (6:Int) = 10 by decide)),(fun h=>absurd h (show ¬ (6:Int) = 11 by decide)),(fun h=>absurd h (show ¬ (6:Int) = 12 by decide)),(fun h=>absurd h (show ¬ (6:Int) = 13 by decide)),(fun h=>absurd h (show ¬ (6:Int) = 14 by decide)),(fun h=>absurd h (show ¬ (6:Int) = 15 by decide)),(fun h=>absurd h (show ¬ (6:Int) = 16 by decide))⟩
 ·obtain ⟨x,y,rfl⟩:=l2 (hl.trans (by decide))
  have gx:=aL hv (ha x (by simp))
  have gy:=aL hv (ha y (by simp))
  simp only [aE,bB,bSq,bw,bu,cO,List.length_cons,List.length_nil,List.getD_cons_zero,List.getD_cons_succ,ee,Nat.reduceAdd,Nat.reduceLT,if_true,if_false,reduceCtorEq,Int.reduceEq,reduceIte,Int.reduceLE,Int.reduceLT,and_self] at hf
  have key:(vOf s x).n = 0∧(vOf s y).n = (vOf s o).n∧(vOf s o).n > 0:=by grind
  exact ⟨(fun h=>absurd h (show ¬ (7:Int) = 1 by decide)),(fun h=>absurd h (show ¬ (7:Int) = 2 by decide)),(fun h=>absurd h (show ¬ (7:Int) = 3 by decide)),(fun h=>absurd h (show ¬ (7:Int) = 4 by decide)),(fun h=>absurd h (show ¬ (7:Int) = 5 by decide)),(fun h=>absurd h (show ¬ (7:Int) = 6 by decide)),(fun _=>key),(fun h=>absurd h (show ¬ (7:Int) = 8 by decide)),(fun h=>absurd h (show ¬ (7:Int) = 9 by decide)),(fun h=>absurd h (show ¬ (7:Int) = 10 by decide)),(fun h=>absurd h (show ¬ (7:Int) = 11 by decide)),(fun h=>absurd h (show ¬ (7:Int) = 12 by decide)),(fun h=>absurd h (show ¬ (7:Int) = 13 by decide)),(fun h=>absurd h (show ¬ (7:Int) = 14 by decide)),(fun h=>absurd h (show ¬ (7:Int) = 15 by decide)),(fun h=>absurd h (show ¬ (7:Int) = 16 by decide))⟩
 ·obtain ⟨x,rfl⟩:=l1 (hl.trans (by decide))
  have gx:=aL hv (ha x (by simp))
  simp only [aE,bB,bSq,bw,bu,cO,List.length_cons,List.length_nil,List.getD_cons_zero,List.getD_cons_succ,ee,Nat.reduceAdd,Nat.reduceLT,if_true,if_false,reduceCtorEq,Int.reduceEq,reduceIte,Int.reduceLE,Int.reduceLT,and_self] at hf
  have key:(vOf s x).n = 0∧(vOf s o).n > 0:=by grind
  exact ⟨(fun h=>absurd h (show ¬ (8:Int) = 1 by decide)),(fun h=>absurd h (show ¬ (8:Int) = 2 by decide)),(fun h=>absurd h (show ¬ (8:Int) = 3 by decide)),(fun h=>absurd h (show ¬ (8:Int) = 4 by decide)),(fun h=>absurd h (show ¬ (8:Int) = 5 by decide)),(fun h=>absurd h (show ¬ (8:Int) = 6 by decide)),(fun h=>absurd h (show ¬ (8:Int) = 7 by decide)),(fun _=>key),(fun h=>absurd h (show ¬ (8:Int) = 9 by decide)),(fun h=>absurd h (show ¬ (8:Int) = 10 by decide)),(fun h=>absurd h (show ¬ (8:Int) = 11 by decide)),(fun h=>absurd h (show ¬ (8:Int) = 12 by decide)),(fun h=>absurd h (show ¬ (8:Int) = 13 by decide)),(fun h=>absurd h (show ¬ (8:Int) = 14 by decide)),(fun h=>absurd h (show ¬ (8:Int) = 15 by decide)),(fun h=>absurd h (show ¬ (8:Int) = 16 by decide))⟩
 ·obtain ⟨x,y,z,rfl⟩:=l3 (hl.trans (by decide))
  have gx:=aL hv (ha x (by simp))
  have gy:=aL hv (ha y (by simp))
  have gz:=aL hv (ha z (by simp))
  simp only [aE,bB,bSq,bw,bu,cO,List.length_cons,List.length_nil,List.getD_cons_zero,List.getD_cons_succ,ee,Nat.reduceAdd,Nat.reduceLT,if_true,if_false,reduceCtorEq,Int.reduceEq,reduceIte,Int.reduceLE,Int.reduceLT,and_self] at hf
  have key:(vOf s x).n > 0∧(vOf s y).n = 0∧(vOf s z).n = 0∧(vOf s o).n = 0:=by grind
  exact ⟨(fun h=>absurd h (show ¬ (9:Int) = 1 by decide)),(fun h=>absurd h (show ¬ (9:Int) = 2 by decide)),(fun h=>absurd h (show ¬ (9:Int) = 3 by decide)),(fun h=>absurd h (show ¬ (9:Int) = 4 by decide)),(fun h=>absurd h (show ¬ (9:Int) = 5 by decide)),(fun h=>absurd h (show ¬ (9:Int) = 6 by decide)),(fun h=>absurd h (show ¬ (9:Int) = 7 by decide)),(fun h=>absurd h (show ¬ (9:Int) = 8 by decide)),(fun _=>key),(fun h=>absurd h (show ¬ (9:Int) = 10 by decide)),(fun h=>absurd h (show ¬ (9:Int) = 11 by decide)),(fun h=>absurd h (show ¬ (9:Int) = 12 by decide)),(fun h=>absurd h (show ¬ (9:Int) = 13 by decide)),(fun h=>absurd h (show ¬ (9:Int) = 14 by decide)),(fun h=>absurd h (show ¬ (9:Int) = 15 by decide)),(fun h=>absurd h (show ¬ (9:Int) = 16 by decide))⟩
 ·obtain ⟨x,y,z,rfl⟩:=l3 (hl.trans (by decide))
  have gx:=aL hv (ha x (by simp))
  have gy:=aL hv (ha y (by simp))
  have gz:=aL hv (ha z (by simp))
  simp only [aE,bB,bSq,bw,bu,cO,List.length_cons,List.length_nil,List.getD_cons_zero,List.getD_cons_succ,ee,Nat.reduceAdd,Nat.reduceLT,if_true,if_false,reduceCtorEq,Int.reduceEq,reduceIte,Int.reduceLE,Int.reduceLT,and_self] at hf
  have key:(vOf s x).n = (vOf s o).n∧(vOf s o).n > 0∧(vOf s y).n = 0∧(vOf s z).n = 0:=by grind
  exact ⟨(fun h=>absurd h (show ¬ (10:Int) = 1 by decide)),(fun h=>absurd h (show ¬ (10:Int) = 2 by decide)),(fun h=>absurd h (show ¬ (10:Int) = 3 by decide)),(fun h=>absurd h (show ¬ (10:Int) = 4 by decide)),(fun h=>absurd h (show ¬ (10:Int) = 5 by decide)),(fun h=>absurd h (show ¬ (10:Int) = 6 by decide)),(fun h=>absurd h (show ¬ (10:Int) = 7 by decide)),(fun h=>absurd h (show ¬ (10:Int) = 8 by decide)),(fun h=>absurd h (show ¬ (10:Int) = 9 by decide)),(fun _=>key),(fun h=>absurd h (show ¬ (10:Int) = 11 by decide)),(fun h=>absurd h (show ¬ (10:Int) = 12 by decide)),(fun h=>absurd h (show ¬ (10:Int) = 13 by decide)),(fun h=>absurd h (show ¬ (10:Int) = 14 by decide)),(fun h=>absurd h (show ¬ (10:Int) = 15 by decide)),(fun h=>absurd h (show ¬ (10:Int) = 16 by decide))⟩
 ·obtain ⟨x,rfl⟩:=l1 (hl.trans (by decide))
  have gx:=aL hv (ha x (by simp))
  simp only [aE,bB,bSq,bw,bu,cO,List.length_cons,List.length_nil,List.getD_cons_zero,List.getD_cons_succ,ee,Nat.reduceAdd,Nat.reduceLT,if_true,if_false,reduceCtorEq,Int.reduceEq,reduceIte,Int.reduceLE,Int.reduceLT,and_self] at hf
  have w:=(wrd gx.2 go.2).1
  rw [w] at hf
  have key:(vOf s x).n > 0∧(vOf s o).n > 0∧0 ≤ n∧n + (vOf s o).n ≤ (vOf s x).n:=by grind
  exact ⟨(fun h=>absurd h (show ¬ (11:Int) = 1 by decide)),(fun h=>absurd h (show ¬ (11:Int) = 2 by decide)),(fun h=>absurd h (show ¬ (11:Int) = 3 by decide)),(fun h=>absurd h (show ¬ (11:Int) = 4 by decide)),(fun h=>absurd h (show ¬ (11:Int) = 5 by decide)),(fun h=>absurd h (show ¬ (11:Int) = 6 by decide)),(fun h=>absurd h (show ¬ (11:Int) = 7 by decide)),(fun h=>absurd h (show ¬ (11:Int) = 8 by decide)),(fun h=>absurd h (show ¬ (11:Int) = 9 by decide)),(fun h=>absurd h (show ¬ (11:Int) = 10 by decide)),(fun _=>key),(fun h=>absurd h (show ¬ (11:Int) = 12 by decide)),(fun h=>absurd h (show ¬ (11:Int) = 13 by decide)),(fun h=>absurd h (show ¬ (11:Int) = 14 by decide)),(fun h=>absurd h (show ¬ (11:Int) = 15 by decide)),(fun h=>absurd h (show ¬ (11:Int) = 16 by decide))⟩
 ·obtain ⟨x,y,rfl⟩:=l2 (hl.trans (by decide))
  have gx:=aL hv (ha x (by simp))
  have gy:=aL hv (ha y (by simp))
  simp only [aE,bB,bSq,bw,bu,cO,List.length_cons,List.length_nil,List.getD_cons_zero,List.getD_cons_succ,ee,Nat.reduceAdd,Nat.reduceLT,if_true,if_false,reduceCtorEq,Int.reduceEq,reduceIte,Int.reduceLE,Int.reduceLT,and_self] at hf
  have w:=(wrd gx.2 gy.2).2
  rw [w] at hf
  have key:(vOf s x).n > 0∧(vOf s y).n > 0∧(vOf s o).n = (vOf s x).n + (vOf s y).n:=by grind
  exact ⟨(fun h=>absurd h (show ¬ (12:Int) = 1 by decide)),(fun h=>absurd h (show ¬ (12:Int) = 2 by decide)),(fun h=>absurd h (show ¬ (12:Int) = 3 by decide)),(fun h=>absurd h (show ¬ (12:Int) = 4 by decide)),(fun h=>absurd h (show ¬ (12:Int) = 5 by decide)),(fun h=>absurd h (show ¬ (12:Int) = 6 by decide)),(fun h=>absurd h (show ¬ (12:Int) = 7 by decide)),(fun h=>absurd h (show ¬ (12:Int) = 8 by decide)),(fun h=>absurd h (show ¬ (12:Int) = 9 by decide)),(fun h=>absurd h (show ¬ (12:Int) = 10 by decide)),(fun h=>absurd h (show ¬ (12:Int) = 11 by decide)),(fun _=>key),(fun h=>absurd h (show ¬ (12:Int) = 13 by decide)),(fun h=>absurd h (show ¬ (12:Int) = 14 by decide)),(fun h=>absurd h (show ¬ (12:Int) = 15 by decide)),(fun h=>absurd h (show ¬ (12:Int) = 16 by decide))⟩
 ·obtain ⟨x,y,rfl⟩:=l2 (hl.trans (by decide))
  have gx:=aL hv (ha x (by simp))
  have gy:=aL hv (ha y (by simp))
  simp only [aE,bB,bSq,bw,bu,cO,List.length_cons,List.length_nil,List.getD_cons_zero,List.getD_cons_succ,ee,Nat.reduceAdd,Nat.reduceLT,if_true,if_false,reduceCtorEq,Int.reduceEq,reduceIte,Int.reduceLE,Int.reduceLT,and_self] at hf
  have key:(vOf s x).n = (vOf s o).n∧(vOf s y).n = (vOf s o).n:=by grind
  exact ⟨(fun h=>absurd h (show ¬ (13:Int) = 1 by decide)),(fun h=>absurd h (show ¬ (13:Int) = 2 by decide)),(fun h=>absurd h (show ¬ (13:Int) = 3 by decide)),(fun h=>absurd h (show ¬ (13:Int) = 4 by decide)),(fun h=>absurd h (show ¬ (13:Int) = 5 by decide)),(fun h=>absurd h (show ¬ (13:Int) = 6 by decide)),(fun h=>absurd h (show ¬ (13:Int) = 7 by decide)),(fun h=>absurd h (show ¬ (13:Int) = 8 by decide)),(fun h=>absurd h (show ¬ (13:Int) = 9 by decide)),(fun h=>absurd h (show ¬ (13:Int) = 10 by decide)),(fun h=>absurd h (show ¬ (13:Int) = 11 by decide)),(fun h=>absurd h (show ¬ (13:Int) = 12 by decide)),(fun _=>key),(fun h=>absurd h (show ¬ (13:Int) = 14 by decide)),(fun h=>absurd h (show ¬ (13:Int) = 15 by decide)),(fun h=>absurd h (show ¬ (13:Int) = 16 by decide))⟩
 ·obtain rfl:=l0 (hl.trans (by decide))
  have ht:=sS hv (hu (by omega)) (t8 ⟨go.2.1,go.2.2⟩) (by omega:e.length ≤ 800)
  simp only [aE,bB,bSq,bw,bu,cO,List.length_cons,List.length_nil,List.getD_cons_zero,List.getD_cons_succ,ee,Nat.reduceAdd,Nat.reduceLT,if_true,if_false,reduceCtorEq,Int.reduceEq,reduceIte,Int.reduceLE,Int.reduceLT,and_self,ht] at hf
  have nz:=w4 go.1
  have key:jY s (eU (vOf s o).n) e ≠ 0:=by grind
  exact ⟨(fun h=>absurd h (show ¬ (14:Int) = 1 by decide)),(fun h=>absurd h (show ¬ (14:Int) = 2 by decide)),(fun h=>absurd h (show ¬ (14:Int) = 3 by decide)),(fun h=>absurd h (show ¬ (14:Int) = 4 by decide)),(fun h=>absurd h (show ¬ (14:Int) = 5 by decide)),(fun h=>absurd h (show ¬ (14:Int) = 6 by decide)),(fun h=>absurd h (show ¬ (14:Int) = 7 by decide)),(fun h=>absurd h (show ¬ (14:Int) = 8 by decide)),(fun h=>absurd h (show ¬ (14:Int) = 9 by decide)),(fun h=>absurd h (show ¬ (14:Int) = 10 by decide)),(fun h=>absurd h (show ¬ (14:Int) = 11 by decide)),(fun h=>absurd h (show ¬ (14:Int) = 12 by decide)),(fun h=>absurd h (show ¬ (14:Int) = 13 by decide)),(fun _=>key),(fun h=>absurd h (show ¬ (14:Int) = 15 by decide)),(fun h=>absurd h (show ¬ (14:Int) = 16 by decide))⟩
 ·obtain ⟨x,rfl⟩:=l1 (hl.trans (by decide))
  have gx:=aL hv (ha x (by simp))
  have ht:=fun hn=>sS hv (n:=n) (hu (by omega)) hn (by omega:e.length ≤ 800)
  simp only [aE,bB,bSq,bw,bu,cO,List.length_cons,List.length_nil,List.getD_cons_zero,List.getD_cons_succ,ee,Nat.reduceAdd,Nat.reduceLT,if_true,if_false,reduceCtorEq,Int.reduceEq,reduceIte,Int.reduceLE,Int.reduceLT,and_self] at hf
  have nz:=w4 go.1
  have key:(vOf s x).n = 0∧(vOf s o).n = 0∧1 ≤ n∧n ≤ 300∧jY s n e ≠ 0:=by
   by_cases hn:1 ≤ n∧n ≤ 300
   ·rw [ht hn] at hf;grind
   ·exfalso;grind
  exact ⟨(fun h=>absurd h (show ¬ (15:Int) = 1 by decide)),(fun h=>absurd h (show ¬ (15:Int) = 2 by decide)),(fun h=>absurd h (show ¬ (15:Int) = 3 by decide)),(fun h=>absurd h (show ¬ (15:Int) = 4 by decide)),(fun h=>absurd h (show ¬ (15:Int) = 5 by decide)),(fun h=>absurd h (show ¬ (15:Int) = 6 by decide)),(fun h=>absurd h (show ¬ (15:Int) = 7 by decide)),(fun h=>absurd h (show ¬ (15:Int) = 8 by decide)),(fun h=>absurd h (show ¬ (15:Int) = 9 by decide)),(fun h=>absurd h (show ¬ (15:Int) = 10 by decide)),(fun h=>absurd h (show ¬ (15:Int) = 11 by decide)),(fun h=>absurd h (show ¬ (15:Int) = 12 by decide)),(fun h=>absurd h (show ¬ (15:Int) = 13 by decide)),(fun h=>absurd h (show ¬ (15:Int) = 14 by decide)),(fun _=>key),(fun h=>absurd h (show ¬ (15:Int) = 16 by decide))⟩
 ·obtain ⟨x,rfl⟩:=l1 (hl.trans (by decide))
  have gx:=aL hv (ha x (by simp))
  have ht:=fun hn=>sS hv (n:=(vOf s o).n) (hu (by omega)) hn (by omega:e.length ≤ 800)
  simp only [aE,bB,bSq,bw,bu,cO,List.length_cons,List.length_nil,List.getD_cons_zero,List.getD_cons_succ,ee,Nat.reduceAdd,Nat.reduceLT,if_true,if_false,reduceCtorEq,Int.reduceEq,reduceIte,Int.reduceLE,Int.reduceLT,and_self] at hf
  have nz:=w4 go.1
  have key:(vOf s x).n = 0∧(vOf s o).n > 0∧jY s (vOf s o).n e ≠ 0:=by
   by_cases hn:1 ≤ (vOf s o).n∧(vOf s o).n ≤ 300
   ·rw [ht hn] at hf;grind
   ·exfalso;grind
  exact ⟨(fun h=>absurd h (show ¬ (16:Int) = 1 by decide)),(fun h=>absurd h (show ¬ (16:Int) = 2 by decide)),(fun h=>absurd h (show ¬ (16:Int) = 3 by decide)),(fun h=>absurd h (show ¬ (16:Int) = 4 by decide)),(fun h=>absurd h (show ¬ (16:Int) = 5 by decide)),(fun h=>absurd h (show ¬ (16:Int) = 6 by decide)),(fun h=>absurd h (show ¬ (16:Int) = 7 by decide)),(fun h=>absurd h (show ¬ (16:Int) = 8 by decide)),(fun h=>absurd h (show ¬ (16:Int) = 9 by decide)),(fun h=>absurd h (show ¬ (16:Int) = 10 by decide)),(fun h=>absurd h (show ¬ (16:Int) = 11 by decide)),(fun h=>absurd h (show ¬ (16:Int) = 12 by decide)),(fun h=>absurd h (show ¬ (16:Int) = 13 by decide)),(fun h=>absurd h (show ¬ (16:Int) = 14 by decide)),(fun h=>absurd h (show ¬ (16:Int) = 15 by decide)),(fun _=>key)⟩
def sT (l:List Int) (at_ o:Int):Int:=if 0 ≤ at_∧at_ < (l.length:Int) then l.getD at_.toNat default else o
noncomputable def nI (V:Int→List Int) (k:Int) (p:ay) (st:List Int):List Int :=
 if p.op = 1 then p.n :: st
 else if p.op = 2 then (V p.v).getD 0 default :: st
 else if p.op = 3 then (V p.v).getD (k + p.n).toNat default :: st
 else if p.op = 4 then IntKind.wrap .i64 (k + p.n) :: st
 else if p.op = 5 then app p.k (st.getD 0 default) 0 :: st.drop 1
 else if p.op = 6 then app p.k (st.getD 1 default) (st.getD 0 default) :: st.drop 2
 else if p.op = 7 then (if ¬ st.getD 2 default = 0 then st.getD 1 default else st.getD 0 default) :: st.drop 3
 else sT (V p.v) (st.getD 1 default) (st.getD 0 default) :: st.drop 2
noncomputable def uW (V:Int→List Int) (k:Int):List ay→List Int→List Int
 | [],st=>st
 | p :: r,st=>uW V k r (nI V k p st)
noncomputable def lV (V:Int→List Int) (k:Int) (l:List ay) (i:Nat):List Int:=uW V k (l.take i) []
noncomputable def qM (V:Int→List Int) (k:Int) (l:List ay):Int:=(lV V k l l.length).getD 0 default
structure gE (s:ae) (V:Int→List Int) (v:Int):Prop where
 len:(V v).length = clN s v
 ok:∀ y∈V v,okI .i64 y
theorem rn (V:Int→List Int) (k:Int):∀ (l m:List ay) (st:List Int),uW V k (l ++ m) st = uW V k m (uW V k l st)
 | [],m,st=>rfl
 | s :: l,m,st=>by simp only [List.cons_append,uW];exact rn V k l m _
theorem ua (V:Int→List Int) (k:Int) (l:List ay) (i:Nat) (hi:i < l.length):lV V k l (i + 1) = nI V k (l.getD i default) (lV V k l i):=by
 unfold lV
 have:l.take (i + 1) = l.take i ++ [l.getD i default]:=by
  rw [List.take_succ,List.getElem?_eq_getElem hi]
  simp [List.getD,hi]
 rw [this,rn]
 rfl
theorem ub (V:Int→List Int) (k:Int) (l:List ay):lV V k l 0 = []:=rfl
theorem km (s:ae) (v:Int):1 ≤ clN s v:=by unfold clN eU;split <;> omega
theorem nt {s:ae} {v:Int} (h:nV s v > 0):(clN s v:Int) = nV s v:=by unfold clN eU;rw [iN (by omega)];omega
theorem qo {s:ae} {v:Int} (h:nV s v = 0):clN s v = 1:=by unfold clN eU;rw [iP (by omega)];rfl
theorem zY {s:ae} {V:Int→List Int} {n k:Int} {p:ay} {rs rs' st:List Int} (h:dd s n p rs = some rs') (hl:st.length = rs.length) (hp:okI .i64 p.n) (hV:(p.op = 2∨p.op = 3∨p.op = 8)→gE s V p.v) (hst:∀ y∈st,okI .i64 y) :
  (nI V k p st).length = rs'.length∧∀ y∈nI V k p st,okI .i64 y:=by
 unfold dd at h
 unfold nI
 have hd:∀ n,∀ y∈st.drop n,okI .i64 y:=fun n y hy=>hst y (List.mem_of_mem_drop hy)
 have cons:∀ {v:Int} {r:List Int},okI .i64 v→(∀ y∈r,okI .i64 y)→∀ y∈v :: r,okI .i64 y:=fun hv hr y hy=>by
  rcases List.mem_cons.1 hy with rfl | hy
  ·exact hv
  ·exact hr y hy
 by_cases o1:p.op = 1
 ·rw [iP o1] at h ⊢
  refine ⟨?_,cons hp hst⟩
  repeat' split at h
  all_goals first | (simp only [sJ] at h;subst h;simp;omega) | cases h
 rw [iN o1] at h ⊢
 by_cases o2:p.op = 2
 ·rw [iP o2] at h ⊢
  refine ⟨?_,cons (db (hV (.inl o2)).ok _) hst⟩
  split at h
  ·simp only [sJ] at h;subst h;simp;omega
  ·cases h
 rw [iN o2] at h ⊢
 by_cases o3:p.op = 3
 ·rw [iP o3] at h ⊢
  refine ⟨?_,cons (db (hV (.inr (.inl o3))).ok _) hst⟩
  split at h
  ·simp only [sJ] at h;subst h;simp;omega
  ·cases h
 rw [iN o3] at h ⊢
 by_cases o4:p.op = 4
 ·rw [iP o4] at h ⊢
  refine ⟨?_,cons (nq _) hst⟩
  split at h
  ·simp only [sJ] at h;subst h;simp;omega
  ·cases h
 rw [iN o4] at h ⊢
 by_cases o5:p.op = 5
 ·rw [iP o5] at h ⊢
  refine ⟨?_,cons (iK _ _ _ (db hst 0) om).2.2 (hd 1)⟩
  split at h
  ·split at h
   ·simp only [sJ] at h;subst h;simp at hl ⊢;omega
   ·cases h
  ·cases h
 rw [iN o5] at h ⊢
 by_cases o6:p.op = 6
 ·rw [iP o6] at h ⊢
  refine ⟨?_,cons (iK _ _ _ (db hst 1) (db hst 0)).2.2 (hd 2)⟩
  split at h
  ·split at h
   ·simp only [sJ] at h;subst h;simp at hl ⊢;omega
   ·cases h
  ·cases h
 rw [iN o6] at h ⊢
 by_cases o7:p.op = 7
 ·rw [iP o7] at h ⊢
  refine ⟨?_,cons (by split;exact db hst 1;exact db hst 0) (hd 3)⟩
  split at h
  ·split at h
   ·simp only [sJ] at h;subst h;simp at hl ⊢;omega
   ·cases h
  ·cases h
 rw [iN o7] at h ⊢
 by_cases o8:p.op = 8
 ·rw [iP o8] at h
  refine ⟨?_,cons (by unfold sT;split;exact db (hV (.inr (.inr o8))).ok _;exact db hst 0) (hd 2)⟩
  split at h
  ·split at h
   ·simp only [sJ] at h;subst h;simp at hl ⊢;omega
   ·cases h
  ·cases h
 ·rw [iN o8] at h;cases h
theorem qN (s:ae) (n:Int):∀ (a b:List ay) (rs:List Int),jf s n (a ++ b) rs = (jf s n a rs).bind (jf s n b)
 | [],b,rs=>rfl
 | p :: a,b,rs=>by
  rw [List.cons_append,jf,jf]
  cases dd s n p rs with
  | none=>rfl
  | some r=>exact qN s n a b r
theorem vT {s:ae} {V:Int→List Int} {n k:Int} {l:List ay} {fin:List Int} (hlo:∀ p∈l,okI .i64 p.n) (hV:∀ p∈l,(p.op = 2∨p.op = 3∨p.op = 8)→gE s V p.v) (h:jf s n l [] = some fin) :
  ∀ i,i ≤ l.length→∃ rs,jf s n (l.take i) [] = some rs∧(lV V k l i).length = rs.length∧rs.length ≤ i∧(∀ y∈lV V k l i,okI .i64 y)∧(i < l.length→∃ rs',dd s n (l.getD i default) rs = some rs'):=by
 have nxt:∀ i rs,i < l.length→jf s n (l.take i) [] = some rs→∃ rs',dd s n (l.getD i default) rs = some rs':=by
  intro i rs hi hrs
  have hsp:l = l.take i ++ (l.getD i default :: l.drop (i + 1)):=by
   have:l.drop i = l.getD i default :: l.drop (i + 1):=by
    rw [List.drop_eq_getElem_cons hi];simp [List.getD,hi]
   rw [← this,List.take_append_drop]
  rw [hsp,qN,hrs] at h
  simp only [bSq,jf] at h
  cases hn:dd s n (l.getD i default) rs with
  | none=>rw [hn] at h;cases h
  | some rs'=>exact ⟨rs',rfl⟩
 intro i
 induction i with
 | zero =>
  intro _
  refine ⟨[],rfl,rfl,Nat.le_refl _,fun y hy=>?_,fun hi=>nxt 0 [] hi rfl⟩
  rw [ub] at hy;simp at hy
 | succ i ih =>
  intro hi
  obtain ⟨rs,h1,h2,h3,h4,h5⟩:=ih (by omega)
  obtain ⟨rs',hn⟩:=h5 (by omega)
  have hm:l.getD i default∈l:=aS (by omega)
  obtain ⟨q1,q2⟩:=zY (V:=V) (k:=k) hn h2 (hlo _ hm) (hV _ hm) h4
  have htk:jf s n (l.take (i + 1)) [] = some rs':=by
   have:l.take (i + 1) = l.take i ++ [l.getD i default]:=by
    rw [List.take_succ,List.getElem?_eq_getElem (by omega)]
    simp [List.getD,(show i < l.length by omega)]
   rw [this,qN,h1]
   simp only [bSq,jf,hn]
  have hlen:rs'.length ≤ rs.length + 1:=by
   have:(nI V k (l.getD i default) (lV V k l i)).length ≤ (lV V k l i).length + 1:=by
    unfold nI
    repeat' split
    all_goals simp
    all_goals omega
   omega
  rw [ua V k l i (by omega)]
  exact ⟨rs',htk,q1,by omega,q2,fun hi'=>nxt (i + 1) rs' hi' htk⟩
def qO (l:List (List Int)) (v:Int):List Int:=l.getD v.toNat default
theorem iL (n:Nat) (h:n ≤ 1000000):dg n 8:=by
 unfold dg
 have:maxLen = 9223372036854775807:=rfl
 omega
theorem sU {s:ae} {n:Int} {e:List ay} (h:jY s n e ≠ 0):∃ x,jf s n e [] = some [x]:=by
 unfold jY at h
 split at h
 ·rename_i x hx;exact ⟨x,hx⟩
 ·exact absurd rfl h
theorem oL {s:ae} {V:Int→List Int} {n k:Int} {l:List ay} (hlo:∀ p∈l,okI .i64 p.n) (hV:∀ p∈l,(p.op = 2∨p.op = 3∨p.op = 8)→gE s V p.v) (h:jY s n l ≠ 0) :
  lV V k l l.length = [qM V k l]∧okI .i64 (qM V k l):=by
 obtain ⟨x,hx⟩:=sU h
 obtain ⟨rs,h1,h2,_,h4,_⟩:=vT (k:=k) hlo hV hx l.length (Nat.le_refl _)
 rw [List.take_length,hx] at h1
 simp only [sJ] at h1
 subst h1
 unfold qM
 match hs:lV V k l l.length,h2 with
 | [v],_ =>
  refine ⟨rfl,?_⟩
  rw [hs] at h4
  exact h4 v (by simp)
noncomputable def e9 (k : Int) : Int → List Int → List Int
  | _, [] => []
  | x, y :: r => app k x y :: e9 k (app k x y) r
theorem ii (k : Int) : ∀ (x : Int) (l : List Int), (e9 k x l).length = l.length
  | _, [] => rfl
  | x, y :: r => by simp [e9, ii k (app k x y) r]
theorem oq (k : Int) : ∀ (x : Int) (l : List Int), okI .i64 x → (∀ y ∈ l, okI .i64 y) → ∀ y ∈ e9 k x l, okI .i64 y
  | _, [], _, _, y, hy => by simp [e9] at hy
  | x, a :: r, hx, hl, y, hy => by
    have ha := (iK k x a hx (hl a (by simp))).2.2
    rw [e9] at hy
    rcases List.mem_cons.1 hy with rfl | hy
    · exact ha
    · exact oq k _ r ha (fun y h => hl y (by simp [h])) y hy
noncomputable def pG (k x : Int) (l : List Int) (i : Nat) : Int := (l.take i).foldl (app k) x
theorem uc (k x : Int) (l : List Int) (i : Nat) (h : i < l.length) : pG k x l (i + 1) = app k (pG k x l i) (l.getD i default) := by
  have e : l.take (i + 1) = l.take i ++ [l.getD i default] := by
    rw [List.take_succ, List.getElem?_eq_getElem h]
    simp [List.getD, h]
  unfold pG
  rw [e, List.foldl_append]
  rfl
theorem xK (k x : Int) (l : List Int) (hx : okI .i64 x) (hl : ∀ y ∈ l, okI .i64 y) : ∀ i, i ≤ l.length → okI .i64 (pG k x l i)
  | 0, _ => by unfold pG; simpa using hx
  | i + 1, h => by
    rw [uc k x l i (by omega)]
    exact (iK k _ _ (xK k x l hx hl i (by omega)) (hl _ (aS (by omega)))).2.2
theorem ud (k : Int) : ∀ (x : Int) (l : List Int) (i : Nat), i < l.length → (e9 k x l).getD i default = pG k x l (i + 1)
  | x, y :: r, 0, _ => by simp [e9, pG]
  | x, y :: r, i + 1, h => by
    have := ud k (app k x y) r i (by simpa using h)
    simp only [e9, List.getD_cons_succ]
    rw [this]
    simp [pG]
theorem w7 (k x : Int) (l : List Int) (i : Nat) (h : i < l.length) : (e9 k x l).take (i + 1) = (e9 k x l).take i ++ [pG k x l (i + 1)] := by
  have hl : i < (e9 k x l).length := by rw [ii]; exact h
  rw [List.take_succ, List.getElem?_eq_getElem hl]
  have := ud k x l i h
  simp only [List.getD, List.getElem?_eq_getElem hl, Option.getD_some] at this
  rw [← this]; rfl
def bV (r : af) (i : Nat) : Int := r.a.getD i default
noncomputable def ke (V : Int → List Int) (n : Nat) (e : List ay) : List Int := e7 n fun k => qM V (k : Int) e
noncomputable def ro (l : List Int) : List Int := l.drop (l.length - 1)
noncomputable def mg (s : ae) (V : Int → List Int) (kp : List Int) (r : af) : List Int :=
  if r.op = 1 then [r.n]
  else if r.op = 2 then V (bV r 0)
  else if r.op = 3 then e7 (clN s r.out_) fun i => app r.k ((V (bV r 0)).getD i default) 0
  else if r.op = 4 then e7 (clN s r.out_) fun i => app r.k ((V (bV r 0)).getD i default) ((V (bV r 1)).getD i default)
  else if r.op = 5 then (if (V (bV r 0)).getD 0 default = 0 then V (bV r 2) else V (bV r 1))
  else if r.op = 6 then ro (e9 r.k ((V (bV r 0)).getD 0 default) (V (bV r 1)))
  else if r.op = 7 then e9 r.k ((V (bV r 0)).getD 0 default) (V (bV r 1))
  else if r.op = 8 then e7 (clN s r.out_) fun _ => (V (bV r 0)).getD 0 default
  else if r.op = 9 then [sT (V (bV r 0)) ((V (bV r 1)).getD 0 default) ((V (bV r 2)).getD 0 default)]
  else if r.op = 10 then e7 (clN s r.out_) fun i => if (i : Int) = (V (bV r 1)).getD 0 default then (V (bV r 2)).getD 0 default else (V (bV r 0)).getD i default
  else if r.op = 11 then e7 (clN s r.out_) fun i => (V (bV r 0)).getD (i + r.n).toNat default
  else if r.op = 12 then V (bV r 0) ++ V (bV r 1)
  else if r.op = 14 then ke V (clN s r.out_) r.e
  else if r.op = 15 then ro (e9 r.k ((V (bV r 0)).getD 0 default) (ke V r.n.toNat r.e))
  else if r.op = 16 then e9 r.k ((V (bV r 0)).getD 0 default) (ke V (clN s r.out_) r.e)
  else if kp = [] then V (bV r 0) else kp
structure uX (s : ae) (V : Int → List Int) (kp : List Int) (r : af) : Prop where
  v : ew s
  g : iH s r
  ar : (r.a.length : Int) = aO r.op
  op : 1 ≤ r.op ∧ r.op ≤ 16
  sh : uV s r.op r.n (nV s r.out_) (nV s (bV r 0)) (nV s (bV r 1)) (nV s (bV r 2)) r.e
  n : okI .i64 r.n
  e : ∀ p ∈ r.e, okI .i64 p.n
  a : ∀ i, i < r.a.length → (r.op = 13 → i = 0) → gE s V (bV r i)
  p : 14 ≤ r.op → ∀ p ∈ r.e, (p.op = 2 ∨ p.op = 3 ∨ p.op = 8) → gE s V p.v
  k : kp = [] ∨ (kp.length = clN s r.out_ ∧ ∀ y ∈ kp, okI .i64 y)
theorem kf {s : ae} {v w : Int} (h : nV s v = nV s w) : clN s v = clN s w := by unfold clN; rw [h]
theorem pH {s : ae} (hv : ew s) {v : Int} (h : inV s v) : clN s v ≤ 300 := by
  have := aL hv h
  have := (t8 ⟨this.2.1, this.2.2⟩).2
  unfold clN nV
  omega
theorem lT (V : Int → List Int) (n : Nat) (e : List ay) : (ke V n e).length = n := jg _ _
theorem ue {l : List Int} (h : 0 < l.length) : (ro l).length = 1 := by unfold ro; rw [List.length_drop]; omega
theorem uf {l : List Int} {y : Int} (h : y ∈ ro l) : y ∈ l := List.mem_of_mem_drop h
theorem ko {n : Nat} {g : Nat → Int} (h : ∀ i, i < n → okI .i64 (g i)) : ∀ y ∈ e7 n g, okI .i64 y := by
  intro y hy
  unfold e7 at hy
  obtain ⟨i, hi, rfl⟩ := List.mem_map.1 hy
  exact h i (List.mem_range.1 hi)
theorem zZ {l : List Int} {a o : Int} (h : ∀ y ∈ l, okI .i64 y) (ho : okI .i64 o) : okI .i64 (sT l a o) := by
  unfold sT
  split
  · exact db h _
  · exact ho
theorem z6 {s : ae} {V : Int → List Int} {kp : List Int} {r : af} (h : uX s V kp r) : (mg s V kp r).length = clN s r.out_ ∧ ∀ y ∈ mg s V kp r, okI .i64 y := by
  have hop := h.op
  have har := h.ar
  have hcs : r.op = 1 ∨ r.op = 2 ∨ r.op = 3 ∨ r.op = 4 ∨ r.op = 5 ∨ r.op = 6 ∨ r.op = 7 ∨ r.op = 8 ∨ r.op = 9 ∨ r.op = 10 ∨ r.op = 11 ∨ r.op = 12 ∨ r.op = 13 ∨ r.op = 14 ∨ r.op = 15 ∨ r.op = 16 := by omega
  have E : ∀ i, i < r.a.length → (r.op = 13 → i = 0) → gE s V (bV r i) := h.a
  have hc := km s r.out_
  rcases hcs with o | o | o | o | o | o | o | o | o | o | o | o | o | o | o | o <;> (rw [o] at har; simp only [mg, o, Int.reduceEq, if_true, if_false, reduceIte])
  · exact ⟨(qo (h.sh.h1 o)).symm, fun y hy => by rw [List.mem_singleton] at hy; rw [hy]; exact h.n⟩
  · have e0 := E 0 (by have : aO 2 = 1 := by decide
                       omega) (fun h => by omega)
    exact ⟨by rw [e0.len]; exact kf (h.sh.h2 o), e0.ok⟩
  · have e0 := E 0 (by have : aO 3 = 1 := by decide
                       omega) (fun h => by omega)
    exact ⟨jg _ _, ko fun i _ => (iK _ _ _ (db e0.ok i) om).2.2⟩
  · have hp : aO 4 = 2 := by decide
    have e0 := E 0 (by omega) (fun h => by omega)
    have e1 := E 1 (by omega) (fun h => by omega)
    exact ⟨jg _ _, ko fun i _ => (iK _ _ _ (db e0.ok i) (db e1.ok i)).2.2⟩
  · have hp : aO 5 = 3 := by decide
    have e1 := E 1 (by omega) (fun h => by omega)
    have e2 := E 2 (by omega) (fun h => by omega)
    obtain ⟨_, q1, q2⟩ := h.sh.h5 o
    split
    · exact ⟨by rw [e2.len]; exact kf q2, e2.ok⟩
    · exact ⟨by rw [e1.len]; exact kf q1, e1.ok⟩
  · have hp : aO 6 = 2 := by decide
    have e0 := E 0 (by omega) (fun h => by omega)
    have e1 := E 1 (by omega) (fun h => by omega)
    obtain ⟨_, q1, q2⟩ := h.sh.h6 o
    have := km s (bV r 1)
    exact ⟨by rw [ue (by rw [ii, e1.len]; omega), qo q1], fun y hy => oq _ _ _ (db e0.ok 0) e1.ok y (uf hy)⟩
  · have hp : aO 7 = 2 := by decide
    have e0 := E 0 (by omega) (fun h => by omega)
    have e1 := E 1 (by omega) (fun h => by omega)
    obtain ⟨_, q1, q2⟩ := h.sh.h7 o
    exact ⟨by rw [ii, e1.len]; exact kf q1, fun y hy => oq _ _ _ (db e0.ok 0) e1.ok y hy⟩
  · have hp : aO 8 = 1 := by decide
    have e0 := E 0 (by omega) (fun h => by omega)
    exact ⟨jg _ _, ko fun i _ => db e0.ok 0⟩
  · have hp : aO 9 = 3 := by decide
    have e0 := E 0 (by omega) (fun h => by omega)
    have e2 := E 2 (by omega) (fun h => by omega)
    obtain ⟨_, _, _, q⟩ := h.sh.h9 o
    exact ⟨(qo q).symm, fun y hy => by rw [List.mem_singleton] at hy; rw [hy]; exact zZ e0.ok (db e2.ok 0)⟩
  · have hp : aO 10 = 3 := by decide
    have e0 := E 0 (by omega) (fun h => by omega)
    have e2 := E 2 (by omega) (fun h => by omega)
    exact ⟨jg _ _, ko fun i _ => by split; exact db e2.ok 0; exact db e0.ok i⟩
  · have hp : aO 11 = 1 := by decide
    have e0 := E 0 (by omega) (fun h => by omega)
    exact ⟨jg _ _, ko fun i _ => db e0.ok _⟩
  · have hp : aO 12 = 2 := by decide
    have e0 := E 0 (by omega) (fun h => by omega)
    have e1 := E 1 (by omega) (fun h => by omega)
    obtain ⟨q1, q2, q3⟩ := h.sh.h12 o
    refine ⟨?_, fun y hy => ?_⟩
    · rw [List.length_append, e0.len, e1.len]
      have a1 := nt q1
      have a2 := nt q2
      have a3 := nt (s := s) (v := r.out_) (by omega)
      omega
    · rcases List.mem_append.1 hy with hy | hy
      · exact e0.ok y hy
      · exact e1.ok y hy
  · have hp : aO 13 = 2 := by decide
    have e0 := E 0 (by omega) (fun _ => rfl)
    obtain ⟨q1, q2⟩ := h.sh.h13 o
    rcases h.k with hk | hk
    · rw [iP hk]; exact ⟨by rw [e0.len]; exact kf q1, e0.ok⟩
    · by_cases z : kp = []
      · rw [iP z]; exact ⟨by rw [e0.len]; exact kf q1, e0.ok⟩
      · rw [iN z]; exact hk
  · have q := h.sh.h14 o
    exact ⟨lT _ _ _, ko fun i _ => (oL h.e (h.p (by omega)) q).2⟩
  · have hp : aO 15 = 1 := by decide
    have e0 := E 0 (by omega) (fun h => by omega)
    obtain ⟨_, q1, q2, q3, q4⟩ := h.sh.h15 o
    exact ⟨by rw [ue (by rw [ii, lT]; omega), qo q1], fun y hy => oq _ _ _ (db e0.ok 0) (ko fun i _ => (oL h.e (h.p (by omega)) q4).2) y (uf hy)⟩
  · have hp : aO 16 = 1 := by decide
    have e0 := E 0 (by omega) (fun h => by omega)
    obtain ⟨_, q1, q2⟩ := h.sh.h16 o
    exact ⟨by rw [ii, lT], fun y hy => oq _ _ _ (db e0.ok 0) (ko fun i _ => (oL h.e (h.p (by omega)) q2).2) y hy⟩
section
variable {s:ae} {L:List (List Int)} {M:List (Int×List Int)} {kp:List Int} {r:af} (p4 p5:List Int) (p6:List af)
end
end Pam
namespace Pam
open Go
def rl (s:ae) (i:Nat):af:=s.rules.getD i default
inductive Nd (s:ae):Nat→Prop
 | base (i:Nat) (hi:i < s.rules.length) (h:(rl s i).out_∈s.out_):Nd s i
 | step (i k:Nat) (hi:i < s.rules.length) (hk:Nd s k) (h:(rl s i).out_∈b9 (rl s k)):Nd s i
theorem Nd.lt {s:ae} {i:Nat} (h:Nd s i):i < s.rules.length:=by cases h <;> assumption
def Fl (s:ae) (l:List Bool):Prop:=l.length = s.rules.length∧∀ i,i < s.rules.length→(l.getD i default = true↔Nd s i)
abbrev fl (l:List Bool) (i:Nat):Prop:=l.getD i default = true
def clo (s:ae) (l:List Bool):Prop:=∀ i,i < s.rules.length→((rl s i).out_∈s.out_∨∃ k,k < s.rules.length∧fl l k∧(rl s i).out_∈b9 (rl s k))→fl l i
theorem Fl.of {s:ae} {l:List Bool} (hl:l.length = s.rules.length) (h:∀ i,i < s.rules.length→fl l i→Nd s i) (hc:clo s l):Fl s l:=by
 refine ⟨hl,fun i hi=>⟨h i hi,fun hn=>?_⟩⟩
 clear hi
 induction hn with
 | base i hi h=>exact hc i hi (.inl h)
 | step i k hi hk h ih=>exact hc i hi (.inr ⟨k,hk.lt,ih,h⟩)
theorem qP {l:List Bool} {i:Nat} (hi:i < l.length) (j:Nat):fl (l.set i true) j↔(j = i∨fl l j):=by
 unfold fl
 rw [List.getD_eq_getElem?_getD,List.getD_eq_getElem?_getD,List.getElem?_set]
 by_cases e:i = j
 ·subst e;simp [hi]
 ·rw [iN e]
  constructor
  ·intro h;exact .inr h
  ·rintro (h | h)
   ·exact absurd h.symm e
   ·exact h
theorem xL:∀ {l:List Bool} {i:Nat},i < l.length→¬ fl l i→(l.set i true).count false + 1 = l.count false
 | [],i,h,_=>by simp at h
 | b :: l,0,_,h=>by
  have:b = false:=by unfold fl at h;simpa using h
  subst this
  simp
 | b :: l,i + 1,h,hf=>by
  have ih:=xL (l:=l) (i:=i) (by simpa using h) (by unfold fl at hf ⊢;simpa using hf)
  rw [List.set_cons_succ,List.count_cons,List.count_cons]
  omega
theorem sV {s:ae} (g:dM s) {i j:Nat} (hj:j < s.rules.length) (hij:i < j):(rl s i).out_ ≠ (rl s j).out_:=by
 have:=(iI (g.r j hj)).2.2.2.1
 intro e
 apply this
 rw [List.contains_iff_mem]
 unfold bt
 rw [List.mem_append]
 right
 rw [List.mem_map]
 refine ⟨s.rules.getD i default,?_,e⟩
 rw [List.mem_iff_getElem?]
 refine ⟨i,?_⟩
 rw [List.getElem?_take_of_lt hij]
 simp [List.getD,show i < s.rules.length by omega]
theorem B1 {s:ae} (g:dM s) {i:Nat} (hi:i < s.rules.length):0 ≤ (rl s i).out_∧(rl s i).out_ < 400:=by
 have:=(iI (g.r i hi)).1.o
 have hn:=g.h.nv
 unfold inV at this
 unfold rl
 omega
def byM (s:ae):Nat→List (Int×Int)
 | 0=>[]
 | i + 1=>((rl s i).out_,(i:Int)) :: byM s i
theorem xM (s:ae):∀ i,(byM s i).length = i
 | 0=>rfl
 | i + 1=>by unfold byM;rw [List.length_cons,xM s i]
theorem vU {s:ae} {v:Int}:∀ {i:Nat},dK (byM s i) v = none→∀ k,k < i→(rl s k).out_ ≠ v
 | 0,_,k,hk=>by omega
 | i + 1,h,k,hk=>by
  unfold byM dK at h
  by_cases e:(rl s i).out_ = v
  ·rw [iP e] at h;cases h
  ·rw [iN e] at h
   by_cases e2:k = i
   ·rw [e2];exact e
   ·exact vU h k (by omega)
theorem vV {s:ae} {v x:Int}:∀ {i:Nat},dK (byM s i) v = some x→∃ k:Nat,k < i∧x = (k:Int)∧(rl s k).out_ = v
 | 0,h=>by cases h
 | i + 1,h=>by
  unfold byM dK at h
  by_cases e:(rl s i).out_ = v
  ·rw [iP e] at h
   simp only [sJ] at h
   exact ⟨i,by omega,h.symm,e⟩
  ·rw [iN e] at h
   obtain ⟨k,h1,h2⟩:=vV h
   exact ⟨k,by omega,h2⟩
theorem xN {s:ae} (g:dM s):∀ (k i:Nat),i + k = s.rules.length→aZ (fun (x:List (Int×Int)×Int)=>dD s x.1 x.2) (byM s i,(i:Int)) = some (byM s s.rules.length)
 | 0,i,hi=>by
  obtain rfl:i = s.rules.length:=by omega
  refine cB ?_
  show dD s _ _ = _
  unfold dD
  rw [iN (bm _)]
 | k + 1,i,hi=>by
  have hil:i < s.rules.length:=by omega
  have ho:=B1 g hil
  have hn:=g.h.nr
  have hb:=xM s i
  unfold rl at ho
  have h:dD s (byM s i) (i:Int) = some (.inl (byM s (i + 1),((i + 1:Nat):Int))):=by
   unfold dD
   rw [iP (ltI hil),iP (inI hil)]
   simp only [tN]
   rw [iP ⟨by omega,by omega⟩,wrs i (by omega)]
   rfl
  rw [cH (s:=(byM s i,(i:Int))) h]
  exact xN g k (i + 1) (by omega)
structure WI (s:ae) (l:List Bool) (row:List Int):Prop where
 len:l.length = s.rules.length
 snd:∀ i,i < s.rules.length→fl l i→Nd s i
 rowp:∀ v∈row,v∈s.out_∨∃ k,k < s.rules.length∧fl l k∧v∈b9 (rl s k)
 cou:∀ i,i < s.rules.length→(rl s i).out_∈s.out_→fl l i∨(rl s i).out_∈row
 cus:∀ k,k < s.rules.length→fl l k→∀ i,i < s.rules.length→(rl s i).out_∈b9 (rl s k)→fl l i∨(rl s i).out_∈row
theorem pI {s:ae} (g:dM s) {k:Nat} (hk:k < s.rules.length):(b9 (rl s k)).length ≤ 27∧(rl s k).a.length ≤ 3∧(rl s k).e.length ≤ 24∧∀ x∈b9 (rl s k),0 ≤ x∧x < 400:=by
 have h:=iI (g.r k hk)
 have h1:=oH (s.rules.getD k default)
 have h2:=h.1.e
 have h3:=h.2.2.1
 have hn:=g.h.nv
 refine ⟨by unfold rl;omega,h3,h2,fun x hx=>?_⟩
 have:=h.2.1 x hx
 unfold inV at this
 omega
theorem yH {s:ae} (g:dM s) {k:Nat} (hk:k < s.rules.length) (l22:List Bool) (l23:List Int) (M:List (Int×Int)) (hm:((dK M (l23.getD 0 default)).getD 0).toNat = k) (hr:l23.length ≤ 100000) (hl:0 < l23.length) :
  (if (s.rules.getD k default).op < 14 then dC s M l22 l23 [] else dC s M l22 l23 ((s.rules.getD k default).e)) = some (.inl (l22.set k true,(l23 ++ b9 (rl s k)).drop 1)):=by
 have hu:=pI g hk
 have key:∀ e:List ay,e.length ≤ 24→jj (rl s k).a e = b9 (rl s k)→dC s M l22 l23 e = some (.inl (l22.set k true,(l23 ++ b9 (rl s k)).drop 1)):=by
  intro e he hue
  unfold dC
  rw [hm]
  have h1:=pE (af.mk (s.rules.getD k default).op (s.rules.getD k default).k (s.rules.getD k default).out_ (s.rules.getD k default).n (s.rules.getD k default).a e) (by have:=hu.2.1;unfold rl at this;show (s.rules.getD k default).a.length ≤ 500000;omega) (by show e.length ≤ 500000;omega)
  rw [h1]
  simp only [bSq]
  have h2:jj (s.rules.getD k default).a e = b9 (rl s k):=hue
  rw [h2,iP (mf (by omega) (by omega)),iP (by omega)]
 unfold rl at hu key ⊢
 by_cases c:(s.rules.getD k default).op < 14
 ·rw [iP c]
  exact key [] (by simp) (by unfold b9;rw [iP c])
 ·rw [iN c]
  exact key _ hu.2.2.1 (by unfold b9;rw [iN c])
theorem qQ {s:ae} (g:dM s):∀ (m:Nat) (l:List Bool) (row:List Int),row.length + 28 * l.count false ≤ m→m ≤ 90000→WI s l row →
  ∃ l',aZ (fun (x:List Bool×List Int)=>cw s (byM s s.rules.length) x.1 x.2) (l,row) = some l'∧Fl s l'
 | m,l,[],hm,hM,h=>by
  refine ⟨l,cB ?_,Fl.of h.len h.snd fun i hi hh=>?_⟩
  ·show cw s _ l [] = _
   unfold cw
   rw [iN (by simp)]
  ·rcases hh with hh | ⟨k,hk,hf,hu⟩
   ·rcases h.cou i hi hh with h1 | h1
    ·exact h1
    ·simp at h1
   ·rcases h.cus k hk hf i hi hu with h1 | h1
    ·exact h1
    ·simp at h1
 | m,l,v :: row,hm,hM,h=>by
  have hv:0 ≤ v∧v < 400:=by
   rcases h.rowp v (by simp) with h1 | ⟨k,hk,_,h1⟩
   ·have:=g.h.o v h1
    have hn:=g.h.nv
    unfold inV at this
    omega
   ·exact (pI g hk).2.2.2 v h1
  have hlen:=h.len
  have hnr:=g.h.nr
  simp only [List.length_cons] at hm
  have drop:(∀ i,i < s.rules.length→(rl s i).out_ = v→fl l i)→cw s (byM s s.rules.length) l (v :: row) = some (.inl (l,row)) →
    ∃ l',aZ (fun (x:List Bool×List Int)=>cw s (byM s s.rules.length) x.1 x.2) (l,v :: row) = some l'∧Fl s l':=by
   intro hfl hst
   rw [cH (s:=(l,v :: row)) hst]
   match m with
   | 0=>omega
   | m + 1 =>
    refine qQ g m l row (by omega) (by omega) ⟨h.len,h.snd,fun x hx=>h.rowp x (by simp [hx]),fun i hi ho=>?_,fun k hk hf i hi ho=>?_⟩
    ·rcases h.cou i hi ho with h1 | h1
     ·exact .inl h1
     ·rw [List.mem_cons] at h1
      rcases h1 with h1 | h1
      ·exact .inl (hfl i hi h1)
      ·exact .inr h1
    ·rcases h.cus k hk hf i hi ho with h1 | h1
     ·exact .inl h1
     ·rw [List.mem_cons] at h1
      rcases h1 with h1 | h1
      ·exact .inl (hfl i hi h1)
      ·exact .inr h1
  have hd:((v :: row).getD 0 default) = v:=rfl
  cases hmg:dK (byM s s.rules.length) v with
  | none =>
   refine drop (fun i hi e=>absurd e (vU hmg i hi)) ?_
   unfold cw
   rw [hd,iP (by simp),iP ⟨by simp,by omega⟩,hmg,iN (by simp),iP (by simp only [List.length_cons];omega)]
   rfl
  | some x =>
   obtain ⟨k,hk,rfl,hout⟩:=vV hmg
   have huniq:∀ i,i < s.rules.length→(rl s i).out_ = v→i = k:=by
    intro i hi e
    rcases Nat.lt_trichotomy i k with c | c | c
    ·exact absurd (e.trans hout.symm) (sV g hk c)
    ·exact c
    ·exact absurd (hout.trans e.symm) (sV g hi c)
   by_cases hf:fl l k
   ·refine drop (fun i hi e=>by rw [huniq i hi e];exact hf) ?_
    unfold cw
    rw [hd,iP (by simp),iP ⟨by simp,by omega⟩,hmg,iP (show (some (k:Int)).isSome = true from rfl)]
    simp only [Option.getD_some,tN]
    rw [iP (by omega),iP (show l.getD k default = true from hf),iP (by simp only [List.length_cons];omega)]
    rfl
   ·have hcnt:=xL (l:=l) (i:=k) (by omega) hf
    have hst:cw s (byM s s.rules.length) l (v :: row) = some (.inl (l.set k true,row ++ b9 (rl s k))):=by
     have hu:=yH g hk l (v :: row) (byM s s.rules.length) (by rw [hd,hmg];simp) (by simp;omega) (by simp)
     unfold cw
     rw [hd,iP (by simp),iP ⟨by simp,by omega⟩,hmg,iP (show (some (k:Int)).isSome = true from rfl)]
     simp only [Option.getD_some,tN]
     rw [iP (by omega),iN (show ¬ l.getD k default = true from hf),iP (by omega),hu]
     rfl
    rw [cH (s:=(l,v :: row)) hst]
    have hu:=pI g hk
    have hkl:k < l.length:=by omega
    match m with
    | 0=>omega
    | m + 1 =>
     refine qQ g m _ _ (by rw [List.length_append];omega) (by omega) ⟨by rw [List.length_set];exact h.len,fun i hi hfi=>?_,fun x hx=>?_,fun i hi ho=>?_,fun q hq hfq i hi ho=>?_⟩
     ·rw [qP hkl] at hfi
      rcases hfi with e | hfi
      ·rw [e]
       rcases h.rowp v (by simp) with h1 | ⟨q,hq,hfq,h1⟩
       ·exact .base k hk (by rw [hout];exact h1)
       ·exact .step k q hk (h.snd q hq hfq) (by rw [hout];exact h1)
      ·exact h.snd i hi hfi
     ·rw [List.mem_append] at hx
      rcases hx with hx | hx
      ·rcases h.rowp x (by simp [hx]) with h1 | ⟨q,hq,hfq,h1⟩
       ·exact .inl h1
       ·exact .inr ⟨q,hq,(qP hkl q).2 (.inr hfq),h1⟩
      ·exact .inr ⟨k,hk,(qP hkl k).2 (.inl rfl),hx⟩
     ·rw [qP hkl,List.mem_append]
      rcases h.cou i hi ho with h1 | h1
      ·exact .inl (.inr h1)
      ·rw [List.mem_cons] at h1
       rcases h1 with h1 | h1
       ·exact .inl (.inl (huniq i hi h1))
       ·exact .inr (.inl h1)
     ·rw [qP hkl,List.mem_append]
      rw [qP hkl] at hfq
      rcases hfq with e | hfq
      ·subst e;exact .inr (.inr ho)
      ·rcases h.cus q hq hfq i hi ho with h1 | h1
       ·exact .inl (.inr h1)
       ·rw [List.mem_cons] at h1
        rcases h1 with h1 | h1
        ·exact .inl (.inl (huniq i hi h1))
        ·exact .inr (.inl h1)
theorem z8 (n i:Nat):¬ fl (List.replicate n false) i:=by
 unfold fl
 rw [List.getD_eq_getElem?_getD,List.getElem?_replicate]
 split <;> simp
theorem yI (s:ae):∃ r,kz s = some r∧((¬ (cU s).code = 0∧r = ([],cU s))∨((cU s).code = 0∧∃ l,r = (l,aw.mk 0 0)∧Fl s l)):=by
 unfold kz
 rw [vJ]
 simp only [bSq]
 by_cases c:(cU s).code = 0
 ·rw [iN (not_not_intro c)]
  obtain ⟨g,_⟩:=fZ c
  have hnr:=g.h.nr
  have hno:=g.h.no
  show ∃ r,(aZ (fun (x:List (Int×Int)×Int)=>dD s x.1 x.2) (byM s 0,((0:Nat):Int))).bind _ = _∧_
  rw [xN g s.rules.length 0 (by omega)]
  simp only [bSq]
  unfold gu
  rw [iP ⟨by omega,mf (by omega) (by omega)⟩,oK _ (by omega)]
  simp only [bSq]
  obtain ⟨l,e,hl⟩:=qQ g (s.out_.length + 28 * (List.replicate s.rules.length false).count false) (List.replicate s.rules.length false) s.out_ (Nat.le_refl _) (by rw [List.count_replicate_self];omega)
   ⟨by simp,fun i hi hf=>absurd hf (z8 _ _),fun v hv=>.inl hv,fun i hi ho=>.inr ho,fun k hk hf=>absurd hf (z8 _ _)⟩
  show ∃ r,(aZ (fun (x:List Bool×List Int)=>cw s (byM s s.rules.length) x.1 x.2) (List.replicate s.rules.length false,s.out_)).bind _ = _∧_
  rw [e]
  exact ⟨_,rfl,.inr ⟨c,l,rfl,hl⟩⟩
 ·rw [iP c]
  exact ⟨_,rfl,.inl ⟨c,rfl⟩⟩
def pk (s:ae) (l:List Bool):Nat→List af
 | 0=>[]
 | i + 1=>if l.getD i default = true then pk s l i ++ [rl s i] else pk s l i
theorem rJ (s:ae) (l:List Bool) (i:Nat):pk s l (i + 1) = if l.getD i default = true then pk s l i ++ [rl s i] else pk s l i:=rfl
theorem uY (s:ae) (l:List Bool):∀ i,(pk s l i).length ≤ i
 | 0=>Nat.le_refl _
 | i + 1=>by
  have:=uY s l i
  unfold pk
  split
  ·simp;omega
  ·omega
theorem uZ {s:ae} {l:List Bool}:∀ {i:Nat},i ≤ s.rules.length→∀ r∈pk s l i,r∈s.rules
 | 0,_,r,h=>by simp [pk] at h
 | i + 1,hi,r,h=>by
  unfold pk at h
  split at h
  ·rw [List.mem_append,List.mem_singleton] at h
   rcases h with h | rfl
   ·exact uZ (by omega) r h
   ·exact aS (by omega)
  ·exact uZ (by omega) r h
theorem ug {s:ae} (hg:lR s 150) {l:List Bool} {f:aw} (hl:l.length = s.rules.length):∀ (k i:Nat),i + k = s.rules.length →
  aZ (fun (x:List af×Int)=>eR s (l,f) x.1 x.2) (pk s l i,(i:Int)) = some (pk s l s.rules.length)
 | 0,i,hi=>by
  obtain rfl:i = s.rules.length:=by omega
  refine cB ?_
  show eR s (l,f) _ _ = _
  unfold eR
  rw [iN (bm _)]
 | k + 1,i,hi=>by
  have hil:i < s.rules.length:=by omega
  have hr:=hg.r _ (aS hil)
  have hpl:=uY s l i
  have hnr:=hg.nr
  have h:eR s (l,f) (pk s l i) (i:Int) = some (.inl (pk s l (i + 1),((i + 1:Nat):Int))):=by
   unfold eR
   rw [iP (ltI hil),iP (inI hil),wrs i (by omega)]
   simp only [tN]
   rw [iP (by omega),B0 _ (by omega) (by omega)]
   simp only [bSq]
   rw [iP (mf (by omega) (by omega))]
   rw [rJ]
   split <;> rfl
  rw [cH (s:=(pk s l i,(i:Int))) h]
  exact ug hg hl k (i + 1) (by omega)
def ef (s:ae) (l:List Bool):ae:=ae.mk s.vars s.in_ s.out_ (pk s l s.rules.length)
theorem rp {s:ae} (hg:lR s 150) (l:List Bool):lR (ef s l) 150 :=
 ⟨hg.nv,Nat.le_trans (uY s l _) hg.nr,hg.ni,hg.no,fun r hr=>hg.r r (uZ (Nat.le_refl _) r hr)⟩
theorem u3 {s:ae} (hg:lR s 150):∃ r,jr s = some r∧((¬ (cU s).code = 0∧r = (ae.mk [] [] [] [],cU s))∨((cU s).code = 0∧∃ l,r = (ef s l,aw.mk 0 0)∧Fl s l)):=by
 obtain ⟨r,e,h⟩:=yI s
 unfold jr
 rw [e]
 simp only [bSq]
 rcases h with ⟨c,rfl⟩ | ⟨c,l,rfl,hl⟩
 ·rw [iP c]
  exact ⟨_,rfl,.inl ⟨c,rfl⟩⟩
 ·have h1:=hg.nv
  have h2:=hg.ni
  have h3:=hg.no
  rw [iN (by simp)]
  unfold dh
  rw [t7 s.vars 16 (by omega) (by omega),oK _ (by omega),oK _ (by omega)]
  simp only [bSq]
  show ∃ r,(aZ (fun (x:List af×Int)=>eR s (l,aw.mk 0 0) x.1 x.2) (pk s l 0,((0:Nat):Int))).bind _ = _∧_
  rw [ug hg hl.1 s.rules.length 0 (by omega)]
  exact ⟨_,rfl,.inr ⟨c,l,rfl,hl⟩⟩
def s0D:ae:=ae.mk (lit ([(ao.mk 105 0),(ao.mk 105 0)]:List ao)) [] (lit ([0]:List Int)) (lit ([(af.mk 1 0 0 1 [] []),(af.mk 2 0 1 0 (lit ([0]:List Int)) [])]:List af))
theorem Aa:aD s0D (af.mk 1 0 0 1 [] []) = some true:=by
 rw [cP (by decide) (by decide) (by decide)]
 unfold aE
 rfl
theorem Ab:aD s0D (af.mk 2 0 1 0 (lit ([0]:List Int)) []) = some true:=by
 rw [cP (by decide) (by decide) (by decide)]
 unfold aE
 rw [bB]
 simp only [bSq]
 rfl
theorem yJ:cU s0D = aw.mk 0 0:=by
 refine sP (by rfl) (fun i hi=>?_) (fun i hi=>?_) (by decide)
 ·have:i = 0∨i = 1:=by have:s0D.rules.length = 2:=rfl;omega
  rcases this with rfl | rfl
  ·exact vS (r:=af.mk 1 0 0 1 [] []) (by decide) (by decide) (by decide) (by decide) (by decide) Aa
  ·exact vS (r:=af.mk 2 0 1 0 (lit ([0]:List Int)) []) (by decide) (by decide) (by decide) (by decide) (by decide) Ab
 ·have:i = 0∨i = 1:=by have:s0D.rules.length = 2:=rfl;omega
  rcases this with rfl | rfl <;> decide
theorem yK:lR s0D 150:=⟨by decide,by decide,by decide,by decide,by
 intro r hr
 have:r∈[(af.mk 1 0 0 1 [] []),(af.mk 2 0 1 0 (lit ([0]:List Int)) [])]:=hr
 simp only [List.mem_cons,List.not_mem_nil,or_false] at this
 rcases this with rfl | rfl <;> simp [lit]⟩
theorem CU:¬ Nd s0D 1:=by
 have key:∀ i,Nd s0D i→i ≠ 1:=by
  intro i h
  induction h with
  | base i hi h=>rintro rfl;revert h;decide
  | step i k hi hk h ih =>
   rintro rfl
   have hkl:=hk.lt
   have:k = 0:=by have:s0D.rules.length = 2:=rfl;omega
   subst this
   revert h
   decide
 exact fun h=>key 1 h rfl
theorem sW:i8 = some true:=by
 obtain ⟨r,e,h⟩:=u3 yK
 unfold i8
 show (jr s0D).bind _ = _
 rw [e]
 simp only [bSq]
 rcases h with ⟨c,_⟩ | ⟨c,l,rfl,hl⟩
 ·rw [yJ] at c;exact absurd rfl c
 ·have f0:l.getD 0 default = true:=(hl.2 0 (by decide)).2 (.base 0 (by decide) (by decide))
  have f1:¬ l.getD 1 default = true:=fun h=>CU ((hl.2 1 (by decide)).1 h)
  have ep:pk s0D l s0D.rules.length = [rl s0D 0]:=by
   show pk s0D l 2 = _
   rw [rJ,iN f1,rJ,iP f0]
   rfl
  have er:(ef s0D l).rules = [rl s0D 0]:=ep
  rw [iP rfl]
  simp only [er]
  rfl
theorem vW {V V' : Int → List Int} {k : Int} {p : ay} {st : List Int} (hop : p.op = 2 ∨ p.op = 3 ∨ ¬ (1 ≤ p.op ∧ p.op ≤ 7) → V p.v = V' p.v) : nI V k p st = nI V' k p st := by
  unfold nI
  by_cases o1 : p.op = 1
  · rw [iP o1, iP o1]
  rw [iN o1, iN o1]
  by_cases o2 : p.op = 2
  · rw [iP o2, iP o2, hop (.inl o2)]
  rw [iN o2, iN o2]
  by_cases o3 : p.op = 3
  · rw [iP o3, iP o3, hop (.inr (.inl o3))]
  rw [iN o3, iN o3]
  by_cases o4 : p.op = 4
  · rw [iP o4, iP o4]
  rw [iN o4, iN o4]
  by_cases o5 : p.op = 5
  · rw [iP o5, iP o5]
  rw [iN o5, iN o5]
  by_cases o6 : p.op = 6
  · rw [iP o6, iP o6]
  rw [iN o6, iN o6]
  by_cases o7 : p.op = 7
  · rw [iP o7, iP o7]
  rw [iN o7, iN o7, hop (.inr (.inr (by omega)))]
theorem sX {V V' : Int → List Int} {k : Int} : ∀ {l : List ay} {st : List Int}, (∀ p ∈ l, p.op = 2 ∨ p.op = 3 ∨ ¬ (1 ≤ p.op ∧ p.op ≤ 7) → V p.v = V' p.v) → uW V k l st = uW V' k l st
  | [], st, _ => rfl
  | p :: l, st, h => by
    unfold uW
    rw [vW (h p (by simp))]
    exact sX fun q hq => h q (by simp [hq])
theorem w8 {V V' : Int → List Int} {k : Int} {l : List ay} (h : ∀ p ∈ l, p.op = 2 ∨ p.op = 3 ∨ ¬ (1 ≤ p.op ∧ p.op ≤ 7) → V p.v = V' p.v) : qM V k l = qM V' k l := by
  unfold qM lV
  rw [sX fun p hp => h p (List.mem_of_mem_take hp)]
theorem A7 {s : ae} {n : Int} {p : ay} {rs rs' : List Int} (h : dd s n p rs = some rs') : 1 ≤ p.op ∧ p.op ≤ 8 := by
  unfold dd at h
  by_cases hc : 1 ≤ p.op ∧ p.op ≤ 8
  · exact hc
  · rw [iN (by omega), iN (by omega), iN (by omega), iN (by omega), iN (by omega), iN (by omega), iN (by omega), iN (by omega)] at h
    cases h
theorem vX {s : ae} {n : Int} : ∀ {l : List ay} {rs rs' : List Int}, jf s n l rs = some rs' → ∀ p ∈ l, 1 ≤ p.op ∧ p.op ≤ 8
  | [], _, _, _, p, hp => by simp at hp
  | q :: l, rs, rs', h, p, hp => by
    unfold jf at h
    cases hn : dd s n q rs with
    | none => rw [hn] at h; cases h
    | some r =>
      rw [hn] at h
      rcases List.mem_cons.1 hp with rfl | hp
      · exact A7 hn
      · exact vX h p hp
theorem tw {s : ae} {r : af} {a b c : Int} {o : Int} (sh : uV s r.op r.n o a b c r.e) (ho : 14 ≤ r.op ∧ r.op ≤ 16) : ∀ p ∈ r.e, 1 ≤ p.op ∧ p.op ≤ 8 := by
  have key : ∀ n, jY s n r.e ≠ 0 → ∀ p ∈ r.e, 1 ≤ p.op ∧ p.op ≤ 8 := fun n h => by
    obtain ⟨x, hx⟩ := sU h
    exact vX hx
  rcases (show r.op = 14 ∨ r.op = 15 ∨ r.op = 16 by omega) with o | o | o
  · exact key _ (sh.h14 o)
  · exact key _ (sh.h15 o).2.2.2.2
  · exact key _ (sh.h16 o).2.2
theorem ot {r : af} {i : Nat} (hi : i < r.a.length) (h : r.op = 13 → i = 0) : bV r i ∈ cA r := by
  unfold cA
  split
  · rename_i hc
    rw [h hc.1]
    simp [bV]
  · exact kK (aS hi)
theorem ou {r : af} (ho : 14 ≤ r.op) {p : ay} (hp : p ∈ r.e) (hn : p.op = 2 ∨ p.op = 3 ∨ p.op = 8) : p.v ∈ cA r := by
  unfold cA
  rw [iN (by omega)]
  unfold b9
  rw [iN (by omega), lP]
  exact .inr ⟨p, hp, (xI p).2 hn, rfl⟩
structure xO (s : ae) (r : af) : Prop where
  v : ew s
  g : iH s r
  ar : (r.a.length : Int) = aO r.op
  op : 1 ≤ r.op ∧ r.op ≤ 16
  sh : uV s r.op r.n (nV s r.out_) (nV s (bV r 0)) (nV s (bV r 1)) (nV s (bV r 2)) r.e
  n : okI .i64 r.n
  e : ∀ p ∈ r.e, okI .i64 p.n
theorem xO.ok {s : ae} {r : af} {V : Int → List Int} {kp : List Int} (k : xO s r) (h : ∀ v ∈ cA r, gE s V v) (hk : kp = [] ∨ (kp.length = clN s r.out_ ∧ ∀ y ∈ kp, okI .i64 y)) : uX s V kp r :=
  ⟨k.v, k.g, k.ar, k.op, k.sh, k.n, k.e, fun _ hi h13 => h _ (ot hi h13), fun ho _ hp hn => h _ (ou ho hp hn), hk⟩
theorem rq {s : ae} {r : af} {V V' : Int → List Int} {kp : List Int} (k : xO s r) (h : ∀ v ∈ cA r, V v = V' v) : mg s V kp r = mg s V' kp r := by
  have hop := k.op
  have har := k.ar
  have A : ∀ i, i < r.a.length → (r.op = 13 → i = 0) → V (bV r i) = V' (bV r i) := fun i hi h13 => h _ (ot hi h13)
  have T : 14 ≤ r.op → ∀ n, ke V n r.e = ke V' n r.e := fun ho n => nh fun i _ => w8 fun p hp hn => by
    have := tw k.sh ⟨ho, hop.2⟩ p hp
    exact h _ (ou ho hp (by omega))
  have hcs : r.op = 1 ∨ r.op = 2 ∨ r.op = 3 ∨ r.op = 4 ∨ r.op = 5 ∨ r.op = 6 ∨ r.op = 7 ∨ r.op = 8 ∨ r.op = 9 ∨ r.op = 10 ∨ r.op = 11 ∨ r.op = 12 ∨ r.op = 13 ∨ r.op = 14 ∨ r.op = 15 ∨ r.op = 16 := by omega
  have p2 : aO 2 = 1 := by decide
  have p3 : aO 3 = 1 := by decide
  have p4 : aO 4 = 2 := by decide
  have p5 : aO 5 = 3 := by decide
  have p6 : aO 6 = 2 := by decide
  have p7 : aO 7 = 2 := by decide
  have p8 : aO 8 = 1 := by decide
  have p9 : aO 9 = 3 := by decide
  have p10 : aO 10 = 3 := by decide
  have p11 : aO 11 = 1 := by decide
  have p12 : aO 12 = 2 := by decide
  have p13 : aO 13 = 2 := by decide
  have p15 : aO 15 = 1 := by decide
  have p16 : aO 16 = 1 := by decide
  rcases hcs with o | o | o | o | o | o | o | o | o | o | o | o | o | o | o | o <;> (rw [o] at har; simp only [mg, o, Int.reduceEq, if_true, if_false, reduceIte])
  · rw [A 0 (by omega) (by omega)]
  · rw [A 0 (by omega) (by omega)]
  · rw [A 0 (by omega) (by omega), A 1 (by omega) (by omega)]
  · rw [A 0 (by omega) (by omega), A 1 (by omega) (by omega), A 2 (by omega) (by omega)]
  · rw [A 0 (by omega) (by omega), A 1 (by omega) (by omega)]
  · rw [A 0 (by omega) (by omega), A 1 (by omega) (by omega)]
  · rw [A 0 (by omega) (by omega)]
  · rw [A 0 (by omega) (by omega), A 1 (by omega) (by omega), A 2 (by omega) (by omega)]
  · rw [A 0 (by omega) (by omega), A 1 (by omega) (by omega), A 2 (by omega) (by omega)]
  · rw [A 0 (by omega) (by omega)]
  · rw [A 0 (by omega) (by omega), A 1 (by omega) (by omega)]
  · rw [A 0 (by omega) (fun _ => rfl)]
  · exact T (by omega) _
  · rw [A 0 (by omega) (by omega), T (by omega)]
  · rw [A 0 (by omega) (by omega), T (by omega)]
theorem ow {s : ae} (g : dM s) (hs : s.ok) {i : Nat} (hi : i < s.rules.length) : xO s (rl s i) := by
  have h := iI (g.r i hi)
  have hr : af.ok (rl s i) := hs.2.2.2 _ (aS hi)
  have hop : 1 ≤ (rl s i).op ∧ (rl s i).op ≤ 16 := by
    have h5 := h.2.2.2.2.1
    unfold aO at h5
    by_cases hc : 1 ≤ (s.rules.getD i default).op ∧ (s.rules.getD i default).op ≤ 16
    · exact hc
    · rw [iN hc] at h5; omega
  exact ⟨g.h.v, h.1, h.2.2.2.2.2.1, hop, zX g.h.v h.1 h.2.2.2.2.1 h.2.2.2.2.2.1 h.2.2.2.2.2.2, hr.2.2.2.1, fun p hp => (hr.2.2.2.2.2 p hp).2.2.2⟩
def upd (V : Int → List Int) (v : Int) (x : List Int) : Int → List Int := fun w => if w = v then x else V w
theorem qR (V : Int → List Int) (v : Int) (x : List Int) : upd V v x v = x := iP rfl
theorem pJ {V : Int → List Int} {v w : Int} (x : List Int) (h : w ≠ v) : upd V v x w = V w := iN h
def j3 (P : Int → List Int) (r : af) : List Int := if r.op = 13 then P (bV r 1) else []
noncomputable def stV (s : ae) (P W : Int → List Int) : Nat → Int → List Int
  | 0 => W
  | i + 1 => upd (stV s P W i) (rl s i).out_ (mg s (stV s P W i) (j3 P (rl s i)) (rl s i))
noncomputable def nM (s : ae) (P W : Int → List Int) : Int → List Int := stV s P W s.rules.length
def mj (s : ae) (P : Int → List Int) : Prop := ∀ i, i < s.rules.length → (rl s i).op = 13 → P (bV (rl s i) 1) = [] ∨ gE s P (bV (rl s i) 1)
theorem xP {s : ae} (g : dM s) (hs : s.ok) {P : Int → List Int} (hP : mj s P) {i : Nat} (hi : i < s.rules.length) : j3 P (rl s i) = [] ∨ ((j3 P (rl s i)).length = clN s (rl s i).out_ ∧ ∀ y ∈ j3 P (rl s i), okI .i64 y) := by
  unfold j3
  by_cases o : (rl s i).op = 13
  · rw [iP o]
    rcases hP i hi o with h | h
    · exact .inl h
    · exact .inr ⟨by rw [h.len]; exact kf ((ow g hs hi).sh.h13 o).2, h.ok⟩
  · rw [iN o]; exact .inl rfl
theorem w9 {s : ae} (g : dM s) (hs : s.ok) (hso : jZ s) {P W : Int → List Int} (hP : mj s P) (hW : ∀ v ∈ s.in_, gE s W v) : ∀ i, i ≤ s.rules.length → ∀ v ∈ bt s i, gE s (stV s P W i) v
  | 0, _, v, hv => hW v (by simpa [bt] using hv)
  | i + 1, hi, v, hv => by
    have ih := w9 g hs hso hP hW i (by omega)
    have hil : i < s.rules.length := by omega
    rw [lQ s hil, List.mem_append, List.mem_singleton] at hv
    have R := (ow g hs hil).ok (V := stV s P W i) (fun v hv => ih v (hso i hil v hv)) (xP g hs hP hil)
    have := z6 R
    show gE s (upd _ _ _) v
    by_cases e : v = (rl s i).out_
    · subst e
      exact ⟨by rw [qR]; exact this.1, by rw [qR]; exact this.2⟩
    · rcases hv with hv | hv
      · have q := ih v hv
        exact ⟨by rw [pJ _ e]; exact q.len, by rw [pJ _ e]; exact q.ok⟩
      · exact absurd hv e
theorem qp {s : ae} (g : dM s) (P W : Int → List Int) {i : Nat} : ∀ {k : Nat}, i ≤ k → k ≤ s.rules.length → ∀ v ∈ bt s i, stV s P W k v = stV s P W i v
  | 0, h, _, v, _ => by obtain rfl : i = 0 := by omega
                        rfl
  | k + 1, h, hk, v, hv => by
    by_cases e : i = k + 1
    · subst e; rfl
    · have hkl : k < s.rules.length := by omega
      have hm : v ∈ bt s k := by
        rw [iJ s _ (by omega)] at hv ⊢
        rcases hv with hv | ⟨j, hj, hv⟩
        · exact .inl hv
        · exact .inr ⟨j, by omega, hv⟩
      have hne : v ≠ (rl s k).out_ := fun e => lp g hkl (by rw [e] at hm; exact hm)
      show upd _ _ _ v = _
      rw [pJ _ hne]
      exact qp g P W (by omega) (by omega) v hv
structure yL (s : ae) (P W V : Int → List Int) : Prop where
  i : ∀ v ∈ s.in_, V v = W v
  r : ∀ j, j < s.rules.length → V (rl s j).out_ = mg s V (j3 P (rl s j)) (rl s j)
theorem sY {s : ae} (g : dM s) (hs : s.ok) (hso : jZ s) (P W : Int → List Int) : yL s P W (nM s P W) := by
  refine ⟨fun v hv => ?_, fun j hj => ?_⟩
  · exact qp g P W (Nat.zero_le _) (Nat.le_refl _) v (by simpa [bt] using hv)
  · have h1 : nM s P W (rl s j).out_ = stV s P W (j + 1) (rl s j).out_ := qp g P W (by omega) (Nat.le_refl _) _ (by rw [lQ s hj, List.mem_append, List.mem_singleton]; exact .inr rfl)
    rw [h1]
    show upd _ _ _ _ = _
    rw [qR]
    exact rq (ow g hs hj) fun v hv => (qp g P W (by omega) (Nat.le_refl _) v (hso j hj v hv)).symm
theorem uh {s : ae} (g : dM s) (hs : s.ok) (hso : jZ s) {P W V V' : Int → List Int} (h : yL s P W V) (h' : yL s P W V') : ∀ i, i ≤ s.rules.length → ∀ v ∈ bt s i, V v = V' v
  | 0, _, v, hv => by
    have : v ∈ s.in_ := by simpa [bt] using hv
    rw [h.i v this, h'.i v this]
  | i + 1, hi, v, hv => by
    have ih := uh g hs hso h h' i (by omega)
    have hil : i < s.rules.length := by omega
    rw [lQ s hil, List.mem_append, List.mem_singleton] at hv
    rcases hv with hv | hv
    · exact ih v hv
    · rw [hv]
      show V (rl s i).out_ = V' (rl s i).out_
      rw [h.r i hil, h'.r i hil]
      exact rq (ow g hs hil) fun w hw => ih w (hso i hil w hw)
def qS (s : ae) (l : List Int) (i : Nat) : Nat := ((l.take i).map (clN s)).sum
theorem kg (s : ae) (l : List Int) {i : Nat} (h : i < l.length) : qS s l (i + 1) = qS s l i + clN s (l.getD i default) := by
  unfold qS
  rw [cE _ h, List.map_append, List.sum_append]
  simp
theorem rK (s : ae) (l : List Int) {i : Nat} : ∀ {k : Nat}, i ≤ k → k ≤ l.length → qS s l i ≤ qS s l k
  | 0, h, _ => by obtain rfl : i = 0 := by omega
                  exact Nat.le_refl _
  | k + 1, h, hk => by
    by_cases e : i = k + 1
    · subst e; exact Nat.le_refl _
    · rw [kg s l (by omega)]
      have := rK s l (i := i) (k := k) (by omega) (by omega)
      omega
theorem ox {s : ae} (hv : ew s) {l : List Int} (hl : ∀ x ∈ l, inV s x) : ∀ i, i ≤ l.length → qS s l i ≤ 300 * i
  | 0, _ => Nat.le_refl _
  | i + 1, h => by
    rw [kg s l (by omega)]
    have := ox hv hl i (by omega)
    have := pH hv (hl _ (aS (show i < l.length by omega)))
    omega
theorem lq (s : ae) (v : Int) : eU (s.vars.getD v.toNat default).n = (clN s v : Int) := by
  show eU (nV s v) = _
  have : 1 ≤ eU (nV s v) := by unfold eU; split <;> omega
  unfold clN; omega
def ofI (s : ae) (i : Nat) : Nat := qS s s.in_ i
def ivI (s : ae) (i : Nat) : Int := s.in_.getD i default
def sZ (s : ae) (inn : List Int) (i j : Nat) : Option aw :=
  if (vOf s (ivI s i)).elem = 98 ∧ ¬ inn.getD (ofI s i + j) default = 0 ∧ ¬ inn.getD (ofI s i + j) default = 1 then some (aw.mk 17 ((ofI s i + j : Nat) : Int)) else none
def xa (s : ae) (inn : List Int) (i : Nat) : Option aw := match dO (clN s (ivI s i)) (sZ s inn i) () with | .inr z => some z | .inl _ => none
def ml (s : ae) (inn : List Int) : aw :=
  if ¬ inn.length = ofI s s.in_.length then aw.mk 17 (-1)
  else match dO s.in_.length (xa s inn) () with | .inr z => z | .inl _ => aw.mk 0 0
def inC (s : ae) (inn : List Int) (i : Nat) : List Int := (inn.take (ofI s i + clN s (ivI s i))).drop (ofI s i)
def inW (s : ae) (inn : List Int) : Nat → Int → List Int
  | 0 => fun _ => []
  | i + 1 => upd (inW s inn i) (ivI s i) (inC s inn i)
def inE (s : ae) (inn : List Int) : Int → List Int := inW s inn s.in_.length
theorem xQ {s : ae} {inn : List Int} (h : inn.length = ofI s s.in_.length) {i : Nat} (hi : i < s.in_.length) : (inC s inn i).length = clN s (ivI s i) := by
  have h1 : ofI s (i + 1) = ofI s i + clN s (ivI s i) := kg s s.in_ hi
  have h2 : ofI s (i + 1) ≤ ofI s s.in_.length := rK s s.in_ (by omega) (Nat.le_refl _)
  unfold inC
  rw [List.length_drop, List.length_take]
  omega
theorem Ac {s : ae} {inn : List Int} (h : inn.length = ofI s s.in_.length) (hin : ∀ y ∈ inn, okI .i64 y) : ∀ i, i ≤ s.in_.length → ∀ v ∈ s.in_.take i, gE s (inW s inn i) v
  | 0, _, v, hv => by simp at hv
  | i + 1, hi, v, hv => by
    rw [cE _ (by omega), List.mem_append, List.mem_singleton] at hv
    show gE s (upd _ _ _) v
    by_cases e : v = ivI s i
    · subst e
      exact ⟨by rw [qR]; exact xQ h (by omega), by rw [qR]; exact fun y hy => hin y (List.mem_of_mem_take (List.mem_of_mem_drop hy))⟩
    · rcases hv with hv | hv
      · have q := Ac h hin i (by omega) v hv
        exact ⟨by rw [pJ _ e]; exact q.len, by rw [pJ _ e]; exact q.ok⟩
      · exact absurd hv e
theorem s6 {s : ae} {inn : List Int} (h : (ml s inn).code = 0) : inn.length = ofI s s.in_.length := by
  unfold ml at h
  refine Classical.byContradiction fun hc => ?_
  rw [iP hc] at h
  cases h
theorem Ad {s : ae} {inn : List Int} (h : (ml s inn).code = 0) (hin : ∀ y ∈ inn, okI .i64 y) : ∀ v ∈ s.in_, gE s (inE s inn) v := fun v hv =>
  Ac (s6 h) hin s.in_.length (Nat.le_refl _) v (by simpa using hv)
structure Ae (s : ae) (L : List (List Int)) (V : Int → List Int) : Prop where
  len : L.length = s.vars.length
  at_ : ∀ v, inV s v → qO L v = V v
theorem Ae.set {s : ae} {L : List (List Int)} {V : Int → List Int} (h : Ae s L V) {v : Int} (hv : inV s v) (x : List Int) : Ae s (L.set v.toNat x) (upd V v x) := by
  refine ⟨by rw [List.length_set]; exact h.len, fun w hw => ?_⟩
  have hl := h.len
  have hv' := hv
  have hw' := hw
  unfold inV at hv' hw'
  unfold qO
  by_cases e : w = v
  · subst e
    rw [qR, List.getD_eq_getElem?_getD, List.getElem?_set_self (by omega)]
    rfl
  · rw [pJ _ e, List.getD_eq_getElem?_getD, List.getElem?_set_ne (by omega), ← List.getD_eq_getElem?_getD]
    exact h.at_ w hw
theorem A8 (s : ae) : Ae s (List.replicate s.vars.length []) (fun _ => []) := ⟨by simp, fun v _ => by
  unfold qO
  rw [List.getD_eq_getElem?_getD, List.getElem?_replicate]
  split <;> rfl⟩
def inL (s : ae) (inn : List Int) : Nat → List (List Int)
  | 0 => List.replicate s.vars.length []
  | i + 1 => (inL s inn i).set (ivI s i).toNat (inC s inn i)
theorem u4 {s : ae} (g : md s) (inn : List Int) : ∀ i, i ≤ s.in_.length → Ae s (inL s inn i) (inW s inn i)
  | 0, _ => A8 s
  | i + 1, h => (u4 g inn i (by omega)).set (g.i _ (aS (by omega))) _
theorem vY {Z Y : Type} (f : Nat → Option Z) (h : Nat → Z → Y) : ∀ l : List Nat, (∃ i z, i ∈ l ∧ f i = some z ∧ l.findSome? (fun j => (f j).map (h j)) = some (h i z) ∧ l.findSome? f = some z) ∨ (l.findSome? (fun j => (f j).map (h j)) = none ∧ l.findSome? f = none)
  | [] => .inr ⟨rfl, rfl⟩
  | j :: l => by
    rw [List.findSome?_cons, List.findSome?_cons]
    cases hf : f j with
    | none =>
      rcases vY f h l with ⟨i, z, h1, h2, h3, h4⟩ | ⟨h1, h2⟩
      · exact .inl ⟨i, z, by simp [h1], h2, h3, h4⟩
      · exact .inr ⟨h1, h2⟩
    | some z => exact .inl ⟨j, z, by simp, hf, rfl, rfl⟩
theorem Af {T T' Z Y : Type} (n : Nat) (f : Nat → Option Z) (h : Nat → Z → Y) (t : T) (t' : T') : (∃ i z, i < n ∧ f i = some z ∧ dO n (fun j => (f j).map (h j)) t = .inr (h i z) ∧ dO n f t' = .inr z) ∨ (dO n (fun j => (f j).map (h j)) t = .inl t ∧ dO n f t' = .inl t') := by
  unfold dO
  rcases vY f h (List.range n) with ⟨i, z, h1, h2, h3, h4⟩ | ⟨h1, h2⟩
  · rw [h3, h4]; exact .inl ⟨i, z, List.mem_range.1 h1, h2, rfl, rfl⟩
  · rw [h1, h2]; exact .inr ⟨rfl, rfl⟩
theorem yM {s : ae} {inn : List Int} {i : Nat} {z : aw} (h : xa s inn i = some z) : z.code = 17 := by
  unfold xa at h
  rcases cL (clN s (ivI s i)) (sZ s inn i) () with ⟨e, _⟩ | ⟨j, y, _, hf, e⟩
  · rw [e] at h; cases h
  · rw [e] at h
    simp only [sJ] at h
    subst h
    unfold sZ at hf
    split at hf
    · simp only [sJ] at hf; subst hf; rfl
    · cases hf
def nO (s:ae) (V:Int→List Int):List Int:=(s.out_.map V).flatten
theorem vZ (s:ae):mj s (fun _=>[]):=fun _ _ _=>.inl rfl
section
variable {s:ae} {P W:Int→List Int} {M:List (Int×List Int)}
end
structure nu (A B:ae):Prop where
 v:A.vars = B.vars
 i:A.in_ = B.in_
 o:A.out_ = B.out_
 r:∀ j,j < B.rules.length→∃ i,i < A.rules.length∧rl A i = rl B j
theorem v6 {A B:ae} (h:A.vars = B.vars) (v:Int):clN A v = clN B v:=by unfold clN nV vOf;rw [h]
theorem xb {A B:ae} (h:A.vars = B.vars) (V:Int→List Int) (kp:List Int) (r:af):mg A V kp r = mg B V kp r:=by unfold mg;simp only [v6 h]
theorem gE.vars {A B:ae} (h:A.vars = B.vars) {V:Int→List Int} {v:Int} (e:gE A V v):gE B V v:=⟨by rw [e.len];exact v6 h v,e.ok⟩
theorem wa {A B:ae} (h:nu A B) {P P' W V:Int→List Int} (hP:∀ j,j < B.rules.length→j3 P (rl B j) = j3 P' (rl B j)) (f:yL A P W V):yL B P' W V:=by
 refine ⟨fun v hv=>f.i v (by rw [h.i];exact hv),fun j hj=>?_⟩
 obtain ⟨i,hi,e⟩:=h.r j hj
 have:=f.r i hi
 rw [e] at this
 rw [this,hP j hj,xb h.v]
theorem A9 {A B:ae} (h:nu A B) (gA:dM A) (hA:A.ok) (sA:jZ A) (gB:dM B) (hB:B.ok) (sB:jZ B) {P P':Int→List Int} (hP:∀ j,j < B.rules.length→j3 P (rl B j) = j3 P' (rl B j)) (W:Int→List Int) :
  ∀ v∈bt B B.rules.length,nM A P W v = nM B P' W v :=
 uh gB hB sB (wa h hP (sY gA hA sA P W)) (sY gB hB sB P' W) B.rules.length (Nat.le_refl _)
theorem u5 {A B:ae} (h:nu A B) (inn:List Int):inE A inn = inE B inn∧ml A inn = ml B inn:=by
 obtain ⟨v,i,o,r⟩:=A
 obtain ⟨v',i',o',r'⟩:=B
 have h1:v = v':=h.v
 have h2:i = i':=h.i
 subst h1;subst h2
 have e1:∀ l k,qS (ae.mk v i o r) l k = qS (ae.mk v i o' r') l k:=fun l k=>rfl
 have e2:∀ k,inW (ae.mk v i o r) inn k = inW (ae.mk v i o' r') inn k:=by
  intro k
  induction k with
  | zero=>rfl
  | succ k ih =>
   show upd (inW _ inn k) _ _ = upd (inW _ inn k) _ _
   rw [ih]
   rfl
 refine ⟨e2 _,?_⟩
 rfl
theorem yN {B:ae} (gB:dM B) (hB:B.ok) {j:Nat} (hj:j < B.rules.length) {P P':Int→List Int} (h:∀ v∈bt B B.rules.length,P v = P' v):j3 P (rl B j) = j3 P' (rl B j):=by
 unfold j3
 by_cases o:(rl B j).op = 13
 ·rw [iP o,iP o]
  have har:=(ow gB hB hj).ar
  rw [o] at har
  have p13:aO 13 = 2:=by decide
  exact h _ (gB.u j hj _ (kK (aS (by unfold rl at har;omega))))
 ·rw [iN o,iN o]
theorem Ba {A B:ae} (h:nu A B) (gB:dM B) {V V':Int→List Int} (hV:∀ v∈bt B B.rules.length,V v = V' v):nO A V = nO B V':=by
 unfold nO
 rw [h.o]
 congr 1
 exact List.map_congr_left fun v hv=>hV v (gB.o v hv)
theorem wb {s:ae} (hs:s.ok):(lS s).ok:=⟨hs.1,hs.2.1,hs.2.2.1,fun r hr=>by
 have hr':r∈(cm s).map (fun k=>s.rules.getD k default):=hr
 obtain ⟨k,hk,rfl⟩:=List.mem_map.1 hr'
 exact hs.2.2.2 _ (aS (lf hk))⟩
theorem s7 {s:ae} (hc:(cU s).code = 0) (hK:(cm s).length = s.rules.length):dM (lS s):=(fZ (s:=lS s) (by rw [wZ hc hK])).1
theorem wc (s:ae) {i:Nat} (hi:i < (cm s).length):rl (lS s) i = rl s ((cm s).getD i default):=fq s hi
theorem ui (s:ae):(lS s).rules.length = (cm s).length:=iZ s (cm s)
theorem s8 (l:List Int) (hl:l.length ≤ 9000000):jc l l = some true:=by
 unfold jc
 rw [iN (by simp),b8 l.length (fun _=>none) ()]
 ·rw [iY (fun _ _=>rfl)];rfl
 ·intro i hi
  unfold gC
  rw [iP (ltI hi),iP ⟨inI hi,inI hi⟩,iN (by simp),wrs i (by omega)]
 ·unfold gC;rw [iN (bm _)]
theorem u6 (rows:List (List Int)) (hl:rows.length ≤ 9000000):∃ b,i7 rows = some b∧(b = false→rows.length ≤ 60∧∀ i,i < rows.length→(rows.getD i default).length ≤ 10000):=by
 unfold i7
 by_cases c:(rows.length:Int) > 60
 ·rw [iP c];exact ⟨true,rfl,fun h=>by cases h⟩
 rw [iN c,b8 rows.length (fun i=>if ((rows.getD i default).length:Int) > 10000 then some true else none) ()]
 ·rcases cL rows.length (fun i=>if ((rows.getD i default).length:Int) > 10000 then some true else none) () with ⟨e,h⟩ | ⟨j,z,_,hf,e⟩
  ·rw [e]
   refine ⟨false,rfl,fun _=>⟨by omega,fun i hi=>?_⟩⟩
   have:=h i hi
   split at this
   ·cases this
   ·omega
  ·rw [e]
   refine ⟨z,rfl,fun h=>?_⟩
   split at hf
   ·simp_all
   ·cases hf
 ·intro i hi
  unfold gn
  rw [iP (ltI hi),iP (inI hi),tN,wrs i (by omega)]
  split <;> rfl
 ·unfold gn;rw [iN (bm _)]
theorem Ag {s:ae} (g:dM s) {V:Int→List Int} (hV:∀ v∈bt s s.rules.length,gE s V v):(nO s V).length ≤ 120000:=by
 have hno:=g.h.no
 have key:∀ l:List Int,(∀ v∈l,(V v).length ≤ 300)→((l.map V).flatten).length ≤ 300 * l.length:=by
  intro l
  induction l with
  | nil=>intro _;simp
  | cons v l ih =>
   intro h
   have:=ih fun w hw=>h w (by simp [hw])
   have:=h v (by simp)
   rw [List.map_cons,List.flatten_cons,List.length_append,List.length_cons]
   omega
 have:=key s.out_ fun v hv=>by rw [(hV v (g.o v hv)).len];exact pH g.h.v (g.h.o v hv)
 unfold nO
 omega
theorem Bb {rows:List (List Int)} (h:okL (okL (okI .i64)) rows) {i:Nat} (hi:i < rows.length):∀ y∈rows.getD i default,okI .i64 y:=h _ (aS hi)
structure bW (s:ae) (V:Int→List Int) (m:List (List Int)):Prop where
 len:m.length = s.vars.length
 at_:∀ v,inV s v→qO m v = []∨qO m v = V v
 i:∀ v∈s.in_,qO m v = V v
abbrev RcT:=Int→List ao→List Int→List Int→List af→Nat→Nat→Int→List (List Int)→List (List Int)→Option (List Int×List (List Int))
def u7 (s:ae) (V:Int→List Int) (kN vN:Nat) (n:Int) (K:List (List Int)) (rc:RcT) (v:Int):Prop :=
 ∀ m,bW s V m→∃ m',rc v s.vars s.in_ s.out_ s.rules kN vN n K m = some (V v,m')∧bW s V m'
theorem yO {s:ae} {V:Int→List Int} {n k:Int} {l:List ay} {fin:List Int} (hlo:∀ p∈l,okI .i64 p.n) (hV:∀ p∈l,(p.op = 2∨p.op = 3∨p.op = 8)→gE s V p.v) (h:jf s n l [] = some fin) {i:Nat} {a:Int} {r:List Int} (hi:i ≤ l.length) (hs:lV V k l i = a :: r) :
  ∃ j rs rs',i = j + 1∧j < l.length∧nI V k (l.getD j default) (lV V k l j) = a :: r∧(lV V k l j).length = rs.length∧(∀ y∈lV V k l j,okI .i64 y)∧dd s n (l.getD j default) rs = some rs':=by
 cases i with
 | zero=>rw [ub] at hs;cases hs
 | succ j =>
  obtain ⟨rs,_,h2,_,h4,h5⟩:=vT (k:=k) hlo hV h j (by omega)
  obtain ⟨rs',h6⟩:=h5 (by omega)
  exact ⟨j,rs,rs',rfl,by omega,by rw [← ua V k l j (by omega)];exact hs,h2,h4,h6⟩
section
variable {s:ae} {V:Int→List Int} {n k:Int} {l:List ay} {fin:List Int} {kN vN:Nat} {N:Int} {K:List (List Int)} {rc:RcT}
theorem we (l:List Int) (a o:Int):kb l a o = some (sT l a o):=by
 unfold kb sT
 by_cases h1:a ≥ 0
 ·by_cases h2:a < (l.length:Int)
  ·rw [iP h1,iP h2,iP (by omega),iP (by omega)]
  ·rw [iP h1,iN h2,iN (by omega)]
 ·rw [iN h1,iN (by omega)]
theorem Ah (hv:ew s) (hu:∀ p∈l,od s p) (hl:l.length ≤ 9000) (hk:0 ≤ k∧k < n) (hn:n ≤ 300) (hlo:∀ p∈l,okI .i64 p.n) (hV:∀ p∈l,(p.op = 2∨p.op = 3∨p.op = 8)→gE s V p.v)
  (hr:∀ p∈l,(p.op = 2∨p.op = 3∨p.op = 8)→u7 s V kN vN N K rc p.v) (h:jf s n l [] = some fin) :
  ∀ (i:Nat),i ≤ l.length→∀ (a:Int) (r:List Int),lV V k l i = a :: r→∃ p,p < i∧lV V k l p = r∧∀ fuel,i ≤ fuel→∀ m,bW s V m→∃ m',ce rc fuel l ((i:Int) - 1) k s.vars s.in_ s.out_ s.rules kN vN N K m = some (a,(p:Int) - 1,m')∧bW s V m':=by
 intro i
 induction i using Nat.strongRecOn with
 | _ i ih =>
 intro hi a r hs
 obtain ⟨j,rs,rs',rfl,hj,hp,hlen,hso,he⟩:=yO hlo hV h hi hs
 have hidx:((j + 1:Nat):Int) - 1 = (j:Int):=by omega
 have hwj:IntKind.wrap .i64 ((j:Int) - 1) = (j:Int) - 1:=wr (by omega) (by omega)
 rw [hidx]
 have body:∀ fuel,j + 1 ≤ fuel→∃ f,fuel = f + 1∧j ≤ f:=fun fuel hf=>⟨fuel - 1,by omega,by omega⟩
 have ihj:=ih j (by omega) (by omega)
 have hm:l.getD j default∈l:=aS hj
 have hV':=hV _ hm
 have hr':=hr _ hm
 have hu':=hu _ hm
 revert hp ihj
 generalize hst':lV V k l j = st at hso hlen
 intro hp ihj
 unfold dd at he
 unfold nI at hp
 have hvo:∀ v:Int,s.vars.getD v.toNat default = vOf s v:=fun _=>rfl
 simp only [hvo] at he
 have go:∀ (p:Nat),p < j + 1→lV V k l p = r→(∀ f,j ≤ f→∀ m,bW s V m→∃ m',bO rc (ce rc f) l j k s.vars s.in_ s.out_ s.rules kN vN N K m = some (a,(p:Int) - 1,m')∧bW s V m') →
   ∃ p,p < j + 1∧lV V k l p = r∧∀ fuel,j + 1 ≤ fuel→∀ m,bW s V m→∃ m',ce rc fuel l (j:Int) k s.vars s.in_ s.out_ s.rules kN vN N K m = some (a,(p:Int) - 1,m')∧bW s V m':=by
  intro p h1 h2 h3
  refine ⟨p,h1,h2,fun fuel hf m hm=>?_⟩
  obtain ⟨f,rfl,hf'⟩:=body fuel hf
  exact h3 f hf' m hm
 by_cases o1:(l.getD j default).op = 1
 ·rw [iP o1] at hp
  obtain ⟨rfl,rfl⟩:=List.cons.inj hp
  refine go j (by omega) hst' fun f hf m hm=>⟨m,?_,hm⟩
  unfold bO
  rw [iP (inI hj),tN,iP o1,hwj]
 rw [iN o1] at hp he
 by_cases o2:(l.getD j default).op = 2
 ·rw [iP o2] at hp
  obtain ⟨rfl,rfl⟩:=List.cons.inj hp
  refine go j (by omega) hst' fun f hf m hm=>?_
  obtain ⟨m',e,hm'⟩:=hr' (.inl o2) m hm
  have:=(hV' (.inl o2)).len
  have:=km s (l.getD j default).v
  refine ⟨m',?_,hm'⟩
  unfold bO
  rw [iP (inI hj),tN,iN o1,iP o2,e]
  simp only [bSq]
  rw [iP (by omega),hwj]
 rw [iN o2] at hp he
 by_cases o3:(l.getD j default).op = 3
 ·rw [iP o3] at hp he
  split at he
  ·rename_i hh
   obtain ⟨rfl,rfl⟩:=List.cons.inj hp
   refine go j (by omega) hst' fun f hf m hm=>?_
   obtain ⟨m',e,hm'⟩:=hr' (.inr (.inl o3)) m hm
   have g:=(hV' (.inr (.inl o3))).len
   have hc:(clN s (l.getD j default).v:Int) = (vOf s (l.getD j default).v).n:=nt (show nV s _ > 0 from hh.1)
   have go:=aL hv (hu' (.inr (.inl o3)))
   refine ⟨m',?_,hm'⟩
   unfold bO
   rw [iP (inI hj),tN,iN o1,iN o2,iP o3,e]
   simp only [bSq]
   rw [wr (n:=k + (l.getD j default).n) (by omega) (by omega),iP (by omega),hwj]
  ·cases he
 rw [iN o3] at hp he
 by_cases o4:(l.getD j default).op = 4
 ·rw [iP o4] at hp
  obtain ⟨rfl,rfl⟩:=List.cons.inj hp
  refine go j (by omega) hst' fun f hf m hm=>⟨m,?_,hm⟩
  unfold bO
  rw [iP (inI hj),tN,iN o1,iN o2,iN o3,iP o4,hwj]
 rw [iN o4] at hp he
 by_cases o5:(l.getD j default).op = 5
 ·rw [iP o5] at hp he
  obtain ⟨b,q,rfl⟩:∃ b q,st = b :: q:=by
   cases st with
   | nil =>
    cases rs with
    | nil=>cases he
    | cons x y=>simp at hlen
   | cons b q=>exact ⟨b,q,rfl⟩
  obtain ⟨rfl,rfl⟩:=List.cons.inj hp
  obtain ⟨p1,g1,g2,g3⟩:=ihj b q rfl
  refine go p1 (by omega) g2 fun f hf m hm=>?_
  obtain ⟨m',e,hm'⟩:=g3 f hf m hm
  refine ⟨m',?_,hm'⟩
  unfold bO
  rw [iP (inI hj),tN,iN o1,iN o2,iN o3,iN o4,iP o5,hwj,e]
  simp only [bSq]
  rw [(iK _ b 0 (hso b (by simp)) om).2.1]
  simp
 rw [iN o5] at hp he
 have two:∀ b d q,st = b :: d :: q→∃ p1 p2,p1 < j∧p2 < p1∧lV V k l p2 = q∧(∀ f,j ≤ f→∀ m,bW s V m→∃ m',ce rc f l ((j:Int) - 1) k s.vars s.in_ s.out_ s.rules kN vN N K m = some (b,(p1:Int) - 1,m')∧bW s V m') ∧
   (∀ f,p1 ≤ f→∀ m,bW s V m→∃ m',ce rc f l ((p1:Int) - 1) k s.vars s.in_ s.out_ s.rules kN vN N K m = some (d,(p2:Int) - 1,m')∧bW s V m'):=by
  intro b d q hq
  obtain ⟨p1,g1,g2,g3⟩:=ihj b (d :: q) hq
  obtain ⟨p2,k1,k2,k3⟩:=ih p1 (by omega) (by omega) d q g2
  exact ⟨p1,p2,g1,k1,k2,g3,k3⟩
 by_cases o6:(l.getD j default).op = 6
 ·rw [iP o6] at hp he
  obtain ⟨b,d,q,rfl⟩:∃ b d q,st = b :: d :: q:=by
   match st,rs,hlen,he with
   | b :: d :: q,_,_,_=>exact ⟨b,d,q,rfl⟩
   | [],[],_,he=>cases he
   | [x],[y],_,he=>cases he
  obtain ⟨rfl,rfl⟩:=List.cons.inj hp
  obtain ⟨p1,p2,g1,g2,g3,g4,g5⟩:=two b d q rfl
  refine go p2 (by omega) g3 fun f hf m hm=>?_
  obtain ⟨m1,e1,hm1⟩:=g4 f hf m hm
  obtain ⟨m2,e2,hm2⟩:=g5 f (by omega) m1 hm1
  refine ⟨m2,?_,hm2⟩
  unfold bO
  rw [iP (inI hj),tN,iN o1,iN o2,iN o3,iN o4,iN o5,hwj,e1]
  simp only [bSq]
  rw [e2]
  simp only [bSq]
  rw [iP o6,(iK _ d b (hso d (by simp)) (hso b (by simp))).2.1]
  simp
 rw [iN o6] at hp he
 by_cases o7:(l.getD j default).op = 7
 ·rw [iP o7] at hp he
  obtain ⟨b,d,x,q,rfl⟩:∃ b d x q,st = b :: d :: x :: q:=by
   match st,rs,hlen,he with
   | b :: d :: x :: q,_,_,_=>exact ⟨b,d,x,q,rfl⟩
   | [],[],_,he=>cases he
   | [x],[y],_,he=>cases he
   | [x,z],[y,w],_,he=>cases he
  obtain ⟨rfl,rfl⟩:=List.cons.inj hp
  obtain ⟨p1,p2,g1,g2,g3,g4,g5⟩:=two b d (x :: q) rfl
  obtain ⟨p3,k1,k2,k3⟩:=ih p2 (by omega) (by omega) x q g3
  refine go p3 (by omega) k2 fun f hf m hm=>?_
  obtain ⟨m1,e1,hm1⟩:=g4 f hf m hm
  obtain ⟨m2,e2,hm2⟩:=g5 f (by omega) m1 hm1
  obtain ⟨m3,e3,hm3⟩:=k3 f (by omega) m2 hm2
  refine ⟨m3,?_,hm3⟩
  unfold bO
  rw [iP (inI hj),tN,iN o1,iN o2,iN o3,iN o4,iN o5,hwj,e1]
  simp only [bSq]
  rw [e2]
  simp only [bSq]
  rw [iN o6,iN (by omega),e3]
  simp only [bSq]
  by_cases z:x = 0
  ·simp [z]
  ·simp [z]
 rw [iN o7] at hp he
 by_cases o8:(l.getD j default).op = 8
 ·rw [iP o8] at he
  obtain ⟨b,d,q,rfl⟩:∃ b d q,st = b :: d :: q:=by
   match st,rs,hlen,he with
   | b :: d :: q,_,_,_=>exact ⟨b,d,q,rfl⟩
   | [],[],_,he=>cases he
   | [x],[y],_,he=>cases he
  obtain ⟨rfl,rfl⟩:=List.cons.inj hp
  obtain ⟨p1,p2,g1,g2,g3,g4,g5⟩:=two b d q rfl
  refine go p2 (by omega) g3 fun f hf m hm=>?_
  obtain ⟨m1,e1,hm1⟩:=g4 f hf m hm
  obtain ⟨m2,e2,hm2⟩:=g5 f (by omega) m1 hm1
  obtain ⟨m3,e3,hm3⟩:=hr' (.inr (.inr o8)) m2 hm2
  refine ⟨m3,?_,hm3⟩
  unfold bO
  rw [iP (inI hj),tN,iN o1,iN o2,iN o3,iN o4,iN o5,hwj,e1]
  simp only [bSq]
  rw [e2]
  simp only [bSq]
  rw [iN o6,iP o8,e3]
  simp only [bSq]
  rw [we]
  simp
 ·rw [iN o8] at he;cases he
theorem yP (hv:ew s) (hu:∀ p∈l,od s p) (hl:l.length ≤ 24) (hk:0 ≤ k∧k < n) (hn:n ≤ 300) (hlo:∀ p∈l,okI .i64 p.n) (hV:∀ p∈l,(p.op = 2∨p.op = 3∨p.op = 8)→gE s V p.v)
  (hr:∀ p∈l,(p.op = 2∨p.op = 3∨p.op = 8)→u7 s V kN vN N K rc p.v) (h:jY s n l ≠ 0) {fuel:Nat} (hf:24 ≤ fuel) {m:List (List Int)} (hm:bW s V m) :
  ∃ m',dS fuel rc l k s.vars s.in_ s.out_ s.rules kN vN N K m = some (qM V k l,m')∧bW s V m':=by
 obtain ⟨x,hx⟩:=sU h
 obtain ⟨p,_,_,hp⟩:=Ah hv hu (by omega) hk hn hlo hV hr hx l.length (Nat.le_refl _) (qM V k l) [] (oL (k:=k) hlo hV h).1
 obtain ⟨m',e,hm'⟩:=hp fuel (by omega) m hm
 refine ⟨m',?_,hm'⟩
 unfold dS kc
 rw [wr (by omega) (by omega),e]
 rfl
end
section
variable {s:ae} {V:Int→List Int} {kN vN:Nat} {N:Int} {K:List (List Int)} {rc:RcT} {kp:List Int} {r:af} {i:Nat}
def Bn (N:Int) (kN:Nat) (K:List (List Int)) (i:Nat) (kp:List Int):Prop:=0 ≤ N∧(N = 0→kp = [])∧(N > 0→i < kN∧i < K.length∧K.getD i default = kp∧kp ≠ [])
theorem wg (hr:∀ v∈cA r,u7 s V kN vN N K rc v) (hi:s.rules.getD i default = r) (h3:r.a.length ≤ 3) {j:Nat} (hj:j < r.a.length) (h13:r.op = 13→j = 0) {m:List (List Int)} (hm:bW s V m) {l:List (List Int)} (hl:l.length ≤ 3) :
  ∃ m',cT rc (i:Int) s.vars s.in_ s.out_ s.rules kN vN N K m l (j:Int) = some (.inl (m',l ++ [V (bV r j)],((j + 1:Nat):Int)))∧bW s V m':=by
 obtain ⟨m',e,hm'⟩:=hr _ (ot hj h13) m hm
 refine ⟨m',?_,hm'⟩
 unfold cT
 simp only [tN,hi]
 rw [iP (inI hj),show r.a.getD j default = bV r j from rfl,e]
 simp only [bSq]
 rw [iP (mf (by omega) (by omega)),wrs j (by omega)]
 rfl
theorem wh (hr:∀ v∈cA r,u7 s V kN vN N K rc v) (hi:s.rules.getD i default = r) (h3:r.a.length ≤ 3) (ho:r.op ≠ 13):∀ (k j:Nat) (m:List (List Int)),j + k = r.a.length→bW s V m →
  ∃ m',aZ (fun (x:List (List Int)×List (List Int)×Int)=>bk rc (i:Int) s.vars s.in_ s.out_ s.rules kN vN N K x.1 x.2.1 x.2.2) (m,e7 j (fun u=>V (bV r u)),(j:Int)) = some (m',e7 r.a.length (fun u=>V (bV r u)))∧bW s V m'
 | 0,j,m,hj,hm=>by
  obtain rfl:j = r.a.length:=by omega
  refine ⟨m,cB ?_,hm⟩
  show bk rc (i:Int) s.vars s.in_ s.out_ s.rules kN vN N K m _ _ = _
  unfold bk
  simp only [tN,hi]
  rw [iN (bm _)]
 | k + 1,j,m,hj,hm=>by
  obtain ⟨m',e,hm'⟩:=wg hr hi h3 (j:=j) (by omega) (fun h=>absurd h ho) hm (l:=e7 j (fun u=>V (bV r u))) (by rw [jg];omega)
  have hst:bk rc (i:Int) s.vars s.in_ s.out_ s.rules kN vN N K m (e7 j (fun u=>V (bV r u))) (j:Int) = some (.inl (m',e7 (j + 1) (fun u=>V (bV r u)),((j + 1:Nat):Int))):=by
   unfold bk
   rw [e]
   simp only [tN,hi]
   rw [iP (by omega),iP ho,tV]
  rw [cH (s:=(m,e7 j (fun u=>V (bV r u)),(j:Int))) hst]
  exact wh hr hi h3 ho k (j + 1) m' (by omega) hm'
theorem xd (hr:∀ v∈cA r,u7 s V kN vN N K rc v) (hi:s.rules.getD i default = r) (ha:r.a.length = 2) (ho:r.op = 13) {m:List (List Int)} (hm:bW s V m) :
  ∃ m',aZ (fun (x:List (List Int)×List (List Int)×Int)=>bk rc (i:Int) s.vars s.in_ s.out_ s.rules kN vN N K x.1 x.2.1 x.2.2) (m,[],((0:Nat):Int)) = some (m',[V (bV r 0)])∧bW s V m':=by
 obtain ⟨m',e,hm'⟩:=wg hr hi (by omega) (j:=0) (by omega) (fun _=>rfl) hm (l:=[]) (by simp)
 refine ⟨m',?_,hm'⟩
 have hst:bk rc (i:Int) s.vars s.in_ s.out_ s.rules kN vN N K m [] ((0:Nat):Int) = some (.inl (m',[V (bV r 0)],((0 + 1:Nat):Int))):=by
  unfold bk
  rw [e]
  simp only [tN,hi]
  rw [iP (by omega),iN (by simpa using ho),iP (by omega)]
  rfl
 rw [cH (s:=(m,([]:List (List Int)),((0:Nat):Int))) hst]
 refine cB ?_
 show bk rc (i:Int) s.vars s.in_ s.out_ s.rules kN vN N K m' [V (bV r 0)] _ = _
 unfold bk
 simp only [tN,hi]
 rw [iP (by omega),iN (by simpa using ho),iN (by omega)]
theorem uj {fuel:Nat} {n:Nat} {A:List (List Int)} (g:Nat→Int) (hn:n ≤ 300)
  (hB:∀ j l m,j < n→l.length = j→bW s V m→∃ m',a8 fuel rc (i:Int) s.vars s.in_ s.out_ s.rules kN vN N K (n:Int) A m l (j:Int) = some (.inl (m',l ++ [g j],((j + 1:Nat):Int)))∧bW s V m'):∀ (k j:Nat) (m:List (List Int)),j + k = n→bW s V m →
  ∃ m',aZ (fun (x:List (List Int)×List Int×Int)=>a8 fuel rc (i:Int) s.vars s.in_ s.out_ s.rules kN vN N K (n:Int) A x.1 x.2.1 x.2.2) (m,e7 j g,(j:Int)) = some (m',e7 n g)∧bW s V m'
 | 0,j,m,hj,hm=>by
  obtain rfl:j = n:=by omega
  refine ⟨m,cB ?_,hm⟩
  show a8 fuel rc (i:Int) s.vars s.in_ s.out_ s.rules kN vN N K (j:Int) A m (e7 j g) (j:Int) = _
  unfold a8
  rw [iN (by omega)]
 | k + 1,j,m,hj,hm=>by
  obtain ⟨m',e,hm'⟩:=hB j (e7 j g) m (by omega) (jg _ _) hm
  rw [← tV] at e
  rw [cH (s:=(m,e7 j g,(j:Int))) e]
  exact uj g hn hB k (j + 1) m' (by omega) hm'
theorem wi {fuel:Nat} {ys:List Int} {k x:Int} {A:List (List Int)} (hx:okI .i64 x) (hys:∀ y∈ys,okI .i64 y) (hn:ys.length ≤ 300) (hi:(s.rules.getD i default).k = k)
  (hB:∀ j l a m,j < ys.length→bW s V m→∃ m',bp fuel rc (i:Int) s.vars s.in_ s.out_ s.rules kN vN N K A (ys.length:Int) m l a (j:Int) = co (i:Int) s.rules l a (j:Int) m' (ys.getD j default)∧bW s V m'):∀ (q j:Nat) (m:List (List Int)),j + q = ys.length→bW s V m →
  ∃ m',aZ (fun (z:List (List Int)×List Int×Int×Int)=>bp fuel rc (i:Int) s.vars s.in_ s.out_ s.rules kN vN N K A (ys.length:Int) z.1 z.2.1 z.2.2.1 z.2.2.2) (m,(e9 k x ys).take j,pG k x ys j,(j:Int)) = some (m',e9 k x ys)∧bW s V m'
 | 0,j,m,hj,hm=>by
  obtain rfl:j = ys.length:=by omega
  refine ⟨m,cB ?_,hm⟩
  show bp fuel rc (i:Int) s.vars s.in_ s.out_ s.rules kN vN N K A (ys.length:Int) m _ _ _ = _
  unfold bp
  rw [iN (bm _),List.take_of_length_le (by rw [ii];omega)]
 | q + 1,j,m,hj,hm=>by
  have hjl:j < ys.length:=by omega
  obtain ⟨m',e,hm'⟩:=hB j ((e9 k x ys).take j) (pG k x ys j) m hjl hm
  have hst:bp fuel rc (i:Int) s.vars s.in_ s.out_ s.rules kN vN N K A (ys.length:Int) m ((e9 k x ys).take j) (pG k x ys j) (j:Int) = some (.inl (m',(e9 k x ys).take (j + 1),pG k x ys (j + 1),((j + 1:Nat):Int))):=by
   rw [e]
   unfold co
   simp only [tN,hi]
   rw [(iK k _ _ (xK k x ys hx hys j (by omega)) (hys _ (aS hjl))).2.1]
   simp only [bSq]
   rw [iP (iL _ (by rw [List.length_take];omega)),wrs j (by omega),w7 k x ys j hjl,uc k x ys j hjl]
   rfl
  rw [cH (s:=(m,(e9 k x ys).take j,pG k x ys j,(j:Int))) hst]
  exact wi hx hys hn hi hB q (j + 1) m' (by omega) hm'
end
section
variable {s:ae} {V:Int→List Int} {kN vN:Nat} {N:Int} {K:List (List Int)} {rc:RcT} {kp:List Int} {r:af} {i:Nat}
theorem Ai (l:List Int) (k:Nat):(l.drop k).take (l.length - k) = l.drop k:=by
 rw [List.take_of_length_le]
 rw [List.length_drop]
 omega
theorem oM {fuel:Nat} {ys A:List (List Int)} {l:List Int} {b:Bool} {y1:Int} (h:uX s V kp r) (hi:s.rules.getD i default = r) (hl:l.length ≤ 300) (h0:0 < l.length) (hlo:∀ y∈l,okI .i64 y)
  (hA:A.length = r.a.length) (hA0:A.getD 0 default = V (bV r 0)) (ha:0 < r.a.length) (ho:r.op ≠ 13)
  (hB:∀ j a x m,j < l.length→bW s V m→∃ m',bp fuel rc (i:Int) s.vars s.in_ s.out_ s.rules kN vN N K A (l.length:Int) m a x (j:Int) = co (i:Int) s.rules a x (j:Int) m' (l.getD j default)∧bW s V m') {m:List (List Int)} (hm:bW s V m) :
  ∃ m',cS fuel rc (i:Int) s.vars s.in_ s.out_ s.rules kN vN N K m A (l.length:Int) = some (if r.op = 6∨r.op = 15 then ro (e9 r.k ((V (bV r 0)).getD 0 default) l) else e9 r.k ((V (bV r 0)).getD 0 default) l,m')∧bW s V m':=by
 have e0:=h.a 0 ha (fun h=>absurd h ho)
 have c0:=km s (bV r 0)
 have l0:=e0.len
 obtain ⟨m',e,hm'⟩:=wi (ys:=l) (k:=r.k) (x:=(V (bV r 0)).getD 0 default) (A:=A) (db e0.ok 0) hlo hl (by rw [hi]) hB l.length 0 m (by omega) hm
 refine ⟨m',?_,hm'⟩
 unfold cS
 rw [hA0,iP (by omega)]
 rw [show (e9 r.k ((V (bV r 0)).getD 0 default) l).take 0 = [] from rfl,show pG r.k ((V (bV r 0)).getD 0 default) l 0 = (V (bV r 0)).getD 0 default from rfl] at e
 show (aZ (fun (z:List (List Int)×List Int×Int×Int)=>bp fuel rc (i:Int) s.vars s.in_ s.out_ s.rules kN vN N K A (l.length:Int) z.1 z.2.1 z.2.2.1 z.2.2.2) (m,[],(V (bV r 0)).getD 0 default,((0:Nat):Int))).bind _ = _
 rw [e]
 simp only [bSq]
 unfold dH
 simp only [tN,hi]
 have hlast:(if (0 ≤ (IntKind.wrap .i64 ((l.length:Int) - 1))∧(IntKind.wrap .i64 ((l.length:Int) - 1)) ≤ ((e9 r.k ((V (bV r 0)).getD 0 default) l).length:Int)) then (some ((((e9 r.k ((V (bV r 0)).getD 0 default) l).drop ((IntKind.wrap .i64 ((l.length:Int) - 1)).toNat)).take ((e9 r.k ((V (bV r 0)).getD 0 default) l).length - ((IntKind.wrap .i64 ((l.length:Int) - 1)).toNat))),m')) else none) = some (ro (e9 r.k ((V (bV r 0)).getD 0 default) l),m'):=by
  rw [wr (n:=(l.length:Int) - 1) (by omega) (by omega),ii,iP (by omega)]
  unfold ro
  rw [ii,show ((l.length:Int) - 1).toNat = l.length - 1 by omega]
  have:=Ai (e9 r.k ((V (bV r 0)).getD 0 default) l) (l.length - 1)
  rw [ii] at this
  rw [this]
 rw [hlast]
 by_cases o6:r.op = 6
 ·rw [iP o6,iP (.inl o6)]
 ·by_cases o15:r.op = 15
  ·rw [iN o6,iP o15,iP (.inr o15)]
  ·rw [iN o6,iN o15,iN (by omega)]
end
end Pam
