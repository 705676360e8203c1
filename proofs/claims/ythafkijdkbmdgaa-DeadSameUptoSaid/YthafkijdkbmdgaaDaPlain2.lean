/- The document makes of each rule what it makes, asking for what it needs. -/
import Derived.Test.YthafkijdkbmdgaaDaPlain1
import Derived.Test.YthafkijdkbmdgaaDaFun1
set_option linter.all false
namespace Pam
open Go
theorem Aj {s:ae} {V:Int→List Int} {kN vN:Nat} {N:Int} {K:List (List Int)} {rc:RcT} {kp:List Int} {r:af} {i:Nat} (h:uX s V kp r) (hi:s.rules.getD i default = r) (hil:i < s.rules.length) (hnr:s.rules.length ≤ 100000)
  (hr:∀ v∈cA r,u7 s V kN vN N K rc v) (hK:r.op = 13→Bn N kN K i kp) {fuel:Nat} (hf:24 ≤ fuel) {m:List (List Int)} (hm:bW s V m) :
  ∃ m',gD fuel rc (i:Int) s.vars s.in_ s.out_ s.rules kN vN N K m = some (mg s V kp r,m')∧bW s V m':=by
 have hop:=h.op
 have har:=h.ar
 have h3:r.a.length ≤ 3:=by have:=mS r.op;omega
 have hcs:r.op = 1∨r.op = 2∨r.op = 3∨r.op = 4∨r.op = 5∨r.op = 6∨r.op = 7∨r.op = 8∨r.op = 9∨r.op = 10∨r.op = 11∨r.op = 12∨r.op = 13∨r.op = 14∨r.op = 15∨r.op = 16:=by omega
 have E:∀ i,i < r.a.length→(r.op = 13→i = 0)→gE s V (bV r i):=h.a
 have ho:=h.g.o
 have ho':=ho
 have hn:=pH h.v ho
 have hc1:=km s r.out_
 unfold inV at ho'
 have cl:∀ v,inV s v→gE s V v→(V v).length ≤ 300∧0 < (V v).length:=fun v hv e=>by
  have:=pH h.v hv
  have:=km s v
  rw [e.len];omega
 have ain:∀ i,i < r.a.length→inV s (bV r i):=fun i hi=>h.g.a _ (aS hi)
 have T:14 ≤ r.op→∀ {n:Int} {k:Nat},(k:Int) < n→n ≤ 300→jY s n r.e ≠ 0→∀ {m},bW s V m→∃ m',dS fuel rc r.e (k:Int) s.vars s.in_ s.out_ s.rules kN vN N K m = some (qM V (k:Int) r.e,m')∧bW s V m':=fun ho n k hk hn ht m hm =>
  yP h.v (h.g.u ho) h.g.e ⟨by omega,hk⟩ hn h.e (h.p ho) (fun p hp hh=>hr _ (ou ho hp hh)) ht hf hm
 unfold gD
 rw [iP (inI hil)]
 simp only [tN,hi]
 rw [iP ho',bu,lq]
 simp only [bSq]
 by_cases o13:r.op = 13
 ·have p13:aO 13 = 2:=by decide
  rw [o13] at har
  obtain ⟨m1,e1,hm1⟩:=xd hr hi (by omega) o13 hm
  show ∃ m',(aZ (fun (x:List (List Int)×List (List Int)×Int)=>bk rc (i:Int) s.vars s.in_ s.out_ s.rules kN vN N K x.1 x.2.1 x.2.2) (m,[],((0:Nat):Int))).bind _ = _∧_
  rw [e1]
  simp only [bSq]
  refine ⟨m1,?_,hm1⟩
  have e0:=E 0 (by omega) (fun _=>rfl)
  have c0:=cl _ (ain 0 (by omega)) e0
  obtain ⟨k0,k1,k2⟩:=hK o13
  unfold bh
  simp only [tN,hi]
  rw [iP o13]
  simp only [mg,o13,Int.reduceEq,if_true,if_false,reduceIte]
  by_cases z:N > 0
  ·obtain ⟨q1,q2,q3,q4⟩:=k2 z
   rw [iP z,iP ⟨by omega,q2⟩,q3,iN q4,iN q4]
  ·rw [iN z,k1 (by omega),iP rfl]
   simp only [List.getD_cons_zero,List.length_cons,List.length_nil]
   rw [iP ⟨by omega,iL _ (by omega)⟩]
 obtain ⟨m1,e1,hm1⟩:=wh hr hi h3 o13 r.a.length 0 m (by omega) hm
 show ∃ m',(aZ (fun (x:List (List Int)×List (List Int)×Int)=>bk rc (i:Int) s.vars s.in_ s.out_ s.rules kN vN N K x.1 x.2.1 x.2.2) (m,e7 0 (fun u=>V (bV r u)),((0:Nat):Int))).bind _ = _∧_
 rw [e1]
 simp only [bSq]
 have hAl:(e7 r.a.length (fun u=>V (bV r u))).length = r.a.length:=jg _ _
 have hA:∀ j,j < r.a.length→(e7 r.a.length (fun u=>V (bV r u))).getD j default = V (bV r j):=fun j hj=>sG hj
 revert hAl hA
 generalize e7 r.a.length (fun u=>V (bV r u)) = A
 intro hAl hA
 have cells:(¬ r.op = 5∧¬ r.op = 12∧¬ r.op = 9∧¬ r.op = 6∧¬ r.op = 7∧¬ r.op = 15∧¬ r.op = 16)→∀ g:Nat→Int,(∀ j l m,j < clN s r.out_→l.length = j→bW s V m→∃ m',a8 fuel rc (i:Int) s.vars s.in_ s.out_ s.rules kN vN N K (clN s r.out_:Int) A m l (j:Int) = some (.inl (m',l ++ [g j],((j + 1:Nat):Int)))∧bW s V m') →
   ∃ m',bh fuel rc (i:Int) s.vars s.in_ s.out_ s.rules kN vN N K (clN s r.out_:Int) m1 A = some (e7 (clN s r.out_) g,m')∧bW s V m':=by
  intro ⟨a1,a2,a3,a4,a5,a6,a7⟩ g hB
  obtain ⟨m',e,hm'⟩:=uj g hn hB (clN s r.out_) 0 m1 (by omega) hm1
  refine ⟨m',?_,hm'⟩
  unfold bh
  simp only [tN,hi]
  rw [iN o13,iN a1,iN a2,iN a3,iN a4,iN a5,iN a6,nB a7]
  unfold bC
  rw [iN (by decide)]
  unfold eI
  show (aZ (fun (x:List (List Int)×List Int×Int)=>a8 fuel rc (i:Int) s.vars s.in_ s.out_ s.rules kN vN N K (clN s r.out_:Int) A x.1 x.2.1 x.2.2) (m1,e7 0 g,((0:Nat):Int))).bind _ = _
  rw [e]
  rfl
 rcases hcs with o | o | o | o | o | o | o | o | o | o | o | o | o | o | o | o <;> (rw [o] at har;simp only [mg,o,Int.reduceEq,if_true,if_false,reduceIte])
 ·have q:=qo (h.sh.h1 o)
  have r1:[r.n] = e7 (clN s r.out_) (fun _=>r.n):=by rw [q];rfl
  rw [r1]
  refine cells (by omega) _ fun j l m hj hl hm=>⟨m,?_,hm⟩
  unfold a8
  simp only [tN,hi]
  rw [iP (by omega),iP o,iP (iL _ (by omega)),wrs j (by omega)]
  rfl
 ·have hp:aO 2 = 1:=by decide
  have e0:=E 0 (by omega) (fun h=>by omega)
  have l0:(V (bV r 0)).length = clN s r.out_:=by rw [e0.len];exact kf (h.sh.h2 o)
  have r1:V (bV r 0) = e7 (clN s r.out_) (fun j=>(V (bV r 0)).getD j default):=by rw [← l0];exact uO _
  rw [r1]
  refine cells (by omega) _ fun j l m hj hl hm=>⟨m,?_,hm⟩
  unfold a8
  simp only [tN,hi]
  rw [hA 0 (by omega),iP (by omega),iN (by omega),iP o,iP ⟨by omega,by omega⟩,iP (iL _ (by omega)),wrs j (by omega)]
  rfl
 ·have hp:aO 3 = 1:=by decide
  have e0:=E 0 (by omega) (fun h=>by omega)
  have l0:(V (bV r 0)).length = clN s r.out_:=by rw [e0.len];exact kf (h.sh.h3 o)
  refine cells (by omega) _ fun j l m hj hl hm=>⟨m,?_,hm⟩
  unfold a8
  simp only [tN,hi]
  rw [hA 0 (by omega),iP (by omega),iN (by omega),iN (by omega),iP o,iP ⟨by omega,by omega⟩,(iK r.k _ 0 (db e0.ok j) om).2.1]
  simp only [bSq]
  rw [iP (iL _ (by omega)),wrs j (by omega)]
  rfl
 ·have hp:aO 4 = 2:=by decide
  have e0:=E 0 (by omega) (fun h=>by omega)
  have e1:=E 1 (by omega) (fun h=>by omega)
  obtain ⟨q0,q1⟩:=h.sh.h4 o
  have l0:(V (bV r 0)).length = clN s r.out_:=by rw [e0.len];exact kf q0
  have l1:(V (bV r 1)).length = clN s r.out_:=by rw [e1.len];exact kf q1
  refine cells (by omega) _ fun j l m hj hl hm=>⟨m,?_,hm⟩
  unfold a8
  simp only [tN,hi]
  rw [hA 0 (by omega),hA 1 (by omega),iP (by omega),iN (by omega),iN (by omega),iN (by omega),iP o,iP ⟨by omega,by omega,by omega,by omega⟩,(iK r.k _ _ (db e0.ok j) (db e1.ok j)).2.1]
  simp only [bSq]
  rw [iP (iL _ (by omega)),wrs j (by omega)]
  rfl
 ·have hp:aO 5 = 3:=by decide
  have c0:=cl _ (ain 0 (by omega)) (E 0 (by omega) (fun h=>by omega))
  have c1:=cl _ (ain 1 (by omega)) (E 1 (by omega) (fun h=>by omega))
  have c2:=cl _ (ain 2 (by omega)) (E 2 (by omega) (fun h=>by omega))
  refine ⟨m1,?_,hm1⟩
  unfold bh
  simp only [tN,hi]
  rw [hA 0 (by omega),hA 1 (by omega),hA 2 (by omega),iN o13,iP o,iP ⟨by omega,by omega⟩]
  by_cases z:(V (bV r 0)).getD 0 default = 0
  ·rw [iP z,iP ⟨by omega,iL _ (by omega)⟩,iP z]
  ·rw [iN z,iP ⟨by omega,iL _ (by omega)⟩,iN z]
 ·have hp:aO 6 = 2:=by decide
  have e1:=E 1 (by omega) (fun h=>by omega)
  have c1:=cl _ (ain 1 (by omega)) e1
  obtain ⟨m',e,hm'⟩:=oM (fuel:=fuel) (kN:=kN) (vN:=vN) (N:=N) (K:=K) (rc:=rc) (l:=V (bV r 1)) (A:=A) (ys:=[]) (b:=true) (y1:=0) h hi c1.1 c1.2 e1.ok hAl (hA 0 (by omega)) (by omega) o13 (fun j a x m hj hm=>⟨m,by
   unfold bp
   simp only [tN,hi]
   rw [hA 1 (by omega),iP (by omega),iP o,iP ⟨by omega,by omega⟩],hm⟩) hm1
  refine ⟨m',?_,hm'⟩
  unfold bh
  simp only [tN,hi]
  rw [iN o13,iN (by omega),iN (by omega),iN (by omega),iP o,eQ o]
  unfold bC
  simp only [tN,hi]
  rw [iP trivial,iP o,hA 1 (by omega),iP (by omega)]
  unfold cp
  simp only [tN,hi]
  rw [iN (by omega),e,iP (.inl o)]
 ·have hp:aO 7 = 2:=by decide
  have e1:=E 1 (by omega) (fun h=>by omega)
  have c1:=cl _ (ain 1 (by omega)) e1
  have l1:(V (bV r 1)).length = clN s r.out_:=by rw [e1.len];exact kf (h.sh.h7 o).2.1
  obtain ⟨m',e,hm'⟩:=oM (fuel:=fuel) (kN:=kN) (vN:=vN) (N:=N) (K:=K) (rc:=rc) (l:=V (bV r 1)) (A:=A) (ys:=[]) (b:=true) (y1:=0) h hi c1.1 c1.2 e1.ok hAl (hA 0 (by omega)) (by omega) o13 (fun j a x m hj hm=>⟨m,by
   unfold bp
   simp only [tN,hi]
   rw [hA 1 (by omega),iP (by omega),iN (by omega),iP o,iP ⟨by omega,by omega⟩],hm⟩) hm1
  refine ⟨m',?_,hm'⟩
  unfold bh
  simp only [tN,hi]
  rw [iN o13,iN (by omega),iN (by omega),iN (by omega),iN (by omega),iP o,eQ o]
  unfold bC
  simp only [tN,hi]
  rw [iP trivial,iN (by omega)]
  unfold cp
  simp only [tN,hi]
  rw [l1] at e
  rw [iN (by omega),e,iN (by omega)]
 ·have hp:aO 8 = 1:=by decide
  have c0:=cl _ (ain 0 (by omega)) (E 0 (by omega) (fun h=>by omega))
  refine cells (by omega) _ fun j l m hj hl hm=>⟨m,?_,hm⟩
  unfold a8
  simp only [tN,hi]
  rw [hA 0 (by omega),iP (by omega),iN (by omega),iN (by omega),iN (by omega),iN (by omega),iP o,iP ⟨by omega,by omega⟩,iP (iL _ (by omega)),wrs j (by omega)]
  rfl
 ·have hp:aO 9 = 3:=by decide
  have c1:=cl _ (ain 1 (by omega)) (E 1 (by omega) (fun h=>by omega))
  have c2:=cl _ (ain 2 (by omega)) (E 2 (by omega) (fun h=>by omega))
  refine ⟨m1,?_,hm1⟩
  unfold bh
  simp only [tN,hi]
  rw [hA 0 (by omega),hA 1 (by omega),hA 2 (by omega),iN o13,iN (by omega),iN (by omega),iP o,iP ⟨by omega,by omega,by omega,by omega,by omega⟩,we]
  rfl
 ·have hp:aO 10 = 3:=by decide
  have e0:=E 0 (by omega) (fun h=>by omega)
  have l0:(V (bV r 0)).length = clN s r.out_:=by rw [e0.len];exact kf (h.sh.h10 o).1
  have c1:=cl _ (ain 1 (by omega)) (E 1 (by omega) (fun h=>by omega))
  have c2:=cl _ (ain 2 (by omega)) (E 2 (by omega) (fun h=>by omega))
  refine cells (by omega) _ fun j l m hj hl hm=>⟨m,?_,hm⟩
  unfold a8
  simp only [tN,hi]
  rw [hA 0 (by omega),hA 1 (by omega),hA 2 (by omega),iP (by omega),iN (by omega),iN (by omega),iN (by omega),iN (by omega),iN (by omega),iP o,iP ⟨by omega,by omega⟩,iP ⟨by omega,by omega⟩,wrs j (by omega)]
  by_cases z:(j:Int) = (V (bV r 1)).getD 0 default
  ·rw [iP z.symm,iP ⟨by omega,by omega⟩,iP (iL _ (by omega)),iP z];rfl
  ·rw [iN (fun e=>z e.symm),iP (iL _ (by omega)),iN z];rfl
 ·have hp:aO 11 = 1:=by decide
  have e0:=E 0 (by omega) (fun h=>by omega)
  obtain ⟨q1,q2,q3,q4⟩:=h.sh.h11 o
  have l0:=e0.len
  have a0:=nt q1
  have a1:=nt q2
  have g0':nV s (bV r 0) ≤ 300:=(aL h.v (ain 0 (by omega))).2.2
  refine cells (by omega) _ fun j l m hj hl hm=>⟨m,?_,hm⟩
  unfold a8
  simp only [tN,hi]
  rw [hA 0 (by omega),iP (by omega),iN (by omega),iN (by omega),iN (by omega),iN (by omega),iN (by omega),iN (by omega),iP o,wr (n:=(j:Int) + r.n) (by omega) (by omega),iP ⟨by omega,by omega⟩,iP (iL _ (by omega)),wrs j (by omega)]
  rfl
 ·have hp:aO 12 = 2:=by decide
  have c0:=cl _ (ain 0 (by omega)) (E 0 (by omega) (fun h=>by omega))
  have c1:=cl _ (ain 1 (by omega)) (E 1 (by omega) (fun h=>by omega))
  refine ⟨m1,?_,hm1⟩
  unfold bh
  simp only [tN,hi]
  rw [hA 0 (by omega),hA 1 (by omega),iN o13,iN (by omega),iP o,iP ⟨by omega,iL _ (by omega),by omega,iL _ (by omega)⟩]
 ·exact absurd o o13
 ·have q:=h.sh.h14 o
  have hcc:(clN s r.out_:Int) = eU (nV s r.out_):=(lq s r.out_).symm
  refine cells (by omega) (fun j=>qM V (j:Int) r.e) fun j l m hj hl hm=>?_
  obtain ⟨m',e,hm'⟩:=T (by omega) (n:=eU (nV s r.out_)) (k:=j) (by omega) (by omega) q hm
  refine ⟨m',?_,hm'⟩
  unfold a8
  simp only [tN,hi]
  rw [iP (by omega),iN (by omega),iN (by omega),iN (by omega),iN (by omega),iN (by omega),iN (by omega),iN (by omega),iP o,e]
  simp only [bSq]
  rw [iP (iL _ (by omega)),wrs j (by omega)]
  rfl
 ·have hp:aO 15 = 1:=by decide
  obtain ⟨_,q1,q2,q3,q4⟩:=h.sh.h15 o
  have hlen:(ke V r.n.toNat r.e).length = r.n.toNat:=lT _ _ _
  have hcast:((ke V r.n.toNat r.e).length:Int) = r.n:=by omega
  obtain ⟨m',e,hm'⟩:=oM (fuel:=fuel) (kN:=kN) (vN:=vN) (N:=N) (K:=K) (rc:=rc) (l:=ke V r.n.toNat r.e) (A:=A) (ys:=[]) (b:=true) (y1:=0) h hi (by omega) (by omega) (ko fun i _=>(oL h.e (h.p (by omega)) q4).2) hAl (hA 0 (by omega)) (by omega) o13 (fun j a x m hj hm=>by
   rw [hlen] at hj
   obtain ⟨m',e,hm'⟩:=T (by omega) (n:=r.n) (k:=j) (by omega) (by omega) q4 hm
   refine ⟨m',?_,hm'⟩
   unfold bp
   simp only [tN,hi]
   rw [iP (by omega),iN (by omega),iN (by omega),e]
   simp only [bSq]
   rw [show (ke V r.n.toNat r.e).getD j default = qM V (j:Int) r.e from sG hj]) hm1
  refine ⟨m',?_,hm'⟩
  unfold bh
  simp only [tN,hi]
  rw [iN o13,iN (by omega),iN (by omega),iN (by omega),iN (by omega),iN (by omega),iP o,eQ o]
  unfold bC
  simp only [tN,hi]
  rw [iP trivial,iN (by omega)]
  unfold cp
  simp only [tN,hi]
  rw [hcast] at e
  rw [iP o,e,iP (.inr o)]
 ·have hp:aO 16 = 1:=by decide
  obtain ⟨_,q1,q2⟩:=h.sh.h16 o
  have a1:=nt q1
  have g0':nV s r.out_ ≤ 300:=(aL h.v ho).2.2
  have hlen:(ke V (clN s r.out_) r.e).length = clN s r.out_:=lT _ _ _
  obtain ⟨m',e,hm'⟩:=oM (fuel:=fuel) (kN:=kN) (vN:=vN) (N:=N) (K:=K) (rc:=rc) (l:=ke V (clN s r.out_) r.e) (A:=A) (ys:=[]) (b:=true) (y1:=0) h hi (by omega) (by omega) (ko fun i _=>(oL h.e (h.p (by omega)) q2).2) hAl (hA 0 (by omega)) (by omega) o13 (fun j a x m hj hm=>by
   rw [hlen] at hj
   obtain ⟨m',e,hm'⟩:=T (by omega) (n:=nV s r.out_) (k:=j) (by omega) (by omega) q2 hm
   refine ⟨m',?_,hm'⟩
   unfold bp
   simp only [tN,hi]
   rw [iP (by omega),iN (by omega),iN (by omega),e]
   simp only [bSq]
   rw [show (ke V (clN s r.out_) r.e).getD j default = qM V (j:Int) r.e from sG hj]) hm1
  refine ⟨m',?_,hm'⟩
  unfold bh
  simp only [tN,hi]
  rw [iN o13,iN (by omega),iN (by omega),iN (by omega),iN (by omega),iN (by omega),iN (by omega),eQ o]
  unfold bC
  simp only [tN,hi]
  rw [iP trivial,iN (by omega)]
  unfold cp
  simp only [tN,hi]
  rw [hlen] at e
  rw [iN (by omega),e,iN (by omega)]
theorem bW.set {s:ae} {V:Int→List Int} {m:List (List Int)} (g:∀ v∈s.in_,inV s v) (h:bW s V m) {v:Int} (hv:inV s v):bW s V (m.set v.toNat (V v))∧qO (m.set v.toNat (V v)) v = V v:=by
 have hl:=h.len
 have hv':=hv
 unfold inV at hv'
 have at_v:qO (m.set v.toNat (V v)) v = V v:=by
  unfold qO
  rw [List.getD_eq_getElem?_getD,List.getElem?_set_self (by omega)]
  rfl
 have at_w:∀ w,inV s w→w ≠ v→qO (m.set v.toNat (V v)) w = qO m w:=by
  intro w hw e
  unfold inV at hw
  unfold qO
  rw [List.getD_eq_getElem?_getD,List.getElem?_set_ne (by omega),← List.getD_eq_getElem?_getD]
 refine ⟨⟨by rw [List.length_set];exact hl,fun w hw=>?_,fun w hw=>?_⟩,at_v⟩
 ·by_cases e:w = v
  ·subst e;exact .inr at_v
  ·rw [at_w w hw e];exact h.at_ w hw
 ·by_cases e:w = v
  ·subst e;exact at_v
  ·rw [at_w w (g w hw) e];exact h.i w hw
def uk (s:ae) (P:Int→List Int) (N:Int) (K:List (List Int)):Prop :=
 K.length = s.rules.length∧0 ≤ N∧∀ i,i < s.rules.length→(rl s i).op = 13→Bn N K.length K i (j3 P (rl s i))
section
variable {s A:ae} {P W V:Int→List Int} {N:Int} {K:List (List Int)}
theorem wj {fuel n vN:Nat} {kN:Nat} (hvN:vN = s.vars.length) {v:Int} (hv:inV s v) {m:List (List Int)} (hm:bW s V m) (hk:qO m v = V v) (hne:V v ≠ []) :
  bN fuel (n + 1) v s.vars s.in_ s.out_ s.rules kN vN N K m = some (V v,m):=by
 have hl:=hm.len
 unfold inV at hv
 have hk':m.getD v.toNat default = V v:=hk
 show dU fuel _ v s.vars s.in_ s.out_ s.rules kN vN N K m = _
 unfold dU
 rw [iP ⟨by omega,by omega⟩,hk',iN hne,iN hne]
theorem u9 {fuel:Nat} {rcf:RcT} {kN vN:Nat} {v:Int} {m:List (List Int)} (hn:s.rules.length ≤ 400):∀ (k i:Nat),i + k ≤ s.rules.length→(∀ j,i ≤ j→j < i + k→(rl s j).out_ ≠ v) →
  aZ (fun (x:List (List Int)×Int)=>bK fuel rcf v s.vars s.in_ s.out_ s.rules kN vN N K x.1 x.2) (m,(i:Int)) = aZ (fun (x:List (List Int)×Int)=>bK fuel rcf v s.vars s.in_ s.out_ s.rules kN vN N K x.1 x.2) (m,((i + k:Nat):Int))
 | 0,i,_,_=>rfl
 | k + 1,i,hi,h=>by
  have hil:i < s.rules.length:=by omega
  have hst:bK fuel rcf v s.vars s.in_ s.out_ s.rules kN vN N K m (i:Int) = some (.inl (m,((i + 1:Nat):Int))):=by
   unfold bK
   simp only [tN]
   rw [iP (ltI hil),iP (inI hil),iN (show ¬ (s.rules.getD i default).out_ = v from h i (by omega) (by omega)),wrs i (by omega)]
  rw [cH (s:=(m,(i:Int))) hst,u9 hn k (i + 1) (by omega) (fun j h1 h2=>h j (by omega) (by omega)),show i + 1 + k = i + (k + 1) by omega]
theorem B2 (gs:dM s) (hs:s.ok) (gA:dM A) (hA:A.ok) (sA:jZ A) (hsub:nu s A) (F:yL s P W V) (hP:mj s P) (E:∀ v∈bt A A.rules.length,gE s V v) (hK:uk s P N K) {fuel:Nat} (hf:24 ≤ fuel) :
  ∀ (p:Nat),p ≤ A.rules.length→∀ n,p + 1 ≤ n→∀ v∈bt A p,u7 s V K.length s.vars.length N K (bN fuel n) v:=by
 have hnr:=gs.h.nr
 intro p
 induction p with
 | zero =>
  intro _ n hn v hv m hm
  obtain ⟨n,rfl⟩:∃ k,n = k + 1:=⟨n - 1,by omega⟩
  have hi:v∈s.in_:=by rw [hsub.i];simpa [bt] using hv
  have hin:inV s v:=gs.h.i _ hi
  have e:=E v (by unfold bt;rw [List.mem_append];left;rw [← hsub.i];exact hi)
  have hne:V v ≠ []:=fun h=>by
   have:=e.len;rw [h] at this;have:=km s v;simp at *;omega
  exact ⟨m,wj rfl hin hm (hm.i v hi) hne,hm⟩
 | succ p ih =>
  intro hp n hn v hv m hm
  have hpl:p < A.rules.length:=by omega
  rw [lQ A hpl,List.mem_append,List.mem_singleton] at hv
  rcases hv with hv | hv
  ·exact ih (by omega) n (by omega) v hv m hm
  obtain ⟨n,rfl⟩:∃ k,n = k + 1:=⟨n - 1,by omega⟩
  obtain ⟨q,hq,eq⟩:=hsub.r p hpl
  have hv':v = (rl s q).out_:=by rw [eq];exact hv
  have hmade:v∈bt A A.rules.length:=by
   rw [iJ A _ (Nat.le_refl _)]
   exact .inr ⟨p,hpl,hv.symm⟩
  have e:=E v hmade
  have hne:V v ≠ []:=fun h=>by
   have:=e.len;rw [h] at this;have:=km s v;simp at *;omega
  have Kq:=ow gs hs hq
  have hin:inV s v:=by rw [hv'];exact Kq.g.o
  rcases hm.at_ v hin with h0 | h0
  ·
   have hneed:∀ u∈cA (rl s q),u∈bt A p:=fun u hu=>sA p hpl u (by rw [eq] at hu;exact hu)
   have hE:∀ u∈cA (rl s q),gE s V u:=fun u hu=>E u (by
    have:=hneed u hu
    rw [iJ A _ (by omega)] at this ⊢
    rcases this with h | ⟨k,hk,h⟩
    ·exact .inl h
    ·exact .inr ⟨k,by omega,h⟩)
   have R:=Kq.ok hE (xP gs hs hP hq)
   obtain ⟨m',e1,hm'⟩:=Aj (rc:=bN fuel n) (N:=N) (K:=K) (kN:=K.length) (vN:=s.vars.length) R rfl hq (by omega) (fun u hu=>ih (by omega) n (by omega) u (hneed u hu)) (fun o=>hK.2.2 q hq o) hf hm
   have hfit:=F.r q hq
   rw [← hv'] at hfit
   rw [← hfit] at e1
   obtain ⟨hm2,hat⟩:=hm'.set gs.h.i hin
   have hl:=hm.len
   have hl2:=hm'.len
   have hin':=hin
   unfold inV at hin'
   have other:∀ j,j < s.rules.length→j ≠ q→(rl s j).out_ ≠ v:=fun j hj hne h=>hne (mU gs hq hj (h.trans hv'))
   have hst:bK fuel (bN fuel n) v s.vars s.in_ s.out_ s.rules K.length s.vars.length N K m (q:Int) = some (.inl (m'.set v.toNat (V v),((q + 1:Nat):Int))):=by
    unfold bK
    simp only [tN]
    rw [iP (ltI hq),iP (inI hq),iP (show (s.rules.getD q default).out_ = v from hv'.symm),e1]
    simp only [bSq]
    rw [iP ⟨by omega,hne⟩,wrs q (by omega)]
   have s1:=u9 (s:=s) (N:=N) (K:=K) (fuel:=fuel) (rcf:=bN fuel n) (kN:=K.length) (vN:=s.vars.length) (v:=v) (m:=m) hnr q 0 (by omega) (fun j h1 h2=>other j (by omega) (by omega))
   have s2:=u9 (s:=s) (N:=N) (K:=K) (fuel:=fuel) (rcf:=bN fuel n) (kN:=K.length) (vN:=s.vars.length) (v:=v) (m:=m'.set v.toNat (V v)) hnr (s.rules.length - (q + 1)) (q + 1) (by omega) (fun j h1 h2=>other j (by omega) (by omega))
   rw [show q + 1 + (s.rules.length - (q + 1)) = s.rules.length by omega] at s2
   rw [show 0 + q = q by omega] at s1
   have hend:aZ (fun (x:List (List Int)×Int)=>bK fuel (bN fuel n) v s.vars s.in_ s.out_ s.rules K.length s.vars.length N K x.1 x.2) (m,((0:Nat):Int)) = some (m'.set v.toNat (V v)):=by
    rw [s1,cH (s:=(m,(q:Int))) hst,s2]
    refine cB ?_
    show bK fuel (bN fuel n) v s.vars s.in_ s.out_ s.rules K.length s.vars.length N K _ _ = _
    unfold bK
    rw [iN (bm _)]
   refine ⟨m'.set v.toNat (V v),?_,hm2⟩
   show dU fuel _ v s.vars s.in_ s.out_ s.rules K.length s.vars.length N K m = _
   unfold dU
   have h0':m.getD v.toNat default = []:=h0
   rw [iP ⟨by omega,by omega⟩,iP h0']
   show (aZ (fun (x:List (List Int)×Int)=>bK fuel (bN fuel n) v s.vars s.in_ s.out_ s.rules K.length s.vars.length N K x.1 x.2) (m,((0:Nat):Int))).bind _ = _
   rw [hend]
   simp only [bSq]
   unfold eu
   have hat':(m'.set v.toNat (V v)).getD v.toNat default = V v:=hat
   rw [iP (by rw [List.length_set];omega),hat',iN hne]
  ·exact ⟨m,wj rfl hin hm h0 hne,hm⟩
end
theorem wk {s:ae} (hv:ew s) {l:List Int} (hl:∀ x∈l,inV s x) (hb:l.length ≤ 1000):kH s l = some (qS s l l.length:Int):=by
 have k:=kJ (S:=Int×Int) (fun i=>((qS s l i:Int),(i:Int))) (body:=fun x=>dE s l x.1 x.2) l.length (qS s l l.length:Int) (fun i hi=>by
  show dE s l _ (i:Int) = _
  have g:=hl _ (aS hi)
  have m:=ox hv hl i (by omega)
  have c:=pH hv g
  unfold inV at g
  unfold dE
  rw [iP (ltI hi)]
  simp only [tN]
  rw [iP ⟨inI hi,g⟩,bu,lq]
  simp only [bSq]
  rw [wr (by omega) (by omega),wrs i (by omega),kg s l hi]
  rfl) (by
  show dE s l _ (l.length:Int) = _
  unfold dE
  rw [iN (bm _)])
 unfold kH
 show (aZ (fun (x:Int×Int)=>dE s l x.1 x.2) (((qS s l 0:Nat):Int),((0:Nat):Int))).bind _ = _
 rw [k]
 rfl
theorem xe {s:ae} (g:md s) {inn:List Int} (hl:inn.length = ofI s s.in_.length) {i:Nat} (hi:i < s.in_.length) :
  aZ (fun (x:Int×Int)=>cM s inn (i:Int) x.1 x.2) ((ofI s i:Int),0) = some (match dO (clN s (ivI s i)) (sZ s inn i) () with | .inl _=>.inl ((ofI s i + clN s (ivI s i):Nat):Int) | .inr z=>.inr z):=by
 have h1:ofI s (i + 1) = ofI s i + clN s (ivI s i):=kg s s.in_ hi
 have h2:ofI s (i + 1) ≤ ofI s s.in_.length:=rK s s.in_ (by omega) (Nat.le_refl _)
 have hb:=ox g.v g.i s.in_.length (Nat.le_refl _)
 have hni:=g.ni
 have hb':ofI s s.in_.length ≤ 120000:=by unfold ofI;omega
 have hc:=pH g.v (g.i _ (aS hi))
 have k:=uN (S:=Int×Int) (fun j=>(((ofI s i + j:Nat):Int),(j:Int))) (body:=fun x=>cM s inn (i:Int) x.1 x.2) (clN s (ivI s i)) (sZ s inn i) (((ofI s i + clN s (ivI s i):Nat):Int)) (fun j hj=>by
  show cM s inn (i:Int) ((ofI s i + j:Nat):Int) (j:Int) = _
  unfold cM
  simp only [tN]
  rw [bu,lq]
  simp only [bSq]
  rw [show clN s (s.in_.getD i default) = clN s (ivI s i) from rfl,iP (by omega),wrs (ofI s i + j) (by omega),wrs j (by omega),iP (show 0 ≤ ((ofI s i + j:Nat):Int)∧((ofI s i + j:Nat):Int) < (inn.length:Int) by omega)]
  unfold sZ
  show (if (vOf s (ivI s i)).elem = 98 then _ else _) = _
  by_cases c1:(vOf s (ivI s i)).elem = 98
  ·rw [iP c1]
   by_cases c2:inn.getD (ofI s i + j) default = 0
   ·rw [iN (by simpa using c2),iN (fun h=>h.2.1 c2)];rfl
   ·rw [iP c2]
    by_cases c3:inn.getD (ofI s i + j) default = 1
    ·rw [iN (by simpa using c3),iN (fun h=>h.2.2 c3)];rfl
    ·rw [iP c3,iP ⟨c1,c2,c3⟩,vI];rfl
  ·rw [iN c1,iN (fun h=>c1 h.1)];rfl) (by
  show cM s inn (i:Int) ((ofI s i + clN s (ivI s i):Nat):Int) (clN s (ivI s i):Int) = _
  unfold cM
  simp only [tN]
  rw [bu,lq]
  simp only [bSq]
  rw [show clN s (s.in_.getD i default) = clN s (ivI s i) from rfl,iN (by omega)])
 have k':aZ (fun (x:Int×Int)=>cM s inn (i:Int) x.1 x.2) ((ofI s i:Int),0) = _:=k
 rw [k']
 rcases Af (clN s (ivI s i)) (sZ s inn i) (fun _ z=>z) (((ofI s i + clN s (ivI s i):Nat):Int)) () with ⟨j,z,_,_,e1,e2⟩ | ⟨e1,e2⟩
 all_goals
  rw [show (fun j=>Option.map (fun z=>z) (sZ s inn i j)) = sZ s inn i from funext fun j=>by cases sZ s inn i j <;> rfl] at e1
  rw [e1,e2]
theorem s9 {s:ae} (g:md s) (inn:List Int):jV s inn = some (ml s inn):=by
 have hni:=g.ni
 unfold jV
 rw [wk g.v g.i (by omega)]
 simp only [bSq]
 by_cases hl:inn.length = ofI s s.in_.length
 ·rw [iN (by unfold ofI at hl;omega)]
  have hb:=ox g.v g.i s.in_.length (Nat.le_refl _)
  have hb':ofI s s.in_.length ≤ 120000:=by unfold ofI;omega
  have k:=uN (S:=Int×Int) (fun i=>((ofI s i:Int),(i:Int))) (body:=fun x=>di s inn x.1 x.2) s.in_.length (xa s inn) () (fun i hi=>by
   show di s inn (ofI s i:Int) (i:Int) = _
   have gi:=g.i _ (aS hi)
   have h1:ofI s (i + 1) = ofI s i + clN s (ivI s i):=kg s s.in_ hi
   unfold inV at gi
   unfold di
   rw [iP (ltI hi)]
   simp only [tN]
   rw [iP ⟨inI hi,gi⟩,xe g hl hi]
   unfold xa
   cases hu:dO (clN s (ivI s i)) (sZ s inn i) () with
   | inr z=>rfl
   | inl u =>
    simp only [bSq,Sum.elim_inl]
    unfold fo
    rw [wrs i (by omega),h1]) (by
   show di s inn _ (s.in_.length:Int) = _
   unfold di
   rw [iN (bm _)])
  show (aZ (fun (x:Int×Int)=>di s inn x.1 x.2) (((ofI s 0:Nat):Int),((0:Nat):Int))).bind _ = _
  rw [k]
  unfold ml
  rw [iN (not_not_intro hl)] <;> (cases dO s.in_.length (xa s inn) () <;> rfl)
 ·rw [iP (by unfold ofI at hl;omega),vI]
  unfold ml
  rw [iP hl]
  rfl
section
variable {s A:ae} {P:Int→List Int} {N:Int} {K C:List (List Int)}
theorem xf (g:md s) {inn:List Int} (hl:inn.length = ofI s s.in_.length) :
  aZ (fun (x:List (List Int)×Int×Int)=>ci inn s.vars s.in_ x.1 x.2.1 x.2.2) (List.replicate s.vars.length [],0,0) = some (inL s inn s.in_.length):=by
 have hni:=g.ni
 have hb:=ox g.v g.i s.in_.length (Nat.le_refl _)
 have hb':ofI s s.in_.length ≤ 120000:=by unfold ofI;omega
 have k:=kJ (S:=List (List Int)×Int×Int) (fun i=>(inL s inn i,(ofI s i:Int),(i:Int))) (body:=fun x=>ci inn s.vars s.in_ x.1 x.2.1 x.2.2) s.in_.length (inL s inn s.in_.length) (fun i hi=>by
  show ci inn s.vars s.in_ (inL s inn i) (ofI s i:Int) (i:Int) = _
  have gi:=g.i _ (aS hi)
  have gi':=gi
  have h1:ofI s (i + 1) = ofI s i + clN s (ivI s i):=kg s s.in_ hi
  have h2:ofI s (i + 1) ≤ ofI s s.in_.length:=rK s s.in_ (by omega) (Nat.le_refl _)
  have hL:=(u4 g inn i (by omega)).len
  have hc:=xQ hl hi
  have hp:=km s (ivI s i)
  have hw2:IntKind.wrap .i64 ((ofI s i:Int) + (clN s (ivI s i):Int)) = ((ofI s i + clN s (ivI s i):Nat):Int):=by
   rw [wr (by omega) (by omega)];omega
  have hdef:((inn.take (ofI s i + clN s (ivI s i))).drop (ofI s i)) = inC s inn i:=rfl
  unfold inV at gi'
  unfold ci
  rw [iP (ltI hi)]
  simp only [tN]
  rw [iP ⟨inI hi,gi'⟩,bu,lq]
  simp only [bSq]
  rw [show clN s (s.in_.getD i default) = clN s (ivI s i) from rfl,hw2]
  simp only [tN]
  rw [hdef,iP ⟨by omega,by omega,fun e=>by rw [e] at hc;simp at hc;omega⟩,wrs i (by omega),h1]
  rfl) (by
  show ci inn s.vars s.in_ _ _ (s.in_.length:Int) = _
  unfold ci
  rw [iN (bm _)])
 exact k
theorem Bc (g:md s) (inn:List Int) {V:Int→List Int} (hV:∀ v∈s.in_,V v = inE s inn v):bW s V (inL s inn s.in_.length):=by
 have R:=u4 g inn s.in_.length (Nat.le_refl _)
 have key:∀ i,i ≤ s.in_.length→∀ v,(¬ v∈s.in_.take i→inW s inn i v = []):=by
  intro i
  induction i with
  | zero=>intro _ v _;rfl
  | succ i ih =>
   intro h v hv
   rw [cE _ (by omega),List.mem_append,List.mem_singleton] at hv
   show upd _ _ _ v = _
   rw [pJ _ (show v ≠ ivI s i from fun e=>hv (.inr e))]
   exact ih (by omega) v (fun e=>hv (.inl e))
 refine ⟨R.len,fun v hv=>?_,fun v hv=>?_⟩
 ·by_cases e:v∈s.in_
  ·right;rw [R.at_ v hv,hV v e];rfl
  ·left;rw [R.at_ v hv];exact key _ (Nat.le_refl _) v (fun h=>e (List.mem_of_mem_take h))
 ·rw [R.at_ v (g.i v hv),hV v hv];rfl
theorem yQ {inn:List Int} (c:(ml s inn).code = 0):ml s inn = aw.mk 0 0:=by
 have hlen:=s6 c
 unfold ml at c ⊢
 rw [iN (not_not_intro hlen)] at c ⊢
 rcases cL s.in_.length (xa s inn) () with ⟨e,_⟩ | ⟨i,z,_,hf,e⟩
 ·rw [e]
 ·rw [e] at c
  have:=yM hf
  simp only at c
  omega
theorem Ak {V:Int→List Int} {l:List Int} (h:∀ v∈l,(V v).length ≤ 300):((l.map V).flatten).length ≤ 300 * l.length:=by
 induction l with
 | nil=>simp
 | cons v l ih =>
  have:=ih fun w hw=>h w (by simp [hw])
  have:=h v (by simp)
  rw [List.map_cons,List.flatten_cons,List.length_append,List.length_cons]
  omega
theorem rr (g:dM s) {V:Int→List Int} {fuel:Nat} {L:List (List Int)} (hrc:∀ v∈s.out_,u7 s V K.length L.length N K (iG fuel) v) (hl:∀ v∈s.out_,(V v).length ≤ 300):∀ (k i:Nat) (m:List (List Int)),i + k = s.out_.length→bW s V m →
  ∃ m',aZ (fun (x:List (List Int)×List Int×Int)=>cg fuel s.vars s.in_ s.out_ s.rules N K L x.1 x.2.1 x.2.2) (m,((s.out_.take i).map V).flatten,(i:Int)) = some (m',nO s V)∧bW s V m'
 | 0,i,m,hi,hm=>by
  obtain rfl:i = s.out_.length:=by omega
  refine ⟨m,cB ?_,hm⟩
  show cg fuel s.vars s.in_ s.out_ s.rules N K L m _ _ = _
  unfold cg
  rw [iN (bm _),List.take_length]
  rfl
 | k + 1,i,m,hi,hm=>by
  have hil:i < s.out_.length:=by omega
  have hno:=g.h.no
  obtain ⟨m',e,hm'⟩:=hrc _ (aS hil) m hm
  have q1:=Ak (V:=V) (l:=s.out_.take i) (fun v hv=>hl v (List.mem_of_mem_take hv))
  have q2:=hl _ (aS hil)
  rw [List.length_take] at q1
  have hst:cg fuel s.vars s.in_ s.out_ s.rules N K L m (((s.out_.take i).map V).flatten) (i:Int) = some (.inl (m',((s.out_.take (i + 1)).map V).flatten,((i + 1:Nat):Int))):=by
   unfold cg
   rw [iP (ltI hil),iP (inI hil)]
   simp only [tN]
   rw [e]
   simp only [bSq]
   rw [iP (iL _ (by omega)),wrs i (by omega),cE _ hil,List.map_append,List.flatten_append]
   simp
  rw [cH (s:=(m,((s.out_.take i).map V).flatten,(i:Int))) hst]
  exact rr g hrc hl k (i + 1) m' (by omega) hm'
theorem nw (g:dM s) (hs:s.ok) {V:Int→List Int} {fuel:Nat} {L:List (List Int)} (hrc:∀ j,j < s.rules.length→(rl s j).op = 13→u7 s V K.length L.length N K (iG fuel) (bV (rl s j) 1)) (hl:∀ j,j < s.rules.length→(rl s j).op = 13→(V (bV (rl s j) 1)).length ≤ 300∧V (bV (rl s j) 1) ≠ []):∀ (k i:Nat) (m K':List (List Int)),i + k = s.rules.length→bW s V m→K'.length = s.rules.length→(∀ j,j < i→(rl s j).op = 13→K'.getD j default = V (bV (rl s j) 1)) →
  ∃ m' K2,aZ (fun (x:List (List Int)×List (List Int)×Int)=>bU fuel s.vars s.in_ s.out_ s.rules N K L x.1 x.2.1 x.2.2) (m,K',(i:Int)) = some (m',K2)∧K2.length = s.rules.length∧(∀ j,j < s.rules.length→(rl s j).op = 13→K2.getD j default = V (bV (rl s j) 1))∧m'.length = s.vars.length
 | 0,i,m,K',hi,hm,h1,h2=>by
  obtain rfl:i = s.rules.length:=by omega
  refine ⟨m,K',cB ?_,h1,h2,hm.len⟩
  show bU fuel s.vars s.in_ s.out_ s.rules N K L m _ _ = _
  unfold bU
  rw [iN (bm _)]
 | k + 1,i,m,K',hi,hm,h1,h2=>by
  have hil:i < s.rules.length:=by omega
  have hnr:=g.h.nr
  by_cases o:(rl s i).op = 13
  ·have har:=(ow g hs hil).ar
   rw [o] at har
   have p13:aO 13 = 2:=by decide
   obtain ⟨m',e,hm'⟩:=hrc i hil o m hm
   obtain ⟨q1,q2⟩:=hl i hil o
   have hst:bU fuel s.vars s.in_ s.out_ s.rules N K L m K' (i:Int) = some (.inl (m',K'.set i (V (bV (rl s i) 1)),((i + 1:Nat):Int))):=by
    unfold bU
    rw [iP (ltI hil),iP (inI hil)]
    simp only [tN]
    rw [iP (show (s.rules.getD i default).op = 13 from o),iP (show 0 ≤ 1∧1 < ((s.rules.getD i default).a.length:Int) from ⟨by omega,by unfold rl at har;omega⟩),show (s.rules.getD i default).a.getD 1 default = bV (rl s i) 1 from rfl,e]
    simp only [bSq]
    rw [iP ⟨iL _ (by omega),by omega,by omega⟩,iP q2,wrs i (by omega)]
   rw [cH (s:=(m,K',(i:Int))) hst]
   refine nw g hs hrc hl k (i + 1) m' _ (by omega) hm' (by rw [List.length_set];exact h1) (fun j hj oj=>?_)
   by_cases e2:j = i
   ·subst e2
    rw [List.getD_eq_getElem?_getD,List.getElem?_set_self (by omega)]
    rfl
   ·rw [List.getD_eq_getElem?_getD,List.getElem?_set_ne (by omega),← List.getD_eq_getElem?_getD]
    exact h2 j (by omega) oj
  ·have hst:bU fuel s.vars s.in_ s.out_ s.rules N K L m K' (i:Int) = some (.inl (m,K',((i + 1:Nat):Int))):=by
    unfold bU
    rw [iP (ltI hil),iP (inI hil)]
    simp only [tN]
    rw [iN (show ¬ (s.rules.getD i default).op = 13 from o),wrs i (by omega)]
   rw [cH (s:=(m,K',(i:Int))) hst]
   refine nw g hs hrc hl k (i + 1) m K' (by omega) hm h1 (fun j hj oj=>?_)
   by_cases e2:j = i
   ·subst e2;exact absurd oj o
   ·exact h2 j (by omega) oj
theorem ul (gs:dM s) (hs:s.ok) (gA:dM A) (hA:A.ok) (sA:jZ A) (h1:nu s A) (h2:nu A s) (hP:mj s P) (hK:uk s P N K) (hN:N ≤ 1000) {fuel:Nat} (hf:500 ≤ fuel) (inn:List Int) (hin:∀ y∈inn,okI .i64 y) :
  ∃ N' K' C',fp fuel inn s.vars s.in_ s.out_ s.rules N K C = some (if (ml s inn).code = 0 then nO s (nM A P (inE s inn)) else [],ml s inn,N',K',C')∧((ml s inn).code ≠ 0→N' = N∧K' = K) ∧
   ((ml s inn).code = 0→uk s (nM A P (inE s inn)) N' K'∧mj s (nM A P (inE s inn))∧N' = N + 1):=by
 have hnv:=gs.h.nv
 have hnr:=gs.h.nr
 have hnrA:=gA.h.nr
 unfold fp
 rw [s9 gs.h]
 simp only [bSq]
 by_cases c:(ml s inn).code = 0
 ·rw [iN (by simpa using c),iP ⟨by omega,mf (by omega) (by omega)⟩,iP c]
  have hIn:=xf gs.h (s6 c)
  have hW:=Ad c hin
  obtain ⟨hE,hF⟩:=u5 h1 inn
  have hPA:mj A P:=fun i hi o=>by
   obtain ⟨q,hq,e⟩:=h1.r i hi
   rw [← e] at o ⊢
   rcases hP q hq o with h | h
   ·exact .inl h
   ·exact .inr (h.vars h1.v)
  have F:=wa h2 (P:=P) (P':=P) (W:=inE s inn) (fun j _=>rfl) (sY gA hA sA P (inE s inn))
  have EA:∀ v∈bt A A.rules.length,gE A (nM A P (inE s inn)) v:=w9 gA hA sA hPA (fun v hv=>(hW v (by rw [h1.i];exact hv)).vars h1.v) A.rules.length (Nat.le_refl _)
  have E:∀ v∈bt A A.rules.length,gE s (nM A P (inE s inn)) v:=fun v hv=>(EA v hv).vars h2.v
  revert F E
  clear EA
  generalize nM A P (inE s inn) = V
  intro F E
  have rc:=B2 gs hs gA hA sA h1 F hP E hK (fuel:=fuel) (by omega) A.rules.length (Nat.le_refl _) fuel (by omega)
  have hM:=Bc gs.h inn F.i
  have hLl:(inL s inn s.in_.length).length = s.vars.length:=hM.len
  have hmade:∀ v∈bt s s.rules.length,v∈bt A A.rules.length:=fun v hv=>by
   rw [iJ _ _ (Nat.le_refl _)] at hv ⊢
   rcases hv with h | ⟨k,hk,h⟩
   ·exact .inl (by rw [← h1.i];exact h)
   ·obtain ⟨q,hq,e⟩:=h2.r k hk
    refine .inr ⟨q,hq,?_⟩
    have e':A.rules.getD q default = s.rules.getD k default:=e
    rw [e'];exact h
  have hle:∀ v∈bt s s.rules.length,inV s v→(V v).length ≤ 300∧V v ≠ []:=fun v hv hv2=>by
   have q:=(E v (hmade v hv)).len
   have:=pH gs.h.v hv2
   have:=km s v
   refine ⟨by omega,fun e=>?_⟩
   rw [e] at q
   simp at q
   omega
  have hkin:∀ j,j < s.rules.length→(rl s j).op = 13→bV (rl s j) 1∈bt s s.rules.length∧inV s (bV (rl s j) 1):=fun j hj o=>by
   have K:=ow gs hs hj
   have har:=K.ar
   rw [o] at har
   have p13:aO 13 = 2:=by decide
   exact ⟨gs.u j hj _ (kK (aS (by unfold rl at har;omega))),K.g.a _ (aS (by omega))⟩
  obtain ⟨m1,e1,hm1⟩:=rr (N:=N) (K:=K) (L:=inL s inn s.in_.length) gs (fuel:=fuel) (fun v hv=>by rw [hLl];exact rc v (hmade v (gs.o v hv))) (fun v hv=>(hle v (gs.o v hv) (gs.h.o v hv)).1) s.out_.length 0 _ (by omega) hM
  obtain ⟨m2,K2,e2,k1,k2,k3⟩:=nw (N:=N) (K:=K) (L:=inL s inn s.in_.length) gs hs (fuel:=fuel) (V:=V) (fun j hj o=>by rw [hLl];exact rc _ (hmade _ (hkin j hj o).1)) (fun j hj o=>hle _ (hkin j hj o).1 (hkin j hj o).2) s.rules.length 0 m1 (List.replicate s.rules.length []) (by omega) hm1 (by simp) (fun j hj=>by omega)
  obtain ⟨_,hN0,_⟩:=hK
  refine ⟨N + 1,K2,(m2.take (inL s inn s.in_.length).length),?_,fun h=>absurd c h,fun _=>⟨⟨k1,by omega,fun i hi o=>?_⟩,fun i hi o=>.inr (E _ (hmade _ (hkin i hi o).1)),rfl⟩⟩
  ·show (aZ (fun (x:List (List Int)×Int×Int)=>ci inn s.vars s.in_ x.1 x.2.1 x.2.2) (List.replicate s.vars.length [],0,0)).bind _ = _
   rw [hIn]
   simp only [bSq]
   unfold dX
   show (aZ (fun (x:List (List Int)×List Int×Int)=>cg fuel s.vars s.in_ s.out_ s.rules N K (inL s inn s.in_.length) x.1 x.2.1 x.2.2) (inL s inn s.in_.length,[],((0:Nat):Int))).bind _ = _
   have e1':aZ (fun (x:List (List Int)×List Int×Int)=>cg fuel s.vars s.in_ s.out_ s.rules N K (inL s inn s.in_.length) x.1 x.2.1 x.2.2) (inL s inn s.in_.length,[],((0:Nat):Int)) = some (m1,nO s V):=e1
   rw [e1']
   simp only [bSq]
   unfold dW
   rw [iP ⟨by omega,mf (by omega) (by omega)⟩]
   show (aZ (fun (x:List (List Int)×List (List Int)×Int)=>bU fuel s.vars s.in_ s.out_ s.rules N K (inL s inn s.in_.length) x.1 x.2.1 x.2.2) (m1,List.replicate s.rules.length [],((0:Nat):Int))).bind _ = _
   rw [e2]
   simp only [bSq]
   unfold dV
   rw [yQ c,wr (by omega) (by omega),iP (by omega)]
  ·have hk:j3 V (rl s i) = V (bV (rl s i) 1):=by unfold j3;rw [iP o]
   rw [hk]
   exact ⟨by omega,fun h=>by omega,fun _=>⟨by omega,by omega,k2 i hi o,(hle _ (hkin i hi o).1 (hkin i hi o).2).2⟩⟩
 ·rw [iP c,iN c]
  exact ⟨N,K,C,rfl,fun _=>⟨rfl,rfl⟩,fun h=>absurd h c⟩
end
def kx (l:List Bool) (n:Nat):List Nat:=(List.range n).filter (fun i=>l.getD i default)
theorem Bo (s:ae) (l:List Bool):∀ i,pk s l i = (kx l i).map (fun k=>s.rules.getD k default)
 | 0=>rfl
 | i + 1=>by
  rw [rJ,Bo s l i]
  unfold kx
  rw [List.range_succ,List.filter_append,List.map_append]
  by_cases c:l.getD i default = true
  ·rw [iP c,List.filter_cons_of_pos (p:=fun i=>l.getD i default) c];rfl
  ·rw [iN c,List.filter_cons_of_neg (p:=fun i=>l.getD i default) c];simp
theorem lr (s:ae) (l:List Bool):ef s l = eJ s (kx l s.rules.length):=by
 unfold ef eJ
 rw [Bo]
theorem mm {l:List Bool} {n k:Nat}:k∈kx l n↔k < n∧fl l k:=by
 unfold kx
 rw [List.mem_filter,List.mem_range]
theorem Al (l:List Bool) (n:Nat):(kx l n).Nodup:=List.Pairwise.filter _ List.nodup_range
theorem B3 (l:List Bool) (n:Nat):(kx l n).length ≤ n:=by
 have:=List.length_filter_le (fun i=>l.getD i default) (List.range n)
 rw [List.length_range] at this
 exact this
theorem xg {s:ae} (hc:(cU s).code = 0) {l:List Nat} (hn:l.Nodup) (hl:∀ k∈l,k < s.rules.length) (hlen:l.length ≤ s.rules.length)
  (hu:∀ k∈l,∀ x∈b9 (rl s k),x∈j5 s l) (ho:∀ x∈s.out_,x∈j5 s l):cU (eJ s l) = aw.mk 0 0:=by
 obtain ⟨g,_⟩:=fZ hc
 have hnr:=g.h.nr
 have hh:(jv s).code = 0:=by
  refine Classical.byContradiction fun h0=>?_
  unfold cU at hc
  rw [iP h0] at hc
  exact h0 hc
 have hlen':=iZ s l
 have hhead:jv (eJ s l) = jv s:=by
  have h1:=g.h.nv
  have h2:=g.h.ni
  have h3:=g.h.no
  unfold jv
  rw [iN (show ¬ ((s.vars.length:Int) > 400∨(s.rules.length:Int) > 400∨(s.in_.length:Int) > 400∨(s.out_.length:Int) > 400) by omega),iN (show ¬ (((eJ s l).vars.length:Int) > 400∨((eJ s l).rules.length:Int) > 400∨((eJ s l).in_.length:Int) > 400∨((eJ s l).out_.length:Int) > 400) by
   rw [hlen']
   show ¬ ((s.vars.length:Int) > 400∨(l.length:Int) > 400∨(s.in_.length:Int) > 400∨(s.out_.length:Int) > 400)
   omega)]
  rfl
 refine sP (by rw [hhead];exact hh) (fun i hi=>?_) (fun i hi x hx=>?_) (fun x hx=>?_)
 ·have hi':i < l.length:=by omega
  have hk:=hl _ (aS hi')
  have h1:=g.r _ hk
  rw [jk,fq s hi']
  have c1:(bt s (l.getD i default)).contains (s.rules.getD (l.getD i default) default).out_ = false:=by
   cases hq:(bt s (l.getD i default)).contains (s.rules.getD (l.getD i default) default).out_
   ·rfl
   ·exact absurd (List.contains_iff_mem.1 hq) (lp g hk)
  have c2:(j5 s (l.take i)).contains (s.rules.getD (l.getD i default) default).out_ = false:=by
   cases hq:(j5 s (l.take i)).contains (s.rules.getD (l.getD i default) default).out_
   ·rfl
   ·rcases ia.1 (List.contains_iff_mem.1 hq) with h | ⟨k,h2,h3⟩
    ·exact absurd h (oJ g hk)
    ·have e:=mU g hk (hl k (List.mem_of_mem_take h2)) h3
     subst e
     obtain ⟨j,hj,e⟩:=List.mem_iff_getElem.1 h2
     rw [List.length_take] at hj
     rw [List.getElem_take] at e
     have:=(List.getElem_inj hn).1 (e.trans (me hi'))
     omega
  unfold jx at h1 ⊢
  rw [c1] at h1
  rw [c2,oi]
  exact h1
 ·have hi':i < l.length:=by omega
  rw [fq s hi'] at hx
  rw [jk,hlen',List.take_length]
  exact hu _ (aS hi') x hx
 ·rw [jk,hlen',List.take_length]
  exact ho x hx
section
variable {s:ae} {l:List Bool}
theorem ta (hc:(cU s).code = 0) (hF:Fl s l):cU (ef s l) = aw.mk 0 0:=by
 obtain ⟨g,_⟩:=fZ hc
 rw [lr]
 refine xg hc (Al _ _) (fun k hk=>(mm.1 hk).1) (B3 _ _) (fun k hk x hx=>?_) (fun x hx=>?_)
 ·obtain ⟨hk1,hk2⟩:=mm.1 hk
  rcases (iJ s x (Nat.le_refl _)).1 (g.u k hk1 x hx) with h | ⟨j,hj,h⟩
  ·exact ia.2 (.inl h)
  ·exact ia.2 (.inr ⟨j,mm.2 ⟨hj,(hF.2 j hj).2 (.step j k hj ((hF.2 k hk1).1 hk2) (by rw [show (rl s j).out_ = x from h];exact hx))⟩,h⟩)
 ·rcases (iJ s x (Nat.le_refl _)).1 (g.o x hx) with h | ⟨j,hj,h⟩
  ·exact ia.2 (.inl h)
  ·exact ia.2 (.inr ⟨j,mm.2 ⟨hj,(hF.2 j hj).2 (.base j hj (by rw [show (rl s j).out_ = x from h];exact hx))⟩,h⟩)
theorem yR (hc:(cU s).code = 0) (hF:Fl s l) (hK:(cm s).length = s.rules.length):(cm (ef s l)).length = (ef s l).rules.length:=by
 obtain ⟨g,_⟩:=fZ hc
 obtain ⟨gt,_⟩:=fZ (s:=ef s l) (by rw [ta hc hF])
 revert gt
 rw [lr]
 intro gt
 have hlt:∀ k∈kx l s.rules.length,k < s.rules.length:=fun k hk=>(mm.1 hk).1
 have hp:=iZ s (kx l s.rules.length)
 have hsub:=A5 (s:=s) (L:=j5 (eJ s (kx l s.rules.length)) (cm (eJ s (kx l s.rules.length))) ++ ((List.range s.rules.length).filter (fun i=>!l.getD i default)).map (fun k=>s.rules.getD k default |>.out_)) (fun x hx=>List.mem_append.2 (.inl (ia.2 (.inl hx)))) (fun j hj=>by
  by_cases hf:fl l j
  ·obtain ⟨i,hi,e⟩:=List.mem_iff_getElem.1 (mm.2 ⟨hj,hf⟩)
   have er:(eJ s (kx l s.rules.length)).rules.getD i default = s.rules.getD j default:=by rw [fq s hi,me hi,e]
   by_cases hm:i∈cm (eJ s (kx l s.rules.length))
   ·exact .inl (List.mem_append.2 (.inl (ia.2 (.inr ⟨i,hm,by rw [er]⟩))))
   ·refine .inr fun hcan=>?_
    have h:=wV (vO (n:=(eJ s (kx l s.rules.length)).rules.length) (c:=tt (eJ s (kx l s.rules.length)))) i (by omega) hm
    unfold tt at h
    rw [er] at h
    refine of_decide_eq_false h fun x hx=>?_
    rcases List.mem_append.1 (hcan x hx) with h2 | h2
    ·exact h2
    ·exfalso
     obtain ⟨k,hk,ek⟩:=List.mem_map.1 h2
     obtain ⟨hk1,hk2⟩:=List.mem_filter.1 hk
     have hk1':=List.mem_range.1 hk1
     have hnf:¬ fl l k:=by unfold fl;simpa using hk2
     have hxu:=wT hx
     rcases (iJ s x (Nat.le_refl _)).1 (g.u j hj x hxu) with h3 | ⟨k',hk',e3⟩
     ·exact oJ g hk1' (by rw [ek];exact h3)
     ·have e4:k' = k:=mU g hk1' hk' (e3.trans ek.symm)
      subst e4
      exact hnf ((hF.2 k' hk').2 (.step k' j hk' ((hF.2 j hj).1 hf) (by rw [show (rl s k').out_ = x from e3];exact hxu)))
  ·refine .inl (List.mem_append.2 (.inr (List.mem_map.2 ⟨j,List.mem_filter.2 ⟨List.mem_range.2 hj,?_⟩,rfl⟩)))
   unfold fl at hf
   simpa using hf)
 have hall:∀ i,i < (eJ s (kx l s.rules.length)).rules.length→i∈cm (eJ s (kx l s.rules.length)):=fun i hi=>by
  have hi':i < (kx l s.rules.length).length:=by omega
  have hj:=mm.1 (aS hi')
  have er:=fq s hi'
  have hjm:=nm (np s) (fun _ h=>lf h) hK _ hj.1
  rcases List.mem_append.1 (hsub _ (ia.2 (.inr ⟨_,hjm,rfl⟩))) with h | h
  ·rw [← er] at h
   rcases ia.1 h with h | ⟨k,hk,h⟩
   ·exact absurd h (oJ gt hi)
   ·rw [← mU gt hi (lf hk) h]
    exact hk
  ·exfalso
   obtain ⟨k,hk,ek⟩:=List.mem_map.1 h
   obtain ⟨hk1,hk2⟩:=List.mem_filter.1 hk
   have:=mU g hj.1 (List.mem_range.1 hk1) ek
   subst this
   have hfl:=hj.2
   unfold fl at hfl
   rw [hfl] at hk2
   cases hk2
 have h1:=uT (eJ s (kx l s.rules.length))
 have h2:=oI (l:=List.range (eJ s (kx l s.rules.length)).rules.length) (m:=cm (eJ s (kx l s.rules.length))) List.nodup_range (fun x hx=>hall x (List.mem_range.1 hx))
 rw [List.length_range] at h2
 omega
theorem xh (hF:Fl s l) {l':List Bool} (hF':Fl (ef s l) l'):ef (ef s l) l' = ef s l:=by
 have key:∀ j,Nd s j→∀ i,i < (kx l s.rules.length).length→(kx l s.rules.length).getD i default = j→Nd (ef s l) i:=by
  intro j hj
  rw [lr]
  have hp:=iZ s (kx l s.rules.length)
  induction hj with
  | base j hj h =>
   intro i hi e
   refine .base i (by omega) ?_
   have er:=fq s hi
   rw [e] at er
   have er':rl (eJ s (kx l s.rules.length)) i = rl s j:=er
   rw [er']
   exact h
  | step j k hj hk h ih =>
   intro i hi e
   obtain ⟨q,hq,eq⟩:=List.mem_iff_getElem.1 (mm.2 ⟨hk.lt,(hF.2 k hk.lt).2 hk⟩)
   have eq':(kx l s.rules.length).getD q default = k:=by rw [me hq];exact eq
   refine .step i q (by omega) (ih q hq eq') ?_
   have er:=fq s hi
   rw [e] at er
   have er':rl (eJ s (kx l s.rules.length)) i = rl s j:=er
   have er2:=fq s hq
   rw [eq'] at er2
   have er2':rl (eJ s (kx l s.rules.length)) q = rl s k:=er2
   rw [er',er2']
   exact h
 have hp:(ef s l).rules.length = (kx l s.rules.length).length:=by rw [lr];exact iZ _ _
 have hall:kx l' (ef s l).rules.length = List.range (ef s l).rules.length:=by
  unfold kx
  rw [List.filter_eq_self]
  intro i hi
  have hi':=List.mem_range.1 hi
  have hi2:i < (kx l s.rules.length).length:=by omega
  have hm:=mm.1 (aS hi2)
  exact (hF'.2 i hi').2 (key _ ((hF.2 _ hm.1).1 hm.2) i hi2 rfl)
 rw [lr (ef s l) l',hall]
 unfold eJ
 rw [sR]
end
theorem yS (v:Int) (l:List Int) (hl:l.length ≤ 9000000):n6 v l = some (l.contains v):=by
 unfold n6
 rw [b8 l.length (fun k=>if l.getD k default = v then some true else none) () (fun k hk=>by
  unfold kE
  rw [iP (ltI hk),iP (inI hk),wrs k (by omega)]
  simp only [tN]
  by_cases h:l.getD k default = v
  ·rw [iP h,iP h]
  ·rw [iN h,iN h]) (by unfold kE;rw [iN (bm _)])]
 rcases cL l.length (fun k=>if l.getD k default = v then some true else none) () with ⟨e,h⟩ | ⟨j,z,hj,hz,e⟩
 ·rw [e]
  have:l.contains v = false:=by
   cases hq:l.contains v
   ·rfl
   ·obtain ⟨i,hi,e2⟩:=List.mem_iff_getElem.1 (List.contains_iff_mem.1 hq)
    have:=h i hi
    rw [me hi,iP e2] at this
    cases this
  rw [this];rfl
 ·rw [e]
  split at hz
  ·rename_i h
   simp only [sJ] at hz
   rw [List.contains_iff_mem.2 (h ▸ aS hj),← hz];rfl
  ·cases hz
theorem Am {s : ae} {k : Nat} (hk : k ≤ (cm s).length) : ((cm s).take k).length = k := by rw [List.length_take]; omega
theorem An {s : ae} (g : dM s) {d : List Nat} (hd : ∀ k ∈ d, k < s.rules.length) (hl : d.length ≤ 100000) :
  aZ (fun x => d7 s (dI d) x) 0 = some (match jA s.rules.length (tt s) d with | some i => (dI (d ++ [i]), true) | none => (dI d, false)) := by
 have hn := g.h.nr
 have hni := g.h.ni
 have hdl := uR d
 have := yD (S := Int) (fun i => (i : Int)) (body := fun x => d7 s (dI d) x) s.rules.length (fun i => !d.contains i && tt s d i) (fun i => (dI (d ++ [i]), true)) (dI d, false)
  (by
   intro i hi
   show d7 s (dI d) (i : Int) = _
   obtain ⟨gr, hu, ha, _⟩ := g.rule hi
   have he := gr.e
   unfold d7
   rw [iP (ltI hi), yS _ _ (by omega)]
   simp only [bSq]
   rw [wrs i (by omega)]
   by_cases hm : i ∈ d
   ·have h1 : (dI d).contains (i : Int) = true := List.contains_iff_mem.2 (uS.2 hm)
    have h2 : d.contains i = true := List.contains_iff_mem.2 hm
    rw [h1, h2]; rfl
   ·have h1 : ¬ (dI d).contains (i : Int) = true := fun h => hm (uS.1 (List.contains_iff_mem.1 h))
    have h2 : d.contains i = false := by
     cases hq : d.contains i
     ·rfl
     ·exact absurd (List.contains_iff_mem.1 hq) hm
    rw [iN h1, iP (inI hi), h2, tN, A3 hd (by omega) (by omega) (by omega) (by omega) (by omega)]
    simp only [bSq]
    rw [iP (mf (by rw [hdl]; omega) (by omega))]
    unfold tt
    rw [BZ]
    cases decide (tq (j5 s d) (s.rules.getD i default)) <;> rfl)
  (by
   show d7 s (dI d) (s.rules.length : Int) = _
   unfold d7
   rw [iN (bm _)])
 unfold jA
 exact this
theorem Ao {s : ae} (g : dM s) : mO s = some (dI (cm s)) := by
 have hn := g.h.nr
 have hle := uT s
 unfold mO
 have := kJ (S := List Int × Bool) (T := List Int) (fun k => (dI ((cm s).take k), decide (k ≤ (cm s).length))) (body := fun x => eT s x.1 x.2) ((cm s).length + 1) (dI (cm s))
  (by
   intro i hi
   show eT s (dI ((cm s).take i)) (decide (i ≤ (cm s).length)) = _
   unfold eT
   rw [iP (dT (show i ≤ (cm s).length from by omega))]
   show (aZ (fun x => d7 s (dI ((cm s).take i)) x) 0).bind _ = _
   rw [An g (fun k hk => A4 hk) (by have := Am (s := s) (k := i) (by omega); omega)]
   by_cases h : i < (cm s).length
   ·rw [sO h, cE _ h]
    simp only [bSq]
    rw [dT (show i + 1 ≤ (cm s).length from by omega)]
   ·have e : i = (cm s).length := by omega
    subst e
    rw [List.take_length, zW]
    simp only [bSq]
    rw [dF (show ¬ (cm s).length + 1 ≤ (cm s).length from by omega), List.take_of_length_le (by omega)])
  (by
   show eT s (dI ((cm s).take ((cm s).length + 1))) (decide ((cm s).length + 1 ≤ (cm s).length)) = _
   unfold eT
   rw [dF (show ¬ (cm s).length + 1 ≤ (cm s).length from by omega), List.take_of_length_le (by omega)]
   rfl)
 show (aZ (fun (x : List Int × Bool) => eT s x.1 x.2) ([], true)).bind _ = _
 have e : (dI ((cm s).take 0), decide (0 ≤ (cm s).length)) = (([] : List Int), true) := by simp [dI]
 rw [e] at this
 rw [this]
 rfl
theorem Ap {s : ae} (g : dM s) : gv s = some (s.vars, s.in_, s.out_, s.rules) := by
 unfold gv
 have h1 := g.h.nv
 have h2 := g.h.nr
 have h3 := g.h.ni
 have h4 := g.h.no
 rw [iP ⟨mf (by omega) (by omega), mf (by omega) (by omega), mf (by omega) (by omega)⟩]
 have := kJ (S := List af × Int) (T := List af) (fun i => (s.rules.take i, (i : Int))) (body := fun x => cn s x.1 x.2) s.rules.length s.rules
  (by
   intro i hi
   obtain ⟨gr, hu, ha, _⟩ := g.rule hi
   have he := gr.e
   show cn s (s.rules.take i) (i : Int) = _
   unfold cn
   rw [iP (ltI hi), iP (inI hi)]
   simp only [tN]
   rw [rj _ ⟨by omega, by omega⟩]
   simp only [bSq]
   rw [iP (mf (by simp; omega) (by omega)), wrs i (by omega), cE _ hi]
   rfl)
  (by
   show cn s (s.rules.take s.rules.length) (s.rules.length : Int) = _
   unfold cn
   rw [iN (bm _), List.take_length])
 show (aZ (fun x => cn s x.1 x.2) ([], 0)).bind (fun z21 => dG s z21) = _
 have e0 : s.rules.take 0 = [] := rfl
 rw [e0, show ((0 : Nat) : Int) = 0 from rfl] at this
 rw [this]
 rfl
theorem B4 {s : ae} (g : dM s) (hK : (cm s).length = s.rules.length) : aZ (fun (x : List af × Int) => eY s (dI (cm s)) x.1 x.2) (s.rules, 0) = some ((cm s).map (fun k => s.rules.getD k default)) := by
 have hn := g.h.nr
 have hdl := uR (cm s)
 have := kJ (S := List af × Int) (T := List af) (fun i => (e7 s.rules.length (fun u => if u < i then s.rules.getD ((cm s).getD u default) default else s.rules.getD u default), (i : Int))) (body := fun x => eY s (dI (cm s)) x.1 x.2) s.rules.length ((cm s).map (fun k => s.rules.getD k default))
  (by
   intro i hi
   show eY s (dI (cm s)) (e7 s.rules.length (fun u => if u < i then s.rules.getD ((cm s).getD u default) default else s.rules.getD u default)) (i : Int) = _
   have hi2 : i < (cm s).length := by omega
   have hb := lf (aS hi2)
   obtain ⟨gr, hu, ha, _⟩ := g.rule hb
   have he := gr.e
   unfold eY
   rw [iP (by omega), tN, zR hi2, iP ⟨⟨by omega, by omega⟩, inI hb⟩, tN, rj _ ⟨by omega, by omega⟩]
   simp only [bSq]
   rw [jg, iP (inI hi), wrs i (by omega), zJ]
   congr 3
   apply nh
   intro v hv
   by_cases h : v = i
   ·subst h; simp
   ·rw [iN h]
    by_cases h2 : v < i
    ·rw [iP h2, iP (by omega)]
    ·rw [iN h2, iN (by omega)])
  (by
   show eY s (dI (cm s)) (e7 s.rules.length (fun u => if u < s.rules.length then s.rules.getD ((cm s).getD u default) default else s.rules.getD u default)) (s.rules.length : Int) = _
   unfold eY
   rw [iN (by omega)]
   congr 2
   rw [uO ((cm s).map (fun k => s.rules.getD k default)), List.length_map, hK]
   apply nh
   intro v hv
   have hv2 : v < (cm s).length := by omega
   have hv3 : v < ((cm s).map (fun k => s.rules.getD k default)).length := by rw [List.length_map]; exact hv2
   show (if v < s.rules.length then s.rules.getD ((cm s).getD v default) default else s.rules.getD v default) = _
   rw [iP hv, me hv3, List.getElem_map, me hv2])
 have e : e7 s.rules.length (fun u => if u < 0 then s.rules.getD ((cm s).getD u default) default else s.rules.getD u default) = s.rules := by
  refine Eq.trans ?_ (uO s.rules).symm
  apply nh
  intro v _
  rw [iN (by omega)]
 rw [e, show ((0 : Nat) : Int) = 0 from rfl] at this
 exact this
theorem pK (s : ae) : lK s = some (if (cU s).code = 0 then rk s else (noS, cU s)) := by
 unfold lK
 rw [vK]
 simp only [bSq]
 by_cases hc : (cU s).code = 0
 ·obtain ⟨g, _⟩ := fZ hc
  have hn := g.h.nr
  have hdl := uR (cm s)
  have hle := uT s
  rw [iN (by simpa using hc), iP hc, Ao g]
  simp only [bSq]
  unfold rk
  by_cases hK : (cm s).length = s.rules.length
  ·rw [iN (by omega), iP hK]
   unfold kG
   rw [Ap g]
   simp only [bSq]
   show (aZ (fun (x : List af × Int) => eY s (dI (cm s)) x.1 x.2) (s.rules, 0)).bind _ = _
   rw [B4 g hK]
   rfl
  ·have hLl := yC (n := s.rules.length) (np s) (fun i hi => lf hi)
   obtain ⟨f1, f2, f3⟩ := vQ (n := s.rules.length) (d := cm s) (by omega)
   rw [iP (by omega), iN hK]
   have := kJ (S := Int) (T := ae × aw) (fun i => (i : Int)) (body := fun x => gI (dI (cm s)) x) ((jh s.rules.length (cm s)).getD 0 default) (noS, aw.mk 15 (((jh s.rules.length (cm s)).getD 0 default : Nat) : Int))
    (by
     intro i hi
     show gI (dI (cm s)) (i : Int) = _
     unfold gI
     rw [je _ _ (by omega), List.contains_iff_mem.2 (uS.2 (f3 i hi)), wrs i (by omega)]
     rfl)
    (by
     show gI (dI (cm s)) (((jh s.rules.length (cm s)).getD 0 default : Nat) : Int) = _
     unfold gI
     have hq : (dI (cm s)).contains (((jh s.rules.length (cm s)).getD 0 default : Nat) : Int) = false := by
      cases hq : (dI (cm s)).contains (((jh s.rules.length (cm s)).getD 0 default : Nat) : Int)
      ·rfl
      ·exact absurd (uS.1 (List.contains_iff_mem.1 hq)) f2
     rw [je _ _ (by omega), hq, vI]
     rfl)
   rw [show ((0 : Nat) : Int) = 0 from rfl] at this
   rw [this]
   rfl
 ·rw [iP hc, iN hc]
  rfl
theorem wl {s:ae} (hK:(cm s).length = s.rules.length):nu s (lS s)∧nu (lS s) s:=by
 refine ⟨⟨rfl,rfl,rfl,fun j hj=>?_⟩,⟨rfl,rfl,rfl,fun j hj=>?_⟩⟩
 ·rw [ui] at hj
  exact ⟨_,lf (aS hj),(wc s hj).symm⟩
 ·obtain ⟨i,hi,e⟩:=List.mem_iff_getElem.1 (nm (np s) (fun _ h=>lf h) hK j hj)
  exact ⟨i,by rw [ui];exact hi,by rw [wc s hi,me hi,e]⟩
theorem nu.trans {A B C:ae} (h:nu A B) (k:nu B C):nu A C:=⟨h.v.trans k.v,h.i.trans k.i,h.o.trans k.o,fun j hj=>by
 obtain ⟨i,hi,e⟩:=k.r j hj
 obtain ⟨q,hq,e2⟩:=h.r i hi
 exact ⟨q,hq,e2.trans e⟩⟩
theorem Aq (s:ae) (l:List Bool):nu s (ef s l):=by
 rw [lr]
 refine ⟨rfl,rfl,rfl,fun j hj=>?_⟩
 have hj':j < (kx l s.rules.length).length:=by rw [iZ] at hj;exact hj
 exact ⟨_,(mm.1 (aS hj')).1,(fq s hj').symm⟩
theorem Bd {s:ae} (hs:s.ok) (l:List Bool):(ef s l).ok:=⟨hs.1,hs.2.1,hs.2.2.1,fun r hr=>hs.2.2.2 r (uZ (Nat.le_refl _) r hr)⟩
theorem um (s:ae):uk s (fun _=>[]) 0 (List.replicate s.rules.length []):=by
 refine ⟨by simp,Int.le_refl 0,fun i hi o=>⟨Int.le_refl 0,fun _=>?_,fun h=>absurd h (by omega)⟩⟩
 unfold j3
 split <;> rfl
def Dn (s t B:ae) (N:Int) (K:List (List Int)) (N':Int) (K':List (List Int)) (i:Nat):Prop :=
 ∃ P P',mj s P∧uk s P N K∧mj t P'∧uk t P' N' K'∧(∀ j,j < B.rules.length→j3 P (rl B j) = j3 P' (rl B j))∧N ≤ i∧N' ≤ i
section
variable {s t A B:ae}
theorem un (gs:dM s) (hs:s.ok) (gt:dM t) (ht:t.ok) (gA:dM A) (hA:A.ok) (sA:jZ A) (gB:dM B) (hB:B.ok) (sB:jZ B) (a1:nu s A) (a2:nu A s) (b1:nu t B) (b2:nu B t) (hAB:nu A B) {fuel:Nat} (hf:500 ≤ fuel)
  {y1 y2:Int} {y3 y4 y5 y6:List (List Int)} {rows:List (List Int)} (hr:okL (okL (okI .i64)) rows) (hl:rows.length ≤ 60):∀ (k i:Nat) (N:Int) (K C:List (List Int)) (N':Int) (K' C':List (List Int)),i + k = rows.length→Dn s t B N K N' K' i →
  ∃ z,aZ (fun (x:Int×List (List Int)×List (List Int)×Int×List (List Int)×List (List Int)×Int)=>dj fuel rows (s.vars,s.in_,s.out_,s.rules,y1,y3,y4) (t.vars,t.in_,t.out_,t.rules,y2,y5,y6) x.1 x.2.1 x.2.2.1 x.2.2.2.1 x.2.2.2.2.1 x.2.2.2.2.2.1 x.2.2.2.2.2.2) (N,K,C,N',K',C',(i:Int)) = some (.inl z)
 | 0,i,N,K,C,N',K',C',hi,_=>by
  obtain rfl:i = rows.length:=by omega
  refine ⟨_,cB (o:=Sum.inl (N,K,C,N',K',C')) ?_⟩
  show dj fuel rows _ _ N K C N' K' C' _ = _
  unfold dj
  rw [iN (bm _)]
 | k + 1,i,N,K,C,N',K',C',hi,hb=>by
  have hil:i < rows.length:=by omega
  obtain ⟨P,P',p1,p2,p3,p4,p5,p6,p7⟩:=hb
  have hin:=Bb hr hil
  obtain ⟨M,L,D,e1,u1,u2⟩:=ul (C:=C) gs hs gA hA sA a1 a2 p1 p2 (by omega) hf _ hin
  obtain ⟨M',L',D',e2,v1,v2⟩:=ul (C:=C') gt ht gB hB sB b1 b2 p3 p4 (by omega) hf _ hin
  obtain ⟨hE1,hF1⟩:=u5 a1 (rows.getD i default)
  obtain ⟨hE2,hF2⟩:=u5 hAB (rows.getD i default)
  obtain ⟨hE3,hF3⟩:=u5 b2 (rows.getD i default)
  have hE:inE s (rows.getD i default) = inE t (rows.getD i default):=hE1.trans (hE2.trans hE3)
  have hF:ml s (rows.getD i default) = ml t (rows.getD i default):=hF1.trans (hF2.trans hF3)
  rw [hE,hF] at e1 u2
  rw [hF] at u1
  have hV:=A9 hAB gA hA sA gB hB sB p5 (inE t (rows.getD i default))
  have hO:=Ba hAB gB hV
  have hO':nO s (nM A P (inE t (rows.getD i default))) = nO t (nM B P' (inE t (rows.getD i default))):=by
   have q1:nO s (nM A P (inE t (rows.getD i default))) = nO A (nM A P (inE t (rows.getD i default))):=by unfold nO;rw [a1.o]
   have q2:nO t (nM B P' (inE t (rows.getD i default))) = nO B (nM B P' (inE t (rows.getD i default))):=by unfold nO;rw [b1.o]
   rw [q1,q2,hO]
  have hlen:(if (ml t (rows.getD i default)).code = 0 then nO t (nM B P' (inE t (rows.getD i default))) else []).length ≤ 9000000:=by
   by_cases c:(ml t (rows.getD i default)).code = 0
   ·rw [iP c]
    have hW:=Ad c hin
    have hPB:mj B P':=fun i hi o=>by
     obtain ⟨q,hq,e⟩:=b1.r i hi
     rw [← e] at o ⊢
     rcases p3 q hq o with h | h
     ·exact .inl h
     ·exact .inr (h.vars b1.v)
    have EB:=w9 gB hB sB hPB (W:=inE t (rows.getD i default)) (fun v hv=>(hW v (by rw [b1.i];exact hv)).vars b1.v) B.rules.length (Nat.le_refl _)
    have:=Ag gB (V:=nM B P' (inE t (rows.getD i default))) EB
    unfold nO at this ⊢
    rw [b1.o]
    omega
   ·rw [iN c];simp
  have hst:dj fuel rows (s.vars,s.in_,s.out_,s.rules,y1,y3,y4) (t.vars,t.in_,t.out_,t.rules,y2,y5,y6) N K C N' K' C' (i:Int) = some (.inl (M,L,D,M',L',D',((i + 1:Nat):Int))):=by
   unfold dj
   rw [iP (ltI hil),iP (inI hil)]
   simp only [tN]
   rw [e1]
   simp only [bSq]
   rw [e2]
   simp only [bSq]
   rw [hO']
   simp only [and_self,if_true]
   rw [s8 _ hlen]
   simp only [bSq,if_true]
   rw [wrs i (by omega)]
  rw [cH (s:=(N,K,C,N',K',C',(i:Int))) hst]
  refine un gs hs gt ht gA hA sA gB hB sB a1 a2 b1 b2 hAB hf hr hl k (i + 1) M L D M' L' D' (by omega) ?_
  by_cases c:(ml t (rows.getD i default)).code = 0
  ·obtain ⟨f1,f2,f3⟩:=u2 c
   obtain ⟨g1,g2,g3⟩:=v2 c
   exact ⟨_,_,f2,f1,g2,g1,fun j hj=>yN gB hB hj hV,by omega,by omega⟩
  ·obtain ⟨f1,f2⟩:=u1 c
   obtain ⟨g1,g2⟩:=v1 c
   subst f1;subst f2;subst g1;subst g2
   exact ⟨P,P',p1,p2,p3,p4,p5,by omega,by omega⟩
end
theorem qq (s:ae) (rows:List (List Int)) (hs:s.ok) (hr:okL (okL (okI .i64)) rows) (hz:s.sz + (szL (szL szI)) rows ≤ 1048576):∃ fuel,lb fuel s rows = some true:=by
 have z5:=AH (f:=szL (α:=Int) szI) (fun l=>by unfold szL;omega) rows
 refine ⟨500,?_⟩
 unfold lb
 rw [sW]
 simp only [bSq,if_true]
 obtain ⟨b,hb,hf⟩:=zV s 150 (by omega)
 rw [show ((150:Nat):Int) = 150 from rfl] at hb
 rw [hb]
 simp only [bSq]
 cases b
 ·have hng:=hf rfl
  simp only [Bool.false_eq_true,if_false]
  obtain ⟨b2,hb2,hf2⟩:=u6 rows (by omega)
  rw [hb2]
  simp only [bSq]
  cases b2
  ·obtain ⟨hr60,_⟩:=hf2 rfl
   simp only [Bool.false_eq_true,if_false]
   obtain ⟨r,e1,h1⟩:=u3 hng
   rw [e1]
   simp only [bSq]
   rcases h1 with ⟨c,rfl⟩ | ⟨c,l,rfl,hF⟩
   ·rw [iP c]
   ·rw [iN (by simp)]
    have ct:(cU (ef s l)).code = 0:=by rw [ta c hF]
    obtain ⟨r2,e2,h2⟩:=u3 (rp hng l)
    simp only
    rw [e2]
    simp only [bSq]
    rcases h2 with ⟨c2,_⟩ | ⟨_,l2,rfl,hF2⟩
    ·exact absurd ct c2
    ·rw [iN (by simp)]
     simp only
     rw [xh hF hF2,uU (rp hng l) (by omega)]
     simp only [bSq,if_true]
     have hlen:(ef s l).rules.length ≤ s.rules.length:=uY s l _
     rw [iN (by omega),pK,iP c]
     simp only [bSq]
     by_cases hK:(cm s).length = s.rules.length
     ·have hKt:=yR c hF hK
      have hso:rk s = (lS s,aw.mk 0 0):=by unfold rk;rw [iP hK]
      have hso2:rk (ef s l) = (lS (ef s l),aw.mk 0 0):=by unfold rk;rw [iP hKt]
      rw [hso,iN (by simp)]
      obtain ⟨gs,_⟩:=fZ c
      obtain ⟨gt,_⟩:=fZ ct
      have hnr:=gs.h.nr
      obtain ⟨a1,a2⟩:=wl hK
      obtain ⟨b1,b2⟩:=wl hKt
      have hst:=Bd hs l
      obtain ⟨z,ez⟩:=un (s:=s) (t:=ef s l) (A:=lS s) (B:=lS (ef s l)) (y1:=0) (y2:=0) (y3:=List.replicate s.rules.length []) (y4:=[]) (y5:=List.replicate (ef s l).rules.length []) (y6:=[]) gs hs gt hst (s7 c hK) (wb hs) rm (s7 ct hKt) (wb hst) rm a1 a2 b1 b2 (a2.trans ((Aq s l).trans b1)) (Nat.le_refl 500) hr hr60 rows.length 0 0 (List.replicate s.rules.length []) [] 0 (List.replicate (ef s l).rules.length []) [] (by omega)
       ⟨fun _=>[],fun _=>[],vZ _,um s,vZ _,um _,fun _ _=>rfl,by omega,by omega⟩
      have hbeg:∀ u:ae,u.rules.length ≤ 400→ll u = some (u.vars,u.in_,u.out_,u.rules,0,List.replicate u.rules.length [],[]):=fun u hu=>by
       unfold ll
       rw [iP ⟨by omega,mf (by omega) (by omega)⟩]
      unfold kZ
      rw [pK,iP c,pK,iP ct,hso,hso2]
      simp only [bSq]
      rw [iN (by simp),iN (by simp),hbeg s hnr,hbeg (ef s l) (by omega)]
      simp only [bSq]
      show ((aZ (fun (x:Int×List (List Int)×List (List Int)×Int×List (List Int)×List (List Int)×Int)=>dj 500 rows (s.vars,s.in_,s.out_,s.rules,0,List.replicate s.rules.length [],[]) ((ef s l).vars,(ef s l).in_,(ef s l).out_,(ef s l).rules,0,List.replicate (ef s l).rules.length [],[]) x.1 x.2.1 x.2.2.1 x.2.2.2.1 x.2.2.2.2.1 x.2.2.2.2.2.1 x.2.2.2.2.2.2) (0,List.replicate s.rules.length [],[],0,List.replicate (ef s l).rules.length [],[],((0:Nat):Int))).bind _).bind _ = _
      rw [ez]
      rfl
     ·have f1:¬ (rk s).2.code = 0:=by unfold rk;rw [iN hK];simp
      rw [iP f1]
  ·rfl
 ·rfl
end Pam
