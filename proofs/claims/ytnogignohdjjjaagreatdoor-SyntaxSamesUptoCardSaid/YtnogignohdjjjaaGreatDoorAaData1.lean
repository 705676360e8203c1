/- the plain data of the program, as trees of cells; printed by a program of ours -/
import Derived.Test.YtnogignohdjjjaaGreatDoorATypes1
import Derived.Test.YtnogignohdjjjaaGreatDoorABase2
set_option linter.all false
namespace Pam
open Go
structure am where
  n:Int
  name:List UInt8
deriving Inhabited,DecidableEq
def am.enc(x:am):List CV:=[.int .i64 x.n,.str x.name]
structure f8 where
  elem:Int
  n:List am
deriving Inhabited,DecidableEq
def f8.enc(x:f8):List CV:=[.int .u8 x.elem,.tree 2 (x.n.map am.enc)]
structure ay where
  name:List UInt8
  t:f8
deriving Inhabited,DecidableEq
def ay.enc(x:ay):List CV:=[.str x.name,.int .u8 x.t.elem,.tree 2 (x.t.n.map am.enc)]
structure af where
  op:Int
  k:Int
  n:Int
  name:List UInt8
  s:List (List am)
  l:List af
deriving Inhabited
mutual
def af.enc:af→List CV
  |⟨x_op,x_k,x_n,x_name,x_s,x_l⟩=>[.int .i64 x_op,.int .i64 x_k,.int .i64 x_n,.str x_name,.tree 1 (x_s.map (eL 2 am.enc)),.tree 6 (af.encs x_l)]
def af.encs:List af→List (List CV)
  |[]=>[]
  |x :: l=>af.enc x :: af.encs l
end
theorem af.encs_eq:∀ l:List af,af.encs l=l.map af.enc
  |[]=>rfl
  |x :: l=>by rw [af.encs,af.encs_eq l];rfl
theorem af.enc_eq(x:af):af.enc x=[.int .i64 x.op,.int .i64 x.k,.int .i64 x.n,.str x.name,.tree 1 (x.s.map (eL 2 am.enc)),.tree 6 (x.l.map af.enc)]:=by
  cases x;rw [af.enc,af.encs_eq]
structure TEq where
  at_:Int
  names:List (List UInt8)
  node:List UInt8
  s:List (List am)
  e:List af
deriving Inhabited
def TEq.enc(x:TEq):List CV:=[.int .i64 x.at_,.tree 1 (x.names.map eS),.str x.node,.tree 1 (x.s.map (eL 2 am.enc)),.tree 6 (x.e.map af.enc)]
structure aS where
  name:List UInt8
  at_:Int
  sizes:List (List UInt8)
  in_:List ay
  out_:List ay
  local_:List ay
  eqs:List TEq
deriving Inhabited
def aS.enc(x:aS):List CV:=[.str x.name,.int .i64 x.at_,.tree 1 (x.sizes.map eS),.tree 3 (x.in_.map ay.enc),.tree 3 (x.out_.map ay.enc),.tree 3 (x.local_.map ay.enc),.tree 5 (x.eqs.map TEq.enc)]
structure aH where
  nodes:List aS
deriving Inhabited
def aH.enc(x:aH):List CV:=[.tree 7 (x.nodes.map aS.enc)]
structure cq where
  code:Int
  at_:Int
deriving Inhabited,DecidableEq
def cq.enc(x:cq):List CV:=[.int .i64 x.code,.int .i64 x.at_]
structure nS where
  code:Int
  at_:Int
deriving Inhabited,DecidableEq
def nS.enc(x:nS):List CV:=[.int .i64 x.code,.int .i64 x.at_]
structure ab where
  kind:Int
  at_:Int
  text:List UInt8
  n:Int
deriving Inhabited,DecidableEq
def ab.enc(x:ab):List CV:=[.int .i64 x.kind,.int .i64 x.at_,.str x.text,.int .i64 x.n]
structure ae where
  l:List ab
  end_:Int
  open_:Int
  terms:Int
deriving Inhabited,DecidableEq
def ae.enc(x:ae):List CV:=[.tree 4 (x.l.map ab.enc),.int .i64 x.end_,.int .i64 x.open_,.int .i64 x.terms]
structure jl where
  l:List ab
  at_:Int
  end_:Int
  f:cq
  parts:Int
deriving Inhabited,DecidableEq
def jl.enc(x:jl):List CV:=[.tree 4 (x.l.map ab.enc),.int .i64 x.at_,.int .i64 x.end_,.int .i64 x.f.code,.int .i64 x.f.at_,.int .i64 x.parts]
structure jm where
  src:List UInt8
  at_:Int
  out_:List ab
deriving Inhabited,DecidableEq
def jm.enc(x:jm):List CV:=[.str x.src,.int .i64 x.at_,.tree 4 (x.out_.map ab.enc)]
def bX:=(And.intro (And.intro (And.intro @am.enc.eq_1 (And.intro @f8.enc.eq_1 @ay.enc.eq_1)) (And.intro @af.enc_eq (And.intro @TEq.enc.eq_1 @aS.enc.eq_1))) (And.intro (And.intro @aH.enc.eq_1 (And.intro @cq.enc.eq_1 @nS.enc.eq_1)) (And.intro (And.intro @ab.enc.eq_1 @ae.enc.eq_1) (And.intro @jl.enc.eq_1 @jm.enc.eq_1))))
def am.ok(x:am):Prop:=(okI .i64) x.n∧okT x.name
def am.sz(x:am):Nat:=szI x.n+szS x.name+1
theorem am.sz_pos(x:am):1≤x.sz:=by unfold am.sz;omega
def f8.ok(x:f8):Prop:=(okI .u8) x.elem∧(okL am.ok) x.n
def f8.sz(x:f8):Nat:=szI x.elem+(szL am.sz) x.n+1
theorem f8.sz_pos(x:f8):1≤x.sz:=by unfold f8.sz;omega
def ay.ok(x:ay):Prop:=okT x.name∧f8.ok x.t
def ay.sz(x:ay):Nat:=szS x.name+f8.sz x.t+1
theorem ay.sz_pos(x:ay):1≤x.sz:=by unfold ay.sz;omega
mutual
def af.ok:af→Prop
  |⟨x_op,x_k,x_n,x_name,x_s,x_l⟩=>(okI .i64) x_op∧(okI .i64) x_k∧(okI .i64) x_n∧okT x_name∧(okL (okL am.ok)) x_s∧af.oks x_l
def af.oks:List af→Prop
  |[]=>True
  |x :: l=>af.ok x∧af.oks l
end
mutual
def af.sz:af→Nat
  |⟨x_op,x_k,x_n,x_name,x_s,x_l⟩=>szI x_op+szI x_k+szI x_n+szS x_name+(szL (szL am.sz)) x_s+(af.szs x_l+1)+1
def af.szs:List af→Nat
  |[]=>0
  |x :: l=>af.sz x+af.szs l
end
theorem af.oks_eq:∀ l:List af,af.oks l=okL af.ok l
  |[]=>by simp [af.oks,okL]
  |x :: l=>by rw [af.oks,af.oks_eq l];simp [okL]
theorem af.szs_eq:∀ l:List af,af.szs l+1=szL af.sz l
  |[]=>by simp [af.szs,szL]
  |x :: l=>by have:=af.szs_eq l;simp only [szL,af.szs,List.map_cons,List.sum_cons] at *;omega
theorem af.ok_eq(x:af):af.ok x=((okI .i64) x.op∧(okI .i64) x.k∧(okI .i64) x.n∧okT x.name∧(okL (okL am.ok)) x.s∧okL af.ok x.l):=by
  cases x;rw [af.ok,af.oks_eq]
theorem af.sz_eq(x:af):af.sz x=szI x.op+szI x.k+szI x.n+szS x.name+(szL (szL am.sz)) x.s+szL af.sz x.l+1:=by
  cases x;rw [af.sz,af.szs_eq]
theorem af.sz_pos(x:af):1≤x.sz:=by rw [af.sz_eq];omega
def TEq.ok(x:TEq):Prop:=(okI .i64) x.at_∧(okL okT) x.names∧okT x.node∧(okL (okL am.ok)) x.s∧(okL af.ok) x.e
def TEq.sz(x:TEq):Nat:=szI x.at_+(szL szS) x.names+szS x.node+(szL (szL am.sz)) x.s+(szL af.sz) x.e+1
theorem TEq.sz_pos(x:TEq):1≤x.sz:=by unfold TEq.sz;omega
def aS.ok(x:aS):Prop:=okT x.name∧(okI .i64) x.at_∧(okL okT) x.sizes∧(okL ay.ok) x.in_∧(okL ay.ok) x.out_∧(okL ay.ok) x.local_∧(okL TEq.ok) x.eqs
def aS.sz(x:aS):Nat:=szS x.name+szI x.at_+(szL szS) x.sizes+(szL ay.sz) x.in_+(szL ay.sz) x.out_+(szL ay.sz) x.local_+(szL TEq.sz) x.eqs+1
theorem aS.sz_pos(x:aS):1≤x.sz:=by unfold aS.sz;omega
def aH.ok(x:aH):Prop:=(okL aS.ok) x.nodes
def aH.sz(x:aH):Nat:=(szL aS.sz) x.nodes+1
theorem aH.sz_pos(x:aH):1≤x.sz:=by unfold aH.sz;omega
def cq.ok(x:cq):Prop:=(okI .i64) x.code∧(okI .i64) x.at_
def cq.sz(x:cq):Nat:=szI x.code+szI x.at_+1
theorem cq.sz_pos(x:cq):1≤x.sz:=by unfold cq.sz;omega
def nS.ok(x:nS):Prop:=(okI .i64) x.code∧(okI .i64) x.at_
def nS.sz(x:nS):Nat:=szI x.code+szI x.at_+1
theorem nS.sz_pos(x:nS):1≤x.sz:=by unfold nS.sz;omega
def ab.ok(x:ab):Prop:=(okI .i64) x.kind∧(okI .i64) x.at_∧okT x.text∧(okI .i64) x.n
def ab.sz(x:ab):Nat:=szI x.kind+szI x.at_+szS x.text+szI x.n+1
theorem ab.sz_pos(x:ab):1≤x.sz:=by unfold ab.sz;omega
def ae.ok(x:ae):Prop:=(okL ab.ok) x.l∧(okI .i64) x.end_∧(okI .i64) x.open_∧(okI .i64) x.terms
def ae.sz(x:ae):Nat:=(szL ab.sz) x.l+szI x.end_+szI x.open_+szI x.terms+1
theorem ae.sz_pos(x:ae):1≤x.sz:=by unfold ae.sz;omega
def jl.ok(x:jl):Prop:=(okL ab.ok) x.l∧(okI .i64) x.at_∧(okI .i64) x.end_∧cq.ok x.f∧(okI .i64) x.parts
def jl.sz(x:jl):Nat:=(szL ab.sz) x.l+szI x.at_+szI x.end_+cq.sz x.f+szI x.parts+1
theorem jl.sz_pos(x:jl):1≤x.sz:=by unfold jl.sz;omega
def jm.ok(x:jm):Prop:=okT x.src∧(okI .i64) x.at_∧(okL ab.ok) x.out_
def jm.sz(x:jm):Nat:=szS x.src+szI x.at_+(szL ab.sz) x.out_+1
theorem jm.sz_pos(x:jm):1≤x.sz:=by unfold jm.sz;omega
end Pam
