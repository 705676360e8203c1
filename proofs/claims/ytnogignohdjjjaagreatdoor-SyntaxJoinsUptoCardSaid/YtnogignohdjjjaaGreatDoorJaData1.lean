/- the plain data of the program, as trees of cells; printed by a program of ours -/
import Derived.Test.YtnogignohdjjjaaGreatDoorJTypes1
import Derived.Test.YtnogignohdjjjaaGreatDoorJBase2
set_option linter.all false
namespace Pam
open Go
structure ai where
  n:Int
  name:List UInt8
deriving Inhabited,DecidableEq
def ai.enc(x:ai):List CV:=[.int .i64 x.n,.str x.name]
structure iL where
  elem:Int
  n:List ai
deriving Inhabited,DecidableEq
def iL.enc(x:iL):List CV:=[.int .u8 x.elem,.tree 2 (x.n.map ai.enc)]
structure aI where
  name:List UInt8
  t:iL
deriving Inhabited,DecidableEq
def aI.enc(x:aI):List CV:=[.str x.name,.int .u8 x.t.elem,.tree 2 (x.t.n.map ai.enc)]
structure af where
  op:Int
  k:Int
  n:Int
  name:List UInt8
  s:List (List ai)
  l:List af
deriving Inhabited
mutual
def af.enc:af→List CV
  |⟨x_op,x_k,x_n,x_name,x_s,x_l⟩=>[.int .i64 x_op,.int .i64 x_k,.int .i64 x_n,.str x_name,.tree 1 (x_s.map (eL 2 ai.enc)),.tree 6 (af.encs x_l)]
def af.encs:List af→List (List CV)
  |[]=>[]
  |x :: l=>af.enc x :: af.encs l
end
theorem af.encs_eq:∀ l:List af,af.encs l=l.map af.enc
  |[]=>rfl
  |x :: l=>by rw [af.encs,af.encs_eq l];rfl
theorem af.enc_eq(x:af):af.enc x=[.int .i64 x.op,.int .i64 x.k,.int .i64 x.n,.str x.name,.tree 1 (x.s.map (eL 2 ai.enc)),.tree 6 (x.l.map af.enc)]:=by
  cases x;rw [af.enc,af.encs_eq]
structure TEq where
  at_:Int
  names:List (List UInt8)
  node:List UInt8
  s:List (List ai)
  e:List af
deriving Inhabited
def TEq.enc(x:TEq):List CV:=[.int .i64 x.at_,.tree 1 (x.names.map eS),.str x.node,.tree 1 (x.s.map (eL 2 ai.enc)),.tree 6 (x.e.map af.enc)]
structure aL where
  name:List UInt8
  at_:Int
  sizes:List (List UInt8)
  in_:List aI
  out_:List aI
  local_:List aI
  eqs:List TEq
deriving Inhabited
def aL.enc(x:aL):List CV:=[.str x.name,.int .i64 x.at_,.tree 1 (x.sizes.map eS),.tree 3 (x.in_.map aI.enc),.tree 3 (x.out_.map aI.enc),.tree 3 (x.local_.map aI.enc),.tree 5 (x.eqs.map TEq.enc)]
structure bj where
  nodes:List aL
deriving Inhabited
def bj.enc(x:bj):List CV:=[.tree 7 (x.nodes.map aL.enc)]
structure bh where
  code:Int
  at_:Int
deriving Inhabited,DecidableEq
def bh.enc(x:bh):List CV:=[.int .i64 x.code,.int .i64 x.at_]
structure qx where
  code:Int
  at_:Int
deriving Inhabited,DecidableEq
def qx.enc(x:qx):List CV:=[.int .i64 x.code,.int .i64 x.at_]
structure aa where
  kind:Int
  at_:Int
  text:List UInt8
  n:Int
deriving Inhabited,DecidableEq
def aa.enc(x:aa):List CV:=[.int .i64 x.kind,.int .i64 x.at_,.str x.text,.int .i64 x.n]
structure ae where
  l:List aa
  end_:Int
  open_:Int
  terms:Int
deriving Inhabited,DecidableEq
def ae.enc(x:ae):List CV:=[.tree 4 (x.l.map aa.enc),.int .i64 x.end_,.int .i64 x.open_,.int .i64 x.terms]
structure kL where
  l:List aa
  at_:Int
  end_:Int
  f:bh
  parts:Int
deriving Inhabited,DecidableEq
def kL.enc(x:kL):List CV:=[.tree 4 (x.l.map aa.enc),.int .i64 x.at_,.int .i64 x.end_,.int .i64 x.f.code,.int .i64 x.f.at_,.int .i64 x.parts]
structure kM where
  src:List UInt8
  at_:Int
  out_:List aa
deriving Inhabited,DecidableEq
def kM.enc(x:kM):List CV:=[.str x.src,.int .i64 x.at_,.tree 4 (x.out_.map aa.enc)]
def bX:=(And.intro (And.intro (And.intro @ai.enc.eq_1 (And.intro @iL.enc.eq_1 @aI.enc.eq_1)) (And.intro @af.enc_eq (And.intro @TEq.enc.eq_1 @aL.enc.eq_1))) (And.intro (And.intro @bj.enc.eq_1 (And.intro @bh.enc.eq_1 @qx.enc.eq_1)) (And.intro (And.intro @aa.enc.eq_1 @ae.enc.eq_1) (And.intro @kL.enc.eq_1 @kM.enc.eq_1))))
def ai.ok(x:ai):Prop:=(okI .i64) x.n∧okT x.name
def ai.sz(x:ai):Nat:=szI x.n+szS x.name+1
def iL.ok(x:iL):Prop:=(okI .u8) x.elem∧(okL ai.ok) x.n
def iL.sz(x:iL):Nat:=szI x.elem+(szL ai.sz) x.n+1
def aI.ok(x:aI):Prop:=okT x.name∧iL.ok x.t
def aI.sz(x:aI):Nat:=szS x.name+iL.sz x.t+1
mutual
def af.ok:af→Prop
  |⟨x_op,x_k,x_n,x_name,x_s,x_l⟩=>(okI .i64) x_op∧(okI .i64) x_k∧(okI .i64) x_n∧okT x_name∧(okL (okL ai.ok)) x_s∧af.oks x_l
def af.oks:List af→Prop
  |[]=>True
  |x :: l=>af.ok x∧af.oks l
end
mutual
def af.sz:af→Nat
  |⟨x_op,x_k,x_n,x_name,x_s,x_l⟩=>szI x_op+szI x_k+szI x_n+szS x_name+(szL (szL ai.sz)) x_s+(af.szs x_l+1)+1
def af.szs:List af→Nat
  |[]=>0
  |x :: l=>af.sz x+af.szs l
end
def TEq.ok(x:TEq):Prop:=(okI .i64) x.at_∧(okL okT) x.names∧okT x.node∧(okL (okL ai.ok)) x.s∧(okL af.ok) x.e
def TEq.sz(x:TEq):Nat:=szI x.at_+(szL szS) x.names+szS x.node+(szL (szL ai.sz)) x.s+(szL af.sz) x.e+1
def aL.ok(x:aL):Prop:=okT x.name∧(okI .i64) x.at_∧(okL okT) x.sizes∧(okL aI.ok) x.in_∧(okL aI.ok) x.out_∧(okL aI.ok) x.local_∧(okL TEq.ok) x.eqs
def aL.sz(x:aL):Nat:=szS x.name+szI x.at_+(szL szS) x.sizes+(szL aI.sz) x.in_+(szL aI.sz) x.out_+(szL aI.sz) x.local_+(szL TEq.sz) x.eqs+1
def bj.ok(x:bj):Prop:=(okL aL.ok) x.nodes
def bj.sz(x:bj):Nat:=(szL aL.sz) x.nodes+1
def bh.ok(x:bh):Prop:=(okI .i64) x.code∧(okI .i64) x.at_
def bh.sz(x:bh):Nat:=szI x.code+szI x.at_+1
def qx.ok(x:qx):Prop:=(okI .i64) x.code∧(okI .i64) x.at_
def qx.sz(x:qx):Nat:=szI x.code+szI x.at_+1
def aa.ok(x:aa):Prop:=(okI .i64) x.kind∧(okI .i64) x.at_∧okT x.text∧(okI .i64) x.n
def aa.sz(x:aa):Nat:=szI x.kind+szI x.at_+szS x.text+szI x.n+1
def ae.ok(x:ae):Prop:=(okL aa.ok) x.l∧(okI .i64) x.end_∧(okI .i64) x.open_∧(okI .i64) x.terms
def ae.sz(x:ae):Nat:=(szL aa.sz) x.l+szI x.end_+szI x.open_+szI x.terms+1
def kL.ok(x:kL):Prop:=(okL aa.ok) x.l∧(okI .i64) x.at_∧(okI .i64) x.end_∧bh.ok x.f∧(okI .i64) x.parts
def kL.sz(x:kL):Nat:=(szL aa.sz) x.l+szI x.at_+szI x.end_+bh.sz x.f+szI x.parts+1
def kM.ok(x:kM):Prop:=okT x.src∧(okI .i64) x.at_∧(okL aa.ok) x.out_
def kM.sz(x:kM):Nat:=szS x.src+szI x.at_+(szL aa.sz) x.out_+1
abbrev ct0(l:List aa):CV:=.tree 4 (l.map aa.enc)
abbrev ct1(l:List af):CV:=.tree 6 (l.map af.enc)
abbrev ct2(l:List aI):CV:=.tree 3 (l.map aI.enc)
abbrev ct3(l:List (List UInt8)):CV:=.tree 1 (l.map eS)
abbrev ct4(l:List aL):CV:=.tree 7 (l.map aL.enc)
abbrev ct5(l:List ai):CV:=.tree 2 (l.map ai.enc)
abbrev ct6(l:List TEq):CV:=.tree 5 (l.map TEq.enc)
end Pam
