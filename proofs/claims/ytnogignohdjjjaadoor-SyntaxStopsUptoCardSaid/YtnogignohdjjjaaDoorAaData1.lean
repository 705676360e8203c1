/- the plain data of the program, as trees of cells; printed by a program of ours -/
import Derived.Test.YtnogignohdjjjaaDoorATypes1
import Derived.Test.YtnogignohdjjjaaDoorABase2
set_option linter.all false
namespace Pam
open Go
structure aw where
  n:Int
  name:List UInt8
deriving Inhabited,DecidableEq
def aw.enc(x:aw):List CV:=[.int .i64 x.n,.str x.name]
structure iG where
  elem:Int
  n:List aw
deriving Inhabited,DecidableEq
def iG.enc(x:iG):List CV:=[.int .u8 x.elem,.tree 2 (x.n.map aw.enc)]
structure aX where
  name:List UInt8
  t:iG
deriving Inhabited,DecidableEq
def aX.enc(x:aX):List CV:=[.str x.name,.int .u8 x.t.elem,.tree 2 (x.t.n.map aw.enc)]
structure ai where
  op:Int
  k:Int
  n:Int
  name:List UInt8
  s:List (List aw)
  l:List ai
deriving Inhabited
mutual
def ai.enc:ai→List CV
  |⟨x_op,x_k,x_n,x_name,x_s,x_l⟩=>[.int .i64 x_op,.int .i64 x_k,.int .i64 x_n,.str x_name,.tree 1 (x_s.map (eL 2 aw.enc)),.tree 6 (ai.encs x_l)]
def ai.encs:List ai→List (List CV)
  |[]=>[]
  |x :: l=>ai.enc x :: ai.encs l
end
theorem ai.encs_eq:∀ l:List ai,ai.encs l=l.map ai.enc
  |[]=>rfl
  |x :: l=>by rw [ai.encs,ai.encs_eq l];rfl
theorem ai.enc_eq(x:ai):ai.enc x=[.int .i64 x.op,.int .i64 x.k,.int .i64 x.n,.str x.name,.tree 1 (x.s.map (eL 2 aw.enc)),.tree 6 (x.l.map ai.enc)]:=by
  cases x;rw [ai.enc,ai.encs_eq]
structure TEq where
  at_:Int
  names:List (List UInt8)
  node:List UInt8
  s:List (List aw)
  e:List ai
deriving Inhabited
def TEq.enc(x:TEq):List CV:=[.int .i64 x.at_,.tree 1 (x.names.map eS),.str x.node,.tree 1 (x.s.map (eL 2 aw.enc)),.tree 6 (x.e.map ai.enc)]
structure cC where
  name:List UInt8
  at_:Int
  sizes:List (List UInt8)
  in_:List aX
  out_:List aX
  local_:List aX
  eqs:List TEq
deriving Inhabited
def cC.enc(x:cC):List CV:=[.str x.name,.int .i64 x.at_,.tree 1 (x.sizes.map eS),.tree 3 (x.in_.map aX.enc),.tree 3 (x.out_.map aX.enc),.tree 3 (x.local_.map aX.enc),.tree 5 (x.eqs.map TEq.enc)]
structure cN where
  nodes:List cC
deriving Inhabited
def cN.enc(x:cN):List CV:=[.tree 7 (x.nodes.map cC.enc)]
structure bl where
  code:Int
  at_:Int
deriving Inhabited,DecidableEq
def bl.enc(x:bl):List CV:=[.int .i64 x.code,.int .i64 x.at_]
structure aa where
  kind:Int
  at_:Int
  text:List UInt8
  n:Int
deriving Inhabited,DecidableEq
def aa.enc(x:aa):List CV:=[.int .i64 x.kind,.int .i64 x.at_,.str x.text,.int .i64 x.n]
structure nF where
  code:Int
  at_:Int
deriving Inhabited,DecidableEq
def nF.enc(x:nF):List CV:=[.int .i64 x.code,.int .i64 x.at_]
structure ae where
  l:List aa
  end_:Int
  open_:Int
  terms:Int
deriving Inhabited,DecidableEq
def ae.enc(x:ae):List CV:=[.tree 4 (x.l.map aa.enc),.int .i64 x.end_,.int .i64 x.open_,.int .i64 x.terms]
structure i7 where
  src:List UInt8
  at_:Int
  out_:List aa
deriving Inhabited,DecidableEq
def i7.enc(x:i7):List CV:=[.str x.src,.int .i64 x.at_,.tree 4 (x.out_.map aa.enc)]
def bX:=(And.intro (And.intro (And.intro @aw.enc.eq_1 (And.intro @iG.enc.eq_1 @aX.enc.eq_1)) (And.intro @ai.enc_eq (And.intro @TEq.enc.eq_1 @cC.enc.eq_1))) (And.intro (And.intro @cN.enc.eq_1 (And.intro @bl.enc.eq_1 @aa.enc.eq_1)) (And.intro @nF.enc.eq_1 (And.intro @ae.enc.eq_1 @i7.enc.eq_1))))
def aw.ok(x:aw):Prop:=(okI .i64) x.n∧okT x.name
def aw.sz(x:aw):Nat:=szI x.n+szS x.name+1
def iG.ok(x:iG):Prop:=(okI .u8) x.elem∧(okL aw.ok) x.n
def iG.sz(x:iG):Nat:=szI x.elem+(szL aw.sz) x.n+1
def aX.ok(x:aX):Prop:=okT x.name∧iG.ok x.t
def aX.sz(x:aX):Nat:=szS x.name+iG.sz x.t+1
mutual
def ai.ok:ai→Prop
  |⟨x_op,x_k,x_n,x_name,x_s,x_l⟩=>(okI .i64) x_op∧(okI .i64) x_k∧(okI .i64) x_n∧okT x_name∧(okL (okL aw.ok)) x_s∧ai.oks x_l
def ai.oks:List ai→Prop
  |[]=>True
  |x :: l=>ai.ok x∧ai.oks l
end
mutual
def ai.sz:ai→Nat
  |⟨x_op,x_k,x_n,x_name,x_s,x_l⟩=>szI x_op+szI x_k+szI x_n+szS x_name+(szL (szL aw.sz)) x_s+(ai.szs x_l+1)+1
def ai.szs:List ai→Nat
  |[]=>0
  |x :: l=>ai.sz x+ai.szs l
end
def TEq.ok(x:TEq):Prop:=(okI .i64) x.at_∧(okL okT) x.names∧okT x.node∧(okL (okL aw.ok)) x.s∧(okL ai.ok) x.e
def TEq.sz(x:TEq):Nat:=szI x.at_+(szL szS) x.names+szS x.node+(szL (szL aw.sz)) x.s+(szL ai.sz) x.e+1
def cC.ok(x:cC):Prop:=okT x.name∧(okI .i64) x.at_∧(okL okT) x.sizes∧(okL aX.ok) x.in_∧(okL aX.ok) x.out_∧(okL aX.ok) x.local_∧(okL TEq.ok) x.eqs
def cC.sz(x:cC):Nat:=szS x.name+szI x.at_+(szL szS) x.sizes+(szL aX.sz) x.in_+(szL aX.sz) x.out_+(szL aX.sz) x.local_+(szL TEq.sz) x.eqs+1
def cN.ok(x:cN):Prop:=(okL cC.ok) x.nodes
def cN.sz(x:cN):Nat:=(szL cC.sz) x.nodes+1
def bl.ok(x:bl):Prop:=(okI .i64) x.code∧(okI .i64) x.at_
def bl.sz(x:bl):Nat:=szI x.code+szI x.at_+1
def aa.ok(x:aa):Prop:=(okI .i64) x.kind∧(okI .i64) x.at_∧okT x.text∧(okI .i64) x.n
def aa.sz(x:aa):Nat:=szI x.kind+szI x.at_+szS x.text+szI x.n+1
def nF.ok(x:nF):Prop:=(okI .i64) x.code∧(okI .i64) x.at_
def nF.sz(x:nF):Nat:=szI x.code+szI x.at_+1
def ae.ok(x:ae):Prop:=(okL aa.ok) x.l∧(okI .i64) x.end_∧(okI .i64) x.open_∧(okI .i64) x.terms
def ae.sz(x:ae):Nat:=(szL aa.sz) x.l+szI x.end_+szI x.open_+szI x.terms+1
def i7.ok(x:i7):Prop:=okT x.src∧(okI .i64) x.at_∧(okL aa.ok) x.out_
def i7.sz(x:i7):Nat:=szS x.src+szI x.at_+(szL aa.sz) x.out_+1
end Pam
