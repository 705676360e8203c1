/- the plain data of the program, as trees of cells; printed by a program of ours -/
import Derived.Test.YtnogignohdjjjaaGreatDoorATypes1
import Derived.Test.YtnogignohdjjjaaGreatDoorABase2
set_option linter.all false
namespace Pam
open Go
structure aj where
  n:Int
  name:List UInt8
deriving Inhabited,DecidableEq
def aj.enc(x:aj):List CV:=[.int .i64 x.n,.str x.name]
structure kd where
  elem:Int
  n:List aj
deriving Inhabited,DecidableEq
def kd.enc(x:kd):List CV:=[.int .u8 x.elem,.tree 2 (x.n.map aj.enc)]
structure az where
  name:List UInt8
  t:kd
deriving Inhabited,DecidableEq
def az.enc(x:az):List CV:=[.str x.name,.int .u8 x.t.elem,.tree 2 (x.t.n.map aj.enc)]
structure ag where
  op:Int
  k:Int
  n:Int
  name:List UInt8
  s:List (List aj)
  l:List ag
deriving Inhabited
mutual
def ag.enc:ag→List CV
  |⟨x_op,x_k,x_n,x_name,x_s,x_l⟩=>[.int .i64 x_op,.int .i64 x_k,.int .i64 x_n,.str x_name,.tree 1 (x_s.map (eL 2 aj.enc)),.tree 6 (ag.encs x_l)]
def ag.encs:List ag→List (List CV)
  |[]=>[]
  |x :: l=>ag.enc x :: ag.encs l
end
theorem ag.encs_eq:∀ l:List ag,ag.encs l=l.map ag.enc
  |[]=>rfl
  |x :: l=>by rw [ag.encs,ag.encs_eq l];rfl
theorem ag.enc_eq(x:ag):ag.enc x=[.int .i64 x.op,.int .i64 x.k,.int .i64 x.n,.str x.name,.tree 1 (x.s.map (eL 2 aj.enc)),.tree 6 (x.l.map ag.enc)]:=by
  cases x;rw [ag.enc,ag.encs_eq]
structure TEq where
  at_:Int
  names:List (List UInt8)
  node:List UInt8
  s:List (List aj)
  e:List ag
deriving Inhabited
def TEq.enc(x:TEq):List CV:=[.int .i64 x.at_,.tree 1 (x.names.map eS),.str x.node,.tree 1 (x.s.map (eL 2 aj.enc)),.tree 6 (x.e.map ag.enc)]
structure bx where
  name:List UInt8
  at_:Int
  sizes:List (List UInt8)
  in_:List az
  out_:List az
  local_:List az
  eqs:List TEq
deriving Inhabited
def bx.enc(x:bx):List CV:=[.str x.name,.int .i64 x.at_,.tree 1 (x.sizes.map eS),.tree 3 (x.in_.map az.enc),.tree 3 (x.out_.map az.enc),.tree 3 (x.local_.map az.enc),.tree 5 (x.eqs.map TEq.enc)]
structure bI where
  nodes:List bx
deriving Inhabited
def bI.enc(x:bI):List CV:=[.tree 7 (x.nodes.map bx.enc)]
structure ai where
  code:Int
  at_:Int
deriving Inhabited,DecidableEq
def ai.enc(x:ai):List CV:=[.int .i64 x.code,.int .i64 x.at_]
structure te where
  code:Int
  at_:Int
deriving Inhabited,DecidableEq
def te.enc(x:te):List CV:=[.int .i64 x.code,.int .i64 x.at_]
structure aa where
  kind:Int
  at_:Int
  text:List UInt8
  n:Int
deriving Inhabited,DecidableEq
def aa.enc(x:aa):List CV:=[.int .i64 x.kind,.int .i64 x.at_,.str x.text,.int .i64 x.n]
structure af where
  l:List aa
  end_:Int
  open_:Int
  terms:Int
deriving Inhabited,DecidableEq
def af.enc(x:af):List CV:=[.tree 4 (x.l.map aa.enc),.int .i64 x.end_,.int .i64 x.open_,.int .i64 x.terms]
structure ae where
  l:List aa
  at_:Int
  end_:Int
  f:ai
  parts:Int
deriving Inhabited,DecidableEq
def ae.enc(x:ae):List CV:=[.tree 4 (x.l.map aa.enc),.int .i64 x.at_,.int .i64 x.end_,.int .i64 x.f.code,.int .i64 x.f.at_,.int .i64 x.parts]
structure mN where
  src:List UInt8
  at_:Int
  out_:List aa
deriving Inhabited,DecidableEq
def mN.enc(x:mN):List CV:=[.str x.src,.int .i64 x.at_,.tree 4 (x.out_.map aa.enc)]
def bX:=(And.intro (And.intro (And.intro @aj.enc.eq_1 (And.intro @kd.enc.eq_1 @az.enc.eq_1)) (And.intro @ag.enc_eq (And.intro @TEq.enc.eq_1 @bx.enc.eq_1))) (And.intro (And.intro @bI.enc.eq_1 (And.intro @ai.enc.eq_1 @te.enc.eq_1)) (And.intro (And.intro @aa.enc.eq_1 @af.enc.eq_1) (And.intro @ae.enc.eq_1 @mN.enc.eq_1))))
def aj.ok(x:aj):Prop:=(okI .i64) x.n∧okT x.name
def aj.sz(x:aj):Nat:=szI x.n+szS x.name+1
def kd.ok(x:kd):Prop:=(okI .u8) x.elem∧(okL aj.ok) x.n
def kd.sz(x:kd):Nat:=szI x.elem+(szL aj.sz) x.n+1
def az.ok(x:az):Prop:=okT x.name∧kd.ok x.t
def az.sz(x:az):Nat:=szS x.name+kd.sz x.t+1
mutual
def ag.ok:ag→Prop
  |⟨x_op,x_k,x_n,x_name,x_s,x_l⟩=>(okI .i64) x_op∧(okI .i64) x_k∧(okI .i64) x_n∧okT x_name∧(okL (okL aj.ok)) x_s∧ag.oks x_l
def ag.oks:List ag→Prop
  |[]=>True
  |x :: l=>ag.ok x∧ag.oks l
end
mutual
def ag.sz:ag→Nat
  |⟨x_op,x_k,x_n,x_name,x_s,x_l⟩=>szI x_op+szI x_k+szI x_n+szS x_name+(szL (szL aj.sz)) x_s+(ag.szs x_l+1)+1
def ag.szs:List ag→Nat
  |[]=>0
  |x :: l=>ag.sz x+ag.szs l
end
def TEq.ok(x:TEq):Prop:=(okI .i64) x.at_∧(okL okT) x.names∧okT x.node∧(okL (okL aj.ok)) x.s∧(okL ag.ok) x.e
def TEq.sz(x:TEq):Nat:=szI x.at_+(szL szS) x.names+szS x.node+(szL (szL aj.sz)) x.s+(szL ag.sz) x.e+1
def bx.ok(x:bx):Prop:=okT x.name∧(okI .i64) x.at_∧(okL okT) x.sizes∧(okL az.ok) x.in_∧(okL az.ok) x.out_∧(okL az.ok) x.local_∧(okL TEq.ok) x.eqs
def bx.sz(x:bx):Nat:=szS x.name+szI x.at_+(szL szS) x.sizes+(szL az.sz) x.in_+(szL az.sz) x.out_+(szL az.sz) x.local_+(szL TEq.sz) x.eqs+1
def bI.ok(x:bI):Prop:=(okL bx.ok) x.nodes
def bI.sz(x:bI):Nat:=(szL bx.sz) x.nodes+1
def ai.ok(x:ai):Prop:=(okI .i64) x.code∧(okI .i64) x.at_
def ai.sz(x:ai):Nat:=szI x.code+szI x.at_+1
def te.ok(x:te):Prop:=(okI .i64) x.code∧(okI .i64) x.at_
def te.sz(x:te):Nat:=szI x.code+szI x.at_+1
def aa.ok(x:aa):Prop:=(okI .i64) x.kind∧(okI .i64) x.at_∧okT x.text∧(okI .i64) x.n
def aa.sz(x:aa):Nat:=szI x.kind+szI x.at_+szS x.text+szI x.n+1
def af.ok(x:af):Prop:=(okL aa.ok) x.l∧(okI .i64) x.end_∧(okI .i64) x.open_∧(okI .i64) x.terms
def af.sz(x:af):Nat:=(szL aa.sz) x.l+szI x.end_+szI x.open_+szI x.terms+1
def ae.ok(x:ae):Prop:=(okL aa.ok) x.l∧(okI .i64) x.at_∧(okI .i64) x.end_∧ai.ok x.f∧(okI .i64) x.parts
def ae.sz(x:ae):Nat:=(szL aa.sz) x.l+szI x.at_+szI x.end_+ai.sz x.f+szI x.parts+1
def mN.ok(x:mN):Prop:=okT x.src∧(okI .i64) x.at_∧(okL aa.ok) x.out_
def mN.sz(x:mN):Nat:=szS x.src+szI x.at_+(szL aa.sz) x.out_+1
abbrev ct0(l:List aa):CV:=.tree 4 (l.map aa.enc)
abbrev ct1(l:List ag):CV:=.tree 6 (l.map ag.enc)
abbrev ct2(l:List az):CV:=.tree 3 (l.map az.enc)
abbrev ct3(l:List (List UInt8)):CV:=.tree 1 (l.map eS)
abbrev ct4(l:List bx):CV:=.tree 7 (l.map bx.enc)
abbrev ct5(l:List aj):CV:=.tree 2 (l.map aj.enc)
abbrev ct6(l:List TEq):CV:=.tree 5 (l.map TEq.enc)
end Pam
