/- the plain data of the program, as trees of cells; printed by a program of ours -/
import Derived.Test.YthafkijdkbmdgaaDTypes1
import Derived.Test.YthafkijdkbmdgaaDBase2
import Derived.Test.YthafkijdkbmdgaaDBase3
set_option linter.all false
namespace Pam
open Go
structure ao where
  elem:Int
  n:Int
deriving Inhabited,DecidableEq
def ao.enc (x:ao):List CV:=[.int .u8 x.elem,.int .i64 x.n]
structure ay where
  op:Int
  k:Int
  v:Int
  n:Int
deriving Inhabited,DecidableEq
def ay.enc (x:ay):List CV:=[.int .i64 x.op,.int .i64 x.k,.int .i64 x.v,.int .i64 x.n]
structure af where
  op:Int
  k:Int
  out_:Int
  n:Int
  a:List Int
  e:List ay
deriving Inhabited,DecidableEq
def af.enc (x:af):List CV:=[.int .i64 x.op,.int .i64 x.k,.int .i64 x.out_,.int .i64 x.n,.tree 1 (x.a.map (eK .i64)),.tree 4 (x.e.map ay.enc)]
structure ae where
  vars:List ao
  in_:List Int
  out_:List Int
  rules:List af
deriving Inhabited,DecidableEq
def ae.enc (x:ae):List CV:=[.tree 2 (x.vars.map ao.enc),.tree 1 (x.in_.map (eK .i64)),.tree 1 (x.out_.map (eK .i64)),.tree 6 (x.rules.map af.enc)]
structure aw where
  code:Int
  at_:Int
deriving Inhabited,DecidableEq
def aw.enc (x:aw):List CV:=[.int .i64 x.code,.int .i64 x.at_]
structure m9 where
  system:ae
  there:List Bool
deriving Inhabited,DecidableEq
def m9.enc (x:m9):List CV:=[.tree 2 (x.system.vars.map ao.enc),.tree 1 (x.system.in_.map (eK .i64)),.tree 1 (x.system.out_.map (eK .i64)),.tree 6 (x.system.rules.map af.enc),.tree 1 (x.there.map eB)]
structure lF where
  s:ae
  keep:List (List Int)
  v:List (List Int)
  rows:Int
deriving Inhabited,DecidableEq
def lF.enc (x:lF):List CV:=[.tree 2 (x.s.vars.map ao.enc),.tree 1 (x.s.in_.map (eK .i64)),.tree 1 (x.s.out_.map (eK .i64)),.tree 6 (x.s.rules.map af.enc),.tree 1 (x.keep.map (eL 1 (eK .i64))),.tree 1 (x.v.map (eL 1 (eK .i64))),.int .i64 x.rows]
structure aB where
  system:ae
  code:Int
deriving Inhabited,DecidableEq
def aB.enc (x:aB):List CV:=[.tree 2 (x.system.vars.map ao.enc),.tree 1 (x.system.in_.map (eK .i64)),.tree 1 (x.system.out_.map (eK .i64)),.tree 6 (x.system.rules.map af.enc),.int .i64 x.code]
def bX:=(And.intro (And.intro (And.intro @ao.enc.eq_1 @ay.enc.eq_1) (And.intro @af.enc.eq_1 @ae.enc.eq_1)) (And.intro (And.intro @aw.enc.eq_1 @m9.enc.eq_1) (And.intro @lF.enc.eq_1 (And.intro @aB.enc.eq_1 @eN.eq_1))))
def ao.ok (x:ao):Prop:=(okI .u8) x.elem∧(okI .i64) x.n
def ao.sz (x:ao):Nat:=szI x.elem + szI x.n + 1
def ay.ok (x:ay):Prop:=(okI .i64) x.op∧(okI .i64) x.k∧(okI .i64) x.v∧(okI .i64) x.n
def ay.sz (x:ay):Nat:=szI x.op + szI x.k + szI x.v + szI x.n + 1
def af.ok (x:af):Prop:=(okI .i64) x.op∧(okI .i64) x.k∧(okI .i64) x.out_∧(okI .i64) x.n∧(okL (okI .i64)) x.a∧(okL ay.ok) x.e
def af.sz (x:af):Nat:=szI x.op + szI x.k + szI x.out_ + szI x.n + (szL szI) x.a + (szL ay.sz) x.e + 1
def ae.ok (x:ae):Prop:=(okL ao.ok) x.vars∧(okL (okI .i64)) x.in_∧(okL (okI .i64)) x.out_∧(okL af.ok) x.rules
def ae.sz (x:ae):Nat:=(szL ao.sz) x.vars + (szL szI) x.in_ + (szL szI) x.out_ + (szL af.sz) x.rules + 1
def aw.ok (x:aw):Prop:=(okI .i64) x.code∧(okI .i64) x.at_
def aw.sz (x:aw):Nat:=szI x.code + szI x.at_ + 1
def m9.ok (x:m9):Prop:=ae.ok x.system∧(okL okT) x.there
def m9.sz (x:m9):Nat:=ae.sz x.system + (szL szI) x.there + 1
def lF.ok (x:lF):Prop:=ae.ok x.s∧(okL (okL (okI .i64))) x.keep∧(okL (okL (okI .i64))) x.v∧(okI .i64) x.rows
def lF.sz (x:lF):Nat:=ae.sz x.s + (szL (szL szI)) x.keep + (szL (szL szI)) x.v + szI x.rows + 1
def aB.ok (x:aB):Prop:=ae.ok x.system∧(okI .i64) x.code
def aB.sz (x:aB):Nat:=ae.sz x.system + szI x.code + 1
end Pam
