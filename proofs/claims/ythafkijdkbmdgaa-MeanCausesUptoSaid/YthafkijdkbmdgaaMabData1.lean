/- the plain data of the program, as trees of cells; printed by a program of ours -/
import Derived.Test.YthafkijdkbmdgaaMTypes1
import Derived.Test.YthafkijdkbmdgaaMBase2
import Derived.Test.YthafkijdkbmdgaaMBase3
set_option linter.all false
namespace Pam
open Go
structure ah where
  elem : Int
  n : Int
deriving Inhabited, DecidableEq
def ah.enc (x : ah) : List CV := [.int .u8 x.elem, .int .i64 x.n]
structure aq where
  op : Int
  k : Int
  v : Int
  n : Int
deriving Inhabited, DecidableEq
def aq.enc (x : aq) : List CV := [.int .i64 x.op, .int .i64 x.k, .int .i64 x.v, .int .i64 x.n]
structure ab where
  op : Int
  k : Int
  out_ : Int
  n : Int
  a : List Int
  e : List aq
deriving Inhabited, DecidableEq
def ab.enc (x : ab) : List CV := [.int .i64 x.op, .int .i64 x.k, .int .i64 x.out_, .int .i64 x.n, .tree 1 (x.a.map (eK .i64)), .tree 4 (x.e.map aq.enc)]
structure ae where
  vars : List ah
  in_ : List Int
  out_ : List Int
  rules : List ab
deriving Inhabited, DecidableEq
def ae.enc (x : ae) : List CV := [.tree 2 (x.vars.map ah.enc), .tree 1 (x.in_.map (eK .i64)), .tree 1 (x.out_.map (eK .i64)), .tree 6 (x.rules.map ab.enc)]
structure av where
  code : Int
  at_ : Int
deriving Inhabited, DecidableEq
def av.enc (x : av) : List CV := [.int .i64 x.code, .int .i64 x.at_]
structure mJ where
  system : ae
  there : List Bool
deriving Inhabited, DecidableEq
def mJ.enc (x : mJ) : List CV := [.tree 2 (x.system.vars.map ah.enc), .tree 1 (x.system.in_.map (eK .i64)), .tree 1 (x.system.out_.map (eK .i64)), .tree 6 (x.system.rules.map ab.enc), .tree 1 (x.there.map eB)]
structure lg where
  s : ae
  keep : List (List Int)
  v : List (List Int)
  rows : Int
deriving Inhabited, DecidableEq
def lg.enc (x : lg) : List CV := [.tree 2 (x.s.vars.map ah.enc), .tree 1 (x.s.in_.map (eK .i64)), .tree 1 (x.s.out_.map (eK .i64)), .tree 6 (x.s.rules.map ab.enc), .tree 1 (x.keep.map (eL 1 (eK .i64))), .tree 1 (x.v.map (eL 1 (eK .i64))), .int .i64 x.rows]
structure ax where
  system : ae
  code : Int
deriving Inhabited, DecidableEq
def ax.enc (x : ax) : List CV := [.tree 2 (x.system.vars.map ah.enc), .tree 1 (x.system.in_.map (eK .i64)), .tree 1 (x.system.out_.map (eK .i64)), .tree 6 (x.system.rules.map ab.enc), .int .i64 x.code]
def bX := (And.intro (And.intro (And.intro @ah.enc.eq_1 @aq.enc.eq_1) (And.intro @ab.enc.eq_1 @ae.enc.eq_1)) (And.intro (And.intro @av.enc.eq_1 @mJ.enc.eq_1) (And.intro @lg.enc.eq_1 (And.intro @ax.enc.eq_1 @eN.eq_1))))
def ah.ok (x : ah) : Prop := (okI .u8) x.elem ∧ (okI .i64) x.n
def ah.sz (x : ah) : Nat := szI x.elem + szI x.n + 1
def aq.ok (x : aq) : Prop := (okI .i64) x.op ∧ (okI .i64) x.k ∧ (okI .i64) x.v ∧ (okI .i64) x.n
def aq.sz (x : aq) : Nat := szI x.op + szI x.k + szI x.v + szI x.n + 1
def ab.ok (x : ab) : Prop := (okI .i64) x.op ∧ (okI .i64) x.k ∧ (okI .i64) x.out_ ∧ (okI .i64) x.n ∧ (okL (okI .i64)) x.a ∧ (okL aq.ok) x.e
def ab.sz (x : ab) : Nat := szI x.op + szI x.k + szI x.out_ + szI x.n + (szL szI) x.a + (szL aq.sz) x.e + 1
def ae.ok (x : ae) : Prop := (okL ah.ok) x.vars ∧ (okL (okI .i64)) x.in_ ∧ (okL (okI .i64)) x.out_ ∧ (okL ab.ok) x.rules
def ae.sz (x : ae) : Nat := (szL ah.sz) x.vars + (szL szI) x.in_ + (szL szI) x.out_ + (szL ab.sz) x.rules + 1
def av.ok (x : av) : Prop := (okI .i64) x.code ∧ (okI .i64) x.at_
def av.sz (x : av) : Nat := szI x.code + szI x.at_ + 1
def mJ.ok (x : mJ) : Prop := ae.ok x.system ∧ (okL okT) x.there
def mJ.sz (x : mJ) : Nat := ae.sz x.system + (szL szI) x.there + 1
def lg.ok (x : lg) : Prop := ae.ok x.s ∧ (okL (okL (okI .i64))) x.keep ∧ (okL (okL (okI .i64))) x.v ∧ (okI .i64) x.rows
def lg.sz (x : lg) : Nat := ae.sz x.s + (szL (szL szI)) x.keep + (szL (szL szI)) x.v + szI x.rows + 1
def ax.ok (x : ax) : Prop := ae.ok x.system ∧ (okI .i64) x.code
def ax.sz (x : ax) : Nat := ae.sz x.system + szI x.code + 1
end Pam
