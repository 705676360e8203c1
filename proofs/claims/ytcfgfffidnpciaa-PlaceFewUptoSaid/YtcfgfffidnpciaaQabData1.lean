/- the plain data of the program, as trees of cells; printed by a program of ours -/
import Derived.Test.YtcfgfffidnpciaaQTypes1
import Derived.Test.YtcfgfffidnpciaaQBase2
set_option linter.all false
namespace Pam
open Go
structure ap where
  elem : Int
  n : Int
deriving Inhabited, DecidableEq
def ap.enc (x : ap) : List CV := [.int .u8 x.elem, .int .i64 x.n]
structure ax where
  op : Int
  k : Int
  v : Int
  n : Int
deriving Inhabited, DecidableEq
def ax.enc (x : ax) : List CV := [.int .i64 x.op, .int .i64 x.k, .int .i64 x.v, .int .i64 x.n]
structure ae where
  op : Int
  k : Int
  out_ : Int
  n : Int
  a : List Int
  e : List ax
deriving Inhabited, DecidableEq
def ae.enc (x : ae) : List CV := [.int .i64 x.op, .int .i64 x.k, .int .i64 x.out_, .int .i64 x.n, .tree 1 (x.a.map (eK .i64)), .tree 4 (x.e.map ax.enc)]
structure ab where
  vars : List ap
  in_ : List Int
  out_ : List Int
  rules : List ae
deriving Inhabited, DecidableEq
def ab.enc (x : ab) : List CV := [.tree 2 (x.vars.map ap.enc), .tree 1 (x.in_.map (eK .i64)), .tree 1 (x.out_.map (eK .i64)), .tree 6 (x.rules.map ae.enc)]
structure dk where
  at_ : List Int
  keep : List Int
  cells : Int
deriving Inhabited, DecidableEq
def dk.enc (x : dk) : List CV := [.tree 1 (x.at_.map (eK .i64)), .tree 1 (x.keep.map (eK .i64)), .int .i64 x.cells]
structure au where
  code : Int
  at_ : Int
deriving Inhabited, DecidableEq
def au.enc (x : au) : List CV := [.int .i64 x.code, .int .i64 x.at_]
structure am where
  from_ : Int
  to : Int
deriving Inhabited, DecidableEq
def am.enc (x : am) : List CV := [.int .i64 x.from_, .int .i64 x.to]
structure lA where
  s : ab
  spans : List am
  by_ : List Int
  p : dk
  done : List Int
deriving Inhabited, DecidableEq
def lA.enc (x : lA) : List CV := [.tree 2 (x.s.vars.map ap.enc), .tree 1 (x.s.in_.map (eK .i64)), .tree 1 (x.s.out_.map (eK .i64)), .tree 6 (x.s.rules.map ae.enc), .tree 2 (x.spans.map am.enc), .tree 1 (x.by_.map (eK .i64)), .tree 1 (x.p.at_.map (eK .i64)), .tree 1 (x.p.keep.map (eK .i64)), .int .i64 x.p.cells, .tree 1 (x.done.map (eK .i64))]
structure av where
  system : ab
  code : Int
deriving Inhabited, DecidableEq
def av.enc (x : av) : List CV := [.tree 2 (x.system.vars.map ap.enc), .tree 1 (x.system.in_.map (eK .i64)), .tree 1 (x.system.out_.map (eK .i64)), .tree 6 (x.system.rules.map ae.enc), .int .i64 x.code]
structure lB where
  system : ab
  there : List Bool
deriving Inhabited, DecidableEq
def lB.enc (x : lB) : List CV := [.tree 2 (x.system.vars.map ap.enc), .tree 1 (x.system.in_.map (eK .i64)), .tree 1 (x.system.out_.map (eK .i64)), .tree 6 (x.system.rules.map ae.enc), .tree 1 (x.there.map eB)]
def bX := (And.intro (And.intro (And.intro @ap.enc.eq_1 @ax.enc.eq_1) (And.intro @ae.enc.eq_1 (And.intro @ab.enc.eq_1 @dk.enc.eq_1))) (And.intro (And.intro @au.enc.eq_1 @am.enc.eq_1) (And.intro @lA.enc.eq_1 (And.intro @av.enc.eq_1 @lB.enc.eq_1))))
def ap.ok (x : ap) : Prop := (okI .u8) x.elem ∧ (okI .i64) x.n
def ap.sz (x : ap) : Nat := szI x.elem + szI x.n + 1
def ax.ok (x : ax) : Prop := (okI .i64) x.op ∧ (okI .i64) x.k ∧ (okI .i64) x.v ∧ (okI .i64) x.n
def ax.sz (x : ax) : Nat := szI x.op + szI x.k + szI x.v + szI x.n + 1
def ae.ok (x : ae) : Prop := (okI .i64) x.op ∧ (okI .i64) x.k ∧ (okI .i64) x.out_ ∧ (okI .i64) x.n ∧ (okL (okI .i64)) x.a ∧ (okL ax.ok) x.e
def ae.sz (x : ae) : Nat := szI x.op + szI x.k + szI x.out_ + szI x.n + (szL szI) x.a + (szL ax.sz) x.e + 1
def ab.ok (x : ab) : Prop := (okL ap.ok) x.vars ∧ (okL (okI .i64)) x.in_ ∧ (okL (okI .i64)) x.out_ ∧ (okL ae.ok) x.rules
def ab.sz (x : ab) : Nat := (szL ap.sz) x.vars + (szL szI) x.in_ + (szL szI) x.out_ + (szL ae.sz) x.rules + 1
def dk.ok (x : dk) : Prop := (okL (okI .i64)) x.at_ ∧ (okL (okI .i64)) x.keep ∧ (okI .i64) x.cells
def dk.sz (x : dk) : Nat := (szL szI) x.at_ + (szL szI) x.keep + szI x.cells + 1
def au.ok (x : au) : Prop := (okI .i64) x.code ∧ (okI .i64) x.at_
def au.sz (x : au) : Nat := szI x.code + szI x.at_ + 1
def am.ok (x : am) : Prop := (okI .i64) x.from_ ∧ (okI .i64) x.to
def am.sz (x : am) : Nat := szI x.from_ + szI x.to + 1
def lA.ok (x : lA) : Prop := ab.ok x.s ∧ (okL am.ok) x.spans ∧ (okL (okI .i64)) x.by_ ∧ dk.ok x.p ∧ (okL (okI .i64)) x.done
def lA.sz (x : lA) : Nat := ab.sz x.s + (szL am.sz) x.spans + (szL szI) x.by_ + dk.sz x.p + (szL szI) x.done + 1
def av.ok (x : av) : Prop := ab.ok x.system ∧ (okI .i64) x.code
def av.sz (x : av) : Nat := ab.sz x.system + szI x.code + 1
def lB.ok (x : lB) : Prop := ab.ok x.system ∧ (okL okT) x.there
def lB.sz (x : lB) : Nat := ab.sz x.system + (szL szI) x.there + 1
end Pam
