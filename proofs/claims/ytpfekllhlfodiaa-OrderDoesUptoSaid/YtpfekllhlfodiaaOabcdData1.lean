/- the plain data of the program, as trees of cells; printed by a program of ours -/
import Derived.Test.YtpfekllhlfodiaaOTypes1
import Derived.Test.YtpfekllhlfodiaaOBase2
set_option linter.all false
namespace Pam
open Go
structure aI where
  op : Int
  k : Int
  v : Int
  n : Int
deriving Inhabited, DecidableEq
def aI.enc (x : aI) : List CV := [.int .i64 x.op, .int .i64 x.k, .int .i64 x.v, .int .i64 x.n]
structure oO where
  op : Int
  k : Int
  n : Int
  to : Int
  f : List aI
  e : List aI
deriving Inhabited, DecidableEq
def oO.enc (x : oO) : List CV := [.int .i64 x.op, .int .i64 x.k, .int .i64 x.n, .int .i64 x.to, .tree 4 (x.f.map aI.enc), .tree 4 (x.e.map aI.enc)]
structure nw where
  cells : Int
  put : List Int
  get : List Int
  steps : List oO
deriving Inhabited, DecidableEq
def nw.enc (x : nw) : List CV := [.int .i64 x.cells, .tree 1 (x.put.map (eK .i64)), .tree 1 (x.get.map (eK .i64)), .tree 6 (x.steps.map oO.enc)]
structure ny where
  op : Int
  k : Int
  r_ : Int
  a : Int
  b : Int
  n : Int
deriving Inhabited, DecidableEq
def ny.enc (x : ny) : List CV := [.int .i64 x.op, .int .i64 x.k, .int .i64 x.r_, .int .i64 x.a, .int .i64 x.b, .int .i64 x.n]
structure lp where
  cells : Int
  regs : Int
  cost : Int
  put : List Int
  bools : List Int
  get : List Int
  code : List ny
deriving Inhabited, DecidableEq
def lp.enc (x : lp) : List CV := [.int .i64 x.cells, .int .i64 x.regs, .int .i64 x.cost, .tree 1 (x.put.map (eK .i64)), .tree 1 (x.bools.map (eK .i64)), .tree 1 (x.get.map (eK .i64)), .tree 6 (x.code.map ny.enc)]
structure au where
  code : Int
  at_ : Int
deriving Inhabited, DecidableEq
def au.enc (x : au) : List CV := [.int .i64 x.code, .int .i64 x.at_]
structure mN where
  l : nw
  cells : List Int
deriving Inhabited, DecidableEq
def mN.enc (x : mN) : List CV := [.int .i64 x.l.cells, .tree 1 (x.l.put.map (eK .i64)), .tree 1 (x.l.get.map (eK .i64)), .tree 6 (x.l.steps.map oO.enc), .tree 1 (x.cells.map (eK .i64))]
structure qB where
  m_ : lp
  cells : List Int
  steps : Int
deriving Inhabited, DecidableEq
def qB.enc (x : qB) : List CV := [.int .i64 x.m_.cells, .int .i64 x.m_.regs, .int .i64 x.m_.cost, .tree 1 (x.m_.put.map (eK .i64)), .tree 1 (x.m_.bools.map (eK .i64)), .tree 1 (x.m_.get.map (eK .i64)), .tree 6 (x.m_.code.map ny.enc), .tree 1 (x.cells.map (eK .i64)), .int .i64 x.steps]
structure ak where
  elem : Int
  n : Int
deriving Inhabited, DecidableEq
def ak.enc (x : ak) : List CV := [.int .u8 x.elem, .int .i64 x.n]
structure ae where
  op : Int
  k : Int
  out_ : Int
  n : Int
  a : List Int
  e : List aI
deriving Inhabited, DecidableEq
def ae.enc (x : ae) : List CV := [.int .i64 x.op, .int .i64 x.k, .int .i64 x.out_, .int .i64 x.n, .tree 1 (x.a.map (eK .i64)), .tree 4 (x.e.map aI.enc)]
structure af where
  vars : List ak
  in_ : List Int
  out_ : List Int
  rules : List ae
deriving Inhabited, DecidableEq
def af.enc (x : af) : List CV := [.tree 2 (x.vars.map ak.enc), .tree 1 (x.in_.map (eK .i64)), .tree 1 (x.out_.map (eK .i64)), .tree 6 (x.rules.map ae.enc)]
structure aC where
  from_ : Int
  to : Int
deriving Inhabited, DecidableEq
def aC.enc (x : aC) : List CV := [.int .i64 x.from_, .int .i64 x.to]
structure mO where
  code : List ny
  regs : Int
deriving Inhabited, DecidableEq
def mO.enc (x : mO) : List CV := [.tree 6 (x.code.map ny.enc), .int .i64 x.regs]
structure lq where
  l : List ny
deriving Inhabited, DecidableEq
def lq.enc (x : lq) : List CV := [.tree 6 (x.l.map ny.enc)]
structure aH where
  system : af
  code : Int
deriving Inhabited, DecidableEq
def aH.enc (x : aH) : List CV := [.tree 2 (x.system.vars.map ak.enc), .tree 1 (x.system.in_.map (eK .i64)), .tree 1 (x.system.out_.map (eK .i64)), .tree 6 (x.system.rules.map ae.enc), .int .i64 x.code]
structure ox where
  system : af
  there : List Bool
deriving Inhabited, DecidableEq
def ox.enc (x : ox) : List CV := [.tree 2 (x.system.vars.map ak.enc), .tree 1 (x.system.in_.map (eK .i64)), .tree 1 (x.system.out_.map (eK .i64)), .tree 6 (x.system.rules.map ae.enc), .tree 1 (x.there.map eB)]
structure jv where
  m_ : lp
deriving Inhabited, DecidableEq
def jv.enc (x : jv) : List CV := [.int .i64 x.m_.cells, .int .i64 x.m_.regs, .int .i64 x.m_.cost, .tree 1 (x.m_.put.map (eK .i64)), .tree 1 (x.m_.bools.map (eK .i64)), .tree 1 (x.m_.get.map (eK .i64)), .tree 6 (x.m_.code.map ny.enc)]
structure mP where
  s : af
  keep : List (List Int)
  v : List (List Int)
  rows : Int
deriving Inhabited, DecidableEq
def mP.enc (x : mP) : List CV := [.tree 2 (x.s.vars.map ak.enc), .tree 1 (x.s.in_.map (eK .i64)), .tree 1 (x.s.out_.map (eK .i64)), .tree 6 (x.s.rules.map ae.enc), .tree 1 (x.keep.map (eL 1 (eK .i64))), .tree 1 (x.v.map (eL 1 (eK .i64))), .int .i64 x.rows]
def bX := (And.intro (And.intro (And.intro (And.intro @aI.enc.eq_1 @oO.enc.eq_1) (And.intro @nw.enc.eq_1 @ny.enc.eq_1)) (And.intro (And.intro @lp.enc.eq_1 @au.enc.eq_1) (And.intro @mN.enc.eq_1 (And.intro @qB.enc.eq_1 @ak.enc.eq_1)))) (And.intro (And.intro (And.intro @ae.enc.eq_1 @af.enc.eq_1) (And.intro @aC.enc.eq_1 @mO.enc.eq_1)) (And.intro (And.intro @lq.enc.eq_1 @aH.enc.eq_1) (And.intro @ox.enc.eq_1 (And.intro @jv.enc.eq_1 @mP.enc.eq_1)))))
def aI.ok (x : aI) : Prop := (okI .i64) x.op ∧ (okI .i64) x.k ∧ (okI .i64) x.v ∧ (okI .i64) x.n
def aI.sz (x : aI) : Nat := szI x.op + szI x.k + szI x.v + szI x.n + 1
def oO.ok (x : oO) : Prop := (okI .i64) x.op ∧ (okI .i64) x.k ∧ (okI .i64) x.n ∧ (okI .i64) x.to ∧ (okL aI.ok) x.f ∧ (okL aI.ok) x.e
def oO.sz (x : oO) : Nat := szI x.op + szI x.k + szI x.n + szI x.to + (szL aI.sz) x.f + (szL aI.sz) x.e + 1
def nw.ok (x : nw) : Prop := (okI .i64) x.cells ∧ (okL (okI .i64)) x.put ∧ (okL (okI .i64)) x.get ∧ (okL oO.ok) x.steps
def nw.sz (x : nw) : Nat := szI x.cells + (szL szI) x.put + (szL szI) x.get + (szL oO.sz) x.steps + 1
def ny.ok (x : ny) : Prop := (okI .i64) x.op ∧ (okI .i64) x.k ∧ (okI .i64) x.r_ ∧ (okI .i64) x.a ∧ (okI .i64) x.b ∧ (okI .i64) x.n
def ny.sz (x : ny) : Nat := szI x.op + szI x.k + szI x.r_ + szI x.a + szI x.b + szI x.n + 1
def lp.ok (x : lp) : Prop := (okI .i64) x.cells ∧ (okI .i64) x.regs ∧ (okI .i64) x.cost ∧ (okL (okI .i64)) x.put ∧ (okL (okI .i64)) x.bools ∧ (okL (okI .i64)) x.get ∧ (okL ny.ok) x.code
def lp.sz (x : lp) : Nat := szI x.cells + szI x.regs + szI x.cost + (szL szI) x.put + (szL szI) x.bools + (szL szI) x.get + (szL ny.sz) x.code + 1
def au.ok (x : au) : Prop := (okI .i64) x.code ∧ (okI .i64) x.at_
def au.sz (x : au) : Nat := szI x.code + szI x.at_ + 1
def mN.ok (x : mN) : Prop := nw.ok x.l ∧ (okL (okI .i64)) x.cells
def mN.sz (x : mN) : Nat := nw.sz x.l + (szL szI) x.cells + 1
def qB.ok (x : qB) : Prop := lp.ok x.m_ ∧ (okL (okI .i64)) x.cells ∧ (okI .i64) x.steps
def qB.sz (x : qB) : Nat := lp.sz x.m_ + (szL szI) x.cells + szI x.steps + 1
def ak.ok (x : ak) : Prop := (okI .u8) x.elem ∧ (okI .i64) x.n
def ak.sz (x : ak) : Nat := szI x.elem + szI x.n + 1
def ae.ok (x : ae) : Prop := (okI .i64) x.op ∧ (okI .i64) x.k ∧ (okI .i64) x.out_ ∧ (okI .i64) x.n ∧ (okL (okI .i64)) x.a ∧ (okL aI.ok) x.e
def ae.sz (x : ae) : Nat := szI x.op + szI x.k + szI x.out_ + szI x.n + (szL szI) x.a + (szL aI.sz) x.e + 1
def af.ok (x : af) : Prop := (okL ak.ok) x.vars ∧ (okL (okI .i64)) x.in_ ∧ (okL (okI .i64)) x.out_ ∧ (okL ae.ok) x.rules
def af.sz (x : af) : Nat := (szL ak.sz) x.vars + (szL szI) x.in_ + (szL szI) x.out_ + (szL ae.sz) x.rules + 1
def aC.ok (x : aC) : Prop := (okI .i64) x.from_ ∧ (okI .i64) x.to
def aC.sz (x : aC) : Nat := szI x.from_ + szI x.to + 1
def mO.ok (x : mO) : Prop := (okL ny.ok) x.code ∧ (okI .i64) x.regs
def mO.sz (x : mO) : Nat := (szL ny.sz) x.code + szI x.regs + 1
def lq.ok (x : lq) : Prop := (okL ny.ok) x.l
def lq.sz (x : lq) : Nat := (szL ny.sz) x.l + 1
def aH.ok (x : aH) : Prop := af.ok x.system ∧ (okI .i64) x.code
def aH.sz (x : aH) : Nat := af.sz x.system + szI x.code + 1
def ox.ok (x : ox) : Prop := af.ok x.system ∧ (okL okT) x.there
def ox.sz (x : ox) : Nat := af.sz x.system + (szL szI) x.there + 1
def jv.ok (x : jv) : Prop := lp.ok x.m_
def jv.sz (x : jv) : Nat := lp.sz x.m_ + 1
def mP.ok (x : mP) : Prop := af.ok x.s ∧ (okL (okL (okI .i64))) x.keep ∧ (okL (okL (okI .i64))) x.v ∧ (okI .i64) x.rows
def mP.sz (x : mP) : Nat := af.sz x.s + (szL (szL szI)) x.keep + (szL (szL szI)) x.v + szI x.rows + 1
end Pam
