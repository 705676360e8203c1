/- the plain data of the program, as trees of cells; printed by a program of ours -/
import Derived.Test.YtbkohebnociapaaATypes1
import Derived.Test.YtbkohebnociapaaABase2
set_option linter.all false
namespace Pam
open Go
structure ai where
  elem : Int
  n : Int
deriving Inhabited, DecidableEq
def ai.enc (x : ai) : List CV := [.int .u8 x.elem, .int .i64 x.n]
structure aD where
  op : Int
  k : Int
  v : Int
  n : Int
deriving Inhabited, DecidableEq
def aD.enc (x : aD) : List CV := [.int .i64 x.op, .int .i64 x.k, .int .i64 x.v, .int .i64 x.n]
structure ae where
  op : Int
  k : Int
  out_ : Int
  n : Int
  a : List Int
  e : List aD
deriving Inhabited, DecidableEq
def ae.enc (x : ae) : List CV := [.int .i64 x.op, .int .i64 x.k, .int .i64 x.out_, .int .i64 x.n, .tree 1 (x.a.map (eK .i64)), .tree 4 (x.e.map aD.enc)]
structure ag where
  vars : List ai
  in_ : List Int
  out_ : List Int
  rules : List ae
deriving Inhabited, DecidableEq
def ag.enc (x : ag) : List CV := [.tree 2 (x.vars.map ai.enc), .tree 1 (x.in_.map (eK .i64)), .tree 1 (x.out_.map (eK .i64)), .tree 6 (x.rules.map ae.enc)]
structure ar where
  code : Int
  at_ : Int
deriving Inhabited, DecidableEq
def ar.enc (x : ar) : List CV := [.int .i64 x.code, .int .i64 x.at_]
structure i1 where
  at_ : List Int
  keep : List Int
  cells : Int
deriving Inhabited, DecidableEq
def i1.enc (x : i1) : List CV := [.tree 1 (x.at_.map (eK .i64)), .tree 1 (x.keep.map (eK .i64)), .int .i64 x.cells]
structure jF where
  op : Int
  k : Int
  n : Int
  to : Int
  f : List aD
  e : List aD
deriving Inhabited, DecidableEq
def jF.enc (x : jF) : List CV := [.int .i64 x.op, .int .i64 x.k, .int .i64 x.n, .int .i64 x.to, .tree 4 (x.f.map aD.enc), .tree 4 (x.e.map aD.enc)]
structure mM where
  cells : Int
  put : List Int
  get : List Int
  steps : List jF
deriving Inhabited, DecidableEq
def mM.enc (x : mM) : List CV := [.int .i64 x.cells, .tree 1 (x.put.map (eK .i64)), .tree 1 (x.get.map (eK .i64)), .tree 6 (x.steps.map jF.enc)]
structure lA where
  from_ : Int
  to : Int
deriving Inhabited, DecidableEq
def lA.enc (x : lA) : List CV := [.int .i64 x.from_, .int .i64 x.to]
structure kP where
  system : ag
  there : List Bool
deriving Inhabited, DecidableEq
def kP.enc (x : kP) : List CV := [.tree 2 (x.system.vars.map ai.enc), .tree 1 (x.system.in_.map (eK .i64)), .tree 1 (x.system.out_.map (eK .i64)), .tree 6 (x.system.rules.map ae.enc), .tree 1 (x.there.map eB)]
structure jG where
  s : ag
  p : i1
  l : List jF
  bits : List Int
deriving Inhabited, DecidableEq
def jG.enc (x : jG) : List CV := [.tree 2 (x.s.vars.map ai.enc), .tree 1 (x.s.in_.map (eK .i64)), .tree 1 (x.s.out_.map (eK .i64)), .tree 6 (x.s.rules.map ae.enc), .tree 1 (x.p.at_.map (eK .i64)), .tree 1 (x.p.keep.map (eK .i64)), .int .i64 x.p.cells, .tree 6 (x.l.map jF.enc), .tree 1 (x.bits.map (eK .i64))]
structure kQ where
  s : ag
  spans : List lA
  by_ : List Int
  p : i1
  done : List Int
deriving Inhabited, DecidableEq
def kQ.enc (x : kQ) : List CV := [.tree 2 (x.s.vars.map ai.enc), .tree 1 (x.s.in_.map (eK .i64)), .tree 1 (x.s.out_.map (eK .i64)), .tree 6 (x.s.rules.map ae.enc), .tree 2 (x.spans.map lA.enc), .tree 1 (x.by_.map (eK .i64)), .tree 1 (x.p.at_.map (eK .i64)), .tree 1 (x.p.keep.map (eK .i64)), .int .i64 x.p.cells, .tree 1 (x.done.map (eK .i64))]
structure mN where
  system : ag
deriving Inhabited, DecidableEq
def mN.enc (x : mN) : List CV := [.tree 2 (x.system.vars.map ai.enc), .tree 1 (x.system.in_.map (eK .i64)), .tree 1 (x.system.out_.map (eK .i64)), .tree 6 (x.system.rules.map ae.enc)]
structure po where
  rule : Int
  step : Int
deriving Inhabited, DecidableEq
def po.enc (x : po) : List CV := [.int .i64 x.rule, .int .i64 x.step]
structure aw where
  system : ag
  code : Int
deriving Inhabited, DecidableEq
def aw.enc (x : aw) : List CV := [.tree 2 (x.system.vars.map ai.enc), .tree 1 (x.system.in_.map (eK .i64)), .tree 1 (x.system.out_.map (eK .i64)), .tree 6 (x.system.rules.map ae.enc), .int .i64 x.code]
def bX := (And.intro (And.intro (And.intro @ai.enc.eq_1 (And.intro @aD.enc.eq_1 @ae.enc.eq_1)) (And.intro (And.intro @ag.enc.eq_1 @ar.enc.eq_1) (And.intro @i1.enc.eq_1 @jF.enc.eq_1))) (And.intro (And.intro (And.intro @mM.enc.eq_1 @lA.enc.eq_1) (And.intro @kP.enc.eq_1 @jG.enc.eq_1)) (And.intro (And.intro @kQ.enc.eq_1 @mN.enc.eq_1) (And.intro @po.enc.eq_1 @aw.enc.eq_1))))
def ai.ok (x : ai) : Prop := (okI .u8) x.elem ∧ (okI .i64) x.n
def ai.sz (x : ai) : Nat := szI x.elem + szI x.n + 1
def aD.ok (x : aD) : Prop := (okI .i64) x.op ∧ (okI .i64) x.k ∧ (okI .i64) x.v ∧ (okI .i64) x.n
def aD.sz (x : aD) : Nat := szI x.op + szI x.k + szI x.v + szI x.n + 1
def ae.ok (x : ae) : Prop := (okI .i64) x.op ∧ (okI .i64) x.k ∧ (okI .i64) x.out_ ∧ (okI .i64) x.n ∧ (okL (okI .i64)) x.a ∧ (okL aD.ok) x.e
def ae.sz (x : ae) : Nat := szI x.op + szI x.k + szI x.out_ + szI x.n + (szL szI) x.a + (szL aD.sz) x.e + 1
def ag.ok (x : ag) : Prop := (okL ai.ok) x.vars ∧ (okL (okI .i64)) x.in_ ∧ (okL (okI .i64)) x.out_ ∧ (okL ae.ok) x.rules
def ag.sz (x : ag) : Nat := (szL ai.sz) x.vars + (szL szI) x.in_ + (szL szI) x.out_ + (szL ae.sz) x.rules + 1
def ar.ok (x : ar) : Prop := (okI .i64) x.code ∧ (okI .i64) x.at_
def ar.sz (x : ar) : Nat := szI x.code + szI x.at_ + 1
def i1.ok (x : i1) : Prop := (okL (okI .i64)) x.at_ ∧ (okL (okI .i64)) x.keep ∧ (okI .i64) x.cells
def i1.sz (x : i1) : Nat := (szL szI) x.at_ + (szL szI) x.keep + szI x.cells + 1
def jF.ok (x : jF) : Prop := (okI .i64) x.op ∧ (okI .i64) x.k ∧ (okI .i64) x.n ∧ (okI .i64) x.to ∧ (okL aD.ok) x.f ∧ (okL aD.ok) x.e
def jF.sz (x : jF) : Nat := szI x.op + szI x.k + szI x.n + szI x.to + (szL aD.sz) x.f + (szL aD.sz) x.e + 1
def mM.ok (x : mM) : Prop := (okI .i64) x.cells ∧ (okL (okI .i64)) x.put ∧ (okL (okI .i64)) x.get ∧ (okL jF.ok) x.steps
def mM.sz (x : mM) : Nat := szI x.cells + (szL szI) x.put + (szL szI) x.get + (szL jF.sz) x.steps + 1
def lA.ok (x : lA) : Prop := (okI .i64) x.from_ ∧ (okI .i64) x.to
def lA.sz (x : lA) : Nat := szI x.from_ + szI x.to + 1
def kP.ok (x : kP) : Prop := ag.ok x.system ∧ (okL okT) x.there
def kP.sz (x : kP) : Nat := ag.sz x.system + (szL szI) x.there + 1
def jG.ok (x : jG) : Prop := ag.ok x.s ∧ i1.ok x.p ∧ (okL jF.ok) x.l ∧ (okL (okI .i64)) x.bits
def jG.sz (x : jG) : Nat := ag.sz x.s + i1.sz x.p + (szL jF.sz) x.l + (szL szI) x.bits + 1
def kQ.ok (x : kQ) : Prop := ag.ok x.s ∧ (okL lA.ok) x.spans ∧ (okL (okI .i64)) x.by_ ∧ i1.ok x.p ∧ (okL (okI .i64)) x.done
def kQ.sz (x : kQ) : Nat := ag.sz x.s + (szL lA.sz) x.spans + (szL szI) x.by_ + i1.sz x.p + (szL szI) x.done + 1
def mN.ok (x : mN) : Prop := ag.ok x.system
def mN.sz (x : mN) : Nat := ag.sz x.system + 1
def po.ok (x : po) : Prop := (okI .i64) x.rule ∧ (okI .i64) x.step
def po.sz (x : po) : Nat := szI x.rule + szI x.step + 1
def aw.ok (x : aw) : Prop := ag.ok x.system ∧ (okI .i64) x.code
def aw.sz (x : aw) : Nat := ag.sz x.system + szI x.code + 1
end Pam
