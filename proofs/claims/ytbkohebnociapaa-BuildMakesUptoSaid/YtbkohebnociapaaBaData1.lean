/- the plain data of the program, as trees of cells; printed by a program of ours -/
import Derived.Test.YtbkohebnociapaaBTypes1
import Derived.Test.YtbkohebnociapaaBBase2
set_option linter.all false
namespace Pam
open Go
structure ap where
  elem : Int
  n : Int
deriving Inhabited, DecidableEq
def ap.enc (x : ap) : List CV := [.int .u8 x.elem, .int .i64 x.n]
structure aj where
  op : Int
  k : Int
  v : Int
  n : Int
deriving Inhabited, DecidableEq
def aj.enc (x : aj) : List CV := [.int .i64 x.op, .int .i64 x.k, .int .i64 x.v, .int .i64 x.n]
structure ah where
  op : Int
  k : Int
  out_ : Int
  n : Int
  a : List Int
  e : List aj
deriving Inhabited, DecidableEq
def ah.enc (x : ah) : List CV := [.int .i64 x.op, .int .i64 x.k, .int .i64 x.out_, .int .i64 x.n, .tree 1 (x.a.map (eK .i64)), .tree 4 (x.e.map aj.enc)]
structure ae where
  vars : List ap
  in_ : List Int
  out_ : List Int
  rules : List ah
deriving Inhabited, DecidableEq
def ae.enc (x : ae) : List CV := [.tree 2 (x.vars.map ap.enc), .tree 1 (x.in_.map (eK .i64)), .tree 1 (x.out_.map (eK .i64)), .tree 6 (x.rules.map ah.enc)]
structure ay where
  code : Int
  at_ : Int
deriving Inhabited, DecidableEq
def ay.enc (x : ay) : List CV := [.int .i64 x.code, .int .i64 x.at_]
structure aK where
  at_ : List Int
  keep : List Int
  cells : Int
deriving Inhabited, DecidableEq
def aK.enc (x : aK) : List CV := [.tree 1 (x.at_.map (eK .i64)), .tree 1 (x.keep.map (eK .i64)), .int .i64 x.cells]
structure av where
  op : Int
  k : Int
  n : Int
  to : Int
  f : List aj
  e : List aj
deriving Inhabited, DecidableEq
def av.enc (x : av) : List CV := [.int .i64 x.op, .int .i64 x.k, .int .i64 x.n, .int .i64 x.to, .tree 4 (x.f.map aj.enc), .tree 4 (x.e.map aj.enc)]
structure bq where
  cells : Int
  put : List Int
  get : List Int
  steps : List av
deriving Inhabited, DecidableEq
def bq.enc (x : bq) : List CV := [.int .i64 x.cells, .tree 1 (x.put.map (eK .i64)), .tree 1 (x.get.map (eK .i64)), .tree 6 (x.steps.map av.enc)]
structure nh where
  from_ : Int
  to : Int
deriving Inhabited, DecidableEq
def nh.enc (x : nh) : List CV := [.int .i64 x.from_, .int .i64 x.to]
structure mI where
  system : ae
  there : List Bool
deriving Inhabited, DecidableEq
def mI.enc (x : mI) : List CV := [.tree 2 (x.system.vars.map ap.enc), .tree 1 (x.system.in_.map (eK .i64)), .tree 1 (x.system.out_.map (eK .i64)), .tree 6 (x.system.rules.map ah.enc), .tree 1 (x.there.map eB)]
structure lb where
  s : ae
  p : aK
  l : List av
  bits : List Int
deriving Inhabited, DecidableEq
def lb.enc (x : lb) : List CV := [.tree 2 (x.s.vars.map ap.enc), .tree 1 (x.s.in_.map (eK .i64)), .tree 1 (x.s.out_.map (eK .i64)), .tree 6 (x.s.rules.map ah.enc), .tree 1 (x.p.at_.map (eK .i64)), .tree 1 (x.p.keep.map (eK .i64)), .int .i64 x.p.cells, .tree 6 (x.l.map av.enc), .tree 1 (x.bits.map (eK .i64))]
structure mJ where
  s : ae
  spans : List nh
  by_ : List Int
  p : aK
  done : List Int
deriving Inhabited, DecidableEq
def mJ.enc (x : mJ) : List CV := [.tree 2 (x.s.vars.map ap.enc), .tree 1 (x.s.in_.map (eK .i64)), .tree 1 (x.s.out_.map (eK .i64)), .tree 6 (x.s.rules.map ah.enc), .tree 2 (x.spans.map nh.enc), .tree 1 (x.by_.map (eK .i64)), .tree 1 (x.p.at_.map (eK .i64)), .tree 1 (x.p.keep.map (eK .i64)), .int .i64 x.p.cells, .tree 1 (x.done.map (eK .i64))]
structure oG where
  system : ae
deriving Inhabited, DecidableEq
def oG.enc (x : oG) : List CV := [.tree 2 (x.system.vars.map ap.enc), .tree 1 (x.system.in_.map (eK .i64)), .tree 1 (x.system.out_.map (eK .i64)), .tree 6 (x.system.rules.map ah.enc)]
structure qW where
  rule : Int
  step : Int
deriving Inhabited, DecidableEq
def qW.enc (x : qW) : List CV := [.int .i64 x.rule, .int .i64 x.step]
structure aC where
  system : ae
  code : Int
deriving Inhabited, DecidableEq
def aC.enc (x : aC) : List CV := [.tree 2 (x.system.vars.map ap.enc), .tree 1 (x.system.in_.map (eK .i64)), .tree 1 (x.system.out_.map (eK .i64)), .tree 6 (x.system.rules.map ah.enc), .int .i64 x.code]
def bX := (And.intro (And.intro (And.intro @ap.enc.eq_1 (And.intro @aj.enc.eq_1 @ah.enc.eq_1)) (And.intro (And.intro @ae.enc.eq_1 @ay.enc.eq_1) (And.intro @aK.enc.eq_1 @av.enc.eq_1))) (And.intro (And.intro (And.intro @bq.enc.eq_1 @nh.enc.eq_1) (And.intro @mI.enc.eq_1 @lb.enc.eq_1)) (And.intro (And.intro @mJ.enc.eq_1 @oG.enc.eq_1) (And.intro @qW.enc.eq_1 @aC.enc.eq_1))))
def ap.ok (x : ap) : Prop := (okI .u8) x.elem ∧ (okI .i64) x.n
def ap.sz (x : ap) : Nat := szI x.elem + szI x.n + 1
def aj.ok (x : aj) : Prop := (okI .i64) x.op ∧ (okI .i64) x.k ∧ (okI .i64) x.v ∧ (okI .i64) x.n
def aj.sz (x : aj) : Nat := szI x.op + szI x.k + szI x.v + szI x.n + 1
def ah.ok (x : ah) : Prop := (okI .i64) x.op ∧ (okI .i64) x.k ∧ (okI .i64) x.out_ ∧ (okI .i64) x.n ∧ (okL (okI .i64)) x.a ∧ (okL aj.ok) x.e
def ah.sz (x : ah) : Nat := szI x.op + szI x.k + szI x.out_ + szI x.n + (szL szI) x.a + (szL aj.sz) x.e + 1
def ae.ok (x : ae) : Prop := (okL ap.ok) x.vars ∧ (okL (okI .i64)) x.in_ ∧ (okL (okI .i64)) x.out_ ∧ (okL ah.ok) x.rules
def ae.sz (x : ae) : Nat := (szL ap.sz) x.vars + (szL szI) x.in_ + (szL szI) x.out_ + (szL ah.sz) x.rules + 1
def ay.ok (x : ay) : Prop := (okI .i64) x.code ∧ (okI .i64) x.at_
def ay.sz (x : ay) : Nat := szI x.code + szI x.at_ + 1
def aK.ok (x : aK) : Prop := (okL (okI .i64)) x.at_ ∧ (okL (okI .i64)) x.keep ∧ (okI .i64) x.cells
def aK.sz (x : aK) : Nat := (szL szI) x.at_ + (szL szI) x.keep + szI x.cells + 1
def av.ok (x : av) : Prop := (okI .i64) x.op ∧ (okI .i64) x.k ∧ (okI .i64) x.n ∧ (okI .i64) x.to ∧ (okL aj.ok) x.f ∧ (okL aj.ok) x.e
def av.sz (x : av) : Nat := szI x.op + szI x.k + szI x.n + szI x.to + (szL aj.sz) x.f + (szL aj.sz) x.e + 1
def bq.ok (x : bq) : Prop := (okI .i64) x.cells ∧ (okL (okI .i64)) x.put ∧ (okL (okI .i64)) x.get ∧ (okL av.ok) x.steps
def bq.sz (x : bq) : Nat := szI x.cells + (szL szI) x.put + (szL szI) x.get + (szL av.sz) x.steps + 1
def nh.ok (x : nh) : Prop := (okI .i64) x.from_ ∧ (okI .i64) x.to
def nh.sz (x : nh) : Nat := szI x.from_ + szI x.to + 1
def mI.ok (x : mI) : Prop := ae.ok x.system ∧ (okL okT) x.there
def mI.sz (x : mI) : Nat := ae.sz x.system + (szL szI) x.there + 1
def lb.ok (x : lb) : Prop := ae.ok x.s ∧ aK.ok x.p ∧ (okL av.ok) x.l ∧ (okL (okI .i64)) x.bits
def lb.sz (x : lb) : Nat := ae.sz x.s + aK.sz x.p + (szL av.sz) x.l + (szL szI) x.bits + 1
def mJ.ok (x : mJ) : Prop := ae.ok x.s ∧ (okL nh.ok) x.spans ∧ (okL (okI .i64)) x.by_ ∧ aK.ok x.p ∧ (okL (okI .i64)) x.done
def mJ.sz (x : mJ) : Nat := ae.sz x.s + (szL nh.sz) x.spans + (szL szI) x.by_ + aK.sz x.p + (szL szI) x.done + 1
def oG.ok (x : oG) : Prop := ae.ok x.system
def oG.sz (x : oG) : Nat := ae.sz x.system + 1
def qW.ok (x : qW) : Prop := (okI .i64) x.rule ∧ (okI .i64) x.step
def qW.sz (x : qW) : Nat := szI x.rule + szI x.step + 1
def aC.ok (x : aC) : Prop := ae.ok x.system ∧ (okI .i64) x.code
def aC.sz (x : aC) : Nat := ae.sz x.system + szI x.code + 1
end Pam
