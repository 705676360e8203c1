/- the plain data of the program, as trees of cells; printed by a program of ours -/
import Derived.Test.YtpfekllhlfodiaaTypes1
import Derived.Test.YtpfekllhlfodiaaBase3
set_option linter.all false
namespace Pam
open Go
structure TPush where
  op : Int
  k : Int
  v : Int
  n : Int
deriving Inhabited, DecidableEq
def TPush.enc (x : TPush) : List CV := [.int .i64 x.op, .int .i64 x.k, .int .i64 x.v, .int .i64 x.n]
structure TLoop where
  op : Int
  k : Int
  n : Int
  to : Int
  f : List TPush
  e : List TPush
deriving Inhabited, DecidableEq
def TLoop.enc (x : TLoop) : List CV := [.int .i64 x.op, .int .i64 x.k, .int .i64 x.n, .int .i64 x.to, .tree 4 (x.f.map TPush.enc), .tree 4 (x.e.map TPush.enc)]
structure TLoops where
  cells : Int
  put : List Int
  get : List Int
  steps : List TLoop
deriving Inhabited, DecidableEq
def TLoops.enc (x : TLoops) : List CV := [.int .i64 x.cells, .tree 1 (x.put.map (eK .i64)), .tree 1 (x.get.map (eK .i64)), .tree 6 (x.steps.map TLoop.enc)]
structure TIns where
  op : Int
  k : Int
  r_ : Int
  a : Int
  b : Int
  n : Int
deriving Inhabited, DecidableEq
def TIns.enc (x : TIns) : List CV := [.int .i64 x.op, .int .i64 x.k, .int .i64 x.r_, .int .i64 x.a, .int .i64 x.b, .int .i64 x.n]
structure TImage where
  cells : Int
  regs : Int
  cost : Int
  put : List Int
  bools : List Int
  get : List Int
  code : List TIns
deriving Inhabited, DecidableEq
def TImage.enc (x : TImage) : List CV := [.int .i64 x.cells, .int .i64 x.regs, .int .i64 x.cost, .tree 1 (x.put.map (eK .i64)), .tree 1 (x.bools.map (eK .i64)), .tree 1 (x.get.map (eK .i64)), .tree 6 (x.code.map TIns.enc)]
structure TFault where
  code : Int
  at_ : Int
deriving Inhabited, DecidableEq
def TFault.enc (x : TFault) : List CV := [.int .i64 x.code, .int .i64 x.at_]
structure TLooping where
  l : TLoops
  cells : List Int
deriving Inhabited, DecidableEq
def TLooping.enc (x : TLooping) : List CV := [.int .i64 x.l.cells, .tree 1 (x.l.put.map (eK .i64)), .tree 1 (x.l.get.map (eK .i64)), .tree 6 (x.l.steps.map TLoop.enc), .tree 1 (x.cells.map (eK .i64))]
structure TGoing where
  m_ : TImage
  cells : List Int
  steps : Int
deriving Inhabited, DecidableEq
def TGoing.enc (x : TGoing) : List CV := [.int .i64 x.m_.cells, .int .i64 x.m_.regs, .int .i64 x.m_.cost, .tree 1 (x.m_.put.map (eK .i64)), .tree 1 (x.m_.bools.map (eK .i64)), .tree 1 (x.m_.get.map (eK .i64)), .tree 6 (x.m_.code.map TIns.enc), .tree 1 (x.cells.map (eK .i64)), .int .i64 x.steps]
structure TVar where
  elem : Int
  n : Int
deriving Inhabited, DecidableEq
def TVar.enc (x : TVar) : List CV := [.int .u8 x.elem, .int .i64 x.n]
structure TRule where
  op : Int
  k : Int
  out_ : Int
  n : Int
  a : List Int
  e : List TPush
deriving Inhabited, DecidableEq
def TRule.enc (x : TRule) : List CV := [.int .i64 x.op, .int .i64 x.k, .int .i64 x.out_, .int .i64 x.n, .tree 1 (x.a.map (eK .i64)), .tree 4 (x.e.map TPush.enc)]
structure TSystem where
  vars : List TVar
  in_ : List Int
  out_ : List Int
  rules : List TRule
deriving Inhabited, DecidableEq
def TSystem.enc (x : TSystem) : List CV := [.tree 2 (x.vars.map TVar.enc), .tree 1 (x.in_.map (eK .i64)), .tree 1 (x.out_.map (eK .i64)), .tree 6 (x.rules.map TRule.enc)]
structure TSpan where
  from_ : Int
  to : Int
deriving Inhabited, DecidableEq
def TSpan.enc (x : TSpan) : List CV := [.int .i64 x.from_, .int .i64 x.to]
structure Temitter where
  code : List TIns
  regs : Int
deriving Inhabited, DecidableEq
def Temitter.enc (x : Temitter) : List CV := [.tree 6 (x.code.map TIns.enc), .int .i64 x.regs]
structure Temitting where
  l : List TIns
deriving Inhabited, DecidableEq
def Temitting.enc (x : Temitting) : List CV := [.tree 6 (x.l.map TIns.enc)]
structure Tjudge where
  system : TSystem
  code : Int
deriving Inhabited, DecidableEq
def Tjudge.enc (x : Tjudge) : List CV := [.tree 2 (x.system.vars.map TVar.enc), .tree 1 (x.system.in_.map (eK .i64)), .tree 1 (x.system.out_.map (eK .i64)), .tree 6 (x.system.rules.map TRule.enc), .int .i64 x.code]
structure Tturner where
  system : TSystem
  there : List Bool
deriving Inhabited, DecidableEq
def Tturner.enc (x : Tturner) : List CV := [.tree 2 (x.system.vars.map TVar.enc), .tree 1 (x.system.in_.map (eK .i64)), .tree 1 (x.system.out_.map (eK .i64)), .tree 6 (x.system.rules.map TRule.enc), .tree 1 (x.there.map eB)]
structure Tjudge_code where
  m_ : TImage
deriving Inhabited, DecidableEq
def Tjudge_code.enc (x : Tjudge_code) : List CV := [.int .i64 x.m_.cells, .int .i64 x.m_.regs, .int .i64 x.m_.cost, .tree 1 (x.m_.put.map (eK .i64)), .tree 1 (x.m_.bools.map (eK .i64)), .tree 1 (x.m_.get.map (eK .i64)), .tree 6 (x.m_.code.map TIns.enc)]
structure TMeaning where
  s : TSystem
  keep : List (List Int)
  v : List (List Int)
  rows : Int
deriving Inhabited, DecidableEq
def TMeaning.enc (x : TMeaning) : List CV := [.tree 2 (x.s.vars.map TVar.enc), .tree 1 (x.s.in_.map (eK .i64)), .tree 1 (x.s.out_.map (eK .i64)), .tree 6 (x.s.rules.map TRule.enc), .tree 1 (x.keep.map (eL 1 (eK .i64))), .tree 1 (x.v.map (eL 1 (eK .i64))), .int .i64 x.rows]
def bX := (And.intro (And.intro (And.intro (And.intro @TPush.enc.eq_1 @TLoop.enc.eq_1) (And.intro @TLoops.enc.eq_1 @TIns.enc.eq_1)) (And.intro (And.intro @TImage.enc.eq_1 @TFault.enc.eq_1) (And.intro @TLooping.enc.eq_1 (And.intro @TGoing.enc.eq_1 @TVar.enc.eq_1)))) (And.intro (And.intro (And.intro @TRule.enc.eq_1 @TSystem.enc.eq_1) (And.intro @TSpan.enc.eq_1 @Temitter.enc.eq_1)) (And.intro (And.intro @Temitting.enc.eq_1 @Tjudge.enc.eq_1) (And.intro @Tturner.enc.eq_1 (And.intro @Tjudge_code.enc.eq_1 @TMeaning.enc.eq_1)))))
def TPush.ok (x : TPush) : Prop := (okI .i64) x.op ∧ (okI .i64) x.k ∧ (okI .i64) x.v ∧ (okI .i64) x.n
def TPush.sz (x : TPush) : Nat := szI x.op + szI x.k + szI x.v + szI x.n + 1
theorem TPush.sz_pos (x : TPush) : 1 ≤ x.sz := by unfold TPush.sz; omega
def TLoop.ok (x : TLoop) : Prop := (okI .i64) x.op ∧ (okI .i64) x.k ∧ (okI .i64) x.n ∧ (okI .i64) x.to ∧ (okL TPush.ok) x.f ∧ (okL TPush.ok) x.e
def TLoop.sz (x : TLoop) : Nat := szI x.op + szI x.k + szI x.n + szI x.to + (szL TPush.sz) x.f + (szL TPush.sz) x.e + 1
theorem TLoop.sz_pos (x : TLoop) : 1 ≤ x.sz := by unfold TLoop.sz; omega
def TLoops.ok (x : TLoops) : Prop := (okI .i64) x.cells ∧ (okL (okI .i64)) x.put ∧ (okL (okI .i64)) x.get ∧ (okL TLoop.ok) x.steps
def TLoops.sz (x : TLoops) : Nat := szI x.cells + (szL szI) x.put + (szL szI) x.get + (szL TLoop.sz) x.steps + 1
theorem TLoops.sz_pos (x : TLoops) : 1 ≤ x.sz := by unfold TLoops.sz; omega
def TIns.ok (x : TIns) : Prop := (okI .i64) x.op ∧ (okI .i64) x.k ∧ (okI .i64) x.r_ ∧ (okI .i64) x.a ∧ (okI .i64) x.b ∧ (okI .i64) x.n
def TIns.sz (x : TIns) : Nat := szI x.op + szI x.k + szI x.r_ + szI x.a + szI x.b + szI x.n + 1
theorem TIns.sz_pos (x : TIns) : 1 ≤ x.sz := by unfold TIns.sz; omega
def TImage.ok (x : TImage) : Prop := (okI .i64) x.cells ∧ (okI .i64) x.regs ∧ (okI .i64) x.cost ∧ (okL (okI .i64)) x.put ∧ (okL (okI .i64)) x.bools ∧ (okL (okI .i64)) x.get ∧ (okL TIns.ok) x.code
def TImage.sz (x : TImage) : Nat := szI x.cells + szI x.regs + szI x.cost + (szL szI) x.put + (szL szI) x.bools + (szL szI) x.get + (szL TIns.sz) x.code + 1
theorem TImage.sz_pos (x : TImage) : 1 ≤ x.sz := by unfold TImage.sz; omega
def TFault.ok (x : TFault) : Prop := (okI .i64) x.code ∧ (okI .i64) x.at_
def TFault.sz (x : TFault) : Nat := szI x.code + szI x.at_ + 1
theorem TFault.sz_pos (x : TFault) : 1 ≤ x.sz := by unfold TFault.sz; omega
def TLooping.ok (x : TLooping) : Prop := TLoops.ok x.l ∧ (okL (okI .i64)) x.cells
def TLooping.sz (x : TLooping) : Nat := TLoops.sz x.l + (szL szI) x.cells + 1
theorem TLooping.sz_pos (x : TLooping) : 1 ≤ x.sz := by unfold TLooping.sz; omega
def TGoing.ok (x : TGoing) : Prop := TImage.ok x.m_ ∧ (okL (okI .i64)) x.cells ∧ (okI .i64) x.steps
def TGoing.sz (x : TGoing) : Nat := TImage.sz x.m_ + (szL szI) x.cells + szI x.steps + 1
theorem TGoing.sz_pos (x : TGoing) : 1 ≤ x.sz := by unfold TGoing.sz; omega
def TVar.ok (x : TVar) : Prop := (okI .u8) x.elem ∧ (okI .i64) x.n
def TVar.sz (x : TVar) : Nat := szI x.elem + szI x.n + 1
theorem TVar.sz_pos (x : TVar) : 1 ≤ x.sz := by unfold TVar.sz; omega
def TRule.ok (x : TRule) : Prop := (okI .i64) x.op ∧ (okI .i64) x.k ∧ (okI .i64) x.out_ ∧ (okI .i64) x.n ∧ (okL (okI .i64)) x.a ∧ (okL TPush.ok) x.e
def TRule.sz (x : TRule) : Nat := szI x.op + szI x.k + szI x.out_ + szI x.n + (szL szI) x.a + (szL TPush.sz) x.e + 1
theorem TRule.sz_pos (x : TRule) : 1 ≤ x.sz := by unfold TRule.sz; omega
def TSystem.ok (x : TSystem) : Prop := (okL TVar.ok) x.vars ∧ (okL (okI .i64)) x.in_ ∧ (okL (okI .i64)) x.out_ ∧ (okL TRule.ok) x.rules
def TSystem.sz (x : TSystem) : Nat := (szL TVar.sz) x.vars + (szL szI) x.in_ + (szL szI) x.out_ + (szL TRule.sz) x.rules + 1
theorem TSystem.sz_pos (x : TSystem) : 1 ≤ x.sz := by unfold TSystem.sz; omega
def TSpan.ok (x : TSpan) : Prop := (okI .i64) x.from_ ∧ (okI .i64) x.to
def TSpan.sz (x : TSpan) : Nat := szI x.from_ + szI x.to + 1
theorem TSpan.sz_pos (x : TSpan) : 1 ≤ x.sz := by unfold TSpan.sz; omega
def Temitter.ok (x : Temitter) : Prop := (okL TIns.ok) x.code ∧ (okI .i64) x.regs
def Temitter.sz (x : Temitter) : Nat := (szL TIns.sz) x.code + szI x.regs + 1
theorem Temitter.sz_pos (x : Temitter) : 1 ≤ x.sz := by unfold Temitter.sz; omega
def Temitting.ok (x : Temitting) : Prop := (okL TIns.ok) x.l
def Temitting.sz (x : Temitting) : Nat := (szL TIns.sz) x.l + 1
theorem Temitting.sz_pos (x : Temitting) : 1 ≤ x.sz := by unfold Temitting.sz; omega
def Tjudge.ok (x : Tjudge) : Prop := TSystem.ok x.system ∧ (okI .i64) x.code
def Tjudge.sz (x : Tjudge) : Nat := TSystem.sz x.system + szI x.code + 1
theorem Tjudge.sz_pos (x : Tjudge) : 1 ≤ x.sz := by unfold Tjudge.sz; omega
def Tturner.ok (x : Tturner) : Prop := TSystem.ok x.system ∧ (okL okT) x.there
def Tturner.sz (x : Tturner) : Nat := TSystem.sz x.system + (szL szI) x.there + 1
theorem Tturner.sz_pos (x : Tturner) : 1 ≤ x.sz := by unfold Tturner.sz; omega
def Tjudge_code.ok (x : Tjudge_code) : Prop := TImage.ok x.m_
def Tjudge_code.sz (x : Tjudge_code) : Nat := TImage.sz x.m_ + 1
theorem Tjudge_code.sz_pos (x : Tjudge_code) : 1 ≤ x.sz := by unfold Tjudge_code.sz; omega
def TMeaning.ok (x : TMeaning) : Prop := TSystem.ok x.s ∧ (okL (okL (okI .i64))) x.keep ∧ (okL (okL (okI .i64))) x.v ∧ (okI .i64) x.rows
def TMeaning.sz (x : TMeaning) : Nat := TSystem.sz x.s + (szL (szL szI)) x.keep + (szL (szL szI)) x.v + szI x.rows + 1
theorem TMeaning.sz_pos (x : TMeaning) : 1 ≤ x.sz := by unfold TMeaning.sz; omega
end Pam
