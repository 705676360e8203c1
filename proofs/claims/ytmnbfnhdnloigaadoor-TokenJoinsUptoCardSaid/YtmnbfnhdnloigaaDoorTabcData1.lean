/- the plain data of the program, as trees of cells; printed by a program of ours -/
import Derived.Test.YtmnbfnhdnloigaaDoorTTypes1
import Derived.Test.YtmnbfnhdnloigaaDoorTBase2
set_option linter.all false
namespace Pam
open Go
structure aA where
  code : Int
  at_ : Int
deriving Inhabited, DecidableEq
def aA.enc (x : aA) : List CV := [.int .i64 x.code, .int .i64 x.at_]
structure aa where
  kind : Int
  at_ : Int
  text : List UInt8
  n : Int
deriving Inhabited, DecidableEq
def aa.enc (x : aa) : List CV := [.int .i64 x.kind, .int .i64 x.at_, .str x.text, .int .i64 x.n]
structure eH where
  src : List UInt8
  at_ : Int
  out_ : List aa
deriving Inhabited, DecidableEq
def eH.enc (x : eH) : List CV := [.str x.src, .int .i64 x.at_, .tree 4 (x.out_.map aa.enc)]
def bX := (And.intro @aA.enc.eq_1 (And.intro @aa.enc.eq_1 @eH.enc.eq_1))
def aA.ok (x : aA) : Prop := (okI .i64) x.code ∧ (okI .i64) x.at_
def aA.sz (x : aA) : Nat := szI x.code + szI x.at_ + 1
def aa.ok (x : aa) : Prop := (okI .i64) x.kind ∧ (okI .i64) x.at_ ∧ okT x.text ∧ (okI .i64) x.n
def aa.sz (x : aa) : Nat := szI x.kind + szI x.at_ + szS x.text + szI x.n + 1
def eH.ok (x : eH) : Prop := okT x.src ∧ (okI .i64) x.at_ ∧ (okL aa.ok) x.out_
def eH.sz (x : eH) : Nat := szS x.src + szI x.at_ + (szL aa.sz) x.out_ + 1
end Pam
