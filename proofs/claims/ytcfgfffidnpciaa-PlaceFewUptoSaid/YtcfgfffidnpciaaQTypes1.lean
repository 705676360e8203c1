/- Facts of the types that the proofs of this seat speak of, read off the program by the kernel. Printed by a program of ours. -/
import Derived.Test.YtcfgfffidnpciaaProg
import Derived.Test.YtcfgfffidnpciaaQBase1
import Derived.Shelf.Lays
import Derived.Shelf.Lays2
import Derived.Test.YtcfgfffidnpciaaQBase3
set_option linter.all false
namespace Pam
open Go Go.Proofs
def tab : Nat → TD
  | 2 => { ok := true, size := 1, bytes := 8, int := true, kind := .i64, zero := some [.int .i64 0] }
  | 3 => { ok := true, size := 1, bytes := 8, int := true, kind := .i64, zero := some [.int .i64 0] }
  | 4 => { ok := true, size := 1, bytes := 1, bool := true, zero := some [.bool false] }
  | 5 => { ok := true, size := 1, bytes := 1, int := true, kind := .u8, zero := some [.int .u8 0] }
  | 9 => { ok := true, size := 1, bytes := 16, str := true, zero := some [.str []] }
  | 22 => { ok := true, size := 1, bytes := 24, sl := true, elem := 50, zero := some [.nils] }
  | 23 => { ok := true, size := 1, bytes := 24, sl := true, elem := 3, zero := some [.nils] }
  | 24 => { ok := true, size := 1, bytes := 24, sl := true, elem := 45, zero := some [.nils] }
  | 26 => { ok := true, size := 4, bytes := 96, agg := true, fs := [(0, 22), (1, 23), (2, 23), (3, 24)], fk := true, zero := some [.nils, .nils, .nils, .nils] }
  | 31 => { ok := true, size := 3, bytes := 56, agg := true, fs := [(0, 23), (1, 23), (2, 3)], fk := true, zero := some [.nils, .nils, .int .i64 0] }
  | 33 => { ok := true, size := 2, bytes := 16, agg := true, fs := [(0, 3), (1, 3)], fk := true, flat := some [1, 1], zero := some [.int .i64 0, .int .i64 0] }
  | 41 => { ok := true, size := 1, bytes := 8, int := true, kind := .u64, zero := some [.int .u64 0] }
  | 43 => { ok := true, size := 1, bytes := 24, sl := true, elem := 55, zero := some [.nils] }
  | 45 => { ok := true, size := 6, bytes := 80, agg := true, fs := [(0, 3), (1, 3), (2, 3), (3, 2), (4, 23), (5, 43)], fk := true, zero := some [.int .i64 0, .int .i64 0, .int .i64 0, .int .i64 0, .nils, .nils] }
  | 46 => { ok := true, size := 1, bytes := 24, sl := true, elem := 52, zero := some [.nils] }
  | 50 => { ok := true, size := 2, bytes := 16, agg := true, fs := [(0, 5), (1, 3)], fk := true, flat := some [1, 1], zero := some [.int .u8 0, .int .i64 0] }
  | 52 => { ok := true, size := 2, bytes := 16, agg := true, fs := [(0, 3), (1, 3)], fk := true, flat := some [1, 1], zero := some [.int .i64 0, .int .i64 0] }
  | 55 => { ok := true, size := 4, bytes := 32, agg := true, fs := [(0, 3), (1, 3), (2, 3), (3, 2)], fk := true, flat := some [1, 1, 1, 1], zero := some [.int .i64 0, .int .i64 0, .int .i64 0, .int .i64 0] }
  | 60 => { ok := true, size := 1, bytes := 8, ptr := true, zero := some [.nilp] }
  | 63 => { ok := true, size := 10, bytes := 224, agg := true, fs := [(0, 26), (4, 46), (5, 23), (6, 31), (9, 23)], fk := true, zero := some [.nils, .nils, .nils, .nils, .nils, .nils, .nils, .nils, .int .i64 0, .nils] }
  | 71 => { ok := true, size := 1, bytes := 24, sl := true, elem := 23, zero := some [.nils] }
  | 74 => { ok := true, size := 1, bytes := 8, zero := some [.nilf] }
  | 80 => { ok := true, size := 1, bytes := 8, zero := some [.nilf] }
  | 81 => { ok := true, size := 6, bytes := 48, agg := true, arr := true, elem := 50, alen := 3, zero := some [.int .u8 0, .int .i64 0, .int .u8 0, .int .i64 0, .int .u8 0, .int .i64 0] }
  | 88 => { ok := true, size := 1, bytes := 8, ptr := true, zero := some [.nilp] }
  | 90 => { ok := true, size := 5, bytes := 104, agg := true, fs := [(0, 26), (4, 3)], fk := true, zero := some [.nils, .nils, .nils, .nils, .int .i64 0] }
  | 92 => { ok := true, size := 1, bytes := 24, sl := true, elem := 4, zero := some [.nils] }
  | 94 => { ok := true, size := 1, bytes := 8, ptr := true, zero := some [.nilp] }
  | 98 => { ok := true, size := 5, bytes := 120, agg := true, fs := [(0, 26), (4, 92)], fk := true, zero := some [.nils, .nils, .nils, .nils, .nils] }
  | 99 => { ok := true, size := 1, bytes := 4, int := true, kind := .u32, zero := some [.int .u32 0] }
  | 102 => { ok := true, size := 1, bytes := 8, int := true, kind := .u64, zero := some [.int .u64 0] }
  | 106 => { ok := true, size := 1, bytes := 24, sl := true, elem := 5, zero := some [.nils] }
  | 111 => { ok := true, size := 17, bytes := 136, agg := true, arr := true, elem := 3, alen := 17, zero := some [.int .i64 0, .int .i64 0, .int .i64 0, .int .i64 0, .int .i64 0, .int .i64 0, .int .i64 0, .int .i64 0, .int .i64 0, .int .i64 0, .int .i64 0, .int .i64 0, .int .i64 0, .int .i64 0, .int .i64 0, .int .i64 0, .int .i64 0] }
  | 122 => { ok := true, size := 1, bytes := 8, int := true, kind := .i64, zero := some [.int .i64 0] }
  | 133 => { ok := true, size := 1, bytes := 8, int := true, kind := .u64, zero := some [.int .u64 0] }
  | 137 => { ok := true, size := 1, bytes := 8, ptr := true, zero := some [.nilp] }
  | _ => {}
theorem zr : dE Try.prog 2 (tab 2) :=
  by constructor <;> first | kernel_rfl | exact fun i hi => by simp [tab] at hi
theorem zs : dE Try.prog 3 (tab 3) :=
  by constructor <;> first | kernel_rfl | exact fun i hi => by simp [tab] at hi
theorem zt : dE Try.prog 4 (tab 4) :=
  by constructor <;> first | kernel_rfl | exact fun i hi => by simp [tab] at hi
theorem zv : dE Try.prog 5 (tab 5) :=
  by constructor <;> first | kernel_rfl | exact fun i hi => by simp [tab] at hi
theorem zw : dE Try.prog 9 (tab 9) :=
  by constructor <;> first | kernel_rfl | exact fun i hi => by simp [tab] at hi
theorem yq : dE Try.prog 22 (tab 22) :=
  by constructor <;> first | kernel_rfl | exact fun i hi => by simp [tab] at hi
theorem yr : dE Try.prog 23 (tab 23) :=
  by constructor <;> first | kernel_rfl | exact fun i hi => by simp [tab] at hi
theorem yt : dE Try.prog 24 (tab 24) :=
  by constructor <;> first | kernel_rfl | exact fun i hi => by simp [tab] at hi
theorem yu : dE Try.prog 26 (tab 26) :=
  ⟨by kernel_rfl, by kernel_rfl, by kernel_rfl, by kernel_rfl, by kernel_rfl, by kernel_rfl, by kernel_rfl, by kernel_rfl, by kernel_rfl, by kernel_rfl, by kernel_rfl, by kernel_rfl, by kernel_rfl, by kernel_rfl, by kernel_rfl, by kernel_rfl, by kernel_rfl,
    fun i hi => by
      have hi : i < 4 := hi
      match i, hi with
      | 0, _ => exact ⟨by kernel_rfl, by kernel_rfl, by kernel_rfl⟩
      | 1, _ => exact ⟨by kernel_rfl, by kernel_rfl, by kernel_rfl⟩
      | 2, _ => exact ⟨by kernel_rfl, by kernel_rfl, by kernel_rfl⟩
      | 3, _ => exact ⟨by kernel_rfl, by kernel_rfl, by kernel_rfl⟩⟩
theorem yv : dE Try.prog 31 (tab 31) :=
  ⟨by kernel_rfl, by kernel_rfl, by kernel_rfl, by kernel_rfl, by kernel_rfl, by kernel_rfl, by kernel_rfl, by kernel_rfl, by kernel_rfl, by kernel_rfl, by kernel_rfl, by kernel_rfl, by kernel_rfl, by kernel_rfl, by kernel_rfl, by kernel_rfl, by kernel_rfl,
    fun i hi => by
      have hi : i < 3 := hi
      match i, hi with
      | 0, _ => exact ⟨by kernel_rfl, by kernel_rfl, by kernel_rfl⟩
      | 1, _ => exact ⟨by kernel_rfl, by kernel_rfl, by kernel_rfl⟩
      | 2, _ => exact ⟨by kernel_rfl, by kernel_rfl, by kernel_rfl⟩⟩
theorem yw : dE Try.prog 33 (tab 33) :=
  ⟨by kernel_rfl, by kernel_rfl, by kernel_rfl, by kernel_rfl, by kernel_rfl, by kernel_rfl, by kernel_rfl, by kernel_rfl, by kernel_rfl, by kernel_rfl, by kernel_rfl, by kernel_rfl, by kernel_rfl, by kernel_rfl, by kernel_rfl, by kernel_rfl, by kernel_rfl,
    fun i hi => by
      have hi : i < 2 := hi
      match i, hi with
      | 0, _ => exact ⟨by kernel_rfl, by kernel_rfl, by kernel_rfl⟩
      | 1, _ => exact ⟨by kernel_rfl, by kernel_rfl, by kernel_rfl⟩⟩
theorem yx : dE Try.prog 41 (tab 41) :=
  by constructor <;> first | kernel_rfl | exact fun i hi => by simp [tab] at hi
theorem yy : dE Try.prog 43 (tab 43) :=
  by constructor <;> first | kernel_rfl | exact fun i hi => by simp [tab] at hi
theorem yz : dE Try.prog 45 (tab 45) :=
  ⟨by kernel_rfl, by kernel_rfl, by kernel_rfl, by kernel_rfl, by kernel_rfl, by kernel_rfl, by kernel_rfl, by kernel_rfl, by kernel_rfl, by kernel_rfl, by kernel_rfl, by kernel_rfl, by kernel_rfl, by kernel_rfl, by kernel_rfl, by kernel_rfl, by kernel_rfl,
    fun i hi => by
      have hi : i < 6 := hi
      match i, hi with
      | 0, _ => exact ⟨by kernel_rfl, by kernel_rfl, by kernel_rfl⟩
      | 1, _ => exact ⟨by kernel_rfl, by kernel_rfl, by kernel_rfl⟩
      | 2, _ => exact ⟨by kernel_rfl, by kernel_rfl, by kernel_rfl⟩
      | 3, _ => exact ⟨by kernel_rfl, by kernel_rfl, by kernel_rfl⟩
      | 4, _ => exact ⟨by kernel_rfl, by kernel_rfl, by kernel_rfl⟩
      | 5, _ => exact ⟨by kernel_rfl, by kernel_rfl, by kernel_rfl⟩⟩
theorem yA : dE Try.prog 46 (tab 46) :=
  by constructor <;> first | kernel_rfl | exact fun i hi => by simp [tab] at hi
theorem yB : dE Try.prog 50 (tab 50) :=
  ⟨by kernel_rfl, by kernel_rfl, by kernel_rfl, by kernel_rfl, by kernel_rfl, by kernel_rfl, by kernel_rfl, by kernel_rfl, by kernel_rfl, by kernel_rfl, by kernel_rfl, by kernel_rfl, by kernel_rfl, by kernel_rfl, by kernel_rfl, by kernel_rfl, by kernel_rfl,
    fun i hi => by
      have hi : i < 2 := hi
      match i, hi with
      | 0, _ => exact ⟨by kernel_rfl, by kernel_rfl, by kernel_rfl⟩
      | 1, _ => exact ⟨by kernel_rfl, by kernel_rfl, by kernel_rfl⟩⟩
theorem yC : dE Try.prog 52 (tab 52) :=
  ⟨by kernel_rfl, by kernel_rfl, by kernel_rfl, by kernel_rfl, by kernel_rfl, by kernel_rfl, by kernel_rfl, by kernel_rfl, by kernel_rfl, by kernel_rfl, by kernel_rfl, by kernel_rfl, by kernel_rfl, by kernel_rfl, by kernel_rfl, by kernel_rfl, by kernel_rfl,
    fun i hi => by
      have hi : i < 2 := hi
      match i, hi with
      | 0, _ => exact ⟨by kernel_rfl, by kernel_rfl, by kernel_rfl⟩
      | 1, _ => exact ⟨by kernel_rfl, by kernel_rfl, by kernel_rfl⟩⟩
theorem yD : dE Try.prog 55 (tab 55) :=
  ⟨by kernel_rfl, by kernel_rfl, by kernel_rfl, by kernel_rfl, by kernel_rfl, by kernel_rfl, by kernel_rfl, by kernel_rfl, by kernel_rfl, by kernel_rfl, by kernel_rfl, by kernel_rfl, by kernel_rfl, by kernel_rfl, by kernel_rfl, by kernel_rfl, by kernel_rfl,
    fun i hi => by
      have hi : i < 4 := hi
      match i, hi with
      | 0, _ => exact ⟨by kernel_rfl, by kernel_rfl, by kernel_rfl⟩
      | 1, _ => exact ⟨by kernel_rfl, by kernel_rfl, by kernel_rfl⟩
      | 2, _ => exact ⟨by kernel_rfl, by kernel_rfl, by kernel_rfl⟩
      | 3, _ => exact ⟨by kernel_rfl, by kernel_rfl, by kernel_rfl⟩⟩
theorem yE : dE Try.prog 60 (tab 60) :=
  by constructor <;> first | kernel_rfl | exact fun i hi => by simp [tab] at hi
theorem yF : dE Try.prog 63 (tab 63) :=
  ⟨by kernel_rfl, by kernel_rfl, by kernel_rfl, by kernel_rfl, by kernel_rfl, by kernel_rfl, by kernel_rfl, by kernel_rfl, by kernel_rfl, by kernel_rfl, by kernel_rfl, by kernel_rfl, by kernel_rfl, by kernel_rfl, by kernel_rfl, by kernel_rfl, by kernel_rfl,
    fun i hi => by
      have hi : i < 5 := hi
      match i, hi with
      | 0, _ => exact ⟨by kernel_rfl, by kernel_rfl, by kernel_rfl⟩
      | 1, _ => exact ⟨by kernel_rfl, by kernel_rfl, by kernel_rfl⟩
      | 2, _ => exact ⟨by kernel_rfl, by kernel_rfl, by kernel_rfl⟩
      | 3, _ => exact ⟨by kernel_rfl, by kernel_rfl, by kernel_rfl⟩
      | 4, _ => exact ⟨by kernel_rfl, by kernel_rfl, by kernel_rfl⟩⟩
theorem yG : dE Try.prog 71 (tab 71) :=
  by constructor <;> first | kernel_rfl | exact fun i hi => by simp [tab] at hi
theorem yH : dE Try.prog 74 (tab 74) :=
  by constructor <;> first | kernel_rfl | exact fun i hi => by simp [tab] at hi
theorem yI : dE Try.prog 80 (tab 80) :=
  by constructor <;> first | kernel_rfl | exact fun i hi => by simp [tab] at hi
theorem yJ : dE Try.prog 81 (tab 81) :=
  by constructor <;> first | kernel_rfl | exact fun i hi => by simp [tab] at hi
theorem yK : dE Try.prog 88 (tab 88) :=
  by constructor <;> first | kernel_rfl | exact fun i hi => by simp [tab] at hi
theorem yL : dE Try.prog 90 (tab 90) :=
  ⟨by kernel_rfl, by kernel_rfl, by kernel_rfl, by kernel_rfl, by kernel_rfl, by kernel_rfl, by kernel_rfl, by kernel_rfl, by kernel_rfl, by kernel_rfl, by kernel_rfl, by kernel_rfl, by kernel_rfl, by kernel_rfl, by kernel_rfl, by kernel_rfl, by kernel_rfl,
    fun i hi => by
      have hi : i < 2 := hi
      match i, hi with
      | 0, _ => exact ⟨by kernel_rfl, by kernel_rfl, by kernel_rfl⟩
      | 1, _ => exact ⟨by kernel_rfl, by kernel_rfl, by kernel_rfl⟩⟩
theorem yM : dE Try.prog 92 (tab 92) :=
  by constructor <;> first | kernel_rfl | exact fun i hi => by simp [tab] at hi
theorem yN : dE Try.prog 94 (tab 94) :=
  by constructor <;> first | kernel_rfl | exact fun i hi => by simp [tab] at hi
theorem yO : dE Try.prog 98 (tab 98) :=
  ⟨by kernel_rfl, by kernel_rfl, by kernel_rfl, by kernel_rfl, by kernel_rfl, by kernel_rfl, by kernel_rfl, by kernel_rfl, by kernel_rfl, by kernel_rfl, by kernel_rfl, by kernel_rfl, by kernel_rfl, by kernel_rfl, by kernel_rfl, by kernel_rfl, by kernel_rfl,
    fun i hi => by
      have hi : i < 2 := hi
      match i, hi with
      | 0, _ => exact ⟨by kernel_rfl, by kernel_rfl, by kernel_rfl⟩
      | 1, _ => exact ⟨by kernel_rfl, by kernel_rfl, by kernel_rfl⟩⟩
theorem yP : dE Try.prog 99 (tab 99) :=
  by constructor <;> first | kernel_rfl | exact fun i hi => by simp [tab] at hi
theorem xO : dE Try.prog 102 (tab 102) :=
  by constructor <;> first | kernel_rfl | exact fun i hi => by simp [tab] at hi
theorem xP : dE Try.prog 106 (tab 106) :=
  by constructor <;> first | kernel_rfl | exact fun i hi => by simp [tab] at hi
theorem xQ : dE Try.prog 111 (tab 111) :=
  by constructor <;> first | kernel_rfl | exact fun i hi => by simp [tab] at hi
theorem xR : dE Try.prog 122 (tab 122) :=
  by constructor <;> first | kernel_rfl | exact fun i hi => by simp [tab] at hi
theorem xS : dE Try.prog 133 (tab 133) :=
  by constructor <;> first | kernel_rfl | exact fun i hi => by simp [tab] at hi
theorem xT : dE Try.prog 137 (tab 137) :=
  by constructor <;> first | kernel_rfl | exact fun i hi => by simp [tab] at hi
theorem fR (T : TypeId) (h : (tab T).ok = true) : dE Try.prog T (tab T) := by
  unfold tab at h
  split at h
  · exact zr
  · exact zs
  · exact zt
  · exact zv
  · exact zw
  · exact yq
  · exact yr
  · exact yt
  · exact yu
  · exact yv
  · exact yw
  · exact yx
  · exact yy
  · exact yz
  · exact yA
  · exact yB
  · exact yC
  · exact yD
  · exact yE
  · exact yF
  · exact yG
  · exact yH
  · exact yI
  · exact yJ
  · exact yK
  · exact yL
  · exact yM
  · exact yN
  · exact yO
  · exact yP
  · exact xO
  · exact xP
  · exact xQ
  · exact xR
  · exact xS
  · exact xT
  · cases h
theorem wL {T : TypeId} (h : (tab T).ok = true) : bt Try.prog T = true := (fR T h).known
theorem yQ {T : TypeId} (h : (tab T).ok = true) : (Try.prog.underlying T).isSome = true := (fR T h).und
theorem xU {T : TypeId} (h : (tab T).ok = true) : Try.prog.cellsOf T = (tab T).size := (fR T h).size
theorem wM {T : TypeId} (h : (tab T).ok = true) : Try.prog.bytesOf T = (tab T).bytes := (fR T h).bytes
theorem yR {T : TypeId} (h : (tab T).ok = true) : jc Try.prog T = (tab T).agg := (fR T h).agg
theorem zx {T : TypeId} (h : (tab T).ok = true) : fN Try.prog T = (tab T).sl := (fR T h).sl
theorem yS {T : TypeId} (h : (tab T).ok = true) : lL Try.prog T = (tab T).arr := (fR T h).arr
theorem yT {T : TypeId} (h : (tab T).ok = true) : kq Try.prog T = (tab T).str := (fR T h).str
theorem xV {T : TypeId} (h : (tab T).ok = true) : pe Try.prog T = (tab T).bool := (fR T h).bool
theorem yU {T : TypeId} (h : (tab T).ok = true) : qz Try.prog T = (tab T).int := (fR T h).int
theorem yV {T : TypeId} (h : (tab T).ok = true) : tZ Try.prog T = (tab T).ptr := (fR T h).ptr
theorem xW {T : TypeId} (h : (tab T).ok = true) : Try.prog.elem T = (tab T).elem := (fR T h).elem
theorem xX {T : TypeId} (h : (tab T).ok = true) : Try.prog.arrayLen T = (tab T).alen := (fR T h).alen
theorem xY {T : TypeId} (h : (tab T).ok = true) : Try.prog.intKind T = (tab T).kind := (fR T h).kind
theorem zy {T : TypeId} (h : (tab T).ok = true) : jr Try.prog T = (tab T).fk := (fR T h).fk
theorem xZ {T : TypeId} (h : (tab T).ok = true) : iv Try.prog T = (tab T).zero := (fR T h).zero
theorem ya {T : TypeId} (h : (tab T).ok = true) : rN Try.prog T = (tab T).flat := (fR T h).flat
theorem yW {T : TypeId} {i : Nat} (h : (tab T).ok = true) (hi : i < (tab T).fs.length) : ko Try.prog T i = true := ((fR T h).fld i hi).1
theorem yb {T : TypeId} {i : Nat} (h : (tab T).ok = true) (hi : i < (tab T).fs.length) : ir Try.prog T i = ((tab T).fs.getD i (0, 0)).1 := ((fR T h).fld i hi).2.1
theorem yX {T : TypeId} {i : Nat} (h : (tab T).ok = true) (hi : i < (tab T).fs.length) : lW Try.prog T i = ((tab T).fs.getD i (0, 0)).2 := ((fR T h).fld i hi).2.2
def bT := And.intro (And.intro (And.intro (And.intro @wL @yQ) (And.intro @xU @wM)) (And.intro (And.intro @yR @zx) (And.intro @yS @yT))) (And.intro (And.intro (And.intro @xV @yU) (And.intro @yV @xW)) (And.intro (And.intro (And.intro @xX @xY) (And.intro @zy @xZ)) (And.intro (And.intro @ya @yW) (And.intro @yb @yX))))
end Pam
namespace Go.Proofs
open Go.Shelf
def Try.lays189_ren : Go.Shelf.Ren := ⟨fun | 189 => 71 | 125 => 81 | 257 => 80 | 128 => 92 | 129 => 93 | 294 => 83 | 295 => 84 | 296 => 85 | 297 => 86 | 298 => 87 | 299 => 88 | 216 => 89 | 300 => 90 | 301 => 91 | 328 => 95 | 329 => 96 | 330 => 97 | 331 => 98 | 332 => 99 | 215 => 100 | 343 => 102 | n => n, fun | 28 => 23 | 3 => 3 | 46 => 41 | 0 => 0 | 51 => 99 | 53 => 102 | 4 => 4 | 183 => 123 | 182 => 122 | 131 => 127 | 5 => 5 | 9 => 9 | 218 => 133 | 222 => 137 | 228 => 140 | 229 => 141 | n => n, fun | n => n⟩
theorem Try.lays189 : Go.Proofs.Lays.n189 Try.prog Try.lays189_ren := {
  mixed := by kernel_rfl
  f125 := Try.func81.trans (congrArg some (by kernel_rfl))
  f128 := Try.func92.trans (congrArg some (by kernel_rfl))
  f129 := Try.func93.trans (congrArg some (by kernel_rfl))
  f189 := Try.func71.trans (congrArg some (by kernel_rfl))
  f215 := Try.func100.trans (congrArg some (by kernel_rfl))
  f216 := Try.func89.trans (congrArg some (by kernel_rfl))
  f257 := Try.func80.trans (congrArg some (by kernel_rfl))
  f294 := Try.func83.trans (congrArg some (by kernel_rfl))
  f295 := Try.func84.trans (congrArg some (by kernel_rfl))
  f296 := Try.func85.trans (congrArg some (by kernel_rfl))
  f297 := Try.func86.trans (congrArg some (by kernel_rfl))
  f298 := Try.func87.trans (congrArg some (by kernel_rfl))
  f299 := Try.func88.trans (congrArg some (by kernel_rfl))
  f300 := Try.func90.trans (congrArg some (by kernel_rfl))
  f301 := Try.func91.trans (congrArg some (by kernel_rfl))
  f328 := Try.func95.trans (congrArg some (by kernel_rfl))
  f329 := Try.func96.trans (congrArg some (by kernel_rfl))
  f330 := Try.func97.trans (congrArg some (by kernel_rfl))
  f331 := Try.func98.trans (congrArg some (by kernel_rfl))
  f332 := Try.func99.trans (congrArg some (by kernel_rfl))
  f343 := Try.func102.trans (congrArg some (by kernel_rfl))
  t0 := Try.underlying0
  a0 := Try.isAgg0
  z0 := Try.sizeOf0
  v0 := Try.zeroValue0
  t3 := Try.underlying3
  a3 := Try.isAgg3
  z3 := Try.sizeOf3
  v3 := Try.zeroValue3
  t4 := Try.underlying4
  a4 := Try.isAgg4
  z4 := Try.sizeOf4
  v4 := Try.zeroValue4
  t5 := Try.underlying5
  a5 := Try.isAgg5
  z5 := Try.sizeOf5
  v5 := Try.zeroValue5
  t9 := Try.underlying9
  a9 := Try.isAgg9
  z9 := Try.sizeOf9
  v9 := Try.zeroValue9
  t28 := Try.underlying23
  a28 := Try.isAgg23
  z28 := Try.sizeOf23
  v28 := Try.zeroValue23
  t46 := Try.underlying41
  a46 := Try.isAgg41
  z46 := Try.sizeOf41
  v46 := Try.zeroValue41
  t51 := Try.underlying99
  a51 := Try.isAgg99
  z51 := Try.sizeOf99
  v51 := Try.zeroValue99
  t53 := Try.underlying102
  a53 := Try.isAgg102
  z53 := Try.sizeOf102
  v53 := Try.zeroValue102
  t131 := Try.underlying127
  a131 := Try.isAgg127
  z131 := Try.sizeOf127
  v131 := Try.zeroValue127
  t182 := Try.underlying122
  a182 := Try.isAgg122
  z182 := Try.sizeOf122
  v182 := Try.zeroValue122
  t183 := Try.underlying123
  a183 := Try.isAgg123
  z183 := Try.sizeOf123
  v183 := Try.zeroValue123
  t218 := Try.underlying133
  a218 := Try.isAgg133
  z218 := Try.sizeOf133
  v218 := Try.zeroValue133
  t222 := Try.underlying137
  a222 := Try.isAgg137
  z222 := Try.sizeOf137
  v222 := Try.zeroValue137
  t228 := Try.underlying140
  a228 := Try.isAgg140
  z228 := Try.sizeOf140
  v228 := Try.zeroValue140
  t229 := Try.underlying141
  a229 := Try.isAgg141
  z229 := Try.sizeOf141
  v229 := Try.zeroValue141 }
def Try.laysNm220_ren : Go.Shelf.Ren := ⟨fun | 20 => 72 | n => n, fun | 22 => 23 | 3 => 3 | 4 => 4 | 0 => 0 | n => n, fun | n => n⟩
theorem Try.laysNm220 : Go.Proofs.Lays2.n20 Try.prog Try.laysNm220_ren := {
  mixed := by kernel_rfl
  f20 := Try.func72.trans (congrArg some (by kernel_rfl))
  t0 := Try.underlying0
  a0 := Try.isAgg0
  z0 := Try.sizeOf0
  v0 := Try.zeroValue0
  t3 := Try.underlying3
  a3 := Try.isAgg3
  z3 := Try.sizeOf3
  v3 := Try.zeroValue3
  t4 := Try.underlying4
  a4 := Try.isAgg4
  z4 := Try.sizeOf4
  v4 := Try.zeroValue4
  t22 := Try.underlying23
  a22 := Try.isAgg23
  z22 := Try.sizeOf23
  v22 := Try.zeroValue23
  i3 := by kernel_rfl }
end Go.Proofs
namespace Pam
open Go Go.Proofs
theorem u3 : Lays.n189 Try.prog Try.lays189_ren := Try.lays189
theorem rx : Lays2.n20 Try.prog Try.laysNm220_ren := Try.laysNm220
end Pam
