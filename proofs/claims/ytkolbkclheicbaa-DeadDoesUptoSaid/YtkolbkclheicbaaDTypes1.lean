/- Facts of the types that the proofs of this seat speak of, read off the program by the kernel. Printed by a program of ours. -/
import Derived.Test.YtkolbkclheicbaaProg
import Derived.Test.YtkolbkclheicbaaDBase2
import Derived.Shelf.Lays
import Derived.Shelf.Lays2
import Derived.Test.YtkolbkclheicbaaDBase3
set_option linter.all false
namespace Pam
open Go Go.Proofs
def tab : Nat → TD
  | 2 => { ok := true, size := 1, bytes := 8, int := true, kind := .i64, zero := some [.int .i64 0] }
  | 3 => { ok := true, size := 1, bytes := 8, int := true, kind := .i64, zero := some [.int .i64 0] }
  | 4 => { ok := true, size := 1, bytes := 1, bool := true, zero := some [.bool false] }
  | 5 => { ok := true, size := 1, bytes := 1, int := true, kind := .u8, zero := some [.int .u8 0] }
  | 9 => { ok := true, size := 1, bytes := 16, str := true, zero := some [.str []] }
  | 22 => { ok := true, size := 1, bytes := 24, sl := true, elem := 43, zero := some [.nils] }
  | 23 => { ok := true, size := 1, bytes := 24, sl := true, elem := 3, zero := some [.nils] }
  | 24 => { ok := true, size := 1, bytes := 24, sl := true, elem := 46, zero := some [.nils] }
  | 26 => { ok := true, size := 4, bytes := 96, agg := true, fs := [(0, 22), (1, 23), (2, 23), (3, 24)], fk := true, zero := some [.nils, .nils, .nils, .nils] }
  | 30 => { ok := true, size := 1, bytes := 24, sl := true, elem := 4, zero := some [.nils] }
  | 32 => { ok := true, size := 2, bytes := 16, agg := true, fs := [(0, 3), (1, 3)], fk := true, flat := some [1, 1], zero := some [.int .i64 0, .int .i64 0] }
  | 43 => { ok := true, size := 2, bytes := 16, agg := true, fs := [(0, 5), (1, 3)], fk := true, flat := some [1, 1], zero := some [.int .u8 0, .int .i64 0] }
  | 44 => { ok := true, size := 1, bytes := 24, sl := true, elem := 66, zero := some [.nils] }
  | 46 => { ok := true, size := 6, bytes := 80, agg := true, fs := [(0, 3), (1, 3), (2, 3), (3, 2), (4, 23), (5, 44)], fk := true, zero := some [.int .i64 0, .int .i64 0, .int .i64 0, .int .i64 0, .nils, .nils] }
  | 60 => { ok := true, size := 1, bytes := 8, ptr := true, zero := some [.nilp] }
  | 62 => { ok := true, size := 5, bytes := 104, agg := true, fs := [(0, 26), (4, 3)], fk := true, zero := some [.nils, .nils, .nils, .nils, .int .i64 0] }
  | 66 => { ok := true, size := 4, bytes := 32, agg := true, fs := [(0, 3), (1, 3), (2, 3), (3, 2)], fk := true, flat := some [1, 1, 1, 1], zero := some [.int .i64 0, .int .i64 0, .int .i64 0, .int .i64 0] }
  | 69 => { ok := true, size := 6, bytes := 48, agg := true, arr := true, elem := 43, alen := 3, zero := some [.int .u8 0, .int .i64 0, .int .u8 0, .int .i64 0, .int .u8 0, .int .i64 0] }
  | 79 => { ok := true, size := 1, bytes := 8, int := true, kind := .u64, zero := some [.int .u64 0] }
  | 82 => { ok := true, size := 1, bytes := 24, sl := true, elem := 5, zero := some [.nils] }
  | 85 => { ok := true, size := 17, bytes := 136, agg := true, arr := true, elem := 3, alen := 17, zero := some [.int .i64 0, .int .i64 0, .int .i64 0, .int .i64 0, .int .i64 0, .int .i64 0, .int .i64 0, .int .i64 0, .int .i64 0, .int .i64 0, .int .i64 0, .int .i64 0, .int .i64 0, .int .i64 0, .int .i64 0, .int .i64 0, .int .i64 0] }
  | 92 => { ok := true, size := 1, bytes := 8, int := true, kind := .i64, zero := some [.int .i64 0] }
  | 100 => { ok := true, size := 1, bytes := 4, int := true, kind := .u32, zero := some [.int .u32 0] }
  | 102 => { ok := true, size := 1, bytes := 8, int := true, kind := .u64, zero := some [.int .u64 0] }
  | 105 => { ok := true, size := 1, bytes := 8, int := true, kind := .u64, zero := some [.int .u64 0] }
  | 109 => { ok := true, size := 1, bytes := 8, ptr := true, zero := some [.nilp] }
  | _ => {}
theorem vU : eA Try.prog 2 (tab 2) :=
  by constructor <;> first | kernel_rfl | exact fun i hi => by simp [tab] at hi
theorem vV : eA Try.prog 3 (tab 3) :=
  by constructor <;> first | kernel_rfl | exact fun i hi => by simp [tab] at hi
theorem vW : eA Try.prog 4 (tab 4) :=
  by constructor <;> first | kernel_rfl | exact fun i hi => by simp [tab] at hi
theorem vX : eA Try.prog 5 (tab 5) :=
  by constructor <;> first | kernel_rfl | exact fun i hi => by simp [tab] at hi
theorem vY : eA Try.prog 9 (tab 9) :=
  by constructor <;> first | kernel_rfl | exact fun i hi => by simp [tab] at hi
theorem u7 : eA Try.prog 22 (tab 22) :=
  by constructor <;> first | kernel_rfl | exact fun i hi => by simp [tab] at hi
theorem u9 : eA Try.prog 23 (tab 23) :=
  by constructor <;> first | kernel_rfl | exact fun i hi => by simp [tab] at hi
theorem va : eA Try.prog 24 (tab 24) :=
  by constructor <;> first | kernel_rfl | exact fun i hi => by simp [tab] at hi
theorem vc : eA Try.prog 26 (tab 26) :=
  ⟨by kernel_rfl, by kernel_rfl, by kernel_rfl, by kernel_rfl, by kernel_rfl, by kernel_rfl, by kernel_rfl, by kernel_rfl, by kernel_rfl, by kernel_rfl, by kernel_rfl, by kernel_rfl, by kernel_rfl, by kernel_rfl, by kernel_rfl, by kernel_rfl, by kernel_rfl,
    fun i hi => by
      have hi : i < 4 := hi
      match i, hi with
      | 0, _ => exact ⟨by kernel_rfl, by kernel_rfl, by kernel_rfl⟩
      | 1, _ => exact ⟨by kernel_rfl, by kernel_rfl, by kernel_rfl⟩
      | 2, _ => exact ⟨by kernel_rfl, by kernel_rfl, by kernel_rfl⟩
      | 3, _ => exact ⟨by kernel_rfl, by kernel_rfl, by kernel_rfl⟩⟩
theorem vd : eA Try.prog 30 (tab 30) :=
  by constructor <;> first | kernel_rfl | exact fun i hi => by simp [tab] at hi
theorem ve : eA Try.prog 32 (tab 32) :=
  ⟨by kernel_rfl, by kernel_rfl, by kernel_rfl, by kernel_rfl, by kernel_rfl, by kernel_rfl, by kernel_rfl, by kernel_rfl, by kernel_rfl, by kernel_rfl, by kernel_rfl, by kernel_rfl, by kernel_rfl, by kernel_rfl, by kernel_rfl, by kernel_rfl, by kernel_rfl,
    fun i hi => by
      have hi : i < 2 := hi
      match i, hi with
      | 0, _ => exact ⟨by kernel_rfl, by kernel_rfl, by kernel_rfl⟩
      | 1, _ => exact ⟨by kernel_rfl, by kernel_rfl, by kernel_rfl⟩⟩
theorem vf : eA Try.prog 43 (tab 43) :=
  ⟨by kernel_rfl, by kernel_rfl, by kernel_rfl, by kernel_rfl, by kernel_rfl, by kernel_rfl, by kernel_rfl, by kernel_rfl, by kernel_rfl, by kernel_rfl, by kernel_rfl, by kernel_rfl, by kernel_rfl, by kernel_rfl, by kernel_rfl, by kernel_rfl, by kernel_rfl,
    fun i hi => by
      have hi : i < 2 := hi
      match i, hi with
      | 0, _ => exact ⟨by kernel_rfl, by kernel_rfl, by kernel_rfl⟩
      | 1, _ => exact ⟨by kernel_rfl, by kernel_rfl, by kernel_rfl⟩⟩
theorem vg : eA Try.prog 44 (tab 44) :=
  by constructor <;> first | kernel_rfl | exact fun i hi => by simp [tab] at hi
theorem vh : eA Try.prog 46 (tab 46) :=
  ⟨by kernel_rfl, by kernel_rfl, by kernel_rfl, by kernel_rfl, by kernel_rfl, by kernel_rfl, by kernel_rfl, by kernel_rfl, by kernel_rfl, by kernel_rfl, by kernel_rfl, by kernel_rfl, by kernel_rfl, by kernel_rfl, by kernel_rfl, by kernel_rfl, by kernel_rfl,
    fun i hi => by
      have hi : i < 6 := hi
      match i, hi with
      | 0, _ => exact ⟨by kernel_rfl, by kernel_rfl, by kernel_rfl⟩
      | 1, _ => exact ⟨by kernel_rfl, by kernel_rfl, by kernel_rfl⟩
      | 2, _ => exact ⟨by kernel_rfl, by kernel_rfl, by kernel_rfl⟩
      | 3, _ => exact ⟨by kernel_rfl, by kernel_rfl, by kernel_rfl⟩
      | 4, _ => exact ⟨by kernel_rfl, by kernel_rfl, by kernel_rfl⟩
      | 5, _ => exact ⟨by kernel_rfl, by kernel_rfl, by kernel_rfl⟩⟩
theorem vi : eA Try.prog 60 (tab 60) :=
  by constructor <;> first | kernel_rfl | exact fun i hi => by simp [tab] at hi
theorem vj : eA Try.prog 62 (tab 62) :=
  ⟨by kernel_rfl, by kernel_rfl, by kernel_rfl, by kernel_rfl, by kernel_rfl, by kernel_rfl, by kernel_rfl, by kernel_rfl, by kernel_rfl, by kernel_rfl, by kernel_rfl, by kernel_rfl, by kernel_rfl, by kernel_rfl, by kernel_rfl, by kernel_rfl, by kernel_rfl,
    fun i hi => by
      have hi : i < 2 := hi
      match i, hi with
      | 0, _ => exact ⟨by kernel_rfl, by kernel_rfl, by kernel_rfl⟩
      | 1, _ => exact ⟨by kernel_rfl, by kernel_rfl, by kernel_rfl⟩⟩
theorem vl : eA Try.prog 66 (tab 66) :=
  ⟨by kernel_rfl, by kernel_rfl, by kernel_rfl, by kernel_rfl, by kernel_rfl, by kernel_rfl, by kernel_rfl, by kernel_rfl, by kernel_rfl, by kernel_rfl, by kernel_rfl, by kernel_rfl, by kernel_rfl, by kernel_rfl, by kernel_rfl, by kernel_rfl, by kernel_rfl,
    fun i hi => by
      have hi : i < 4 := hi
      match i, hi with
      | 0, _ => exact ⟨by kernel_rfl, by kernel_rfl, by kernel_rfl⟩
      | 1, _ => exact ⟨by kernel_rfl, by kernel_rfl, by kernel_rfl⟩
      | 2, _ => exact ⟨by kernel_rfl, by kernel_rfl, by kernel_rfl⟩
      | 3, _ => exact ⟨by kernel_rfl, by kernel_rfl, by kernel_rfl⟩⟩
theorem vm : eA Try.prog 69 (tab 69) :=
  by constructor <;> first | kernel_rfl | exact fun i hi => by simp [tab] at hi
theorem vn : eA Try.prog 79 (tab 79) :=
  by constructor <;> first | kernel_rfl | exact fun i hi => by simp [tab] at hi
theorem vo : eA Try.prog 82 (tab 82) :=
  by constructor <;> first | kernel_rfl | exact fun i hi => by simp [tab] at hi
theorem vp : eA Try.prog 85 (tab 85) :=
  by constructor <;> first | kernel_rfl | exact fun i hi => by simp [tab] at hi
theorem vq : eA Try.prog 92 (tab 92) :=
  by constructor <;> first | kernel_rfl | exact fun i hi => by simp [tab] at hi
theorem uE : eA Try.prog 100 (tab 100) :=
  by constructor <;> first | kernel_rfl | exact fun i hi => by simp [tab] at hi
theorem uF : eA Try.prog 102 (tab 102) :=
  by constructor <;> first | kernel_rfl | exact fun i hi => by simp [tab] at hi
theorem uG : eA Try.prog 105 (tab 105) :=
  by constructor <;> first | kernel_rfl | exact fun i hi => by simp [tab] at hi
theorem uH : eA Try.prog 109 (tab 109) :=
  by constructor <;> first | kernel_rfl | exact fun i hi => by simp [tab] at hi
theorem eC (T : TypeId) (h : (tab T).ok = true) : eA Try.prog T (tab T) := by
  unfold tab at h
  split at h
  · exact vU
  · exact vV
  · exact vW
  · exact vX
  · exact vY
  · exact u7
  · exact u9
  · exact va
  · exact vc
  · exact vd
  · exact ve
  · exact vf
  · exact vg
  · exact vh
  · exact vi
  · exact vj
  · exact vl
  · exact vm
  · exact vn
  · exact vo
  · exact vp
  · exact vq
  · exact uE
  · exact uF
  · exact uG
  · exact uH
  · cases h
theorem tP {T : TypeId} (h : (tab T).ok = true) : bg Try.prog T = true := (eC T h).known
theorem vr {T : TypeId} (h : (tab T).ok = true) : (Try.prog.underlying T).isSome = true := (eC T h).und
theorem uI {T : TypeId} (h : (tab T).ok = true) : Try.prog.cellsOf T = (tab T).size := (eC T h).size
theorem tQ {T : TypeId} (h : (tab T).ok = true) : Try.prog.bytesOf T = (tab T).bytes := (eC T h).bytes
theorem vt {T : TypeId} (h : (tab T).ok = true) : hY Try.prog T = (tab T).agg := (eC T h).agg
theorem vZ {T : TypeId} (h : (tab T).ok = true) : eN Try.prog T = (tab T).sl := (eC T h).sl
theorem vu {T : TypeId} (h : (tab T).ok = true) : iX Try.prog T = (tab T).arr := (eC T h).arr
theorem vw {T : TypeId} (h : (tab T).ok = true) : jg Try.prog T = (tab T).str := (eC T h).str
theorem uJ {T : TypeId} (h : (tab T).ok = true) : nm Try.prog T = (tab T).bool := (eC T h).bool
theorem vx {T : TypeId} (h : (tab T).ok = true) : oK Try.prog T = (tab T).int := (eC T h).int
theorem vy {T : TypeId} (h : (tab T).ok = true) : rj Try.prog T = (tab T).ptr := (eC T h).ptr
theorem uK {T : TypeId} (h : (tab T).ok = true) : Try.prog.elem T = (tab T).elem := (eC T h).elem
theorem uL {T : TypeId} (h : (tab T).ok = true) : Try.prog.arrayLen T = (tab T).alen := (eC T h).alen
theorem uM {T : TypeId} (h : (tab T).ok = true) : Try.prog.intKind T = (tab T).kind := (eC T h).kind
theorem v1 {T : TypeId} (h : (tab T).ok = true) : iv Try.prog T = (tab T).fk := (eC T h).fk
theorem uN {T : TypeId} (h : (tab T).ok = true) : ib Try.prog T = (tab T).zero := (eC T h).zero
theorem uO {T : TypeId} (h : (tab T).ok = true) : pP Try.prog T = (tab T).flat := (eC T h).flat
theorem vz {T : TypeId} {i : Nat} (h : (tab T).ok = true) (hi : i < (tab T).fs.length) : jf Try.prog T i = true := ((eC T h).fld i hi).1
theorem uP {T : TypeId} {i : Nat} (h : (tab T).ok = true) (hi : i < (tab T).fs.length) : fZ Try.prog T i = ((tab T).fs.getD i (0, 0)).1 := ((eC T h).fld i hi).2.1
theorem vA {T : TypeId} {i : Nat} (h : (tab T).ok = true) (hi : i < (tab T).fs.length) : kq Try.prog T i = ((tab T).fs.getD i (0, 0)).2 := ((eC T h).fld i hi).2.2
def bT := And.intro (And.intro (And.intro (And.intro @tP @vr) (And.intro @uI @tQ)) (And.intro (And.intro @vt @vZ) (And.intro @vu @vw))) (And.intro (And.intro (And.intro @uJ @vx) (And.intro @vy @uK)) (And.intro (And.intro (And.intro @uL @uM) (And.intro @v1 @uN)) (And.intro (And.intro @uO @vz) (And.intro @uP @vA))))
end Pam
namespace Go.Proofs
open Go.Shelf
def Try.lays189_ren : Go.Shelf.Ren := ⟨fun | 189 => 32 | 125 => 46 | 257 => 45 | 128 => 66 | 129 => 67 | 294 => 57 | 295 => 58 | 296 => 59 | 297 => 60 | 298 => 61 | 299 => 62 | 216 => 63 | 300 => 64 | 301 => 65 | 328 => 69 | 329 => 70 | 330 => 71 | 331 => 72 | 332 => 73 | 215 => 74 | 343 => 76 | n => n, fun | 28 => 23 | 3 => 3 | 46 => 79 | 0 => 0 | 51 => 100 | 53 => 102 | 4 => 4 | 183 => 93 | 182 => 92 | 131 => 51 | 5 => 5 | 9 => 9 | 218 => 105 | 222 => 109 | 228 => 113 | 229 => 114 | n => n, fun | n => n⟩
theorem Try.lays189 : Go.Proofs.Lays.n189 Try.prog Try.lays189_ren := {
  mixed := by kernel_rfl
  f125 := Try.func46.trans (congrArg some (by kernel_rfl))
  f128 := Try.func66.trans (congrArg some (by kernel_rfl))
  f129 := Try.func67.trans (congrArg some (by kernel_rfl))
  f189 := Try.func32.trans (congrArg some (by kernel_rfl))
  f215 := Try.func74.trans (congrArg some (by kernel_rfl))
  f216 := Try.func63.trans (congrArg some (by kernel_rfl))
  f257 := Try.func45.trans (congrArg some (by kernel_rfl))
  f294 := Try.func57.trans (congrArg some (by kernel_rfl))
  f295 := Try.func58.trans (congrArg some (by kernel_rfl))
  f296 := Try.func59.trans (congrArg some (by kernel_rfl))
  f297 := Try.func60.trans (congrArg some (by kernel_rfl))
  f298 := Try.func61.trans (congrArg some (by kernel_rfl))
  f299 := Try.func62.trans (congrArg some (by kernel_rfl))
  f300 := Try.func64.trans (congrArg some (by kernel_rfl))
  f301 := Try.func65.trans (congrArg some (by kernel_rfl))
  f328 := Try.func69.trans (congrArg some (by kernel_rfl))
  f329 := Try.func70.trans (congrArg some (by kernel_rfl))
  f330 := Try.func71.trans (congrArg some (by kernel_rfl))
  f331 := Try.func72.trans (congrArg some (by kernel_rfl))
  f332 := Try.func73.trans (congrArg some (by kernel_rfl))
  f343 := Try.func76.trans (congrArg some (by kernel_rfl))
  t0 := Try.underlying0
  a0 := Try.isAgg0
  z0 := Try.sizeOf0
  v0 := Try.zeroValue0
  t3 := Try.underlying3
  a3 := Try.isAgg3
  z3 := Try.sizeOf3
  v3 := Try.zeroValue3
  t4 := Try.underlying4
  a4 := Try.isAgg4
  z4 := Try.sizeOf4
  v4 := Try.zeroValue4
  t5 := Try.underlying5
  a5 := Try.isAgg5
  z5 := Try.sizeOf5
  v5 := Try.zeroValue5
  t9 := Try.underlying9
  a9 := Try.isAgg9
  z9 := Try.sizeOf9
  v9 := Try.zeroValue9
  t28 := Try.underlying23
  a28 := Try.isAgg23
  z28 := Try.sizeOf23
  v28 := Try.zeroValue23
  t46 := Try.underlying79
  a46 := Try.isAgg79
  z46 := Try.sizeOf79
  v46 := Try.zeroValue79
  t51 := Try.underlying100
  a51 := Try.isAgg100
  z51 := Try.sizeOf100
  v51 := Try.zeroValue100
  t53 := Try.underlying102
  a53 := Try.isAgg102
  z53 := Try.sizeOf102
  v53 := Try.zeroValue102
  t131 := Try.underlying51
  a131 := Try.isAgg51
  z131 := Try.sizeOf51
  v131 := Try.zeroValue51
  t182 := Try.underlying92
  a182 := Try.isAgg92
  z182 := Try.sizeOf92
  v182 := Try.zeroValue92
  t183 := Try.underlying93
  a183 := Try.isAgg93
  z183 := Try.sizeOf93
  v183 := Try.zeroValue93
  t218 := Try.underlying105
  a218 := Try.isAgg105
  z218 := Try.sizeOf105
  v218 := Try.zeroValue105
  t222 := Try.underlying109
  a222 := Try.isAgg109
  z222 := Try.sizeOf109
  v222 := Try.zeroValue109
  t228 := Try.underlying113
  a228 := Try.isAgg113
  z228 := Try.sizeOf113
  v228 := Try.zeroValue113
  t229 := Try.underlying114
  a229 := Try.isAgg114
  z229 := Try.sizeOf114
  v229 := Try.zeroValue114 }
def Try.laysNm220_ren : Go.Shelf.Ren := ⟨fun | 20 => 33 | n => n, fun | 22 => 23 | 3 => 3 | 4 => 4 | 0 => 0 | n => n, fun | n => n⟩
theorem Try.laysNm220 : Go.Proofs.Lays2.n20 Try.prog Try.laysNm220_ren := {
  mixed := by kernel_rfl
  f20 := Try.func33.trans (congrArg some (by kernel_rfl))
  t0 := Try.underlying0
  a0 := Try.isAgg0
  z0 := Try.sizeOf0
  v0 := Try.zeroValue0
  t3 := Try.underlying3
  a3 := Try.isAgg3
  z3 := Try.sizeOf3
  v3 := Try.zeroValue3
  t4 := Try.underlying4
  a4 := Try.isAgg4
  z4 := Try.sizeOf4
  v4 := Try.zeroValue4
  t22 := Try.underlying23
  a22 := Try.isAgg23
  z22 := Try.sizeOf23
  v22 := Try.zeroValue23
  i3 := by kernel_rfl }
end Go.Proofs
namespace Pam
open Go Go.Proofs
theorem st : Lays.n189 Try.prog Try.lays189_ren := Try.lays189
theorem pE : Lays2.n20 Try.prog Try.laysNm220_ren := Try.laysNm220
end Pam
