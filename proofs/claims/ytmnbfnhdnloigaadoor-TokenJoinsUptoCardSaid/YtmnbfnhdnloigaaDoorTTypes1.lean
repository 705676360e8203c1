/- Facts of the types that the proofs of this seat speak of, read off the program by the kernel. Printed by a program of ours. -/
import Derived.Test.YtmnbfnhdnloigaaDoorProg
import Derived.Test.YtmnbfnhdnloigaaDoorTBase1
import Derived.Shelf.LaysC
import Derived.Test.YtmnbfnhdnloigaaDoorTBase2
set_option linter.all false
namespace Pam
open Go Go.Proofs
def tab : Nat → TD
  | 2 => { ok := true, size := 1, bytes := 8, int := true, kind := .i64, zero := some [.int .i64 0] }
  | 3 => { ok := true, size := 1, bytes := 8, int := true, kind := .i64, zero := some [.int .i64 0] }
  | 4 => { ok := true, size := 1, bytes := 1, bool := true, zero := some [.bool false] }
  | 5 => { ok := true, size := 1, bytes := 1, int := true, kind := .u8, zero := some [.int .u8 0] }
  | 9 => { ok := true, size := 1, bytes := 16, str := true, zero := some [.str []] }
  | 21 => { ok := true, size := 1, bytes := 4, int := true, kind := .i32, zero := some [.int .i32 0] }
  | 23 => { ok := true, size := 1, bytes := 24, sl := true, elem := 31, zero := some [.nils] }
  | 25 => { ok := true, size := 2, bytes := 16, agg := true, fs := [(0, 3), (1, 3)], fk := true, flat := some [1, 1], zero := some [.int .i64 0, .int .i64 0] }
  | 31 => { ok := true, size := 4, bytes := 40, agg := true, fs := [(0, 3), (1, 3), (2, 9), (3, 2)], fk := true, flat := some [1, 1, 2, 1], zero := some [.int .i64 0, .int .i64 0, .str [], .int .i64 0] }
  | 33 => { ok := true, size := 1, bytes := 8, ptr := true, zero := some [.nilp] }
  | 35 => { ok := true, size := 3, bytes := 48, agg := true, fs := [(0, 9), (1, 3), (2, 23)], fk := true, zero := some [.str [], .int .i64 0, .nils] }
  | 41 => { ok := true, size := 1, bytes := 24, sl := true, elem := 9, zero := some [.nils] }
  | 51 => { ok := true, size := 1, bytes := 8, int := true, kind := .u64, zero := some [.int .u64 0] }
  | 54 => { ok := true, size := 1, bytes := 8, int := true, kind := .u64, zero := some [.int .u64 0] }
  | 59 => { ok := true, size := 1, bytes := 24, sl := true, elem := 5, zero := some [.nils] }
  | 62 => { ok := true, size := 3, bytes := 48, agg := true, fs := [(0, 9), (1, 9), (2, 46)], fk := true, zero := some [.str [], .str [], .nili] }
  | 65 => { ok := true, size := 1, bytes := 8, ptr := true, zero := some [.nilp] }
  | 68 => { ok := true, size := 1, bytes := 16, agg := true, fs := [(0, 9)], fk := true, flat := some [2], zero := some [.str []] }
  | 70 => { ok := true, size := 24, bytes := 24, agg := true, arr := true, elem := 5, alen := 24, zero := some [.int .u8 0, .int .u8 0, .int .u8 0, .int .u8 0, .int .u8 0, .int .u8 0, .int .u8 0, .int .u8 0, .int .u8 0, .int .u8 0, .int .u8 0, .int .u8 0, .int .u8 0, .int .u8 0, .int .u8 0, .int .u8 0, .int .u8 0, .int .u8 0, .int .u8 0, .int .u8 0, .int .u8 0, .int .u8 0, .int .u8 0, .int .u8 0] }
  | 77 => { ok := true, size := 20, bytes := 160, agg := true, arr := true, elem := 51, alen := 20, zero := some [.int .u64 0, .int .u64 0, .int .u64 0, .int .u64 0, .int .u64 0, .int .u64 0, .int .u64 0, .int .u64 0, .int .u64 0, .int .u64 0, .int .u64 0, .int .u64 0, .int .u64 0, .int .u64 0, .int .u64 0, .int .u64 0, .int .u64 0, .int .u64 0, .int .u64 0, .int .u64 0] }
  | 78 => { ok := true, size := 1, bytes := 4, int := true, kind := .u32, zero := some [.int .u32 0] }
  | 79 => { ok := true, size := 65, bytes := 65, agg := true, arr := true, elem := 5, alen := 65, zero := some [.int .u8 0, .int .u8 0, .int .u8 0, .int .u8 0, .int .u8 0, .int .u8 0, .int .u8 0, .int .u8 0, .int .u8 0, .int .u8 0, .int .u8 0, .int .u8 0, .int .u8 0, .int .u8 0, .int .u8 0, .int .u8 0, .int .u8 0, .int .u8 0, .int .u8 0, .int .u8 0, .int .u8 0, .int .u8 0, .int .u8 0, .int .u8 0, .int .u8 0, .int .u8 0, .int .u8 0, .int .u8 0, .int .u8 0, .int .u8 0, .int .u8 0, .int .u8 0, .int .u8 0, .int .u8 0, .int .u8 0, .int .u8 0, .int .u8 0, .int .u8 0, .int .u8 0, .int .u8 0, .int .u8 0, .int .u8 0, .int .u8 0, .int .u8 0, .int .u8 0, .int .u8 0, .int .u8 0, .int .u8 0, .int .u8 0, .int .u8 0, .int .u8 0, .int .u8 0, .int .u8 0, .int .u8 0, .int .u8 0, .int .u8 0, .int .u8 0, .int .u8 0, .int .u8 0, .int .u8 0, .int .u8 0, .int .u8 0, .int .u8 0, .int .u8 0, .int .u8 0] }
  | 83 => { ok := true, size := 32, bytes := 32, agg := true, arr := true, elem := 5, alen := 32, zero := some [.int .u8 0, .int .u8 0, .int .u8 0, .int .u8 0, .int .u8 0, .int .u8 0, .int .u8 0, .int .u8 0, .int .u8 0, .int .u8 0, .int .u8 0, .int .u8 0, .int .u8 0, .int .u8 0, .int .u8 0, .int .u8 0, .int .u8 0, .int .u8 0, .int .u8 0, .int .u8 0, .int .u8 0, .int .u8 0, .int .u8 0, .int .u8 0, .int .u8 0, .int .u8 0, .int .u8 0, .int .u8 0, .int .u8 0, .int .u8 0, .int .u8 0, .int .u8 0] }
  | 84 => { ok := true, size := 64, bytes := 64, agg := true, arr := true, elem := 5, alen := 64, zero := some [.int .u8 0, .int .u8 0, .int .u8 0, .int .u8 0, .int .u8 0, .int .u8 0, .int .u8 0, .int .u8 0, .int .u8 0, .int .u8 0, .int .u8 0, .int .u8 0, .int .u8 0, .int .u8 0, .int .u8 0, .int .u8 0, .int .u8 0, .int .u8 0, .int .u8 0, .int .u8 0, .int .u8 0, .int .u8 0, .int .u8 0, .int .u8 0, .int .u8 0, .int .u8 0, .int .u8 0, .int .u8 0, .int .u8 0, .int .u8 0, .int .u8 0, .int .u8 0, .int .u8 0, .int .u8 0, .int .u8 0, .int .u8 0, .int .u8 0, .int .u8 0, .int .u8 0, .int .u8 0, .int .u8 0, .int .u8 0, .int .u8 0, .int .u8 0, .int .u8 0, .int .u8 0, .int .u8 0, .int .u8 0, .int .u8 0, .int .u8 0, .int .u8 0, .int .u8 0, .int .u8 0, .int .u8 0, .int .u8 0, .int .u8 0, .int .u8 0, .int .u8 0, .int .u8 0, .int .u8 0, .int .u8 0, .int .u8 0, .int .u8 0, .int .u8 0] }
  | _ => {}
theorem oG : cT Tryd.prog 2 (tab 2) :=
  by constructor <;> first | kernel_rfl | exact fun i hi => by simp [tab] at hi
theorem oH : cT Tryd.prog 3 (tab 3) :=
  by constructor <;> first | kernel_rfl | exact fun i hi => by simp [tab] at hi
theorem oI : cT Tryd.prog 4 (tab 4) :=
  by constructor <;> first | kernel_rfl | exact fun i hi => by simp [tab] at hi
theorem oJ : cT Tryd.prog 5 (tab 5) :=
  by constructor <;> first | kernel_rfl | exact fun i hi => by simp [tab] at hi
theorem oK : cT Tryd.prog 9 (tab 9) :=
  by constructor <;> first | kernel_rfl | exact fun i hi => by simp [tab] at hi
theorem nQ : cT Tryd.prog 21 (tab 21) :=
  by constructor <;> first | kernel_rfl | exact fun i hi => by simp [tab] at hi
theorem nR : cT Tryd.prog 23 (tab 23) :=
  by constructor <;> first | kernel_rfl | exact fun i hi => by simp [tab] at hi
theorem nS : cT Tryd.prog 25 (tab 25) :=
  ⟨by kernel_rfl, by kernel_rfl, by kernel_rfl, by kernel_rfl, by kernel_rfl, by kernel_rfl, by kernel_rfl, by kernel_rfl, by kernel_rfl, by kernel_rfl, by kernel_rfl, by kernel_rfl, by kernel_rfl, by kernel_rfl, by kernel_rfl, by kernel_rfl, by kernel_rfl,
    fun i hi => by
      have hi : i < 2 := hi
      match i, hi with
      | 0, _ => exact ⟨by kernel_rfl, by kernel_rfl, by kernel_rfl⟩
      | 1, _ => exact ⟨by kernel_rfl, by kernel_rfl, by kernel_rfl⟩⟩
theorem nT : cT Tryd.prog 31 (tab 31) :=
  ⟨by kernel_rfl, by kernel_rfl, by kernel_rfl, by kernel_rfl, by kernel_rfl, by kernel_rfl, by kernel_rfl, by kernel_rfl, by kernel_rfl, by kernel_rfl, by kernel_rfl, by kernel_rfl, by kernel_rfl, by kernel_rfl, by kernel_rfl, by kernel_rfl, by kernel_rfl,
    fun i hi => by
      have hi : i < 4 := hi
      match i, hi with
      | 0, _ => exact ⟨by kernel_rfl, by kernel_rfl, by kernel_rfl⟩
      | 1, _ => exact ⟨by kernel_rfl, by kernel_rfl, by kernel_rfl⟩
      | 2, _ => exact ⟨by kernel_rfl, by kernel_rfl, by kernel_rfl⟩
      | 3, _ => exact ⟨by kernel_rfl, by kernel_rfl, by kernel_rfl⟩⟩
theorem nU : cT Tryd.prog 33 (tab 33) :=
  by constructor <;> first | kernel_rfl | exact fun i hi => by simp [tab] at hi
theorem nV : cT Tryd.prog 35 (tab 35) :=
  ⟨by kernel_rfl, by kernel_rfl, by kernel_rfl, by kernel_rfl, by kernel_rfl, by kernel_rfl, by kernel_rfl, by kernel_rfl, by kernel_rfl, by kernel_rfl, by kernel_rfl, by kernel_rfl, by kernel_rfl, by kernel_rfl, by kernel_rfl, by kernel_rfl, by kernel_rfl,
    fun i hi => by
      have hi : i < 3 := hi
      match i, hi with
      | 0, _ => exact ⟨by kernel_rfl, by kernel_rfl, by kernel_rfl⟩
      | 1, _ => exact ⟨by kernel_rfl, by kernel_rfl, by kernel_rfl⟩
      | 2, _ => exact ⟨by kernel_rfl, by kernel_rfl, by kernel_rfl⟩⟩
theorem nW : cT Tryd.prog 41 (tab 41) :=
  by constructor <;> first | kernel_rfl | exact fun i hi => by simp [tab] at hi
theorem nX : cT Tryd.prog 51 (tab 51) :=
  by constructor <;> first | kernel_rfl | exact fun i hi => by simp [tab] at hi
theorem nY : cT Tryd.prog 54 (tab 54) :=
  by constructor <;> first | kernel_rfl | exact fun i hi => by simp [tab] at hi
theorem nZ : cT Tryd.prog 59 (tab 59) :=
  by constructor <;> first | kernel_rfl | exact fun i hi => by simp [tab] at hi
theorem n0 : cT Tryd.prog 62 (tab 62) :=
  ⟨by kernel_rfl, by kernel_rfl, by kernel_rfl, by kernel_rfl, by kernel_rfl, by kernel_rfl, by kernel_rfl, by kernel_rfl, by kernel_rfl, by kernel_rfl, by kernel_rfl, by kernel_rfl, by kernel_rfl, by kernel_rfl, by kernel_rfl, by kernel_rfl, by kernel_rfl,
    fun i hi => by
      have hi : i < 3 := hi
      match i, hi with
      | 0, _ => exact ⟨by kernel_rfl, by kernel_rfl, by kernel_rfl⟩
      | 1, _ => exact ⟨by kernel_rfl, by kernel_rfl, by kernel_rfl⟩
      | 2, _ => exact ⟨by kernel_rfl, by kernel_rfl, by kernel_rfl⟩⟩
theorem n3 : cT Tryd.prog 65 (tab 65) :=
  by constructor <;> first | kernel_rfl | exact fun i hi => by simp [tab] at hi
theorem n4 : cT Tryd.prog 68 (tab 68) :=
  ⟨by kernel_rfl, by kernel_rfl, by kernel_rfl, by kernel_rfl, by kernel_rfl, by kernel_rfl, by kernel_rfl, by kernel_rfl, by kernel_rfl, by kernel_rfl, by kernel_rfl, by kernel_rfl, by kernel_rfl, by kernel_rfl, by kernel_rfl, by kernel_rfl, by kernel_rfl,
    fun i hi => by
      have hi : i < 1 := hi
      match i, hi with
      | 0, _ => exact ⟨by kernel_rfl, by kernel_rfl, by kernel_rfl⟩⟩
theorem n5 : cT Tryd.prog 70 (tab 70) :=
  by constructor <;> first | kernel_rfl | exact fun i hi => by simp [tab] at hi
theorem n6 : cT Tryd.prog 77 (tab 77) :=
  by constructor <;> first | kernel_rfl | exact fun i hi => by simp [tab] at hi
theorem n7 : cT Tryd.prog 78 (tab 78) :=
  by constructor <;> first | kernel_rfl | exact fun i hi => by simp [tab] at hi
theorem n8 : cT Tryd.prog 79 (tab 79) :=
  by constructor <;> first | kernel_rfl | exact fun i hi => by simp [tab] at hi
theorem n9 : cT Tryd.prog 83 (tab 83) :=
  by constructor <;> first | kernel_rfl | exact fun i hi => by simp [tab] at hi
theorem oa : cT Tryd.prog 84 (tab 84) :=
  by constructor <;> first | kernel_rfl | exact fun i hi => by simp [tab] at hi
theorem cJ (T : TypeId) (h : (tab T).ok = true) : cT Tryd.prog T (tab T) := by
  unfold tab at h
  split at h
  · exact oG
  · exact oH
  · exact oI
  · exact oJ
  · exact oK
  · exact nQ
  · exact nR
  · exact nS
  · exact nT
  · exact nU
  · exact nV
  · exact nW
  · exact nX
  · exact nY
  · exact nZ
  · exact n0
  · exact n3
  · exact n4
  · exact n5
  · exact n6
  · exact n7
  · exact n8
  · exact n9
  · exact oa
  · cases h
theorem mW {T : TypeId} (h : (tab T).ok = true) : aG Tryd.prog T = true := (cJ T h).known
theorem oc {T : TypeId} (h : (tab T).ok = true) : (Tryd.prog.underlying T).isSome = true := (cJ T h).und
theorem nA {T : TypeId} (h : (tab T).ok = true) : Tryd.prog.cellsOf T = (tab T).size := (cJ T h).size
theorem mX {T : TypeId} (h : (tab T).ok = true) : Tryd.prog.bytesOf T = (tab T).bytes := (cJ T h).bytes
theorem od {T : TypeId} (h : (tab T).ok = true) : dY Tryd.prog T = (tab T).agg := (cJ T h).agg
theorem oL {T : TypeId} (h : (tab T).ok = true) : cO Tryd.prog T = (tab T).sl := (cJ T h).sl
theorem oe {T : TypeId} (h : (tab T).ok = true) : fP Tryd.prog T = (tab T).arr := (cJ T h).arr
theorem oh {T : TypeId} (h : (tab T).ok = true) : eu Tryd.prog T = (tab T).str := (cJ T h).str
theorem nC {T : TypeId} (h : (tab T).ok = true) : iQ Tryd.prog T = (tab T).bool := (cJ T h).bool
theorem oi {T : TypeId} (h : (tab T).ok = true) : iR Tryd.prog T = (tab T).int := (cJ T h).int
theorem oj {T : TypeId} (h : (tab T).ok = true) : ll Tryd.prog T = (tab T).ptr := (cJ T h).ptr
theorem nD {T : TypeId} (h : (tab T).ok = true) : Tryd.prog.elem T = (tab T).elem := (cJ T h).elem
theorem nE {T : TypeId} (h : (tab T).ok = true) : Tryd.prog.arrayLen T = (tab T).alen := (cJ T h).alen
theorem nF {T : TypeId} (h : (tab T).ok = true) : Tryd.prog.intKind T = (tab T).kind := (cJ T h).kind
theorem oM {T : TypeId} (h : (tab T).ok = true) : eh Tryd.prog T = (tab T).fk := (cJ T h).fk
theorem nG {T : TypeId} (h : (tab T).ok = true) : eM Tryd.prog T = (tab T).zero := (cJ T h).zero
theorem nH {T : TypeId} (h : (tab T).ok = true) : kd Tryd.prog T = (tab T).flat := (cJ T h).flat
theorem om {T : TypeId} {i : Nat} (h : (tab T).ok = true) (hi : i < (tab T).fs.length) : eJ Tryd.prog T i = true := ((cJ T h).fld i hi).1
theorem nI {T : TypeId} {i : Nat} (h : (tab T).ok = true) (hi : i < (tab T).fs.length) : dm Tryd.prog T i = ((tab T).fs.getD i (0, 0)).1 := ((cJ T h).fld i hi).2.1
theorem oq {T : TypeId} {i : Nat} (h : (tab T).ok = true) (hi : i < (tab T).fs.length) : fO Tryd.prog T i = ((tab T).fs.getD i (0, 0)).2 := ((cJ T h).fld i hi).2.2
def bT := And.intro (And.intro (And.intro (And.intro @mW @oc) (And.intro @nA @mX)) (And.intro (And.intro @od @oL) (And.intro @oe @oh))) (And.intro (And.intro (And.intro @nC @oi) (And.intro @oj @nD)) (And.intro (And.intro (And.intro @nE @nF) (And.intro @oM @nG)) (And.intro (And.intro @nH @om) (And.intro @nI @oq))))
end Pam
namespace Go.Proofs
open Go.Shelf
def Tryd.lays174_ren : Go.Shelf.Ren := ⟨fun | 174 => 26 | 247 => 28 | 245 => 29 | 287 => 31 | 279 => 32 | 280 => 33 | 281 => 34 | 282 => 35 | 321 => 36 | 322 => 37 | 316 => 38 | 171 => 40 | 205 => 39 | 243 => 41 | 246 => 42 | 283 => 43 | 284 => 44 | 285 => 45 | 286 => 46 | 129 => 48 | 317 => 47 | 318 => 49 | 319 => 50 | 320 => 51 | 337 => 52 | 338 => 53 | n => n, fun | 9 => 9 | 3 => 3 | 2 => 2 | 75 => 46 | 85 => 47 | 4 => 4 | 167 => 50 | 5 => 5 | 53 => 51 | 175 => 52 | 46 => 54 | 168 => 55 | 37 => 59 | 0 => 0 | 210 => 62 | 21 => 21 | 127 => 65 | 145 => 68 | 143 => 66 | 171 => 70 | 173 => 73 | 212 => 77 | 51 => 78 | 20 => 20 | 213 => 79 | 232 => 83 | 233 => 84 | 80 => 42 | n => n, fun | 15 => 0 | 16 => 1 | 17 => 2 | 18 => 3 | 19 => 4 | n => n⟩
theorem Tryd.lays174 : Go.Proofs.LaysC.n174 Tryd.prog Tryd.lays174_ren := {
  mixed := by kernel_rfl
  f129 := Tryd.func48.trans (congrArg some (by kernel_rfl))
  f171 := Tryd.func40.trans (congrArg some (by kernel_rfl))
  f174 := Tryd.func26.trans (congrArg some (by kernel_rfl))
  f205 := Tryd.func39.trans (congrArg some (by kernel_rfl))
  f243 := Tryd.func41.trans (congrArg some (by kernel_rfl))
  f245 := Tryd.func29.trans (congrArg some (by kernel_rfl))
  f246 := Tryd.func42.trans (congrArg some (by kernel_rfl))
  f247 := Tryd.func28.trans (congrArg some (by kernel_rfl))
  f279 := Tryd.func32.trans (congrArg some (by kernel_rfl))
  f280 := Tryd.func33.trans (congrArg some (by kernel_rfl))
  f281 := Tryd.func34.trans (congrArg some (by kernel_rfl))
  f282 := Tryd.func35.trans (congrArg some (by kernel_rfl))
  f283 := Tryd.func43.trans (congrArg some (by kernel_rfl))
  f284 := Tryd.func44.trans (congrArg some (by kernel_rfl))
  f285 := Tryd.func45.trans (congrArg some (by kernel_rfl))
  f286 := Tryd.func46.trans (congrArg some (by kernel_rfl))
  f287 := Tryd.func31.trans (congrArg some (by kernel_rfl))
  f316 := Tryd.func38.trans (congrArg some (by kernel_rfl))
  f317 := Tryd.func47.trans (congrArg some (by kernel_rfl))
  f318 := Tryd.func49.trans (congrArg some (by kernel_rfl))
  f319 := Tryd.func50.trans (congrArg some (by kernel_rfl))
  f320 := Tryd.func51.trans (congrArg some (by kernel_rfl))
  f321 := Tryd.func36.trans (congrArg some (by kernel_rfl))
  f322 := Tryd.func37.trans (congrArg some (by kernel_rfl))
  f337 := Tryd.func52.trans (congrArg some (by kernel_rfl))
  f338 := Tryd.func53.trans (congrArg some (by kernel_rfl))
  t0 := Tryd.underlying0
  a0 := Tryd.isAgg0
  z0 := Tryd.sizeOf0
  v0 := Tryd.zeroValue0
  t2 := Tryd.underlying2
  a2 := Tryd.isAgg2
  z2 := Tryd.sizeOf2
  v2 := Tryd.zeroValue2
  t3 := Tryd.underlying3
  a3 := Tryd.isAgg3
  z3 := Tryd.sizeOf3
  v3 := Tryd.zeroValue3
  t4 := Tryd.underlying4
  a4 := Tryd.isAgg4
  z4 := Tryd.sizeOf4
  v4 := Tryd.zeroValue4
  t5 := Tryd.underlying5
  a5 := Tryd.isAgg5
  z5 := Tryd.sizeOf5
  v5 := Tryd.zeroValue5
  t9 := Tryd.underlying9
  a9 := Tryd.isAgg9
  z9 := Tryd.sizeOf9
  v9 := Tryd.zeroValue9
  t20 := Tryd.underlying20
  a20 := Tryd.isAgg20
  z20 := Tryd.sizeOf20
  v20 := Tryd.zeroValue20
  t21 := Tryd.underlying21
  a21 := Tryd.isAgg21
  z21 := Tryd.sizeOf21
  v21 := Tryd.zeroValue21
  t37 := Tryd.underlying59
  a37 := Tryd.isAgg59
  z37 := Tryd.sizeOf59
  v37 := Tryd.zeroValue59
  t46 := Tryd.underlying54
  a46 := Tryd.isAgg54
  z46 := Tryd.sizeOf54
  v46 := Tryd.zeroValue54
  t51 := Tryd.underlying78
  a51 := Tryd.isAgg78
  z51 := Tryd.sizeOf78
  v51 := Tryd.zeroValue78
  t53 := Tryd.underlying51
  a53 := Tryd.isAgg51
  z53 := Tryd.sizeOf51
  v53 := Tryd.zeroValue51
  t75 := Tryd.underlying46
  a75 := Tryd.isAgg46
  z75 := Tryd.sizeOf46
  v75 := Tryd.zeroValue46
  t85 := Tryd.underlying47
  a85 := Tryd.isAgg47
  z85 := Tryd.sizeOf47
  v85 := Tryd.zeroValue47
  t127 := Tryd.underlying65
  a127 := Tryd.isAgg65
  z127 := Tryd.sizeOf65
  v127 := Tryd.zeroValue65
  t143 := Tryd.underlying66
  a143 := Tryd.isAgg66
  z143 := Tryd.sizeOf66
  v143 := Tryd.zeroValue66
  t145 := Tryd.underlying68
  a145 := Tryd.isAgg68
  z145 := Tryd.sizeOf68
  v145 := Tryd.zeroValue68
  t167 := Tryd.underlying50
  a167 := Tryd.isAgg50
  z167 := Tryd.sizeOf50
  v167 := Tryd.zeroValue50
  t168 := Tryd.underlying55
  a168 := Tryd.isAgg55
  z168 := Tryd.sizeOf55
  v168 := Tryd.zeroValue55
  t171 := Tryd.underlying70
  a171 := Tryd.isAgg70
  z171 := Tryd.sizeOf70
  v171 := Tryd.zeroValue70
  t173 := Tryd.underlying73
  a173 := Tryd.isAgg73
  z173 := Tryd.sizeOf73
  v173 := Tryd.zeroValue73
  t175 := Tryd.underlying52
  a175 := Tryd.isAgg52
  z175 := Tryd.sizeOf52
  v175 := Tryd.zeroValue52
  t210 := Tryd.underlying62
  a210 := Tryd.isAgg62
  z210 := Tryd.sizeOf62
  v210 := Tryd.zeroValue62
  t212 := Tryd.underlying77
  a212 := Tryd.isAgg77
  z212 := Tryd.sizeOf77
  v212 := Tryd.zeroValue77
  t213 := Tryd.underlying79
  a213 := Tryd.isAgg79
  z213 := Tryd.sizeOf79
  t232 := Tryd.underlying83
  a232 := Tryd.isAgg83
  z232 := Tryd.sizeOf83
  v232 := Tryd.zeroValue83
  t233 := Tryd.underlying84
  a233 := Tryd.isAgg84
  z233 := Tryd.sizeOf84
  v233 := Tryd.zeroValue84
  g15 := by kernel_rfl
  g16 := by kernel_rfl
  g17 := by kernel_rfl
  g18 := by kernel_rfl
  g19 := by kernel_rfl
  t80 := Tryd.underlying42
  a80 := Tryd.isAgg42
  z80 := Tryd.sizeOf42
  v80 := Tryd.zeroValue42
  i0 := by kernel_rfl
  i2 := by kernel_rfl
  i3 := by kernel_rfl
  i4 := by kernel_rfl
  i5 := by kernel_rfl
  i9 := by kernel_rfl
  i20 := by kernel_rfl
  i21 := by kernel_rfl
  i37 := by kernel_rfl
  i46 := by kernel_rfl
  i51 := by kernel_rfl
  i53 := by kernel_rfl
  i75 := by kernel_rfl
  i80 := by kernel_rfl
  i85 := by kernel_rfl
  i127 := by kernel_rfl
  i143 := by kernel_rfl
  i145 := by kernel_rfl
  i167 := by kernel_rfl
  i168 := by kernel_rfl
  i171 := by kernel_rfl
  i173 := by kernel_rfl
  i175 := by kernel_rfl
  i210 := by kernel_rfl
  i212 := by kernel_rfl
  i232 := by kernel_rfl
  i233 := by kernel_rfl
  m15 := by kernel_rfl
  m16 := by kernel_rfl
  m17 := by kernel_rfl
  m18 := by kernel_rfl
  m19 := by kernel_rfl
  c0 := by kernel_rfl
  c2 := by kernel_rfl
  c3 := by kernel_rfl
  c4 := by kernel_rfl
  c5 := by kernel_rfl
  c9 := by kernel_rfl
  c20 := by kernel_rfl
  c21 := by kernel_rfl
  c37 := by kernel_rfl
  c46 := by kernel_rfl
  c51 := by kernel_rfl
  c53 := by kernel_rfl
  c75 := by kernel_rfl
  c80 := by kernel_rfl
  c85 := by kernel_rfl
  c127 := by kernel_rfl
  c143 := by kernel_rfl
  c145 := by kernel_rfl
  c167 := by kernel_rfl
  c168 := by kernel_rfl
  c171 := by kernel_rfl
  c173 := by kernel_rfl
  c175 := by kernel_rfl
  c210 := by kernel_rfl
  c212 := by kernel_rfl
  c213 := by kernel_rfl
  c232 := by kernel_rfl
  c233 := by kernel_rfl }
end Go.Proofs
namespace Pam
open Go Go.Proofs
theorem lb : LaysC.n174 Tryd.prog Tryd.lays174_ren := Tryd.lays174
end Pam
