/- Facts of the types that the proofs of this seat speak of, read off the program by the kernel. Printed by a program of ours. -/
import Derived.Test.YthafkijdkbmdgaaProg
import Derived.Test.YthafkijdkbmdgaaMBase2
import Derived.Shelf.Lays
import Derived.Shelf.Lays2
import Derived.Test.YthafkijdkbmdgaaMBase3
set_option linter.all false
namespace Pam
open Go Go.Proofs
def tab : Nat → TD
  | 2 => { ok := true, size := 1, bytes := 8, int := true, kind := .i64, zero := some [.int .i64 0] }
  | 3 => { ok := true, size := 1, bytes := 8, int := true, kind := .i64, zero := some [.int .i64 0] }
  | 4 => { ok := true, size := 1, bytes := 1, bool := true, zero := some [.bool false] }
  | 5 => { ok := true, size := 1, bytes := 1, int := true, kind := .u8, zero := some [.int .u8 0] }
  | 9 => { ok := true, size := 1, bytes := 16, str := true, zero := some [.str []] }
  | 22 => { ok := true, size := 1, bytes := 24, sl := true, elem := 50, zero := some [.nils] }
  | 23 => { ok := true, size := 1, bytes := 24, sl := true, elem := 3, zero := some [.nils] }
  | 24 => { ok := true, size := 1, bytes := 24, sl := true, elem := 53, zero := some [.nils] }
  | 26 => { ok := true, size := 4, bytes := 96, agg := true, fs := [(0, 22), (1, 23), (2, 23), (3, 24)], fk := true, zero := some [.nils, .nils, .nils, .nils] }
  | 27 => { ok := true, size := 1, bytes := 24, sl := true, elem := 38, zero := some [.nils] }
  | 32 => { ok := true, size := 1, bytes := 8, int := true, kind := .u64, zero := some [.int .u64 0] }
  | 33 => { ok := true, size := 1, bytes := 8, ptr := true, zero := some [.nilp] }
  | 35 => { ok := true, size := 2, bytes := 16, agg := true, fs := [(0, 3), (1, 3)], fk := true, flat := some [1, 1], zero := some [.int .i64 0, .int .i64 0] }
  | 38 => { ok := true, size := 1, bytes := 24, sl := true, elem := 2, zero := some [.nils] }
  | 50 => { ok := true, size := 2, bytes := 16, agg := true, fs := [(0, 5), (1, 3)], fk := true, flat := some [1, 1], zero := some [.int .u8 0, .int .i64 0] }
  | 51 => { ok := true, size := 1, bytes := 24, sl := true, elem := 100, zero := some [.nils] }
  | 53 => { ok := true, size := 6, bytes := 80, agg := true, fs := [(0, 3), (1, 3), (2, 3), (3, 2), (4, 23), (5, 51)], fk := true, zero := some [.int .i64 0, .int .i64 0, .int .i64 0, .int .i64 0, .nils, .nils] }
  | 57 => { ok := true, size := 1, bytes := 8, zero := some [.junk] }
  | 59 => { ok := true, size := 5, bytes := 104, agg := true, fs := [(0, 26), (4, 57)], fk := true, zero := some [.nils, .nils, .nils, .nils, .junk] }
  | 60 => { ok := true, size := 1, bytes := 8, ptr := true, zero := some [.nilp] }
  | 62 => { ok := true, size := 2, bytes := 32, agg := true, fs := [(0, 33), (1, 27)], fk := true, zero := some [.nilp, .nils] }
  | 66 => { ok := true, size := 1, bytes := 24, sl := true, elem := 4, zero := some [.nils] }
  | 77 => { ok := true, size := 1, bytes := 8, ptr := true, zero := some [.nilp] }
  | 79 => { ok := true, size := 1, bytes := 8, ptr := true, zero := some [.nilp] }
  | 83 => { ok := true, size := 1, bytes := 8, zero := some [.nilf] }
  | 85 => { ok := true, size := 5, bytes := 120, agg := true, fs := [(0, 26), (4, 66)], fk := true, zero := some [.nils, .nils, .nils, .nils, .nils] }
  | 87 => { ok := true, size := 1, bytes := 8, zero := some [.nilf] }
  | 88 => { ok := true, size := 1, bytes := 8, zero := some [.nilf] }
  | 100 => { ok := true, size := 4, bytes := 32, agg := true, fs := [(0, 3), (1, 3), (2, 3), (3, 2)], fk := true, flat := some [1, 1, 1, 1], zero := some [.int .i64 0, .int .i64 0, .int .i64 0, .int .i64 0] }
  | 106 => { ok := true, size := 7, bytes := 152, agg := true, fs := [(0, 26), (4, 27), (5, 27), (6, 3)], fk := true, zero := some [.nils, .nils, .nils, .nils, .nils, .nils, .int .i64 0] }
  | 108 => { ok := true, size := 1, bytes := 8, ptr := true, zero := some [.nilp] }
  | 110 => { ok := true, size := 5, bytes := 104, agg := true, fs := [(0, 26), (4, 3)], fk := true, zero := some [.nils, .nils, .nils, .nils, .int .i64 0] }
  | 117 => { ok := true, size := 6, bytes := 48, agg := true, arr := true, elem := 50, alen := 3, zero := some [.int .u8 0, .int .i64 0, .int .u8 0, .int .i64 0, .int .u8 0, .int .i64 0] }
  | 126 => { ok := true, size := 1, bytes := 24, sl := true, elem := 5, zero := some [.nils] }
  | 129 => { ok := true, size := 17, bytes := 136, agg := true, arr := true, elem := 3, alen := 17, zero := some [.int .i64 0, .int .i64 0, .int .i64 0, .int .i64 0, .int .i64 0, .int .i64 0, .int .i64 0, .int .i64 0, .int .i64 0, .int .i64 0, .int .i64 0, .int .i64 0, .int .i64 0, .int .i64 0, .int .i64 0, .int .i64 0, .int .i64 0] }
  | 136 => { ok := true, size := 1, bytes := 8, int := true, kind := .i64, zero := some [.int .i64 0] }
  | 144 => { ok := true, size := 1, bytes := 4, int := true, kind := .u32, zero := some [.int .u32 0] }
  | 146 => { ok := true, size := 1, bytes := 8, int := true, kind := .u64, zero := some [.int .u64 0] }
  | 151 => { ok := true, size := 1, bytes := 8, int := true, kind := .u64, zero := some [.int .u64 0] }
  | 155 => { ok := true, size := 1, bytes := 8, ptr := true, zero := some [.nilp] }
  | _ => {}
theorem Ci : dB Try.prog 2 (tab 2) :=
  by constructor <;> first | kernel_rfl | exact fun i hi => by simp [tab] at hi
theorem Cj : dB Try.prog 3 (tab 3) :=
  by constructor <;> first | kernel_rfl | exact fun i hi => by simp [tab] at hi
theorem Ck : dB Try.prog 4 (tab 4) :=
  by constructor <;> first | kernel_rfl | exact fun i hi => by simp [tab] at hi
theorem Cl : dB Try.prog 5 (tab 5) :=
  by constructor <;> first | kernel_rfl | exact fun i hi => by simp [tab] at hi
theorem Cm : dB Try.prog 9 (tab 9) :=
  by constructor <;> first | kernel_rfl | exact fun i hi => by simp [tab] at hi
theorem Bp : dB Try.prog 22 (tab 22) :=
  by constructor <;> first | kernel_rfl | exact fun i hi => by simp [tab] at hi
theorem Bq : dB Try.prog 23 (tab 23) :=
  by constructor <;> first | kernel_rfl | exact fun i hi => by simp [tab] at hi
theorem Br : dB Try.prog 24 (tab 24) :=
  by constructor <;> first | kernel_rfl | exact fun i hi => by simp [tab] at hi
theorem Bs : dB Try.prog 26 (tab 26) :=
  ⟨by kernel_rfl, by kernel_rfl, by kernel_rfl, by kernel_rfl, by kernel_rfl, by kernel_rfl, by kernel_rfl, by kernel_rfl, by kernel_rfl, by kernel_rfl, by kernel_rfl, by kernel_rfl, by kernel_rfl, by kernel_rfl, by kernel_rfl, by kernel_rfl, by kernel_rfl,
    fun i hi => by
      have hi : i < 4 := hi
      match i, hi with
      | 0, _ => exact ⟨by kernel_rfl, by kernel_rfl, by kernel_rfl⟩
      | 1, _ => exact ⟨by kernel_rfl, by kernel_rfl, by kernel_rfl⟩
      | 2, _ => exact ⟨by kernel_rfl, by kernel_rfl, by kernel_rfl⟩
      | 3, _ => exact ⟨by kernel_rfl, by kernel_rfl, by kernel_rfl⟩⟩
theorem Bt : dB Try.prog 27 (tab 27) :=
  by constructor <;> first | kernel_rfl | exact fun i hi => by simp [tab] at hi
theorem Bu : dB Try.prog 32 (tab 32) :=
  by constructor <;> first | kernel_rfl | exact fun i hi => by simp [tab] at hi
theorem Bv : dB Try.prog 33 (tab 33) :=
  by constructor <;> first | kernel_rfl | exact fun i hi => by simp [tab] at hi
theorem Bw : dB Try.prog 35 (tab 35) :=
  ⟨by kernel_rfl, by kernel_rfl, by kernel_rfl, by kernel_rfl, by kernel_rfl, by kernel_rfl, by kernel_rfl, by kernel_rfl, by kernel_rfl, by kernel_rfl, by kernel_rfl, by kernel_rfl, by kernel_rfl, by kernel_rfl, by kernel_rfl, by kernel_rfl, by kernel_rfl,
    fun i hi => by
      have hi : i < 2 := hi
      match i, hi with
      | 0, _ => exact ⟨by kernel_rfl, by kernel_rfl, by kernel_rfl⟩
      | 1, _ => exact ⟨by kernel_rfl, by kernel_rfl, by kernel_rfl⟩⟩
theorem By : dB Try.prog 38 (tab 38) :=
  by constructor <;> first | kernel_rfl | exact fun i hi => by simp [tab] at hi
theorem Bz : dB Try.prog 50 (tab 50) :=
  ⟨by kernel_rfl, by kernel_rfl, by kernel_rfl, by kernel_rfl, by kernel_rfl, by kernel_rfl, by kernel_rfl, by kernel_rfl, by kernel_rfl, by kernel_rfl, by kernel_rfl, by kernel_rfl, by kernel_rfl, by kernel_rfl, by kernel_rfl, by kernel_rfl, by kernel_rfl,
    fun i hi => by
      have hi : i < 2 := hi
      match i, hi with
      | 0, _ => exact ⟨by kernel_rfl, by kernel_rfl, by kernel_rfl⟩
      | 1, _ => exact ⟨by kernel_rfl, by kernel_rfl, by kernel_rfl⟩⟩
theorem BA : dB Try.prog 51 (tab 51) :=
  by constructor <;> first | kernel_rfl | exact fun i hi => by simp [tab] at hi
theorem BB : dB Try.prog 53 (tab 53) :=
  ⟨by kernel_rfl, by kernel_rfl, by kernel_rfl, by kernel_rfl, by kernel_rfl, by kernel_rfl, by kernel_rfl, by kernel_rfl, by kernel_rfl, by kernel_rfl, by kernel_rfl, by kernel_rfl, by kernel_rfl, by kernel_rfl, by kernel_rfl, by kernel_rfl, by kernel_rfl,
    fun i hi => by
      have hi : i < 6 := hi
      match i, hi with
      | 0, _ => exact ⟨by kernel_rfl, by kernel_rfl, by kernel_rfl⟩
      | 1, _ => exact ⟨by kernel_rfl, by kernel_rfl, by kernel_rfl⟩
      | 2, _ => exact ⟨by kernel_rfl, by kernel_rfl, by kernel_rfl⟩
      | 3, _ => exact ⟨by kernel_rfl, by kernel_rfl, by kernel_rfl⟩
      | 4, _ => exact ⟨by kernel_rfl, by kernel_rfl, by kernel_rfl⟩
      | 5, _ => exact ⟨by kernel_rfl, by kernel_rfl, by kernel_rfl⟩⟩
theorem BC : dB Try.prog 57 (tab 57) :=
  by constructor <;> first | kernel_rfl | exact fun i hi => by simp [tab] at hi
theorem BD : dB Try.prog 59 (tab 59) :=
  ⟨by kernel_rfl, by kernel_rfl, by kernel_rfl, by kernel_rfl, by kernel_rfl, by kernel_rfl, by kernel_rfl, by kernel_rfl, by kernel_rfl, by kernel_rfl, by kernel_rfl, by kernel_rfl, by kernel_rfl, by kernel_rfl, by kernel_rfl, by kernel_rfl, by kernel_rfl,
    fun i hi => by
      have hi : i < 2 := hi
      match i, hi with
      | 0, _ => exact ⟨by kernel_rfl, by kernel_rfl, by kernel_rfl⟩
      | 1, _ => exact ⟨by kernel_rfl, by kernel_rfl, by kernel_rfl⟩⟩
theorem BE : dB Try.prog 60 (tab 60) :=
  by constructor <;> first | kernel_rfl | exact fun i hi => by simp [tab] at hi
theorem BF : dB Try.prog 62 (tab 62) :=
  ⟨by kernel_rfl, by kernel_rfl, by kernel_rfl, by kernel_rfl, by kernel_rfl, by kernel_rfl, by kernel_rfl, by kernel_rfl, by kernel_rfl, by kernel_rfl, by kernel_rfl, by kernel_rfl, by kernel_rfl, by kernel_rfl, by kernel_rfl, by kernel_rfl, by kernel_rfl,
    fun i hi => by
      have hi : i < 2 := hi
      match i, hi with
      | 0, _ => exact ⟨by kernel_rfl, by kernel_rfl, by kernel_rfl⟩
      | 1, _ => exact ⟨by kernel_rfl, by kernel_rfl, by kernel_rfl⟩⟩
theorem BG : dB Try.prog 66 (tab 66) :=
  by constructor <;> first | kernel_rfl | exact fun i hi => by simp [tab] at hi
theorem BH : dB Try.prog 77 (tab 77) :=
  by constructor <;> first | kernel_rfl | exact fun i hi => by simp [tab] at hi
theorem BI : dB Try.prog 79 (tab 79) :=
  by constructor <;> first | kernel_rfl | exact fun i hi => by simp [tab] at hi
theorem BJ : dB Try.prog 83 (tab 83) :=
  by constructor <;> first | kernel_rfl | exact fun i hi => by simp [tab] at hi
theorem BK : dB Try.prog 85 (tab 85) :=
  ⟨by kernel_rfl, by kernel_rfl, by kernel_rfl, by kernel_rfl, by kernel_rfl, by kernel_rfl, by kernel_rfl, by kernel_rfl, by kernel_rfl, by kernel_rfl, by kernel_rfl, by kernel_rfl, by kernel_rfl, by kernel_rfl, by kernel_rfl, by kernel_rfl, by kernel_rfl,
    fun i hi => by
      have hi : i < 2 := hi
      match i, hi with
      | 0, _ => exact ⟨by kernel_rfl, by kernel_rfl, by kernel_rfl⟩
      | 1, _ => exact ⟨by kernel_rfl, by kernel_rfl, by kernel_rfl⟩⟩
theorem BL : dB Try.prog 87 (tab 87) :=
  by constructor <;> first | kernel_rfl | exact fun i hi => by simp [tab] at hi
theorem BM : dB Try.prog 88 (tab 88) :=
  by constructor <;> first | kernel_rfl | exact fun i hi => by simp [tab] at hi
theorem AL : dB Try.prog 100 (tab 100) :=
  ⟨by kernel_rfl, by kernel_rfl, by kernel_rfl, by kernel_rfl, by kernel_rfl, by kernel_rfl, by kernel_rfl, by kernel_rfl, by kernel_rfl, by kernel_rfl, by kernel_rfl, by kernel_rfl, by kernel_rfl, by kernel_rfl, by kernel_rfl, by kernel_rfl, by kernel_rfl,
    fun i hi => by
      have hi : i < 4 := hi
      match i, hi with
      | 0, _ => exact ⟨by kernel_rfl, by kernel_rfl, by kernel_rfl⟩
      | 1, _ => exact ⟨by kernel_rfl, by kernel_rfl, by kernel_rfl⟩
      | 2, _ => exact ⟨by kernel_rfl, by kernel_rfl, by kernel_rfl⟩
      | 3, _ => exact ⟨by kernel_rfl, by kernel_rfl, by kernel_rfl⟩⟩
theorem AM : dB Try.prog 106 (tab 106) :=
  ⟨by kernel_rfl, by kernel_rfl, by kernel_rfl, by kernel_rfl, by kernel_rfl, by kernel_rfl, by kernel_rfl, by kernel_rfl, by kernel_rfl, by kernel_rfl, by kernel_rfl, by kernel_rfl, by kernel_rfl, by kernel_rfl, by kernel_rfl, by kernel_rfl, by kernel_rfl,
    fun i hi => by
      have hi : i < 4 := hi
      match i, hi with
      | 0, _ => exact ⟨by kernel_rfl, by kernel_rfl, by kernel_rfl⟩
      | 1, _ => exact ⟨by kernel_rfl, by kernel_rfl, by kernel_rfl⟩
      | 2, _ => exact ⟨by kernel_rfl, by kernel_rfl, by kernel_rfl⟩
      | 3, _ => exact ⟨by kernel_rfl, by kernel_rfl, by kernel_rfl⟩⟩
theorem AN : dB Try.prog 108 (tab 108) :=
  by constructor <;> first | kernel_rfl | exact fun i hi => by simp [tab] at hi
theorem AO : dB Try.prog 110 (tab 110) :=
  ⟨by kernel_rfl, by kernel_rfl, by kernel_rfl, by kernel_rfl, by kernel_rfl, by kernel_rfl, by kernel_rfl, by kernel_rfl, by kernel_rfl, by kernel_rfl, by kernel_rfl, by kernel_rfl, by kernel_rfl, by kernel_rfl, by kernel_rfl, by kernel_rfl, by kernel_rfl,
    fun i hi => by
      have hi : i < 2 := hi
      match i, hi with
      | 0, _ => exact ⟨by kernel_rfl, by kernel_rfl, by kernel_rfl⟩
      | 1, _ => exact ⟨by kernel_rfl, by kernel_rfl, by kernel_rfl⟩⟩
theorem AQ : dB Try.prog 117 (tab 117) :=
  by constructor <;> first | kernel_rfl | exact fun i hi => by simp [tab] at hi
theorem AR : dB Try.prog 126 (tab 126) :=
  by constructor <;> first | kernel_rfl | exact fun i hi => by simp [tab] at hi
theorem AS : dB Try.prog 129 (tab 129) :=
  by constructor <;> first | kernel_rfl | exact fun i hi => by simp [tab] at hi
theorem AT : dB Try.prog 136 (tab 136) :=
  by constructor <;> first | kernel_rfl | exact fun i hi => by simp [tab] at hi
theorem AU : dB Try.prog 144 (tab 144) :=
  by constructor <;> first | kernel_rfl | exact fun i hi => by simp [tab] at hi
theorem AV : dB Try.prog 146 (tab 146) :=
  by constructor <;> first | kernel_rfl | exact fun i hi => by simp [tab] at hi
theorem AW : dB Try.prog 151 (tab 151) :=
  by constructor <;> first | kernel_rfl | exact fun i hi => by simp [tab] at hi
theorem AX : dB Try.prog 155 (tab 155) :=
  by constructor <;> first | kernel_rfl | exact fun i hi => by simp [tab] at hi
theorem gC (T : TypeId) (h : (tab T).ok = true) : dB Try.prog T (tab T) := by
  unfold tab at h
  split at h
  · exact Ci
  · exact Cj
  · exact Ck
  · exact Cl
  · exact Cm
  · exact Bp
  · exact Bq
  · exact Br
  · exact Bs
  · exact Bt
  · exact Bu
  · exact Bv
  · exact Bw
  · exact By
  · exact Bz
  · exact BA
  · exact BB
  · exact BC
  · exact BD
  · exact BE
  · exact BF
  · exact BG
  · exact BH
  · exact BI
  · exact BJ
  · exact BK
  · exact BL
  · exact BM
  · exact AL
  · exact AM
  · exact AN
  · exact AO
  · exact AQ
  · exact AR
  · exact AS
  · exact AT
  · exact AU
  · exact AV
  · exact AW
  · exact AX
  · cases h
theorem zE {T : TypeId} (h : (tab T).ok = true) : bw Try.prog T = true := (gC T h).known
theorem BN {T : TypeId} (h : (tab T).ok = true) : (Try.prog.underlying T).isSome = true := (gC T h).und
theorem AY {T : TypeId} (h : (tab T).ok = true) : Try.prog.cellsOf T = (tab T).size := (gC T h).size
theorem zF {T : TypeId} (h : (tab T).ok = true) : Try.prog.bytesOf T = (tab T).bytes := (gC T h).bytes
theorem BO {T : TypeId} (h : (tab T).ok = true) : jz Try.prog T = (tab T).agg := (gC T h).agg
theorem Cn {T : TypeId} (h : (tab T).ok = true) : gq Try.prog T = (tab T).sl := (gC T h).sl
theorem BP {T : TypeId} (h : (tab T).ok = true) : kV Try.prog T = (tab T).arr := (gC T h).arr
theorem BQ {T : TypeId} (h : (tab T).ok = true) : lC Try.prog T = (tab T).str := (gC T h).str
theorem AZ {T : TypeId} (h : (tab T).ok = true) : rj Try.prog T = (tab T).bool := (gC T h).bool
theorem BR {T : TypeId} (h : (tab T).ok = true) : rk Try.prog T = (tab T).int := (gC T h).int
theorem BS {T : TypeId} (h : (tab T).ok = true) : wA Try.prog T = (tab T).ptr := (gC T h).ptr
theorem A3 {T : TypeId} (h : (tab T).ok = true) : Try.prog.elem T = (tab T).elem := (gC T h).elem
theorem A4 {T : TypeId} (h : (tab T).ok = true) : Try.prog.arrayLen T = (tab T).alen := (gC T h).alen
theorem A5 {T : TypeId} (h : (tab T).ok = true) : Try.prog.intKind T = (tab T).kind := (gC T h).kind
theorem Co {T : TypeId} (h : (tab T).ok = true) : ke Try.prog T = (tab T).fk := (gC T h).fk
theorem A6 {T : TypeId} (h : (tab T).ok = true) : jW Try.prog T = (tab T).zero := (gC T h).zero
theorem A7 {T : TypeId} (h : (tab T).ok = true) : uF Try.prog T = (tab T).flat := (gC T h).flat
theorem BT {T : TypeId} {i : Nat} (h : (tab T).ok = true) (hi : i < (tab T).fs.length) : lB Try.prog T i = true := ((gC T h).fld i hi).1
theorem A8 {T : TypeId} {i : Nat} (h : (tab T).ok = true) (hi : i < (tab T).fs.length) : i8 Try.prog T i = ((tab T).fs.getD i (0, 0)).1 := ((gC T h).fld i hi).2.1
theorem BU {T : TypeId} {i : Nat} (h : (tab T).ok = true) (hi : i < (tab T).fs.length) : nl Try.prog T i = ((tab T).fs.getD i (0, 0)).2 := ((gC T h).fld i hi).2.2
def bT := And.intro (And.intro (And.intro (And.intro @zE @BN) (And.intro @AY @zF)) (And.intro (And.intro @BO @Cn) (And.intro @BP @BQ))) (And.intro (And.intro (And.intro @AZ @BR) (And.intro @BS @A3)) (And.intro (And.intro (And.intro @A4 @A5) (And.intro @Co @A6)) (And.intro (And.intro @A7 @BT) (And.intro @A8 @BU))))
end Pam
namespace Go.Proofs
open Go.Shelf
def Try.lays189_ren : Go.Shelf.Ren := ⟨fun | 189 => 80 | 125 => 95 | 257 => 94 | 128 => 118 | 129 => 119 | 294 => 109 | 295 => 110 | 296 => 111 | 297 => 112 | 298 => 113 | 299 => 114 | 216 => 115 | 300 => 116 | 301 => 117 | 328 => 122 | 329 => 123 | 330 => 124 | 331 => 125 | 332 => 126 | 215 => 127 | 343 => 129 | n => n, fun | 28 => 23 | 3 => 3 | 46 => 32 | 0 => 0 | 51 => 144 | 53 => 146 | 4 => 4 | 183 => 137 | 182 => 136 | 131 => 96 | 5 => 5 | 9 => 9 | 218 => 151 | 222 => 155 | 228 => 159 | 229 => 160 | n => n, fun | n => n⟩
theorem Try.lays189 : Go.Proofs.Lays.n189 Try.prog Try.lays189_ren := {
  mixed := by kernel_rfl
  f125 := Try.func95.trans (congrArg some (by kernel_rfl))
  f128 := Try.func118.trans (congrArg some (by kernel_rfl))
  f129 := Try.func119.trans (congrArg some (by kernel_rfl))
  f189 := Try.func80.trans (congrArg some (by kernel_rfl))
  f215 := Try.func127.trans (congrArg some (by kernel_rfl))
  f216 := Try.func115.trans (congrArg some (by kernel_rfl))
  f257 := Try.func94.trans (congrArg some (by kernel_rfl))
  f294 := Try.func109.trans (congrArg some (by kernel_rfl))
  f295 := Try.func110.trans (congrArg some (by kernel_rfl))
  f296 := Try.func111.trans (congrArg some (by kernel_rfl))
  f297 := Try.func112.trans (congrArg some (by kernel_rfl))
  f298 := Try.func113.trans (congrArg some (by kernel_rfl))
  f299 := Try.func114.trans (congrArg some (by kernel_rfl))
  f300 := Try.func116.trans (congrArg some (by kernel_rfl))
  f301 := Try.func117.trans (congrArg some (by kernel_rfl))
  f328 := Try.func122.trans (congrArg some (by kernel_rfl))
  f329 := Try.func123.trans (congrArg some (by kernel_rfl))
  f330 := Try.func124.trans (congrArg some (by kernel_rfl))
  f331 := Try.func125.trans (congrArg some (by kernel_rfl))
  f332 := Try.func126.trans (congrArg some (by kernel_rfl))
  f343 := Try.func129.trans (congrArg some (by kernel_rfl))
  t0 := Try.underlying0
  a0 := Try.isAgg0
  z0 := Try.sizeOf0
  v0 := Try.zeroValue0
  t3 := Try.underlying3
  a3 := Try.isAgg3
  z3 := Try.sizeOf3
  v3 := Try.zeroValue3
  t4 := Try.underlying4
  a4 := Try.isAgg4
  z4 := Try.sizeOf4
  v4 := Try.zeroValue4
  t5 := Try.underlying5
  a5 := Try.isAgg5
  z5 := Try.sizeOf5
  v5 := Try.zeroValue5
  t9 := Try.underlying9
  a9 := Try.isAgg9
  z9 := Try.sizeOf9
  v9 := Try.zeroValue9
  t28 := Try.underlying23
  a28 := Try.isAgg23
  z28 := Try.sizeOf23
  v28 := Try.zeroValue23
  t46 := Try.underlying32
  a46 := Try.isAgg32
  z46 := Try.sizeOf32
  v46 := Try.zeroValue32
  t51 := Try.underlying144
  a51 := Try.isAgg144
  z51 := Try.sizeOf144
  v51 := Try.zeroValue144
  t53 := Try.underlying146
  a53 := Try.isAgg146
  z53 := Try.sizeOf146
  v53 := Try.zeroValue146
  t131 := Try.underlying96
  a131 := Try.isAgg96
  z131 := Try.sizeOf96
  v131 := Try.zeroValue96
  t182 := Try.underlying136
  a182 := Try.isAgg136
  z182 := Try.sizeOf136
  v182 := Try.zeroValue136
  t183 := Try.underlying137
  a183 := Try.isAgg137
  z183 := Try.sizeOf137
  v183 := Try.zeroValue137
  t218 := Try.underlying151
  a218 := Try.isAgg151
  z218 := Try.sizeOf151
  v218 := Try.zeroValue151
  t222 := Try.underlying155
  a222 := Try.isAgg155
  z222 := Try.sizeOf155
  v222 := Try.zeroValue155
  t228 := Try.underlying159
  a228 := Try.isAgg159
  z228 := Try.sizeOf159
  v228 := Try.zeroValue159
  t229 := Try.underlying160
  a229 := Try.isAgg160
  z229 := Try.sizeOf160
  v229 := Try.zeroValue160 }
def Try.laysNm220_ren : Go.Shelf.Ren := ⟨fun | 20 => 81 | n => n, fun | 22 => 23 | 3 => 3 | 4 => 4 | 0 => 0 | n => n, fun | n => n⟩
theorem Try.laysNm220 : Go.Proofs.Lays2.n20 Try.prog Try.laysNm220_ren := {
  mixed := by kernel_rfl
  f20 := Try.func81.trans (congrArg some (by kernel_rfl))
  t0 := Try.underlying0
  a0 := Try.isAgg0
  z0 := Try.sizeOf0
  v0 := Try.zeroValue0
  t3 := Try.underlying3
  a3 := Try.isAgg3
  z3 := Try.sizeOf3
  v3 := Try.zeroValue3
  t4 := Try.underlying4
  a4 := Try.isAgg4
  z4 := Try.sizeOf4
  v4 := Try.zeroValue4
  t22 := Try.underlying23
  a22 := Try.isAgg23
  z22 := Try.sizeOf23
  v22 := Try.zeroValue23
  i3 := by kernel_rfl }
end Go.Proofs
namespace Pam
open Go Go.Proofs
theorem xE : Lays.n189 Try.prog Try.lays189_ren := Try.lays189
theorem ug : Lays2.n20 Try.prog Try.laysNm220_ren := Try.laysNm220
end Pam
namespace Go.Proofs
open Go.Shelf
def Try.laysNm223_ren : Go.Shelf.Ren := ⟨fun | 23 => 43 | n => n, fun | 22 => 23 | 3 => 3 | 4 => 4 | 0 => 0 | n => n, fun | n => n⟩
theorem Try.laysNm223 : Go.Proofs.Lays2.n23 Try.prog Try.laysNm223_ren := {
  mixed := by kernel_rfl
  f23 := Try.func43.trans (congrArg some (by kernel_rfl))
  t0 := Try.underlying0
  a0 := Try.isAgg0
  z0 := Try.sizeOf0
  v0 := Try.zeroValue0
  t3 := Try.underlying3
  a3 := Try.isAgg3
  z3 := Try.sizeOf3
  v3 := Try.zeroValue3
  t4 := Try.underlying4
  a4 := Try.isAgg4
  z4 := Try.sizeOf4
  v4 := Try.zeroValue4
  t22 := Try.underlying23
  a22 := Try.isAgg23
  z22 := Try.sizeOf23
  v22 := Try.zeroValue23
  i3 := by kernel_rfl }
end Go.Proofs
namespace Pam
open Go Go.Proofs
theorem uY : Lays2.n23 Try.prog Try.laysNm223_ren := Try.laysNm223
end Pam
