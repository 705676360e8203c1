/- Facts of the types that the proofs of this seat speak of, read off the program by the kernel. Printed by a program of ours. -/
import Derived.Test.YtiennljikiipoaaProg
import Derived.Test.YtiennljikiipoaaSBase1
set_option linter.all false
namespace Pam
open Go Go.Proofs
def tab : Nat → TD
  | 2 => { ok := true, size := 1, bytes := 8, int := true, kind := .i64, zero := some [.int .i64 0] }
  | 3 => { ok := true, size := 1, bytes := 8, int := true, kind := .i64, zero := some [.int .i64 0] }
  | 4 => { ok := true, size := 1, bytes := 1, bool := true, zero := some [.bool false] }
  | 9 => { ok := true, size := 1, bytes := 16, str := true, zero := some [.str []] }
  | 22 => { ok := true, size := 1, bytes := 24, sl := true, elem := 3, zero := some [.nils] }
  | 23 => { ok := true, size := 1, bytes := 24, sl := true, elem := 57, zero := some [.nils] }
  | 25 => { ok := true, size := 4, bytes := 80, agg := true, fs := [(0, 3), (1, 22), (2, 22), (3, 23)], fk := true, zero := some [.int .i64 0, .nils, .nils, .nils] }
  | 26 => { ok := true, size := 1, bytes := 24, sl := true, elem := 43, zero := some [.nils] }
  | 30 => { ok := true, size := 1, bytes := 24, sl := true, elem := 69, zero := some [.nils] }
  | 32 => { ok := true, size := 7, bytes := 120, agg := true, fs := [(0, 3), (1, 3), (2, 3), (3, 22), (4, 22), (5, 22), (6, 30)], fk := true, zero := some [.int .i64 0, .int .i64 0, .int .i64 0, .nils, .nils, .nils, .nils] }
  | 34 => { ok := true, size := 2, bytes := 16, agg := true, fs := [(0, 3), (1, 3)], fk := true, flat := some [1, 1], zero := some [.int .i64 0, .int .i64 0] }
  | 39 => { ok := true, size := 1, bytes := 8, ptr := true, zero := some [.nilp] }
  | 41 => { ok := true, size := 1, bytes := 8, ptr := true, zero := some [.nilp] }
  | 43 => { ok := true, size := 1, bytes := 24, sl := true, elem := 2, zero := some [.nils] }
  | 49 => { ok := true, size := 5, bytes := 104, agg := true, fs := [(0, 25), (4, 43)], fk := true, zero := some [.int .i64 0, .nils, .nils, .nils, .nils] }
  | 51 => { ok := true, size := 9, bytes := 152, agg := true, fs := [(0, 32), (7, 43), (8, 3)], fk := true, zero := some [.int .i64 0, .int .i64 0, .int .i64 0, .nils, .nils, .nils, .nils, .nils, .int .i64 0] }
  | 54 => { ok := true, size := 4, bytes := 32, agg := true, fs := [(0, 3), (1, 3), (2, 3), (3, 2)], fk := true, flat := some [1, 1, 1, 1], zero := some [.int .i64 0, .int .i64 0, .int .i64 0, .int .i64 0] }
  | 55 => { ok := true, size := 1, bytes := 24, sl := true, elem := 54, zero := some [.nils] }
  | 57 => { ok := true, size := 6, bytes := 80, agg := true, fs := [(0, 3), (1, 3), (2, 3), (3, 3), (4, 55), (5, 55)], fk := true, zero := some [.int .i64 0, .int .i64 0, .int .i64 0, .int .i64 0, .nils, .nils] }
  | 58 => { ok := true, size := 1, bytes := 8, ptr := true, zero := some [.nilp] }
  | 60 => { ok := true, size := 2, bytes := 32, agg := true, fs := [(0, 30), (1, 3)], fk := true, zero := some [.nils, .int .i64 0] }
  | 66 => { ok := true, size := 1, bytes := 24, sl := true, elem := 22, zero := some [.nils] }
  | 69 => { ok := true, size := 6, bytes := 48, agg := true, fs := [(0, 3), (1, 3), (2, 3), (3, 3), (4, 3), (5, 2)], fk := true, flat := some [1, 1, 1, 1, 1, 1], zero := some [.int .i64 0, .int .i64 0, .int .i64 0, .int .i64 0, .int .i64 0, .int .i64 0] }
  | 79 => { ok := true, size := 7, bytes := 120, agg := true, fs := [(0, 32)], fk := true, zero := some [.int .i64 0, .int .i64 0, .int .i64 0, .nils, .nils, .nils, .nils] }
  | 97 => { ok := true, size := 1, bytes := 8, zero := some [.nilf] }
  | _ => {}
theorem wc : eX Try.prog 2 (tab 2) :=
  by constructor <;> first | kernel_rfl | exact fun i hi => by simp [tab] at hi
theorem we : eX Try.prog 3 (tab 3) :=
  by constructor <;> first | kernel_rfl | exact fun i hi => by simp [tab] at hi
theorem wg : eX Try.prog 4 (tab 4) :=
  by constructor <;> first | kernel_rfl | exact fun i hi => by simp [tab] at hi
theorem wh : eX Try.prog 9 (tab 9) :=
  by constructor <;> first | kernel_rfl | exact fun i hi => by simp [tab] at hi
theorem va : eX Try.prog 22 (tab 22) :=
  by constructor <;> first | kernel_rfl | exact fun i hi => by simp [tab] at hi
theorem vc : eX Try.prog 23 (tab 23) :=
  by constructor <;> first | kernel_rfl | exact fun i hi => by simp [tab] at hi
theorem vd : eX Try.prog 25 (tab 25) :=
  ⟨by kernel_rfl, by kernel_rfl, by kernel_rfl, by kernel_rfl, by kernel_rfl, by kernel_rfl, by kernel_rfl, by kernel_rfl, by kernel_rfl, by kernel_rfl, by kernel_rfl, by kernel_rfl, by kernel_rfl, by kernel_rfl, by kernel_rfl, by kernel_rfl, by kernel_rfl,
    fun i hi => by
      have hi : i < 4 := hi
      match i, hi with
      | 0, _ => exact ⟨by kernel_rfl, by kernel_rfl, by kernel_rfl⟩
      | 1, _ => exact ⟨by kernel_rfl, by kernel_rfl, by kernel_rfl⟩
      | 2, _ => exact ⟨by kernel_rfl, by kernel_rfl, by kernel_rfl⟩
      | 3, _ => exact ⟨by kernel_rfl, by kernel_rfl, by kernel_rfl⟩⟩
theorem ve : eX Try.prog 26 (tab 26) :=
  by constructor <;> first | kernel_rfl | exact fun i hi => by simp [tab] at hi
theorem vf : eX Try.prog 30 (tab 30) :=
  by constructor <;> first | kernel_rfl | exact fun i hi => by simp [tab] at hi
theorem vg : eX Try.prog 32 (tab 32) :=
  ⟨by kernel_rfl, by kernel_rfl, by kernel_rfl, by kernel_rfl, by kernel_rfl, by kernel_rfl, by kernel_rfl, by kernel_rfl, by kernel_rfl, by kernel_rfl, by kernel_rfl, by kernel_rfl, by kernel_rfl, by kernel_rfl, by kernel_rfl, by kernel_rfl, by kernel_rfl,
    fun i hi => by
      have hi : i < 7 := hi
      match i, hi with
      | 0, _ => exact ⟨by kernel_rfl, by kernel_rfl, by kernel_rfl⟩
      | 1, _ => exact ⟨by kernel_rfl, by kernel_rfl, by kernel_rfl⟩
      | 2, _ => exact ⟨by kernel_rfl, by kernel_rfl, by kernel_rfl⟩
      | 3, _ => exact ⟨by kernel_rfl, by kernel_rfl, by kernel_rfl⟩
      | 4, _ => exact ⟨by kernel_rfl, by kernel_rfl, by kernel_rfl⟩
      | 5, _ => exact ⟨by kernel_rfl, by kernel_rfl, by kernel_rfl⟩
      | 6, _ => exact ⟨by kernel_rfl, by kernel_rfl, by kernel_rfl⟩⟩
theorem vh : eX Try.prog 34 (tab 34) :=
  ⟨by kernel_rfl, by kernel_rfl, by kernel_rfl, by kernel_rfl, by kernel_rfl, by kernel_rfl, by kernel_rfl, by kernel_rfl, by kernel_rfl, by kernel_rfl, by kernel_rfl, by kernel_rfl, by kernel_rfl, by kernel_rfl, by kernel_rfl, by kernel_rfl, by kernel_rfl,
    fun i hi => by
      have hi : i < 2 := hi
      match i, hi with
      | 0, _ => exact ⟨by kernel_rfl, by kernel_rfl, by kernel_rfl⟩
      | 1, _ => exact ⟨by kernel_rfl, by kernel_rfl, by kernel_rfl⟩⟩
theorem vi : eX Try.prog 39 (tab 39) :=
  by constructor <;> first | kernel_rfl | exact fun i hi => by simp [tab] at hi
theorem vj : eX Try.prog 41 (tab 41) :=
  by constructor <;> first | kernel_rfl | exact fun i hi => by simp [tab] at hi
theorem vl : eX Try.prog 43 (tab 43) :=
  by constructor <;> first | kernel_rfl | exact fun i hi => by simp [tab] at hi
theorem vm : eX Try.prog 49 (tab 49) :=
  ⟨by kernel_rfl, by kernel_rfl, by kernel_rfl, by kernel_rfl, by kernel_rfl, by kernel_rfl, by kernel_rfl, by kernel_rfl, by kernel_rfl, by kernel_rfl, by kernel_rfl, by kernel_rfl, by kernel_rfl, by kernel_rfl, by kernel_rfl, by kernel_rfl, by kernel_rfl,
    fun i hi => by
      have hi : i < 2 := hi
      match i, hi with
      | 0, _ => exact ⟨by kernel_rfl, by kernel_rfl, by kernel_rfl⟩
      | 1, _ => exact ⟨by kernel_rfl, by kernel_rfl, by kernel_rfl⟩⟩
theorem vn : eX Try.prog 51 (tab 51) :=
  ⟨by kernel_rfl, by kernel_rfl, by kernel_rfl, by kernel_rfl, by kernel_rfl, by kernel_rfl, by kernel_rfl, by kernel_rfl, by kernel_rfl, by kernel_rfl, by kernel_rfl, by kernel_rfl, by kernel_rfl, by kernel_rfl, by kernel_rfl, by kernel_rfl, by kernel_rfl,
    fun i hi => by
      have hi : i < 3 := hi
      match i, hi with
      | 0, _ => exact ⟨by kernel_rfl, by kernel_rfl, by kernel_rfl⟩
      | 1, _ => exact ⟨by kernel_rfl, by kernel_rfl, by kernel_rfl⟩
      | 2, _ => exact ⟨by kernel_rfl, by kernel_rfl, by kernel_rfl⟩⟩
theorem vo : eX Try.prog 54 (tab 54) :=
  ⟨by kernel_rfl, by kernel_rfl, by kernel_rfl, by kernel_rfl, by kernel_rfl, by kernel_rfl, by kernel_rfl, by kernel_rfl, by kernel_rfl, by kernel_rfl, by kernel_rfl, by kernel_rfl, by kernel_rfl, by kernel_rfl, by kernel_rfl, by kernel_rfl, by kernel_rfl,
    fun i hi => by
      have hi : i < 4 := hi
      match i, hi with
      | 0, _ => exact ⟨by kernel_rfl, by kernel_rfl, by kernel_rfl⟩
      | 1, _ => exact ⟨by kernel_rfl, by kernel_rfl, by kernel_rfl⟩
      | 2, _ => exact ⟨by kernel_rfl, by kernel_rfl, by kernel_rfl⟩
      | 3, _ => exact ⟨by kernel_rfl, by kernel_rfl, by kernel_rfl⟩⟩
theorem vp : eX Try.prog 55 (tab 55) :=
  by constructor <;> first | kernel_rfl | exact fun i hi => by simp [tab] at hi
theorem vq : eX Try.prog 57 (tab 57) :=
  ⟨by kernel_rfl, by kernel_rfl, by kernel_rfl, by kernel_rfl, by kernel_rfl, by kernel_rfl, by kernel_rfl, by kernel_rfl, by kernel_rfl, by kernel_rfl, by kernel_rfl, by kernel_rfl, by kernel_rfl, by kernel_rfl, by kernel_rfl, by kernel_rfl, by kernel_rfl,
    fun i hi => by
      have hi : i < 6 := hi
      match i, hi with
      | 0, _ => exact ⟨by kernel_rfl, by kernel_rfl, by kernel_rfl⟩
      | 1, _ => exact ⟨by kernel_rfl, by kernel_rfl, by kernel_rfl⟩
      | 2, _ => exact ⟨by kernel_rfl, by kernel_rfl, by kernel_rfl⟩
      | 3, _ => exact ⟨by kernel_rfl, by kernel_rfl, by kernel_rfl⟩
      | 4, _ => exact ⟨by kernel_rfl, by kernel_rfl, by kernel_rfl⟩
      | 5, _ => exact ⟨by kernel_rfl, by kernel_rfl, by kernel_rfl⟩⟩
theorem vr : eX Try.prog 58 (tab 58) :=
  by constructor <;> first | kernel_rfl | exact fun i hi => by simp [tab] at hi
theorem vt : eX Try.prog 60 (tab 60) :=
  ⟨by kernel_rfl, by kernel_rfl, by kernel_rfl, by kernel_rfl, by kernel_rfl, by kernel_rfl, by kernel_rfl, by kernel_rfl, by kernel_rfl, by kernel_rfl, by kernel_rfl, by kernel_rfl, by kernel_rfl, by kernel_rfl, by kernel_rfl, by kernel_rfl, by kernel_rfl,
    fun i hi => by
      have hi : i < 2 := hi
      match i, hi with
      | 0, _ => exact ⟨by kernel_rfl, by kernel_rfl, by kernel_rfl⟩
      | 1, _ => exact ⟨by kernel_rfl, by kernel_rfl, by kernel_rfl⟩⟩
theorem vu : eX Try.prog 66 (tab 66) :=
  by constructor <;> first | kernel_rfl | exact fun i hi => by simp [tab] at hi
theorem vv : eX Try.prog 69 (tab 69) :=
  ⟨by kernel_rfl, by kernel_rfl, by kernel_rfl, by kernel_rfl, by kernel_rfl, by kernel_rfl, by kernel_rfl, by kernel_rfl, by kernel_rfl, by kernel_rfl, by kernel_rfl, by kernel_rfl, by kernel_rfl, by kernel_rfl, by kernel_rfl, by kernel_rfl, by kernel_rfl,
    fun i hi => by
      have hi : i < 6 := hi
      match i, hi with
      | 0, _ => exact ⟨by kernel_rfl, by kernel_rfl, by kernel_rfl⟩
      | 1, _ => exact ⟨by kernel_rfl, by kernel_rfl, by kernel_rfl⟩
      | 2, _ => exact ⟨by kernel_rfl, by kernel_rfl, by kernel_rfl⟩
      | 3, _ => exact ⟨by kernel_rfl, by kernel_rfl, by kernel_rfl⟩
      | 4, _ => exact ⟨by kernel_rfl, by kernel_rfl, by kernel_rfl⟩
      | 5, _ => exact ⟨by kernel_rfl, by kernel_rfl, by kernel_rfl⟩⟩
theorem vw : eX Try.prog 79 (tab 79) :=
  ⟨by kernel_rfl, by kernel_rfl, by kernel_rfl, by kernel_rfl, by kernel_rfl, by kernel_rfl, by kernel_rfl, by kernel_rfl, by kernel_rfl, by kernel_rfl, by kernel_rfl, by kernel_rfl, by kernel_rfl, by kernel_rfl, by kernel_rfl, by kernel_rfl, by kernel_rfl,
    fun i hi => by
      have hi : i < 1 := hi
      match i, hi with
      | 0, _ => exact ⟨by kernel_rfl, by kernel_rfl, by kernel_rfl⟩⟩
theorem vx : eX Try.prog 97 (tab 97) :=
  by constructor <;> first | kernel_rfl | exact fun i hi => by simp [tab] at hi
theorem eH (T : TypeId) (h : (tab T).ok = true) : eX Try.prog T (tab T) := by
  unfold tab at h
  split at h
  · exact wc
  · exact we
  · exact wg
  · exact wh
  · exact va
  · exact vc
  · exact vd
  · exact ve
  · exact vf
  · exact vg
  · exact vh
  · exact vi
  · exact vj
  · exact vl
  · exact vm
  · exact vn
  · exact vo
  · exact vp
  · exact vq
  · exact vr
  · exact vt
  · exact vu
  · exact vv
  · exact vw
  · exact vx
  · cases h
theorem tz {T : TypeId} (h : (tab T).ok = true) : be Try.prog T = true := (eH T h).known
theorem vy {T : TypeId} (h : (tab T).ok = true) : (Try.prog.underlying T).isSome = true := (eH T h).und
theorem uF {T : TypeId} (h : (tab T).ok = true) : Try.prog.cellsOf T = (tab T).size := (eH T h).size
theorem tA {T : TypeId} (h : (tab T).ok = true) : Try.prog.bytesOf T = (tab T).bytes := (eH T h).bytes
theorem vz {T : TypeId} (h : (tab T).ok = true) : gT Try.prog T = (tab T).agg := (eH T h).agg
theorem wi {T : TypeId} (h : (tab T).ok = true) : eD Try.prog T = (tab T).sl := (eH T h).sl
theorem vA {T : TypeId} (h : (tab T).ok = true) : kd Try.prog T = (tab T).arr := (eH T h).arr
theorem vB {T : TypeId} (h : (tab T).ok = true) : i6 Try.prog T = (tab T).str := (eH T h).str
theorem uG {T : TypeId} (h : (tab T).ok = true) : mZ Try.prog T = (tab T).bool := (eH T h).bool
theorem vC {T : TypeId} (h : (tab T).ok = true) : m0 Try.prog T = (tab T).int := (eH T h).int
theorem vD {T : TypeId} (h : (tab T).ok = true) : qM Try.prog T = (tab T).ptr := (eH T h).ptr
theorem uH {T : TypeId} (h : (tab T).ok = true) : Try.prog.elem T = (tab T).elem := (eH T h).elem
theorem uI {T : TypeId} (h : (tab T).ok = true) : Try.prog.arrayLen T = (tab T).alen := (eH T h).alen
theorem uJ {T : TypeId} (h : (tab T).ok = true) : Try.prog.intKind T = (tab T).kind := (eH T h).kind
theorem wj {T : TypeId} (h : (tab T).ok = true) : ir Try.prog T = (tab T).fk := (eH T h).fk
theorem uK {T : TypeId} (h : (tab T).ok = true) : hQ Try.prog T = (tab T).zero := (eH T h).zero
theorem uL {T : TypeId} (h : (tab T).ok = true) : po Try.prog T = (tab T).flat := (eH T h).flat
theorem vE {T : TypeId} {i : Nat} (h : (tab T).ok = true) (hi : i < (tab T).fs.length) : i5 Try.prog T i = true := ((eH T h).fld i hi).1
theorem uM {T : TypeId} {i : Nat} (h : (tab T).ok = true) (hi : i < (tab T).fs.length) : gk Try.prog T i = ((tab T).fs.getD i (0, 0)).1 := ((eH T h).fld i hi).2.1
theorem vF {T : TypeId} {i : Nat} (h : (tab T).ok = true) (hi : i < (tab T).fs.length) : kc Try.prog T i = ((tab T).fs.getD i (0, 0)).2 := ((eH T h).fld i hi).2.2
def bT := And.intro (And.intro (And.intro (And.intro @tz @vy) (And.intro @uF @tA)) (And.intro (And.intro @vz @wi) (And.intro @vA @vB))) (And.intro (And.intro (And.intro @uG @vC) (And.intro @vD @uH)) (And.intro (And.intro (And.intro @uI @uJ) (And.intro @wj @uK)) (And.intro (And.intro @uL @vE) (And.intro @uM @vF))))
end Pam
