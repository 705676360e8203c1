/- Facts of the types that the proofs of this seat speak of, read off the program by the kernel. Printed by a program of ours. -/
import Derived.Test.YtjmjabdmmlgenaaProg
import Derived.Test.YtjmjabdmmlgenaaTornBase1
set_option linter.all false
namespace Pam
open Go Go.Proofs
def tab : Nat → TD
  | 2 => { ok := true, size := 1, bytes := 8, int := true, kind := .i64, zero := some [.int .i64 0] }
  | 3 => { ok := true, size := 1, bytes := 8, int := true, kind := .i64, zero := some [.int .i64 0] }
  | 4 => { ok := true, size := 1, bytes := 1, bool := true, zero := some [.bool false] }
  | 5 => { ok := true, size := 1, bytes := 1, int := true, kind := .u8, zero := some [.int .u8 0] }
  | 9 => { ok := true, size := 1, bytes := 16, str := true, zero := some [.str []] }
  | 22 => { ok := true, size := 1, bytes := 24, sl := true, elem := 3, zero := some [.nils] }
  | 23 => { ok := true, size := 1, bytes := 24, sl := true, elem := 50, zero := some [.nils] }
  | 25 => { ok := true, size := 7, bytes := 120, agg := true, fs := [(0, 3), (1, 3), (2, 3), (3, 22), (4, 22), (5, 22), (6, 23)], fk := true, zero := some [.int .i64 0, .int .i64 0, .int .i64 0, .nils, .nils, .nils, .nils] }
  | 26 => { ok := true, size := 1, bytes := 24, sl := true, elem := 5, zero := some [.nils] }
  | 31 => { ok := true, size := 2, bytes := 16, agg := true, fs := [(0, 3), (1, 3)], fk := true, flat := some [1, 1], zero := some [.int .i64 0, .int .i64 0] }
  | 38 => { ok := true, size := 1, bytes := 4, int := true, kind := .u32, zero := some [.int .u32 0] }
  | 42 => { ok := true, size := 1, bytes := 8, int := true, kind := .u64, zero := some [.int .u64 0] }
  | 44 => { ok := true, size := 1, bytes := 8, ptr := true, zero := some [.nilp] }
  | 46 => { ok := true, size := 1, bytes := 24, agg := true, fs := [(0, 26)], fk := true, zero := some [.nils] }
  | 50 => { ok := true, size := 6, bytes := 48, agg := true, fs := [(0, 3), (1, 3), (2, 3), (3, 3), (4, 3), (5, 2)], fk := true, flat := some [1, 1, 1, 1, 1, 1], zero := some [.int .i64 0, .int .i64 0, .int .i64 0, .int .i64 0, .int .i64 0, .int .i64 0] }
  | 51 => { ok := true, size := 2, bytes := 16, agg := true, fs := [(0, 3), (1, 3)], fk := true, flat := some [1, 1], zero := some [.int .i64 0, .int .i64 0] }
  | 53 => { ok := true, size := 1, bytes := 8, ptr := true, zero := some [.nilp] }
  | 55 => { ok := true, size := 2, bytes := 32, agg := true, fs := [(0, 26), (1, 3)], fk := true, zero := some [.nils, .int .i64 0] }
  | 58 => { ok := true, size := 1, bytes := 24, sl := true, elem := 22, zero := some [.nils] }
  | 61 => { ok := true, size := 1, bytes := 8, ptr := true, zero := some [.nilp] }
  | 63 => { ok := true, size := 4, bytes := 48, agg := true, fs := [(0, 26), (1, 3), (2, 31)], fk := true, zero := some [.nils, .int .i64 0, .int .i64 0, .int .i64 0] }
  | 70 => { ok := true, size := 1, bytes := 24, sl := true, elem := 2, zero := some [.nils] }
  | 72 => { ok := true, size := 7, bytes := 120, agg := true, fs := [(0, 25)], fk := true, zero := some [.int .i64 0, .int .i64 0, .int .i64 0, .nils, .nils, .nils, .nils] }
  | 74 => { ok := true, size := 1, bytes := 8, int := true, kind := .u64, zero := some [.int .u64 0] }
  | 83 => { ok := true, size := 1, bytes := 8, zero := some [.nilf] }
  | _ => {}
theorem qL : c9 Try.prog 2 (tab 2) :=
  by constructor <;> first | kernel_rfl | exact fun i hi => by simp [tab] at hi
theorem qM : c9 Try.prog 3 (tab 3) :=
  by constructor <;> first | kernel_rfl | exact fun i hi => by simp [tab] at hi
theorem qN : c9 Try.prog 4 (tab 4) :=
  by constructor <;> first | kernel_rfl | exact fun i hi => by simp [tab] at hi
theorem qO : c9 Try.prog 5 (tab 5) :=
  by constructor <;> first | kernel_rfl | exact fun i hi => by simp [tab] at hi
theorem qP : c9 Try.prog 9 (tab 9) :=
  by constructor <;> first | kernel_rfl | exact fun i hi => by simp [tab] at hi
theorem pX : c9 Try.prog 22 (tab 22) :=
  by constructor <;> first | kernel_rfl | exact fun i hi => by simp [tab] at hi
theorem pY : c9 Try.prog 23 (tab 23) :=
  by constructor <;> first | kernel_rfl | exact fun i hi => by simp [tab] at hi
theorem pZ : c9 Try.prog 25 (tab 25) :=
  ⟨by kernel_rfl, by kernel_rfl, by kernel_rfl, by kernel_rfl, by kernel_rfl, by kernel_rfl, by kernel_rfl, by kernel_rfl, by kernel_rfl, by kernel_rfl, by kernel_rfl, by kernel_rfl, by kernel_rfl, by kernel_rfl, by kernel_rfl, by kernel_rfl, by kernel_rfl,
    fun i hi => by
      have hi : i < 7 := hi
      match i, hi with
      | 0, _ => exact ⟨by kernel_rfl, by kernel_rfl, by kernel_rfl⟩
      | 1, _ => exact ⟨by kernel_rfl, by kernel_rfl, by kernel_rfl⟩
      | 2, _ => exact ⟨by kernel_rfl, by kernel_rfl, by kernel_rfl⟩
      | 3, _ => exact ⟨by kernel_rfl, by kernel_rfl, by kernel_rfl⟩
      | 4, _ => exact ⟨by kernel_rfl, by kernel_rfl, by kernel_rfl⟩
      | 5, _ => exact ⟨by kernel_rfl, by kernel_rfl, by kernel_rfl⟩
      | 6, _ => exact ⟨by kernel_rfl, by kernel_rfl, by kernel_rfl⟩⟩
theorem p5 : c9 Try.prog 26 (tab 26) :=
  by constructor <;> first | kernel_rfl | exact fun i hi => by simp [tab] at hi
theorem p6 : c9 Try.prog 31 (tab 31) :=
  ⟨by kernel_rfl, by kernel_rfl, by kernel_rfl, by kernel_rfl, by kernel_rfl, by kernel_rfl, by kernel_rfl, by kernel_rfl, by kernel_rfl, by kernel_rfl, by kernel_rfl, by kernel_rfl, by kernel_rfl, by kernel_rfl, by kernel_rfl, by kernel_rfl, by kernel_rfl,
    fun i hi => by
      have hi : i < 2 := hi
      match i, hi with
      | 0, _ => exact ⟨by kernel_rfl, by kernel_rfl, by kernel_rfl⟩
      | 1, _ => exact ⟨by kernel_rfl, by kernel_rfl, by kernel_rfl⟩⟩
theorem p7 : c9 Try.prog 38 (tab 38) :=
  by constructor <;> first | kernel_rfl | exact fun i hi => by simp [tab] at hi
theorem p8 : c9 Try.prog 42 (tab 42) :=
  by constructor <;> first | kernel_rfl | exact fun i hi => by simp [tab] at hi
theorem p9 : c9 Try.prog 44 (tab 44) :=
  by constructor <;> first | kernel_rfl | exact fun i hi => by simp [tab] at hi
theorem qa : c9 Try.prog 46 (tab 46) :=
  ⟨by kernel_rfl, by kernel_rfl, by kernel_rfl, by kernel_rfl, by kernel_rfl, by kernel_rfl, by kernel_rfl, by kernel_rfl, by kernel_rfl, by kernel_rfl, by kernel_rfl, by kernel_rfl, by kernel_rfl, by kernel_rfl, by kernel_rfl, by kernel_rfl, by kernel_rfl,
    fun i hi => by
      have hi : i < 1 := hi
      match i, hi with
      | 0, _ => exact ⟨by kernel_rfl, by kernel_rfl, by kernel_rfl⟩⟩
theorem qb : c9 Try.prog 50 (tab 50) :=
  ⟨by kernel_rfl, by kernel_rfl, by kernel_rfl, by kernel_rfl, by kernel_rfl, by kernel_rfl, by kernel_rfl, by kernel_rfl, by kernel_rfl, by kernel_rfl, by kernel_rfl, by kernel_rfl, by kernel_rfl, by kernel_rfl, by kernel_rfl, by kernel_rfl, by kernel_rfl,
    fun i hi => by
      have hi : i < 6 := hi
      match i, hi with
      | 0, _ => exact ⟨by kernel_rfl, by kernel_rfl, by kernel_rfl⟩
      | 1, _ => exact ⟨by kernel_rfl, by kernel_rfl, by kernel_rfl⟩
      | 2, _ => exact ⟨by kernel_rfl, by kernel_rfl, by kernel_rfl⟩
      | 3, _ => exact ⟨by kernel_rfl, by kernel_rfl, by kernel_rfl⟩
      | 4, _ => exact ⟨by kernel_rfl, by kernel_rfl, by kernel_rfl⟩
      | 5, _ => exact ⟨by kernel_rfl, by kernel_rfl, by kernel_rfl⟩⟩
theorem qc : c9 Try.prog 51 (tab 51) :=
  ⟨by kernel_rfl, by kernel_rfl, by kernel_rfl, by kernel_rfl, by kernel_rfl, by kernel_rfl, by kernel_rfl, by kernel_rfl, by kernel_rfl, by kernel_rfl, by kernel_rfl, by kernel_rfl, by kernel_rfl, by kernel_rfl, by kernel_rfl, by kernel_rfl, by kernel_rfl,
    fun i hi => by
      have hi : i < 2 := hi
      match i, hi with
      | 0, _ => exact ⟨by kernel_rfl, by kernel_rfl, by kernel_rfl⟩
      | 1, _ => exact ⟨by kernel_rfl, by kernel_rfl, by kernel_rfl⟩⟩
theorem qd : c9 Try.prog 53 (tab 53) :=
  by constructor <;> first | kernel_rfl | exact fun i hi => by simp [tab] at hi
theorem qe : c9 Try.prog 55 (tab 55) :=
  ⟨by kernel_rfl, by kernel_rfl, by kernel_rfl, by kernel_rfl, by kernel_rfl, by kernel_rfl, by kernel_rfl, by kernel_rfl, by kernel_rfl, by kernel_rfl, by kernel_rfl, by kernel_rfl, by kernel_rfl, by kernel_rfl, by kernel_rfl, by kernel_rfl, by kernel_rfl,
    fun i hi => by
      have hi : i < 2 := hi
      match i, hi with
      | 0, _ => exact ⟨by kernel_rfl, by kernel_rfl, by kernel_rfl⟩
      | 1, _ => exact ⟨by kernel_rfl, by kernel_rfl, by kernel_rfl⟩⟩
theorem qf : c9 Try.prog 58 (tab 58) :=
  by constructor <;> first | kernel_rfl | exact fun i hi => by simp [tab] at hi
theorem qg : c9 Try.prog 61 (tab 61) :=
  by constructor <;> first | kernel_rfl | exact fun i hi => by simp [tab] at hi
theorem qh : c9 Try.prog 63 (tab 63) :=
  ⟨by kernel_rfl, by kernel_rfl, by kernel_rfl, by kernel_rfl, by kernel_rfl, by kernel_rfl, by kernel_rfl, by kernel_rfl, by kernel_rfl, by kernel_rfl, by kernel_rfl, by kernel_rfl, by kernel_rfl, by kernel_rfl, by kernel_rfl, by kernel_rfl, by kernel_rfl,
    fun i hi => by
      have hi : i < 3 := hi
      match i, hi with
      | 0, _ => exact ⟨by kernel_rfl, by kernel_rfl, by kernel_rfl⟩
      | 1, _ => exact ⟨by kernel_rfl, by kernel_rfl, by kernel_rfl⟩
      | 2, _ => exact ⟨by kernel_rfl, by kernel_rfl, by kernel_rfl⟩⟩
theorem qj : c9 Try.prog 70 (tab 70) :=
  by constructor <;> first | kernel_rfl | exact fun i hi => by simp [tab] at hi
theorem qk : c9 Try.prog 72 (tab 72) :=
  ⟨by kernel_rfl, by kernel_rfl, by kernel_rfl, by kernel_rfl, by kernel_rfl, by kernel_rfl, by kernel_rfl, by kernel_rfl, by kernel_rfl, by kernel_rfl, by kernel_rfl, by kernel_rfl, by kernel_rfl, by kernel_rfl, by kernel_rfl, by kernel_rfl, by kernel_rfl,
    fun i hi => by
      have hi : i < 1 := hi
      match i, hi with
      | 0, _ => exact ⟨by kernel_rfl, by kernel_rfl, by kernel_rfl⟩⟩
theorem ql : c9 Try.prog 74 (tab 74) :=
  by constructor <;> first | kernel_rfl | exact fun i hi => by simp [tab] at hi
theorem qm : c9 Try.prog 83 (tab 83) :=
  by constructor <;> first | kernel_rfl | exact fun i hi => by simp [tab] at hi
theorem cQ (T : TypeId) (h : (tab T).ok = true) : c9 Try.prog T (tab T) := by
  unfold tab at h
  split at h
  · exact qL
  · exact qM
  · exact qN
  · exact qO
  · exact qP
  · exact pX
  · exact pY
  · exact pZ
  · exact p5
  · exact p6
  · exact p7
  · exact p8
  · exact p9
  · exact qa
  · exact qb
  · exact qc
  · exact qd
  · exact qe
  · exact qf
  · exact qg
  · exact qh
  · exact qj
  · exact qk
  · exact ql
  · exact qm
  · cases h
theorem oI {T : TypeId} (h : (tab T).ok = true) : aK Try.prog T = true := (cQ T h).known
theorem qn {T : TypeId} (h : (tab T).ok = true) : (Try.prog.underlying T).isSome = true := (cQ T h).und
theorem pD {T : TypeId} (h : (tab T).ok = true) : Try.prog.cellsOf T = (tab T).size := (cQ T h).size
theorem oJ {T : TypeId} (h : (tab T).ok = true) : Try.prog.bytesOf T = (tab T).bytes := (cQ T h).bytes
theorem qo {T : TypeId} (h : (tab T).ok = true) : ep Try.prog T = (tab T).agg := (cQ T h).agg
theorem qQ {T : TypeId} (h : (tab T).ok = true) : cO Try.prog T = (tab T).sl := (cQ T h).sl
theorem qp {T : TypeId} (h : (tab T).ok = true) : gV Try.prog T = (tab T).arr := (cQ T h).arr
theorem qq {T : TypeId} (h : (tab T).ok = true) : e8 Try.prog T = (tab T).str := (cQ T h).str
theorem pE {T : TypeId} (h : (tab T).ok = true) : jC Try.prog T = (tab T).bool := (cQ T h).bool
theorem qr {T : TypeId} (h : (tab T).ok = true) : kt Try.prog T = (tab T).int := (cQ T h).int
theorem qs {T : TypeId} (h : (tab T).ok = true) : mz Try.prog T = (tab T).ptr := (cQ T h).ptr
theorem pF {T : TypeId} (h : (tab T).ok = true) : Try.prog.elem T = (tab T).elem := (cQ T h).elem
theorem pG {T : TypeId} (h : (tab T).ok = true) : Try.prog.arrayLen T = (tab T).alen := (cQ T h).alen
theorem pH {T : TypeId} (h : (tab T).ok = true) : Try.prog.intKind T = (tab T).kind := (cQ T h).kind
theorem qR {T : TypeId} (h : (tab T).ok = true) : eW Try.prog T = (tab T).fk := (cQ T h).fk
theorem pI {T : TypeId} (h : (tab T).ok = true) : fI Try.prog T = (tab T).zero := (cQ T h).zero
theorem pJ {T : TypeId} (h : (tab T).ok = true) : ln Try.prog T = (tab T).flat := (cQ T h).flat
theorem qt {T : TypeId} {i : Nat} (h : (tab T).ok = true) (hi : i < (tab T).fs.length) : fH Try.prog T i = true := ((cQ T h).fld i hi).1
theorem pK {T : TypeId} {i : Nat} (h : (tab T).ok = true) (hi : i < (tab T).fs.length) : dV Try.prog T i = ((tab T).fs.getD i (0, 0)).1 := ((cQ T h).fld i hi).2.1
theorem qu {T : TypeId} {i : Nat} (h : (tab T).ok = true) (hi : i < (tab T).fs.length) : gU Try.prog T i = ((tab T).fs.getD i (0, 0)).2 := ((cQ T h).fld i hi).2.2
def bT := And.intro (And.intro (And.intro (And.intro @oI @qn) (And.intro @pD @oJ)) (And.intro (And.intro @qo @qQ) (And.intro @qp @qq))) (And.intro (And.intro (And.intro @pE @qr) (And.intro @qs @pF)) (And.intro (And.intro (And.intro @pG @pH) (And.intro @qR @pI)) (And.intro (And.intro @pJ @qt) (And.intro @pK @qu))))
end Pam
