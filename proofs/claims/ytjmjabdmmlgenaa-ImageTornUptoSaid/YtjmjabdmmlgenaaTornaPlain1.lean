/- The sum of bytes: one byte that is another one changes it. -/
import Derived.Test.YtjmjabdmmlgenaaTornaFun1
import Derived.Laws.Bits64b
import Derived.Test.YtjmjabdmmlgenaaTornWide1
set_option linter.all false
namespace Pam
open Go
theorem mS (a b : Nat) (ha : a < 4294967296) (hb : b < 4294967296) : bits .xor .u32 (a : Int) (b : Int) = ((a ^^^ b : Nat) : Int) := by
 have hx : a ^^^ b < 2 ^ 32 := Nat.xor_lt_two_pow (by omega) (by omega)
 have h1 : (BitVec.ofInt 32 (a : Int)).toNat = a := by
  rw [BitVec.ofInt_natCast, BitVec.toNat_ofNat]; exact Nat.mod_eq_of_lt (by omega)
 have h2 : (BitVec.ofInt 32 (b : Int)).toNat = b := by
  rw [BitVec.ofInt_natCast, BitVec.toNat_ofNat]; exact Nat.mod_eq_of_lt (by omega)
 show IntKind.u32.wrap ((BitVec.ofInt 32 (a : Int) ^^^ BitVec.ofInt 32 (b : Int)).toNat : Int) = _
 rw [BitVec.toNat_xor, h1, h2, IntKind.wrap_u32]
 omega
theorem qH (a b : Nat) (ha : a < 4294967296) (hb : b < 4294967296) : bits .and .u32 (a : Int) (b : Int) = ((a &&& b : Nat) : Int) := by
 have hx : a &&& b < 2 ^ 32 := Nat.and_lt_two_pow _ (by omega)
 have h1 : (BitVec.ofInt 32 (a : Int)).toNat = a := by
  rw [BitVec.ofInt_natCast, BitVec.toNat_ofNat]; exact Nat.mod_eq_of_lt (by omega)
 have h2 : (BitVec.ofInt 32 (b : Int)).toNat = b := by
  rw [BitVec.ofInt_natCast, BitVec.toNat_ofNat]; exact Nat.mod_eq_of_lt (by omega)
 show IntKind.u32.wrap ((BitVec.ofInt 32 (a : Int) &&& BitVec.ofInt 32 (b : Int)).toNat : Int) = _
 rw [BitVec.toNat_and, h1, h2, IntKind.wrap_u32]
 omega
def gh (c : Nat) : Nat := c / 2 ^^^ (if c % 2 = 1 then 3988292384 else 0)
theorem j9 {c : Nat} (h : c < 4294967296) : gh c < 4294967296 := by
 unfold gh
 have : (c / 2 ^^^ (if c % 2 = 1 then 3988292384 else 0)) < 2 ^ 32 := Nat.xor_lt_two_pow (by omega) (by split <;> omega)
 omega
theorem kM {c : Nat} (h : c < 4294967296) : (gh c).testBit 31 = decide (c % 2 = 1) := by
 unfold gh
 rw [Nat.testBit_xor, Nat.testBit_lt_two_pow (by omega : c / 2 < 2 ^ 31)]
 by_cases e : c % 2 = 1
 ·rw [iP e, dT e]; decide
 ·rw [iN e, dF e]; decide
theorem nq {c d : Nat} (hc : c < 4294967296) (hd : d < 4294967296) (h : gh c = gh d) : c = d := by
 have h1 := kM hc
 rw [h, kM hd] at h1
 have h2 : (d % 2 = 1) ↔ (c % 2 = 1) := by simpa using h1
 have h3 : c / 2 = d / 2 := by
  unfold gh at h
  by_cases e : c % 2 = 1
  ·rw [iP e, iP (h2.2 e)] at h
   have := congrArg (· ^^^ 3988292384) h
   simpa [Nat.xor_assoc] using this
  ·rw [iN e, iN (fun hh => e (h2.1 hh))] at h
   simpa using h
 omega
theorem o7 (c : Nat) (h : c < 4294967296) :
  bits .xor .u32 ((c : Int).fdiv (2 ^ (min 1 (IntKind.bits .u32)))) (bits .and .u32 3988292384 (IntKind.wrap .u32 (0 - (bits .and .u32 (c : Int) 1)))) = (gh c : Int) := by
 have e1 : bits .and .u32 (c : Int) 1 = ((c % 2 : Nat) : Int) := by
  have := qH c 1 h (by decide)
  rw [Nat.and_one_is_mod] at this
  exact this
 have e2 : (c : Int).fdiv (2 ^ (min 1 (IntKind.bits .u32))) = ((c / 2 : Nat) : Int) := by
  show (c : Int).fdiv (2 ^ 1) = _
  rw [Int.fdiv_eq_ediv_of_nonneg _ (by decide)]
  omega
 rw [e1, e2]
 by_cases e : c % 2 = 1
 ·have e3 : IntKind.wrap .u32 (0 - ((c % 2 : Nat) : Int)) = ((4294967295 : Nat) : Int) := by rw [e]; decide
  have e4 : bits .and .u32 3988292384 ((4294967295 : Nat) : Int) = ((3988292384 : Nat) : Int) := by decide
  rw [e3, e4, mS _ _ (by omega) (by decide)]
  unfold gh
  rw [iP e]
 ·have e0 : c % 2 = 0 := by omega
  have e3 : IntKind.wrap .u32 (0 - ((c % 2 : Nat) : Int)) = ((0 : Nat) : Int) := by rw [e0]; decide
  have e4 : bits .and .u32 3988292384 ((0 : Nat) : Int) = ((0 : Nat) : Int) := by decide
  rw [e3, e4, mS _ _ (by omega) (by decide)]
  unfold gh
  rw [iN e]
def e7 : Nat → Nat → Nat
 | 0, c => c
 | k + 1, c => e7 k (gh c)
theorem jf : ∀ (k c : Nat), c < 4294967296 → e7 k c < 4294967296
 | 0, _, h => h
 | k + 1, c, h => jf k _ (j9 h)
theorem iI : ∀ (k : Nat) {c d : Nat}, c < 4294967296 → d < 4294967296 → e7 k c = e7 k d → c = d
 | 0, _, _, _, _, h => h
 | k + 1, c, d, hc, hd, h => nq hc hd (iI k (j9 hc) (j9 hd) h)
def mr (c : Nat) (x : Nat) : Nat := e7 8 (c ^^^ x)
theorem hY {c x : Nat} (hc : c < 4294967296) (hx : x < 256) : mr c x < 4294967296 := by
 have : c ^^^ x < 2 ^ 32 := Nat.xor_lt_two_pow (by omega) (by omega)
 exact jf _ _ (by omega)
theorem nr {c d x : Nat} (hc : c < 4294967296) (hd : d < 4294967296) (hx : x < 256) (h : mr c x = mr d x) : c = d := by
 have h1 : c ^^^ x < 2 ^ 32 := Nat.xor_lt_two_pow (by omega) (by omega)
 have h2 : d ^^^ x < 2 ^ 32 := Nat.xor_lt_two_pow (by omega) (by omega)
 have := iI 8 (by omega) (by omega) h
 have := congrArg (· ^^^ x) this
 simpa [Nat.xor_assoc] using this
theorem nt {c x y : Nat} (hc : c < 4294967296) (hx : x < 256) (hy : y < 256) (h : mr c x = mr c y) : x = y := by
 have h1 : c ^^^ x < 2 ^ 32 := Nat.xor_lt_two_pow (by omega) (by omega)
 have h2 : c ^^^ y < 2 ^ 32 := Nat.xor_lt_two_pow (by omega) (by omega)
 have := iI 8 (by omega) (by omega) h
 have := congrArg (c ^^^ ·) this
 simpa [← Nat.xor_assoc] using this
def fF (c : Nat) (l : List Nat) : Nat := l.foldl mr c
theorem jA : ∀ (l : List Nat) (c : Nat), c < 4294967296 → (∀ x ∈ l, x < 256) → fF c l < 4294967296
 | [], _, h, _ => h
 | x :: l, c, h, hl => jA l _ (hY h (hl x (by simp))) fun y hy => hl y (by simp [hy])
theorem lO : ∀ (l : List Nat) {c d : Nat}, c < 4294967296 → d < 4294967296 → (∀ x ∈ l, x < 256) → fF c l = fF d l → c = d
 | [], _, _, _, _, _, h => h
 | x :: l, c, d, hc, hd, hl, h => nr hc hd (hl x (by simp)) (lO l (hY hc (hl x (by simp))) (hY hd (hl x (by simp))) (fun y hy => hl y (by simp [hy])) h)
theorem lP : ∀ (l : List Nat) (i : Nat) (y c : Nat), c < 4294967296 → (∀ x ∈ l, x < 256) → y < 256 → (hi : i < l.length) → fF c (l.set i y) = fF c l → y = l[i]
 | [], i, _, _, _, _, _, hi, _ => by simp at hi
 | x :: l, 0, y, c, hc, hl, hy, _, h => by
  have hx := hl x (by simp)
  have := lO l (hY hc hy) (hY hc hx) (fun z hz => hl z (by simp [hz])) h
  exact nt hc hy hx this
 | x :: l, i + 1, y, c, hc, hl, hy, hi, h => by
  have := lP l i y _ (hY hc (hl x (by simp))) (fun z hz => hl z (by simp [hz])) hy (by simpa using hi) h
  simpa using this
theorem jp : ∀ (k c : Nat), e7 (k + 1) c = gh (e7 k c)
 | 0, _ => rfl
 | k + 1, c => jp k (gh c)
def eY (l : List Int) : Prop := ∀ x ∈ l, 0 ≤ x ∧ x < 256
def eI (l : List Int) : List Nat := l.map Int.toNat
theorem jB {l : List Int} (h : eY l) : ∀ x ∈ eI l, x < 256 := by
 intro x hx
 obtain ⟨y, hy, rfl⟩ := List.mem_map.1 hx
 have := h y hy
 omega
def dk (l : List Int) : Int := ((4294967295 ^^^ fF 4294967295 (eI l) : Nat) : Int)
theorem pP (c : Nat) (h : c < 4294967296) : bz (fun (x : Int × Int) => bw x.1 x.2) ((c : Int), 0) = some ((e7 8 c : Nat) : Int) := by
 have := gg (S := Int × Int) (T := Int) (fun k => (((e7 k c : Nat) : Int), (k : Int))) (body := fun x => bw x.1 x.2) 8 ((e7 8 c : Nat) : Int)
  (by
   intro k hk
   show bw ((e7 k c : Nat) : Int) (k : Int) = some (.inl (((e7 (k + 1) c : Nat) : Int), ((k + 1 : Nat) : Int)))
   unfold bw
   rw [iP (by omega), o7 _ (jf k c h), wrs k (by omega), jp])
  (by
   show bw _ 8 = _
   unfold bw
   rw [iN (by omega)])
 exact this
theorem mt (l : List Int) (hb : eY l) (hl : l.length ≤ 100000000) : dH l = some (dk l) := by
 have hlt : ∀ i, fF 4294967295 (eI (l.take i)) < 4294967296 := fun i => jA _ _ (by decide) (jB fun x hx => hb x (List.mem_of_mem_take hx))
 have := gg (S := Int × Int) (T := Int) (fun i => (((fF 4294967295 (eI (l.take i)) : Nat) : Int), (i : Int))) (body := fun x => bH l x.1 x.2) l.length ((fF 4294967295 (eI l) : Nat) : Int)
  (by
   intro i hi
   have hx := hb _ (eH hi)
   have hc := hlt i
   have e1 : IntKind.wrap .u32 (l.getD i default) = (((l.getD i default).toNat : Nat) : Int) := by rw [IntKind.wrap_u32]; omega
   have e2 : fF 4294967295 (eI (l.take (i + 1))) = mr (fF 4294967295 (eI (l.take i))) (l.getD i default).toNat := by
    rw [ck _ hi]
    unfold eI fF
    rw [List.map_append, List.foldl_append]
    rfl
   have e3 : (fF 4294967295 (eI (l.take i)) ^^^ (l.getD i default).toNat) < 2 ^ 32 := Nat.xor_lt_two_pow (by omega) (by omega)
   show bH l ((fF 4294967295 (eI (l.take i)) : Nat) : Int) (i : Int) = some (.inl (((fF 4294967295 (eI (l.take (i + 1))) : Nat) : Int), ((i + 1 : Nat) : Int)))
   unfold bH
   rw [iP (ltI hi), iP (inI hi)]
   simp only [tN]
   rw [e1, mS _ _ hc (by omega)]
   show (bz (fun (x : Int × Int) => bw x.1 x.2) (((fF 4294967295 (eI (l.take i)) ^^^ (l.getD i default).toNat : Nat) : Int), 0)).bind _ = _
   rw [pP _ (by omega), e2]
   simp only [bSq]
   unfold cW
   rw [wrs i (by omega)]
   rfl)
  (by
   show bH l _ (l.length : Int) = _
   unfold bH
   rw [iN (ff _), List.take_length])
 unfold dH
 show (bz (fun (x : Int × Int) => bH l x.1 x.2) (4294967295, 0)).bind _ = _
 have h0 : (((fF 4294967295 (eI (l.take 0)) : Nat) : Int), ((0 : Nat) : Int)) = ((4294967295 : Int), (0 : Int)) := by simp [eI, fF]
 rw [h0] at this
 rw [this]
 simp only [bSq]
 unfold cV
 have hc := jA (eI l) 4294967295 (by decide) (jB hb)
 have := mS 4294967295 _ (by decide) hc
 show some (bits .xor .u32 (4294967295 : Int) _) = _
 rw [show (4294967295 : Int) = ((4294967295 : Nat) : Int) from rfl, this]
 rfl
theorem oi {l : List Int} (hb : eY l) {i : Nat} (hi : i < l.length) {y : Int} (hy : 0 ≤ y ∧ y < 256) (h : dk (l.set i y) = dk l) : y = l[i] := by
 unfold dk at h
 have h1 : (4294967295 ^^^ fF 4294967295 (eI (l.set i y))) = (4294967295 ^^^ fF 4294967295 (eI l)) := by omega
 have h2 : fF 4294967295 (eI (l.set i y)) = fF 4294967295 (eI l) := by
  have := congrArg (4294967295 ^^^ ·) h1
  simpa [← Nat.xor_assoc] using this
 have h3 : eI (l.set i y) = (eI l).set i y.toNat := by unfold eI; rw [List.map_set]
 rw [h3] at h2
 have h4 := lP (eI l) i y.toNat 4294967295 (by decide) (jB hb) (by omega) (by simpa [eI] using hi) h2
 have h5 : (eI l)[i]'(by simpa [eI] using hi) = l[i].toNat := by simp [eI]
 rw [h5] at h4
 have := hb l[i] (List.getElem_mem hi)
 omega
def fS (u : Nat) : List Int × Nat := if h : 128 ≤ u then (((u % 128 + 128 : Nat) : Int) :: (fS (u / 128)).1, (fS (u / 128)).2) else ([], u)
termination_by u
decreasing_by all_goals omega
def bg (u : Nat) : List Int := (fS u).1 ++ [((fS u).2 : Int)]
theorem lQ {u : Nat} (h : 128 ≤ u) : bg u = ((u % 128 + 128 : Nat) : Int) :: bg (u / 128) := by
 unfold bg
 rw [fS]
 rw [dif_pos h]
 rfl
theorem gG {u : Nat} (h : u < 128) : bg u = [(u : Int)] := by
 unfold bg
 rw [fS, dif_neg (by omega)]
 rfl
theorem gH : ∀ (k u : Nat), u < 2 ^ (7 * k) → 0 < k → (fS u).1.length < k ∧ (fS u).2 < 128
 | 0, _, _, h => by omega
 | k + 1, u, hu, _ => by
  rw [fS]
  by_cases h : 128 ≤ u
  ·rw [dif_pos h]
   by_cases hk : k = 0
   ·subst hk; simp at hu; omega
   ·have hp : 2 ^ (7 * (k + 1)) = 2 ^ (7 * k) * 128 := by rw [Nat.mul_add, Nat.pow_add]
    have h2 : u / 128 < 2 ^ (7 * k) := by rw [hp] at hu; exact Nat.div_lt_of_lt_mul (by rw [Nat.mul_comm]; exact hu)
    obtain ⟨h3, h4⟩ := gH k (u / 128) h2 (by omega)
    exact ⟨by simp only [List.length_cons]; omega, h4⟩
  ·rw [dif_neg h]; exact ⟨by simp, by omega⟩
set_option maxRecDepth 100000 in
theorem qI (u : Nat) : bits .or .u8 (IntKind.wrap .u8 (u : Int)) 128 = ((u % 128 + 128 : Nat) : Int) := by
 have h1 : IntKind.wrap .u8 (u : Int) = ((u % 256 : Nat) : Int) := by rw [IntKind.wrap_u8]; omega
 have key : ∀ a : Nat, a < 256 → bits .or .u8 (a : Int) 128 = ((a % 128 + 128 : Nat) : Int) := by decide
 rw [h1, key _ (Nat.mod_lt _ (by decide))]
 congr 1
 omega
theorem lk (n : Nat) (h : n ≤ 100000000) : iX n 1 := by
 unfold iX
 simp only [maxLen]
 omega
theorem oj : ∀ (k u : Nat) (l : List Int), u < 2 ^ (7 * k) → 0 < k → l.length + k ≤ 90000000 →
  bz (fun (x : List Int × Int) => aR x.1 x.2) (l, (u : Int)) = some (l ++ (fS u).1, ((fS u).2 : Int))
 | 0, _, _, _, h, _ => by omega
 | k + 1, u, l, hu, _, hl => by
  by_cases h : 128 ≤ u
  ·have hk : k ≠ 0 := fun e => by subst e; simp at hu; omega
   have hp : 2 ^ (7 * (k + 1)) = 2 ^ (7 * k) * 128 := by rw [Nat.mul_add, Nat.pow_add]
   have h2 : u / 128 < 2 ^ (7 * k) := by rw [hp] at hu; exact Nat.div_lt_of_lt_mul (by rw [Nat.mul_comm]; exact hu)
   have hs : aR l (u : Int) = some (.inl (l ++ [((u % 128 + 128 : Nat) : Int)], ((u / 128 : Nat) : Int))) := by
    unfold aR
    have e2 : (u : Int).fdiv (2 ^ (min 7 (IntKind.bits .u64))) = ((u / 128 : Nat) : Int) := by
     show (u : Int).fdiv (2 ^ 7) = _
     rw [Int.fdiv_eq_ediv_of_nonneg _ (by decide)]
     omega
    rw [iP (by omega), iP (lk _ (by omega)), qI, e2]
    rfl
   rw [eh (s := (l, (u : Int))) hs, oj k (u / 128) _ h2 (by omega) (by simp; omega)]
   have : fS u = (((u % 128 + 128 : Nat) : Int) :: (fS (u / 128)).1, (fS (u / 128)).2) := by rw [fS, dif_pos h]
   rw [this]
   simp
  ·have : fS u = ([], u) := by rw [fS, dif_neg h]
   rw [this]
   refine dm ?_
   show aR l (u : Int) = _
   unfold aR
   rw [iN (by omega)]
   simp
def zig (n : Int) : Nat := if 0 ≤ n then (2 * n).toNat else (-2 * n - 1).toNat
def okN (n : Int) : Prop := -9223372036854775808 ≤ n ∧ n ≤ 9223372036854775807
theorem ka {n : Int} (h : okN n) : zig n < 18446744073709551616 := by unfold zig; unfold okN at h; split <;> omega
theorem pQ {n : Int} (h : okN n) : bits .xor .u64 (IntKind.wrap .u64 ((IntKind.wrap .u64 n) * 2 ^ (min 1 (IntKind.bits .u64)))) (IntKind.wrap .u64 (n.fdiv (2 ^ (min 63 (IntKind.bits .i64))))) = (zig n : Int) := by
 unfold okN at h
 have ef : n.fdiv (2 ^ (min 63 (IntKind.bits .i64))) = n / 9223372036854775808 := by
  show n.fdiv (2 ^ 63) = _
  rw [Int.fdiv_eq_ediv_of_nonneg _ (by decide)]
  rfl
 have em : ((IntKind.wrap .u64 n) * 2 ^ (min 1 (IntKind.bits .u64)) : Int) = IntKind.wrap .u64 n * 2 := rfl
 rw [ef, em]
 unfold zig
 by_cases h0 : 0 ≤ n
 ·rw [iP h0]
  have e1 : IntKind.wrap .u64 (IntKind.wrap .u64 n * 2) = (((2 * n).toNat : Nat) : Int) := by rw [IntKind.wrap_u64, IntKind.wrap_u64]; omega
  have e2 : IntKind.wrap .u64 (n / 9223372036854775808) = ((0 : Nat) : Int) := by rw [IntKind.wrap_u64]; omega
  rw [e1, e2, bits_xor_u64_nat _ _ (by omega) (by decide)]
  simp
 ·rw [iN h0]
  have e1 : IntKind.wrap .u64 (IntKind.wrap .u64 n * 2) = (((18446744073709551616 + 2 * n).toNat : Nat) : Int) := by rw [IntKind.wrap_u64, IntKind.wrap_u64]; omega
  have e2 : IntKind.wrap .u64 (n / 9223372036854775808) = ((18446744073709551615 : Nat) : Int) := by rw [IntKind.wrap_u64]; omega
  rw [e1, e2, bits_xor_u64_nat _ _ (by omega) (by decide)]
  have key : ∀ a : Nat, a < 2 ^ 64 → a ^^^ (2 ^ 64 - 1) = 2 ^ 64 - 1 - a := fun a ha => by
   have h1 := congrArg BitVec.toNat (BitVec.xor_allOnes (x := BitVec.ofNat 64 a))
   rw [BitVec.toNat_xor, BitVec.toNat_allOnes, BitVec.toNat_not, BitVec.toNat_ofNat, Nat.mod_eq_of_lt ha] at h1
   exact h1
  have := key (18446744073709551616 + 2 * n).toNat (by omega)
  rw [show (18446744073709551615 : Nat) = 2 ^ 64 - 1 from rfl, this]
  omega
def ax (l : List Int) : List Int := l.flatMap fun n => bg (zig n)
theorem lR {n : Int} (h : okN n) : (bg (zig n)).length ≤ 10 := by
 have := gH 10 (zig n) (Nat.lt_of_lt_of_le (ka h) (by decide)) (by decide)
 unfold bg
 simp
 omega
theorem co : ∀ (l : List Int), (∀ n ∈ l, okN n) → (ax l).length ≤ 10 * l.length
 | [], _ => by simp [ax]
 | n :: l, h => by
  have h1 := lR (h n (by simp))
  have h2 := co l fun m hm => h m (by simp [hm])
  unfold ax at h2 ⊢
  simp only [List.flatMap_cons, List.length_append, List.length_cons]
  omega
theorem i5 (l b : List Int) (hl : ∀ n ∈ l, okN n) (hn : b.length + 10 * l.length ≤ 80000000) : a8 l b = some (b ++ ax l) := by
 have := gg (S := List Int × Int) (T := List Int) (fun i => (b ++ ax (l.take i), (i : Int))) (body := fun x => aS l x.1 x.2) l.length (b ++ ax l)
  (by
   intro i hi
   have hx := hl _ (eH hi)
   have hz := ka hx
   have hv := gH 10 (zig (l.getD i default)) (Nat.lt_of_lt_of_le hz (by decide)) (by decide)
   have ht := co (l.take i) fun n hn => hl n (List.mem_of_mem_take hn)
   have htl : (l.take i).length = i := by simp; omega
   have e1 : ax (l.take (i + 1)) = ax (l.take i) ++ bg (zig (l.getD i default)) := by
    rw [ck _ hi]
    unfold ax
    simp
   show aS l (b ++ ax (l.take i)) (i : Int) = some (.inl (b ++ ax (l.take (i + 1)), ((i + 1 : Nat) : Int)))
   unfold aS
   rw [iP (ltI hi), iP (inI hi)]
   simp only [tN]
   rw [pQ hx]
   show (bz (fun (x : List Int × Int) => aR x.1 x.2) (b ++ ax (l.take i), (zig (l.getD i default) : Int))).bind (fun z => bl (i : Int) z.1 z.2) = _
   rw [oj 10 _ _ (Nat.lt_of_lt_of_le hz (by decide)) (by decide) (by simp only [List.length_append]; omega)]
   simp only [bSq]
   unfold bl cw
   have e2 : IntKind.wrap .u8 ((fS (zig (l.getD i default))).2 : Int) = ((fS (zig (l.getD i default))).2 : Int) := by rw [IntKind.wrap_u8]; omega
   rw [iP (lk _ (by simp only [List.length_append]; omega)), e2, wrs i (by omega), e1]
   unfold bg
   simp [lit])
  (by
   show aS l _ (l.length : Int) = _
   unfold aS
   rw [iN (ff _), List.take_length])
 have h0 : (b ++ ax (l.take 0), ((0 : Nat) : Int)) = (b, (0 : Int)) := by simp [ax]
 rw [h0] at this
 unfold a8
 show (bz (fun (x : List Int × Int) => aS l x.1 x.2) (b, 0)).bind _ = _
 rw [this]
 rfl
set_option maxRecDepth 100000 in
theorem pR : ∀ a : Nat, a < 256 → bits .and .u8 (a : Int) 127 = ((a % 128 : Nat) : Int) := by decide
theorem pS (a b k : Nat) (ha : a < 2 ^ k) (h : a + b * 2 ^ k < 18446744073709551616) : bits .or .u64 (a : Int) ((b * 2 ^ k : Nat) : Int) = ((a + b * 2 ^ k : Nat) : Int) := by
 rw [bits_or_u64_nat _ _ (by omega) (by omega)]
 congr 1
 have h1 := Nat.shiftLeft_add_eq_or_of_lt ha b
 rw [Nat.shiftLeft_eq] at h1
 rw [Nat.or_comm, ← h1, Nat.add_comm]
theorem mT (a x i : Nat) (hx : x < 256) (hi : i ≤ 9) (ha : a < 2 ^ (7 * i)) (h : a + (x % 128) * 2 ^ (7 * i) < 18446744073709551616) :
  bits .or .u64 (a : Int) (IntKind.wrap .u64 ((IntKind.wrap .u64 (bits .and .u8 (x : Int) 127)) * 2 ^ (min ((IntKind.wrap .i64 (7 * (i : Int))).toNat) (IntKind.bits .u64)))) = ((a + (x % 128) * 2 ^ (7 * i) : Nat) : Int) := by
 rw [pR x hx, wr (n := 7 * (i : Int)) (by omega) (by omega)]
 have e1 : (7 * (i : Int)).toNat = 7 * i := by omega
 have e2 : min (7 * i) (IntKind.bits .u64) = 7 * i := Nat.min_eq_left (by show 7 * i ≤ 64; omega)
 have e3 : IntKind.wrap .u64 ((x % 128 : Nat) : Int) = ((x % 128 : Nat) : Int) := by rw [IntKind.wrap_u64]; omega
 rw [e1, e2, e3]
 have e4 : ((x % 128 : Nat) : Int) * 2 ^ (7 * i) = (((x % 128) * 2 ^ (7 * i) : Nat) : Int) := by
  rw [Int.natCast_mul]
  congr 1
 rw [e4]
 have e5 : IntKind.wrap .u64 (((x % 128) * 2 ^ (7 * i) : Nat) : Int) = (((x % 128) * 2 ^ (7 * i) : Nat) : Int) := by rw [IntKind.wrap_u64]; omega
 rw [e5, pS a (x % 128) (7 * i) ha h]
theorem om (u : Nat) : 0 < (bg u).length := by unfold bg; simp
theorem o8 (b : List Int) (at0 : Int) (hbl : b.length ≤ 100000000) : ∀ (m v i acc at_ : Nat), v ≤ m → i ≤ 9 → acc < 2 ^ (7 * i) → acc + v * 2 ^ (7 * i) < 18446744073709551616 → (i = 0 ∨ 0 < v) → at_ + (bg v).length ≤ b.length →
  (∀ j, j < (bg v).length → b.getD (at_ + j) default = (bg v).getD j default) →
  bz (fun (x : Int × Int × Int) => aM (ah.mk b at0) x.1 x.2.1 x.2.2) ((at_ : Int), (acc : Int), (i : Int)) = some (.inl (((at_ + (bg v).length : Nat) : Int), ((acc + v * 2 ^ (7 * i) : Nat) : Int))) := by
 have small : ∀ (v i acc at_ : Nat), v < 128 → i ≤ 9 → acc < 2 ^ (7 * i) → acc + v * 2 ^ (7 * i) < 18446744073709551616 → (i = 0 ∨ 0 < v) → at_ + (bg v).length ≤ b.length →
   (∀ j, j < (bg v).length → b.getD (at_ + j) default = (bg v).getD j default) →
   bz (fun (x : Int × Int × Int) => aM (ah.mk b at0) x.1 x.2.1 x.2.2) ((at_ : Int), (acc : Int), (i : Int)) = some (.inl (((at_ + (bg v).length : Nat) : Int), ((acc + v * 2 ^ (7 * i) : Nat) : Int))) := by
  intro v i acc at_ hv hi ha h hpos hlen hb
  rw [gG hv] at hlen hb ⊢
  have hx := hb 0 (by simp)
  simp only [Nat.add_zero, List.getD_cons_zero] at hx
  simp only [List.length_singleton] at hlen ⊢
  have h9 : i = 9 → v ≤ 1 := fun e => by
   subst e
   have : v * 2 ^ (7 * 9) < 18446744073709551616 := by omega
   have e2 : (2 : Nat) ^ (7 * 9) = 9223372036854775808 := by decide
   rw [e2] at this
   omega
  have hmod : v % 128 = v := by omega
  have hin := mT acc v i (by omega) hi ha (by rw [hmod]; exact h)
  rw [hmod] at hin
  refine dm ?_
  show aM (ah.mk b at0) (at_ : Int) (acc : Int) (i : Int) = _
  have j2 : aI (ah.mk b at0) (at_ : Int) (acc : Int) (i : Int) = some (.inr (.inl (((at_ + 1 : Nat) : Int), ((acc + v * 2 ^ (7 * i) : Nat) : Int)))) := by
   unfold aI
   have w7 : IntKind.wrap .i64 (7 * (i : Int)) = 7 * (i : Int) := wr (by omega) (by omega)
   rw [iP (by rw [w7]; omega)]
   simp only [tN, hx]
   rw [iP (by omega), wrs at_ (by omega), hin]
  unfold aM
  rw [iP (by omega), iN (by simp only; omega), iP (by simp only; omega)]
  simp only [tN, hx]
  rw [j2]
  by_cases e9 : (i : Int) = 9
  ·rw [iP e9, iN (by have := h9 (by omega); omega), iP (by omega), iN (by rcases hpos with h | h <;> omega)]
  ·rw [iN e9]
   by_cases e0 : (i : Int) > 0
   ·rw [iP e0, iN (by rcases hpos with h | h <;> omega)]
   ·rw [iN e0]
 intro m
 induction m with
 | zero =>
  intro v i acc at_ hv
  exact small v i acc at_ (by omega)
 | succ m ih =>
  intro v i acc at_ hv hi ha h hpos hlen hb
  by_cases hs : v < 128
  ·exact small v i acc at_ hs hi ha h hpos hlen hb
  ·have hp : 2 ^ (7 * (i + 1)) = 2 ^ (7 * i) * 128 := by rw [Nat.mul_add, Nat.pow_add]
   have hdv : v % 128 * 2 ^ (7 * i) + v / 128 * (2 ^ (7 * i) * 128) = v * 2 ^ (7 * i) := by
    have := Nat.mod_add_div v 128
    have h2 : v % 128 * 2 ^ (7 * i) + v / 128 * (2 ^ (7 * i) * 128) = (v % 128 + 128 * (v / 128)) * 2 ^ (7 * i) := by
     rw [Nat.add_mul, Nat.mul_comm 128 (v / 128), Nat.mul_assoc, Nat.mul_comm 128 (2 ^ (7 * i))]
    rw [h2, this]
   have hi8 : i ≤ 8 := by
    refine Classical.byContradiction fun hc => ?_
    have e : i = 9 := by omega
    subst e
    have e2 : (2 : Nat) ^ (7 * 9) = 9223372036854775808 := by decide
    rw [e2] at h
    omega
   rw [lQ (by omega)] at hlen hb ⊢
   have hx := hb 0 (by simp)
   simp only [Nat.add_zero, List.getD_cons_zero] at hx
   simp only [List.length_cons] at hlen hb ⊢
   have hmod : (v % 128 + 128) % 128 = v % 128 := by omega
   have hin := mT acc (v % 128 + 128) i (by omega) hi ha (by rw [hmod]; omega)
   rw [hmod] at hin
   have hs1 : aM (ah.mk b at0) (at_ : Int) (acc : Int) (i : Int) = some (.inl (((at_ + 1 : Nat) : Int), ((acc + v % 128 * 2 ^ (7 * i) : Nat) : Int), ((i + 1 : Nat) : Int))) := by
    have j2 : aI (ah.mk b at0) (at_ : Int) (acc : Int) (i : Int) = some (.inl (((at_ + 1 : Nat) : Int), ((acc + v % 128 * 2 ^ (7 * i) : Nat) : Int), ((i + 1 : Nat) : Int))) := by
     unfold aI
     have w7 : IntKind.wrap .i64 (7 * (i : Int)) = 7 * (i : Int) := wr (by omega) (by omega)
     rw [iP (by rw [w7]; omega)]
     simp only [tN, hx]
     rw [iN (by omega), wrs at_ (by omega), wrs i (by omega), hin]
    unfold aM
    rw [iP (by omega), iN (by simp only; omega), iP (by simp only; omega)]
    simp only [tN, hx]
    rw [j2, iN (by omega)]
    by_cases e0 : (i : Int) > 0
    ·rw [iP e0, iN (by omega)]
    ·rw [iN e0]
   rw [eh (s := ((at_ : Int), (acc : Int), (i : Int))) hs1]
   have hacc : acc + v % 128 * 2 ^ (7 * i) < 2 ^ (7 * (i + 1)) := by
    rw [hp]
    have : v % 128 * 2 ^ (7 * i) ≤ 127 * 2 ^ (7 * i) := Nat.mul_le_mul_right _ (by omega)
    omega
   have hsum : acc + v % 128 * 2 ^ (7 * i) + v / 128 * 2 ^ (7 * (i + 1)) = acc + v * 2 ^ (7 * i) := by rw [hp]; omega
   have := ih (v / 128) (i + 1) (acc + v % 128 * 2 ^ (7 * i)) (at_ + 1) (by omega) (by omega) hacc (by rw [hsum]; exact h) (.inr (by omega)) (by omega) (fun j hj => by
    have := hb (j + 1) (by omega)
    rw [show at_ + 1 + j = at_ + (j + 1) by omega, this]
    simp)
   rw [this, hsum, show at_ + 1 + (bg (v / 128)).length = at_ + ((bg (v / 128)).length + 1) by omega]
theorem oq {n : Int} (h : okN n) : bits .xor .i64 (IntKind.wrap .i64 ((zig n : Int).fdiv (2 ^ (min 1 (IntKind.bits .u64))))) (IntKind.wrap .i64 (0 - (IntKind.wrap .i64 (bits .and .u64 (zig n : Int) 1)))) = n := by
 have hz := ka h
 have e1 : bits .and .u64 (zig n : Int) 1 = ((zig n % 2 : Nat) : Int) := by
  have := bits_and_u64_nat (zig n) 1 hz (by decide)
  rw [Nat.and_one_is_mod] at this
  exact this
 have e2 : (zig n : Int).fdiv (2 ^ (min 1 (IntKind.bits .u64))) = ((zig n / 2 : Nat) : Int) := by
  show (zig n : Int).fdiv (2 ^ 1) = _
  rw [Int.fdiv_eq_ediv_of_nonneg _ (by decide)]
  omega
 have ew : IntKind.wrap .i64 ((zig n % 2 : Nat) : Int) = ((zig n % 2 : Nat) : Int) := wr (by omega) (by omega)
 have ev : IntKind.wrap .i64 ((zig n / 2 : Nat) : Int) = ((zig n / 2 : Nat) : Int) := wr (by omega) (by omega)
 have ex : IntKind.wrap .i64 (0 - ((zig n % 2 : Nat) : Int)) = 0 - ((zig n % 2 : Nat) : Int) := wr (by omega) (by omega)
 rw [e1, e2, ew, ev, ex]
 have ha : zig n / 2 < 2 ^ 64 := by omega
 have h1 : (BitVec.ofInt 64 ((zig n / 2 : Nat) : Int)).toNat = zig n / 2 := by
  rw [BitVec.ofInt_natCast, BitVec.toNat_ofNat]; exact Nat.mod_eq_of_lt ha
 unfold okN at h
 by_cases h0 : 0 ≤ n
 ·have hzn : zig n = (2 * n).toNat := by unfold zig; rw [iP h0]
  have e3 : (0 : Int) - ((zig n % 2 : Nat) : Int) = 0 := by omega
  rw [e3]
  show IntKind.i64.wrap ((BitVec.ofInt 64 ((zig n / 2 : Nat) : Int) ^^^ BitVec.ofInt 64 0).toNat : Int) = n
  have h2 : (BitVec.ofInt 64 (0 : Int)).toNat = 0 := by decide
  rw [BitVec.toNat_xor, h1, h2, Nat.xor_zero, wr (by omega) (by omega)]
  omega
 ·have hzn : zig n = (-2 * n - 1).toNat := by unfold zig; rw [iN h0]
  have e3 : (0 : Int) - ((zig n % 2 : Nat) : Int) = -1 := by omega
  rw [e3]
  show IntKind.i64.wrap ((BitVec.ofInt 64 ((zig n / 2 : Nat) : Int) ^^^ BitVec.ofInt 64 (-1)).toNat : Int) = n
  have h2 : BitVec.ofInt 64 (-1) = BitVec.allOnes 64 := by decide
  rw [h2, BitVec.xor_allOnes, BitVec.toNat_not, h1, IntKind.wrap_i64]
  omega
theorem o9 {b : List Int} {at_ : Nat} {n : Int} (hbl : b.length ≤ 100000000) (hn : okN n) (hlen : at_ + (bg (zig n)).length ≤ b.length)
  (hb : ∀ j, j < (bg (zig n)).length → b.getD (at_ + j) default = (bg (zig n)).getD j default) :
  aA (ah.mk b (at_ : Int)) = some (.inl (n, ((at_ + (bg (zig n)).length : Nat) : Int))) := by
 have := o8 b (at_ : Int) hbl (zig n) (zig n) 0 0 at_ (Nat.le_refl _) (by omega) (by decide) (by have := ka hn; simpa using this) (.inl rfl) hlen hb
 unfold aA
 show (bz (fun (x : Int × Int × Int) => aM (ah.mk b (at_ : Int)) x.1 x.2.1 x.2.2) ((at_ : Int), 0, 0)).bind _ = _
 have h0 : ((at_ : Int), ((0 : Nat) : Int), ((0 : Nat) : Int)) = ((at_ : Int), (0 : Int), (0 : Int)) := rfl
 rw [h0] at this
 rw [this]
 simp only [bSq, Sum.elim_inl]
 unfold bm
 rw [show (0 + zig n * 2 ^ (7 * 0)) = zig n by simp, oq hn]
theorem cX {b : List Int} {at_ : Nat} {n : Int} {r : List Int} (hbl : b.length ≤ 100000000) (hn : okN n) (hle : at_ ≤ b.length) (h : b.drop at_ = bg (zig n) ++ r) :
  aA (ah.mk b (at_ : Int)) = some (.inl (n, ((at_ + (bg (zig n)).length : Nat) : Int))) ∧ b.drop (at_ + (bg (zig n)).length) = r ∧ at_ + (bg (zig n)).length ≤ b.length := by
 have hlen : at_ + (bg (zig n)).length ≤ b.length := by
  have := congrArg List.length h
  simp only [List.length_drop, List.length_append] at this
  omega
 refine ⟨o9 hbl hn hlen fun j hj => ?_, ?_, hlen⟩
 ·have h1 : (b.drop at_)[j]? = (bg (zig n) ++ r)[j]? := by rw [h]
  rw [List.getElem?_drop, List.getElem?_append_left hj] at h1
  simp only [List.getD, h1]
 ·rw [← List.drop_drop, h, List.drop_left]
theorem jq {b : List Int} {at_ : Nat} {n : Int} {r : List Int} {k : Nat} (hbl : b.length ≤ 100000000) (hn : okN n) (hn0 : 0 ≤ n) (hk : 1 ≤ k ∧ k ≤ 1000) (hle : at_ ≤ b.length) (h : b.drop at_ = bg (zig n) ++ r) (hr : (k : Int) * n ≤ (r.length : Int)) :
  b8 (k : Int) (ah.mk b (at_ : Int)) = some (.inl (n, ((at_ + (bg (zig n)).length : Nat) : Int))) ∧ b.drop (at_ + (bg (zig n)).length) = r ∧ at_ + (bg (zig n)).length ≤ b.length := by
 obtain ⟨h1, h2, h3⟩ := cX hbl hn hle h
 refine ⟨?_, h2, h3⟩
 unfold b8
 rw [h1]
 simp only [bSq, Sum.elim_inl]
 have hrl : ((b.length : Int) - ((at_ + (bg (zig n)).length : Nat) : Int)) = (r.length : Int) := by
  have := congrArg List.length h2
  simp only [List.length_drop] at this
  omega
 rw [iN (by omega), iP (by omega), hrl]
 have hrl2 : (r.length : Int) ≤ 100000000 := by omega
 have ed : (r.length : Int).tdiv (k : Int) = (r.length : Int) / (k : Int) := Int.tdiv_eq_ediv_of_nonneg (by omega)
 have hd0 : 0 ≤ (r.length : Int) / (k : Int) := Int.ediv_nonneg (by omega) (by omega)
 have hd1 : (r.length : Int) / (k : Int) ≤ (r.length : Int) := Int.ediv_le_self _ (by omega)
 have hd2 : n ≤ (r.length : Int) / (k : Int) := by
  rw [Int.le_ediv_iff_mul_le (by omega)]
  rw [Int.mul_comm]; exact hr
 rw [wr (n := (r.length : Int)) (by omega) (by omega), ed, wr (by omega) (by omega), iN (by omega)]
theorem cr (n : Int) (l : List Int) : ax (n :: l) = bg (zig n) ++ ax l := by unfold ax; simp
theorem jg (l m : List Int) : ax (l ++ m) = ax l ++ ax m := by unfold ax; simp
theorem i6 : ∀ l : List Int, l.length ≤ (ax l).length
 | [] => by simp
 | n :: l => by
  have := i6 l
  have := om (zig n)
  rw [cr]
  simp only [List.length_cons, List.length_append]
  omega
theorem iJ {b : List Int} {at_ : Nat} {l r : List Int} (hbl : b.length ≤ 100000000) (hl : ∀ n ∈ l, okN n) (hle : at_ ≤ b.length) (h : b.drop at_ = ax ((l.length : Int) :: l) ++ r) :
  bI (ah.mk b (at_ : Int)) = some (.inl (l, ((at_ + (ax ((l.length : Int) :: l)).length : Nat) : Int))) ∧ b.drop (at_ + (ax ((l.length : Int) :: l)).length) = r ∧ at_ + (ax ((l.length : Int) :: l)).length ≤ b.length := by
 have hll : l.length ≤ b.length := by
  have := congrArg List.length h
  rw [cr] at this
  simp only [List.length_drop, List.length_append] at this
  have := i6 l
  omega
 rw [cr, List.append_assoc] at h
 obtain ⟨c1, c2, c3⟩ := jq (k := 1) hbl (by unfold okN; omega) (by omega) (by omega) hle h (by have := i6 l; simp only [List.length_append]; omega)
 obtain ⟨p, hp⟩ : ∃ p, p = at_ + (bg (zig (l.length : Int))).length := ⟨_, rfl⟩
 rw [← hp] at c1 c2 c3
 have hdr : ∀ i, i ≤ l.length → b.drop (p + (ax (l.take i)).length) = ax (l.drop i) ++ r ∧ p + (ax (l.take i)).length ≤ b.length := by
  intro i hi
  have e : ax l ++ r = ax (l.take i) ++ (ax (l.drop i) ++ r) := by
   rw [← List.append_assoc, ← jg, List.take_append_drop]
  refine ⟨by rw [← List.drop_drop, c2, e, List.drop_left], ?_⟩
  have := congrArg List.length c2
  rw [e] at this
  simp only [List.length_drop, List.length_append] at this
  omega
 have hloop := mR (S := Int × List Int × Int) (T := Int × List Int) (Z := (List Int × Int) ⊕ (Int × Int)) (fun i => (((p + (ax (l.take i)).length : Nat) : Int), l.take i, (i : Int)))
  (body := fun x => aO (ah.mk b (at_ : Int)) ((l.length : Int), (p : Int)) x.1 x.2.1 x.2.2) l.length (fun _ => none) (((p + (ax l).length : Nat) : Int), l)
  (by
   intro i hi
   obtain ⟨d1, d2⟩ := hdr i (by omega)
   rw [kL l i hi, cr, List.append_assoc] at d1
   obtain ⟨q1, _, _⟩ := cX hbl (hl _ (eH hi)) d2 d1
   have et : ax (l.take (i + 1)) = ax (l.take i) ++ bg (zig (l.getD i default)) := by
    rw [ck _ hi, jg, cr]; simp [ax]
   show aO (ah.mk b (at_ : Int)) ((l.length : Int), (p : Int)) ((p + (ax (l.take i)).length : Nat) : Int) (l.take i) (i : Int) = some (.inl (((p + (ax (l.take (i + 1))).length : Nat) : Int), l.take (i + 1), ((i + 1 : Nat) : Int)))
   unfold aO
   rw [iP (show (i : Int) < (l.length : Int) by omega)]
   show (aA (ah.mk b ((p + (ax (l.take i)).length : Nat) : Int))).bind _ = _
   rw [q1]
   simp only [bSq, Sum.elim_inl]
   have hrm : iX ((l.take i).length + 1) 8 := by
    unfold iX
    have : maxLen = 9223372036854775807 := rfl
    have : (l.take i).length = i := by simp; omega
    omega
   rw [iP hrm, wrs i (by omega), et, ck _ hi]
   simp only [List.length_append, lit]
   rw [Nat.add_assoc])
  (by
   show aO (ah.mk b (at_ : Int)) ((l.length : Int), (p : Int)) _ _ (l.length : Int) = _
   unfold aO
   rw [iN (by simp), List.take_length])
 have e0 : (((p + (ax (l.take 0)).length : Nat) : Int), l.take 0, ((0 : Nat) : Int)) = ((p : Int), ([] : List Int), (0 : Int)) := by simp [ax]
 rw [e0, kK (fun _ _ => rfl)] at hloop
 obtain ⟨d1, d2⟩ := hdr l.length (Nat.le_refl _)
 rw [List.take_length, List.drop_length] at d1
 rw [List.take_length] at d2
 have elen : at_ + (ax ((l.length : Int) :: l)).length = p + (ax l).length := by
  rw [cr, List.length_append, hp]; omega
 rw [elen]
 refine ⟨?_, by simpa [ax] using d1, d2⟩
 unfold bI
 rw [show (1 : Int) = ((1 : Nat) : Int) from rfl, c1]
 simp only [bSq, Sum.elim_inl]
 show (bz (fun (x : Int × List Int × Int) => aO (ah.mk b (at_ : Int)) ((l.length : Int), (p : Int)) x.1 x.2.1 x.2.2) ((p : Int), [], 0)).bind _ = _
 rw [hloop]
 rfl
theorem kb (l b : List Int) (hl : ∀ n ∈ l, okN n) (hn : b.length + 10 * l.length ≤ 70000000) : bG l b = some (b ++ ax ((l.length : Int) :: l)) := by
 have hlen : okN (l.length : Int) := by unfold okN; omega
 have h1 := i5 [(l.length : Int)] b (by intro n hn; simp only [List.mem_singleton] at hn; subst hn; exact hlen) (by simp; omega)
 have hv := lR hlen
 have hb1 : (ax [(l.length : Int)]).length ≤ 10 := by rw [cr]; simpa [ax] using hv
 have := gg (S := List Int × Int) (T := List Int) (fun i => (b ++ ax [(l.length : Int)] ++ ax (l.take i), (i : Int))) (body := fun x => aN l x.1 x.2) l.length (b ++ ax [(l.length : Int)] ++ ax l)
  (by
   intro i hi
   have hx := hl _ (eH hi)
   have ht := co (l.take i) fun n hn => hl n (List.mem_of_mem_take hn)
   have htl : (l.take i).length = i := by simp; omega
   have et : ax (l.take (i + 1)) = ax (l.take i) ++ ax [l.getD i default] := by rw [ck _ hi, jg]
   show aN l (b ++ ax [(l.length : Int)] ++ ax (l.take i)) (i : Int) = some (.inl (b ++ ax [(l.length : Int)] ++ ax (l.take (i + 1)), ((i + 1 : Nat) : Int)))
   unfold aN
   rw [iP (ltI hi), iP (inI hi)]
   simp only [tN]
   rw [show (lit ([l.getD i default] : List Int)) = [l.getD i default] from rfl, i5 [l.getD i default] _ (by intro n hn; simp only [List.mem_singleton] at hn; subst hn; exact hx) (by simp only [List.length_append, List.length_singleton]; omega)]
   simp only [bSq]
   rw [wrs i (by omega), et, List.append_assoc])
  (by
   show aN l _ (l.length : Int) = _
   unfold aN
   rw [iN (ff _), List.take_length])
 have h0 : (b ++ ax [(l.length : Int)] ++ ax (l.take 0), ((0 : Nat) : Int)) = (b ++ ax [(l.length : Int)], (0 : Int)) := by simp [ax]
 rw [h0] at this
 unfold bG
 rw [show (lit ([(l.length : Int)] : List Int)) = [(l.length : Int)] from rfl, h1]
 simp only [bSq]
 show (bz (fun (x : List Int × Int) => aN l x.1 x.2) (b ++ ax [(l.length : Int)], 0)).bind _ = _
 rw [this, cr]
 simp [ax]
def fg (x : aD) : List Int := [x.op, x.k, x.r_, x.a, x.b, x.n]
def okM (m : ag) : Prop := (∀ n ∈ [m.cells, m.regs, m.cost], okN n) ∧ (∀ n ∈ m.put, okN n) ∧ (∀ n ∈ m.bools, okN n) ∧ (∀ n ∈ m.get, okN n) ∧ (∀ x ∈ m.code, ∀ n ∈ fg x, okN n)
def bi (l : List aD) : List Int := l.flatMap fun x => ax (fg x)
def aG (m : ag) : List Int := [76, 87, 1] ++ ax [m.cells, m.regs, m.cost] ++ ax ((m.put.length : Int) :: m.put) ++ ax ((m.bools.length : Int) :: m.bools) ++ ax ((m.get.length : Int) :: m.get) ++ ax [(m.code.length : Int)] ++ bi m.code
def cY (s : Nat) : List Int := [((s % 256 : Nat) : Int), ((s / 256 % 256 : Nat) : Int), ((s / 65536 % 256 : Nat) : Int), ((s / 16777216 % 256 : Nat) : Int)]
theorem kN : ∀ (k u : Nat), u < 2 ^ (7 * k) → 0 < k → ∀ x ∈ (fS u).1, 0 ≤ x ∧ x < 256
 | 0, _, _, h => by omega
 | k + 1, u, hu, _ => by
  intro x hx
  rw [fS] at hx
  by_cases h : 128 ≤ u
  ·rw [dif_pos h] at hx
   have hk : k ≠ 0 := fun e => by subst e; simp at hu; omega
   have hp : 2 ^ (7 * (k + 1)) = 2 ^ (7 * k) * 128 := by rw [Nat.mul_add, Nat.pow_add]
   have h2 : u / 128 < 2 ^ (7 * k) := by rw [hp] at hu; exact Nat.div_lt_of_lt_mul (by rw [Nat.mul_comm]; exact hu)
   rcases List.mem_cons.1 hx with rfl | hx
   ·omega
   ·exact kN k (u / 128) h2 (by omega) x hx
  ·rw [dif_neg h] at hx; cases hx
theorem nu {n : Int} (h : okN n) : eY (bg (zig n)) := by
 have hz := Nat.lt_of_lt_of_le (ka h) (show 18446744073709551616 ≤ 2 ^ (7 * 10) by decide)
 intro x hx
 unfold bg at hx
 rcases List.mem_append.1 hx with hx | hx
 ·exact kN 10 _ hz (by decide) x hx
 ·have := (gH 10 _ hz (by decide)).2
  simp only [List.mem_singleton] at hx
  omega
theorem dR {l m : List Int} (h : eY l) (h' : eY m) : eY (l ++ m) := fun x hx => by
 rcases List.mem_append.1 hx with hx | hx
 ·exact h x hx
 ·exact h' x hx
theorem eP {l : List Int} (h : ∀ n ∈ l, okN n) : eY (ax l) := fun x hx => by
 unfold ax at hx
 obtain ⟨n, hn, hx⟩ := List.mem_flatMap.1 hx
 exact nu (h n hn) x hx
theorem mu {l : List aD} (h : ∀ x ∈ l, ∀ n ∈ fg x, okN n) : eY (bi l) := fun x hx => by
 unfold bi at hx
 obtain ⟨y, hy, hx⟩ := List.mem_flatMap.1 hx
 exact eP (h y hy) x hx
theorem i7 {l : List Int} (h : ∀ n ∈ l, okN n) (hl : l.length ≤ 100000) : ∀ n ∈ (l.length : Int) :: l, okN n := fun n hn => by
 rcases List.mem_cons.1 hn with rfl | hn
 ·unfold okN; omega
 ·exact h n hn
theorem gI {m : ag} (h : okM m) (h1 : m.put.length ≤ 100000) (h2 : m.bools.length ≤ 100000) (h3 : m.get.length ≤ 100000) (h4 : m.code.length ≤ 100000) : eY (aG m) := by
 obtain ⟨a1, a2, a3, a4, a5⟩ := h
 unfold aG
 refine dR (dR (dR (dR (dR (dR ?_ (eP a1)) (eP (i7 a2 h1))) (eP (i7 a3 h2))) (eP (i7 a4 h3))) (eP ?_)) (mu a5)
 ·intro x hx
  simp only [List.mem_cons, List.not_mem_nil, or_false] at hx
  omega
 ·intro n hn
  simp only [List.mem_singleton] at hn
  unfold okN; omega
theorem ot (l : List Int) : hS l = dH l := rfl
theorem jh (l : List aD) (h : ∀ x ∈ l, ∀ n ∈ fg x, okN n) : (bi l).length ≤ 60 * l.length := by
 induction l with
 | nil => simp [bi]
 | cons x l ih =>
  have h1 := co (fg x) (h x (by simp))
  have h2 := ih fun y hy => h y (by simp [hy])
  have h3 : (fg x).length = 6 := rfl
  unfold bi at h2 ⊢
  simp only [List.flatMap_cons, List.length_append, List.length_cons]
  omega
theorem ll {l : List Int} (h : eY l) : 0 ≤ dk l ∧ dk l < 4294967296 := by
 unfold dk
 have h1 := jA (eI l) 4294967295 (by decide) (jB h)
 have h2 : (4294967295 ^^^ fF 4294967295 (eI l)) < 2 ^ 32 := Nat.xor_lt_two_pow (by decide) (by omega)
 omega
theorem nv (l : List Int) (s : Nat) (hl : l.length ≤ 80000000) : bz (fun (x : List Int × Int × Int) => aY x.1 x.2.1 x.2.2) (l, (s : Int), 0) = some (l ++ cY s) := by
 have step : ∀ (q : List Int) (t k : Nat), q.length ≤ 90000000 → k < 4 → aY q (t : Int) (k : Int) = some (.inl (q ++ [((t % 256 : Nat) : Int)], ((t / 256 : Nat) : Int), ((k + 1 : Nat) : Int))) := by
  intro q t k hq hk
  unfold aY
  have e1 : IntKind.wrap .u8 (t : Int) = ((t % 256 : Nat) : Int) := by rw [IntKind.wrap_u8]; omega
  have e2 : (t : Int).fdiv (2 ^ (min 8 (IntKind.bits .u32))) = ((t / 256 : Nat) : Int) := by
   show (t : Int).fdiv (2 ^ 8) = _
   rw [Int.fdiv_eq_ediv_of_nonneg _ (by decide)]
   omega
  rw [iP (by omega), iP (lk _ (by omega)), e1, e2, wrs k (by omega)]
  rfl
 have := gg (S := List Int × Int × Int) (T := List Int) (fun k => (l ++ (cY s).take k, ((s / 256 ^ k : Nat) : Int), (k : Int))) (body := fun x => aY x.1 x.2.1 x.2.2) 4 (l ++ cY s)
  (by
   intro k hk
   have hlen : (l ++ (cY s).take k).length ≤ 90000000 := by
    have : ((cY s).take k).length ≤ 4 := by rw [List.length_take]; exact Nat.min_le_right _ _
    rw [List.length_append]; omega
   show aY (l ++ (cY s).take k) ((s / 256 ^ k : Nat) : Int) (k : Int) = _
   rw [step _ _ k hlen hk]
   have e1 : s / 256 ^ k / 256 = s / 256 ^ (k + 1) := by rw [Nat.pow_succ, Nat.div_div_eq_div_mul]
   have e2 : (cY s).take (k + 1) = (cY s).take k ++ [((s / 256 ^ k % 256 : Nat) : Int)] := by
    have : k = 0 ∨ k = 1 ∨ k = 2 ∨ k = 3 := by omega
    rcases this with rfl | rfl | rfl | rfl <;> simp [cY]
   rw [e1, e2, List.append_assoc])
  (by
   show aY _ _ 4 = _
   unfold aY
   rw [iN (by omega)]
   rfl)
 have e0 : (l ++ (cY s).take 0, ((s / 256 ^ 0 : Nat) : Int), ((0 : Nat) : Int)) = (l, (s : Int), (0 : Int)) := by simp
 rw [e0] at this
 exact this
theorem nw (m : ag) (b : List Int) (h : ∀ x ∈ m.code, ∀ n ∈ fg x, okN n) (hb : b.length ≤ 10000000) (hl : m.code.length ≤ 100000) :
  bz (fun (x : List Int × Int) => bj m x.1 x.2) (b, 0) = some (b ++ bi m.code) := by
 have := gg (S := List Int × Int) (T := List Int) (fun i => (b ++ bi (m.code.take i), (i : Int))) (body := fun x => bj m x.1 x.2) m.code.length (b ++ bi m.code)
  (by
   intro i hi
   have hx := h _ (eH hi)
   have ht := jh (m.code.take i) fun x hx => h x (List.mem_of_mem_take hx)
   have htl : (m.code.take i).length = i := by simp; omega
   have et : bi (m.code.take (i + 1)) = bi (m.code.take i) ++ ax (fg (m.code.getD i default)) := by
    rw [ck _ hi]; unfold bi; simp
   show bj m (b ++ bi (m.code.take i)) (i : Int) = some (.inl (b ++ bi (m.code.take (i + 1)), ((i + 1 : Nat) : Int)))
   unfold bj
   rw [iP (ltI hi), iP (inI hi)]
   simp only [tN]
   show (a8 (fg (m.code.getD i default)) (b ++ bi (m.code.take i))).bind _ = _
   rw [i5 _ _ hx (by have : (fg (m.code.getD i default)).length = 6 := rfl; rw [List.length_append, this]; omega)]
   simp only [bSq]
   rw [wrs i (by omega), et, List.append_assoc])
  (by
   show bj m _ (m.code.length : Int) = _
   unfold bj
   rw [iN (ff _), List.take_length])
 have h0 : (b ++ bi (m.code.take 0), ((0 : Nat) : Int)) = (b, (0 : Int)) := by simp [bi]
 rw [h0] at this
 exact this
theorem kO {m : ag} {f : ao} (hm : okM m) (h1 : m.put.length ≤ 100000) (h2 : m.bools.length ≤ 100000) (h3 : m.get.length ≤ 100000) (h4 : m.code.length ≤ 100000) (hc : dg m = some f) :
  cK m = some (if f.code = 0 then (aG m ++ cY (dk (aG m)).toNat, ao.mk 0 0) else ([], f)) := by
 have hby := gI hm h1 h2 h3 h4
 obtain ⟨a1, a2, a3, a4, a5⟩ := hm
 unfold cK
 rw [hc]
 simp only [bSq]
 by_cases hf : f.code = 0
 ·rw [iN (not_not_intro hf), iP hf]
  have l1 := co [m.cells, m.regs, m.cost] a1
  have l2 := co _ (i7 a2 h1)
  have l3 := co _ (i7 a3 h2)
  have l4 := co _ (i7 a4 h3)
  have oc : ∀ n ∈ [(m.code.length : Int)], okN n := by intro n hn; simp only [List.mem_singleton] at hn; unfold okN; omega
  have l5 := co [(m.code.length : Int)] oc
  have l6 := jh m.code a5
  simp only [List.length_cons, List.length_nil] at l1 l2 l3 l4 l5
  rw [show (lit ([m.cells, m.regs, m.cost] : List Int)) = [m.cells, m.regs, m.cost] from rfl, show (lit ([76, 87, 1] : List Int)) = [76, 87, 1] from rfl, i5 _ _ a1 (by simp)]
  simp only [bSq]
  rw [kb _ _ a2 (by simp only [List.length_append, List.length_cons, List.length_nil]; omega)]
  simp only [bSq]
  rw [kb _ _ a3 (by simp only [List.length_append, List.length_cons, List.length_nil]; omega)]
  simp only [bSq]
  rw [kb _ _ a4 (by simp only [List.length_append, List.length_cons, List.length_nil]; omega)]
  simp only [bSq]
  rw [show (lit ([(m.code.length : Int)] : List Int)) = [(m.code.length : Int)] from rfl, i5 _ _ oc (by simp only [List.length_append, List.length_cons, List.length_nil]; omega)]
  simp only [bSq]
  show (bz (fun (x : List Int × Int) => bj m x.1 x.2) (_, 0)).bind _ = _
  rw [nw m _ a5 (by simp only [List.length_append, List.length_cons, List.length_nil]; omega) h4]
  simp only [bSq]
  show cq (aG m) = _
  have hbl : (aG m).length ≤ 20000000 := by unfold aG; simp only [List.length_append, List.length_cons, List.length_nil]; omega
  unfold cq
  rw [ot, mt _ hby (by omega)]
  simp only [bSq]
  have hs := ll hby
  show (bz (fun (x : List Int × Int × Int) => aY x.1 x.2.1 x.2.2) (aG m, dk (aG m), 0)).bind _ = _
  have e := nv (aG m) (dk (aG m)).toNat (by omega)
  rw [show (((dk (aG m)).toNat : Nat) : Int) = dk (aG m) by omega] at e
  rw [e]
  rfl
 ·rw [iP hf, iN hf]
theorem mw {b : List Int} {p : Nat} {l : List aD} {r : List Int} {q : ah} (hq : q.b = b) (hbl : b.length ≤ 100000000) (hl : ∀ x ∈ l, ∀ n ∈ fg x, okN n) (hll : l.length ≤ 1000000) (hle : p ≤ b.length) (h : b.drop p = bi l ++ r) (y : Int × Int) (hy : y.1 = (l.length : Int)) :
  bz (fun (x : Int × List aD × Int) => aF q y x.1 x.2.1 x.2.2) ((p : Int), [], 0) = some (.inl (((p + (bi l).length : Nat) : Int), l)) := by
 have capp : ∀ l m : List aD, bi (l ++ m) = bi l ++ bi m := fun l m => by unfold bi; simp
 have ccons : ∀ (x : aD) (l : List aD), bi (x :: l) = ax (fg x) ++ bi l := fun x l => by unfold bi; simp
 have hdr : ∀ i, i ≤ l.length → b.drop (p + (bi (l.take i)).length) = bi (l.drop i) ++ r ∧ p + (bi (l.take i)).length ≤ b.length := by
  intro i hi
  have e : bi l ++ r = bi (l.take i) ++ (bi (l.drop i) ++ r) := by rw [← List.append_assoc, ← capp, List.take_append_drop]
  refine ⟨by rw [← List.drop_drop, h, e, List.drop_left], ?_⟩
  have := congrArg List.length h
  rw [e] at this
  simp only [List.length_drop, List.length_append] at this
  omega
 have hloop := mR (S := Int × List aD × Int) (T := Int × List aD) (Z := (ag × Int) ⊕ (Int × Int)) (fun i => (((p + (bi (l.take i)).length : Nat) : Int), l.take i, (i : Int)))
  (body := fun x => aF q y x.1 x.2.1 x.2.2) l.length (fun _ => none) (((p + (bi l).length : Nat) : Int), l)
  (by
   intro i hi
   obtain ⟨d1, d2⟩ := hdr i (by omega)
   obtain ⟨a, ha⟩ : ∃ a, a = p + (bi (l.take i)).length := ⟨_, rfl⟩
   rw [← ha] at d1 d2
   rw [kL l i hi, ccons] at d1
   have hok := hl _ (eH hi)
   obtain ⟨x, hx⟩ : ∃ x, x = l.getD i default := ⟨_, rfl⟩
   rw [← hx] at d1 hok
   have e6 : ax (fg x) = bg (zig x.op) ++ (bg (zig x.k) ++ (bg (zig x.r_) ++ (bg (zig x.a) ++ (bg (zig x.b) ++ (bg (zig x.n) ++ []))))) := by
    unfold fg
    simp only [cr]
    rfl
   have et : bi (l.take (i + 1)) = bi (l.take i) ++ ax (fg x) := by rw [ck _ hi, capp, ccons, hx]; simp [bi]
   rw [e6] at d1
   simp only [List.append_assoc, List.nil_append] at d1
   obtain ⟨s1, d1, d2⟩ := cX hbl (hok x.op (by simp [fg])) d2 d1
   obtain ⟨s2, d1, d2⟩ := cX hbl (hok x.k (by simp [fg])) d2 d1
   obtain ⟨s3, d1, d2⟩ := cX hbl (hok x.r_ (by simp [fg])) d2 d1
   obtain ⟨s4, d1, d2⟩ := cX hbl (hok x.a (by simp [fg])) d2 d1
   obtain ⟨s5, d1, d2⟩ := cX hbl (hok x.b (by simp [fg])) d2 d1
   obtain ⟨s6, d1, d2⟩ := cX hbl (hok x.n (by simp [fg])) d2 d1
   show aF q y ((p + (bi (l.take i)).length : Nat) : Int) (l.take i) (i : Int) = some (.inl (((p + (bi (l.take (i + 1))).length : Nat) : Int), l.take (i + 1), ((i + 1 : Nat) : Int)))
   unfold aF
   rw [hy, iP (show (i : Int) < (l.length : Int) by omega), hq, ← ha]
   simp only [s1, s2, s3, s4, s5, s6, bSq, Sum.elim_inl]
   have hrm : iX ((l.take i).length + 1) 48 := by
    unfold iX
    have : maxLen = 9223372036854775807 := rfl
    have : (l.take i).length = i := by simp; omega
    omega
   rw [iP hrm, wrs i (by omega), et, ck _ hi, ← hx, e6]
   have el : a + (bg (zig x.op)).length + (bg (zig x.k)).length + (bg (zig x.r_)).length + (bg (zig x.a)).length + (bg (zig x.b)).length + (bg (zig x.n)).length =
     p + (bi (l.take i) ++ (bg (zig x.op) ++ (bg (zig x.k) ++ (bg (zig x.r_) ++ (bg (zig x.a) ++ (bg (zig x.b) ++ (bg (zig x.n) ++ []))))))).length := by
    simp only [List.length_append, List.length_nil, ha]; omega
   rw [el]
   rfl)
  (by
   show aF q y _ _ (l.length : Int) = _
   unfold aF
   rw [hy, iN (by simp), List.take_length])
 have e0 : (((p + (bi (l.take 0)).length : Nat) : Int), l.take 0, ((0 : Nat) : Int)) = ((p : Int), ([] : List aD), (0 : Int)) := by simp [bi]
 rw [e0, kK (fun _ _ => rfl)] at hloop
 exact hloop
theorem lS : ∀ l : List aD, 6 * l.length ≤ (bi l).length
 | [] => by simp
 | x :: l => by
  have := lS l
  have h6 := i6 (fg x)
  have h3 : (fg x).length = 6 := rfl
  unfold bi at this ⊢
  simp only [List.flatMap_cons, List.length_append, List.length_cons]
  omega
theorem ny {m : ag} (hm : okM m) (hbl : (aG m).length ≤ 100000000) (h4 : m.code.length ≤ 1000000) :
  b9 (ah.mk (aG m) 3) = some (.inl (m, ((aG m).length : Int))) := by
 obtain ⟨a1, a2, a3, a4, a5⟩ := hm
 have d0 : (aG m).drop 3 = bg (zig m.cells) ++ (bg (zig m.regs) ++ (bg (zig m.cost) ++ (ax ((m.put.length : Int) :: m.put) ++ (ax ((m.bools.length : Int) :: m.bools) ++ (ax ((m.get.length : Int) :: m.get) ++ (bg (zig (m.code.length : Int)) ++ (bi m.code ++ []))))))) := by
  have e1 : ax [m.cells, m.regs, m.cost] = bg (zig m.cells) ++ (bg (zig m.regs) ++ (bg (zig m.cost) ++ [])) := by simp only [cr]; rfl
  have e2 : ax [(m.code.length : Int)] = bg (zig (m.code.length : Int)) ++ [] := by simp only [cr]; rfl
  unfold aG
  rw [e1, e2]
  simp
 have hle : 3 ≤ (aG m).length := by unfold aG; simp
 obtain ⟨s1, d1, b1⟩ := cX hbl (a1 m.cells (by simp)) hle d0
 obtain ⟨s2, d2, b2⟩ := cX hbl (a1 m.regs (by simp)) b1 d1
 obtain ⟨s3, d3, b3⟩ := cX hbl (a1 m.cost (by simp)) b2 d2
 obtain ⟨s4, d4, b4⟩ := iJ hbl a2 b3 d3
 obtain ⟨s5, d5, b5⟩ := iJ hbl a3 b4 d4
 obtain ⟨s6, d6, b6⟩ := iJ hbl a4 b5 d5
 have hge := lS m.code
 obtain ⟨s7, d7, b7⟩ := jq (k := 6) hbl (by unfold okN; omega) (by omega) (by omega) b6 d6 (by simp only [List.length_append]; omega)
 obtain ⟨p, hp⟩ : ∃ p, p = 3 + (bg (zig m.cells)).length + (bg (zig m.regs)).length + (bg (zig m.cost)).length + (ax ((m.put.length : Int) :: m.put)).length + (ax ((m.bools.length : Int) :: m.bools)).length + (ax ((m.get.length : Int) :: m.get)).length + (bg (zig (m.code.length : Int))).length := ⟨_, rfl⟩
 rw [← hp] at s7 d7 b7
 have hlp := mw (q := ah.mk (aG m) 3) rfl hbl a5 h4 b7 d7 ((m.code.length : Int), (p : Int)) rfl
 have hend : p + (bi m.code).length = (aG m).length := by
  have := congrArg List.length d7
  simp only [List.length_drop, List.append_nil] at this
  omega
 unfold b9
 rw [show (3 : Int) = ((3 : Nat) : Int) from rfl]
 simp only [s1, s2, s3, s4, s5, s6, bSq, Sum.elim_inl]
 rw [show (6 : Int) = ((6 : Nat) : Int) from rfl, s7]
 simp only [bSq, Sum.elim_inl]
 show (bz (fun (x : Int × List aD × Int) => aF (ah.mk (aG m) 3) ((m.code.length : Int), (p : Int)) x.1 x.2.1 x.2.2) ((p : Int), [], 0)).bind _ = _
 rw [hlp, hend]
 rfl
theorem qZ (a b : Nat) (ha : a < 4294967296) (hb : b < 4294967296) : bits .or .u32 (a : Int) (b : Int) = ((a ||| b : Nat) : Int) := by
 have hx : a ||| b < 2 ^ 32 := Nat.or_lt_two_pow (by omega) (by omega)
 have h1 : (BitVec.ofInt 32 (a : Int)).toNat = a := by
  rw [BitVec.ofInt_natCast, BitVec.toNat_ofNat]; exact Nat.mod_eq_of_lt (by omega)
 have h2 : (BitVec.ofInt 32 (b : Int)).toNat = b := by
  rw [BitVec.ofInt_natCast, BitVec.toNat_ofNat]; exact Nat.mod_eq_of_lt (by omega)
 show IntKind.u32.wrap ((BitVec.ofInt 32 (a : Int) ||| BitVec.ofInt 32 (b : Int)).toNat : Int) = _
 rw [BitVec.toNat_or, h1, h2, IntKind.wrap_u32]
 omega
theorem kc (a b k : Nat) (ha : a < 2 ^ k) (h : a + b * 2 ^ k < 4294967296) : bits .or .u32 (a : Int) ((b * 2 ^ k : Nat) : Int) = ((a + b * 2 ^ k : Nat) : Int) := by
 rw [qZ _ _ (by omega) (by omega)]
 congr 1
 have h1 := Nat.shiftLeft_add_eq_or_of_lt ha b
 rw [Nat.shiftLeft_eq] at h1
 rw [Nat.or_comm, ← h1, Nat.add_comm]
theorem ou (x k : Nat) (hx : x < 256) (hk : k ≤ 24) : IntKind.wrap .u32 ((IntKind.wrap .u32 (x : Int)) * 2 ^ (min k (IntKind.bits .u32))) = ((x * 2 ^ k : Nat) : Int) := by
 have e1 : min k (IntKind.bits .u32) = k := Nat.min_eq_left (by show k ≤ 32; omega)
 have e2 : IntKind.wrap .u32 (x : Int) = (x : Int) := by rw [IntKind.wrap_u32]; omega
 rw [e1, e2]
 have e4 : (x : Int) * 2 ^ k = ((x * 2 ^ k : Nat) : Int) := by rw [Int.natCast_mul]; congr 1
 have hp : 2 ^ k ≤ 2 ^ 24 := Nat.pow_le_pow_right (by decide) hk
 have hle : x * 2 ^ k ≤ 255 * 2 ^ 24 := Nat.mul_le_mul (by omega) hp
 rw [e4, IntKind.wrap_u32]
 omega
def kd (a b c d : Nat) : Nat := a + b * 2 ^ 8 + c * 2 ^ 16 + d * 2 ^ 24
theorem pd (a b c d : Nat) (ha : a < 256) (hb : b < 256) (hc : c < 256) (hd : d < 256) :
  bits .or .u32 (bits .or .u32 (bits .or .u32 (IntKind.wrap .u32 (a : Int)) (IntKind.wrap .u32 ((IntKind.wrap .u32 (b : Int)) * 2 ^ (min 8 (IntKind.bits .u32))))) (IntKind.wrap .u32 ((IntKind.wrap .u32 (c : Int)) * 2 ^ (min 16 (IntKind.bits .u32)))))
   (IntKind.wrap .u32 ((IntKind.wrap .u32 (d : Int)) * 2 ^ (min 24 (IntKind.bits .u32)))) = (kd a b c d : Int) := by
 have e0 : IntKind.wrap .u32 (a : Int) = (a : Int) := by rw [IntKind.wrap_u32]; omega
 rw [e0, ou b 8 hb (by decide), ou c 16 hc (by decide), ou d 24 hd (by decide), kc a b 8 (by omega) (by omega), kc _ c 16 (by omega) (by omega), kc _ d 24 (by omega) (by omega)]
 rfl
theorem ow {a b c d a' b' c' d' : Nat} (ha : a < 256) (hb : b < 256) (hc : c < 256) (hd : d < 256) (ha' : a' < 256) (hb' : b' < 256) (hc' : c' < 256) (hd' : d' < 256) (h : kd a b c d = kd a' b' c' d') : a = a' ∧ b = b' ∧ c = c' ∧ d = d' := by
 unfold kd at h; omega
theorem kP {s : Nat} (h : s < 4294967296) : kd (s % 256) (s / 256 % 256) (s / 65536 % 256) (s / 16777216 % 256) = s := by
 unfold kd; omega
theorem kQ {l : List Int} {n : Nat} (hl : l.length = n + 4) (hn : 3 ≤ n) (hbig : n ≤ 90000000) (hb : eY l) :
    cL l = (if js (l.take 3) = [76, 87, 1] then
      (if ¬ dk (l.take n) = (kd (l.getD n default).toNat (l.getD (n + 1) default).toNat (l.getD (n + 2) default).toNat (l.getD (n + 3) default).toNat : Int) then some (ag.mk 0 0 0 [] [] [] [], ao.mk 19 (n : Int))
       else (b9 (ah.mk (l.take n) 3)).bind fun y2 => Sum.elim (fun y5 => if y5.2 < (n : Int) then (some ((ag.mk 0 0 0 [] [] [] []), (ao.mk 4 y5.2))) else ((dg (y5.1)).bind fun y7 => if ¬ ((y7).code) = 0 then (some ((ag.mk 0 0 0 [] [] [] []), (ao.mk 18 (n : Int)))) else (some ((y5.1), (ao.mk 0 0)))))
        (fun y6 => some ((ag.mk 0 0 0 [] [] [] []), (ao.mk y6.1 y6.2))) y2)
      else some (ag.mk 0 0 0 [] [] [] [], ao.mk 4 0)) := by
  have w0 : IntKind.wrap .i64 ((l.length : Int) - 4) = (n : Int) := by rw [wr (by omega) (by omega)]; omega
  have w1 : IntKind.wrap .i64 ((n : Int) + 1) = ((n + 1 : Nat) : Int) := by rw [wr (by omega) (by omega)]; omega
  have w2 : IntKind.wrap .i64 ((n : Int) + 2) = ((n + 2 : Nat) : Int) := by rw [wr (by omega) (by omega)]; omega
  have w3 : IntKind.wrap .i64 ((n : Int) + 3) = ((n + 3 : Nat) : Int) := by rw [wr (by omega) (by omega)]; omega
  have bt : ∀ k, k < l.length → ((l.getD k default).toNat : Int) = l.getD k default ∧ (l.getD k default).toNat < 256 := fun k hk => by
    have := hb _ (eH hk); omega
  obtain ⟨a1, a2⟩ := bt n (by omega)
  obtain ⟨b1, b2⟩ := bt (n + 1) (by omega)
  obtain ⟨c1, c2⟩ := bt (n + 2) (by omega)
  obtain ⟨d1, d2⟩ := bt (n + 3) (by omega)
  have hv := pd _ _ _ _ a2 b2 c2 d2
  rw [a1, b1, c1, d1] at hv
  unfold cL
  rw [w0, w1, w2, w3]
  rw [iN (by omega), iP (by omega)]
  simp only [tN]
  rw [hv]
  by_cases hs : js (l.take 3) = [76, 87, 1]
  · rw [iP hs, iP hs, iP (by refine ⟨?_, ?_, ?_, ?_⟩ <;> omega), iP (by omega), mt _ (fun x hx => hb x (List.mem_of_mem_take hx)) (by simp; omega)]
    rfl
  · rw [iN hs, iN hs]
def dl (m : ag) : List Int := aG m ++ cY (dk (aG m)).toNat
theorem hZ (s : Nat) : (cY s).length = 4 := rfl
theorem iK (s : Nat) : eY (cY s) := by
 intro x hx
 unfold cY at hx
 simp only [List.mem_cons, List.not_mem_nil, or_false] at hx
 omega
theorem ke (m : ag) : ∃ r, aG m = [76, 87, 1] ++ r := by unfold aG; simp only [List.append_assoc]; exact ⟨_, rfl⟩
theorem lT (m : ag) : 3 ≤ (aG m).length := by obtain ⟨r, h⟩ := ke m; rw [h]; simp
theorem gi (b : List Int) (s j : Nat) (hj : j < 4) : (b ++ cY s).getD (b.length + j) default = (cY s).getD j default := by
 simp only [List.getD]
 rw [List.getElem?_append_right (by omega)]
 congr 2
 omega
theorem lU {m : ag} {f : ao} (hm : okM m) (h1 : m.put.length ≤ 100000) (h2 : m.bools.length ≤ 100000) (h3 : m.get.length ≤ 100000) (h4 : m.code.length ≤ 100000) (hbl : (aG m).length ≤ 90000000) (hc : dg m = some f) (hf : f.code = 0) :
  cL (dl m) = some (m, ao.mk 0 0) := by
 have hby := gI hm h1 h2 h3 h4
 have hs := ll hby
 have hge := lT m
 unfold dl
 rw [kQ (n := (aG m).length) (by rw [List.length_append, hZ]) hge hbl (dR hby (iK _))]
 have ht3 : js ((aG m ++ cY (dk (aG m)).toNat).take 3) = [76, 87, 1] := by
  obtain ⟨r, h⟩ := ke m
  rw [h]
  rfl
 rw [iP ht3, List.take_left]
 have g0 := gi (aG m) (dk (aG m)).toNat 0 (by decide)
 have g1 := gi (aG m) (dk (aG m)).toNat 1 (by decide)
 have g2 := gi (aG m) (dk (aG m)).toNat 2 (by decide)
 have g3 := gi (aG m) (dk (aG m)).toNat 3 (by decide)
 rw [Nat.add_zero] at g0
 rw [g0, g1, g2, g3]
 have hv : kd ((cY (dk (aG m)).toNat).getD 0 default).toNat ((cY (dk (aG m)).toNat).getD 1 default).toNat ((cY (dk (aG m)).toNat).getD 2 default).toNat ((cY (dk (aG m)).toNat).getD 3 default).toNat = (dk (aG m)).toNat := by
  have := kP (s := (dk (aG m)).toNat) (by omega)
  exact this
 rw [hv, iN (by omega), ny hm (by omega) (by omega)]
 simp only [bSq, Sum.elim_inl]
 rw [iN (by omega), hc]
 simp only [bSq]
 rw [iN (not_not_intro hf)]
theorem fN (l : List Int) (i k : Nat) (y : Int) (h : i ≠ k) : (l.set i y).getD k default = l.getD k default := by
 simp only [List.getD, List.getElem?_set_ne h]
theorem fO (l : List Int) (i : Nat) (y : Int) (h : i < l.length) : (l.set i y).getD i default = y := by
 simp [List.getD, List.getElem?_set_self h]
theorem lV {m : ag} (hm : okM m) (h1 : m.put.length ≤ 100000) (h2 : m.bools.length ≤ 100000) (h3 : m.get.length ≤ 100000) (h4 : m.code.length ≤ 100000) (hbl : (aG m).length ≤ 90000000)
  {i : Nat} (hi : i < (dl m).length) {y : Int} (hy : 0 ≤ y ∧ y < 256) (hne : y ≠ (dl m).getD i default) :
  ∃ p f, cL ((dl m).set i y) = some (p, f) ∧ f.code ≠ 0 := by
 have hby := gI hm h1 h2 h3 h4
 have hs := ll hby
 have hge := lT m
 have hal : eY (dl m) := dR hby (iK _)
 have hll : (dl m).length = (aG m).length + 4 := by unfold dl; rw [List.length_append, hZ]
 have hsb : eY ((dl m).set i y) := fun x hx => by
  rcases List.mem_or_eq_of_mem_set hx with h | h
  ·exact hal x h
  ·rw [h]; exact hy
 obtain ⟨n, hn⟩ : ∃ n, n = (aG m).length := ⟨_, rfl⟩
 rw [kQ (n := n) (by rw [List.length_set]; omega) (by omega) (by omega) hsb]
 by_cases hst : js (((dl m).set i y).take 3) = [76, 87, 1]
 ·rw [iP hst]
  have hd : ¬ dk (((dl m).set i y).take n) = (kd (((dl m).set i y).getD n default).toNat (((dl m).set i y).getD (n + 1) default).toNat (((dl m).set i y).getD (n + 2) default).toNat (((dl m).set i y).getD (n + 3) default).toNat : Int) := by
   intro he
   have gt : ∀ j, j < 4 → (dl m).getD (n + j) default = (cY (dk (aG m)).toNat).getD j default := fun j hj => by rw [hn]; exact gi _ _ _ hj
   have g0 := gt 0 (by decide)
   have g1 := gt 1 (by decide)
   have g2 := gt 2 (by decide)
   have g3 := gt 3 (by decide)
   rw [Nat.add_zero] at g0
   have hvt := kP (s := (dk (aG m)).toNat) (by omega)
   by_cases hin : i < n
   ·have et : ((dl m).set i y).take n = (aG m).set i y := by
     have hsl : ((aG m).set i y).length = n := by rw [List.length_set]; omega
     unfold dl
     rw [List.set_append_left _ _ (by omega), ← hsl, List.take_left]
    rw [et, fN _ _ _ _ (by omega), fN _ _ _ _ (by omega), fN _ _ _ _ (by omega), fN _ _ _ _ (by omega), g0, g1, g2, g3] at he
    have hv : kd ((cY (dk (aG m)).toNat).getD 0 default).toNat ((cY (dk (aG m)).toNat).getD 1 default).toNat ((cY (dk (aG m)).toNat).getD 2 default).toNat ((cY (dk (aG m)).toNat).getD 3 default).toNat = (dk (aG m)).toNat := hvt
    rw [hv] at he
    have := oi hby (by omega) hy (he.trans (by omega))
    refine hne (this.trans ?_)
    unfold dl
    simp only [List.getD]
    rw [List.getElem?_append_left (by omega), List.getElem?_eq_getElem (by omega)]
    rfl
   ·have et : ((dl m).set i y).take n = aG m := by
     unfold dl
     rw [List.set_append_right _ _ (by omega), hn, List.take_left]
    rw [et] at he
    have bt : ∀ k, k < (dl m).length → (((dl m).set i y).getD k default).toNat < 256 := fun k hk => by
     have := hsb _ (eH (show k < ((dl m).set i y).length by rw [List.length_set]; exact hk)); omega
    obtain ⟨q0, q1, q2, q3⟩ := ow (bt n (by omega)) (bt (n + 1) (by omega)) (bt (n + 2) (by omega)) (bt (n + 3) (by omega)) (Nat.mod_lt _ (by decide)) (Nat.mod_lt _ (by decide)) (Nat.mod_lt _ (by decide)) (Nat.mod_lt _ (by decide)) (show _ = kd ((dk (aG m)).toNat % 256) ((dk (aG m)).toNat / 256 % 256) ((dk (aG m)).toNat / 65536 % 256) ((dk (aG m)).toNat / 16777216 % 256) by rw [hvt]; omega)
    have hcs : i = n ∨ i = n + 1 ∨ i = n + 2 ∨ i = n + 3 := by omega
    rcases hcs with e | e | e | e
    ·subst e; rw [fO _ _ _ hi] at q0; refine hne ?_; rw [g0]; show y = ((_ : Nat) : Int); omega
    ·subst e; rw [fO _ _ _ hi] at q1; refine hne ?_; rw [g1]; show y = ((_ : Nat) : Int); omega
    ·subst e; rw [fO _ _ _ hi] at q2; refine hne ?_; rw [g2]; show y = ((_ : Nat) : Int); omega
    ·subst e; rw [fO _ _ _ hi] at q3; refine hne ?_; rw [g3]; show y = ((_ : Nat) : Int); omega
  rw [iP hd]
  exact ⟨_, _, rfl, by show (19 : Int) ≠ 0; decide⟩
 ·rw [iN hst]
  exact ⟨_, _, rfl, by decide⟩
def dM (regs r : Int) : Bool := decide (0 ≤ r ∧ r < regs)
theorem ox (l : List Int) (j : br) (hl : l.length ≤ 9000000) :
  bu l j = some (match i4 l.length (fun i => if dM j.m_.regs (l.getD i default) then none else some (i : Int)) () with | .inr i => i | .inl _ => -1) := by
 unfold bu
 rw [gf l.length (fun i => if dM j.m_.regs (l.getD i default) then none else some (i : Int)) ()]
 ·rcases gF l.length (fun i => if dM j.m_.regs (l.getD i default) then none else some (i : Int)) () with ⟨h, _⟩ | ⟨i, z, _, _, h⟩
  ·rw [h]; rfl
  ·rw [h]; rfl
 ·intro i hi
  unfold bf
  rw [iP (ltI hi), iP (inI hi), tN, wrs i (by omega)]
  unfold dQ
  by_cases h1 : l.getD i default < 0
  ·rw [iP h1]; simp only [bSq, if_true]; rw [iN (by simp only [dM, decide_eq_true_eq]; omega)]
  ·rw [iN h1]; simp only [bSq]
   by_cases h2 : l.getD i default ≥ j.m_.regs
   ·rw [iP (dT h2), iN (by simp only [dM, decide_eq_true_eq]; omega)]
   ·rw [iN (by simp only [decide_eq_true_eq]; exact h2), iP (by simp only [dM, decide_eq_true_eq]; omega)]
 ·unfold bf
  rw [iN (ff _)]
theorem pT (j : br) (l : List Int) (hl : l.length ≤ 9000000) : aU j l = some (l.all (dM j.m_.regs)) := by
 unfold aU bx
 rw [ox l j hl, lN]
 rcases gF l.length (fun i => if dM j.m_.regs (l.getD i default) then none else some (i : Int)) () with ⟨h, h'⟩ | ⟨i, z, hi, hf, h⟩
 ·rw [h]
  have : ∀ i, i < l.length → dM j.m_.regs (l.getD i default) = true := fun i hi => by have := h' i hi; simpa using this
  rw [dT this]; rfl
 ·rw [h]
  have hn : ¬ ∀ i, i < l.length → dM j.m_.regs (l.getD i default) = true := fun k => by rw [iP (k i hi)] at hf; cases hf
  rw [dF hn]
  have : z = i := by split at hf <;> simp_all
  subst this
  simp
theorem nA (m : ag) (l : List Int) (hl : l.length ≤ 9000000) : cC m l = some (l.all (dM m.regs)) := by
 unfold cC
 rw [gf l.length (fun i => if dM m.regs (l.getD i default) then none else some false) ()]
 ·rw [lN]
  rcases gF l.length (fun i => if dM m.regs (l.getD i default) then none else some false) () with ⟨h, h'⟩ | ⟨i, z, hi, hf, h⟩
  ·rw [h]
   have : ∀ i, i < l.length → dM m.regs (l.getD i default) = true := fun i hi => by have := h' i hi; simpa using this
   rw [dT this]; rfl
  ·rw [h]
   have hn : ¬ ∀ i, i < l.length → dM m.regs (l.getD i default) = true := fun k => by rw [iP (k i hi)] at hf; cases hf
   rw [dF hn]
   have : z = false := by split at hf <;> simp_all
   subst this; rfl
 ·intro i hi
  unfold fT
  rw [iP (ltI hi), iP (inI hi), tN, wrs i (by omega)]
  by_cases h1 : l.getD i default < 0
  ·rw [iP h1, iN (by simp only [dM, decide_eq_true_eq]; omega)]
  ·rw [iN h1]
   by_cases h2 : l.getD i default ≥ m.regs
   ·rw [iP h2, iN (by simp only [dM, decide_eq_true_eq]; omega)]
   ·rw [iN h2, iP (by simp only [dM, decide_eq_true_eq]; omega)]
 ·unfold fT
  rw [iN (ff _)]
def fh (cells a n : Int) : Bool := decide (1 ≤ n ∧ n ≤ cells ∧ 0 ≤ a ∧ a ≤ cells - n)
theorem oy (j : br) (a n : Int) (h1 : 1 ≤ j.m_.cells) (h2 : j.m_.cells ≤ 6000) : bV j a n = some (fh j.m_.cells a n) := by
 unfold bV fh
 by_cases a1 : n ≥ 1
 ·rw [iP a1]
  by_cases a2 : n ≤ j.m_.cells
  ·rw [iP a2, wr (by omega) (by omega)]
   by_cases a3 : a ≥ 0
   ·rw [iP a3]; congr 1; rw [Bool.eq_iff_iff]; simp only [decide_eq_true_eq]; omega
   ·rw [iN a3]; congr 1; symm; rw [decide_eq_false_iff_not]; omega
  ·rw [iN a2]; congr 1; symm; rw [decide_eq_false_iff_not]; omega
 ·rw [iN a1]; congr 1; symm; rw [decide_eq_false_iff_not]; omega
def kg (k : Int) : Int := if 1 ≤ k ∧ k ≤ 12 then 2 else if k = 13 ∨ k = 14 then 1 else 0
theorem qJ (k : Int) : ∃ a b, hL k = some (a, b, kg k) := by
 unfold hL kg
 repeat' split
 all_goals first
  | exact ⟨_, _, rfl⟩
  | (exfalso; omega)
theorem pe (k : Int) : ∃ a b, kf k = some (a, b, kg k) := by
 unfold kf
 by_cases h1 : k < 1
 ·rw [iP h1]; exact ⟨0, 0, by unfold kg; rw [iN (by omega), iN (by omega)]⟩
 ·rw [iN h1]
  by_cases h2 : k > 14
  ·rw [iP h2]; exact ⟨0, 0, by unfold kg; rw [iN (by omega), iN (by omega)]⟩
  ·rw [iN h2]
   have hg : (0 ≤ k ∧ k < (([63, 105, 105, 105, 105, 105, 105, 105, 105, 105, 98, 98, 98, 105, 98] : List UInt8).length : Int)) ∧ (0 ≤ k ∧ k < (([63, 105, 105, 105, 105, 105, 105, 105, 98, 98, 98, 98, 98, 105, 98] : List UInt8).length : Int)) := by
    simp only [List.length_cons, List.length_nil]; omega
   by_cases h3 : k ≥ 13
   ·rw [iP h3]; unfold fP; rw [iP hg]; exact ⟨_, _, by unfold kg; rw [iN (by omega), iP (by omega)]⟩
   ·rw [iN h3]; unfold fP; rw [iP hg]; exact ⟨_, _, by unfold kg; rw [iP (by omega)]⟩
theorem pf (m : ag) (x : aD) (h1 : 1 ≤ m.cells) (h2 : m.cells ≤ 6000) : ∃ b, cp (br.mk m) x = some b ∧ ji m x = some b := by
 obtain ⟨a, b, e1⟩ := qJ x.k
 obtain ⟨a', b', e2⟩ := pe x.k
 have r1 : ∀ l : List Int, l.length ≤ 9000000 → aU (br.mk m) l = some (l.all (dM m.regs)) := fun l hl => pT _ l hl
 have r2 : ∀ l : List Int, l.length ≤ 9000000 → cC m l = some (l.all (dM m.regs)) := fun l hl => nA _ l hl
 have c1 : ∀ a n, bV (br.mk m) a n = some (fh m.cells a n) := fun a n => oy _ a n h1 h2
 unfold cp ji
 rw [e1, e2]
 simp only [bSq]
 unfold bY gK bW gJ
 have q1 := r1 (lit [x.r_]) (by simp [lit])
 have q2 := r1 (lit [x.r_, x.a]) (by simp [lit])
 have q3 := r1 (lit [x.r_, x.a, x.b]) (by simp [lit])
 have p1 := r2 (lit [x.r_]) (by simp [lit])
 have p2 := r2 (lit [x.r_, x.a]) (by simp [lit])
 have p3 := r2 (lit [x.r_, x.a, x.b]) (by simp [lit])
 rw [q1, q2, q3, p1, p2, p3]
 simp only [bSq, c1]
 generalize (lit [x.r_]).all (dM m.regs) = g1
 generalize (lit [x.r_, x.a]).all (dM m.regs) = g2
 generalize (lit [x.r_, x.a, x.b]).all (dM m.regs) = g3
 have k1 : (if x.n ≥ 0 then some (decide (x.n < m.cells)) else some false) = some (fh m.cells x.n 1) := by
  unfold fh
  split
  ·congr 1; rw [Bool.eq_iff_iff]; simp only [decide_eq_true_eq]; omega
  ·congr 1; symm; rw [decide_eq_false_iff_not]; omega
 have k2 : (if x.n ≥ 0 then if x.n < m.cells then if x.b ≥ 1 then some (decide (x.b ≤ IntKind.wrap .i64 (m.cells - x.n))) else some false else some false else some false) = some (fh m.cells x.n x.b) := by
  unfold fh
  split
  ·split
   ·split
    ·rw [wr (by omega) (by omega)]; congr 1; rw [Bool.eq_iff_iff]; simp only [decide_eq_true_eq]; omega
    ·congr 1; symm; rw [decide_eq_false_iff_not]; omega
   ·congr 1; symm; rw [decide_eq_false_iff_not]; omega
  ·congr 1; symm; rw [decide_eq_false_iff_not]; omega
 rw [k1, k2]
 generalize fh m.cells x.n 1 = g4
 generalize fh m.cells x.n x.b = g5
 have key : ∀ X : Option Bool, X.isSome = true → ∃ b, X = some b ∧ X = some b := fun X h => by
  obtain ⟨b, hb⟩ := Option.isSome_iff_exists.1 h
  exact ⟨b, hb, hb⟩
 refine key _ ?_
 simp only [apply_ite Option.isSome, Option.isSome_some, ite_self]
def iq (n times one : Int) : List aD → Int
 | [] => if one > 0 then 0 else n
 | x :: l =>
  if x.op = 10 then (if times > 1 ∨ one > 0 ∨ x.n < 1 ∨ x.n > 300 then 0 else iq (n + times) x.n 1 l)
  else if x.op = 11 then (if one = 0 then 0 else iq (n + times) 1 0 l)
  else iq (n + times) times one l
theorem kR (l : List aD) (hl : l.length ≤ 9000000) : ∀ (k i : Nat) (n times one : Int), i + k = l.length → 0 ≤ n → n ≤ 300 * i → 1 ≤ times → times ≤ 300 →
  (bz (fun (x11, x12, x13, x14) => de l x11 x12 x13 x14) (n, times, one, (i : Int))).bind (Sum.elim (fun (z15, z16) => dd z15 z16) (fun z17 => some z17)) = some (iq n times one (l.drop i))
 | 0, i, n, times, one, hi, _, _, _, _ => by
  have hi : i = l.length := by omega
  subst hi
  rw [dm (o := .inl (n, one)) (by simp only [de]; rw [iN (ff _)]), List.drop_length]
  simp only [bSq, Sum.elim_inl, dd, iq]
  split <;> rfl
 | k + 1, i, n, times, one, hi, h1, h2, h3, h4 => by
  have hlt : i < l.length := by omega
  rw [ng l i hlt]
  have hw : IntKind.wrap .i64 (n + times) = n + times := wr (by omega) (by omega)
  have hb : de l n times one i = (if (l.getD i default).op = 10 then (if times > 1 ∨ one > 0 ∨ (l.getD i default).n < 1 ∨ (l.getD i default).n > 300 then some (.inr (.inr 0)) else some (.inl (n + times, (l.getD i default).n, 1, ((i + 1 : Nat) : Int))))
    else if (l.getD i default).op = 11 then (if one = 0 then some (.inr (.inr 0)) else some (.inl (n + times, 1, 0, ((i + 1 : Nat) : Int)))) else some (.inl (n + times, times, one, ((i + 1 : Nat) : Int)))) := by
   unfold de
   rw [iP (ltI hlt), iP (inI hlt), tN, hw, wrs i (by omega)]
   by_cases a1 : (l.getD i default).op = 10
   ·rw [iP a1, iP a1]
    by_cases b1 : times > 1
    ·rw [iP b1, iP (.inl b1)]
    ·rw [iN b1]
     by_cases b2 : one > 0
     ·rw [iP b2, iP (.inr (.inl b2))]
     ·rw [iN b2]
      by_cases b3 : (l.getD i default).n < 1
      ·rw [iP b3, iP (.inr (.inr (.inl b3)))]
      ·rw [iN b3]
       by_cases b4 : (l.getD i default).n > 300
       ·rw [iP b4, iP (.inr (.inr (.inr b4)))]
       ·rw [iN b4, iN (by omega)]
   ·rw [iN a1, iN a1]
  generalize l.getD i default = x at hb ⊢
  have ih := fun n' t' o' h1 h2 h3 h4 => kR l hl k (i + 1) n' t' o' (by omega) h1 h2 h3 h4
  simp only [iq]
  by_cases a1 : x.op = 10
  ·rw [iP a1] at hb ⊢
   by_cases b1 : times > 1 ∨ one > 0 ∨ x.n < 1 ∨ x.n > 300
   ·rw [iP b1] at hb ⊢; rw [dm (by simpa using hb)]; rfl
   ·rw [iN b1] at hb ⊢; rw [eh (by simpa using hb)]; exact ih _ _ _ (by omega) (by omega) (by omega) (by omega)
  ·rw [iN a1] at hb ⊢
   by_cases a2 : x.op = 11
   ·rw [iP a2] at hb ⊢
    by_cases b1 : one = 0
    ·rw [iP b1] at hb ⊢; rw [dm (by simpa using hb)]; rfl
    ·rw [iN b1] at hb ⊢; rw [eh (by simpa using hb)]; exact ih _ _ _ (by omega) (by omega) (by omega) (by omega)
   ·rw [iN a2] at hb ⊢; rw [eh (by simpa using hb)]; exact ih _ _ _ (by omega) (by omega) (by omega) (by omega)
theorem pg (l : List aD) (hl : l.length ≤ 9000000) : gc l = some (iq 0 1 0 l) := by
 have := kR l hl l.length 0 0 1 0 (by omega) (by omega) (by omega) (by omega) (by omega)
 unfold gc
 simpa using this
noncomputable def lW (m : ag) (x : aD) : Bool := (cp (br.mk m) x).getD false
theorem pU (m : ag) (x : aD) (h1 : 1 ≤ m.cells) (h2 : m.cells ≤ 6000) : cp (br.mk m) x = some (lW m x) ∧ ji m x = some (lW m x) := by
 obtain ⟨b, e1, e2⟩ := pf m x h1 h2
 unfold lW
 rw [e1, e2]
 exact ⟨rfl, rfl⟩
def ph (m : ag) (l : List Int) (i : Nat) : Option ao := if l.getD i default < 0 ∨ l.getD i default ≥ m.cells then some (ao.mk 16 (-1)) else none
def qK (m : ag) (l : List Int) : Option ao := match i4 l.length (ph m l) () with | .inr z => some z | .inl _ => none
def fG (m : ag) (i : Nat) : List Int := (lit ([m.put, m.bools, m.get] : List (List Int))).getD i default
def F1 (m : ag) : Unit ⊕ ao := i4 3 (fun i => qK m (fG m i)) ()
noncomputable def F2 (m : ag) : Unit ⊕ ao := i4 m.code.length (fun i => if lW m (m.code.getD i default) then none else some (ao.mk 4 i)) ()
def F3 (m : ag) : ao := if iq 0 1 0 m.code ≠ m.cost ∨ (iq 0 1 0 m.code = 0 ∧ (m.code.length : Int) > 0) then ao.mk 18 (-1) else ao.mk 0 0
noncomputable def my (m : ag) : ao :=
 if m.cells < 1 ∨ m.cells > 6000 ∨ m.regs < 1 ∨ m.regs > 40 then ao.mk 13 (-1)
 else if (m.put.length : Int) > 6000 ∨ (m.bools.length : Int) > 6000 ∨ (m.get.length : Int) > 120000 ∨ (m.code.length : Int) > 200000 then ao.mk 7 (-1)
 else match F1 m with
  | .inr z => z
  | .inl _ => match F2 m with
   | .inr z => z
   | .inl _ => F3 m
theorem nC (m : ag) (h : m.put.length ≤ 9000000 ∧ m.bools.length ≤ 9000000 ∧ m.get.length ≤ 9000000) (i : Nat) : (fG m i).length ≤ 9000000 := by
 unfold fG lit
 match i with
 | 0 => exact h.1
 | 1 => exact h.2.1
 | 2 => exact h.2.2
 | i + 3 => exact Nat.zero_le _
theorem pi (m : ag) (x : Nat) (hx : x < 3) (hl : (fG m x).length ≤ 9000000) : bz (fun x12 => du m x x12) 0 = some (i4 (fG m x).length (ph m (fG m x)) ()) := by
 refine gf _ _ _ (fun i hi => ?_) ?_
 ·unfold du
  rw [tN, tN]
  show (if (i : Int) < ((fG m x).length : Int) then _ else _) = _
  rw [iP (ltI hi)]
  show (if 0 ≤ (i : Int) ∧ (i : Int) < ((fG m x).length : Int) then _ else _) = _
  rw [iP (inI hi), wrs i (by omega)]
  show (if (fG m x).getD i default < 0 then _ else if (fG m x).getD i default ≥ m.cells then _ else _) = _
  unfold ph
  by_cases a : (fG m x).getD i default < 0
  ·rw [iP a, iP (.inl a)]
  ·rw [iN a]
   by_cases b : (fG m x).getD i default ≥ m.cells
   ·rw [iP b, iP (.inr b)]
   ·rw [iN b, iN (by omega)]
 ·unfold du
  rw [tN]
  exact iN (ff (fG m x).length)
theorem pj (m : ag) (h : m.put.length ≤ 9000000 ∧ m.bools.length ≤ 9000000 ∧ m.get.length ≤ 9000000) : bz (fun x9 => dv m x9) 0 = some (F1 m) := by
 refine gf 3 _ _ (fun i hi => ?_) ?_
 ·unfold dv
  have h3 : (i : Int) < 3 := by omega
  rw [iP h3, iP ⟨by omega, h3⟩, pi m i hi (nC m h i)]
  unfold qK
  rcases gF (fG m i).length (ph m (fG m i)) () with ⟨e, _⟩ | ⟨j, z, _, _, e⟩
  ·rw [e]; simp only [bSq, Sum.elim_inl, dt]; rw [wrs i (by omega)]
  ·rw [e]; rfl
 ·unfold dv; rfl
theorem pk (m : ag) (h1 : 1 ≤ m.cells) (h2 : m.cells ≤ 6000) (hl : m.code.length ≤ 9000000) : bz (fun x4 => dq m x4) 0 = some (F2 m) := by
 refine gf _ _ _ (fun i hi => ?_) ?_
 ·unfold dq
  rw [iP (ltI hi), iP (inI hi), tN, (pU m _ h1 h2).1, wrs i (by omega)]
  simp only [bSq]
  cases lW m (m.code.getD i default) <;> rfl
 ·unfold dq; rw [iN (ff _)]
theorem lX (m : ag) (hl : m.put.length ≤ 9000000 ∧ m.bools.length ≤ 9000000 ∧ m.get.length ≤ 9000000 ∧ m.code.length ≤ 9000000) : dg m = some (my m) := by
 unfold dg my
 by_cases c1 : m.cells < 1
 ·rw [iP c1, iP (by omega)]
 rw [iN c1]
 by_cases c2 : m.cells > 6000
 ·rw [iP c2, iP (by omega)]
 rw [iN c2]
 by_cases c3 : m.regs < 1
 ·rw [iP c3, iP (by omega)]
 rw [iN c3]
 by_cases c4 : m.regs > 40
 ·rw [iP c4, iP (by omega)]
 rw [iN c4, iN (show ¬ (m.cells < 1 ∨ m.cells > 6000 ∨ m.regs < 1 ∨ m.regs > 40) by omega)]
 by_cases c5 : (m.put.length : Int) > 6000
 ·rw [iP c5, iP (by omega)]
 rw [iN c5]
 by_cases c6 : (m.bools.length : Int) > 6000
 ·rw [iP c6, iP (by omega)]
 rw [iN c6]
 by_cases c7 : (m.get.length : Int) > 120000
 ·rw [iP c7, iP (by omega)]
 rw [iN c7]
 by_cases c8 : (m.code.length : Int) > 200000
 ·rw [iP c8, iP (by omega)]
 rw [iN c8, iN (show ¬ ((m.put.length : Int) > 6000 ∨ (m.bools.length : Int) > 6000 ∨ (m.get.length : Int) > 120000 ∨ (m.code.length : Int) > 200000) by omega)]
 rw [pj m ⟨hl.1, hl.2.1, hl.2.2.1⟩]
 cases F1 m with
 | inr z => rfl
 | inl u =>
  simp only [bSq, Sum.elim_inl]
  unfold dr
  rw [pk m (by omega) (by omega) hl.2.2.2]
  cases F2 m with
  | inr z => rfl
  | inl u =>
   simp only [bSq, Sum.elim_inl]
   unfold dp F3
   rw [pg _ hl.2.2.2]
   simp only [bSq]
   generalize iq 0 1 0 m.code = c
   generalize (m.code.length : Int) = n
   by_cases d1 : c = 0
   ·rw [iP d1]
    by_cases d2 : n > 0
    ·rw [iP d2, iP (.inr ⟨d1, d2⟩)]
    ·rw [iN d2]
     by_cases d3 : c = m.cost
     ·rw [iN (by simpa using d3), iN (by simp only [ne_eq, not_or, Decidable.not_not]; exact ⟨d3, fun h => d2 h.2⟩)]
     ·rw [iP d3, iP (.inl d3)]
   ·rw [iN d1]
    by_cases d3 : c = m.cost
    ·rw [iN (by simpa using d3), iN (by simp only [ne_eq, not_or, Decidable.not_not]; exact ⟨d3, fun h => d1 h.1⟩)]
    ·rw [iP d3, iP (.inl d3)]
def dh : ag := ag.mk 100 3 0 [] [] [] []
theorem lm : my dh = ao.mk 0 0 := by
 unfold my
 rw [iN (by decide), iN (by decide)]
 have e1 : F1 dh = .inl () := by decide
 have e2 : F2 dh = .inl () := rfl
 rw [e1, e2]
 decide
theorem lY : aG dh = [76, 87, 1, 200, 1, 6, 0, 0, 0, 0, 0] := by
 have z100 : zig dh.cells = 200 := by decide
 have z3 : zig dh.regs = 6 := by decide
 have z0 : zig dh.cost = 0 := by decide
 have y0 : zig 0 = 0 := by decide
 have p0 : dh.put = [] := rfl
 have p1 : dh.bools = [] := rfl
 have p2 : dh.get = [] := rfl
 have p3 : dh.code = [] := rfl
 have hn : ax [] = [] := rfl
 unfold aG
 rw [p0, p1, p2, p3]
 simp only [cr, hn, z100, z3, z0, List.length_nil, Int.ofNat_zero, Int.natCast_zero, y0]
 rw [lQ (u := 200) (by decide), gG (u := 200 / 128) (by decide), gG (u := 6) (by decide), gG (u := 0) (by decide)]
 rfl
theorem nD : okM dh := by
 unfold okM okN
 refine ⟨?_, ?_, ?_, ?_, ?_⟩
 ·intro n hn
  have : n = 100 ∨ n = 3 ∨ n = 0 := by simpa [dh] using hn
  omega
 all_goals (intro n hn; cases hn)
theorem jt : dI = some true := by
 have hl : dh.put.length ≤ 9000000 ∧ dh.bools.length ≤ 9000000 ∧ dh.get.length ≤ 9000000 ∧ dh.code.length ≤ 9000000 := by decide
 have hc := lX dh hl
 rw [lm] at hc
 have he := kO nD (by decide) (by decide) (by decide) (by decide) hc
 rw [iP rfl, lY] at he
 unfold dI
 show (cK dh).bind _ = _
 rw [he]
 simp only [bSq]
 rw [if_true, List.length_append, hZ, iP (by decide), iP (by decide)]
 rw [iP (by rfl), iP (by decide), iP (by rfl)]
 have hb : eY [49, 50, 51, 52, 53, 54, 55, 56, 57] := by
  intro x hx
  simp only [List.mem_cons, List.not_mem_nil, or_false] at hx
  omega
 rw [show (lit ([49, 50, 51, 52, 53, 54, 55, 56, 57] : List Int)) = [49, 50, 51, 52, 53, 54, 55, 56, 57] from rfl, mt _ hb (by decide)]
 have hs : dk [49, 50, 51, 52, 53, 54, 55, 56, 57] = 3421780262 := by decide +kernel
 rw [hs]
 rfl
theorem oz (m : ag) : dJ m = some (decide ((m.put.length : Int) > 7000 ∨ (m.bools.length : Int) > 7000 ∨ (m.get.length : Int) > 20000 ∨ (m.code.length : Int) > 20000)) := by
 unfold dJ
 by_cases h1 : (m.put.length : Int) > 7000
 ·rw [iP h1, dT (.inl h1)]
 rw [iN h1]
 by_cases h2 : (m.bools.length : Int) > 7000
 ·rw [iP h2, dT (.inr (.inl h2))]
 rw [iN h2]
 by_cases h3 : (m.get.length : Int) > 20000
 ·rw [iP h3, dT (.inr (.inr (.inl h3)))]
 rw [iN h3]
 congr 1
 exact decide_eq_decide.2 ⟨fun h => .inr (.inr (.inr h)), fun h => by omega⟩
theorem pV {m : ag} (h : m.ok) : okM m := by
 obtain ⟨h1, h2, h3, h4, h5, h6, h7⟩ := h
 refine ⟨?_, h4, h5, h6, ?_⟩
 ·intro n hn
  simp only [List.mem_cons, List.not_mem_nil, or_false] at hn
  rcases hn with rfl | rfl | rfl
  ·exact h1
  ·exact h2
  ·exact h3
 ·intro x hx n hn
  obtain ⟨g1, g2, g3, g4, g5, g6⟩ := h7 x hx
  simp only [fg, List.mem_cons, List.not_mem_nil, or_false] at hn
  rcases hn with rfl | rfl | rfl | rfl | rfl | rfl
  ·exact g1
  ·exact g2
  ·exact g3
  ·exact g4
  ·exact g5
  ·exact g6
theorem oA {m : ag} (h : okM m) (h1 : m.put.length ≤ 20000) (h2 : m.bools.length ≤ 20000) (h3 : m.get.length ≤ 20000) (h4 : m.code.length ≤ 20000) : (aG m).length ≤ 3000000 := by
 obtain ⟨a1, a2, a3, a4, a5⟩ := h
 have l1 := co [m.cells, m.regs, m.cost] a1
 have l2 := co _ (i7 a2 (show _ ≤ 100000 by omega))
 have l3 := co _ (i7 a3 (show _ ≤ 100000 by omega))
 have l4 := co _ (i7 a4 (show _ ≤ 100000 by omega))
 have oc : ∀ n ∈ [(m.code.length : Int)], okN n := by intro n hn; simp only [List.mem_singleton] at hn; unfold okN; omega
 have l5 := co [(m.code.length : Int)] oc
 have l6 := jh m.code a5
 simp only [List.length_cons, List.length_nil] at l1 l2 l3 l4 l5
 unfold aG
 simp only [List.length_append, List.length_cons, List.length_nil]
 omega
theorem q9 (a b : Nat) (ha : a < 256) (hb : b < 256) : bits .xor .u8 (a : Int) (b : Int) = ((a ^^^ b : Nat) : Int) := by
 have hx : a ^^^ b < 2 ^ 8 := Nat.xor_lt_two_pow (by omega) (by omega)
 have h1 : (BitVec.ofInt 8 (a : Int)).toNat = a := by
  rw [BitVec.ofInt_natCast, BitVec.toNat_ofNat]; exact Nat.mod_eq_of_lt (by omega)
 have h2 : (BitVec.ofInt 8 (b : Int)).toNat = b := by
  rw [BitVec.ofInt_natCast, BitVec.toNat_ofNat]; exact Nat.mod_eq_of_lt (by omega)
 show IntKind.u8.wrap ((BitVec.ofInt 8 (a : Int) ^^^ BitVec.ofInt 8 (b : Int)).toNat : Int) = _
 rw [BitVec.toNat_xor, h1, h2, IntKind.wrap_u8]
 omega
theorem nE {x p : Int} (hx : 0 ≤ x ∧ x < 256) (hp : 0 ≤ p ∧ p < 256) (h : p ≠ 0) : (0 ≤ bits .xor .u8 x p ∧ bits .xor .u8 x p < 256) ∧ bits .xor .u8 x p ≠ x := by
 have e := q9 x.toNat p.toNat (by omega) (by omega)
 rw [show ((x.toNat : Nat) : Int) = x by omega, show ((p.toNat : Nat) : Int) = p by omega] at e
 have hlt : x.toNat ^^^ p.toNat < 2 ^ 8 := Nat.xor_lt_two_pow (by omega) (by omega)
 rw [e]
 refine ⟨by omega, fun he => ?_⟩
 have h1 : x.toNat ^^^ p.toNat = x.toNat := by omega
 have h2 := congrArg (x.toNat ^^^ ·) h1
 simp only [← Nat.xor_assoc, Nat.xor_self, Nat.zero_xor] at h2
 omega
theorem iL (m : ag) (p2 p3 : Int) (hm : m.ok) (_ : okI .i64 p2) (h3 : okI .u8 p3) (_ : m.sz + szI p2 + szI p3 ≤ 1048576) : eU m p2 p3 = some true := by
 unfold eU
 rw [jt]
 simp only [bSq, if_true]
 rw [oz]
 simp only [bSq]
 by_cases hg : (m.put.length : Int) > 7000 ∨ (m.bools.length : Int) > 7000 ∨ (m.get.length : Int) > 20000 ∨ (m.code.length : Int) > 20000
 ·rw [iP (dT hg)]
 rw [iN (by simpa using hg)]
 have g1 : m.put.length ≤ 7000 := by omega
 have g2 : m.bools.length ≤ 7000 := by omega
 have g3 : m.get.length ≤ 20000 := by omega
 have g4 : m.code.length ≤ 20000 := by omega
 have ok := pV hm
 have hc := lX m ⟨by omega, by omega, by omega, by omega⟩
 have he : cK m = some (if (my m).code = 0 then (dl m, ao.mk 0 0) else ([], my m)) := kO ok (by omega) (by omega) (by omega) (by omega) hc
 have hbl := oA ok (by omega) (by omega) (by omega) (by omega)
 rw [he]
 simp only [bSq]
 by_cases hf : (my m).code = 0
 ·rw [iP hf]
  dsimp only
  rw [iN (not_not_intro rfl)]
  by_cases h0 : p3 = 0
  ·rw [iP h0]
  rw [iN h0]
  have hll : (dl m).length = (aG m).length + 4 := by unfold dl; rw [List.length_append, hZ]
  have hwn : IntKind.wrap .u64 ((dl m).length : Int) = ((dl m).length : Int) := by rw [IntKind.wrap_u64]; omega
  rw [hwn, iP (by omega), iP (show iX (dl m).length 1 from lk _ (by omega))]
  have hw0 : 0 ≤ IntKind.wrap .u64 p2 := by rw [IntKind.wrap_u64]; omega
  have et : (IntKind.wrap .u64 p2).tmod ((dl m).length : Int) = IntKind.wrap .u64 p2 % ((dl m).length : Int) := Int.tmod_eq_emod_of_nonneg hw0
  have b1 := Int.emod_nonneg (IntKind.wrap .u64 p2) (show ((dl m).length : Int) ≠ 0 by omega)
  have b2 := Int.emod_lt_of_pos (IntKind.wrap .u64 p2) (show (0 : Int) < ((dl m).length : Int) by omega)
  rw [et]
  obtain ⟨i, hi⟩ : ∃ i : Nat, (i : Int) = IntKind.wrap .u64 p2 % ((dl m).length : Int) := ⟨(IntKind.wrap .u64 p2 % ((dl m).length : Int)).toNat, by omega⟩
  rw [← hi] at b1 b2 ⊢
  rw [wr (n := (i : Int)) (by omega) (by omega), iP ⟨b1, b2⟩]
  have hby := gI ok (show _ ≤ 100000 by omega) (show _ ≤ 100000 by omega) (show _ ≤ 100000 by omega) (show _ ≤ 100000 by omega)
  have hal : eY (dl m) := dR hby (iK _)
  have hil : i < (dl m).length := by omega
  have h3' : 0 ≤ p3 ∧ p3 < 256 := by
   have : (0 : Int) ≤ p3 ∧ p3 ≤ 255 := h3
   omega
  obtain ⟨y1, y2⟩ := nE (hal _ (eH hil)) h3' h0
  obtain ⟨p, f, hd, hfc⟩ := lV ok (by omega) (by omega) (by omega) (by omega) (by omega) hil y1 y2
  simp only [tN]
  rw [hd]
  simp only [bSq]
  rw [lU ok (by omega) (by omega) (by omega) (by omega) (by omega) hc hf]
  simp only [bSq]
  rw [iP hfc]
  rfl
 ·rw [iN hf, iP hf]
end Pam
