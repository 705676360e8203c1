/- The sum of bytes: one byte that is another one changes it. -/
import Derived.Test.YtjmjabdmmlgenaaBackaFun1
import Derived.Laws.Bits64b
import Derived.Test.YtjmjabdmmlgenaaBackWide1
set_option linter.all false
namespace Pam
open Go
theorem nD (a b : Nat) (ha : a < 4294967296) (hb : b < 4294967296) : bits .xor .u32 (a : Int) (b : Int) = ((a ^^^ b : Nat) : Int) := by
 have hx : a ^^^ b < 2 ^ 32 := Nat.xor_lt_two_pow (by omega) (by omega)
 have h1 : (BitVec.ofInt 32 (a : Int)).toNat = a := by
  rw [BitVec.ofInt_natCast, BitVec.toNat_ofNat]; exact Nat.mod_eq_of_lt (by omega)
 have h2 : (BitVec.ofInt 32 (b : Int)).toNat = b := by
  rw [BitVec.ofInt_natCast, BitVec.toNat_ofNat]; exact Nat.mod_eq_of_lt (by omega)
 show IntKind.u32.wrap ((BitVec.ofInt 32 (a : Int) ^^^ BitVec.ofInt 32 (b : Int)).toNat : Int) = _
 rw [BitVec.toNat_xor, h1, h2, IntKind.wrap_u32]
 omega
theorem rT (a b : Nat) (ha : a < 4294967296) (hb : b < 4294967296) : bits .and .u32 (a : Int) (b : Int) = ((a &&& b : Nat) : Int) := by
 have hx : a &&& b < 2 ^ 32 := Nat.and_lt_two_pow _ (by omega)
 have h1 : (BitVec.ofInt 32 (a : Int)).toNat = a := by
  rw [BitVec.ofInt_natCast, BitVec.toNat_ofNat]; exact Nat.mod_eq_of_lt (by omega)
 have h2 : (BitVec.ofInt 32 (b : Int)).toNat = b := by
  rw [BitVec.ofInt_natCast, BitVec.toNat_ofNat]; exact Nat.mod_eq_of_lt (by omega)
 show IntKind.u32.wrap ((BitVec.ofInt 32 (a : Int) &&& BitVec.ofInt 32 (b : Int)).toNat : Int) = _
 rw [BitVec.toNat_and, h1, h2, IntKind.wrap_u32]
 omega
def jR (c : Nat) : Nat := c / 2 ^^^ (if c % 2 = 1 then 3988292384 else 0)
theorem ph {c : Nat} (h : c < 4294967296) : jR c < 4294967296 := by
 unfold jR
 have : (c / 2 ^^^ (if c % 2 = 1 then 3988292384 else 0)) < 2 ^ 32 := Nat.xor_lt_two_pow (by omega) (by split <;> omega)
 omega
theorem p9 (c : Nat) (h : c < 4294967296) :
  bits .xor .u32 ((c : Int).fdiv (2 ^ (min 1 (IntKind.bits .u32)))) (bits .and .u32 3988292384 (IntKind.wrap .u32 (0 - (bits .and .u32 (c : Int) 1)))) = (jR c : Int) := by
 have e1 : bits .and .u32 (c : Int) 1 = ((c % 2 : Nat) : Int) := by
  have := rT c 1 h (by decide)
  rw [Nat.and_one_is_mod] at this
  exact this
 have e2 : (c : Int).fdiv (2 ^ (min 1 (IntKind.bits .u32))) = ((c / 2 : Nat) : Int) := by
  show (c : Int).fdiv (2 ^ 1) = _
  rw [Int.fdiv_eq_ediv_of_nonneg _ (by decide)]
  omega
 rw [e1, e2]
 by_cases e : c % 2 = 1
 ·have e3 : IntKind.wrap .u32 (0 - ((c % 2 : Nat) : Int)) = ((4294967295 : Nat) : Int) := by rw [e]; decide
  have e4 : bits .and .u32 3988292384 ((4294967295 : Nat) : Int) = ((3988292384 : Nat) : Int) := by decide
  rw [e3, e4, nD _ _ (by omega) (by decide)]
  unfold jR
  rw [iP e]
 ·have e0 : c % 2 = 0 := by omega
  have e3 : IntKind.wrap .u32 (0 - ((c % 2 : Nat) : Int)) = ((0 : Nat) : Int) := by rw [e0]; decide
  have e4 : bits .and .u32 3988292384 ((0 : Nat) : Int) = ((0 : Nat) : Int) := by decide
  rw [e3, e4, nD _ _ (by omega) (by decide)]
  unfold jR
  rw [iN e]
def gj : Nat → Nat → Nat
 | 0, c => c
 | k + 1, c => gj k (jR c)
theorem jF : ∀ (k c : Nat), c < 4294967296 → gj k c < 4294967296
 | 0, _, h => h
 | k + 1, c, h => jF k _ (ph h)
def qP (c : Nat) (x : Nat) : Nat := gj 8 (c ^^^ x)
theorem qa {c x : Nat} (hc : c < 4294967296) (hx : x < 256) : qP c x < 4294967296 := by
 have : c ^^^ x < 2 ^ 32 := Nat.xor_lt_two_pow (by omega) (by omega)
 exact jF _ _ (by omega)
def jb (c : Nat) (l : List Nat) : Nat := l.foldl qP c
theorem j7 : ∀ (l : List Nat) (c : Nat), c < 4294967296 → (∀ x ∈ l, x < 256) → jb c l < 4294967296
 | [], _, h, _ => h
 | x :: l, c, h, hl => j7 l _ (qa h (hl x (by simp))) fun y hy => hl y (by simp [hy])
theorem jS : ∀ (k c : Nat), gj (k + 1) c = jR (gj k c)
 | 0, _ => rfl
 | k + 1, c => jS k (jR c)
def bQ (l : List Int) : Prop := ∀ x ∈ l, 0 ≤ x ∧ x < 256
def iq (l : List Int) : List Nat := l.map Int.toNat
theorem lW {l : List Int} (h : bQ l) : ∀ x ∈ iq l, x < 256 := by
 intro x hx
 obtain ⟨y, hy, rfl⟩ := List.mem_map.1 hx
 have := h y hy
 omega
def eZ (l : List Int) : Int := ((4294967295 ^^^ jb 4294967295 (iq l) : Nat) : Int)
theorem qQ (c : Nat) (h : c < 4294967296) : bw (fun (x : Int × Int) => bK x.1 x.2) ((c : Int), 0) = some ((gj 8 c : Nat) : Int) := by
 have := gH (S := Int × Int) (T := Int) (fun k => (((gj k c : Nat) : Int), (k : Int))) (body := fun x => bK x.1 x.2) 8 ((gj 8 c : Nat) : Int)
  (by
   intro k hk
   show bK ((gj k c : Nat) : Int) (k : Int) = some (.inl (((gj (k + 1) c : Nat) : Int), ((k + 1 : Nat) : Int)))
   unfold bK
   rw [iP (by omega), p9 _ (jF k c h), wrs k (by omega), jS])
  (by
   show bK _ 8 = _
   unfold bK
   rw [iN (by omega)])
 exact this
theorem m8 (l : List Int) (hb : bQ l) (hl : l.length ≤ 100000000) : dY l = some (eZ l) := by
 have hlt : ∀ i, jb 4294967295 (iq (l.take i)) < 4294967296 := fun i => j7 _ _ (by decide) (lW fun x hx => hb x (List.mem_of_mem_take hx))
 have := gH (S := Int × Int) (T := Int) (fun i => (((jb 4294967295 (iq (l.take i)) : Nat) : Int), (i : Int))) (body := fun x => b8 l x.1 x.2) l.length ((jb 4294967295 (iq l) : Nat) : Int)
  (by
   intro i hi
   have hx := hb _ (fA hi)
   have hc := hlt i
   have e1 : IntKind.wrap .u32 (l.getD i default) = (((l.getD i default).toNat : Nat) : Int) := by rw [IntKind.wrap_u32]; omega
   have e2 : jb 4294967295 (iq (l.take (i + 1))) = qP (jb 4294967295 (iq (l.take i))) (l.getD i default).toNat := by
    rw [cA _ hi]
    unfold iq jb
    rw [List.map_append, List.foldl_append]
    rfl
   have e3 : (jb 4294967295 (iq (l.take i)) ^^^ (l.getD i default).toNat) < 2 ^ 32 := Nat.xor_lt_two_pow (by omega) (by omega)
   show b8 l ((jb 4294967295 (iq (l.take i)) : Nat) : Int) (i : Int) = some (.inl (((jb 4294967295 (iq (l.take (i + 1))) : Nat) : Int), ((i + 1 : Nat) : Int)))
   unfold b8
   rw [iP (ltI hi), iP (inI hi)]
   simp only [tN]
   rw [e1, nD _ _ hc (by omega)]
   show (bw (fun (x : Int × Int) => bK x.1 x.2) (((jb 4294967295 (iq (l.take i)) ^^^ (l.getD i default).toNat : Nat) : Int), 0)).bind _ = _
   rw [qQ _ (by omega), e2]
   simp only [bSq]
   unfold dl
   rw [wrs i (by omega)]
   rfl)
  (by
   show b8 l _ (l.length : Int) = _
   unfold b8
   rw [iN (eY _), List.take_length])
 unfold dY
 show (bw (fun (x : Int × Int) => b8 l x.1 x.2) (4294967295, 0)).bind _ = _
 have h0 : (((jb 4294967295 (iq (l.take 0)) : Nat) : Int), ((0 : Nat) : Int)) = ((4294967295 : Int), (0 : Int)) := by simp [iq, jb]
 rw [h0] at this
 rw [this]
 simp only [bSq]
 unfold dk
 have hc := j7 (iq l) 4294967295 (by decide) (lW hb)
 have := nD 4294967295 _ (by decide) hc
 show some (bits .xor .u32 (4294967295 : Int) _) = _
 rw [show (4294967295 : Int) = ((4294967295 : Nat) : Int) from rfl, this]
 rfl
def gk (u : Nat) : List Int × Nat := if h : 128 ≤ u then (((u % 128 + 128 : Nat) : Int) :: (gk (u / 128)).1, (gk (u / 128)).2) else ([], u)
termination_by u
decreasing_by all_goals omega
def aZ (u : Nat) : List Int := (gk u).1 ++ [((gk u).2 : Int)]
theorem kC {u : Nat} (h : 128 ≤ u) : aZ u = ((u % 128 + 128 : Nat) : Int) :: aZ (u / 128) := by
 unfold aZ
 rw [gk]
 rw [dif_pos h]
 rfl
theorem f3 {u : Nat} (h : u < 128) : aZ u = [(u : Int)] := by
 unfold aZ
 rw [gk, dif_neg (by omega)]
 rfl
theorem hK : ∀ (k u : Nat), u < 2 ^ (7 * k) → 0 < k → (gk u).1.length < k ∧ (gk u).2 < 128
 | 0, _, _, h => by omega
 | k + 1, u, hu, _ => by
  rw [gk]
  by_cases h : 128 ≤ u
  ·rw [dif_pos h]
   by_cases hk : k = 0
   ·subst hk; simp at hu; omega
   ·have hp : 2 ^ (7 * (k + 1)) = 2 ^ (7 * k) * 128 := by rw [Nat.mul_add, Nat.pow_add]
    have h2 : u / 128 < 2 ^ (7 * k) := by rw [hp] at hu; exact Nat.div_lt_of_lt_mul (by rw [Nat.mul_comm]; exact hu)
    obtain ⟨h3, h4⟩ := hK k (u / 128) h2 (by omega)
    exact ⟨by simp only [List.length_cons]; omega, h4⟩
  ·rw [dif_neg h]; exact ⟨by simp, by omega⟩
set_option maxRecDepth 100000 in
theorem rU (u : Nat) : bits .or .u8 (IntKind.wrap .u8 (u : Int)) 128 = ((u % 128 + 128 : Nat) : Int) := by
 have h1 : IntKind.wrap .u8 (u : Int) = ((u % 256 : Nat) : Int) := by rw [IntKind.wrap_u8]; omega
 have key : ∀ a : Nat, a < 256 → bits .or .u8 (a : Int) 128 = ((a % 128 + 128 : Nat) : Int) := by decide
 rw [h1, key _ (Nat.mod_lt _ (by decide))]
 congr 1
 omega
theorem m9 (n : Nat) (h : n ≤ 100000000) : iH n 1 := by
 unfold iH
 simp only [maxLen]
 omega
theorem pi : ∀ (k u : Nat) (l : List Int), u < 2 ^ (7 * k) → 0 < k → l.length + k ≤ 90000000 →
  bw (fun (x : List Int × Int) => aV x.1 x.2) (l, (u : Int)) = some (l ++ (gk u).1, ((gk u).2 : Int))
 | 0, _, _, _, h, _ => by omega
 | k + 1, u, l, hu, _, hl => by
  by_cases h : 128 ≤ u
  ·have hk : k ≠ 0 := fun e => by subst e; simp at hu; omega
   have hp : 2 ^ (7 * (k + 1)) = 2 ^ (7 * k) * 128 := by rw [Nat.mul_add, Nat.pow_add]
   have h2 : u / 128 < 2 ^ (7 * k) := by rw [hp] at hu; exact Nat.div_lt_of_lt_mul (by rw [Nat.mul_comm]; exact hu)
   have hs : aV l (u : Int) = some (.inl (l ++ [((u % 128 + 128 : Nat) : Int)], ((u / 128 : Nat) : Int))) := by
    unfold aV
    have e2 : (u : Int).fdiv (2 ^ (min 7 (IntKind.bits .u64))) = ((u / 128 : Nat) : Int) := by
     show (u : Int).fdiv (2 ^ 7) = _
     rw [Int.fdiv_eq_ediv_of_nonneg _ (by decide)]
     omega
    rw [iP (by omega), iP (m9 _ (by omega)), rU, e2]
    rfl
   rw [dh (s := (l, (u : Int))) hs, pi k (u / 128) _ h2 (by omega) (by simp; omega)]
   have : gk u = (((u % 128 + 128 : Nat) : Int) :: (gk (u / 128)).1, (gk (u / 128)).2) := by rw [gk, dif_pos h]
   rw [this]
   simp
  ·have : gk u = ([], u) := by rw [gk, dif_neg h]
   rw [this]
   refine bN ?_
   show aV l (u : Int) = _
   unfold aV
   rw [iN (by omega)]
   simp
def zig (n : Int) : Nat := if 0 ≤ n then (2 * n).toNat else (-2 * n - 1).toNat
def okN (n : Int) : Prop := -9223372036854775808 ≤ n ∧ n ≤ 9223372036854775807
theorem kD {n : Int} (h : okN n) : zig n < 18446744073709551616 := by unfold zig; unfold okN at h; split <;> omega
theorem qR {n : Int} (h : okN n) : bits .xor .u64 (IntKind.wrap .u64 ((IntKind.wrap .u64 n) * 2 ^ (min 1 (IntKind.bits .u64)))) (IntKind.wrap .u64 (n.fdiv (2 ^ (min 63 (IntKind.bits .i64))))) = (zig n : Int) := by
 unfold okN at h
 have ef : n.fdiv (2 ^ (min 63 (IntKind.bits .i64))) = n / 9223372036854775808 := by
  show n.fdiv (2 ^ 63) = _
  rw [Int.fdiv_eq_ediv_of_nonneg _ (by decide)]
  rfl
 have em : ((IntKind.wrap .u64 n) * 2 ^ (min 1 (IntKind.bits .u64)) : Int) = IntKind.wrap .u64 n * 2 := rfl
 rw [ef, em]
 unfold zig
 by_cases h0 : 0 ≤ n
 ·rw [iP h0]
  have e1 : IntKind.wrap .u64 (IntKind.wrap .u64 n * 2) = (((2 * n).toNat : Nat) : Int) := by rw [IntKind.wrap_u64, IntKind.wrap_u64]; omega
  have e2 : IntKind.wrap .u64 (n / 9223372036854775808) = ((0 : Nat) : Int) := by rw [IntKind.wrap_u64]; omega
  rw [e1, e2, bits_xor_u64_nat _ _ (by omega) (by decide)]
  simp
 ·rw [iN h0]
  have e1 : IntKind.wrap .u64 (IntKind.wrap .u64 n * 2) = (((18446744073709551616 + 2 * n).toNat : Nat) : Int) := by rw [IntKind.wrap_u64, IntKind.wrap_u64]; omega
  have e2 : IntKind.wrap .u64 (n / 9223372036854775808) = ((18446744073709551615 : Nat) : Int) := by rw [IntKind.wrap_u64]; omega
  rw [e1, e2, bits_xor_u64_nat _ _ (by omega) (by decide)]
  have key : ∀ a : Nat, a < 2 ^ 64 → a ^^^ (2 ^ 64 - 1) = 2 ^ 64 - 1 - a := fun a ha => by
   have h1 := congrArg BitVec.toNat (BitVec.xor_allOnes (x := BitVec.ofNat 64 a))
   rw [BitVec.toNat_xor, BitVec.toNat_allOnes, BitVec.toNat_not, BitVec.toNat_ofNat, Nat.mod_eq_of_lt ha] at h1
   exact h1
  have := key (18446744073709551616 + 2 * n).toNat (by omega)
  rw [show (18446744073709551615 : Nat) = 2 ^ 64 - 1 from rfl, this]
  omega
def ay (l : List Int) : List Int := l.flatMap fun n => aZ (zig n)
theorem mz {n : Int} (h : okN n) : (aZ (zig n)).length ≤ 10 := by
 have := hK 10 (zig n) (Nat.lt_of_lt_of_le (kD h) (by decide)) (by decide)
 unfold aZ
 simp
 omega
theorem cE : ∀ (l : List Int), (∀ n ∈ l, okN n) → (ay l).length ≤ 10 * l.length
 | [], _ => by simp [ay]
 | n :: l, h => by
  have h1 := mz (h n (by simp))
  have h2 := cE l fun m hm => h m (by simp [hm])
  unfold ay at h2 ⊢
  simp only [List.flatMap_cons, List.length_append, List.length_cons]
  omega
theorem jt (l b : List Int) (hl : ∀ n ∈ l, okN n) (hn : b.length + 10 * l.length ≤ 80000000) : bh l b = some (b ++ ay l) := by
 have := gH (S := List Int × Int) (T := List Int) (fun i => (b ++ ay (l.take i), (i : Int))) (body := fun x => aW l x.1 x.2) l.length (b ++ ay l)
  (by
   intro i hi
   have hx := hl _ (fA hi)
   have hz := kD hx
   have hv := hK 10 (zig (l.getD i default)) (Nat.lt_of_lt_of_le hz (by decide)) (by decide)
   have ht := cE (l.take i) fun n hn => hl n (List.mem_of_mem_take hn)
   have htl : (l.take i).length = i := by simp; omega
   have e1 : ay (l.take (i + 1)) = ay (l.take i) ++ aZ (zig (l.getD i default)) := by
    rw [cA _ hi]
    unfold ay
    simp
   show aW l (b ++ ay (l.take i)) (i : Int) = some (.inl (b ++ ay (l.take (i + 1)), ((i + 1 : Nat) : Int)))
   unfold aW
   rw [iP (ltI hi), iP (inI hi)]
   simp only [tN]
   rw [qR hx]
   show (bw (fun (x : List Int × Int) => aV x.1 x.2) (b ++ ay (l.take i), (zig (l.getD i default) : Int))).bind (fun z => bB (i : Int) z.1 z.2) = _
   rw [pi 10 _ _ (Nat.lt_of_lt_of_le hz (by decide)) (by decide) (by simp only [List.length_append]; omega)]
   simp only [bSq]
   unfold bB cJ
   have e2 : IntKind.wrap .u8 ((gk (zig (l.getD i default))).2 : Int) = ((gk (zig (l.getD i default))).2 : Int) := by rw [IntKind.wrap_u8]; omega
   rw [iP (m9 _ (by simp only [List.length_append]; omega)), e2, wrs i (by omega), e1]
   unfold aZ
   simp [lit])
  (by
   show aW l _ (l.length : Int) = _
   unfold aW
   rw [iN (eY _), List.take_length])
 have h0 : (b ++ ay (l.take 0), ((0 : Nat) : Int)) = (b, (0 : Int)) := by simp [ay]
 rw [h0] at this
 unfold bh
 show (bw (fun (x : List Int × Int) => aW l x.1 x.2) (b, 0)).bind _ = _
 rw [this]
 rfl
set_option maxRecDepth 100000 in
theorem qS : ∀ a : Nat, a < 256 → bits .and .u8 (a : Int) 127 = ((a % 128 : Nat) : Int) := by decide
theorem qT (a b k : Nat) (ha : a < 2 ^ k) (h : a + b * 2 ^ k < 18446744073709551616) : bits .or .u64 (a : Int) ((b * 2 ^ k : Nat) : Int) = ((a + b * 2 ^ k : Nat) : Int) := by
 rw [bits_or_u64_nat _ _ (by omega) (by omega)]
 congr 1
 have h1 := Nat.shiftLeft_add_eq_or_of_lt ha b
 rw [Nat.shiftLeft_eq] at h1
 rw [Nat.or_comm, ← h1, Nat.add_comm]
theorem lX (a x i : Nat) (hx : x < 256) (hi : i ≤ 9) (ha : a < 2 ^ (7 * i)) (h : a + (x % 128) * 2 ^ (7 * i) < 18446744073709551616) :
  bits .or .u64 (a : Int) (IntKind.wrap .u64 ((IntKind.wrap .u64 (bits .and .u8 (x : Int) 127)) * 2 ^ (min ((IntKind.wrap .i64 (7 * (i : Int))).toNat) (IntKind.bits .u64)))) = ((a + (x % 128) * 2 ^ (7 * i) : Nat) : Int) := by
 rw [qS x hx, wr (n := 7 * (i : Int)) (by omega) (by omega)]
 have e1 : (7 * (i : Int)).toNat = 7 * i := by omega
 have e2 : min (7 * i) (IntKind.bits .u64) = 7 * i := Nat.min_eq_left (by show 7 * i ≤ 64; omega)
 have e3 : IntKind.wrap .u64 ((x % 128 : Nat) : Int) = ((x % 128 : Nat) : Int) := by rw [IntKind.wrap_u64]; omega
 rw [e1, e2, e3]
 have e4 : ((x % 128 : Nat) : Int) * 2 ^ (7 * i) = (((x % 128) * 2 ^ (7 * i) : Nat) : Int) := by
  rw [Int.natCast_mul]
  congr 1
 rw [e4]
 have e5 : IntKind.wrap .u64 (((x % 128) * 2 ^ (7 * i) : Nat) : Int) = (((x % 128) * 2 ^ (7 * i) : Nat) : Int) := by rw [IntKind.wrap_u64]; omega
 rw [e5, qT a (x % 128) (7 * i) ha h]
theorem pj (u : Nat) : 0 < (aZ u).length := by unfold aZ; simp
theorem qb (b : List Int) (at0 : Int) (hbl : b.length ≤ 100000000) : ∀ (m v i acc at_ : Nat), v ≤ m → i ≤ 9 → acc < 2 ^ (7 * i) → acc + v * 2 ^ (7 * i) < 18446744073709551616 → (i = 0 ∨ 0 < v) → at_ + (aZ v).length ≤ b.length →
  (∀ j, j < (aZ v).length → b.getD (at_ + j) default = (aZ v).getD j default) →
  bw (fun (x : Int × Int × Int) => ar (ae.mk b at0) x.1 x.2.1 x.2.2) ((at_ : Int), (acc : Int), (i : Int)) = some (.inl (((at_ + (aZ v).length : Nat) : Int), ((acc + v * 2 ^ (7 * i) : Nat) : Int))) := by
 have small : ∀ (v i acc at_ : Nat), v < 128 → i ≤ 9 → acc < 2 ^ (7 * i) → acc + v * 2 ^ (7 * i) < 18446744073709551616 → (i = 0 ∨ 0 < v) → at_ + (aZ v).length ≤ b.length →
   (∀ j, j < (aZ v).length → b.getD (at_ + j) default = (aZ v).getD j default) →
   bw (fun (x : Int × Int × Int) => ar (ae.mk b at0) x.1 x.2.1 x.2.2) ((at_ : Int), (acc : Int), (i : Int)) = some (.inl (((at_ + (aZ v).length : Nat) : Int), ((acc + v * 2 ^ (7 * i) : Nat) : Int))) := by
  intro v i acc at_ hv hi ha h hpos hlen hb
  rw [f3 hv] at hlen hb ⊢
  have hx := hb 0 (by simp)
  simp only [Nat.add_zero, List.getD_cons_zero] at hx
  simp only [List.length_singleton] at hlen ⊢
  have h9 : i = 9 → v ≤ 1 := fun e => by
   subst e
   have : v * 2 ^ (7 * 9) < 18446744073709551616 := by omega
   have e2 : (2 : Nat) ^ (7 * 9) = 9223372036854775808 := by decide
   rw [e2] at this
   omega
  have hmod : v % 128 = v := by omega
  have hin := lX acc v i (by omega) hi ha (by rw [hmod]; exact h)
  rw [hmod] at hin
  refine bN ?_
  show ar (ae.mk b at0) (at_ : Int) (acc : Int) (i : Int) = _
  have j2 : aD (ae.mk b at0) (at_ : Int) (acc : Int) (i : Int) = some (.inr (.inl (((at_ + 1 : Nat) : Int), ((acc + v * 2 ^ (7 * i) : Nat) : Int)))) := by
   unfold aD
   have w7 : IntKind.wrap .i64 (7 * (i : Int)) = 7 * (i : Int) := wr (by omega) (by omega)
   rw [iP (by rw [w7]; omega)]
   simp only [tN, hx]
   rw [iP (by omega), wrs at_ (by omega), hin]
  unfold ar
  rw [iP (by omega), iN (by simp only; omega), iP (by simp only; omega)]
  simp only [tN, hx]
  rw [j2]
  by_cases e9 : (i : Int) = 9
  ·rw [iP e9, iN (by have := h9 (by omega); omega), iP (by omega), iN (by rcases hpos with h | h <;> omega)]
  ·rw [iN e9]
   by_cases e0 : (i : Int) > 0
   ·rw [iP e0, iN (by rcases hpos with h | h <;> omega)]
   ·rw [iN e0]
 intro m
 induction m with
 | zero =>
  intro v i acc at_ hv
  exact small v i acc at_ (by omega)
 | succ m ih =>
  intro v i acc at_ hv hi ha h hpos hlen hb
  by_cases hs : v < 128
  ·exact small v i acc at_ hs hi ha h hpos hlen hb
  ·have hp : 2 ^ (7 * (i + 1)) = 2 ^ (7 * i) * 128 := by rw [Nat.mul_add, Nat.pow_add]
   have hdv : v % 128 * 2 ^ (7 * i) + v / 128 * (2 ^ (7 * i) * 128) = v * 2 ^ (7 * i) := by
    have := Nat.mod_add_div v 128
    have h2 : v % 128 * 2 ^ (7 * i) + v / 128 * (2 ^ (7 * i) * 128) = (v % 128 + 128 * (v / 128)) * 2 ^ (7 * i) := by
     rw [Nat.add_mul, Nat.mul_comm 128 (v / 128), Nat.mul_assoc, Nat.mul_comm 128 (2 ^ (7 * i))]
    rw [h2, this]
   have hi8 : i ≤ 8 := by
    refine Classical.byContradiction fun hc => ?_
    have e : i = 9 := by omega
    subst e
    have e2 : (2 : Nat) ^ (7 * 9) = 9223372036854775808 := by decide
    rw [e2] at h
    omega
   rw [kC (by omega)] at hlen hb ⊢
   have hx := hb 0 (by simp)
   simp only [Nat.add_zero, List.getD_cons_zero] at hx
   simp only [List.length_cons] at hlen hb ⊢
   have hmod : (v % 128 + 128) % 128 = v % 128 := by omega
   have hin := lX acc (v % 128 + 128) i (by omega) hi ha (by rw [hmod]; omega)
   rw [hmod] at hin
   have hs1 : ar (ae.mk b at0) (at_ : Int) (acc : Int) (i : Int) = some (.inl (((at_ + 1 : Nat) : Int), ((acc + v % 128 * 2 ^ (7 * i) : Nat) : Int), ((i + 1 : Nat) : Int))) := by
    have j2 : aD (ae.mk b at0) (at_ : Int) (acc : Int) (i : Int) = some (.inl (((at_ + 1 : Nat) : Int), ((acc + v % 128 * 2 ^ (7 * i) : Nat) : Int), ((i + 1 : Nat) : Int))) := by
     unfold aD
     have w7 : IntKind.wrap .i64 (7 * (i : Int)) = 7 * (i : Int) := wr (by omega) (by omega)
     rw [iP (by rw [w7]; omega)]
     simp only [tN, hx]
     rw [iN (by omega), wrs at_ (by omega), wrs i (by omega), hin]
    unfold ar
    rw [iP (by omega), iN (by simp only; omega), iP (by simp only; omega)]
    simp only [tN, hx]
    rw [j2, iN (by omega)]
    by_cases e0 : (i : Int) > 0
    ·rw [iP e0, iN (by omega)]
    ·rw [iN e0]
   rw [dh (s := ((at_ : Int), (acc : Int), (i : Int))) hs1]
   have hacc : acc + v % 128 * 2 ^ (7 * i) < 2 ^ (7 * (i + 1)) := by
    rw [hp]
    have : v % 128 * 2 ^ (7 * i) ≤ 127 * 2 ^ (7 * i) := Nat.mul_le_mul_right _ (by omega)
    omega
   have hsum : acc + v % 128 * 2 ^ (7 * i) + v / 128 * 2 ^ (7 * (i + 1)) = acc + v * 2 ^ (7 * i) := by rw [hp]; omega
   have := ih (v / 128) (i + 1) (acc + v % 128 * 2 ^ (7 * i)) (at_ + 1) (by omega) (by omega) hacc (by rw [hsum]; exact h) (.inr (by omega)) (by omega) (fun j hj => by
    have := hb (j + 1) (by omega)
    rw [show at_ + 1 + j = at_ + (j + 1) by omega, this]
    simp)
   rw [this, hsum, show at_ + 1 + (aZ (v / 128)).length = at_ + ((aZ (v / 128)).length + 1) by omega]
theorem mA {n : Int} (h : okN n) : bits .xor .i64 (IntKind.wrap .i64 ((zig n : Int).fdiv (2 ^ (min 1 (IntKind.bits .u64))))) (IntKind.wrap .i64 (0 - (IntKind.wrap .i64 (bits .and .u64 (zig n : Int) 1)))) = n := by
 have hz := kD h
 have e1 : bits .and .u64 (zig n : Int) 1 = ((zig n % 2 : Nat) : Int) := by
  have := bits_and_u64_nat (zig n) 1 hz (by decide)
  rw [Nat.and_one_is_mod] at this
  exact this
 have e2 : (zig n : Int).fdiv (2 ^ (min 1 (IntKind.bits .u64))) = ((zig n / 2 : Nat) : Int) := by
  show (zig n : Int).fdiv (2 ^ 1) = _
  rw [Int.fdiv_eq_ediv_of_nonneg _ (by decide)]
  omega
 have ew : IntKind.wrap .i64 ((zig n % 2 : Nat) : Int) = ((zig n % 2 : Nat) : Int) := wr (by omega) (by omega)
 have ev : IntKind.wrap .i64 ((zig n / 2 : Nat) : Int) = ((zig n / 2 : Nat) : Int) := wr (by omega) (by omega)
 have ex : IntKind.wrap .i64 (0 - ((zig n % 2 : Nat) : Int)) = 0 - ((zig n % 2 : Nat) : Int) := wr (by omega) (by omega)
 rw [e1, e2, ew, ev, ex]
 have ha : zig n / 2 < 2 ^ 64 := by omega
 have h1 : (BitVec.ofInt 64 ((zig n / 2 : Nat) : Int)).toNat = zig n / 2 := by
  rw [BitVec.ofInt_natCast, BitVec.toNat_ofNat]; exact Nat.mod_eq_of_lt ha
 unfold okN at h
 by_cases h0 : 0 ≤ n
 ·have hzn : zig n = (2 * n).toNat := by unfold zig; rw [iP h0]
  have e3 : (0 : Int) - ((zig n % 2 : Nat) : Int) = 0 := by omega
  rw [e3]
  show IntKind.i64.wrap ((BitVec.ofInt 64 ((zig n / 2 : Nat) : Int) ^^^ BitVec.ofInt 64 0).toNat : Int) = n
  have h2 : (BitVec.ofInt 64 (0 : Int)).toNat = 0 := by decide
  rw [BitVec.toNat_xor, h1, h2, Nat.xor_zero, wr (by omega) (by omega)]
  omega
 ·have hzn : zig n = (-2 * n - 1).toNat := by unfold zig; rw [iN h0]
  have e3 : (0 : Int) - ((zig n % 2 : Nat) : Int) = -1 := by omega
  rw [e3]
  show IntKind.i64.wrap ((BitVec.ofInt 64 ((zig n / 2 : Nat) : Int) ^^^ BitVec.ofInt 64 (-1)).toNat : Int) = n
  have h2 : BitVec.ofInt 64 (-1) = BitVec.allOnes 64 := by decide
  rw [h2, BitVec.xor_allOnes, BitVec.toNat_not, h1, IntKind.wrap_i64]
  omega
theorem qc {b : List Int} {at_ : Nat} {n : Int} (hbl : b.length ≤ 100000000) (hn : okN n) (hlen : at_ + (aZ (zig n)).length ≤ b.length)
  (hb : ∀ j, j < (aZ (zig n)).length → b.getD (at_ + j) default = (aZ (zig n)).getD j default) :
  aC (ae.mk b (at_ : Int)) = some (.inl (n, ((at_ + (aZ (zig n)).length : Nat) : Int))) := by
 have := qb b (at_ : Int) hbl (zig n) (zig n) 0 0 at_ (Nat.le_refl _) (by omega) (by decide) (by have := kD hn; simpa using this) (.inl rfl) hlen hb
 unfold aC
 show (bw (fun (x : Int × Int × Int) => ar (ae.mk b (at_ : Int)) x.1 x.2.1 x.2.2) ((at_ : Int), 0, 0)).bind _ = _
 have h0 : ((at_ : Int), ((0 : Nat) : Int), ((0 : Nat) : Int)) = ((at_ : Int), (0 : Int), (0 : Int)) := rfl
 rw [h0] at this
 rw [this]
 simp only [bSq, Sum.elim_inl]
 unfold bi
 rw [show (0 + zig n * 2 ^ (7 * 0)) = zig n by simp, mA hn]
theorem dq {b : List Int} {at_ : Nat} {n : Int} {r : List Int} (hbl : b.length ≤ 100000000) (hn : okN n) (hle : at_ ≤ b.length) (h : b.drop at_ = aZ (zig n) ++ r) :
  aC (ae.mk b (at_ : Int)) = some (.inl (n, ((at_ + (aZ (zig n)).length : Nat) : Int))) ∧ b.drop (at_ + (aZ (zig n)).length) = r ∧ at_ + (aZ (zig n)).length ≤ b.length := by
 have hlen : at_ + (aZ (zig n)).length ≤ b.length := by
  have := congrArg List.length h
  simp only [List.length_drop, List.length_append] at this
  omega
 refine ⟨qc hbl hn hlen fun j hj => ?_, ?_, hlen⟩
 ·have h1 : (b.drop at_)[j]? = (aZ (zig n) ++ r)[j]? := by rw [h]
  rw [List.getElem?_drop, List.getElem?_append_left hj] at h1
  simp only [List.getD, h1]
 ·rw [← List.drop_drop, h, List.drop_left]
theorem jT {b : List Int} {at_ : Nat} {n : Int} {r : List Int} {k : Nat} (hbl : b.length ≤ 100000000) (hn : okN n) (hn0 : 0 ≤ n) (hk : 1 ≤ k ∧ k ≤ 1000) (hle : at_ ≤ b.length) (h : b.drop at_ = aZ (zig n) ++ r) (hr : (k : Int) * n ≤ (r.length : Int)) :
  bp (k : Int) (ae.mk b (at_ : Int)) = some (.inl (n, ((at_ + (aZ (zig n)).length : Nat) : Int))) ∧ b.drop (at_ + (aZ (zig n)).length) = r ∧ at_ + (aZ (zig n)).length ≤ b.length := by
 obtain ⟨h1, h2, h3⟩ := dq hbl hn hle h
 refine ⟨?_, h2, h3⟩
 unfold bp
 rw [h1]
 simp only [bSq, Sum.elim_inl]
 have hrl : ((b.length : Int) - ((at_ + (aZ (zig n)).length : Nat) : Int)) = (r.length : Int) := by
  have := congrArg List.length h2
  simp only [List.length_drop] at this
  omega
 rw [iN (by omega), iP (by omega), hrl]
 have hrl2 : (r.length : Int) ≤ 100000000 := by omega
 have ed : (r.length : Int).tdiv (k : Int) = (r.length : Int) / (k : Int) := Int.tdiv_eq_ediv_of_nonneg (by omega)
 have hd0 : 0 ≤ (r.length : Int) / (k : Int) := Int.ediv_nonneg (by omega) (by omega)
 have hd1 : (r.length : Int) / (k : Int) ≤ (r.length : Int) := Int.ediv_le_self _ (by omega)
 have hd2 : n ≤ (r.length : Int) / (k : Int) := by
  rw [Int.le_ediv_iff_mul_le (by omega)]
  rw [Int.mul_comm]; exact hr
 rw [wr (n := (r.length : Int)) (by omega) (by omega), ed, wr (by omega) (by omega), iN (by omega)]
theorem br (n : Int) (l : List Int) : ay (n :: l) = aZ (zig n) ++ ay l := by unfold ay; simp
theorem jG (l m : List Int) : ay (l ++ m) = ay l ++ ay m := by unfold ay; simp
theorem f5 : ∀ l : List Int, l.length ≤ (ay l).length
 | [] => by simp
 | n :: l => by
  have := f5 l
  have := pj (zig n)
  rw [br]
  simp only [List.length_cons, List.length_append]
  omega
theorem jc {b : List Int} {at_ : Nat} {l r : List Int} (hbl : b.length ≤ 100000000) (hl : ∀ n ∈ l, okN n) (hle : at_ ≤ b.length) (h : b.drop at_ = ay ((l.length : Int) :: l) ++ r) :
  bl (ae.mk b (at_ : Int)) = some (.inl (l, ((at_ + (ay ((l.length : Int) :: l)).length : Nat) : Int))) ∧ b.drop (at_ + (ay ((l.length : Int) :: l)).length) = r ∧ at_ + (ay ((l.length : Int) :: l)).length ≤ b.length := by
 have hll : l.length ≤ b.length := by
  have := congrArg List.length h
  rw [br] at this
  simp only [List.length_drop, List.length_append] at this
  have := f5 l
  omega
 rw [br, List.append_assoc] at h
 obtain ⟨c1, c2, c3⟩ := jT (k := 1) hbl (by unfold okN; omega) (by omega) (by omega) hle h (by have := f5 l; simp only [List.length_append]; omega)
 obtain ⟨p, hp⟩ : ∃ p, p = at_ + (aZ (zig (l.length : Int))).length := ⟨_, rfl⟩
 rw [← hp] at c1 c2 c3
 have hdr : ∀ i, i ≤ l.length → b.drop (p + (ay (l.take i)).length) = ay (l.drop i) ++ r ∧ p + (ay (l.take i)).length ≤ b.length := by
  intro i hi
  have e : ay l ++ r = ay (l.take i) ++ (ay (l.drop i) ++ r) := by
   rw [← List.append_assoc, ← jG, List.take_append_drop]
  refine ⟨by rw [← List.drop_drop, c2, e, List.drop_left], ?_⟩
  have := congrArg List.length c2
  rw [e] at this
  simp only [List.length_drop, List.length_append] at this
  omega
 have hloop := nC (S := Int × List Int × Int) (T := Int × List Int) (Z := (List Int × Int) ⊕ (Int × Int)) (fun i => (((p + (ay (l.take i)).length : Nat) : Int), l.take i, (i : Int)))
  (body := fun x => aA (ae.mk b (at_ : Int)) ((l.length : Int), (p : Int)) x.1 x.2.1 x.2.2) l.length (fun _ => none) (((p + (ay l).length : Nat) : Int), l)
  (by
   intro i hi
   obtain ⟨d1, d2⟩ := hdr i (by omega)
   rw [fP l i hi, br, List.append_assoc] at d1
   obtain ⟨q1, _, _⟩ := dq hbl (hl _ (fA hi)) d2 d1
   have et : ay (l.take (i + 1)) = ay (l.take i) ++ aZ (zig (l.getD i default)) := by
    rw [cA _ hi, jG, br]; simp [ay]
   show aA (ae.mk b (at_ : Int)) ((l.length : Int), (p : Int)) ((p + (ay (l.take i)).length : Nat) : Int) (l.take i) (i : Int) = some (.inl (((p + (ay (l.take (i + 1))).length : Nat) : Int), l.take (i + 1), ((i + 1 : Nat) : Int)))
   unfold aA
   rw [iP (show (i : Int) < (l.length : Int) by omega)]
   show (aC (ae.mk b ((p + (ay (l.take i)).length : Nat) : Int))).bind _ = _
   rw [q1]
   simp only [bSq, Sum.elim_inl]
   have hrm : iH ((l.take i).length + 1) 8 := by
    unfold iH
    have : maxLen = 9223372036854775807 := rfl
    have : (l.take i).length = i := by simp; omega
    omega
   rw [iP hrm, wrs i (by omega), et, cA _ hi]
   simp only [List.length_append, lit]
   rw [Nat.add_assoc])
  (by
   show aA (ae.mk b (at_ : Int)) ((l.length : Int), (p : Int)) _ _ (l.length : Int) = _
   unfold aA
   rw [iN (by simp), List.take_length])
 have e0 : (((p + (ay (l.take 0)).length : Nat) : Int), l.take 0, ((0 : Nat) : Int)) = ((p : Int), ([] : List Int), (0 : Int)) := by simp [ay]
 rw [e0, iB (fun _ _ => rfl)] at hloop
 obtain ⟨d1, d2⟩ := hdr l.length (Nat.le_refl _)
 rw [List.take_length, List.drop_length] at d1
 rw [List.take_length] at d2
 have elen : at_ + (ay ((l.length : Int) :: l)).length = p + (ay l).length := by
  rw [br, List.length_append, hp]; omega
 rw [elen]
 refine ⟨?_, by simpa [ay] using d1, d2⟩
 unfold bl
 rw [show (1 : Int) = ((1 : Nat) : Int) from rfl, c1]
 simp only [bSq, Sum.elim_inl]
 show (bw (fun (x : Int × List Int × Int) => aA (ae.mk b (at_ : Int)) ((l.length : Int), (p : Int)) x.1 x.2.1 x.2.2) ((p : Int), [], 0)).bind _ = _
 rw [hloop]
 rfl
abbrev Rd (α : Type) := (α × List Int) ⊕ (Int × Nat)
def rdV : Nat → List Int → Rd Nat
 | _, [] => .inr (5, 0)
 | i, x :: r =>
  if (i = 9 ∧ x > 1) ∨ (0 < i ∧ x = 0) then .inr (2, r.length + 1)
  else if x < 128 then .inl (x.toNat, r)
  else match rdV (i + 1) r with
   | .inl (v, q) => .inl (x.toNat % 128 + 128 * v, q)
   | .inr z => .inr z
def mB (u : Nat) : Int := if u % 2 = 0 then ((u / 2 : Nat) : Int) else -((u / 2 : Nat) : Int) - 1
theorem lv (u : Nat) : zig (mB u) = u := by unfold zig mB; split <;> split <;> omega
theorem lw {u : Nat} (h : u < 18446744073709551616) : okN (mB u) := by unfold okN mB; split <;> omega
def rdN (l : List Int) : Rd Int := match rdV 0 l with
 | .inl (v, q) => .inl (mB v, q)
 | .inr z => .inr z
theorem kE : ∀ (l : List Int) (i v : Nat) (q : List Int), bQ l → i ≤ 9 → rdV i l = .inl (v, q) → l = aZ v ++ q ∧ (0 < i → 0 < v) ∧ v * 2 ^ (7 * i) < 18446744073709551616
 | [], _, _, _, _, _, h => by simp [rdV] at h
 | x :: r, i, v, q, hb, hi, h => by
  have hx := hb x (by simp)
  rw [rdV] at h
  by_cases c1 : (i = 9 ∧ x > 1) ∨ (0 < i ∧ x = 0)
  ·rw [iP c1] at h; cases h
  rw [iN c1] at h
  by_cases c2 : x < 128
  ·rw [iP c2] at h
   simp only [Sum.inl.injEq, Prod.mk.injEq] at h
   obtain ⟨rfl, rfl⟩ := h
   refine ⟨?_, fun hp => by omega, ?_⟩
   ·rw [f3 (by omega)]
    simp only [List.singleton_append, List.cons.injEq, and_true]
    omega
   ·by_cases e9 : i = 9
    ·subst e9
     have e2 : (2 : Nat) ^ (7 * 9) = 9223372036854775808 := by decide
     rw [e2]
     omega
    ·have hp : 2 ^ (7 * i) ≤ 2 ^ (7 * 8) := Nat.pow_le_pow_right (by decide) (by omega)
     have h2 : x.toNat * 2 ^ (7 * i) ≤ 127 * 2 ^ (7 * 8) := Nat.mul_le_mul (by omega) hp
     have e2 : 127 * 2 ^ (7 * 8) < 18446744073709551616 := by decide
     omega
  ·rw [iN c2] at h
   have hi8 : i ≤ 8 := by omega
   cases hr : rdV (i + 1) r with
   | inr z => rw [hr] at h; cases h
   | inl z =>
    obtain ⟨w, q'⟩ := z
    rw [hr] at h
    simp only [Sum.inl.injEq, Prod.mk.injEq] at h
    obtain ⟨rfl, rfl⟩ := h
    obtain ⟨a1, a2, a3⟩ := kE r (i + 1) w q' (fun y hy => hb y (by simp [hy])) (by omega) hr
    have hw := a2 (by omega)
    refine ⟨?_, fun _ => by omega, ?_⟩
    ·rw [kC (by omega), a1]
     have e1 : (x.toNat % 128 + 128 * w) / 128 = w := by omega
     have e2 : (x.toNat % 128 + 128 * w) % 128 + 128 = x.toNat := by omega
     rw [e1, e2, List.cons_append]
     congr 1
     omega
    ·have hp : 2 ^ (7 * (i + 1)) = 2 ^ (7 * i) * 128 := by rw [Nat.mul_add, Nat.pow_add]
     by_cases e8 : i = 8
     ·subst e8
      have e2 : (2 : Nat) ^ (7 * (8 + 1)) = 9223372036854775808 := by decide
      have e3 : (2 : Nat) ^ (7 * 8) = 72057594037927936 := by decide
      rw [e2] at a3
      rw [e3]
      have hw2 : w < 2 := Nat.lt_of_mul_lt_mul_right (a := 9223372036854775808) (Nat.lt_of_lt_of_eq a3 (by decide))
      have h7 : (x.toNat % 128 + 128 * w) * 72057594037927936 ≤ 255 * 72057594037927936 := Nat.mul_le_mul_right _ (by omega)
      exact Nat.lt_of_le_of_lt h7 (by decide)
     ·have h1 : (x.toNat % 128 + 128 * w) * 2 ^ (7 * i) = x.toNat % 128 * 2 ^ (7 * i) + w * 2 ^ (7 * (i + 1)) := by
       rw [hp, Nat.add_mul]
       congr 1
       rw [Nat.mul_comm 128 w, Nat.mul_assoc, Nat.mul_comm 128]
      rw [h1]
      have h3 : x.toNat % 128 * 2 ^ (7 * i) < 2 ^ (7 * (i + 1)) := by
       rw [hp, Nat.mul_comm (2 ^ (7 * i))]
       exact Nat.mul_lt_mul_of_pos_right (Nat.mod_lt _ (by decide)) (Nat.pow_pos (by decide))
      have h64 : (18446744073709551616 : Nat) = 2 ^ 64 := by decide
      have h4 : 2 ^ (64 - 7 * (i + 1)) * 2 ^ (7 * (i + 1)) = 2 ^ 64 := by
       rw [← Nat.pow_add, show 64 - 7 * (i + 1) + 7 * (i + 1) = 64 by omega]
      have h5 : w < 2 ^ (64 - 7 * (i + 1)) := Nat.lt_of_mul_lt_mul_right (Nat.lt_of_lt_of_eq a3 (h64.trans h4.symm))
      refine Nat.lt_of_lt_of_eq ?_ (h4.trans h64.symm)
      have h6 : (w + 1) * 2 ^ (7 * (i + 1)) ≤ 2 ^ (64 - 7 * (i + 1)) * 2 ^ (7 * (i + 1)) := Nat.mul_le_mul_right _ h5
      rw [Nat.add_mul, Nat.one_mul] at h6
      omega
theorem eg {l : List Int} {n : Int} {q : List Int} (hb : bQ l) (h : rdN l = .inl (n, q)) : okN n ∧ l = aZ (zig n) ++ q := by
 unfold rdN at h
 cases hr : rdV 0 l with
 | inr z => rw [hr] at h; cases h
 | inl z =>
  obtain ⟨v, r⟩ := z
  rw [hr] at h
  simp only [Sum.inl.injEq, Prod.mk.injEq] at h
  obtain ⟨rfl, rfl⟩ := h
  obtain ⟨a1, _, a3⟩ := kE l 0 v r hb (by omega) hr
  rw [lv]
  exact ⟨lw (by simpa using a3), a1⟩
theorem nE : ∀ (l : List Int) (i v : Nat) (q : List Int), rdV i l = .inl (v, q) → q <:+ l ∧ q.length < l.length
 | [], _, _, _, h => by simp [rdV] at h
 | x :: r, i, v, q, h => by
  rw [rdV] at h
  split at h
  ·cases h
  split at h
  ·simp only [Sum.inl.injEq, Prod.mk.injEq] at h
   obtain ⟨_, rfl⟩ := h
   exact ⟨List.suffix_cons _ _, by simp⟩
  ·cases hr : rdV (i + 1) r with
   | inr z => rw [hr] at h; cases h
   | inl z =>
    obtain ⟨w, q'⟩ := z
    rw [hr] at h
    simp only [Sum.inl.injEq, Prod.mk.injEq] at h
    obtain ⟨_, rfl⟩ := h
    obtain ⟨a1, a2⟩ := nE r (i + 1) w q' hr
    exact ⟨a1.trans (List.suffix_cons _ _), by simp only [List.length_cons]; omega⟩
theorem nF : ∀ (l : List Int) (i k : Nat) (c : Int), rdV i l = .inr (c, k) → k ≤ l.length ∧ (c = 5 ∨ c = 2)
 | [], _, _, _, h => by
  simp only [rdV, Sum.inr.injEq, Prod.mk.injEq] at h
  obtain ⟨rfl, rfl⟩ := h
  exact ⟨Nat.le_refl _, .inl rfl⟩
 | x :: r, i, k, c, h => by
  rw [rdV] at h
  split at h
  ·simp only [Sum.inr.injEq, Prod.mk.injEq] at h
   obtain ⟨rfl, rfl⟩ := h
   exact ⟨by simp, .inr rfl⟩
  split at h
  ·cases h
  ·cases hr : rdV (i + 1) r with
   | inl z => rw [hr] at h; cases h
   | inr z =>
    rw [hr] at h
    simp only [Sum.inr.injEq] at h
    subst h
    obtain ⟨a1, a2⟩ := nF r (i + 1) k c hr
    exact ⟨by simp only [List.length_cons]; omega, a2⟩
theorem bx {l : List Int} {n : Int} {q : List Int} (h : rdN l = .inl (n, q)) : q <:+ l ∧ q.length < l.length := by
 unfold rdN at h
 cases hr : rdV 0 l with
 | inr z => rw [hr] at h; cases h
 | inl z =>
  obtain ⟨v, r⟩ := z
  rw [hr] at h
  simp only [Sum.inl.injEq, Prod.mk.injEq] at h
  obtain ⟨rfl, rfl⟩ := h
  exact nE l 0 v _ hr
def asR {α : Type} (n : Nat) : Rd α → (α × Int) ⊕ (Int × Int)
 | .inl (a, r) => .inl (a, ((n - r.length : Nat) : Int))
 | .inr (c, k) => .inr (c, ((n - k : Nat) : Int))
theorem pk {l b : List Int} (h : l <:+ b) : b.drop (b.length - l.length) = l := (List.suffix_iff_eq_drop.1 h).symm
theorem pm {l b : List Int} {x : Int} {r : List Int} (h : l <:+ b) (hl : l = x :: r) : b.getD (b.length - l.length) default = x := by
 have h1 := pk h
 have h2 : (b.drop (b.length - l.length))[0]? = some x := by rw [h1, hl]; rfl
 rw [List.getElem?_drop, Nat.add_zero] at h2
 simp only [List.getD, h2]
 rfl
theorem mC (b : List Int) (at0 : Int) (hbl : b.length ≤ 100000000) (hb : bQ b) : ∀ (l : List Int) (i acc : Nat), l <:+ b → i ≤ 9 → acc < 2 ^ (7 * i) →
  bw (fun (x : Int × Int × Int) => ar (ae.mk b at0) x.1 x.2.1 x.2.2) (((b.length - l.length : Nat) : Int), (acc : Int), (i : Int)) =
   some (match rdV i l with
    | .inl (v, q) => .inl (((b.length - q.length : Nat) : Int), ((acc + v * 2 ^ (7 * i) : Nat) : Int))
    | .inr (c, k) => .inr (.inr (c, ((b.length - k : Nat) : Int))))
 | [], i, acc, _, hi, _ => by
  refine bN ?_
  show ar (ae.mk b at0) ((b.length - 0 : Nat) : Int) (acc : Int) (i : Int) = _
  unfold ar
  rw [iP (by omega), iP (by show ((b.length - 0 : Nat) : Int) ≥ (b.length : Int); omega)]
  rfl
 | x :: r, i, acc, hs, hi, ha => by
  obtain ⟨p, hp⟩ : ∃ p, p = b.length - (x :: r).length := ⟨_, rfl⟩
  have hle := hs.length_le
  simp only [List.length_cons] at hle hp
  have hg : b.getD p default = x := by
   have := pm hs rfl
   simp only [List.length_cons] at this
   rw [hp]; exact this
  have hx := hb x (hs.subset (by simp))
  have hxn : ((x.toNat : Nat) : Int) = x := by omega
  have hw7 : IntKind.wrap .i64 (7 * (i : Int)) = 7 * (i : Int) := wr (by omega) (by omega)
  rw [List.length_cons, ← hp, rdV]
  have h9 : i = 9 → (2 : Nat) ^ (7 * i) = 9223372036854775808 := fun e => by subst e; decide
  have hbound : ¬ ((i = 9 ∧ x > 1) ∨ (0 < i ∧ x = 0)) → acc + (x.toNat % 128) * 2 ^ (7 * i) < 18446744073709551616 := by
   intro c
   by_cases e9 : i = 9
   ·have e2 := h9 e9
    rw [e2] at ha ⊢
    have : x.toNat % 128 ≤ 1 := by omega
    have := Nat.mul_le_mul_right 9223372036854775808 this
    omega
   ·have hpp : 2 ^ (7 * i) ≤ 2 ^ (7 * 8) := Nat.pow_le_pow_right (by decide) (by omega)
    have h2 : x.toNat % 128 * 2 ^ (7 * i) ≤ 127 * 2 ^ (7 * 8) := Nat.mul_le_mul (by omega) hpp
    have e2 : 127 * 2 ^ (7 * 8) + 2 ^ (7 * 8) < 18446744073709551616 := by decide
    omega
  have j2 : ¬ ((i = 9 ∧ x > 1) ∨ (0 < i ∧ x = 0)) → aD (ae.mk b at0) (p : Int) (acc : Int) (i : Int) =
    (if x < 128 then some (.inr (.inl (((p + 1 : Nat) : Int), ((acc + (x.toNat % 128) * 2 ^ (7 * i) : Nat) : Int)))) else some (.inl (((p + 1 : Nat) : Int), ((acc + (x.toNat % 128) * 2 ^ (7 * i) : Nat) : Int), ((i + 1 : Nat) : Int)))) := by
   intro c
   have hin := lX acc x.toNat i (by omega) hi ha (hbound c)
   rw [hxn] at hin
   unfold aD
   rw [iP (by rw [hw7]; omega)]
   simp only [tN, hg]
   rw [wrs p (by omega), wrs i (by omega), hin]
  have hl1 : ar (ae.mk b at0) (p : Int) (acc : Int) (i : Int) = (if (i = 9 ∧ x > 1) ∨ (0 < i ∧ x = 0) then some (.inr (.inr (.inr (2, (p : Int))))) else aD (ae.mk b at0) (p : Int) (acc : Int) (i : Int)) := by
   unfold ar
   rw [iP (by omega), iN (by simp only; omega), iP (by simp only; omega)]
   simp only [tN, hg]
   by_cases e9 : (i : Int) = 9
   ·rw [iP e9]
    by_cases e1 : x > 1
    ·rw [iP e1, iP (.inl ⟨by omega, e1⟩)]
    ·rw [iN e1, iP (by omega)]
     by_cases e0 : x = 0
     ·rw [iP e0, iP (.inr ⟨by omega, e0⟩)]
     ·rw [iN e0, iN (by omega)]
   ·rw [iN e9]
    by_cases e1 : (i : Int) > 0
    ·rw [iP e1]
     by_cases e0 : x = 0
     ·rw [iP e0, iP (.inr ⟨by omega, e0⟩)]
     ·rw [iN e0, iN (by omega)]
    ·rw [iN e1, iN (by omega)]
  by_cases c1 : (i = 9 ∧ x > 1) ∨ (0 < i ∧ x = 0)
  ·rw [iP c1] at hl1 ⊢
   refine bN ?_
   show ar (ae.mk b at0) (p : Int) (acc : Int) (i : Int) = _
   rw [hl1, hp]
  rw [iN c1] at hl1 ⊢
  have hj := j2 c1
  rw [← hl1] at hj
  have hr : r <:+ b := (List.suffix_cons x r).trans hs
  have hpr : p + 1 = b.length - r.length := by omega
  by_cases c2 : x < 128
  ·rw [iP c2] at hj ⊢
   refine bN ?_
   show ar (ae.mk b at0) (p : Int) (acc : Int) (i : Int) = _
   rw [hj, hpr, show x.toNat % 128 = x.toNat by omega]
  ·rw [iN c2] at hj ⊢
   have hi8 : i ≤ 8 := by omega
   have hpw : 2 ^ (7 * (i + 1)) = 2 ^ (7 * i) * 128 := by rw [Nat.mul_add, Nat.pow_add]
   have ha2 : acc + x.toNat % 128 * 2 ^ (7 * i) < 2 ^ (7 * (i + 1)) := by
    rw [hpw]
    have h1 : x.toNat % 128 * 2 ^ (7 * i) ≤ 127 * 2 ^ (7 * i) := Nat.mul_le_mul_right _ (by omega)
    omega
   rw [dh (s := ((p : Int), (acc : Int), (i : Int))) hj, hpr, mC b at0 hbl hb r (i + 1) _ hr (by omega) ha2]
   cases rdV (i + 1) r with
   | inr z => rfl
   | inl z =>
    obtain ⟨w, q⟩ := z
    show some (Sum.inl (((b.length - q.length : Nat) : Int), ((acc + x.toNat % 128 * 2 ^ (7 * i) + w * 2 ^ (7 * (i + 1)) : Nat) : Int))) = some (Sum.inl (((b.length - q.length : Nat) : Int), ((acc + (x.toNat % 128 + 128 * w) * 2 ^ (7 * i) : Nat) : Int)))
    have e : acc + x.toNat % 128 * 2 ^ (7 * i) + w * 2 ^ (7 * (i + 1)) = acc + (x.toNat % 128 + 128 * w) * 2 ^ (7 * i) := by
     rw [hpw, Nat.add_mul, Nat.add_assoc]
     congr 2
     rw [Nat.mul_comm 128 w, Nat.mul_assoc, Nat.mul_comm 128]
    rw [e]
theorem eh {b l : List Int} (hbl : b.length ≤ 100000000) (hb : bQ b) (hs : l <:+ b) : aC (ae.mk b ((b.length - l.length : Nat) : Int)) = some (asR b.length (rdN l)) := by
 have hlb : bQ l := fun x hx => hb x (hs.subset hx)
 have := mC b ((b.length - l.length : Nat) : Int) hbl hb l 0 0 hs (by omega) (by decide)
 have h0 : ((0 : Nat) : Int) = 0 := rfl
 rw [h0] at this
 unfold aC
 show (bw (fun (x : Int × Int × Int) => ar (ae.mk b ((b.length - l.length : Nat) : Int)) x.1 x.2.1 x.2.2) (((b.length - l.length : Nat) : Int), 0, 0)).bind _ = _
 rw [this]
 unfold rdN
 cases hr : rdV 0 l with
 | inr z => rfl
 | inl z =>
  obtain ⟨v, q⟩ := z
  obtain ⟨_, _, a3⟩ := kE l 0 v q hlb (by omega) hr
  simp only [bSq, Sum.elim_inl, asR]
  unfold bi
  have hu := mA (lw (u := v) (by simpa using a3))
  rw [lv] at hu
  rw [show (0 + v * 2 ^ (7 * 0)) = v by simp, hu]
theorem kF (l b : List Int) (hl : ∀ n ∈ l, okN n) (hn : b.length + 10 * l.length ≤ 70000000) : bY l b = some (b ++ ay ((l.length : Int) :: l)) := by
 have hlen : okN (l.length : Int) := by unfold okN; omega
 have h1 := jt [(l.length : Int)] b (by intro n hn; simp only [List.mem_singleton] at hn; subst hn; exact hlen) (by simp; omega)
 have hv := mz hlen
 have hb1 : (ay [(l.length : Int)]).length ≤ 10 := by rw [br]; simpa [ay] using hv
 have := gH (S := List Int × Int) (T := List Int) (fun i => (b ++ ay [(l.length : Int)] ++ ay (l.take i), (i : Int))) (body := fun x => aR l x.1 x.2) l.length (b ++ ay [(l.length : Int)] ++ ay l)
  (by
   intro i hi
   have hx := hl _ (fA hi)
   have ht := cE (l.take i) fun n hn => hl n (List.mem_of_mem_take hn)
   have htl : (l.take i).length = i := by simp; omega
   have et : ay (l.take (i + 1)) = ay (l.take i) ++ ay [l.getD i default] := by rw [cA _ hi, jG]
   show aR l (b ++ ay [(l.length : Int)] ++ ay (l.take i)) (i : Int) = some (.inl (b ++ ay [(l.length : Int)] ++ ay (l.take (i + 1)), ((i + 1 : Nat) : Int)))
   unfold aR
   rw [iP (ltI hi), iP (inI hi)]
   simp only [tN]
   rw [show (lit ([l.getD i default] : List Int)) = [l.getD i default] from rfl, jt [l.getD i default] _ (by intro n hn; simp only [List.mem_singleton] at hn; subst hn; exact hx) (by simp only [List.length_append, List.length_singleton]; omega)]
   simp only [bSq]
   rw [wrs i (by omega), et, List.append_assoc])
  (by
   show aR l _ (l.length : Int) = _
   unfold aR
   rw [iN (eY _), List.take_length])
 have h0 : (b ++ ay [(l.length : Int)] ++ ay (l.take 0), ((0 : Nat) : Int)) = (b ++ ay [(l.length : Int)], (0 : Int)) := by simp [ay]
 rw [h0] at this
 unfold bY
 rw [show (lit ([(l.length : Int)] : List Int)) = [(l.length : Int)] from rfl, h1]
 simp only [bSq]
 show (bw (fun (x : List Int × Int) => aR l x.1 x.2) (b ++ ay [(l.length : Int)], 0)).bind _ = _
 rw [this, br]
 simp [ay]
def fa (x : aF) : List Int := [x.op, x.k, x.r_, x.a, x.b, x.n]
def okM (m : ag) : Prop := (∀ n ∈ [m.cells, m.regs, m.cost], okN n) ∧ (∀ n ∈ m.put, okN n) ∧ (∀ n ∈ m.bools, okN n) ∧ (∀ n ∈ m.get, okN n) ∧ (∀ x ∈ m.code, ∀ n ∈ fa x, okN n)
def be (l : List aF) : List Int := l.flatMap fun x => ay (fa x)
def aN (m : ag) : List Int := [76, 87, 1] ++ ay [m.cells, m.regs, m.cost] ++ ay ((m.put.length : Int) :: m.put) ++ ay ((m.bools.length : Int) :: m.bools) ++ ay ((m.get.length : Int) :: m.get) ++ ay [(m.code.length : Int)] ++ be m.code
def dS (s : Nat) : List Int := [((s % 256 : Nat) : Int), ((s / 256 % 256 : Nat) : Int), ((s / 65536 % 256 : Nat) : Int), ((s / 16777216 % 256 : Nat) : Int)]
theorem lz : ∀ (k u : Nat), u < 2 ^ (7 * k) → 0 < k → ∀ x ∈ (gk u).1, 0 ≤ x ∧ x < 256
 | 0, _, _, h => by omega
 | k + 1, u, hu, _ => by
  intro x hx
  rw [gk] at hx
  by_cases h : 128 ≤ u
  ·rw [dif_pos h] at hx
   have hk : k ≠ 0 := fun e => by subst e; simp at hu; omega
   have hp : 2 ^ (7 * (k + 1)) = 2 ^ (7 * k) * 128 := by rw [Nat.mul_add, Nat.pow_add]
   have h2 : u / 128 < 2 ^ (7 * k) := by rw [hp] at hu; exact Nat.div_lt_of_lt_mul (by rw [Nat.mul_comm]; exact hu)
   rcases List.mem_cons.1 hx with rfl | hx
   ·omega
   ·exact lz k (u / 128) h2 (by omega) x hx
  ·rw [dif_neg h] at hx; cases hx
theorem oj {n : Int} (h : okN n) : bQ (aZ (zig n)) := by
 have hz := Nat.lt_of_lt_of_le (kD h) (show 18446744073709551616 ≤ 2 ^ (7 * 10) by decide)
 intro x hx
 unfold aZ at hx
 rcases List.mem_append.1 hx with hx | hx
 ·exact lz 10 _ hz (by decide) x hx
 ·have := (hK 10 _ hz (by decide)).2
  simp only [List.mem_singleton] at hx
  omega
theorem fl {l m : List Int} (h : bQ l) (h' : bQ m) : bQ (l ++ m) := fun x hx => by
 rcases List.mem_append.1 hx with hx | hx
 ·exact h x hx
 ·exact h' x hx
theorem fm {l : List Int} (h : ∀ n ∈ l, okN n) : bQ (ay l) := fun x hx => by
 unfold ay at hx
 obtain ⟨n, hn, hx⟩ := List.mem_flatMap.1 hx
 exact oj (h n hn) x hx
theorem nb {l : List aF} (h : ∀ x ∈ l, ∀ n ∈ fa x, okN n) : bQ (be l) := fun x hx => by
 unfold be at hx
 obtain ⟨y, hy, hx⟩ := List.mem_flatMap.1 hx
 exact fm (h y hy) x hx
theorem ju {l : List Int} (h : ∀ n ∈ l, okN n) (hl : l.length ≤ 100000) : ∀ n ∈ (l.length : Int) :: l, okN n := fun n hn => by
 rcases List.mem_cons.1 hn with rfl | hn
 ·unfold okN; omega
 ·exact h n hn
theorem kG {m : ag} (h : okM m) (h1 : m.put.length ≤ 100000) (h2 : m.bools.length ≤ 100000) (h3 : m.get.length ≤ 100000) (h4 : m.code.length ≤ 100000) : bQ (aN m) := by
 obtain ⟨a1, a2, a3, a4, a5⟩ := h
 unfold aN
 refine fl (fl (fl (fl (fl (fl ?_ (fm a1)) (fm (ju a2 h1))) (fm (ju a3 h2))) (fm (ju a4 h3))) (fm ?_)) (nb a5)
 ·intro x hx
  simp only [List.mem_cons, List.not_mem_nil, or_false] at hx
  omega
 ·intro n hn
  simp only [List.mem_singleton] at hn
  unfold okN; omega
theorem pn (l : List Int) : iz l = dY l := rfl
theorem jH (l : List aF) (h : ∀ x ∈ l, ∀ n ∈ fa x, okN n) : (be l).length ≤ 60 * l.length := by
 induction l with
 | nil => simp [be]
 | cons x l ih =>
  have h1 := cE (fa x) (h x (by simp))
  have h2 := ih fun y hy => h y (by simp [hy])
  have h3 : (fa x).length = 6 := rfl
  unfold be at h2 ⊢
  simp only [List.flatMap_cons, List.length_append, List.length_cons]
  omega
theorem lY {l : List Int} (h : bQ l) : 0 ≤ eZ l ∧ eZ l < 4294967296 := by
 unfold eZ
 have h1 := j7 (iq l) 4294967295 (by decide) (lW h)
 have h2 : (4294967295 ^^^ jb 4294967295 (iq l)) < 2 ^ 32 := Nat.xor_lt_two_pow (by decide) (by omega)
 omega
theorem om (l : List Int) (s : Nat) (hl : l.length ≤ 80000000) : bw (fun (x : List Int × Int × Int) => a9 x.1 x.2.1 x.2.2) (l, (s : Int), 0) = some (l ++ dS s) := by
 have step : ∀ (q : List Int) (t k : Nat), q.length ≤ 90000000 → k < 4 → a9 q (t : Int) (k : Int) = some (.inl (q ++ [((t % 256 : Nat) : Int)], ((t / 256 : Nat) : Int), ((k + 1 : Nat) : Int))) := by
  intro q t k hq hk
  unfold a9
  have e1 : IntKind.wrap .u8 (t : Int) = ((t % 256 : Nat) : Int) := by rw [IntKind.wrap_u8]; omega
  have e2 : (t : Int).fdiv (2 ^ (min 8 (IntKind.bits .u32))) = ((t / 256 : Nat) : Int) := by
   show (t : Int).fdiv (2 ^ 8) = _
   rw [Int.fdiv_eq_ediv_of_nonneg _ (by decide)]
   omega
  rw [iP (by omega), iP (m9 _ (by omega)), e1, e2, wrs k (by omega)]
  rfl
 have := gH (S := List Int × Int × Int) (T := List Int) (fun k => (l ++ (dS s).take k, ((s / 256 ^ k : Nat) : Int), (k : Int))) (body := fun x => a9 x.1 x.2.1 x.2.2) 4 (l ++ dS s)
  (by
   intro k hk
   have hlen : (l ++ (dS s).take k).length ≤ 90000000 := by
    have : ((dS s).take k).length ≤ 4 := by rw [List.length_take]; exact Nat.min_le_right _ _
    rw [List.length_append]; omega
   show a9 (l ++ (dS s).take k) ((s / 256 ^ k : Nat) : Int) (k : Int) = _
   rw [step _ _ k hlen hk]
   have e1 : s / 256 ^ k / 256 = s / 256 ^ (k + 1) := by rw [Nat.pow_succ, Nat.div_div_eq_div_mul]
   have e2 : (dS s).take (k + 1) = (dS s).take k ++ [((s / 256 ^ k % 256 : Nat) : Int)] := by
    have : k = 0 ∨ k = 1 ∨ k = 2 ∨ k = 3 := by omega
    rcases this with rfl | rfl | rfl | rfl <;> simp [dS]
   rw [e1, e2, List.append_assoc])
  (by
   show a9 _ _ 4 = _
   unfold a9
   rw [iN (by omega)]
   rfl)
 have e0 : (l ++ (dS s).take 0, ((s / 256 ^ 0 : Nat) : Int), ((0 : Nat) : Int)) = (l, (s : Int), (0 : Int)) := by simp
 rw [e0] at this
 exact this
theorem oq (m : ag) (b : List Int) (h : ∀ x ∈ m.code, ∀ n ∈ fa x, okN n) (hb : b.length ≤ 10000000) (hl : m.code.length ≤ 100000) :
  bw (fun (x : List Int × Int) => bu m x.1 x.2) (b, 0) = some (b ++ be m.code) := by
 have := gH (S := List Int × Int) (T := List Int) (fun i => (b ++ be (m.code.take i), (i : Int))) (body := fun x => bu m x.1 x.2) m.code.length (b ++ be m.code)
  (by
   intro i hi
   have hx := h _ (fA hi)
   have ht := jH (m.code.take i) fun x hx => h x (List.mem_of_mem_take hx)
   have htl : (m.code.take i).length = i := by simp; omega
   have et : be (m.code.take (i + 1)) = be (m.code.take i) ++ ay (fa (m.code.getD i default)) := by
    rw [cA _ hi]; unfold be; simp
   show bu m (b ++ be (m.code.take i)) (i : Int) = some (.inl (b ++ be (m.code.take (i + 1)), ((i + 1 : Nat) : Int)))
   unfold bu
   rw [iP (ltI hi), iP (inI hi)]
   simp only [tN]
   show (bh (fa (m.code.getD i default)) (b ++ be (m.code.take i))).bind _ = _
   rw [jt _ _ hx (by have : (fa (m.code.getD i default)).length = 6 := rfl; rw [List.length_append, this]; omega)]
   simp only [bSq]
   rw [wrs i (by omega), et, List.append_assoc])
  (by
   show bu m _ (m.code.length : Int) = _
   unfold bu
   rw [iN (eY _), List.take_length])
 have h0 : (b ++ be (m.code.take 0), ((0 : Nat) : Int)) = (b, (0 : Int)) := by simp [be]
 rw [h0] at this
 exact this
theorem jI {m : ag} {f : aq} (hm : okM m) (h1 : m.put.length ≤ 100000) (h2 : m.bools.length ≤ 100000) (h3 : m.get.length ≤ 100000) (h4 : m.code.length ≤ 100000) (hc : cZ m = some f) :
  cq m = some (if f.code = 0 then (aN m ++ dS (eZ (aN m)).toNat, aq.mk 0 0) else ([], f)) := by
 have hby := kG hm h1 h2 h3 h4
 obtain ⟨a1, a2, a3, a4, a5⟩ := hm
 unfold cq
 rw [hc]
 simp only [bSq]
 by_cases hf : f.code = 0
 ·rw [iN (not_not_intro hf), iP hf]
  have l1 := cE [m.cells, m.regs, m.cost] a1
  have l2 := cE _ (ju a2 h1)
  have l3 := cE _ (ju a3 h2)
  have l4 := cE _ (ju a4 h3)
  have oc : ∀ n ∈ [(m.code.length : Int)], okN n := by intro n hn; simp only [List.mem_singleton] at hn; unfold okN; omega
  have l5 := cE [(m.code.length : Int)] oc
  have l6 := jH m.code a5
  simp only [List.length_cons, List.length_nil] at l1 l2 l3 l4 l5
  rw [show (lit ([m.cells, m.regs, m.cost] : List Int)) = [m.cells, m.regs, m.cost] from rfl, show (lit ([76, 87, 1] : List Int)) = [76, 87, 1] from rfl, jt _ _ a1 (by simp)]
  simp only [bSq]
  rw [kF _ _ a2 (by simp only [List.length_append, List.length_cons, List.length_nil]; omega)]
  simp only [bSq]
  rw [kF _ _ a3 (by simp only [List.length_append, List.length_cons, List.length_nil]; omega)]
  simp only [bSq]
  rw [kF _ _ a4 (by simp only [List.length_append, List.length_cons, List.length_nil]; omega)]
  simp only [bSq]
  rw [show (lit ([(m.code.length : Int)] : List Int)) = [(m.code.length : Int)] from rfl, jt _ _ oc (by simp only [List.length_append, List.length_cons, List.length_nil]; omega)]
  simp only [bSq]
  show (bw (fun (x : List Int × Int) => bu m x.1 x.2) (_, 0)).bind _ = _
  rw [oq m _ a5 (by simp only [List.length_append, List.length_cons, List.length_nil]; omega) h4]
  simp only [bSq]
  show cH (aN m) = _
  have hbl : (aN m).length ≤ 20000000 := by unfold aN; simp only [List.length_append, List.length_cons, List.length_nil]; omega
  unfold cH
  rw [pn, m8 _ hby (by omega)]
  simp only [bSq]
  have hs := lY hby
  show (bw (fun (x : List Int × Int × Int) => a9 x.1 x.2.1 x.2.2) (aN m, eZ (aN m), 0)).bind _ = _
  have e := om (aN m) (eZ (aN m)).toNat (by omega)
  rw [show (((eZ (aN m)).toNat : Nat) : Int) = eZ (aN m) by omega] at e
  rw [e]
  rfl
 ·rw [iP hf, iN hf]
theorem nc {b : List Int} {p : Nat} {l : List aF} {r : List Int} {q : ae} (hq : q.b = b) (hbl : b.length ≤ 100000000) (hl : ∀ x ∈ l, ∀ n ∈ fa x, okN n) (hll : l.length ≤ 1000000) (hle : p ≤ b.length) (h : b.drop p = be l ++ r) (y : Int × Int) (hy : y.1 = (l.length : Int)) :
  bw (fun (x : Int × List aF × Int) => au q y x.1 x.2.1 x.2.2) ((p : Int), [], 0) = some (.inl (((p + (be l).length : Nat) : Int), l)) := by
 have capp : ∀ l m : List aF, be (l ++ m) = be l ++ be m := fun l m => by unfold be; simp
 have ccons : ∀ (x : aF) (l : List aF), be (x :: l) = ay (fa x) ++ be l := fun x l => by unfold be; simp
 have hdr : ∀ i, i ≤ l.length → b.drop (p + (be (l.take i)).length) = be (l.drop i) ++ r ∧ p + (be (l.take i)).length ≤ b.length := by
  intro i hi
  have e : be l ++ r = be (l.take i) ++ (be (l.drop i) ++ r) := by rw [← List.append_assoc, ← capp, List.take_append_drop]
  refine ⟨by rw [← List.drop_drop, h, e, List.drop_left], ?_⟩
  have := congrArg List.length h
  rw [e] at this
  simp only [List.length_drop, List.length_append] at this
  omega
 have hloop := nC (S := Int × List aF × Int) (T := Int × List aF) (Z := (ag × Int) ⊕ (Int × Int)) (fun i => (((p + (be (l.take i)).length : Nat) : Int), l.take i, (i : Int)))
  (body := fun x => au q y x.1 x.2.1 x.2.2) l.length (fun _ => none) (((p + (be l).length : Nat) : Int), l)
  (by
   intro i hi
   obtain ⟨d1, d2⟩ := hdr i (by omega)
   obtain ⟨a, ha⟩ : ∃ a, a = p + (be (l.take i)).length := ⟨_, rfl⟩
   rw [← ha] at d1 d2
   rw [fP l i hi, ccons] at d1
   have hok := hl _ (fA hi)
   obtain ⟨x, hx⟩ : ∃ x, x = l.getD i default := ⟨_, rfl⟩
   rw [← hx] at d1 hok
   have e6 : ay (fa x) = aZ (zig x.op) ++ (aZ (zig x.k) ++ (aZ (zig x.r_) ++ (aZ (zig x.a) ++ (aZ (zig x.b) ++ (aZ (zig x.n) ++ []))))) := by
    unfold fa
    simp only [br]
    rfl
   have et : be (l.take (i + 1)) = be (l.take i) ++ ay (fa x) := by rw [cA _ hi, capp, ccons, hx]; simp [be]
   rw [e6] at d1
   simp only [List.append_assoc, List.nil_append] at d1
   obtain ⟨s1, d1, d2⟩ := dq hbl (hok x.op (by simp [fa])) d2 d1
   obtain ⟨s2, d1, d2⟩ := dq hbl (hok x.k (by simp [fa])) d2 d1
   obtain ⟨s3, d1, d2⟩ := dq hbl (hok x.r_ (by simp [fa])) d2 d1
   obtain ⟨s4, d1, d2⟩ := dq hbl (hok x.a (by simp [fa])) d2 d1
   obtain ⟨s5, d1, d2⟩ := dq hbl (hok x.b (by simp [fa])) d2 d1
   obtain ⟨s6, d1, d2⟩ := dq hbl (hok x.n (by simp [fa])) d2 d1
   show au q y ((p + (be (l.take i)).length : Nat) : Int) (l.take i) (i : Int) = some (.inl (((p + (be (l.take (i + 1))).length : Nat) : Int), l.take (i + 1), ((i + 1 : Nat) : Int)))
   unfold au
   rw [hy, iP (show (i : Int) < (l.length : Int) by omega), hq, ← ha]
   simp only [s1, s2, s3, s4, s5, s6, bSq, Sum.elim_inl]
   have hrm : iH ((l.take i).length + 1) 48 := by
    unfold iH
    have : maxLen = 9223372036854775807 := rfl
    have : (l.take i).length = i := by simp; omega
    omega
   rw [iP hrm, wrs i (by omega), et, cA _ hi, ← hx, e6]
   have el : a + (aZ (zig x.op)).length + (aZ (zig x.k)).length + (aZ (zig x.r_)).length + (aZ (zig x.a)).length + (aZ (zig x.b)).length + (aZ (zig x.n)).length =
     p + (be (l.take i) ++ (aZ (zig x.op) ++ (aZ (zig x.k) ++ (aZ (zig x.r_) ++ (aZ (zig x.a) ++ (aZ (zig x.b) ++ (aZ (zig x.n) ++ []))))))).length := by
    simp only [List.length_append, List.length_nil, ha]; omega
   rw [el]
   rfl)
  (by
   show au q y _ _ (l.length : Int) = _
   unfold au
   rw [hy, iN (by simp), List.take_length])
 have e0 : (((p + (be (l.take 0)).length : Nat) : Int), l.take 0, ((0 : Nat) : Int)) = ((p : Int), ([] : List aF), (0 : Int)) := by simp [be]
 rw [e0, iB (fun _ _ => rfl)] at hloop
 exact hloop
theorem kH : ∀ l : List aF, 6 * l.length ≤ (be l).length
 | [] => by simp
 | x :: l => by
  have := kH l
  have h6 := f5 (fa x)
  have h3 : (fa x).length = 6 := rfl
  unfold be at this ⊢
  simp only [List.flatMap_cons, List.length_append, List.length_cons]
  omega
theorem ot {m : ag} (hm : okM m) (hbl : (aN m).length ≤ 100000000) (h4 : m.code.length ≤ 1000000) :
  bq (ae.mk (aN m) 3) = some (.inl (m, ((aN m).length : Int))) := by
 obtain ⟨a1, a2, a3, a4, a5⟩ := hm
 have d0 : (aN m).drop 3 = aZ (zig m.cells) ++ (aZ (zig m.regs) ++ (aZ (zig m.cost) ++ (ay ((m.put.length : Int) :: m.put) ++ (ay ((m.bools.length : Int) :: m.bools) ++ (ay ((m.get.length : Int) :: m.get) ++ (aZ (zig (m.code.length : Int)) ++ (be m.code ++ []))))))) := by
  have e1 : ay [m.cells, m.regs, m.cost] = aZ (zig m.cells) ++ (aZ (zig m.regs) ++ (aZ (zig m.cost) ++ [])) := by simp only [br]; rfl
  have e2 : ay [(m.code.length : Int)] = aZ (zig (m.code.length : Int)) ++ [] := by simp only [br]; rfl
  unfold aN
  rw [e1, e2]
  simp
 have hle : 3 ≤ (aN m).length := by unfold aN; simp
 obtain ⟨s1, d1, b1⟩ := dq hbl (a1 m.cells (by simp)) hle d0
 obtain ⟨s2, d2, b2⟩ := dq hbl (a1 m.regs (by simp)) b1 d1
 obtain ⟨s3, d3, b3⟩ := dq hbl (a1 m.cost (by simp)) b2 d2
 obtain ⟨s4, d4, b4⟩ := jc hbl a2 b3 d3
 obtain ⟨s5, d5, b5⟩ := jc hbl a3 b4 d4
 obtain ⟨s6, d6, b6⟩ := jc hbl a4 b5 d5
 have hge := kH m.code
 obtain ⟨s7, d7, b7⟩ := jT (k := 6) hbl (by unfold okN; omega) (by omega) (by omega) b6 d6 (by simp only [List.length_append]; omega)
 obtain ⟨p, hp⟩ : ∃ p, p = 3 + (aZ (zig m.cells)).length + (aZ (zig m.regs)).length + (aZ (zig m.cost)).length + (ay ((m.put.length : Int) :: m.put)).length + (ay ((m.bools.length : Int) :: m.bools)).length + (ay ((m.get.length : Int) :: m.get)).length + (aZ (zig (m.code.length : Int))).length := ⟨_, rfl⟩
 rw [← hp] at s7 d7 b7
 have hlp := nc (q := ae.mk (aN m) 3) rfl hbl a5 h4 b7 d7 ((m.code.length : Int), (p : Int)) rfl
 have hend : p + (be m.code).length = (aN m).length := by
  have := congrArg List.length d7
  simp only [List.length_drop, List.append_nil] at this
  omega
 unfold bq
 rw [show (3 : Int) = ((3 : Nat) : Int) from rfl]
 simp only [s1, s2, s3, s4, s5, s6, bSq, Sum.elim_inl]
 rw [show (6 : Int) = ((6 : Nat) : Int) from rfl, s7]
 simp only [bSq, Sum.elim_inl]
 show (bw (fun (x : Int × List aF × Int) => au (ae.mk (aN m) 3) ((m.code.length : Int), (p : Int)) x.1 x.2.1 x.2.2) ((p : Int), [], 0)).bind _ = _
 rw [hlp, hend]
 rfl
def rdB {α β : Type} (m : Rd α) (f : α → List Int → Rd β) : Rd β := match m with | .inl z => f z.1 z.2 | .inr z => .inr z
theorem bg {α β : Type} {m : Rd α} {f : α → List Int → Rd β} {b : β} {q : List Int} (h : rdB m f = .inl (b, q)) : ∃ a p, m = .inl (a, p) ∧ f a p = .inl (b, q) := by
 cases m with
 | inl z => exact ⟨z.1, z.2, rfl, h⟩
 | inr z => cases h
theorem fb {α β : Type} {n : Nat} {m : Rd α} {g : α × Int → Option ((β × Int) ⊕ (Int × Int))} {f : α → List Int → Rd β}
  (h : ∀ a q, m = .inl (a, q) → g (a, ((n - q.length : Nat) : Int)) = some (asR n (f a q))) :
  Sum.elim g (fun y5 => some (.inr (y5.1, y5.2))) (asR n m) = some (asR n (rdB m f)) := by
 cases m with
 | inl z => exact h z.1 z.2 rfl
 | inr z => rfl
def rdC (k : Nat) (l : List Int) : Rd Int := rdB (rdN l) fun n q => if n < 0 ∨ n > ((q.length / k : Nat) : Int) then .inr (7, l.length) else .inl (n, q)
def rdL : Nat → List Int → Rd (List Int)
 | 0, l => .inl ([], l)
 | n + 1, l => rdB (rdN l) fun x q => rdB (rdL n q) fun xs p => .inl (x :: xs, p)
def jd (l : List Int) : Rd (List Int) := rdB (rdC 1 l) fun n q => rdL n.toNat q
def rdI (l : List Int) : Rd aF := rdB (rdN l) fun op q => rdB (rdN q) fun k q => rdB (rdN q) fun r q => rdB (rdN q) fun a q => rdB (rdN q) fun b q => rdB (rdN q) fun n q => .inl (aF.mk op k r a b n, q)
def rdK : Nat → List Int → Rd (List aF)
 | 0, l => .inl ([], l)
 | n + 1, l => rdB (rdI l) fun x q => rdB (rdK n q) fun xs p => .inl (x :: xs, p)
def rdM (l : List Int) : Rd ag := rdB (rdN l) fun c q => rdB (rdN q) fun r q => rdB (rdN q) fun o q => rdB (jd q) fun p q => rdB (jd q) fun bo q => rdB (jd q) fun g q => rdB (rdC 6 q) fun k q => rdB (rdK k.toNat q) fun co q => .inl (ag.mk c r o p bo g co, q)
theorem mD {k : Nat} {l q : List Int} {n : Int} (hb : bQ l) (h : rdC k l = .inl (n, q)) : l = aZ (zig n) ++ q ∧ 0 ≤ n ∧ n ≤ ((q.length / k : Nat) : Int) := by
 obtain ⟨a, p, h1, h2⟩ := bg h
 obtain ⟨b1, b2⟩ := eg hb h1
 by_cases c : a < 0 ∨ a > ((p.length / k : Nat) : Int)
 ·rw [iP c] at h2; cases h2
 ·rw [iN c] at h2
  simp only [Sum.inl.injEq, Prod.mk.injEq] at h2
  obtain ⟨rfl, rfl⟩ := h2
  exact ⟨b2, by omega, by omega⟩
theorem b9 {l q : List Int} (h : q <:+ l) (hb : bQ l) : bQ q := fun x hx => hb x (h.subset hx)
theorem mE : ∀ (n : Nat) (l q xs : List Int), bQ l → rdL n l = .inl (xs, q) → xs.length = n ∧ (∀ x ∈ xs, okN x) ∧ l = ay xs ++ q
 | 0, l, q, xs, _, h => by
  simp only [rdL, Sum.inl.injEq, Prod.mk.injEq] at h
  obtain ⟨rfl, rfl⟩ := h
  exact ⟨rfl, (fun _ h => by cases h), (by simp [ay])⟩
 | n + 1, l, q, xs, hb, h => by
  obtain ⟨a, p, h1, h2⟩ := bg h
  obtain ⟨ys, p2, h3, h4⟩ := bg h2
  simp only [Sum.inl.injEq, Prod.mk.injEq] at h4
  obtain ⟨rfl, rfl⟩ := h4
  obtain ⟨b1, b2⟩ := eg hb h1
  have hbp : bQ p := b9 (bx h1).1 hb
  obtain ⟨c1, c2, c3⟩ := mE n p _ _ hbp h3
  refine ⟨by rw [List.length_cons, c1], fun x hx => ?_, ?_⟩
  ·rcases List.mem_cons.1 hx with rfl | hx
   ·exact b1
   ·exact c2 x hx
  ·rw [b2, c3, br, List.append_assoc]
theorem ir {l q xs : List Int} (hb : bQ l) (h : jd l = .inl (xs, q)) : (∀ x ∈ xs, okN x) ∧ l = ay ((xs.length : Int) :: xs) ++ q := by
 obtain ⟨n, p, h1, h2⟩ := bg h
 obtain ⟨b1, b2, _⟩ := mD hb h1
 have hbp : bQ p := b9 (b1 ▸ List.suffix_append _ _) hb
 obtain ⟨c1, c2, c3⟩ := mE n.toNat p _ _ hbp h2
 refine ⟨c2, ?_⟩
 rw [br, c1, List.append_assoc, ← c3, show ((n.toNat : Nat) : Int) = n by omega]
 exact b1
theorem po {l q : List Int} {x : aF} (hb : bQ l) (h : rdI l = .inl (x, q)) : (∀ n ∈ fa x, okN n) ∧ l = ay (fa x) ++ q := by
 obtain ⟨a1, p1, h1, h⟩ := bg h
 obtain ⟨o1, e1⟩ := eg hb h1
 have hb := b9 (bx h1).1 hb
 obtain ⟨a2, p2, h2, h⟩ := bg h
 obtain ⟨o2, e2⟩ := eg hb h2
 have hb := b9 (bx h2).1 hb
 obtain ⟨a3, p3, h3, h⟩ := bg h
 obtain ⟨o3, e3⟩ := eg hb h3
 have hb := b9 (bx h3).1 hb
 obtain ⟨a4, p4, h4, h⟩ := bg h
 obtain ⟨o4, e4⟩ := eg hb h4
 have hb := b9 (bx h4).1 hb
 obtain ⟨a5, p5, h5, h⟩ := bg h
 obtain ⟨o5, e5⟩ := eg hb h5
 have hb := b9 (bx h5).1 hb
 obtain ⟨a6, p6, h6, h⟩ := bg h
 obtain ⟨o6, e6⟩ := eg hb h6
 simp only [Sum.inl.injEq, Prod.mk.injEq] at h
 obtain ⟨rfl, rfl⟩ := h
 refine ⟨?_, ?_⟩
 ·intro n hn
  simp only [fa, List.mem_cons, List.not_mem_nil, or_false] at hn
  rcases hn with rfl | rfl | rfl | rfl | rfl | rfl <;> assumption
 ·rw [e1, e2, e3, e4, e5, e6]
  unfold fa
  simp only [br, List.append_assoc]
  rfl
theorem mF : ∀ (n : Nat) (l q : List Int) (xs : List aF), bQ l → rdK n l = .inl (xs, q) → xs.length = n ∧ (∀ x ∈ xs, ∀ n ∈ fa x, okN n) ∧ l = be xs ++ q
 | 0, l, q, xs, _, h => by
  simp only [rdK, Sum.inl.injEq, Prod.mk.injEq] at h
  obtain ⟨rfl, rfl⟩ := h
  exact ⟨rfl, (fun _ h => by cases h), (by simp [be])⟩
 | n + 1, l, q, xs, hb, h => by
  obtain ⟨a, p, h1, h2⟩ := bg h
  obtain ⟨ys, p2, h3, h4⟩ := bg h2
  simp only [Sum.inl.injEq, Prod.mk.injEq] at h4
  obtain ⟨rfl, rfl⟩ := h4
  obtain ⟨b1, b2⟩ := po hb h1
  have hbp : bQ p := b9 (b2 ▸ List.suffix_append _ _) hb
  obtain ⟨c1, c2, c3⟩ := mF n p _ _ hbp h3
  refine ⟨by rw [List.length_cons, c1], fun x hx => ?_, ?_⟩
  ·rcases List.mem_cons.1 hx with rfl | hx
   ·exact b1
   ·exact c2 x hx
  ·rw [b2, c3]
   unfold be
   simp only [List.flatMap_cons, List.append_assoc]
theorem pq {l q : List Int} {m : ag} (hb : bQ l) (h : rdM l = .inl (m, q)) : okM m ∧ [76, 87, 1] ++ l = aN m ++ q := by
 obtain ⟨a1, p1, h1, h⟩ := bg h
 obtain ⟨o1, e1⟩ := eg hb h1
 have hb := b9 (bx h1).1 hb
 obtain ⟨a2, p2, h2, h⟩ := bg h
 obtain ⟨o2, e2⟩ := eg hb h2
 have hb := b9 (bx h2).1 hb
 obtain ⟨a3, p3, h3, h⟩ := bg h
 obtain ⟨o3, e3⟩ := eg hb h3
 have hb := b9 (bx h3).1 hb
 obtain ⟨a4, p4, h4, h⟩ := bg h
 obtain ⟨o4, e4⟩ := ir hb h4
 have s4 : p4 <:+ p3 := e4 ▸ List.suffix_append _ _
 have hb := b9 s4 hb
 obtain ⟨a5, p5, h5, h⟩ := bg h
 obtain ⟨o5, e5⟩ := ir hb h5
 have s5 : p5 <:+ p4 := e5 ▸ List.suffix_append _ _
 have hb := b9 s5 hb
 obtain ⟨a6, p6, h6, h⟩ := bg h
 obtain ⟨o6, e6⟩ := ir hb h6
 have s6 : p6 <:+ p5 := e6 ▸ List.suffix_append _ _
 have hb := b9 s6 hb
 obtain ⟨a7, p7, h7, h⟩ := bg h
 obtain ⟨e7, z7, _⟩ := mD hb h7
 have s7 : p7 <:+ p6 := e7 ▸ List.suffix_append _ _
 have hb := b9 s7 hb
 obtain ⟨a8, p8, h8, h⟩ := bg h
 obtain ⟨n8, o8, e8⟩ := mF a7.toNat p7 _ _ hb h8
 simp only [Sum.inl.injEq, Prod.mk.injEq] at h
 obtain ⟨rfl, rfl⟩ := h
 refine ⟨⟨?_, o4, o5, o6, o8⟩, ?_⟩
 ·intro n hn
  simp only [List.mem_cons, List.not_mem_nil, or_false] at hn
  rcases hn with rfl | rfl | rfl <;> assumption
 ·unfold aN
  have x1 : ay [a1, a2, a3] = aZ (zig a1) ++ (aZ (zig a2) ++ (aZ (zig a3) ++ [])) := by simp only [br]; rfl
  have x2 : ay [(a8.length : Int)] = aZ (zig (a8.length : Int)) ++ [] := by simp only [br]; rfl
  show [76, 87, 1] ++ l = [76, 87, 1] ++ ay [a1, a2, a3] ++ ay ((a4.length : Int) :: a4) ++ ay ((a5.length : Int) :: a5) ++ ay ((a6.length : Int) :: a6) ++ ay [(a8.length : Int)] ++ be a8 ++ p8
  rw [x1, x2, n8, show ((a7.toNat : Nat) : Int) = a7 by omega]
  simp only [List.append_assoc, List.nil_append]
  rw [← e8, ← e7, ← e6, ← e5, ← e4, ← e3, ← e2, ← e1]
theorem kI {b l : List Int} {k : Nat} (hbl : b.length ≤ 100000000) (hb : bQ b) (hs : l <:+ b) (hk : 1 ≤ k ∧ k ≤ 1000) : bp (k : Int) (ae.mk b ((b.length - l.length : Nat) : Int)) = some (asR b.length (rdC k l)) := by
 unfold bp
 rw [eh hbl hb hs]
 simp only [bSq]
 refine fb fun n q hq => ?_
 obtain ⟨s1, _⟩ := bx hq
 have hql := (s1.trans hs).length_le
 have e0 : (b.length : Int) - ((b.length - q.length : Nat) : Int) = (q.length : Int) := by omega
 have et : (q.length : Int).tdiv (k : Int) = ((q.length / k : Nat) : Int) := (Int.ofNat_tdiv _ _).symm
 have hd : q.length / k ≤ q.length := Nat.div_le_self _ _
 obtain ⟨d, hdd⟩ : ∃ d, d = q.length / k := ⟨_, rfl⟩
 rw [← hdd] at et hd ⊢
 simp only
 rw [e0, wr (n := (q.length : Int)) (by omega) (by omega), et, wr (by omega) (by omega)]
 by_cases c1 : n < 0
 ·rw [iP c1, iP (.inl c1)]; rfl
 ·rw [iN c1, iP (by omega)]
  by_cases c2 : n > (d : Int)
  ·rw [iP c2, iP (.inr c2)]; rfl
  ·rw [iN c2, iN (by omega)]; rfl
theorem lZ {k : Nat} {l q : List Int} {n : Int} (h : rdC k l = .inl (n, q)) : q <:+ l ∧ 0 ≤ n ∧ n ≤ ((q.length / k : Nat) : Int) := by
 obtain ⟨a, p, h1, h2⟩ := bg h
 by_cases c : a < 0 ∨ a > ((p.length / k : Nat) : Int)
 ·rw [iP c] at h2; cases h2
 ·rw [iN c] at h2
  simp only [Sum.inl.injEq, Prod.mk.injEq] at h2
  obtain ⟨rfl, rfl⟩ := h2
  exact ⟨(bx h1).1, by omega, by omega⟩
theorem nG : ∀ (n : Nat) {l q xs : List Int}, rdL n l = .inl (xs, q) → q <:+ l
 | 0, l, q, xs, h => by
  simp only [rdL, Sum.inl.injEq, Prod.mk.injEq] at h
  exact h.2 ▸ List.suffix_refl _
 | n + 1, l, q, xs, h => by
  obtain ⟨a, p, h1, h2⟩ := bg h
  obtain ⟨ys, p2, h3, h4⟩ := bg h2
  simp only [Sum.inl.injEq, Prod.mk.injEq] at h4
  obtain ⟨rfl, rfl⟩ := h4
  exact (nG n h3).trans (bx h1).1
theorem je {l q xs : List Int} (h : jd l = .inl (xs, q)) : q <:+ l := by
 obtain ⟨n, p, h1, h2⟩ := bg h
 exact (nG _ h2).trans (lZ h1).1
theorem kJ {b : List Int} {q0 : ae} {y : Int × Int} (hq : q0.b = b) (hbl : b.length ≤ 100000000) (hb : bQ b) (hy : y.1 ≤ 100000000) : ∀ (n : Nat) (l acc : List Int) (i : Nat), (i : Int) + (n : Int) = y.1 → acc.length = i → l <:+ b →
  bw (fun (x : Int × List Int × Int) => aA q0 y x.1 x.2.1 x.2.2) (((b.length - l.length : Nat) : Int), acc, (i : Int)) =
   some (match rdL n l with
    | .inl (xs, q) => .inl (((b.length - q.length : Nat) : Int), acc ++ xs)
    | .inr (c, k) => .inr (.inr (c, ((b.length - k : Nat) : Int))))
 | 0, l, acc, i, hi, ha, hs => by
  refine bN ?_
  show aA q0 y _ acc (i : Int) = _
  unfold aA
  rw [iN (by omega)]
  simp [rdL]
 | n + 1, l, acc, i, hi, ha, hs => by
  have hrm : iH (acc.length + 1) 8 := by
   unfold iH
   have : maxLen = 9223372036854775807 := rfl
   omega
  have hstep : aA q0 y ((b.length - l.length : Nat) : Int) acc (i : Int) = (match rdN l with
    | .inl (x, q) => some (.inl (((b.length - q.length : Nat) : Int), acc ++ [x], ((i + 1 : Nat) : Int)))
    | .inr (c, k) => some (.inr (.inr (.inr (c, ((b.length - k : Nat) : Int)))))) := by
   unfold aA
   rw [iP (by omega), hq, eh hbl hb hs]
   simp only [bSq]
   cases rdN l with
   | inr z => rfl
   | inl z =>
    simp only [asR, Sum.elim_inl]
    rw [iP hrm, wrs i (by omega)]
    rfl
  cases hr : rdN l with
  | inr z =>
   rw [hr] at hstep
   refine (bN hstep).trans ?_
   simp only [rdL, hr, rdB]
  | inl z =>
   obtain ⟨x, q⟩ := z
   rw [hr] at hstep
   rw [dh (s := (((b.length - l.length : Nat) : Int), acc, (i : Int))) hstep]
   rw [kJ hq hbl hb hy n q (acc ++ [x]) (i + 1) (by omega) (by simp [ha]) ((bx hr).1.trans hs)]
   simp only [rdL, hr, rdB]
   cases rdL n q with
   | inr z => rfl
   | inl z => simp
theorem jJ {b l : List Int} (hbl : b.length ≤ 100000000) (hb : bQ b) (hs : l <:+ b) : bl (ae.mk b ((b.length - l.length : Nat) : Int)) = some (asR b.length (jd l)) := by
 unfold bl
 rw [show (1 : Int) = ((1 : Nat) : Int) from rfl, kI hbl hb hs (by omega)]
 simp only [bSq]
 refine fb fun n q hq => ?_
 obtain ⟨s1, s2, s3⟩ := lZ hq
 have hql := (s1.trans hs).length_le
 have hd : q.length / 1 ≤ q.length := Nat.div_le_self _ _
 have := kJ (q0 := ae.mk b ((b.length - l.length : Nat) : Int)) (y := (n, ((b.length - q.length : Nat) : Int))) rfl hbl hb (by simp only; omega) n.toNat q [] 0 (by simp only; omega) rfl (s1.trans hs)
 have h0 : ((0 : Nat) : Int) = 0 := rfl
 rw [h0] at this
 show (bw (fun (x : Int × List Int × Int) => aA (ae.mk b ((b.length - l.length : Nat) : Int)) (n, ((b.length - q.length : Nat) : Int)) x.1 x.2.1 x.2.2) (((b.length - q.length : Nat) : Int), [], 0)).bind _ = _
 rw [this]
 cases rdL n.toNat q with
 | inr z => rfl
 | inl z => rfl
theorem sn (a b : Nat) (ha : a < 4294967296) (hb : b < 4294967296) : bits .or .u32 (a : Int) (b : Int) = ((a ||| b : Nat) : Int) := by
 have hx : a ||| b < 2 ^ 32 := Nat.or_lt_two_pow (by omega) (by omega)
 have h1 : (BitVec.ofInt 32 (a : Int)).toNat = a := by
  rw [BitVec.ofInt_natCast, BitVec.toNat_ofNat]; exact Nat.mod_eq_of_lt (by omega)
 have h2 : (BitVec.ofInt 32 (b : Int)).toNat = b := by
  rw [BitVec.ofInt_natCast, BitVec.toNat_ofNat]; exact Nat.mod_eq_of_lt (by omega)
 show IntKind.u32.wrap ((BitVec.ofInt 32 (a : Int) ||| BitVec.ofInt 32 (b : Int)).toNat : Int) = _
 rw [BitVec.toNat_or, h1, h2, IntKind.wrap_u32]
 omega
theorem kK (a b k : Nat) (ha : a < 2 ^ k) (h : a + b * 2 ^ k < 4294967296) : bits .or .u32 (a : Int) ((b * 2 ^ k : Nat) : Int) = ((a + b * 2 ^ k : Nat) : Int) := by
 rw [sn _ _ (by omega) (by omega)]
 congr 1
 have h1 := Nat.shiftLeft_add_eq_or_of_lt ha b
 rw [Nat.shiftLeft_eq] at h1
 rw [Nat.or_comm, ← h1, Nat.add_comm]
theorem pr (x k : Nat) (hx : x < 256) (hk : k ≤ 24) : IntKind.wrap .u32 ((IntKind.wrap .u32 (x : Int)) * 2 ^ (min k (IntKind.bits .u32))) = ((x * 2 ^ k : Nat) : Int) := by
 have e1 : min k (IntKind.bits .u32) = k := Nat.min_eq_left (by show k ≤ 32; omega)
 have e2 : IntKind.wrap .u32 (x : Int) = (x : Int) := by rw [IntKind.wrap_u32]; omega
 rw [e1, e2]
 have e4 : (x : Int) * 2 ^ k = ((x * 2 ^ k : Nat) : Int) := by rw [Int.natCast_mul]; congr 1
 have hp : 2 ^ k ≤ 2 ^ 24 := Nat.pow_le_pow_right (by decide) hk
 have hle : x * 2 ^ k ≤ 255 * 2 ^ 24 := Nat.mul_le_mul (by omega) hp
 rw [e4, IntKind.wrap_u32]
 omega
def kX (a b c d : Nat) : Nat := a + b * 2 ^ 8 + c * 2 ^ 16 + d * 2 ^ 24
theorem qd (a b c d : Nat) (ha : a < 256) (hb : b < 256) (hc : c < 256) (hd : d < 256) :
  bits .or .u32 (bits .or .u32 (bits .or .u32 (IntKind.wrap .u32 (a : Int)) (IntKind.wrap .u32 ((IntKind.wrap .u32 (b : Int)) * 2 ^ (min 8 (IntKind.bits .u32))))) (IntKind.wrap .u32 ((IntKind.wrap .u32 (c : Int)) * 2 ^ (min 16 (IntKind.bits .u32)))))
   (IntKind.wrap .u32 ((IntKind.wrap .u32 (d : Int)) * 2 ^ (min 24 (IntKind.bits .u32)))) = (kX a b c d : Int) := by
 have e0 : IntKind.wrap .u32 (a : Int) = (a : Int) := by rw [IntKind.wrap_u32]; omega
 rw [e0, pr b 8 hb (by decide), pr c 16 hc (by decide), pr d 24 hd (by decide), kK a b 8 (by omega) (by omega), kK _ c 16 (by omega) (by omega), kK _ d 24 (by omega) (by omega)]
 rfl
theorem pt {a b c d a' b' c' d' : Nat} (ha : a < 256) (hb : b < 256) (hc : c < 256) (hd : d < 256) (ha' : a' < 256) (hb' : b' < 256) (hc' : c' < 256) (hd' : d' < 256) (h : kX a b c d = kX a' b' c' d') : a = a' ∧ b = b' ∧ c = c' ∧ d = d' := by
 unfold kX at h; omega
theorem lA {s : Nat} (h : s < 4294967296) : kX (s % 256) (s / 256 % 256) (s / 65536 % 256) (s / 16777216 % 256) = s := by
 unfold kX; omega
theorem lB {l : List Int} {n : Nat} (hl : l.length = n + 4) (hn : 3 ≤ n) (hbig : n ≤ 90000000) (hb : bQ l) :
    cN l = (if gY (l.take 3) = [76, 87, 1] then
      (if ¬ eZ (l.take n) = (kX (l.getD n default).toNat (l.getD (n + 1) default).toNat (l.getD (n + 2) default).toNat (l.getD (n + 3) default).toNat : Int) then some (ag.mk 0 0 0 [] [] [] [], aq.mk 19 (n : Int))
       else (bq (ae.mk (l.take n) 3)).bind fun y2 => Sum.elim (fun y5 => if y5.2 < (n : Int) then (some ((ag.mk 0 0 0 [] [] [] []), (aq.mk 4 y5.2))) else ((cZ (y5.1)).bind fun y7 => if ¬ ((y7).code) = 0 then (some ((ag.mk 0 0 0 [] [] [] []), (aq.mk 18 (n : Int)))) else (some ((y5.1), (aq.mk 0 0)))))
        (fun y6 => some ((ag.mk 0 0 0 [] [] [] []), (aq.mk y6.1 y6.2))) y2)
      else some (ag.mk 0 0 0 [] [] [] [], aq.mk 4 0)) := by
  have w0 : IntKind.wrap .i64 ((l.length : Int) - 4) = (n : Int) := by rw [wr (by omega) (by omega)]; omega
  have w1 : IntKind.wrap .i64 ((n : Int) + 1) = ((n + 1 : Nat) : Int) := by rw [wr (by omega) (by omega)]; omega
  have w2 : IntKind.wrap .i64 ((n : Int) + 2) = ((n + 2 : Nat) : Int) := by rw [wr (by omega) (by omega)]; omega
  have w3 : IntKind.wrap .i64 ((n : Int) + 3) = ((n + 3 : Nat) : Int) := by rw [wr (by omega) (by omega)]; omega
  have bt : ∀ k, k < l.length → ((l.getD k default).toNat : Int) = l.getD k default ∧ (l.getD k default).toNat < 256 := fun k hk => by
    have := hb _ (fA hk); omega
  obtain ⟨a1, a2⟩ := bt n (by omega)
  obtain ⟨b1, b2⟩ := bt (n + 1) (by omega)
  obtain ⟨c1, c2⟩ := bt (n + 2) (by omega)
  obtain ⟨d1, d2⟩ := bt (n + 3) (by omega)
  have hv := qd _ _ _ _ a2 b2 c2 d2
  rw [a1, b1, c1, d1] at hv
  unfold cN
  rw [w0, w1, w2, w3]
  rw [iN (by omega), iP (by omega)]
  simp only [tN]
  rw [hv]
  by_cases hs : gY (l.take 3) = [76, 87, 1]
  · rw [iP hs, iP hs, iP (by refine ⟨?_, ?_, ?_, ?_⟩ <;> omega), iP (by omega), m8 _ (fun x hx => hb x (List.mem_of_mem_take hx)) (by simp; omega)]
    rfl
  · rw [iN hs, iN hs]
def ou (m : ag) : List Int := aN m ++ dS (eZ (aN m)).toNat
theorem lC (s : Nat) : (dS s).length = 4 := rfl
theorem nd (s : Nat) : bQ (dS s) := by
 intro x hx
 unfold dS at hx
 simp only [List.mem_cons, List.not_mem_nil, or_false] at hx
 omega
theorem kL (m : ag) : ∃ r, aN m = [76, 87, 1] ++ r := by unfold aN; simp only [List.append_assoc]; exact ⟨_, rfl⟩
theorem pu (m : ag) : 3 ≤ (aN m).length := by obtain ⟨r, h⟩ := kL m; rw [h]; simp
theorem iC (b : List Int) (s j : Nat) (hj : j < 4) : (b ++ dS s).getD (b.length + j) default = (dS s).getD j default := by
 simp only [List.getD]
 rw [List.getElem?_append_right (by omega)]
 congr 2
 omega
theorem mG {m : ag} {f : aq} (hm : okM m) (h1 : m.put.length ≤ 100000) (h2 : m.bools.length ≤ 100000) (h3 : m.get.length ≤ 100000) (h4 : m.code.length ≤ 100000) (hbl : (aN m).length ≤ 90000000) (hc : cZ m = some f) (hf : f.code = 0) :
  cN (ou m) = some (m, aq.mk 0 0) := by
 have hby := kG hm h1 h2 h3 h4
 have hs := lY hby
 have hge := pu m
 unfold ou
 rw [lB (n := (aN m).length) (by rw [List.length_append, lC]) hge hbl (fl hby (nd _))]
 have ht3 : gY ((aN m ++ dS (eZ (aN m)).toNat).take 3) = [76, 87, 1] := by
  obtain ⟨r, h⟩ := kL m
  rw [h]
  rfl
 rw [iP ht3, List.take_left]
 have g0 := iC (aN m) (eZ (aN m)).toNat 0 (by decide)
 have g1 := iC (aN m) (eZ (aN m)).toNat 1 (by decide)
 have g2 := iC (aN m) (eZ (aN m)).toNat 2 (by decide)
 have g3 := iC (aN m) (eZ (aN m)).toNat 3 (by decide)
 rw [Nat.add_zero] at g0
 rw [g0, g1, g2, g3]
 have hv : kX ((dS (eZ (aN m)).toNat).getD 0 default).toNat ((dS (eZ (aN m)).toNat).getD 1 default).toNat ((dS (eZ (aN m)).toNat).getD 2 default).toNat ((dS (eZ (aN m)).toNat).getD 3 default).toNat = (eZ (aN m)).toNat := by
  have := lA (s := (eZ (aN m)).toNat) (by omega)
  exact this
 rw [hv, iN (by omega), ot hm (by omega) (by omega)]
 simp only [bSq, Sum.elim_inl]
 rw [iN (by omega), hc]
 simp only [bSq]
 rw [iN (not_not_intro hf)]
end Pam
namespace Pam
open Go
def ei (regs r : Int) : Bool := decide (0 ≤ r ∧ r < regs)
theorem pw (l : List Int) (j : bI) (hl : l.length ≤ 9000000) :
  bJ l j = some (match js l.length (fun i => if ei j.m_.regs (l.getD i default) then none else some (i : Int)) () with | .inr i => i | .inl _ => -1) := by
 unfold bJ
 rw [fj l.length (fun i => if ei j.m_.regs (l.getD i default) then none else some (i : Int)) ()]
 ·rcases hI l.length (fun i => if ei j.m_.regs (l.getD i default) then none else some (i : Int)) () with ⟨h, _⟩ | ⟨i, z, _, _, h⟩
  ·rw [h]; rfl
  ·rw [h]; rfl
 ·intro i hi
  unfold bk
  rw [iP (ltI hi), iP (inI hi), tN, wrs i (by omega)]
  unfold er
  by_cases h1 : l.getD i default < 0
  ·rw [iP h1]; simp only [bSq, if_true]; rw [iN (by simp only [ei, decide_eq_true_eq]; omega)]
  ·rw [iN h1]; simp only [bSq]
   by_cases h2 : l.getD i default ≥ j.m_.regs
   ·rw [iP (dT h2), iN (by simp only [ei, decide_eq_true_eq]; omega)]
   ·rw [iN (by simp only [decide_eq_true_eq]; exact h2), iP (by simp only [ei, decide_eq_true_eq]; omega)]
 ·unfold bk
  rw [iN (eY _)]
theorem qU (j : bI) (l : List Int) (hl : l.length ≤ 9000000) : aY j l = some (l.all (ei j.m_.regs)) := by
 unfold aY bU
 rw [pw l j hl, my]
 rcases hI l.length (fun i => if ei j.m_.regs (l.getD i default) then none else some (i : Int)) () with ⟨h, h'⟩ | ⟨i, z, hi, hf, h⟩
 ·rw [h]
  have : ∀ i, i < l.length → ei j.m_.regs (l.getD i default) = true := fun i hi => by have := h' i hi; simpa using this
  rw [dT this]; rfl
 ·rw [h]
  have hn : ¬ ∀ i, i < l.length → ei j.m_.regs (l.getD i default) = true := fun k => by rw [iP (k i hi)] at hf; cases hf
  rw [dF hn]
  have : z = i := by split at hf <;> simp_all
  subst this
  simp
theorem ow (m : ag) (l : List Int) (hl : l.length ≤ 9000000) : cR m l = some (l.all (ei m.regs)) := by
 unfold cR
 rw [fj l.length (fun i => if ei m.regs (l.getD i default) then none else some false) ()]
 ·rw [my]
  rcases hI l.length (fun i => if ei m.regs (l.getD i default) then none else some false) () with ⟨h, h'⟩ | ⟨i, z, hi, hf, h⟩
  ·rw [h]
   have : ∀ i, i < l.length → ei m.regs (l.getD i default) = true := fun i hi => by have := h' i hi; simpa using this
   rw [dT this]; rfl
  ·rw [h]
   have hn : ¬ ∀ i, i < l.length → ei m.regs (l.getD i default) = true := fun k => by rw [iP (k i hi)] at hf; cases hf
   rw [dF hn]
   have : z = false := by split at hf <;> simp_all
   subst this; rfl
 ·intro i hi
  unfold gl
  rw [iP (ltI hi), iP (inI hi), tN, wrs i (by omega)]
  by_cases h1 : l.getD i default < 0
  ·rw [iP h1, iN (by simp only [ei, decide_eq_true_eq]; omega)]
  ·rw [iN h1]
   by_cases h2 : l.getD i default ≥ m.regs
   ·rw [iP h2, iN (by simp only [ei, decide_eq_true_eq]; omega)]
   ·rw [iN h2, iP (by simp only [ei, decide_eq_true_eq]; omega)]
 ·unfold gl
  rw [iN (eY _)]
def fL (cells a n : Int) : Bool := decide (1 ≤ n ∧ n ≤ cells ∧ 0 ≤ a ∧ a ≤ cells - n)
theorem py (j : bI) (a n : Int) (h1 : 1 ≤ j.m_.cells) (h2 : j.m_.cells ≤ 6000) : cj j a n = some (fL j.m_.cells a n) := by
 unfold cj fL
 by_cases a1 : n ≥ 1
 ·rw [iP a1]
  by_cases a2 : n ≤ j.m_.cells
  ·rw [iP a2, wr (by omega) (by omega)]
   by_cases a3 : a ≥ 0
   ·rw [iP a3]; congr 1; rw [Bool.eq_iff_iff]; simp only [decide_eq_true_eq]; omega
   ·rw [iN a3]; congr 1; symm; rw [decide_eq_false_iff_not]; omega
  ·rw [iN a2]; congr 1; symm; rw [decide_eq_false_iff_not]; omega
 ·rw [iN a1]; congr 1; symm; rw [decide_eq_false_iff_not]; omega
def kN (k : Int) : Int := if 1 ≤ k ∧ k ≤ 12 then 2 else if k = 13 ∨ k = 14 then 1 else 0
theorem rV (k : Int) : ∃ a b, io k = some (a, b, kN k) := by
 unfold io kN
 repeat' split
 all_goals first
  | exact ⟨_, _, rfl⟩
  | (exfalso; omega)
theorem qe (k : Int) : ∃ a b, kM k = some (a, b, kN k) := by
 unfold kM
 by_cases h1 : k < 1
 ·rw [iP h1]; exact ⟨0, 0, by unfold kN; rw [iN (by omega), iN (by omega)]⟩
 ·rw [iN h1]
  by_cases h2 : k > 14
  ·rw [iP h2]; exact ⟨0, 0, by unfold kN; rw [iN (by omega), iN (by omega)]⟩
  ·rw [iN h2]
   have hg : (0 ≤ k ∧ k < (([63, 105, 105, 105, 105, 105, 105, 105, 105, 105, 98, 98, 98, 105, 98] : List UInt8).length : Int)) ∧ (0 ≤ k ∧ k < (([63, 105, 105, 105, 105, 105, 105, 105, 98, 98, 98, 98, 98, 105, 98] : List UInt8).length : Int)) := by
    simp only [List.length_cons, List.length_nil]; omega
   by_cases h3 : k ≥ 13
   ·rw [iP h3]; unfold gg; rw [iP hg]; exact ⟨_, _, by unfold kN; rw [iN (by omega), iP (by omega)]⟩
   ·rw [iN h3]; unfold gg; rw [iP hg]; exact ⟨_, _, by unfold kN; rw [iP (by omega)]⟩
theorem qf (m : ag) (x : aF) (h1 : 1 ≤ m.cells) (h2 : m.cells ≤ 6000) : ∃ b, cG (bI.mk m) x = some b ∧ jK m x = some b := by
 obtain ⟨a, b, e1⟩ := rV x.k
 obtain ⟨a', b', e2⟩ := qe x.k
 have r1 : ∀ l : List Int, l.length ≤ 9000000 → aY (bI.mk m) l = some (l.all (ei m.regs)) := fun l hl => qU _ l hl
 have r2 : ∀ l : List Int, l.length ≤ 9000000 → cR m l = some (l.all (ei m.regs)) := fun l hl => ow _ l hl
 have c1 : ∀ a n, cj (bI.mk m) a n = some (fL m.cells a n) := fun a n => py _ a n h1 h2
 unfold cG jK
 rw [e1, e2]
 simp only [bSq]
 unfold cm hM ck hL
 have q1 := r1 (lit [x.r_]) (by simp [lit])
 have q2 := r1 (lit [x.r_, x.a]) (by simp [lit])
 have q3 := r1 (lit [x.r_, x.a, x.b]) (by simp [lit])
 have p1 := r2 (lit [x.r_]) (by simp [lit])
 have p2 := r2 (lit [x.r_, x.a]) (by simp [lit])
 have p3 := r2 (lit [x.r_, x.a, x.b]) (by simp [lit])
 rw [q1, q2, q3, p1, p2, p3]
 simp only [bSq, c1]
 generalize (lit [x.r_]).all (ei m.regs) = g1
 generalize (lit [x.r_, x.a]).all (ei m.regs) = g2
 generalize (lit [x.r_, x.a, x.b]).all (ei m.regs) = g3
 have k1 : (if x.n ≥ 0 then some (decide (x.n < m.cells)) else some false) = some (fL m.cells x.n 1) := by
  unfold fL
  split
  ·congr 1; rw [Bool.eq_iff_iff]; simp only [decide_eq_true_eq]; omega
  ·congr 1; symm; rw [decide_eq_false_iff_not]; omega
 have k2 : (if x.n ≥ 0 then if x.n < m.cells then if x.b ≥ 1 then some (decide (x.b ≤ IntKind.wrap .i64 (m.cells - x.n))) else some false else some false else some false) = some (fL m.cells x.n x.b) := by
  unfold fL
  split
  ·split
   ·split
    ·rw [wr (by omega) (by omega)]; congr 1; rw [Bool.eq_iff_iff]; simp only [decide_eq_true_eq]; omega
    ·congr 1; symm; rw [decide_eq_false_iff_not]; omega
   ·congr 1; symm; rw [decide_eq_false_iff_not]; omega
  ·congr 1; symm; rw [decide_eq_false_iff_not]; omega
 rw [k1, k2]
 generalize fL m.cells x.n 1 = g4
 generalize fL m.cells x.n x.b = g5
 have key : ∀ X : Option Bool, X.isSome = true → ∃ b, X = some b ∧ X = some b := fun X h => by
  obtain ⟨b, hb⟩ := Option.isSome_iff_exists.1 h
  exact ⟨b, hb, hb⟩
 refine key _ ?_
 simp only [apply_ite Option.isSome, Option.isSome_some, ite_self]
def iS (n times one : Int) : List aF → Int
 | [] => if one > 0 then 0 else n
 | x :: l =>
  if x.op = 10 then (if times > 1 ∨ one > 0 ∨ x.n < 1 ∨ x.n > 300 then 0 else iS (n + times) x.n 1 l)
  else if x.op = 11 then (if one = 0 then 0 else iS (n + times) 1 0 l)
  else iS (n + times) times one l
theorem lD (l : List aF) (hl : l.length ≤ 9000000) : ∀ (k i : Nat) (n times one : Int), i + k = l.length → 0 ≤ n → n ≤ 300 * i → 1 ≤ times → times ≤ 300 →
  (bw (fun (x11, x12, x13, x14) => dy l x11 x12 x13 x14) (n, times, one, (i : Int))).bind (Sum.elim (fun (z15, z16) => dx z15 z16) (fun z17 => some z17)) = some (iS n times one (l.drop i))
 | 0, i, n, times, one, hi, _, _, _, _ => by
  have hi : i = l.length := by omega
  subst hi
  rw [bN (o := .inl (n, one)) (by simp only [dy]; rw [iN (eY _)]), List.drop_length]
  simp only [bSq, Sum.elim_inl, dx, iS]
  split <;> rfl
 | k + 1, i, n, times, one, hi, h1, h2, h3, h4 => by
  have hlt : i < l.length := by omega
  rw [n3 l i hlt]
  have hw : IntKind.wrap .i64 (n + times) = n + times := wr (by omega) (by omega)
  have hb : dy l n times one i = (if (l.getD i default).op = 10 then (if times > 1 ∨ one > 0 ∨ (l.getD i default).n < 1 ∨ (l.getD i default).n > 300 then some (.inr (.inr 0)) else some (.inl (n + times, (l.getD i default).n, 1, ((i + 1 : Nat) : Int))))
    else if (l.getD i default).op = 11 then (if one = 0 then some (.inr (.inr 0)) else some (.inl (n + times, 1, 0, ((i + 1 : Nat) : Int)))) else some (.inl (n + times, times, one, ((i + 1 : Nat) : Int)))) := by
   unfold dy
   rw [iP (ltI hlt), iP (inI hlt), tN, hw, wrs i (by omega)]
   by_cases a1 : (l.getD i default).op = 10
   ·rw [iP a1, iP a1]
    by_cases b1 : times > 1
    ·rw [iP b1, iP (.inl b1)]
    ·rw [iN b1]
     by_cases b2 : one > 0
     ·rw [iP b2, iP (.inr (.inl b2))]
     ·rw [iN b2]
      by_cases b3 : (l.getD i default).n < 1
      ·rw [iP b3, iP (.inr (.inr (.inl b3)))]
      ·rw [iN b3]
       by_cases b4 : (l.getD i default).n > 300
       ·rw [iP b4, iP (.inr (.inr (.inr b4)))]
       ·rw [iN b4, iN (by omega)]
   ·rw [iN a1, iN a1]
  generalize l.getD i default = x at hb ⊢
  have ih := fun n' t' o' h1 h2 h3 h4 => lD l hl k (i + 1) n' t' o' (by omega) h1 h2 h3 h4
  simp only [iS]
  by_cases a1 : x.op = 10
  ·rw [iP a1] at hb ⊢
   by_cases b1 : times > 1 ∨ one > 0 ∨ x.n < 1 ∨ x.n > 300
   ·rw [iP b1] at hb ⊢; rw [bN (by simpa using hb)]; rfl
   ·rw [iN b1] at hb ⊢; rw [dh (by simpa using hb)]; exact ih _ _ _ (by omega) (by omega) (by omega) (by omega)
  ·rw [iN a1] at hb ⊢
   by_cases a2 : x.op = 11
   ·rw [iP a2] at hb ⊢
    by_cases b1 : one = 0
    ·rw [iP b1] at hb ⊢; rw [bN (by simpa using hb)]; rfl
    ·rw [iN b1] at hb ⊢; rw [dh (by simpa using hb)]; exact ih _ _ _ (by omega) (by omega) (by omega) (by omega)
   ·rw [iN a2] at hb ⊢; rw [dh (by simpa using hb)]; exact ih _ _ _ (by omega) (by omega) (by omega) (by omega)
theorem qg (l : List aF) (hl : l.length ≤ 9000000) : gF l = some (iS 0 1 0 l) := by
 have := lD l hl l.length 0 0 1 0 (by omega) (by omega) (by omega) (by omega) (by omega)
 unfold gF
 simpa using this
noncomputable def mH (m : ag) (x : aF) : Bool := (cG (bI.mk m) x).getD false
theorem qV (m : ag) (x : aF) (h1 : 1 ≤ m.cells) (h2 : m.cells ≤ 6000) : cG (bI.mk m) x = some (mH m x) ∧ jK m x = some (mH m x) := by
 obtain ⟨b, e1, e2⟩ := qf m x h1 h2
 unfold mH
 rw [e1, e2]
 exact ⟨rfl, rfl⟩
def qh (m : ag) (l : List Int) (i : Nat) : Option aq := if l.getD i default < 0 ∨ l.getD i default ≥ m.cells then some (aq.mk 16 (-1)) else none
def rW (m : ag) (l : List Int) : Option aq := match js l.length (qh m l) () with | .inr z => some z | .inl _ => none
def f6 (m : ag) (i : Nat) : List Int := (lit ([m.put, m.bools, m.get] : List (List Int))).getD i default
def F1 (m : ag) : Unit ⊕ aq := js 3 (fun i => rW m (f6 m i)) ()
noncomputable def F2 (m : ag) : Unit ⊕ aq := js m.code.length (fun i => if mH m (m.code.getD i default) then none else some (aq.mk 4 i)) ()
def F3 (m : ag) : aq := if iS 0 1 0 m.code ≠ m.cost ∨ (iS 0 1 0 m.code = 0 ∧ (m.code.length : Int) > 0) then aq.mk 18 (-1) else aq.mk 0 0
noncomputable def mI (m : ag) : aq :=
 if m.cells < 1 ∨ m.cells > 6000 ∨ m.regs < 1 ∨ m.regs > 40 then aq.mk 13 (-1)
 else if (m.put.length : Int) > 6000 ∨ (m.bools.length : Int) > 6000 ∨ (m.get.length : Int) > 120000 ∨ (m.code.length : Int) > 200000 then aq.mk 7 (-1)
 else match F1 m with
  | .inr z => z
  | .inl _ => match F2 m with
   | .inr z => z
   | .inl _ => F3 m
theorem ox (m : ag) (h : m.put.length ≤ 9000000 ∧ m.bools.length ≤ 9000000 ∧ m.get.length ≤ 9000000) (i : Nat) : (f6 m i).length ≤ 9000000 := by
 unfold f6 lit
 match i with
 | 0 => exact h.1
 | 1 => exact h.2.1
 | 2 => exact h.2.2
 | i + 3 => exact Nat.zero_le _
theorem qj (m : ag) (x : Nat) (hx : x < 3) (hl : (f6 m x).length ≤ 9000000) : bw (fun x12 => dK m x x12) 0 = some (js (f6 m x).length (qh m (f6 m x)) ()) := by
 refine fj _ _ _ (fun i hi => ?_) ?_
 ·unfold dK
  rw [tN, tN]
  show (if (i : Int) < ((f6 m x).length : Int) then _ else _) = _
  rw [iP (ltI hi)]
  show (if 0 ≤ (i : Int) ∧ (i : Int) < ((f6 m x).length : Int) then _ else _) = _
  rw [iP (inI hi), wrs i (by omega)]
  show (if (f6 m x).getD i default < 0 then _ else if (f6 m x).getD i default ≥ m.cells then _ else _) = _
  unfold qh
  by_cases a : (f6 m x).getD i default < 0
  ·rw [iP a, iP (.inl a)]
  ·rw [iN a]
   by_cases b : (f6 m x).getD i default ≥ m.cells
   ·rw [iP b, iP (.inr b)]
   ·rw [iN b, iN (by omega)]
 ·unfold dK
  rw [tN]
  exact iN (eY (f6 m x).length)
theorem qk (m : ag) (h : m.put.length ≤ 9000000 ∧ m.bools.length ≤ 9000000 ∧ m.get.length ≤ 9000000) : bw (fun x9 => dL m x9) 0 = some (F1 m) := by
 refine fj 3 _ _ (fun i hi => ?_) ?_
 ·unfold dL
  have h3 : (i : Int) < 3 := by omega
  rw [iP h3, iP ⟨by omega, h3⟩, qj m i hi (ox m h i)]
  unfold rW
  rcases hI (f6 m i).length (qh m (f6 m i)) () with ⟨e, _⟩ | ⟨j, z, _, _, e⟩
  ·rw [e]; simp only [bSq, Sum.elim_inl, dJ]; rw [wrs i (by omega)]
  ·rw [e]; rfl
 ·unfold dL; rfl
theorem ql (m : ag) (h1 : 1 ≤ m.cells) (h2 : m.cells ≤ 6000) (hl : m.code.length ≤ 9000000) : bw (fun x4 => dH m x4) 0 = some (F2 m) := by
 refine fj _ _ _ (fun i hi => ?_) ?_
 ·unfold dH
  rw [iP (ltI hi), iP (inI hi), tN, (qV m _ h1 h2).1, wrs i (by omega)]
  simp only [bSq]
  cases mH m (m.code.getD i default) <;> rfl
 ·unfold dH; rw [iN (eY _)]
theorem kO (m : ag) (hl : m.put.length ≤ 9000000 ∧ m.bools.length ≤ 9000000 ∧ m.get.length ≤ 9000000 ∧ m.code.length ≤ 9000000) : cZ m = some (mI m) := by
 unfold cZ mI
 by_cases c1 : m.cells < 1
 ·rw [iP c1, iP (by omega)]
 rw [iN c1]
 by_cases c2 : m.cells > 6000
 ·rw [iP c2, iP (by omega)]
 rw [iN c2]
 by_cases c3 : m.regs < 1
 ·rw [iP c3, iP (by omega)]
 rw [iN c3]
 by_cases c4 : m.regs > 40
 ·rw [iP c4, iP (by omega)]
 rw [iN c4, iN (show ¬ (m.cells < 1 ∨ m.cells > 6000 ∨ m.regs < 1 ∨ m.regs > 40) by omega)]
 by_cases c5 : (m.put.length : Int) > 6000
 ·rw [iP c5, iP (by omega)]
 rw [iN c5]
 by_cases c6 : (m.bools.length : Int) > 6000
 ·rw [iP c6, iP (by omega)]
 rw [iN c6]
 by_cases c7 : (m.get.length : Int) > 120000
 ·rw [iP c7, iP (by omega)]
 rw [iN c7]
 by_cases c8 : (m.code.length : Int) > 200000
 ·rw [iP c8, iP (by omega)]
 rw [iN c8, iN (show ¬ ((m.put.length : Int) > 6000 ∨ (m.bools.length : Int) > 6000 ∨ (m.get.length : Int) > 120000 ∨ (m.code.length : Int) > 200000) by omega)]
 rw [qk m ⟨hl.1, hl.2.1, hl.2.2.1⟩]
 cases F1 m with
 | inr z => rfl
 | inl u =>
  simp only [bSq, Sum.elim_inl]
  unfold dI
  rw [ql m (by omega) (by omega) hl.2.2.2]
  cases F2 m with
  | inr z => rfl
  | inl u =>
   simp only [bSq, Sum.elim_inl]
   unfold dG F3
   rw [qg _ hl.2.2.2]
   simp only [bSq]
   generalize iS 0 1 0 m.code = c
   generalize (m.code.length : Int) = n
   by_cases d1 : c = 0
   ·rw [iP d1]
    by_cases d2 : n > 0
    ·rw [iP d2, iP (.inr ⟨d1, d2⟩)]
    ·rw [iN d2]
     by_cases d3 : c = m.cost
     ·rw [iN (by simpa using d3), iN (by simp only [ne_eq, not_or, Decidable.not_not]; exact ⟨d3, fun h => d2 h.2⟩)]
     ·rw [iP d3, iP (.inl d3)]
   ·rw [iN d1]
    by_cases d3 : c = m.cost
    ·rw [iN (by simpa using d3), iN (by simp only [ne_eq, not_or, Decidable.not_not]; exact ⟨d3, fun h => d1 h.1⟩)]
    ·rw [iP d3, iP (.inl d3)]
theorem qm {l q : List Int} {x : aF} (h : rdI l = .inl (x, q)) : q <:+ l := by
 obtain ⟨a1, p1, h1, h⟩ := bg h
 obtain ⟨a2, p2, h2, h⟩ := bg h
 obtain ⟨a3, p3, h3, h⟩ := bg h
 obtain ⟨a4, p4, h4, h⟩ := bg h
 obtain ⟨a5, p5, h5, h⟩ := bg h
 obtain ⟨a6, p6, h6, h⟩ := bg h
 simp only [Sum.inl.injEq, Prod.mk.injEq] at h
 obtain ⟨_, rfl⟩ := h
 exact (bx h6).1.trans ((bx h5).1.trans ((bx h4).1.trans ((bx h3).1.trans ((bx h2).1.trans (bx h1).1))))
theorem oy {b : List Int} {q0 : ae} {y : Int × Int} (hq : q0.b = b) (hbl : b.length ≤ 100000000) (hb : bQ b) {l : List Int} (hs : l <:+ b) {acc : List aF} {i : Nat} (hi : (i : Int) < y.1) (hi2 : i ≤ 100000000) (ha : acc.length = i) :
  au q0 y ((b.length - l.length : Nat) : Int) acc (i : Int) = (match rdI l with
    | .inl (x, q) => some (.inl (((b.length - q.length : Nat) : Int), acc ++ [x], ((i + 1 : Nat) : Int)))
    | .inr (c, k) => some (.inr (.inr (.inr (c, ((b.length - k : Nat) : Int)))))) := by
 have hrm : iH (acc.length + 1) 48 := by
  unfold iH
  have : maxLen = 9223372036854775807 := rfl
  omega
 unfold au rdI
 rw [iP hi, hq, eh hbl hb hs]
 simp only [bSq]
 cases h1 : rdN l with
 | inr z => rfl
 | inl z =>
  obtain ⟨a1, p1⟩ := z
  have s1 := (bx h1).1.trans hs
  simp only [asR, Sum.elim_inl, rdB]
  rw [eh hbl hb s1]
  simp only [bSq]
  cases h2 : rdN p1 with
  | inr z => rfl
  | inl z =>
   obtain ⟨a2, p2⟩ := z
   have s2 := (bx h2).1.trans s1
   simp only [asR, Sum.elim_inl]
   rw [eh hbl hb s2]
   simp only [bSq]
   cases h3 : rdN p2 with
   | inr z => rfl
   | inl z =>
    obtain ⟨a3, p3⟩ := z
    have s3 := (bx h3).1.trans s2
    simp only [asR, Sum.elim_inl]
    rw [eh hbl hb s3]
    simp only [bSq]
    cases h4 : rdN p3 with
    | inr z => rfl
    | inl z =>
     obtain ⟨a4, p4⟩ := z
     have s4 := (bx h4).1.trans s3
     simp only [asR, Sum.elim_inl]
     rw [eh hbl hb s4]
     simp only [bSq]
     cases h5 : rdN p4 with
     | inr z => rfl
     | inl z =>
      obtain ⟨a5, p5⟩ := z
      have s5 := (bx h5).1.trans s4
      simp only [asR, Sum.elim_inl]
      rw [eh hbl hb s5]
      simp only [bSq]
      cases h6 : rdN p5 with
      | inr z => rfl
      | inl z =>
       obtain ⟨a6, p6⟩ := z
       simp only [asR, Sum.elim_inl]
       rw [iP hrm, wrs i (by omega)]
       rfl
theorem lE {b : List Int} {q0 : ae} {y : Int × Int} (hq : q0.b = b) (hbl : b.length ≤ 100000000) (hb : bQ b) (hy : y.1 ≤ 100000000) : ∀ (n : Nat) (l : List Int) (acc : List aF) (i : Nat), (i : Int) + (n : Int) = y.1 → acc.length = i → l <:+ b →
  bw (fun (x : Int × List aF × Int) => au q0 y x.1 x.2.1 x.2.2) (((b.length - l.length : Nat) : Int), acc, (i : Int)) =
   some (match rdK n l with
    | .inl (xs, q) => .inl (((b.length - q.length : Nat) : Int), acc ++ xs)
    | .inr (c, k) => .inr (.inr (c, ((b.length - k : Nat) : Int))))
 | 0, l, acc, i, hi, ha, hs => by
  refine bN ?_
  show au q0 y _ acc (i : Int) = _
  unfold au
  rw [iN (by omega)]
  simp [rdK]
 | n + 1, l, acc, i, hi, ha, hs => by
  have hstep := oy (q0 := q0) (y := y) hq hbl hb hs (acc := acc) (i := i) (by omega) (by omega) ha
  cases hr : rdI l with
  | inr z =>
   rw [hr] at hstep
   refine (bN hstep).trans ?_
   simp only [rdK, hr, rdB]
  | inl z =>
   obtain ⟨x, q⟩ := z
   rw [hr] at hstep
   rw [dh (s := (((b.length - l.length : Nat) : Int), acc, (i : Int))) hstep]
   rw [lE hq hbl hb hy n q (acc ++ [x]) (i + 1) (by omega) (by simp [ha]) ((qm hr).trans hs)]
   simp only [rdK, hr, rdB]
   cases rdK n q with
   | inr z => rfl
   | inl z => simp
theorem nf {b l : List Int} (hbl : b.length ≤ 100000000) (hb : bQ b) (hs : l <:+ b) : bq (ae.mk b ((b.length - l.length : Nat) : Int)) = some (asR b.length (rdM l)) := by
 unfold bq
 rw [eh hbl hb hs]
 simp only [bSq]
 refine fb fun a1 p1 h1 => ?_
 have s1 := (bx h1).1.trans hs
 simp only
 rw [eh hbl hb s1]
 simp only [bSq]
 refine fb fun a2 p2 h2 => ?_
 have s2 := (bx h2).1.trans s1
 simp only
 rw [eh hbl hb s2]
 simp only [bSq]
 refine fb fun a3 p3 h3 => ?_
 have s3 := (bx h3).1.trans s2
 simp only
 rw [jJ hbl hb s3]
 simp only [bSq]
 refine fb fun a4 p4 h4 => ?_
 have s4 := (je h4).trans s3
 simp only
 rw [jJ hbl hb s4]
 simp only [bSq]
 refine fb fun a5 p5 h5 => ?_
 have s5 := (je h5).trans s4
 simp only
 rw [jJ hbl hb s5]
 simp only [bSq]
 refine fb fun a6 p6 h6 => ?_
 have s6 := (je h6).trans s5
 simp only
 rw [show (6 : Int) = ((6 : Nat) : Int) from rfl, kI hbl hb s6 (by omega)]
 simp only [bSq]
 refine fb fun n q hq => ?_
 obtain ⟨t1, t2, t3⟩ := lZ hq
 have hql := (t1.trans s6).length_le
 have hd : q.length / 6 ≤ q.length := Nat.div_le_self _ _
 have := lE (q0 := ae.mk b ((b.length - l.length : Nat) : Int)) (y := (n, ((b.length - q.length : Nat) : Int))) rfl hbl hb (by simp only; omega) n.toNat q [] 0 (by simp only; omega) rfl (t1.trans s6)
 have h0 : ((0 : Nat) : Int) = 0 := rfl
 rw [h0] at this
 show (bw (fun (x : Int × List aF × Int) => au (ae.mk b ((b.length - l.length : Nat) : Int)) (n, ((b.length - q.length : Nat) : Int)) x.1 x.2.1 x.2.2) (((b.length - q.length : Nat) : Int), [], 0)).bind _ = _
 rw [this]
 cases rdK n.toNat q with
 | inr z => rfl
 | inl z => rfl
def nfl {α : Type} (m : Rd α) : Prop := ∀ c k, m = .inr (c, k) → c ≠ 0
theorem cF {α β : Type} {m : Rd α} {f : α → List Int → Rd β} (h : nfl m) (hf : ∀ a q, nfl (f a q)) : nfl (rdB m f) := by
 intro c k e
 cases m with
 | inl z => exact hf z.1 z.2 c k e
 | inr z => exact h c k (by simp only [rdB, Sum.inr.injEq] at e; rw [e])
theorem iD {α : Type} (z : α × List Int) : nfl (.inl z : Rd α) := fun _ _ h => by cases h
theorem fc (l : List Int) : nfl (rdN l) := by
 intro c k e
 unfold rdN at e
 cases hr : rdV 0 l with
 | inl z => rw [hr] at e; cases e
 | inr z =>
  rw [hr] at e
  simp only [Sum.inr.injEq] at e
  subst e
  have := (nF l 0 k c hr).2
  omega
theorem nH (n : Nat) (l : List Int) : nfl (rdC n l) := cF (fc l) fun a q => by
 intro c k e
 split at e
 ·simp only [Sum.inr.injEq, Prod.mk.injEq] at e
  omega
 ·cases e
theorem nI : ∀ (n : Nat) (l : List Int), nfl (rdL n l)
 | 0, _ => iD _
 | n + 1, l => cF (fc l) fun _ q => cF (nI n q) fun _ _ => iD _
theorem jf (l : List Int) : nfl (jd l) := cF (nH 1 l) fun n q => nI n.toNat q
theorem qn (l : List Int) : nfl (rdI l) := cF (fc l) fun _ q => cF (fc q) fun _ q => cF (fc q) fun _ q => cF (fc q) fun _ q => cF (fc q) fun _ q => cF (fc q) fun _ _ => iD _
theorem nJ : ∀ (n : Nat) (l : List Int), nfl (rdK n l)
 | 0, _ => iD _
 | n + 1, l => cF (qn l) fun _ q => cF (nJ n q) fun _ _ => iD _
theorem qo (l : List Int) : nfl (rdM l) := cF (fc l) fun _ q => cF (fc q) fun _ q => cF (fc q) fun _ q => cF (jf q) fun _ q => cF (jf q) fun _ q => cF (jf q) fun _ q => cF (nH 6 q) fun _ q => cF (nJ _ q) fun _ _ => iD _
theorem mJ : ∀ {l m : List Int}, bQ l → bQ m → gY l = gY m → l = m
 | [], [], _, _, _ => rfl
 | [], _ :: _, _, _, h => by simp [gY] at h
 | _ :: _, [], _, _, h => by simp [gY] at h
 | x :: l, y :: m, hl, hm, h => by
  simp only [gY, List.map_cons, List.cons.injEq] at h
  have hx := hl x (by simp)
  have hy := hm y (by simp)
  have e := congrArg UInt8.toNat h.1
  rw [UInt8.toNat_ofNat', UInt8.toNat_ofNat'] at e
  have := mJ (fun z hz => hl z (by simp [hz])) (fun z hz => hm z (by simp [hz])) h.2
  rw [this]
  congr 1
  omega
theorem mK {m : ag} : m.put.length ≤ (aN m).length ∧ m.bools.length ≤ (aN m).length ∧ m.get.length ≤ (aN m).length ∧ m.code.length ≤ (aN m).length := by
 have h1 := f5 ((m.put.length : Int) :: m.put)
 have h2 := f5 ((m.bools.length : Int) :: m.bools)
 have h3 := f5 ((m.get.length : Int) :: m.get)
 have h4 := kH m.code
 simp only [List.length_cons] at h1 h2 h3
 unfold aN
 simp only [List.length_append, List.length_cons, List.length_nil]
 omega
theorem oz (l : List Int) (n : Nat) (h : l.length = n + 4) : l.drop n = [l.getD n default, l.getD (n + 1) default, l.getD (n + 2) default, l.getD (n + 3) default] := by
 rw [fP l n (by omega), fP l (n + 1) (by omega), fP l (n + 2) (by omega), fP l (n + 3) (by omega), List.drop_of_length_le (by omega)]
theorem mL {l : List Int} (hb : bQ l) (hl : l.length ≤ 30000) : ∃ p f, cN l = some (p, f) ∧ (f.code ≠ 0 → p = ag.mk 0 0 0 [] [] [] []) ∧
  (f.code = 0 → okM p ∧ (p.put.length ≤ 30000 ∧ p.bools.length ≤ 30000 ∧ p.get.length ≤ 30000 ∧ p.code.length ≤ 30000) ∧ l = ou p ∧ ∃ g, cZ p = some g ∧ g.code = 0) := by
 by_cases h7 : l.length < 7
 ·refine ⟨ag.mk 0 0 0 [] [] [] [], aq.mk 5 (l.length : Int), ?_, fun _ => rfl, fun h => by cases h⟩
  unfold cN
  rw [wr (n := (l.length : Int) - 4) (by omega) (by omega), iP (by omega)]
 obtain ⟨n, hn⟩ : ∃ n, n = l.length - 4 := ⟨_, rfl⟩
 have hln : l.length = n + 4 := by omega
 rw [lB hln (by omega) (by omega) hb]
 by_cases c1 : gY (l.take 3) = [76, 87, 1]
 ·rw [iP c1]
  by_cases c2 : eZ (l.take n) = (kX (l.getD n default).toNat (l.getD (n + 1) default).toNat (l.getD (n + 2) default).toNat (l.getD (n + 3) default).toNat : Int)
  ·rw [iN (not_not_intro c2)]
   have hbt : bQ (l.take n) := fun x hx => hb x (List.mem_of_mem_take hx)
   have htl : (l.take n).length = n := by rw [List.length_take]; omega
   have hall := nf (b := l.take n) (l := (l.take n).drop 3) (by omega) hbt (List.drop_suffix _ _)
   rw [List.length_drop, htl, show n - (n - 3) = 3 by omega] at hall
   rw [show (3 : Int) = ((3 : Nat) : Int) from rfl, hall]
   simp only [bSq]
   cases hr : rdM ((l.take n).drop 3) with
   | inr z =>
    exact ⟨_, _, rfl, fun _ => rfl, fun h => absurd h (qo _ z.1 z.2 hr)⟩
   | inl z =>
    obtain ⟨m, q⟩ := z
    obtain ⟨o1, o2⟩ := pq (b9 (List.drop_suffix _ _) hbt) hr
    have h3 : l.take 3 = [76, 87, 1] := by
     refine mJ (fun x hx => hb x (List.mem_of_mem_take hx)) ?_ c1
     intro x hx
     simp only [List.mem_cons, List.not_mem_nil, or_false] at hx
     omega
    have h3' : (l.take n).take 3 = [76, 87, 1] := by rw [List.take_take, Nat.min_eq_left (by omega), h3]
    have hcat : l.take n = aN m ++ q := by rw [← o2, ← h3', List.take_append_drop]
    have hql : (aN m).length + q.length = n := by rw [← List.length_append, ← hcat, htl]
    simp only [asR, Sum.elim_inl]
    by_cases c3 : ((n - q.length : Nat) : Int) < (n : Int)
    ·rw [iP c3]
     exact ⟨_, _, rfl, fun _ => rfl, fun h => by cases h⟩
    ·rw [iN c3]
     have hq0 : q = [] := List.length_eq_zero_iff.1 (by omega)
     rw [hq0, List.append_nil] at hcat
     rw [hq0, List.length_nil] at hql
     have hp := mK (m := m)
     have hc := kO m ⟨by omega, by omega, by omega, by omega⟩
     rw [hc]
     simp only [bSq]
     by_cases c4 : (mI m).code = 0
     ·rw [iN (not_not_intro c4)]
      refine ⟨_, _, rfl, fun h => absurd rfl h, fun _ => ⟨o1, ⟨by omega, by omega, by omega, by omega⟩, ?_, _, hc, c4⟩⟩
      have hs := lY hbt
      rw [hcat] at hs c2
      have bt : ∀ k, k < l.length → ((l.getD k default).toNat : Int) = l.getD k default ∧ (l.getD k default).toNat < 256 := fun k hk => by
       have := hb _ (fA hk); omega
      obtain ⟨a1, a2⟩ := bt n (by omega)
      obtain ⟨b1, b2⟩ := bt (n + 1) (by omega)
      obtain ⟨d1, d2⟩ := bt (n + 2) (by omega)
      obtain ⟨e1, e2⟩ := bt (n + 3) (by omega)
      obtain ⟨q0, q1, q2, q3⟩ := pt a2 b2 d2 e2 (Nat.mod_lt _ (by decide)) (Nat.mod_lt _ (by decide)) (Nat.mod_lt _ (by decide)) (Nat.mod_lt _ (by decide)) (show _ = kX ((eZ (aN m)).toNat % 256) ((eZ (aN m)).toNat / 256 % 256) ((eZ (aN m)).toNat / 65536 % 256) ((eZ (aN m)).toNat / 16777216 % 256) by rw [lA (by omega)]; omega)
      have ht : l.drop n = dS (eZ (aN m)).toNat := by
       rw [oz l n hln]
       unfold dS
       rw [← q0, ← q1, ← q2, ← q3, a1, b1, d1, e1]
      unfold ou
      rw [← ht, ← hcat, List.take_append_drop]
     ·rw [iP c4]
      exact ⟨_, _, rfl, fun _ => rfl, fun h => by cases h⟩
  ·rw [iP c2]
   exact ⟨_, _, rfl, fun _ => rfl, fun h => by cases h⟩
 ·rw [iN c1]
  exact ⟨_, _, rfl, fun _ => rfl, fun h => by cases h⟩
def dA : ag := ag.mk 100 3 0 [] [] [] []
theorem l7 : mI dA = aq.mk 0 0 := by
 unfold mI
 rw [iN (by decide), iN (by decide)]
 have e1 : F1 dA = .inl () := by decide
 have e2 : F2 dA = .inl () := rfl
 rw [e1, e2]
 decide
theorem mM : aN dA = [76, 87, 1, 200, 1, 6, 0, 0, 0, 0, 0] := by
 have z100 : zig dA.cells = 200 := by decide
 have z3 : zig dA.regs = 6 := by decide
 have z0 : zig dA.cost = 0 := by decide
 have y0 : zig 0 = 0 := by decide
 have p0 : dA.put = [] := rfl
 have p1 : dA.bools = [] := rfl
 have p2 : dA.get = [] := rfl
 have p3 : dA.code = [] := rfl
 have hn : ay [] = [] := rfl
 unfold aN
 rw [p0, p1, p2, p3]
 simp only [br, hn, z100, z3, z0, List.length_nil, Int.ofNat_zero, Int.natCast_zero, y0]
 rw [kC (u := 200) (by decide), f3 (u := 200 / 128) (by decide), f3 (u := 6) (by decide), f3 (u := 0) (by decide)]
 rfl
theorem oA : okM dA := by
 unfold okM okN
 refine ⟨?_, ?_, ?_, ?_, ?_⟩
 ·intro n hn
  have : n = 100 ∨ n = 3 ∨ n = 0 := by simpa [dA] using hn
  omega
 all_goals (intro n hn; cases hn)
theorem jV : dZ = some true := by
 have hl : dA.put.length ≤ 9000000 ∧ dA.bools.length ≤ 9000000 ∧ dA.get.length ≤ 9000000 ∧ dA.code.length ≤ 9000000 := by decide
 have hc := kO dA hl
 rw [l7] at hc
 have he := jI oA (by decide) (by decide) (by decide) (by decide) hc
 rw [iP rfl, mM] at he
 unfold dZ
 show (cq dA).bind _ = _
 rw [he]
 simp only [bSq]
 rw [if_true, List.length_append, lC, iP (by decide), iP (by decide)]
 rw [iP (by rfl), iP (by decide), iP (by rfl)]
 have hb : bQ [49, 50, 51, 52, 53, 54, 55, 56, 57] := by
  intro x hx
  simp only [List.mem_cons, List.not_mem_nil, or_false] at hx
  omega
 rw [show (lit ([49, 50, 51, 52, 53, 54, 55, 56, 57] : List Int)) = [49, 50, 51, 52, 53, 54, 55, 56, 57] from rfl, m8 _ hb (by decide)]
 have hs : eZ [49, 50, 51, 52, 53, 54, 55, 56, 57] = 3421780262 := by decide +kernel
 rw [hs]
 rfl
theorem pz (m : ag) : d8 m = some (decide ((m.put.length : Int) > 7000 ∨ (m.bools.length : Int) > 7000 ∨ (m.get.length : Int) > 20000 ∨ (m.code.length : Int) > 20000)) := by
 unfold d8
 by_cases h1 : (m.put.length : Int) > 7000
 ·rw [iP h1, dT (.inl h1)]
 rw [iN h1]
 by_cases h2 : (m.bools.length : Int) > 7000
 ·rw [iP h2, dT (.inr (.inl h2))]
 rw [iN h2]
 by_cases h3 : (m.get.length : Int) > 20000
 ·rw [iP h3, dT (.inr (.inr (.inl h3)))]
 rw [iN h3]
 congr 1
 exact decide_eq_decide.2 ⟨fun h => .inr (.inr (.inr h)), fun h => by omega⟩
theorem qW {m : ag} (h : m.ok) : okM m := by
 obtain ⟨h1, h2, h3, h4, h5, h6, h7⟩ := h
 refine ⟨?_, h4, h5, h6, ?_⟩
 ·intro n hn
  simp only [List.mem_cons, List.not_mem_nil, or_false] at hn
  rcases hn with rfl | rfl | rfl
  ·exact h1
  ·exact h2
  ·exact h3
 ·intro x hx n hn
  obtain ⟨g1, g2, g3, g4, g5, g6⟩ := h7 x hx
  simp only [fa, List.mem_cons, List.not_mem_nil, or_false] at hn
  rcases hn with rfl | rfl | rfl | rfl | rfl | rfl
  ·exact g1
  ·exact g2
  ·exact g3
  ·exact g4
  ·exact g5
  ·exact g6
theorem pA {m : ag} (h : okM m) (h1 : m.put.length ≤ 20000) (h2 : m.bools.length ≤ 20000) (h3 : m.get.length ≤ 20000) (h4 : m.code.length ≤ 20000) : (aN m).length ≤ 3000000 := by
 obtain ⟨a1, a2, a3, a4, a5⟩ := h
 have l1 := cE [m.cells, m.regs, m.cost] a1
 have l2 := cE _ (ju a2 (show _ ≤ 100000 by omega))
 have l3 := cE _ (ju a3 (show _ ≤ 100000 by omega))
 have l4 := cE _ (ju a4 (show _ ≤ 100000 by omega))
 have oc : ∀ n ∈ [(m.code.length : Int)], okN n := by intro n hn; simp only [List.mem_singleton] at hn; unfold okN; omega
 have l5 := cE [(m.code.length : Int)] oc
 have l6 := jH m.code a5
 simp only [List.length_cons, List.length_nil] at l1 l2 l3 l4 l5
 unfold aN
 simp only [List.length_append, List.length_cons, List.length_nil]
 omega
theorem gm (l : List Int) (hl : l.length ≤ 9000000) : dz l l = some true := by
 unfold dz
 rw [iN (by simp), fj l.length (fun _ => none) ()]
 ·rw [iB (fun _ _ => rfl)]; rfl
 ·intro i hi
  unfold dE
  rw [iP (ltI hi), iP ⟨inI hi, inI hi⟩, iN (not_not_intro rfl), wrs i (by omega)]
 ·unfold dE; rw [iN (eY _)]
theorem it (m : ag) (hl : m.put.length ≤ 9000000 ∧ m.bools.length ≤ 9000000 ∧ m.get.length ≤ 9000000 ∧ m.code.length ≤ 9000000) : dM m m = some true := by
 unfold dM
 rw [iN (by simp), iN (by simp), iN (by simp), gm _ hl.1, gm _ hl.2.1, gm _ hl.2.2.1]
 simp only [bSq, if_true]
 rw [iN (by simp), fj m.code.length (fun _ => none) ()]
 ·rw [iB (fun _ _ => rfl)]; rfl
 ·intro i hi
  unfold dp
  rw [iP (ltI hi), iP ⟨inI hi, inI hi⟩, iP ⟨rfl, rfl, rfl, rfl, rfl, rfl⟩, wrs i (by omega)]
 ·unfold dp; rw [iN (eY _)]
theorem qp {l : List Int} (hb : bQ l) (hl : l.length ≤ 30000) : cn l = some true := by
 obtain ⟨p, f, hd, h1, h2⟩ := mL hb hl
 unfold cn
 rw [hd]
 simp only [bSq]
 by_cases c : f.code = 0
 ·rw [iN (not_not_intro c)]
  obtain ⟨ok, ⟨l1, l2, l3, l4⟩, hall, g, hc, hg⟩ := h2 c
  have he : cq p = some (if g.code = 0 then (ou p, aq.mk 0 0) else ([], g)) := jI ok (by omega) (by omega) (by omega) (by omega) hc
  rw [he, iP hg]
  simp only [bSq]
  rw [if_true, hall]
  simp
 ·rw [iP c, h1 c, it _ (by decide)]
  rfl
theorem jg (m : ag) (l : List Int) (hm : m.ok) (hb : okL (okI .u8) l) (_ : m.sz + szL szI l ≤ 1048576) : fq m l = some true := by
 have hbl : bQ l := fun x hx => by
  have : (0 : Int) ≤ x ∧ x ≤ 255 := hb x hx
  omega
 unfold fq
 rw [jV]
 simp only [bSq, if_true]
 rw [pz]
 simp only [bSq]
 by_cases hg : (m.put.length : Int) > 7000 ∨ (m.bools.length : Int) > 7000 ∨ (m.get.length : Int) > 20000 ∨ (m.code.length : Int) > 20000
 ·rw [iP (dT hg)]
 rw [iN (by simpa using hg)]
 by_cases hll : (l.length : Int) > 30000
 ·rw [iP hll]
 rw [iN hll]
 have hj := qp hbl (by omega)
 have ok := qW hm
 have hc := kO m ⟨by omega, by omega, by omega, by omega⟩
 have he : cq m = some (if (mI m).code = 0 then (ou m, aq.mk 0 0) else ([], mI m)) := jI ok (by omega) (by omega) (by omega) (by omega) hc
 have hle := pA ok (by omega) (by omega) (by omega) (by omega)
 rw [he]
 simp only [bSq]
 by_cases hf : (mI m).code = 0
 ·rw [iP hf]
  dsimp only
  rw [iP rfl, mG ok (by omega) (by omega) (by omega) (by omega) (by omega) hc hf]
  simp only [bSq]
  rw [iN (not_not_intro trivial), it _ ⟨by omega, by omega, by omega, by omega⟩]
  simp only [bSq, if_true]
  exact hj
 ·rw [iN hf]
  dsimp only
  rw [iN hf]
  exact hj
end Pam
