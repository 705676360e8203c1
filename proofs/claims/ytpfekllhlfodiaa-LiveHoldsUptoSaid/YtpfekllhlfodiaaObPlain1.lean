/- what is used is there -/
import Derived.Test.YtpfekllhlfodiaaOabPlain1
import Derived.Test.YtpfekllhlfodiaaObFun1
set_option linter.all false
namespace Pam
open Go
theorem lB {s : af} (g : co s) {i : Nat} (hi : i < s.rules.length) : ¬ (s.rules.getD i default).out_ ∈ bz s i := fun h => (g.rule hi).2.2.2.1 (List.contains_iff_mem.2 h)
theorem tQ (s : af) (x : Int) {i : Nat} (hi : i ≤ s.rules.length) : x ∈ eP s i ↔ ∃ k, k < i ∧ (s.rules.getD k default).out_ = x := by
 induction i with
 | zero => simp [eP]
 | succ i ih =>
  have e2 : eP s (i + 1) = eP s i ++ [(s.rules.getD i default).out_] := by unfold eP; rw [bD _ (by omega), List.map_append]; rfl
  rw [e2, List.mem_append, ih (by omega), List.mem_singleton]
  constructor
  ·rintro (⟨k, hk, h⟩ | h)
   ·exact ⟨k, by omega, h⟩
   ·exact ⟨i, by omega, h.symm⟩
  ·rintro ⟨k, hk, h⟩
   by_cases e : k = i
   ·subst e; exact .inr h.symm
   ·exact .inl ⟨k, by omega, h⟩
theorem kk (s : af) (x : Int) {i : Nat} (hi : i ≤ s.rules.length) : x ∈ bz s i ↔ x ∈ s.in_ ∨ ∃ k, k < i ∧ (s.rules.getD k default).out_ = x := by
 rw [iX, List.mem_append, tQ s x hi]
theorem lX {s : af} (g : co s) {i k : Nat} (hk : k < i) (hi : i < s.rules.length) : (s.rules.getD k default).out_ ≠ (s.rules.getD i default).out_ := fun h =>
 lB g hi ((kk s _ (by omega)).2 (.inr ⟨k, hk, h⟩))
theorem uX {s : af} {v : Nat} : ∀ i, (∀ k, k < i → (s.rules.getD k default).out_ ≠ (v : Int)) → ca s v i = ca s v 0
 | 0, _ => rfl
 | i + 1, h => by
  have e : ca s v (i + 1) = if (s.rules.getD i default).out_ = (v : Int) then ⟨(i : Int), (i : Int)⟩ else ca s v i := rfl
  rw [e, if_neg (h i (by omega)), uX i (fun k hk => h k (by omega))]
theorem vD {s : af} {v k : Nat} (hk : (s.rules.getD k default).out_ = (v : Int)) : ∀ i, k < i → (∀ k', k < k' → k' < i → (s.rules.getD k' default).out_ ≠ (v : Int)) → ca s v i = ⟨(k : Int), (k : Int)⟩
 | 0, h, _ => by omega
 | i + 1, h, hu => by
  rw [ca]
  by_cases e : k = i
  ·subst e; rw [if_pos hk]
  ·rw [if_neg (hu i (by omega) (by omega))]
   exact vD hk i (by omega) (fun k' h1 h2 => hu k' h1 (by omega))
theorem tR (s : af) (v : Nat) {i : Nat} : ∀ j, i ≤ j → toN s v i ≤ toN s v j
 | 0, h => by
  have : i = 0 := by omega
  subst this; exact Int.le_refl _
 | j + 1, h => by
  by_cases e : i = j + 1
  ·subst e; exact Int.le_refl _
  ·have := tR s v (i := i) j (by omega)
   have e : toN s v (j + 1) = if (v : Int) ∈ aM (s.rules.getD j default) then (if (j : Int) > toN s v j then (j : Int) else toN s v j) else toN s v j := rfl
   rw [e]
   split
   ·split <;> omega
   ·exact this
theorem AO (s : af) (v i : Nat) (h : (v : Int) ∈ aM (s.rules.getD i default)) : (i : Int) ≤ toN s v (i + 1) := by
 have e : toN s v (i + 1) = if (v : Int) ∈ aM (s.rules.getD i default) then (if (i : Int) > toN s v i then (i : Int) else toN s v i) else toN s v i := rfl
 rw [e, if_pos h]
 split <;> omega
theorem uY (s : af) (v : Nat) : ∀ i, toN s v i = (ca s v s.rules.length).to ∨ ∃ k, k < i ∧ toN s v i = (k : Int) ∧ (v : Int) ∈ aM (s.rules.getD k default)
 | 0 => .inl rfl
 | i + 1 => by
  have e : toN s v (i + 1) = if (v : Int) ∈ aM (s.rules.getD i default) then (if (i : Int) > toN s v i then (i : Int) else toN s v i) else toN s v i := rfl
  rw [e]
  have ih := uY s v i
  have old : toN s v i = (ca s v s.rules.length).to ∨ ∃ k, k < i + 1 ∧ toN s v i = (k : Int) ∧ (v : Int) ∈ aM (s.rules.getD k default) := by
   rcases ih with h | ⟨k, hk, h⟩
   ·exact .inl h
   ·exact .inr ⟨k, by omega, h⟩
  split
  ·rename_i hm
   split
   ·exact .inr ⟨i, by omega, rfl, hm⟩
   ·exact old
  ·exact old
theorem oH {s : af} {v : Nat} (hv : v < s.vars.length) : (fJ s).getD v default = fI s v := n7 hv
theorem tS (s : af) (v : Nat) : toN s v s.rules.length ≤ (fI s v).to := by
 unfold fI
 simp only
 split
 ·exact xi s v _ (Nat.le_refl _)
 ·exact Int.le_refl _
theorem zH {s : af} (g : co s) {i v : Nat} (hi : i < s.rules.length) (h : (s.rules.getD i default).out_ = (v : Int)) : (fI s v).from_ = (i : Int) ∧ (i : Int) ≤ (fI s v).to := by
 have hb : ca s v s.rules.length = ⟨(i : Int), (i : Int)⟩ := vD h _ hi (fun k' h1 h2 he => lX g h1 h2 (by rw [h, he]))
 refine ⟨?_, ?_⟩
 ·show (ca s v s.rules.length).from_ = _
  rw [hb]
 ·have h1 := tS s v
  have h2 := tR s v (i := 0) s.rules.length (by omega)
  have h3 : toN s v 0 = (i : Int) := by
   show (ca s v s.rules.length).to = _
   rw [hb]
  omega
theorem rV {s : af} (g : co s) (hs : fP s) {i v : Nat} (hi : i < s.rules.length) (h : (v : Int) ∈ aM (s.rules.getD i default)) : (fI s v).from_ < (i : Int) ∧ (i : Int) ≤ (fI s v).to := by
 refine ⟨?_, ?_⟩
 ·show (ca s v s.rules.length).from_ < _
  have hm := hs i hi _ h
  rcases (kk s _ (by omega)).1 hm with h1 | ⟨k, hk, h1⟩
  ·have : ca s v s.rules.length = ca s v 0 := uX _ (fun k hk he => lB g hk ((kk s _ (by omega)).2 (.inl (by rw [he]; exact h1))))
   rw [this]
   unfold ca
   rw [if_pos h1]
   show (-1 : Int) < _
   omega
  ·have hb : ca s v s.rules.length = ⟨(k : Int), (k : Int)⟩ := vD h1 _ (by omega) (fun k' e1 e2 he => lX g e1 e2 (by rw [h1, he]))
   rw [hb]
   show (k : Int) < _
   omega
 ·have h1 := tS s v
  have h2 := tR s v (i := i + 1) s.rules.length (by omega)
  have h3 := AO s v i h
  omega
def m2 (s : af) : List Int → Int
 | [] => 0
 | x :: l => fG (s.vars.getD x.toNat default).n + m2 s l
theorem uZ (s : af) (x : Int) : ∀ l, m2 s (l ++ [x]) = m2 s l + fG (s.vars.getD x.toNat default).n
 | [] => by simp [m2]
 | y :: l => by
  have := uZ s x l
  simp only [List.cons_append, m2, this]
  omega
theorem tT (s : af) (x : Int) : ∀ l, x ∈ l → m2 s l = fG (s.vars.getD x.toNat default).n + m2 s (l.erase x)
 | [], h => by cases h
 | y :: l, h => by
  by_cases e : y = x
  ·subst e; simp [m2]
  ·have hm : x ∈ l := by
    rcases List.mem_cons.1 h with h | h
    ·exact absurd h.symm e
    ·exact h
   have := tT s x l hm
   rw [List.erase_cons_tail (by simpa using e)]
   simp only [m2, this]
   omega
theorem vE {s : af} (l : List aC) (at_ : Int) : ∀ (n : Nat) (L : List Int), L.Nodup → (∀ x ∈ L, 0 ≤ x ∧ x < (n : Int) ∧ (l.getD x.toNat default).from_ ≤ at_ ∧ at_ ≤ (l.getD x.toNat default).to) → (∀ v, v < n → 0 ≤ fG (s.vars.getD v default).n) → m2 s L ≤ kt s l at_ n
 | 0, L, _, h, _ => by
  match L, h with
  | [], _ => simp [m2, kt]
  | x :: L, h => have := h x (by simp); omega
 | n + 1, L, hd, h, hc => by
  have e : kt s l at_ (n + 1) = if (l.getD n default).from_ ≤ at_ ∧ at_ ≤ (l.getD n default).to then kt s l at_ n + fG (s.vars.getD n default).n else kt s l at_ n := rfl
  rw [e]
  by_cases hm : (n : Int) ∈ L
  ·have hl := h _ hm
   simp only [Int.toNat_natCast] at hl
   rw [if_pos hl.2.2, tT s _ L hm]
   have := vE (s := s) l at_ n (L.erase (n : Int)) (hd.erase _) (fun x hx => by
    have hx' := (List.Nodup.mem_erase_iff hd).1 hx
    obtain ⟨h1, h2, h3⟩ := h x hx'.2
    have := hx'.1
    exact ⟨h1, by omega, h3⟩) (fun v hv => hc v (by omega))
   simp only [Int.toNat_natCast]
   omega
  ·have := vE (s := s) l at_ n L hd (fun x hx => by
    obtain ⟨h1, h2, h3⟩ := h x hx
    have : x ≠ (n : Int) := fun e => hm (e ▸ hx)
    exact ⟨h1, by omega, h3⟩) (fun v hv => hc v (by omega))
   have := hc n (by omega)
   split <;> omega
theorem rW (l : List Int) : ∀ a : List Int, a.Pairwise (· < ·) → (l.foldl ins a).Pairwise (· < ·) := by
 induction l with
 | nil => intro a h; exact h
 | cons x l ih => intro a h; exact ih _ (tz h x)
theorem ws {l : List Int} (h : l.Pairwise (· < ·)) : l.Nodup := h.imp (fun h => Int.ne_of_lt h)
theorem wt (r : ae) : (aM r).Nodup := by
 unfold aM
 split
 ·simp
 ·unfold cG kW
  split <;> exact ws (rW _ _ List.Pairwise.nil)
theorem xX (s : af) (l : List aC) {k : Nat} : ∀ m, k < m → kt s l (-1 + (k : Int)) s.vars.length ≤ lW s l m
 | 0, h => by omega
 | m + 1, h => by
  rw [lW]
  by_cases e : k = m
  ·subst e; split <;> omega
  ·have := xX s l (k := k) m (by omega)
   split <;> omega
theorem iV (x : Int) (h : 0 ≤ x) : ((x.toNat : Nat) : Int) = x := by omega
theorem tU {s : af} (g : lV s) : ∀ (L : List Int), (∀ x ∈ L, inV s x) → 0 ≤ m2 s L ∧ m2 s L ≤ 300 * (L.length : Int)
 | [], _ => by simp [m2]
 | x :: L, h => by
  have h1 := tU g L (fun y hy => h y (by simp [hy]))
  have hx := h x (by simp)
  unfold inV at hx
  have h2 := lA g (v := x.toNat) (by omega)
  simp only [m2, List.length_cons]
  omega
theorem zI {s : af} (g : co s) (hs : fP s) {i : Nat} (hi : i < s.rules.length) {c0 : Int} (hc : 0 ≤ c0 ∧ c0 ≤ 300) (f : au) :
  aT (fun (x : Int × Int) => cF s (fJ s, f) (i : Int) (aM (s.rules.getD i default)) x.1 x.2) (c0, 0) = some (.inl (c0 + m2 s (aM (s.rules.getD i default)))) := by
 obtain ⟨gr, hu, ha, _⟩ := g.rule hi
 have he := gr.e
 have hnl := eX (s.rules.getD i default)
 have hin : ∀ x ∈ aM (s.rules.getD i default), inV s x := fun x hx => hu x (iY hx)
 have := sP (S := Int × Int) (T := Int) (Z := Bool) (fun k => (c0 + m2 s ((aM (s.rules.getD i default)).take k), (k : Int))) (body := fun x => cF s (fJ s, f) (i : Int) (aM (s.rules.getD i default)) x.1 x.2)
  (aM (s.rules.getD i default)).length (fun _ => none) (c0 + m2 s (aM (s.rules.getD i default)))
  (by
   intro k hk
   show cF s (fJ s, f) (i : Int) (aM (s.rules.getD i default)) (c0 + m2 s ((aM (s.rules.getD i default)).take k)) (k : Int) = _
   have hx := bi hk
   have gk := hin _ hx
   have gk' := gk
   unfold inV at gk'
   have hb := tU g.h ((aM (s.rules.getD i default)).take k) (fun x hx => hin x (List.mem_of_mem_take hx))
   have hlt : ((aM (s.rules.getD i default)).take k).length ≤ k := by simp; omega
   obtain ⟨f1, f2⟩ := rV g hs (v := ((aM (s.rules.getD i default)).getD k default).toNat) hi (by rw [iV _ gk'.1]; exact hx)
   have h2 := lA g.h (v := ((aM (s.rules.getD i default)).getD k default).toNat) (by omega)
   unfold cF
   simp only [Int.toNat_natCast, jK, jH, Option.bind_some]
   rw [if_pos (ltI hk), if_pos ⟨inI hk, gk'⟩, oH (by omega), if_neg (by omega), if_neg (by omega), if_pos gk', wrs k (by omega), wr (by omega) (by omega), bD _ hk, uZ, Int.add_assoc])
  (by
   show cF s (fJ s, f) (i : Int) (aM (s.rules.getD i default)) _ ((aM (s.rules.getD i default)).length : Int) = _
   unfold cF
   rw [if_neg (aX _), List.take_length])
 rw [cS (fun _ _ => rfl)] at this
 have e0 : m2 s ((aM (s.rules.getD i default)).take 0) = 0 := rfl
 rw [e0, Int.add_zero] at this
 exact this
theorem qI (s : af) (_ : s.ok) (_ : s.sz ≤ 1048576) : lG s = some true := by
 unfold lG
 rw [pD]
 simp only [Option.bind_some, if_true]
 obtain ⟨b, hb, hf⟩ := rp s 150 (by omega)
 rw [show ((150 : Nat) : Int) = 150 from rfl] at hb
 rw [hb]
 cases b
 ·have hng := hf rfl
  simp only [Option.bind_some, Bool.false_eq_true, if_false]
  rw [ro, xV]
  simp only [Option.bind_some]
  by_cases hc : (cD s).code = 0
  ·obtain ⟨g, hz⟩ := fH hc
   have hnr := g.h.nr
   have hnv := g.h.nv
   simp only [hc, if_true]
   by_cases hs : fP s
   ·simp only [hs, if_true, not_true_eq_false, if_false]
    rw [br s.rules.length (fun _ => none) () (fun i hi => by
     obtain ⟨gr, hu, ha, _⟩ := g.rule hi
     have he := gr.e
     have go := gr.o
     have go' := go
     unfold inV at go'
     have hnl := eX (s.rules.getD i default)
     have h2 := lA g.h (v := (s.rules.getD i default).out_.toNat) (by omega)
     unfold ip
     rw [if_pos (ltI hi), if_pos (inI hi)]
     simp only [Int.toNat_natCast]
     rw [jJ _ (by omega) (by omega)]
     simp only [Option.bind_some, jH]
     rw [if_pos go']
     show (aT (fun (x : Int × Int) => cF s (fJ s, au.mk 0 0) (i : Int) (aM (s.rules.getD i default)) x.1 x.2) (fG (s.vars.getD (s.rules.getD i default).out_.toNat default).n, 0)).bind _ = _
     rw [zI g hs hi (by omega)]
     simp only [Option.bind_some, Sum.elim_inl]
     have hso := zH g (v := (s.rules.getD i default).out_.toNat) hi (iV _ go'.1).symm
     have hge : ¬ xU s < fG (s.vars.getD (s.rules.getD i default).out_.toNat default).n + m2 s (aM (s.rules.getD i default)) := by
      have h3 := xX s (fJ s) (k := i + 1) (s.rules.length + 2) (by omega)
      have h4 : (-1 : Int) + ((i + 1 : Nat) : Int) = (i : Int) := by omega
      rw [h4] at h3
      have h5 := vE (s := s) (fJ s) (i : Int) s.vars.length ((s.rules.getD i default).out_ :: aM (s.rules.getD i default))
       (List.nodup_cons.2 ⟨fun hm => by
        have := (rV g hs (v := (s.rules.getD i default).out_.toNat) hi (by rw [iV _ go'.1]; exact hm)).1
        omega, wt _⟩)
       (by
        intro x hx
        rcases List.mem_cons.1 hx with rfl | hx
        ·exact ⟨go'.1, go'.2, by rw [oH (by omega)]; omega, by rw [oH (by omega)]; omega⟩
        ·have gx := hu x (iY hx)
         unfold inV at gx
         have := rV g hs (v := x.toNat) hi (by rw [iV _ gx.1]; exact hx)
         exact ⟨gx.1, gx.2, by rw [oH (by omega)]; omega, by rw [oH (by omega)]; omega⟩)
       (fun v hv => by have := lA g.h hv; omega)
      have e : m2 s ((s.rules.getD i default).out_ :: aM (s.rules.getD i default)) = fG (s.vars.getD (s.rules.getD i default).out_.toNat default).n + m2 s (aM (s.rules.getD i default)) := rfl
      rw [e] at h5
      unfold xU
      omega
     unfold ft fq
     simp only [Int.toNat_natCast, jK]
     rw [wrs i (by omega), if_neg hge]
     by_cases h13 : (s.rules.getD i default).op = 13
     ·have gp := xT g hi h13
      have gp' := gp
      unfold inV at gp'
      have hto : (fI s ((s.rules.getD i default).a.getD 1 default).toNat).to = (s.rules.length : Int) := by
       unfold fI
       simp only
       rw [if_pos (Or.inr ⟨i, hi, h13, (iV _ gp'.1).symm⟩)]
      rw [if_pos h13, if_pos ⟨by rw [sQ g hi h13]; omega, gp'⟩, oH (by omega), if_neg (by rw [hto]; simp)]
     ·rw [if_neg h13]) (by unfold ip; rw [if_neg (aX _)])]
    rw [cS (fun _ _ => rfl)]
    simp only [Option.bind_some, Sum.elim_inl]
    unfold fp
    rw [br s.vars.length (fun _ => none) () (fun v hv => by
     unfold io
     simp only [Int.toNat_natCast, jK]
     rw [if_pos (ltI hv), if_pos (inI hv), oH hv, wrs v (by omega)]
     by_cases h1 : (fI s v).to ≤ (fI s v).from_
     ·rw [if_pos h1]
     ·rw [if_neg h1]
      by_cases h2 : (fI s v).to = (s.rules.length : Int)
      ·rw [if_pos h2]
       unfold ed
       rw [wrs v (by omega), h2]
       simp
      ·rw [if_neg h2]
       have hto : (fI s v).to = toN s v s.rules.length := by
        unfold fI at h2 ⊢
        simp only at h2 ⊢
        split
        ·rename_i hh; rw [if_pos hh] at h2; exact absurd rfl h2
        ·rfl
       have hfr : (fI s v).from_ = (ca s v s.rules.length).from_ := rfl
       have hb := tM s v s.rules.length
       rcases uY s v s.rules.length with h3 | ⟨k, hk, h3, h4⟩
       ·omega
       ·obtain ⟨gr, hu, ha, _⟩ := g.rule hk
        have he := gr.e
        have hnl := eX (s.rules.getD k default)
        have e : (fI s v).to = (k : Int) := by rw [hto, h3]
        rw [e, if_pos (inI hk)]
        simp only [Int.toNat_natCast]
        rw [jJ _ (by omega) (by omega)]
        simp only [Option.bind_some]
        rw [d3 _ _ (by omega), List.contains_iff_mem.2 h4]
        simp only [Option.bind_some]
        unfold ed
        rw [wrs v (by omega)]
        rfl) (by unfold io; simp only [jK]; rw [if_neg (aX _)])]
    rw [cS (fun _ _ => rfl)]
    rfl
   ·simp only [hs, if_false]
    rfl
  ·simp only [hc, if_false, not_false_eq_true, if_true]
   simp
 ·rfl
end Pam
