/- sorted, or a round -/
import Derived.Test.YtpfekllhlfodiaaOcdPlain1
import Derived.Test.YtpfekllhlfodiaaOdFun1
set_option linter.all false
namespace Pam
open Go
theorem vM {a b : ae} (h : ¬ a.out_ = b.out_) : fb a b = some false := by
 unfold fb
 rw [if_neg h]
 simp only [ite_self]
theorem z8 {s : af} {m : Nat} (g : co s) (hng : pB s m) (hm : m ≤ 100000) (hK : (aU s).length = s.rules.length) {i : Nat} (hi : i < s.rules.length) :
  aT (fun (x : Int × Int) => dg s (iF s, au.mk 0 0) (i : Int) x.1 x.2) (0, 0) = some 1 := by
 have hn := g.h.nr
 have hmem := oI (ku s) (fun _ h => lb h) hK i hi
 obtain ⟨p, hp, ep⟩ := List.mem_iff_getElem.1 hmem
 have hl : (iF s).rules.length = (aU s).length := by unfold iF; simp
 have hget : ∀ k, k < (aU s).length → (iF s).rules.getD k default = s.rules.getD ((aU s).getD k default) default := fun k hk => by unfold iF; simp [List.getD, hk]
 have := b9 (S := Int × Int) (T := Int) (fun k => (if p < k then 1 else 0, (k : Int))) (body := fun x => dg s (iF s, au.mk 0 0) (i : Int) x.1 x.2) s.rules.length 1
  (by
   intro k hk
   show dg s (iF s, au.mk 0 0) (i : Int) (if p < k then 1 else 0) (k : Int) = _
   unfold dg
   rw [if_pos (show (k : Int) < ((iF s).rules.length : Int) from by omega), if_pos ⟨inI hi, show 0 ≤ (k : Int) ∧ (k : Int) < ((iF s).rules.length : Int) from by omega⟩]
   simp only [Int.toNat_natCast]
   rw [hget k (by omega), wrs k (by omega)]
   have hka : k < (aU s).length := by omega
   by_cases hkp : k = p
   ·subst hkp
    have e : (aU s).getD k default = i := (my hka).trans ep
    rw [e, nA _ (hng.r _ (bi hi)), if_neg (by omega), if_pos (by omega)]
    rfl
   ·have hne : ¬ (s.rules.getD i default).out_ = (s.rules.getD ((aU s).getD k default) default).out_ := by
     intro hq
     have e := lX g hi (lb (bi hka)) hq.symm
     rw [my hka, ← ep] at e
     exact hkp ((List.getElem_inj (ku s)).1 e)
    rw [vM hne]
    simp only [Option.bind_some, Bool.false_eq_true, if_false]
    by_cases h2 : p < k
    ·rw [if_pos h2, if_pos (by omega)]
    ·rw [if_neg h2, if_neg (by omega)])
  (by
   show dg s (iF s, au.mk 0 0) (i : Int) (if p < s.rules.length then 1 else 0) (s.rules.length : Int) = _
   unfold dg
   rw [if_neg (show ¬ (s.rules.length : Int) < ((iF s).rules.length : Int) from by omega), if_pos (by omega)])
 rw [show ((0 : Nat) : Int) = 0 from rfl, if_neg (by omega)] at this
 exact this
theorem Aa {s : af} (g : co s) (hK : ¬ (aU s).length = s.rules.length) : aT (fun x => fN s (jN s, au.mk 0 0) x) 0 = some (.inl ()) := by
 have hn := g.h.nr
 have e0 : jN s = dI (ef s) := by unfold jN; rw [if_neg hK]
 have hle := uf g
 have hdl := i1 (ef s)
 have hpos := t8 g hK
 rw [e0] at hle ⊢
 rw [br (ef s).length (fun _ => none) () (fun i hi => by
  have hr := sh g hK (bi hi)
  obtain ⟨gr, hu, ha, _⟩ := g.rule hr.1
  have he := gr.e
  have hnl := eX (s.rules.getD ((ef s).getD i default) default)
  obtain ⟨j, hj, e, _⟩ := np hr.1 hr.2
  have j5 : ∀ k : Nat, k < s.rules.length → k = nxS s ((ef s).getD i default) → fM s (dI (ef s), au.mk 0 0) (i : Int) (k : Int) = some (.inl ((i + 1 : Nat) : Int)) := by
   intro k hk hkn
   unfold fM
   simp only [Int.toNat_natCast, hdl, nC hi]
   rw [if_pos ⟨inI hi, inI hr.1⟩, pA _ (by omega) (by omega)]
   simp only [Option.bind_some]
   rw [if_pos (inI hk), d3 _ _ (by omega), wrs i (by omega)]
   have : (s.rules.getD k default).out_ ∈ aM (s.rules.getD ((ef s).getD i default) default) := by
    rw [hkn, (pJ g hr.1 hr.2).2.2, ← e]
    exact bi hj
   simp only [Option.bind_some]
   rw [List.contains_iff_mem.2 this]
   rfl
  unfold fN
  simp only [hdl]
  rw [if_pos (ltI hi), if_pos ⟨by omega, by omega⟩, wrs i (by omega)]
  have hx := wH g hK hi
  by_cases h : i + 1 < (ef s).length
  ·rw [if_pos h] at hx
   rw [if_pos (ltI h), if_pos (inI h), Int.toNat_natCast, nC h]
   exact j5 _ (sh g hK (bi h)).1 hx.symm
  ·rw [if_neg h] at hx
   rw [if_neg (by omega), nC hpos]
   exact j5 _ (sh g hK (bi hpos)).1 hx.symm) (by
  unfold fN
  simp only [hdl]
  rw [if_neg (by omega)]), cS (fun _ _ => rfl)]
theorem sm (s : af) (_ : s.ok) (_ : s.sz ≤ 1048576) : nt s = some true := by
 unfold nt
 rw [oU]
 simp only [Option.bind_some, if_true]
 obtain ⟨b, hb, hf⟩ := rp s 150 (by omega)
 rw [show ((150 : Nat) : Int) = 150 from rfl] at hb
 rw [hb]
 cases b
 ·have hng := hf rfl
  simp only [Option.bind_some, Bool.false_eq_true, if_false]
  rw [nm]
  simp only [Option.bind_some]
  by_cases hc : (cD s).code = 0
  ·obtain ⟨g, hz⟩ := fH hc
   have hnr := hng.nr
   rw [if_neg (by simpa using hc), rx, sg, if_pos hc, if_pos hc]
   simp only [Option.bind_some]
   rw [if_neg (by simp)]
   by_cases hK : (aU s).length = s.rules.length
   ·have er : jN s = [] := by unfold jN; rw [if_pos hK]
    have es : m5 s = (iF s, au.mk 0 0) := by unfold m5; rw [if_pos hK]
    have hl : (iF s).rules.length = (aU s).length := by unfold iF; simp
    rw [er, es, if_pos (by rfl), br 0 (fun _ => none) () (fun i hi => by omega) (by unfold fN; rw [if_neg (by simp)]), cS (fun _ _ => rfl)]
    simp only [Option.bind_some, Sum.elim_inl]
    unfold fL
    rw [if_neg (by simp)]
    simp only
    rw [if_neg (by omega)]
    have hcs := ud hc hK
    obtain ⟨gs, _⟩ := fH (s := iF s) (by rw [hcs])
    rw [rR gs]
    simp only [Option.bind_some]
    rw [if_pos (decide_eq_true pM)]
    rw [br s.rules.length (fun _ => none) () (fun i hi => by
     unfold jP
     rw [if_pos (ltI hi)]
     show (aT (fun (x : Int × Int) => dg s (iF s, au.mk 0 0) (i : Int) x.1 x.2) (0, 0)).bind _ = _
     rw [z8 g hng (by omega) hK hi]
     simp only [Option.bind_some]
     unfold iy jO
     rw [if_neg (by simp), wrs i (by omega)]) (by unfold jP; rw [if_neg (aX _)]), cS (fun _ _ => rfl)]
    simp only [Option.bind_some, Sum.elim_inl]
    unfold ix
    show (fK (iF s)).bind _ = _
    rw [xz hc hK]
    simp only [Option.bind_some]
    rw [if_pos trivial]
    have := wJ hng (by omega)
    rw [es] at this
    rw [this]
    rfl
   ·have es : m5 s = (noS, au.mk 15 (((bV s.rules.length (aU s)).getD 0 default : Nat) : Int)) := by unfold m5; rw [if_neg hK]
    have e0 : jN s = dI (ef s) := by unfold jN; rw [if_neg hK]
    have hdl := i1 (ef s)
    have hpos := t8 g hK
    have hlen : (jN s).length = (ef s).length := by rw [e0, hdl]
    rw [es, if_pos (by
     have h1 : ((15 : Int) == 0) = false := rfl
     have h2 : (((jN s).length : Int) == 0) = false := by rw [beq_eq_false_iff_ne]; omega
     show ((15 : Int) == 0) = (((jN s).length : Int) == 0)
     rw [h1, h2]), Aa g hK]
    simp only [Option.bind_some, Sum.elim_inl]
    unfold fL
    rfl
  ·rw [if_pos hc]
 ·rfl
end Pam
