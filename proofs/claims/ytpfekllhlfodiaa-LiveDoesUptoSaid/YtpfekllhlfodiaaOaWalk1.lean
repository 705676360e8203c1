/- the walk of ref_SpansOf, printed by a program of ours -/
import Derived.Test.YtpfekllhlfodiaaOBase2
import Derived.Test.YtpfekllhlfodiaaOabFun1
import Derived.Test.YtpfekllhlfodiaaOabcdWalk1
import Derived.Test.YtpfekllhlfodiaaOabcWalk1
import Derived.Test.YtpfekllhlfodiaaOacWalk1
import Derived.Test.YtpfekllhlfodiaaOacdWalk1
import Derived.Test.YtpfekllhlfodiaaOabWalk1
set_option linter.all false
namespace Pam
open Go Go.Proofs
set_option maxRecDepth 100000 in
set_option maxHeartbeats 8000000 in
theorem pu (p1 : af) (r : (List aC)) (hm : kD p1 = some r) : bU Try.prog 57 [.a [.tree 2 (p1.vars.map ak.enc), .tree 1 (p1.in_.map (eK .i64)), .tree 1 (p1.out_.map (eK .i64)), .tree 6 (p1.rules.map ae.enc)]] (.c (.tree 2 (r.map aC.enc))) := by
 refine aN 106 [.tmp 2] Try.func57 rfl rfl rfl (by kernel_rfl) (by simp) ?_;refine bu ?_;unfold kD at hm;refine ao [0, 2] ?_;refine ao [] ?_;refine cx (fm 3 2 99 (by decide) rfl (Nat.le_of_ble_eq_true rfl)) ?_;refine nT ?_;refine aF (S := (List aC)) (V := Nat) [1, 3, 4, 5, 6, 7, 8, 9, 10, 11, 12, 13, 14, 15, 16, 17, 18, 19, 20, 21, 22, 23, 24, 25, 26, 27, 28, 29, 30, 31, 32, 33, 34, 35, 36, 37, 38, 39, 40, 41, 42, 43, 44, 45, 46, 47, 48, 49, 50, 51, 52, 53, 54, 55, 56, 57, 58, 59, 60, 61, 62, 63, 64, 65, 66, 67, 68, 69, 70, 71, 72, 73, 74, 75, 76, 77, 78, 79, 80, 81, 82, 83, 84, 85, 86, 87, 88, 89, 90, 91, 92, 93, 94, 95, 96, 97, 98, 99, 100, 101, 102, 103, 104] (fun l3 v4 => [(3, .c (.osl 1 v4 0 l3.length))]) (fun l3 v4 => [.box [.tree 2 (p1.vars.map ak.enc), .tree 1 (p1.in_.map (eK .i64)), .tree 1 (p1.out_.map (eK .i64)), .tree 6 (p1.rules.map ae.enc)], .arr 2 v4 99 (l3.map aC.enc)]) (fun l3 => ib l3 = some r) ?_ ?_
 ·skip;refine ao [] ?_
  refine aw ?_;obtain ⟨o1, hl1, hm1⟩ := bd hm;refine aQ (S := ((List aC) × Int)) (V := Nat) (O := (List aC)) [3, 4, 5, 6, 7, 8, 9, 10, 11, 12, 13, 14, 15, 16, 17, 18, 19, 20, 21, 22, 23, 24, 25, 26, 27, 28, 29, 30, 31, 32, 33, 34, 35, 36, 37, 38, 39, 40, 41, 42, 43, 44, 45, 46, 47, 48, 49, 50, 51, 52, 53, 54, 55, 56, 57, 58, 59, 60, 61, 62, 63, 64, 65, 66, 67, 68, 69, 70, 71, 72, 73, 74, 75, 76, 77, 78, 79, 80, 81, 82, 83, 84, 85, 86, 87, 88, 89, 90, 91, 92, 93, 94, 95, 96, 97, 98, 99, 100, 101, 102, 103, 104] (fun (l17, x19) v18 => [(3, .c (.osl 1 v18 0 l17.length)), (4, .c (.int .i64 x19))]) (fun (l17, x19) v18 => [.box [.tree 2 (p1.vars.map ak.enc), .tree 1 (p1.in_.map (eK .i64)), .tree 1 (p1.out_.map (eK .i64)), .tree 6 (p1.rules.map ae.enc)], .arr 2 v18 99 (l17.map aC.enc)]) _ _ 0 hl1 ?_ ?_
  ·exact ls
  ·rintro ⟨l17, x19⟩ v18 r1 hm hr1;replace hm : dR p1 l17 x19 = some r1 := hm;refine aD ?_;unfold dR at hm;refine aq fun k1 hk1 => ?_;refine ao [9, 10, 11, 12] ?_
   by_cases h1 : x19 < (p1.vars.length : Int)
   ·rw [if_pos h1] at hm;refine ah rfl (decide_eq_true h1) ?_;refine ar ?_;refine am (hk1 _ _ ?_);refine aF (S := (List aC)) (V := Nat) [3, 5, 6, 7, 8, 13, 16, 17, 18, 19, 20, 21, 22, 23, 24, 25, 26, 27, 28, 29, 30, 31, 32, 33, 34, 35, 36, 37, 38, 39, 40, 41, 42, 43, 44, 45, 46, 47, 48, 49, 50, 51, 52, 53, 54, 55, 56, 57, 58, 59, 60, 61, 62, 63, 64, 65, 66, 67, 68, 69, 70, 71, 72, 73, 74, 75, 76, 77, 78, 79, 80, 81, 82, 83, 84, 85, 86, 87, 88, 89, 90, 91, 92, 93, 94, 95, 96, 97, 98, 99, 100, 101, 102, 103, 104] (fun l22 v23 => [(3, .c (.osl 1 v23 0 l22.length))]) (fun l22 v23 => [.box [.tree 2 (p1.vars.map ak.enc), .tree 1 (p1.in_.map (eK .i64)), .tree 1 (p1.out_.map (eK .i64)), .tree 6 (p1.rules.map ae.enc)], .arr 2 v23 99 (l22.map aC.enc)]) (fun l22 => ie x19 l22 = some r1) ?_ ?_
    ·skip;refine aw ?_
     refine ao [13, 16] ?_;refine aF (S := Int) (V := Nat) [3, 17, 18, 19, 20, 21] (fun x26 v25 => [(3, .c (.osl 1 v25 0 l17.length))]) (fun x26 v25 => [.box [.tree 2 (p1.vars.map ak.enc), .tree 1 (p1.in_.map (eK .i64)), .tree 1 (p1.out_.map (eK .i64)), .tree 6 (p1.rules.map ae.enc)], .arr 2 v25 99 (l17.map aC.enc), .box [.int .i64 x26, .int .i64 (-1)]]) (fun x26 => fF p1 l17 x19 x26 = some r1) ?_ ?_
     ·skip;refine aJ [17, 18, 19] fun k kp hk hp => ?_
      refine go ?_;obtain ⟨y89, hc23, hm⟩ := bd hm;refine RP (fun _ => dU p1.in_ x19 _ hc23) ?_;refine aa ?_;refine go ?_;refine hk _ _ ?_;clear hk hp k kp
      by_cases h24 : y89 = true
      ·rw [if_pos h24] at hm;refine ah rfl (h24) ?_;refine bm ?_;refine av (-1) v18 hm ?_;exact ls
      ·rw [if_neg h24] at hm;refine aj rfl (Bool.eq_false_iff.2 h24) ?_;refine ar ?_;refine av 0 v18 hm ?_;exact ls
     ·rintro x26 v25 hm;replace hm : fF p1 l17 x19 x26 = some r1 := hm;refine aD ?_;unfold fF at hm;refine aF (S := (Int × Int)) (V := Nat) [3, 6, 22, 23, 24, 25, 26, 27, 28, 29, 30, 31, 32, 33, 34, 35, 36, 37, 38, 39] (fun (x29, x30) v28 => [(3, .c (.osl 1 v28 0 l17.length))]) (fun (x29, x30) v28 => [.box [.tree 2 (p1.vars.map ak.enc), .tree 1 (p1.in_.map (eK .i64)), .tree 1 (p1.out_.map (eK .i64)), .tree 6 (p1.rules.map ae.enc)], .arr 2 v28 99 (l17.map aC.enc), .box [.int .i64 x29, .int .i64 x30]]) (fun (x29, x30) => fE p1 l17 x19 x29 x30 = some r1) ?_ ?_
      ·skip;refine ao [] ?_
       refine aw ?_;obtain ⟨o4, hl4, hm4⟩ := bd hm;refine aQ (S := (Int × Int × Int)) (V := Nat) (O := (Int × Int)) [3, 6, 22, 23, 24, 25, 26, 27, 28, 29, 30, 31, 32, 33, 34, 35, 36, 37, 38, 39] (fun (x84, x85, x86) v83 => [(3, .c (.osl 1 v83 0 l17.length)), (6, .c (.int .i64 x86))]) (fun (x84, x85, x86) v83 => [.box [.tree 2 (p1.vars.map ak.enc), .tree 1 (p1.in_.map (eK .i64)), .tree 1 (p1.out_.map (eK .i64)), .tree 6 (p1.rules.map ae.enc)], .arr 2 v83 99 (l17.map aC.enc), .box [.int .i64 x84, .int .i64 x85]]) _ _ v25 hl4 ?_ ?_
       ·exact ls
       ·rintro ⟨x84, x85, x86⟩ v83 r4 hm hr4;replace hm : dc p1 x19 x84 x85 x86 = some r4 := hm;refine aD ?_;unfold dc at hm;refine aq fun k7 hk7 => ?_;refine ao [22, 23, 24, 25] ?_
        by_cases h19 : x86 < (p1.rules.length : Int)
        ·rw [if_pos h19] at hm;refine ah rfl (decide_eq_true h19) ?_;refine ar ?_;refine am (hk7 _ _ ?_);refine aq fun k8 hk8 => ?_;refine aw ?_;obtain ⟨hg20a, hm⟩ := gd hm;refine bo (em ae.enc p1.rules x86.toNat) [26, 29, 30, 31, 32, 33, 34, 35] ?_
         by_cases h21 : ((p1.rules.getD x86.toNat default).out_) = x19
         ·rw [if_pos h21] at hm;refine ah rfl (beq_iff_eq.2 h21) ?_;refine bm ?_;refine ax ?_;refine am (hk8 _ _ ?_);refine bm ?_;refine aB (x86, x86, (IntKind.wrap .i64 (x86 + 1))) v83 hm ?_;exact ls
         ·rw [if_neg h21] at hm;refine aj rfl (beq_eq_false_iff_ne.2 h21) ?_;refine ar ?_;refine ax ?_;refine am (hk8 _ _ ?_);refine bm ?_;refine aB (x84, x85, (IntKind.wrap .i64 (x86 + 1))) v83 hm ?_;exact ls
        ·rw [if_neg h19] at hm;refine aj rfl (decide_eq_false h19) ?_;refine aY ?_;have ho22 := az hm hr4;subst ho22;replace hm : fE p1 l17 x19 x84 x85 = some r1 := hm4;refine aP ?_;refine aL ?_;refine aA ?_;refine av (x84, x85) v83 hm ?_;exact ls
      ·rintro ⟨x29, x30⟩ v28 hm;replace hm : fE p1 l17 x19 x29 x30 = some r1 := hm;refine aD ?_;unfold fE at hm;refine aF (S := Int) (V := Nat) [3, 7, 40, 41, 42, 43, 44, 45, 46, 47, 48, 49, 50, 51, 52, 53, 54, 55, 56, 57, 58, 59, 60, 61, 62] (fun x33 v32 => [(3, .c (.osl 1 v32 0 l17.length))]) (fun x33 v32 => [.box [.tree 2 (p1.vars.map ak.enc), .tree 1 (p1.in_.map (eK .i64)), .tree 1 (p1.out_.map (eK .i64)), .tree 6 (p1.rules.map ae.enc)], .arr 2 v32 99 (l17.map aC.enc), .box [.int .i64 x29, .int .i64 x33]]) (fun x33 => ii p1 l17 x19 x29 x33 = some r1) ?_ ?_
       ·skip;refine ao [] ?_
        refine aw ?_;obtain ⟨o3, hl3, hm3⟩ := bd hm;refine aQ (S := (Int × Int)) (V := Nat) (O := Int) [3, 7, 40, 41, 42, 43, 44, 45, 46, 47, 48, 49, 50, 51, 52, 53, 54, 55, 56, 57, 58, 59, 60, 61, 62] (fun (x65, x66) v64 => [(3, .c (.osl 1 v64 0 l17.length)), (7, .c (.int .i64 x66))]) (fun (x65, x66) v64 => [.box [.tree 2 (p1.vars.map ak.enc), .tree 1 (p1.in_.map (eK .i64)), .tree 1 (p1.out_.map (eK .i64)), .tree 6 (p1.rules.map ae.enc)], .arr 2 v64 99 (l17.map aC.enc), .box [.int .i64 x29, .int .i64 x65]]) _ _ v28 hl3 ?_ ?_
        ·exact ls
        ·rintro ⟨x65, x66⟩ v64 r3 hm hr3;replace hm : db p1 x19 x65 x66 = some r3 := hm;refine aD ?_;unfold db at hm;refine aq fun k5 hk5 => ?_;refine ao [40, 41, 42, 43] ?_
         by_cases h12 : x66 < (p1.rules.length : Int)
         ·rw [if_pos h12] at hm;refine ah rfl (decide_eq_true h12) ?_;refine ar ?_;refine am (hk5 _ _ ?_);refine aq fun k6 hk6 => ?_;refine aw ?_;obtain ⟨hg13a, hm⟩ := gd hm;refine aJ [44, 47, 48, 49, 50, 51, 52, 53, 54, 55, 56, 57, 58, 59] fun k kp hk hp => ?_;refine gox (em ae.enc p1.rules x66.toNat) ?_;obtain ⟨y67, hc14, hm⟩ := bd hm;refine RP (fun _ => j6 (p1.rules.getD x66.toNat default) _ hc14) ?_;refine aa ?_;refine go ?_;obtain ⟨y68, hc15, hm⟩ := bd hm;refine RP (fun _ => dU y67 x19 _ hc15) ?_
          by_cases h16 : y68 = true
          ·rw [if_pos h16] at hm;have h16b := h16;refine aa ?_;refine gox h16b ?_;refine hk _ _ ?_;clear hk hp k kp
           by_cases h17 : x65 < x66
           ·rw [if_pos h17] at hm;refine ah rfl (decide_eq_true h17) ?_;refine bm ?_;refine ax ?_;refine am (hk6 _ _ ?_);refine bm ?_;refine aB (x66, (IntKind.wrap .i64 (x66 + 1))) v64 hm ?_
            first | (simp only [bS, bX, reduceIte, ↓reduceIte, reduceCtorEq, Int.reduceToNat, Nat.reduceDiv, Nat.reduceMod, Nat.reduceLT, Nat.reduceLeDiff, Nat.reduceAdd, Nat.reduceSub, Nat.reduceMul, Nat.reduceEqDiff, Nat.reduceBEq, Nat.reduceBNe, Nat.reduceGT] <;> first | done | (and_intros <;> first | rfl | (simp; done) | omega | (simp [lit, bX, eK, eB, eS, eL]; done) | (simp only [bw, List.length_cons, List.length_nil, List.length_append, List.length_set, List.length_replicate, List.length_map, List.length_take, List.length_drop]; omega))) | (simp only [bS, bX, reduceIte, ↓reduceIte, reduceCtorEq, Int.reduceToNat, Nat.reduceDiv, Nat.reduceMod, Nat.reduceLT, Nat.reduceLeDiff, Nat.reduceAdd, Nat.reduceSub, Nat.reduceMul, Nat.reduceEqDiff, Nat.reduceBEq, Nat.reduceBNe, Nat.reduceGT, *] <;> first | done | (and_intros <;> first | rfl | (simp; done) | omega | (simp [lit, bX, eK, eB, eS, eL]; done) | (simp only [bw, List.length_cons, List.length_nil, List.length_append, List.length_set, List.length_replicate, List.length_map, List.length_take, List.length_drop]; omega)))
           ·rw [if_neg h17] at hm;refine aj rfl (decide_eq_false h17) ?_;refine ar ?_;refine ax ?_;refine am (hk6 _ _ ?_);refine bm ?_;refine aB (x65, (IntKind.wrap .i64 (x66 + 1))) v64 hm ?_
            first | (simp only [bS, bX, reduceIte, ↓reduceIte, reduceCtorEq, Int.reduceToNat, Nat.reduceDiv, Nat.reduceMod, Nat.reduceLT, Nat.reduceLeDiff, Nat.reduceAdd, Nat.reduceSub, Nat.reduceMul, Nat.reduceEqDiff, Nat.reduceBEq, Nat.reduceBNe, Nat.reduceGT] <;> first | done | (and_intros <;> first | rfl | (simp; done) | omega | (simp [lit, bX, eK, eB, eS, eL]; done) | (simp only [bw, List.length_cons, List.length_nil, List.length_append, List.length_set, List.length_replicate, List.length_map, List.length_take, List.length_drop]; omega))) | (simp only [bS, bX, reduceIte, ↓reduceIte, reduceCtorEq, Int.reduceToNat, Nat.reduceDiv, Nat.reduceMod, Nat.reduceLT, Nat.reduceLeDiff, Nat.reduceAdd, Nat.reduceSub, Nat.reduceMul, Nat.reduceEqDiff, Nat.reduceBEq, Nat.reduceBNe, Nat.reduceGT, *] <;> first | done | (and_intros <;> first | rfl | (simp; done) | omega | (simp [lit, bX, eK, eB, eS, eL]; done) | (simp only [bw, List.length_cons, List.length_nil, List.length_append, List.length_set, List.length_replicate, List.length_map, List.length_take, List.length_drop]; omega)))
          ·rw [if_neg h16] at hm;have h16b := Bool.eq_false_iff.2 h16;refine aa ?_;refine gox h16b ?_;refine hk _ _ ?_;clear hk hp k kp;refine aj rfl rfl ?_;refine ar ?_;refine ax ?_;refine am (hk6 _ _ ?_);refine bm ?_;refine aB (x65, (IntKind.wrap .i64 (x66 + 1))) v64 hm ?_
           first | (simp only [bS, bX, reduceIte, ↓reduceIte, reduceCtorEq, Int.reduceToNat, Nat.reduceDiv, Nat.reduceMod, Nat.reduceLT, Nat.reduceLeDiff, Nat.reduceAdd, Nat.reduceSub, Nat.reduceMul, Nat.reduceEqDiff, Nat.reduceBEq, Nat.reduceBNe, Nat.reduceGT] <;> first | done | (and_intros <;> first | rfl | (simp; done) | omega | (simp [lit, bX, eK, eB, eS, eL]; done) | (simp only [bw, List.length_cons, List.length_nil, List.length_append, List.length_set, List.length_replicate, List.length_map, List.length_take, List.length_drop]; omega))) | (simp only [bS, bX, reduceIte, ↓reduceIte, reduceCtorEq, Int.reduceToNat, Nat.reduceDiv, Nat.reduceMod, Nat.reduceLT, Nat.reduceLeDiff, Nat.reduceAdd, Nat.reduceSub, Nat.reduceMul, Nat.reduceEqDiff, Nat.reduceBEq, Nat.reduceBNe, Nat.reduceGT, *] <;> first | done | (and_intros <;> first | rfl | (simp; done) | omega | (simp [lit, bX, eK, eB, eS, eL]; done) | (simp only [bw, List.length_cons, List.length_nil, List.length_append, List.length_set, List.length_replicate, List.length_map, List.length_take, List.length_drop]; omega)))
         ·rw [if_neg h12] at hm;refine aj rfl (decide_eq_false h12) ?_;refine aY ?_;have ho18 := az hm hr3;subst ho18;replace hm : ii p1 l17 x19 x29 x65 = some r1 := hm3;refine aP ?_;refine aL ?_;refine aA ?_;refine av x65 v64 hm ?_;exact ls
       ·rintro x33 v32 hm;replace hm : ii p1 l17 x19 x29 x33 = some r1 := hm;refine aD ?_;unfold ii at hm;refine aF (S := Int) (V := Nat) [3, 8, 63, 64, 65, 66, 67, 68, 69, 70, 71, 72, 73, 74, 75, 76, 77, 78, 79, 80, 81, 82, 83, 84, 85, 86, 87, 88, 89, 90, 91, 92] (fun x36 v35 => [(3, .c (.osl 1 v35 0 l17.length))]) (fun x36 v35 => [.box [.tree 2 (p1.vars.map ak.enc), .tree 1 (p1.in_.map (eK .i64)), .tree 1 (p1.out_.map (eK .i64)), .tree 6 (p1.rules.map ae.enc)], .arr 2 v35 99 (l17.map aC.enc), .box [.int .i64 x29, .int .i64 x36]]) (fun x36 => ig p1 l17 x19 x29 x36 = some r1) ?_ ?_
        ·skip;refine ao [] ?_
         refine aw ?_;obtain ⟨o2, hl2, hm2⟩ := bd hm;refine aQ (S := (Int × Int)) (V := Nat) (O := Int) [3, 8, 63, 64, 65, 66, 67, 68, 69, 70, 71, 72, 73, 74, 75, 76, 77, 78, 79, 80, 81, 82, 83, 84, 85, 86, 87, 88, 89, 90, 91, 92] (fun (x50, x51) v49 => [(3, .c (.osl 1 v49 0 l17.length)), (8, .c (.int .i64 x51))]) (fun (x50, x51) v49 => [.box [.tree 2 (p1.vars.map ak.enc), .tree 1 (p1.in_.map (eK .i64)), .tree 1 (p1.out_.map (eK .i64)), .tree 6 (p1.rules.map ae.enc)], .arr 2 v49 99 (l17.map aC.enc), .box [.int .i64 x29, .int .i64 x50]]) _ _ v32 hl2 ?_ ?_
         ·exact ls
         ·rintro ⟨x50, x51⟩ v49 r2 hm hr2;replace hm : da p1 x19 x50 x51 = some r2 := hm;refine aD ?_;unfold da at hm;refine aq fun k3 hk3 => ?_;refine ao [63, 64, 65, 66] ?_
          by_cases h6 : x51 < (p1.rules.length : Int)
          ·rw [if_pos h6] at hm;refine ah rfl (decide_eq_true h6) ?_;refine ar ?_;refine am (hk3 _ _ ?_);refine aq fun k4 hk4 => ?_;refine aw ?_;obtain ⟨hg7a, hm⟩ := gd hm;refine bx [67, 70, 71, 72, 73, 74, 75, 76, 77, 78, 79, 80, 81, 82, 83, 84, 85, 86, 87] fun k kp hk hp => ?_;refine ap 8 ?_;refine gox (em ae.enc p1.rules x51.toNat) ?_
           by_cases h8 : ((p1.rules.getD x51.toNat default).op) = 13
           ·rw [if_pos h8] at hm;have h8b := beq_iff_eq.2 h8;obtain ⟨hg9a, hm⟩ := gd hm;refine aa ?_;refine gox (a2 (em ae.enc p1.rules x51.toNat) (a2 (em (eK .i64) ((p1.rules.getD x51.toNat default).a) 1) h8b)) ?_;refine hk _ _ ?_;clear hk hp k kp
            by_cases h10 : (((p1.rules.getD x51.toNat default).a).getD 1 default) = x19
            ·rw [if_pos h10] at hm;refine ah rfl (beq_iff_eq.2 h10) ?_;refine bm ?_;refine ax ?_;refine am (hk4 _ _ ?_);refine bm ?_;refine aB ((p1.rules.length : Int), (IntKind.wrap .i64 (x51 + 1))) v49 hm ?_;exact ls
            ·rw [if_neg h10] at hm;refine aj rfl (beq_eq_false_iff_ne.2 h10) ?_;refine ar ?_;refine ax ?_;refine am (hk4 _ _ ?_);refine bm ?_;refine aB (x50, (IntKind.wrap .i64 (x51 + 1))) v49 hm ?_;exact ls
           ·rw [if_neg h8] at hm;have h8b := beq_eq_false_iff_ne.2 h8;refine aa ?_;refine gox h8b ?_;refine hk _ _ ?_;clear hk hp k kp;refine aj rfl rfl ?_;refine ar ?_;refine ax ?_;refine am (hk4 _ _ ?_);refine bm ?_;refine aB (x50, (IntKind.wrap .i64 (x51 + 1))) v49 hm ?_;exact ls
          ·rw [if_neg h6] at hm;refine aj rfl (decide_eq_false h6) ?_;refine aY ?_;have ho11 := az hm hr2;subst ho11;replace hm : ig p1 l17 x19 x29 x50 = some r1 := hm2;refine aP ?_;refine aL ?_;refine aA ?_;refine av x50 v49 hm ?_;exact ls
        ·rintro x36 v35 hm;replace hm : ig p1 l17 x19 x29 x36 = some r1 := hm;refine aD ?_;unfold ig at hm;refine aq fun k2 hk2 => ?_;refine aJ [93, 94, 95] fun k kp hk hp => ?_;refine go ?_;obtain ⟨y37, hc2, hm⟩ := bd hm;refine RP (fun _ => dU p1.out_ x19 _ hc2) ?_;refine aa ?_;refine go ?_;refine hk _ _ ?_;clear hk hp k kp
         by_cases h3 : y37 = true
         ·rw [if_pos h3] at hm;refine ah rfl (h3) ?_;refine bm ?_;refine am (hk2 _ _ ?_);obtain ⟨⟨hg4ax, hg4ay⟩, hm⟩ := gd hm;refine bm ?_;refine ax ?_;refine av (l17 ++ (lit ([(aC.mk x29 (p1.rules.length : Int))] : List aC))) (v35 + 1) hm ?_;exact ls
         ·rw [if_neg h3] at hm;refine aj rfl (Bool.eq_false_iff.2 h3) ?_;refine ar ?_;refine am (hk2 _ _ ?_);obtain ⟨⟨hg5ax, hg5ay⟩, hm⟩ := gd hm;refine bm ?_;refine ax ?_;refine av (l17 ++ (lit ([(aC.mk x29 x36)] : List aC))) (v35 + 1) hm ?_;exact ls
    ·rintro l22 v23 hm;replace hm : ie x19 l22 = some r1 := hm;refine aD ?_;unfold ie at hm;refine bm ?_;refine aB (l22, (IntKind.wrap .i64 (x19 + 1))) v23 hm ?_;exact ls
   ·rw [if_neg h1] at hm;refine aj rfl (decide_eq_false h1) ?_;refine aY ?_;have ho25 := az hm hr1;subst ho25;replace hm : ib l17 = some r := hm1;refine aP ?_;refine aL ?_;refine aA ?_;refine av l17 v18 hm ?_;exact ls
 ·rintro l3 v4 hm;replace hm : ib l3 = some r := hm;refine aD ?_;unfold ib at hm;refine ao [3, 105] ?_;refine e9 (bn 1 rfl) ?_;refine an ?_;refine ab [] ?_;obtain rfl := Option.some.inj hm;exact en
end Pam

namespace Pam
open Go Go.Proofs
set_option maxRecDepth 100000 in
set_option maxHeartbeats 1000000 in
theorem rL (p1 : List aC) (p2 : List aC) (r : Bool) (hm : kg p1 p2 = some r) : bU Try.prog 56 [.c (.tree 2 (p1.map aC.enc)), .c (.tree 2 (p2.map aC.enc))] (.c (.bool r)) := by
 refine aN 26 [.tmp 4] Try.func56 rfl rfl rfl (by kernel_rfl) (by simp) ?_;refine bu ?_;unfold kg at hm;refine ao [4] ?_;refine aq fun k1 hk1 => ?_;refine ao [6, 7, 8, 9] ?_
 by_cases h1 : ¬ (p1.length : Int) = (p2.length : Int)
 ·rw [if_pos h1] at hm;refine ah rfl (bne_iff_ne.2 h1) ?_;refine ao [0, 1, 10] ?_;refine an ?_;refine ai ?_;refine ab [] ?_;obtain rfl := Option.some.inj hm;exact en
 ·rw [if_neg h1] at hm;refine aj rfl (bne_eq_false_iff_eq.2 (Decidable.not_not.1 h1)) ?_;refine ar ?_;refine am (hk1 _ _ ?_);refine aF (S := Unit) (V := Unit) [0, 1, 4, 5, 10, 11, 12, 13, 14, 15, 16, 17, 18, 19, 20, 21, 22, 23, 24, 25] (fun _ _ => []) (fun _ _ => []) (fun _ => ij = some r) ?_ ?_
  ·skip;refine ao [10] ?_
   refine aw ?_;obtain ⟨o1, hl1, hm1⟩ := bd hm;refine aQ (S := Int) (V := Unit) (O := Unit ⊕ Bool) [4, 5, 11, 12, 13, 14, 15, 16, 17, 18, 19, 20, 21, 22, 23, 24, 25] (fun x3 _ => [(5, .c (.int .i64 x3))]) (fun x3 _ => []) _ _ () hl1 ?_ ?_
   ·exact ls
   ·rintro x3 _ r1 hm hr1;replace hm : ik p1 p2 x3 = some r1 := hm;refine aD ?_;unfold ik at hm;refine aq fun k2 hk2 => ?_;refine ao [11, 12, 13] ?_
    by_cases h2 : x3 < (p1.length : Int)
    ·rw [if_pos h2] at hm;refine ah rfl (decide_eq_true h2) ?_;refine ar ?_;refine am (hk2 _ _ ?_);refine aq fun k3 hk3 => ?_;refine aw ?_;obtain ⟨⟨hg3a, hg3b⟩, hm⟩ := gd hm;refine mR (a2 (em aC.enc p1 x3.toNat) (em aC.enc p2 x3.toNat)) [14, 17, 18, 19, 20, 21, 22, 23, 24] [0, 0, 3, 7, 0, 0, 48, 112, 255] [false, false, false, false, false, false, false, false, true] ?_
     by_cases h4 : ((p1.getD x3.toNat default).from_) = ((p2.getD x3.toNat default).from_) ∧ ((p1.getD x3.toNat default).to) = ((p2.getD x3.toNat default).to)
     ·rw [if_pos h4] at hm;refine aj rfl (by rw [show ((((p1.getD x3.toNat default).from_) == ((p2.getD x3.toNat default).from_)) && (((p1.getD x3.toNat default).to) == ((p2.getD x3.toNat default).to))) = true from (by simpa [Bool.and_eq_true] using h4)]; rfl) ?_;refine ar ?_;refine ax ?_;refine am (hk3 _ _ ?_);refine bm ?_;refine aB (IntKind.wrap .i64 (x3 + 1)) () hm ?_;exact ls
     ·rw [if_neg h4] at hm;refine ah rfl (by rw [show ((((p1.getD x3.toNat default).from_) == ((p2.getD x3.toNat default).from_)) && (((p1.getD x3.toNat default).to) == ((p2.getD x3.toNat default).to))) = false from (Bool.eq_false_iff.2 (fun hh => h4 (by simpa [Bool.and_eq_true] using hh)))]; rfl) ?_;refine ao [0, 1, 5, 25] ?_;have ho5 := az hm hr1;subst ho5;replace hm : some false = some r := hm1;refine an ?_;refine ag ?_;refine ai ?_;refine aG ?_;refine ag ?_;refine ay ?_;refine ab [] ?_;obtain rfl := Option.some.inj hm;exact en
    ·rw [if_neg h2] at hm;refine aj rfl (decide_eq_false h2) ?_;refine aY ?_;have ho6 := az hm hr1;subst ho6;replace hm : ij = some r := hm1;refine aP ?_;refine aL ?_;refine aA ?_;refine av () () hm ?_;exact ls
  ·rintro _ _ hm;replace hm : ij = some r := hm;refine aD ?_;unfold ij at hm;refine ao [] ?_;refine an ?_;refine ab [] ?_;obtain rfl := Option.some.inj hm;exact en
end Pam

namespace Pam
open Go Go.Proofs
set_option maxRecDepth 100000 in
set_option maxHeartbeats 8000000 in
theorem ut (p1 : af) (r : Int) (hm : mW p1 = some r) : bU Try.prog 58 [.a [.tree 2 (p1.vars.map ak.enc), .tree 1 (p1.in_.map (eK .i64)), .tree 1 (p1.out_.map (eK .i64)), .tree 6 (p1.rules.map ae.enc)]] (.c (.int .i64 r)) := by
 refine aN 53 [.tmp 2] Try.func58 rfl rfl rfl (by kernel_rfl) (by simp) ?_;refine bu ?_;unfold mW at hm;refine ao [0, 2] ?_;refine aJ [8, 9] fun k kp hk hp => ?_;refine go ?_;obtain ⟨y1, hc1, hm⟩ := bd hm;refine RP (fun _ => pu p1 _ hc1) ?_;refine aa ?_;refine go ?_;refine hk _ _ ?_;clear hk hp k kp;refine ao [] ?_;refine aF (S := Int) (V := Unit) [1, 3, 4, 5, 6, 7, 10, 11, 12, 13, 14, 15, 16, 17, 18, 19, 20, 21, 22, 23, 24, 25, 26, 27, 28, 29, 30, 31, 32, 33, 34, 35, 36, 37, 38, 39, 40, 41, 42, 43, 44, 45, 46, 47, 48, 49, 50, 51] (fun x2 _ => [(4, .c (.int .i64 x2))]) (fun x2 _ => [.box [.tree 2 (p1.vars.map ak.enc), .tree 1 (p1.in_.map (eK .i64)), .tree 1 (p1.out_.map (eK .i64)), .tree 6 (p1.rules.map ae.enc)]]) (fun x2 => kh x2 = some r) ?_ ?_
 ·skip;refine ao [] ?_
  refine aw ?_;obtain ⟨o1, hl1, hm1⟩ := bd hm;refine aQ (S := (Int × Int)) (V := Unit) (O := Int) [4, 5, 6, 7, 10, 11, 12, 13, 14, 15, 16, 17, 18, 19, 20, 21, 22, 23, 24, 25, 26, 27, 28, 29, 30, 31, 32, 33, 34, 35, 36, 37, 38, 39, 40, 41, 42, 43, 44, 45, 46, 47, 48, 49, 50, 51] (fun (x7, x8) _ => [(4, .c (.int .i64 x7)), (5, .c (.int .i64 x8))]) (fun (x7, x8) _ => [.box [.tree 2 (p1.vars.map ak.enc), .tree 1 (p1.in_.map (eK .i64)), .tree 1 (p1.out_.map (eK .i64)), .tree 6 (p1.rules.map ae.enc)]]) _ _ () hl1 ?_ ?_
  ·exact ls
  ·rintro ⟨x7, x8⟩ _ r1 hm hr1;replace hm : dG p1 y1 x7 x8 = some r1 := hm;refine aD ?_;unfold dG at hm;refine aq fun k1 hk1 => ?_;refine ao [10, 11, 12, 13] ?_
   by_cases h2 : x8 ≤ (p1.rules.length : Int)
   ·rw [if_pos h2] at hm;refine ah rfl (decide_eq_true h2) ?_;refine ar ?_;refine am (hk1 _ _ ?_);refine aF (S := Int) (V := Unit) [4, 6, 7, 14, 17, 18, 19, 20, 21, 22, 23, 24, 25, 26, 27, 28, 29, 30, 31, 32, 33, 34, 35, 36, 37, 38, 39, 40, 41, 42, 43, 44, 45, 46, 47, 48, 49, 50, 51] (fun x9 _ => [(4, .c (.int .i64 x9))]) (fun x9 _ => [.box [.tree 2 (p1.vars.map ak.enc), .tree 1 (p1.in_.map (eK .i64)), .tree 1 (p1.out_.map (eK .i64)), .tree 6 (p1.rules.map ae.enc)]]) (fun x9 => jj x8 x9 = some r1) ?_ ?_
    ·skip;refine aw ?_
     refine ao [14] ?_;refine aF (S := Int) (V := Unit) [6, 7, 17, 18, 19, 20, 21, 22, 23, 24, 25, 26, 27, 28, 29, 30, 31, 32, 33, 34, 35, 36, 37, 38, 39, 40, 41, 42, 43, 44, 45, 46, 47] (fun x10 _ => [(6, .c (.int .i64 x10))]) (fun x10 _ => [.box [.tree 2 (p1.vars.map ak.enc), .tree 1 (p1.in_.map (eK .i64)), .tree 1 (p1.out_.map (eK .i64)), .tree 6 (p1.rules.map ae.enc)]]) (fun x10 => jk x7 x8 x10 = some r1) ?_ ?_
     ·skip;refine ao [] ?_
      refine aw ?_;obtain ⟨o2, hl2, hm2⟩ := bd hm;refine aQ (S := (Int × Int)) (V := Unit) (O := Int) [6, 7, 17, 18, 19, 20, 21, 22, 23, 24, 25, 26, 27, 28, 29, 30, 31, 32, 33, 34, 35, 36, 37, 38, 39, 40, 41, 42, 43, 44, 45, 46, 47] (fun (x15, x16) _ => [(6, .c (.int .i64 x15)), (7, .c (.int .i64 x16))]) (fun (x15, x16) _ => [.box [.tree 2 (p1.vars.map ak.enc), .tree 1 (p1.in_.map (eK .i64)), .tree 1 (p1.out_.map (eK .i64)), .tree 6 (p1.rules.map ae.enc)]]) _ _ () hl2 ?_ ?_
      ·exact ls
      ·rintro ⟨x15, x16⟩ _ r2 hm hr2;replace hm : dF p1 y1 x8 x15 x16 = some r2 := hm;refine aD ?_;unfold dF at hm;refine aq fun k2 hk2 => ?_;refine ao [17, 18, 19] ?_
       by_cases h4 : x16 < (y1.length : Int)
       ·rw [if_pos h4] at hm;refine ah rfl (decide_eq_true h4) ?_;refine ar ?_;refine am (hk2 _ _ ?_);refine aq fun k3 hk3 => ?_;refine aw ?_;obtain ⟨hg5a, hm⟩ := gd hm;refine bx [20, 23, 24, 25, 26, 27, 28, 29, 30, 31, 32, 33, 34, 35, 36, 37] fun k kp hk hp => ?_;refine ap 8 ?_;refine gox (em aC.enc y1 x16.toNat) ?_
        by_cases h6 : ((y1.getD x16.toNat default).from_) ≤ x8
        ·rw [if_pos h6] at hm;have h6b := decide_eq_true h6;refine aa ?_;refine gox (a2 (em aC.enc y1 x16.toNat) h6b) ?_;refine hk _ _ ?_;clear hk hp k kp
         by_cases h7 : ((y1.getD x16.toNat default).to) ≥ x8
         ·rw [if_pos h7] at hm;refine ah rfl (decide_eq_true h7) ?_;obtain ⟨hg8a, hm⟩ := gd hm;refine eY fun k kp hk hp => ?_;refine gox (em ak.enc p1.vars x16.toNat) ?_;obtain ⟨y17, hc9, hm⟩ := bd hm;refine RP (fun _ => kT ((p1.vars.getD x16.toNat default).n) _ hc9) ?_;refine aa ?_;refine go ?_;refine hk _ _ ?_;clear hk hp k kp;refine ax ?_;refine am (hk3 _ _ ?_);refine bm ?_;refine aB ((IntKind.wrap .i64 (x15 + y17)), (IntKind.wrap .i64 (x16 + 1))) () hm ?_;exact ls
         ·rw [if_neg h7] at hm;refine aj rfl (decide_eq_false h7) ?_;refine ar ?_;refine ax ?_;refine am (hk3 _ _ ?_);refine bm ?_;refine aB (x15, (IntKind.wrap .i64 (x16 + 1))) () hm ?_;exact ls
        ·rw [if_neg h6] at hm;have h6b := decide_eq_false h6;refine aa ?_;refine gox h6b ?_;refine hk _ _ ?_;clear hk hp k kp;refine aj rfl rfl ?_;refine ar ?_;refine ax ?_;refine am (hk3 _ _ ?_);refine bm ?_;refine aB (x15, (IntKind.wrap .i64 (x16 + 1))) () hm ?_;exact ls
       ·rw [if_neg h4] at hm;refine aj rfl (decide_eq_false h4) ?_;refine aY ?_;have ho10 := az hm hr2;subst ho10;replace hm : jk x7 x8 x15 = some r1 := hm2;refine aP ?_;refine aL ?_;refine aA ?_;refine av x15 () hm ?_;exact ls
     ·rintro x10 _ hm;replace hm : jk x7 x8 x10 = some r1 := hm;refine aD ?_;unfold jk at hm;refine ao [48, 49] ?_
      by_cases h3 : x10 > x7
      ·rw [if_pos h3] at hm;refine ah rfl (decide_eq_true h3) ?_;refine bm ?_;refine ax ?_;refine av x10 () hm ?_;exact ls
      ·rw [if_neg h3] at hm;refine aj rfl (decide_eq_false h3) ?_;refine ar ?_;refine ax ?_;refine av x7 () hm ?_;exact ls
    ·rintro x9 _ hm;replace hm : jj x8 x9 = some r1 := hm;refine aD ?_;unfold jj at hm;refine bm ?_;refine aB (x9, (IntKind.wrap .i64 (x8 + 1))) () hm ?_;exact ls
   ·rw [if_neg h2] at hm;refine aj rfl (decide_eq_false h2) ?_;refine aY ?_;have ho11 := az hm hr1;subst ho11;replace hm : kh x7 = some r := hm1;refine aP ?_;refine aL ?_;refine aA ?_;refine av x7 () hm ?_;exact ls
 ·rintro x2 _ hm;replace hm : kh x2 = some r := hm;refine aD ?_;unfold kh at hm;refine ao [4, 52] ?_;refine an ?_;refine ab [] ?_;obtain rfl := Option.some.inj hm;exact en
end Pam

namespace Pam
open Go Go.Proofs
set_option maxRecDepth 100000 in
set_option maxHeartbeats 8000000 in
theorem sG (p1 : af) (r : Bool) (hm : mr p1 = some r) : bU Try.prog 11 [.a [.tree 2 (p1.vars.map ak.enc), .tree 1 (p1.in_.map (eK .i64)), .tree 1 (p1.out_.map (eK .i64)), .tree 6 (p1.rules.map ae.enc)]] (.c (.bool r)) := by
 refine aN 70 [.tmp 2] Try.func11 rfl rfl rfl (by kernel_rfl) (by simp) ?_;refine bu ?_;unfold mr at hm;refine ao [0, 2] ?_;refine aq fun k1 hk1 => ?_;refine aJ [9] fun k kp hk hp => ?_;refine go ?_;obtain ⟨y1, hc1, hm⟩ := bd hm;refine RP (fun _ => n5  _ hc1) ?_;refine aa ?_;refine go ?_;refine hk _ _ ?_;clear hk hp k kp
 by_cases h2 : y1 = true
 ·rw [if_pos h2] at hm;refine aj rfl (by rw [show y1 = true from (h2)]; rfl) ?_;refine ar ?_;refine am (hk1 _ _ ?_);refine aq fun k2 hk2 => ?_;refine aJ [10, 11] fun k kp hk hp => ?_;refine go ?_;obtain ⟨y2, hc3, hm⟩ := bd hm;refine RP (fun _ => iU p1 150 _ hc3) ?_;refine aa ?_;refine go ?_;refine hk _ _ ?_;clear hk hp k kp
  by_cases h4 : y2 = true
  ·rw [if_pos h4] at hm;refine ah rfl (h4) ?_;refine ao [1, 12] ?_;refine an ?_;refine ai ?_;refine ab [] ?_;obtain rfl := Option.some.inj hm;exact en
  ·rw [if_neg h4] at hm;refine aj rfl (Bool.eq_false_iff.2 h4) ?_;refine ar ?_;refine am (hk2 _ _ ?_);refine aJ [12, 13, 14] fun k kp hk hp => ?_;refine go ?_;obtain ⟨y3, hc5, hm⟩ := bd hm;refine RP (fun _ => ng p1 _ hc5) ?_;refine aa ?_;refine go ?_;refine hk _ _ ?_;clear hk hp k kp;refine aJ [15, 16, 17, 18, 19] fun k kp hk hp => ?_;refine go ?_;obtain ⟨y4, hc6, hm⟩ := bd hm;refine RP (fun _ => lF (y3) _ hc6) ?_;refine aa ?_;refine go ?_;refine hk _ _ ?_;clear hk hp k kp;refine aJ [20, 21, 22, 23, 24] fun k kp hk hp => ?_;refine go ?_;obtain ⟨y5, hc7, hm⟩ := bd hm;refine RP (fun _ => rj (y3) _ hc7) ?_;refine aa ?_;refine go ?_;refine hk _ _ ?_;clear hk hp k kp;refine aJ [25, 26] fun k kp hk hp => ?_;refine go ?_;obtain ⟨y6, hc8, hm⟩ := bd hm;refine RP (fun _ => kn p1 _ hc8) ?_;refine aa ?_;refine go ?_;refine hk _ _ ?_;clear hk hp k kp;refine aF (S := (Int × Int)) (V := Unit) [27, 28, 29, 30, 31, 32, 33, 34, 35] (fun (x7, x8) _ => []) (fun (x7, x8) _ => [.box [.tree 2 (p1.vars.map ak.enc), .tree 1 (p1.in_.map (eK .i64)), .tree 1 (p1.out_.map (eK .i64)), .tree 6 (p1.rules.map ae.enc)], .box [.tree 2 (((y3).vars).map ak.enc), .tree 1 (((y3).in_).map (eK .i64)), .tree 1 (((y3).out_).map (eK .i64)), .tree 6 (((y3).rules).map ae.enc)], .box [.int .i64 ((y4.2).code), .int .i64 ((y4.2).at_)], .box [.int .i64 ((y5.2).code), .int .i64 ((y5.2).at_)], .box [.int .i64 x7, .int .i64 x8]]) (fun (x7, x8) => dk p1 y3 y4 y5 x7 x8 = some r) ?_ ?_
   ·skip;refine bx [27, 28, 29, 30, 31, 32, 33] fun k kp hk hp => ?_
    refine ap 4 ?_;refine go ?_
    by_cases h19 : ((y6).code) = 0
    ·rw [if_pos h19] at hm;have h19b := beq_iff_eq.2 h19;refine aa ?_;refine gox h19b ?_;obtain ⟨y13, hc20, hm⟩ := bd hm;refine RP (fun _ => oS p1 _ hc20) ?_;refine aa ?_;refine gox h19b ?_;refine hk _ _ ?_;clear hk hp k kp
     by_cases h21 : y13 = true
     ·rw [if_pos h21] at hm;refine aj rfl (by rw [show y13 = true from (h21)]; rfl) ?_;refine ar ?_;refine av ((y6).code, (y6).at_) () hm ?_;exact ls
     ·rw [if_neg h21] at hm;refine ah rfl (by rw [show y13 = false from (Bool.eq_false_iff.2 h21)]; rfl) ?_;refine eY fun k kp hk hp => ?_;refine go ?_;obtain ⟨y14, hc22, hm⟩ := bd hm;refine RP (fun _ => cn 15 (-1) _ hc22) ?_;refine aa ?_;refine go ?_;refine hk _ _ ?_;clear hk hp k kp;refine av ((y14).code, (y14).at_) () hm ?_;exact ls
    ·rw [if_neg h19] at hm;have h19b := beq_eq_false_iff_ne.2 h19;refine aa ?_;refine gox h19b ?_;refine hk _ _ ?_;clear hk hp k kp;refine aj rfl rfl ?_;refine ar ?_;refine av ((y6).code, (y6).at_) () hm ?_;exact ls
   ·rintro ⟨x7, x8⟩ _ hm;replace hm : dk p1 y3 y4 y5 x7 x8 = some r := hm;refine aD ?_;unfold dk at hm;refine aq fun k3 hk3 => ?_;refine bx [3, 5, 7, 36, 37, 38, 39, 40, 41, 42, 43, 44, 45, 46, 47, 48] fun k kp hk hp => ?_;refine ap 4 ?_;refine go ?_
    by_cases h9 : ((y4.2).code) = x7 ∧ ((y4.2).at_) = x8
    ·rw [if_pos h9] at hm
     have h9b : ((((y4.2).code) == x7) && (((y4.2).at_) == x8)) = true := by simpa [Bool.and_eq_true] using h9
     have h9c : (!((((y4.2).code) == x7) && (((y4.2).at_) == x8))) = false := by rw [h9b]; rfl
     refine ap 5 ?_;refine gox (a2 h9b h9c) ?_
     by_cases h10 : ((y5.2).code) = x7 ∧ ((y5.2).at_) = x8
     ·rw [if_pos h10] at hm
      have h10b : ((((y5.2).code) == x7) && (((y5.2).at_) == x8)) = true := by simpa [Bool.and_eq_true] using h10
      have h10c : (!((((y5.2).code) == x7) && (((y5.2).at_) == x8))) = false := by rw [h10b]; rfl
      refine aa ?_;refine gox (a2 h9b (a2 h9c (a2 h10b h10c))) ?_;obtain ⟨y9, hc11, hm⟩ := bd hm;refine RP (fun _ => jp (y3) p1 _ hc11) ?_;refine aa ?_;refine gox (a2 h9b (a2 h9c (a2 h10b h10c))) ?_;refine hk _ _ ?_;clear hk hp k kp
      by_cases h12 : y9 = true
      ·rw [if_pos h12] at hm;refine aj rfl (by rw [show y9 = true from (h12)]; rfl) ?_;refine ar ?_;refine am (hk3 _ _ ?_);refine aq fun k4 hk4 => ?_;refine ao [8, 49, 50, 51] ?_
       by_cases h13 : ¬ x7 = 0
       ·rw [if_pos h13] at hm;refine ah rfl (bne_iff_ne.2 h13) ?_;refine bx [1, 4, 6, 52, 53, 54, 55, 56, 57, 58, 59] fun k kp hk hp => ?_;refine ap 4 ?_;refine go ?_
        by_cases h14 : (y4.1.length : Int) = 0
        ·rw [if_pos h14] at hm;have h14b := beq_iff_eq.2 h14;refine aa ?_;refine gox h14b ?_;refine hk _ _ ?_;clear hk hp k kp;refine an ?_;refine ai ?_;refine ab [] ?_;obtain rfl := Option.some.inj hm;exact en
        ·rw [if_neg h14] at hm;have h14b := beq_eq_false_iff_ne.2 h14;refine aa ?_;refine gox h14b ?_;refine hk _ _ ?_;clear hk hp k kp;refine an ?_;refine ai ?_;refine ab [] ?_;obtain rfl := Option.some.inj hm;exact en
       ·rw [if_neg h13] at hm;refine aj rfl (bne_eq_false_iff_eq.2 (Decidable.not_not.1 h13)) ?_;refine ar ?_;refine am (hk4 _ _ ?_);refine aJ [1, 4, 6, 52, 60, 61, 62, 63, 64, 65, 66, 67, 68, 69] fun k kp hk hp => ?_;refine go ?_;obtain ⟨y10, hc15, hm⟩ := bd hm;refine RP (fun _ => pu p1 _ hc15) ?_;refine aa ?_;refine go ?_;obtain ⟨y11, hc16, hm⟩ := bd hm;refine RP (fun _ => rL y4.1 y10 _ hc16) ?_
        by_cases h17 : y11 = true
        ·rw [if_pos h17] at hm;have h17b := h17;refine aa ?_;refine gox h17b ?_;obtain ⟨y12, hc18, hm⟩ := bd hm;refine RP (fun _ => ut p1 _ hc18) ?_;refine aa ?_;refine gox h17b ?_;refine hk _ _ ?_;clear hk hp k kp;refine an ?_;refine ab [] ?_;obtain rfl := Option.some.inj hm;exact en
        ·rw [if_neg h17] at hm;have h17b := Bool.eq_false_iff.2 h17;refine aa ?_;refine gox h17b ?_;refine hk _ _ ?_;clear hk hp k kp;refine an ?_;refine ab [] ?_;obtain rfl := Option.some.inj hm;exact en
      ·rw [if_neg h12] at hm;refine ah rfl (by rw [show y9 = false from (Bool.eq_false_iff.2 h12)]; rfl) ?_;refine ao [1, 4, 6, 8, 49] ?_;refine an ?_;refine ai ?_;refine ab [] ?_;obtain rfl := Option.some.inj hm;exact en
     ·rw [if_neg h10] at hm;have h10b : ((((y5.2).code) == x7) && (((y5.2).at_) == x8)) = false := Bool.eq_false_iff.2 (fun hh => h10 (by simpa [Bool.and_eq_true] using hh))
      have h10c : (!((((y5.2).code) == x7) && (((y5.2).at_) == x8))) = true := by rw [h10b]; rfl
      refine aa ?_;refine gox (a2 h9b (a2 h9c (a2 h10b h10c))) ?_;refine hk _ _ ?_;clear hk hp k kp;refine ah rfl rfl ?_;refine ao [1, 4, 6, 8, 49] ?_;refine an ?_;refine ai ?_;refine ab [] ?_;obtain rfl := Option.some.inj hm;exact en
    ·rw [if_neg h9] at hm;have h9b : ((((y4.2).code) == x7) && (((y4.2).at_) == x8)) = false := Bool.eq_false_iff.2 (fun hh => h9 (by simpa [Bool.and_eq_true] using hh))
     have h9c : (!((((y4.2).code) == x7) && (((y4.2).at_) == x8))) = true := by rw [h9b]; rfl
     refine aa ?_;refine gox (a2 h9b h9c) ?_;refine hk _ _ ?_;clear hk hp k kp;refine ah rfl rfl ?_;refine ao [1, 4, 6, 8, 49] ?_;refine an ?_;refine ai ?_;refine ab [] ?_;obtain rfl := Option.some.inj hm;exact en
 ·rw [if_neg h2] at hm;refine ah rfl (by rw [show y1 = false from (Bool.eq_false_iff.2 h2)]; rfl) ?_;refine ao [1, 10] ?_;refine an ?_;refine ai ?_;refine ab [] ?_;obtain rfl := Option.some.inj hm;exact en
end Pam
