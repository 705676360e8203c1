/- the walk of slices_Values_api_Size_api_Term, printed by a program of ours -/
import Derived.Test.YtphpneddmkickaaHBase3
import Derived.Test.YtphpneddmkickaaHBase2
import Derived.Test.YtphpneddmkickaaHabcFun1
import Derived.Test.YtphpneddmkickaaHabcColl1
set_option linter.all false
set_option maxRecDepth 100000
set_option maxHeartbeats 8000000
namespace Pam
open Go Go.Proofs
theorem gq (p1 : List aa) (r : (List aa)) (hm : cz p1 = some r) : gD Try.prog 19 [.c (.tree 2 (p1.map aa.enc))] [] (fun p σ => (p = .c (.fn 31 [.optr 0 0]) ∧ σ = [.box [.tree 2 (r.map aa.enc)]])) (fun _ _ => False) := by
 refine bq 4 [.tmp 2] Try.func19 rfl rfl rfl (by kernel_rfl) (by simp) ?_;refine cU ?_;unfold cz at hm;refine am [0, 2] ?_;refine am [1, 3] ?_;refine az ?_;refine gY [.box [.tree 2 (p1.map aa.enc)]] ?_;obtain rfl := sI hm;exact enF
theorem iL (p1 : List aa) (r : Unit) (hm : dh p1 = some r) : gD Try.prog 29 [.c (.fn 31 [.optr 0 0])] [.box [.tree 2 (p1.map aa.enc)]] (fun p σ => (p = .c (.osl 1 0 0 p1.length) ∧ σ = [.box [.tree 2 (p1.map aa.enc)], .arr 2 0 39 (p1.map aa.enc)])) (fun _ _ => False) := by
 unfold dh at hm
 split at hm
 ·rename_i h
  exact collect_spec p1 h
 ·cases hm
theorem ir (p1 : List UInt8) (r : Bool) (hm : et p1 = some r) : cZ Try.prog 32 [.c (.str p1)] (.c (.bool r)) := by
 refine bq 6 [.tmp 2] Try.func32 rfl rfl rfl (by kernel_rfl) (by simp) ?_;refine cU ?_;unfold et at hm;refine am [2] ?_;refine am [0, 3, 4, 5] ?_;refine az ?_
 cases hm
 exact kr 0
theorem jL (p1 : List UInt8) (p2 : List UInt8) (r : Int) (hm : eV p1 p2 = some r) : cZ Try.prog 21 [.c (.str p1), .c (.str p2)] (.c (.int .i64 r)) := by
 refine bq 20 [.tmp 4] Try.func21 rfl rfl rfl (by kernel_rfl) (by simp) ?_;refine cU ?_;unfold eV at hm;refine am [4] ?_;refine bm [7, 8] fun k kp hk hp => ?_;refine go ?_;obtain ⟨y1, hc1, hm⟩ := bd hm;refine RP (fun _ => ir p1 _ hc1) ?_;refine ae ?_;refine go ?_;refine hk _ _ ?_;clear hk hp k kp;refine bm [9, 10] fun k kp hk hp => ?_;refine go ?_;obtain ⟨y2, hc2, hm⟩ := bd hm;refine RP (fun _ => ir p2 _ hc2) ?_;refine ae ?_;refine go ?_;refine hk _ _ ?_;clear hk hp k kp;refine ak fun k1 hk1 => ?_;refine am [5] ?_
 by_cases h3 : y1 = true
 ·rw [iP h3] at hm;refine af rfl (h3) ?_;refine ak fun k2 hk2 => ?_;refine am [0, 1, 6, 11] ?_
  by_cases h4 : y2 = true
  ·rw [iP h4] at hm;refine af rfl (h4) ?_;refine am [12] ?_;refine az ?_;refine ao (ao ?_)
   cases hm
   exact kr 0
  ·rw [iN h4] at hm;refine ai rfl (fB h4) ?_;refine ap ?_;refine ah (hk2 _ _ ?_);refine am [12] ?_;refine az ?_;refine ao ?_
   cases hm
   exact kr 0
 ·rw [iN h3] at hm;refine ai rfl (fB h3) ?_;refine ap ?_;refine ah (hk1 _ _ ?_);refine ak fun k3 hk3 => ?_;refine am [6, 11] ?_
  by_cases h5 : y2 = true
  ·rw [iP h5] at hm;refine af rfl (h5) ?_;refine am [0, 1, 13] ?_;refine az ?_;refine ao ?_
   cases hm
   exact kr 0
  ·rw [iN h5] at hm;refine ai rfl (fB h5) ?_;refine ap ?_;refine ah (hk3 _ _ ?_);refine ak fun k4 hk4 => ?_;refine am [13, 14, 15] ?_
   by_cases h6 : (Op.bytesLess p1 p2) = true
   ·rw [iP h6] at hm;refine af rfl (h6) ?_;refine am [0, 1, 16] ?_;refine az ?_;refine ao ?_
    cases hm
    exact kr 0
   ·rw [iN h6] at hm;refine ai rfl (fB h6) ?_;refine ap ?_;refine ah (hk4 _ _ ?_);refine ak fun k5 hk5 => ?_;refine am [0, 1, 16, 17, 18] ?_
    by_cases h7 : (Op.bytesLess p1 p2 || p1 == p2) = true
    ·rw [iP h7] at hm
     refine ai rfl (by rw [show (Op.bytesLess p1 p2 || p1 == p2) = true from (h7)]; rfl) ?_
     refine ap ?_;refine ah (hk5 _ _ ?_);refine am [19] ?_;refine az ?_
     cases hm
     exact kr 0
    ·rw [iN h7] at hm
     refine af rfl (by rw [show (Op.bytesLess p1 p2 || p1 == p2) = false from (fB h7)]; rfl) ?_
     refine am [19] ?_;refine az ?_;refine ao ?_
     cases hm
     exact kr 0
theorem gm (p1 : aa) (p2 : aa) (r : Int) (hm : dV p1 p2 = some r) : cZ Try.prog 20 [.a [.int .i64 p1.n, .str p1.name], .a [.int .i64 p2.n, .str p2.name]] (.c (.int .i64 r)) := by
 refine bq 10 [.tmp 4] Try.func20 rfl rfl rfl (by kernel_rfl) (by simp) ?_;refine cU ?_;unfold dV at hm;refine am [0, 1, 4] ?_;refine bm [2, 3, 5, 6, 7, 8, 9] fun k kp hk hp => ?_;refine go ?_;obtain ⟨y1, hc1, hm⟩ := bd hm;refine RP (fun _ => jL p1.name p2.name _ hc1) ?_;refine ae ?_;refine go ?_;refine hk _ _ ?_;clear hk hp k kp;refine az ?_
 cases hm
 exact kr 0
theorem cV (p1 : Nat) (p2 : Int) (p3 : Int) (p4 : List aa) (v0_ : Nat) (r : (List aa)) (hm : bj p1 p2 p3 p4 = some r) : gD Try.prog 36 [.c (.osl 0 v0_ 0 p1), .c (.int .i64 p2), .c (.int .i64 p3), .c (.fn 20 [])] [.arr 2 v0_ 39 (p4.map aa.enc)] (fun p σ => (p = .t [] ∧ σ = [.arr 2 v0_ 39 (r.map aa.enc)])) (fun _ _ => False) := by
 refine bq 53 [] Try.func36 rfl rfl rfl (by kernel_rfl) (by simp) ?_;refine cU ?_;unfold bj at hm;refine am [10, 11] ?_;refine aq ?_;obtain ⟨o1, hl1, hm1⟩ := bd hm;refine bn (S := ((List aa) × Int)) (V := Unit) (O := (List aa)) [0, 8, 9, 12, 13, 14, 15, 16, 17, 18, 19, 20, 21, 22, 23, 24, 25, 26, 27, 28, 29, 30, 31, 32, 33, 34, 35, 36, 37, 38, 39, 40, 41, 42, 43, 44, 45, 46, 47, 48, 49, 50, 51, 52] (fun (l8, x9) _ => [(0, .c (.osl 0 v0_ 0 p1)), (8, .c (.int .i64 x9))]) (fun (l8, x9) _ => [.arr 2 v0_ 39 (l8.map aa.enc)]) _ _ () hl1 ?_ ?_
 ·exact ls
 ·rintro ⟨l8, x9⟩ _ r1 hm hr1;replace hm : an p1 p2 p3 l8 x9 = some r1 := hm;refine aU ?_;unfold an at hm;refine ak fun k1 hk1 => ?_;refine am [12, 13] ?_
  by_cases h1 : x9 < p3
  ·rw [iP h1] at hm;refine af rfl (dT h1) ?_;refine ap ?_;refine ah (hk1 _ _ ?_);refine a9 (S := (List aa)) (V := Unit) [0, 9, 14, 17, 18, 19, 20, 21, 22, 23, 24, 25, 26, 27, 28, 29, 30, 31, 32, 33, 34, 35, 36, 37, 38, 39, 40, 41, 42, 43, 44, 45, 46, 47, 48, 49, 50, 51, 52] (fun l11 _ => [(0, .c (.osl 0 v0_ 0 p1))]) (fun l11 _ => [.arr 2 v0_ 39 (l11.map aa.enc)]) (fun l11 => aT x9 l11 = some r1) ?_ ?_
   ·skip;refine aq ?_
    refine am [14, 17] ?_;refine aq ?_;obtain ⟨o2, hl2, hm2⟩ := bd hm;refine bn (S := ((List aa) × Int)) (V := Unit) (O := (List aa)) [0, 9, 18, 19, 20, 21, 22, 23, 24, 25, 26, 27, 28, 29, 30, 31, 32, 33, 34, 35, 36, 37, 38, 39, 40, 41, 42, 43, 44, 45, 46, 47, 48, 49, 50, 51, 52] (fun (l19, x20) _ => [(0, .c (.osl 0 v0_ 0 p1)), (9, .c (.int .i64 x20))]) (fun (l19, x20) _ => [.arr 2 v0_ 39 (l19.map aa.enc)]) _ _ () hl2 ?_ ?_
    ·exact ls
    ·rintro ⟨l19, x20⟩ _ r2 hm hr2;replace hm : ay p1 p2 l19 x20 = some r2 := hm;refine aU ?_;unfold ay at hm;refine ak fun k2 hk2 => ?_;refine lg [18, 19, 20, 21, 22, 23, 24, 25, 26, 27, 28, 29, 30, 31, 32, 33] (by kernel_rfl) [0, 0, 3, 7, 15, 15, 15, 111, 239, 15, 15, 1039, 3599, 7695, 16383, 32767, 65535] [false, false, true, true, false, false, false, false, false, false, false, false, false, false, true, true, true] (by kernel_rfl) fun k hk => ?_;refine pC 4 rfl ?_;refine ga ?_
     by_cases h2 : x20 > p2
     ·rw [iP h2] at hm;have h2b := dT h2;obtain ⟨⟨hg3a, hg3b, hg3c, hg3d⟩, hm⟩ := gd hm;refine i9 ?_;refine gax (a2 (em aa.enc l19 x20.toNat) (a2 (em aa.enc l19 ((IntKind.wrap .i64 (x20 - 1)).toNat)) h2b)) ?_;obtain ⟨y21, hc4, hm⟩ := bd hm;refine pat (fun _ => gm (l19.getD x20.toNat default) (l19.getD ((IntKind.wrap .i64 (x20 - 1)).toNat) default) _ hc4) ?_;refine i9 ?_;refine gax h2b ?_;refine hk _ _ ?_;clear hk k
      by_cases h5 : y21 < 0
      ·rw [iP h5] at hm;refine af rfl (dT h5) ?_;refine ap ?_;refine ah (hk2 _ _ ?_);refine ak fun k3 hk3 => ?_;refine aq ?_;refine mj (by kernel_rfl) [0] [0, 0, 0, 0, 8, 0, 0, 64, 224, 480, 0, 0, 3072, 7168, 16355, 32739, 65535, 131071] [false, false, false, false, false, false, false, false, false, false, false, false, false, false, false, false, true, true] [false, false, false, false, false, false, false, false, false, false, false, false, false, false, false, true, false, false] [[], [], [0], [9], [40], [], [], [], [], [], [], [], [], [], [], [], [], []] [false, false, true, false, false, false, false, false, false, false, false, false, false, false, false, false, false, false] (by kernel_rfl) fun k hk => ?_;refine mh 2 rfl rfl rfl rfl rfl ?_;refine gp ?_
       refine mi (kb rfl (by first | rfl | (simp only [bR, bT, tab, bX, reduceIte, ↓reduceIte, reduceCtorEq, Int.reduceToNat, Nat.reduceDiv, Nat.reduceMod, Nat.reduceLT, Nat.reduceLeDiff, Nat.reduceAdd, Nat.reduceSub, Nat.reduceMul, Nat.reduceEqDiff, Nat.reduceBEq, Nat.reduceBNe, Nat.reduceGT]; done))) (by first | rfl | (simp only [bA, bT, tab, bX, reduceIte, ↓reduceIte, reduceCtorEq, Int.reduceToNat, Nat.reduceDiv, Nat.reduceMod, Nat.reduceLT, Nat.reduceLeDiff, Nat.reduceAdd, Nat.reduceSub, Nat.reduceMul, Nat.reduceEqDiff, Nat.reduceBEq, Nat.reduceBNe, Nat.reduceGT]; done)) (by first | trivial | exact iH rfl) ?_
       refine gl ?_;refine lh rfl ?_;refine gpx (a2 (em aa.enc l19 ((IntKind.wrap .i64 (x20 - 1)).toNat)) (a2 (em aa.enc l19 x20.toNat) (a2 (em aa.enc (l19.set x20.toNat (l19.getD ((IntKind.wrap .i64 (x20 - 1)).toNat) default)) ((IntKind.wrap .i64 (x20 - 1)).toNat)) (sB aa.enc (fun _ => rfl))))) ?_;refine hk _ _ ?_;clear hk k;refine aA ?_;refine ah (hk3 _ _ ?_);refine cp ?_;refine aB (((l19.set x20.toNat (l19.getD ((IntKind.wrap .i64 (x20 - 1)).toNat) default)).set ((IntKind.wrap .i64 (x20 - 1)).toNat) (l19.getD x20.toNat default)), (IntKind.wrap .i64 (x20 - 1))) () hm ?_;exact ls
      ·rw [iN h5] at hm;refine ai rfl (dF h5) ?_;refine br ?_;have ho6 := av hm hr2;subst ho6;replace hm : aT x9 l19 = some r1 := hm2;refine a8 (aY (ar (aA ?_)));refine au l19 () hm ?_;exact ls
     ·rw [iN h2] at hm;have h2b := dF h2;refine i9 ?_;refine gax h2b ?_;refine hk _ _ ?_;clear hk k;refine ai rfl rfl ?_;refine br ?_;have ho7 := av hm hr2;subst ho7;replace hm : aT x9 l19 = some r1 := hm2;refine a8 (aY (ar (aA ?_)));refine au l19 () hm ?_;exact ls
   ·rintro l11 _ hm;replace hm : aT x9 l11 = some r1 := hm;refine aU ?_;unfold aT at hm;refine cp ?_;refine aB (l11, (IntKind.wrap .i64 (x9 + 1))) () hm ?_;exact ls
  ·rw [iN h1] at hm;refine ai rfl (dF h1) ?_;refine br ?_;have ho8 := av hm hr1;subst ho8;replace hm : some l8 = some r := hm1;refine a8 (aY (ar ?_));refine iz [.arr 2 v0_ 39 (l8.map aa.enc)] ?_;obtain rfl := sI hm;simp only [bF, bT, tab, bX, Sum.elim_inl, Sum.elim_inr, reduceIte, ↓reduceIte, reduceCtorEq, Int.reduceToNat, Nat.reduceDiv, Nat.reduceMod, Nat.reduceLT, Nat.reduceLeDiff, Nat.reduceAdd, Nat.reduceSub, Nat.reduceMul, Nat.reduceEqDiff, Nat.reduceBEq, Nat.reduceBNe, Nat.reduceGT]
   all_goals and_intros <;> first | rfl | omega | (simp; done) | (simp [lit, bX, eK, eB, eS, eL]; done)
theorem cK (p1 : Nat) (p2 : Int) (p3 : Int) (p4 : Int) (p5 : List aa) (v0_ : Nat) (r : (List aa)) (hm : bo p1 p2 p3 p4 p5 = some r) : gD Try.prog 39 [.c (.osl 0 v0_ 0 p1), .c (.int .i64 p2), .c (.int .i64 p3), .c (.int .i64 p4), .c (.fn 20 [])] [.arr 2 v0_ 39 (p5.map aa.enc)] (fun p σ => (p = .t [] ∧ σ = [.arr 2 v0_ 39 (r.map aa.enc)])) (fun _ _ => False) := by
 refine bq 38 [] Try.func39 rfl rfl rfl (by kernel_rfl) (by simp) ?_;refine cU ?_;unfold bo at hm;refine am [4] ?_;refine aq ?_;obtain ⟨o1, hl1, hm1⟩ := bd hm;refine bn (S := ((List aa) × Int)) (V := Unit) (O := (List aa)) [0, 10, 11, 12, 13, 14, 15, 16, 17, 18, 19, 20, 21, 22, 23, 24, 25, 26, 27, 28, 29, 30, 31, 32, 33, 34, 35, 36, 37] (fun (l8, x9) _ => [(0, .c (.osl 0 v0_ 0 p1)), (10, .c (.int .i64 x9))]) (fun (l8, x9) _ => [.arr 2 v0_ 39 (l8.map aa.enc)]) _ _ () hl1 ?_ ?_
 ·exact ls
 ·rintro ⟨l8, x9⟩ _ r1 hm hr1;replace hm : aJ p1 p2 p3 p4 l8 x9 = some r1 := hm;refine aU ?_;unfold aJ at hm;refine ak fun k1 hk1 => ?_;refine am [11, 12] ?_
  by_cases h1 : x9 < p4
  ·rw [iP h1] at hm;refine af rfl (dT h1) ?_;refine ap ?_;refine ah (hk1 _ _ ?_);refine ak fun k2 hk2 => ?_;refine aq ?_;refine mj (by kernel_rfl) [0] [0, 0, 0, 6, 0, 0, 0, 96, 0, 0, 0, 1536, 3840, 7936, 0, 0, 0, 98304, 245760, 507904, 1048335, 2096911, 4194303, 8388607] [false, false, false, false, false, false, false, false, false, false, false, false, false, false, false, false, false, false, false, false, false, false, true, true] [false, false, false, false, false, false, false, false, false, false, false, false, false, false, false, false, false, false, false, false, false, true, false, false] [[], [], [], [], [0], [2], [10], [21, 22], [], [], [], [], [], [], [], [], [], [], [], [], [], [], [], []] [false, false, false, false, true, false, false, false, false, false, false, false, false, false, false, false, false, false, false, false, false, false, false, false] (by kernel_rfl) fun k hk => ?_;refine mh 4 rfl rfl rfl rfl rfl ?_;refine gp ?_
   refine mi (kb rfl (by first | rfl | (simp only [bR, bT, tab, bX, reduceIte, ↓reduceIte, reduceCtorEq, Int.reduceToNat, Nat.reduceDiv, Nat.reduceMod, Nat.reduceLT, Nat.reduceLeDiff, Nat.reduceAdd, Nat.reduceSub, Nat.reduceMul, Nat.reduceEqDiff, Nat.reduceBEq, Nat.reduceBNe, Nat.reduceGT]; done))) (by first | rfl | (simp only [bA, bT, tab, bX, reduceIte, ↓reduceIte, reduceCtorEq, Int.reduceToNat, Nat.reduceDiv, Nat.reduceMod, Nat.reduceLT, Nat.reduceLeDiff, Nat.reduceAdd, Nat.reduceSub, Nat.reduceMul, Nat.reduceEqDiff, Nat.reduceBEq, Nat.reduceBNe, Nat.reduceGT]; done)) (by first | trivial | exact iH rfl) ?_
   refine gl ?_;obtain ⟨⟨hg2a, hg2b, hg2c, hg2d⟩, hm⟩ := gd hm;refine lh rfl ?_;refine gpx (a2 (em aa.enc l8 ((IntKind.wrap .i64 (p3 + x9)).toNat)) (a2 (em aa.enc l8 ((IntKind.wrap .i64 (p2 + x9)).toNat)) (a2 (em aa.enc (l8.set ((IntKind.wrap .i64 (p2 + x9)).toNat) (l8.getD ((IntKind.wrap .i64 (p3 + x9)).toNat) default)) ((IntKind.wrap .i64 (p3 + x9)).toNat)) (sB aa.enc (fun _ => rfl))))) ?_;refine hk _ _ ?_;clear hk k;refine aA ?_;refine ah (hk2 _ _ ?_);refine cp ?_;refine aB (((l8.set ((IntKind.wrap .i64 (p2 + x9)).toNat) (l8.getD ((IntKind.wrap .i64 (p3 + x9)).toNat) default)).set ((IntKind.wrap .i64 (p3 + x9)).toNat) (l8.getD ((IntKind.wrap .i64 (p2 + x9)).toNat) default)), (IntKind.wrap .i64 (x9 + 1))) () hm ?_;exact ls
  ·rw [iN h1] at hm;refine ai rfl (dF h1) ?_;refine br ?_;have ho3 := av hm hr1;subst ho3;replace hm : some l8 = some r := hm1;refine a8 (aY (ar ?_));refine iz [.arr 2 v0_ 39 (l8.map aa.enc)] ?_;obtain rfl := sI hm;simp only [bF, bT, tab, bX, Sum.elim_inl, Sum.elim_inr, reduceIte, ↓reduceIte, reduceCtorEq, Int.reduceToNat, Nat.reduceDiv, Nat.reduceMod, Nat.reduceLT, Nat.reduceLeDiff, Nat.reduceAdd, Nat.reduceSub, Nat.reduceMul, Nat.reduceEqDiff, Nat.reduceBEq, Nat.reduceBNe, Nat.reduceGT]
   all_goals and_intros <;> first | rfl | omega | (simp; done) | (simp [lit, bX, eK, eB, eS, eL]; done)
theorem gO (p1 : Nat) (p2 : Int) (p3 : Int) (p4 : Int) (p5 : List aa) (v0_ : Nat) (r : (List aa)) (hm : cg p1 p2 p3 p4 p5 = some r) : gD Try.prog 38 [.c (.osl 0 v0_ 0 p1), .c (.int .i64 p2), .c (.int .i64 p3), .c (.int .i64 p4), .c (.fn 20 [])] [.arr 2 v0_ 39 (p5.map aa.enc)] (fun p σ => (p = .t [] ∧ σ = [.arr 2 v0_ 39 (r.map aa.enc)])) (fun _ _ => False) := by
 refine bq 58 [] Try.func38 rfl rfl rfl (by kernel_rfl) (by simp) ?_;refine cU ?_;unfold cg at hm;refine am [1, 12, 13, 14] ?_;refine am [3, 15, 16, 17] ?_;refine a9 (S := ((List aa) × Int)) (V := Unit) [0, 10, 11, 18, 19, 20, 21, 22, 23, 24, 25, 26, 27, 28, 29, 30, 31, 32, 33, 34, 35, 36, 37, 38, 39, 40, 41, 42, 43, 44, 45, 46, 47, 48, 49] (fun (l2, x3) _ => [(0, .c (.osl 0 v0_ 0 p1)), (10, .c (.int .i64 x3))]) (fun (l2, x3) _ => [.arr 2 v0_ 39 (l2.map aa.enc)]) (fun (l2, x3) => bp p1 p3 l2 x3 = some r) ?_ ?_
 ·skip;refine aq ?_
  obtain ⟨o1, hl1, hm1⟩ := bd hm;refine bn (S := ((List aa) × Int × Int)) (V := Unit) (O := ((List aa) × Int)) [0, 10, 11, 18, 19, 20, 21, 22, 23, 24, 25, 26, 27, 28, 29, 30, 31, 32, 33, 34, 35, 36, 37, 38, 39, 40, 41, 42, 43, 44, 45, 46, 47, 48, 49] (fun (l14, x15, x16) _ => [(0, .c (.osl 0 v0_ 0 p1)), (10, .c (.int .i64 x15)), (11, .c (.int .i64 x16))]) (fun (l14, x15, x16) _ => [.arr 2 v0_ 39 (l14.map aa.enc)]) _ _ () hl1 ?_ ?_
  ·exact ls
  ·rintro ⟨l14, x15, x16⟩ _ r1 hm hr1;replace hm : aD p1 p3 l14 x15 x16 = some r1 := hm;refine aU ?_;unfold aD at hm;refine ak fun k1 hk1 => ?_;refine am [18, 19] ?_
   by_cases h3 : ¬ x15 = x16
   ·rw [iP h3] at hm;refine af rfl (bne_iff_ne.2 h3) ?_;refine ap ?_;refine ah (hk1 _ _ ?_);refine aq ?_;refine am [20, 21, 22] ?_
    by_cases h4 : x15 > x16
    ·rw [iP h4] at hm;refine af rfl (dT h4) ?_;refine bm [23, 24, 25, 26, 27, 28, 29, 30, 31] fun k kp hk hp => ?_;refine go ?_;obtain ⟨y17, hc5, hm⟩ := bd hm;refine RA (cK p1 (IntKind.wrap .i64 (p3 - x15)) p3 x16 l14 v0_ _ hc5) [0] ?_;rintro p σ' ⟨rfl, rfl⟩ _;refine ae ?_;refine go ?_;refine hk _ _ ?_;clear hk hp k kp;refine cp ?_;refine aA ?_;refine aB (y17, (IntKind.wrap .i64 (x15 - x16)), x16) () hm ?_;exact ls
    ·rw [iN h4] at hm;refine ai rfl (dF h4) ?_;refine bm [23, 35, 36, 37, 38, 39, 40, 41, 42, 43, 44, 45, 46] fun k kp hk hp => ?_;refine go ?_;obtain ⟨y18, hc7, hm⟩ := bd hm;refine RA (cK p1 (IntKind.wrap .i64 (p3 - x15)) (IntKind.wrap .i64 ((IntKind.wrap .i64 (p3 + x16)) - x15)) x15 l14 v0_ _ hc7) [0] ?_;rintro p σ' ⟨rfl, rfl⟩ _;refine ae ?_;refine go ?_;refine hk _ _ ?_;clear hk hp k kp;refine cp ?_;refine aA ?_;refine aB (y18, x15, (IntKind.wrap .i64 (x16 - x15))) () hm ?_;exact ls
   ·rw [iN h3] at hm;refine ai rfl (bne_eq_false_iff_eq.2 (Decidable.not_not.1 h3)) ?_;refine br ?_;have ho9 := av hm hr1;subst ho9;replace hm : bp p1 p3 l14 x15 = some r := hm1;refine a8 (aY (ar ?_));refine au (l14, x15) () hm ?_;exact ls
 ·rintro ⟨l2, x3⟩ _ hm;replace hm : bp p1 p3 l2 x3 = some r := hm;refine aU ?_;unfold bp at hm;refine fA fun k kp hk hp => ?_;refine go ?_;obtain ⟨y4, hc1, hm⟩ := bd hm;refine RA (cK p1 (IntKind.wrap .i64 (p3 - x3)) p3 x3 l2 v0_ _ hc1) [0] ?_;rintro p σ' ⟨rfl, rfl⟩ _;refine ae ?_;refine go ?_;refine hk _ _ ?_;clear hk hp k kp
  cases hm
  exact kn 1
theorem f9 (rcf : Nat → Int → Int → Int → (List aa) → Option (List aa)) (hrec : ∀ (p1 : Nat) (p2 : Int) (p3 : Int) (p4 : Int) (p5 : List aa) (v0_ : Nat) (r : (List aa)), rcf p1 p2 p3 p4 p5 = some r → gD Try.prog 37 [.c (.osl 0 v0_ 0 p1), .c (.int .i64 p2), .c (.int .i64 p3), .c (.int .i64 p4), .c (.fn 20 [])] [.arr 2 v0_ 39 (p5.map aa.enc)] (fun p σ => (p = .t [] ∧ σ = [.arr 2 v0_ 39 (r.map aa.enc)])) (fun _ _ => False)) (p1 : Nat) (p2 : Int) (p3 : Int) (p4 : Int) (p5 : List aa) (v0_ : Nat) (r : (List aa)) (hm : bP rcf p1 p2 p3 p4 p5 = some r) : gD Try.prog 37 [.c (.osl 0 v0_ 0 p1), .c (.int .i64 p2), .c (.int .i64 p3), .c (.int .i64 p4), .c (.fn 20 [])] [.arr 2 v0_ 39 (p5.map aa.enc)] (fun p σ => (p = .t [] ∧ σ = [.arr 2 v0_ 39 (r.map aa.enc)])) (fun _ _ => False) := by
 refine bq 220 [] Try.func37 rfl rfl rfl (by kernel_rfl) (by simp) ?_;refine cU ?_;unfold bP at hm;refine a9 (S := Unit) (V := Unit) [0, 10, 11, 12, 13, 25, 26, 27, 28, 29, 30, 31, 32, 33, 34, 35, 36, 37, 38, 39, 40, 41, 42, 43, 44, 45, 46, 47, 48, 49, 50, 51, 52, 53, 54, 55, 56, 57, 58, 59, 60, 61, 62, 63, 64, 65, 66, 67, 68, 69, 70, 71, 72, 73, 74, 75, 76] (fun _ _ => [(0, .c (.osl 0 v0_ 0 p1))]) (fun _ _ => [.arr 2 v0_ 39 (p5.map aa.enc)]) (fun _ => bK rcf p1 p2 p3 p4 p5 = some r) ?_ ?_
 ·skip;refine am [25, 26, 27] ?_
  by_cases h28 : (IntKind.wrap .i64 (p3 - p2)) = 1
  ·rw [iP h28] at hm;refine af rfl (eQ h28) ?_;refine am [2, 28, 29] ?_;refine am [3, 30] ?_;refine a9 (S := Int) (V := Unit) [0, 4, 10, 11, 12, 31, 32, 33, 34, 35, 36, 37, 38, 39, 40, 41, 42, 43, 44, 45, 46, 47, 48, 49, 50, 51, 52, 53] (fun x40 _ => [(0, .c (.osl 0 v0_ 0 p1)), (10, .c (.int .i64 x40))]) (fun x40 _ => [.arr 2 v0_ 39 (p5.map aa.enc)]) (fun x40 => bi p1 p2 p5 x40 = some r) ?_ ?_
   ·skip;refine aq ?_
    obtain ⟨o5, hl5, hm5⟩ := bd hm;refine bn (S := (Int × Int)) (V := Unit) (O := Int) [0, 10, 11, 12, 31, 32, 33, 34, 35, 36, 37, 38, 39, 40, 41, 42, 43, 44, 45, 46, 47, 48, 49, 50, 51, 52, 53] (fun (x57, x58) _ => [(0, .c (.osl 0 v0_ 0 p1)), (10, .c (.int .i64 x57)), (11, .c (.int .i64 x58))]) (fun (x57, x58) _ => [.arr 2 v0_ 39 (p5.map aa.enc)]) _ _ () hl5 ?_ ?_
    ·exact ls
    ·rintro ⟨x57, x58⟩ _ r5 hm hr5;replace hm : aQ p1 p2 p5 x57 x58 = some r5 := hm;refine aU ?_;unfold aQ at hm;refine ak fun k7 hk7 => ?_;refine am [31, 32] ?_
     by_cases h32 : x57 < x58
     ·rw [iP h32] at hm;refine af rfl (dT h32) ?_;refine ap ?_;refine ah (hk7 _ _ ?_);refine aq ?_;refine am [33, 34, 35, 36, 37, 38, 39] ?_;obtain ⟨⟨hg33a, hg33b, hg33c, hg33d⟩, hm⟩ := gd hm;refine lC [40, 41, 42, 43, 44, 45, 46, 47, 48, 49] (by kernel_rfl) [0, 0, 0, 6, 14, 0, 0, 96, 224, 511, 1023] [false, false, false, false, false, false, false, false, false, true, true] (by kernel_rfl) fun k hk => ?_;refine gax (a2 (em aa.enc p5 ((IntKind.wrap .i64 ((IntKind.wrap .u64 (IntKind.wrap .i64 (x57 + x58))).fdiv (2 ^ (min 1 (IntKind.bits .u64))))).toNat)) (em aa.enc p5 p2.toNat)) ?_;obtain ⟨y59, hc34, hm⟩ := bd hm;refine AP (fun _ => gm (p5.getD ((IntKind.wrap .i64 ((IntKind.wrap .u64 (IntKind.wrap .i64 (x57 + x58))).fdiv (2 ^ (min 1 (IntKind.bits .u64))))).toNat) default) (p5.getD p2.toNat default) _ hc34) ?_;refine ga ?_;refine hk _ _ ?_;clear hk k
      by_cases h35 : y59 < 0
      ·rw [iP h35] at hm;refine af rfl (dT h35) ?_;refine cp ?_;refine aA ?_;refine aB ((IntKind.wrap .i64 ((IntKind.wrap .i64 ((IntKind.wrap .u64 (IntKind.wrap .i64 (x57 + x58))).fdiv (2 ^ (min 1 (IntKind.bits .u64))))) + 1)), x58) () hm ?_;exact ls
      ·rw [iN h35] at hm;refine ai rfl (dF h35) ?_;refine cp ?_;refine aA ?_;refine aB (x57, (IntKind.wrap .i64 ((IntKind.wrap .u64 (IntKind.wrap .i64 (x57 + x58))).fdiv (2 ^ (min 1 (IntKind.bits .u64)))))) () hm ?_;exact ls
     ·rw [iN h32] at hm;refine ai rfl (dF h32) ?_;refine br ?_;have ho36 := av hm hr5;subst ho36;replace hm : bi p1 p2 p5 x57 = some r := hm5;refine a8 (aY (ar ?_));refine au x57 () hm ?_;exact ls
   ·rintro x40 _ hm;replace hm : bi p1 p2 p5 x40 = some r := hm;refine aU ?_;unfold bi at hm;refine a9 (S := (List aa)) (V := Unit) [0, 1, 10, 13, 54, 55, 56, 57, 58, 59, 60, 61, 62, 63, 64, 65, 66, 67, 68, 69, 70, 71, 72, 73, 74, 75, 76] (fun l42 _ => []) (fun l42 _ => [.arr 2 v0_ 39 (l42.map aa.enc)]) (fun l42 => bG l42 = some r) ?_ ?_
    ·skip;refine am [1, 54] ?_
     refine aq ?_;obtain ⟨o4, hl4, hm4⟩ := bd hm;refine bn (S := ((List aa) × Int)) (V := Unit) (O := (List aa)) [0, 13, 55, 56, 57, 58, 59, 60, 61, 62, 63, 64, 65, 66, 67, 68, 69, 70, 71, 72, 73, 74, 75, 76] (fun (l50, x51) _ => [(0, .c (.osl 0 v0_ 0 p1)), (13, .c (.int .i64 x51))]) (fun (l50, x51) _ => [.arr 2 v0_ 39 (l50.map aa.enc)]) _ _ () hl4 ?_ ?_
     ·exact ls
     ·rintro ⟨l50, x51⟩ _ r4 hm hr4;replace hm : aP p1 x40 l50 x51 = some r4 := hm;refine aU ?_;unfold aP at hm;refine ak fun k5 hk5 => ?_;refine am [55, 56, 57] ?_
      by_cases h29 : x51 < (IntKind.wrap .i64 (x40 - 1))
      ·rw [iP h29] at hm;refine af rfl (dT h29) ?_;refine ap ?_;refine ah (hk5 _ _ ?_);refine ak fun k6 hk6 => ?_;refine aq ?_;refine mj (by kernel_rfl) [0] [0, 0, 0, 0, 8, 0, 0, 64, 224, 480, 0, 0, 3072, 7168, 16355, 32739, 65535, 131071] [false, false, false, false, false, false, false, false, false, false, false, false, false, false, false, false, true, true] [false, false, false, false, false, false, false, false, false, false, false, false, false, false, false, true, false, false] [[], [], [0], [13], [64], [], [], [], [], [], [], [], [], [], [], [], [], []] [false, false, true, false, false, false, false, false, false, false, false, false, false, false, false, false, false, false] (by kernel_rfl) fun k hk => ?_;refine mh 2 rfl rfl rfl rfl rfl ?_;refine gp ?_
       refine mi (kb rfl (by first | rfl | (simp only [bR, bT, tab, bX, reduceIte, ↓reduceIte, reduceCtorEq, Int.reduceToNat, Nat.reduceDiv, Nat.reduceMod, Nat.reduceLT, Nat.reduceLeDiff, Nat.reduceAdd, Nat.reduceSub, Nat.reduceMul, Nat.reduceEqDiff, Nat.reduceBEq, Nat.reduceBNe, Nat.reduceGT]; done))) (by first | rfl | (simp only [bA, bT, tab, bX, reduceIte, ↓reduceIte, reduceCtorEq, Int.reduceToNat, Nat.reduceDiv, Nat.reduceMod, Nat.reduceLT, Nat.reduceLeDiff, Nat.reduceAdd, Nat.reduceSub, Nat.reduceMul, Nat.reduceEqDiff, Nat.reduceBEq, Nat.reduceBNe, Nat.reduceGT]; done)) (by first | trivial | exact iH rfl) ?_
       refine gl ?_;obtain ⟨⟨hg30a, hg30b, hg30c, hg30d⟩, hm⟩ := gd hm;refine lh rfl ?_;refine gpx (a2 (em aa.enc l50 ((IntKind.wrap .i64 (x51 + 1)).toNat)) (a2 (em aa.enc l50 x51.toNat) (a2 (em aa.enc (l50.set x51.toNat (l50.getD ((IntKind.wrap .i64 (x51 + 1)).toNat) default)) ((IntKind.wrap .i64 (x51 + 1)).toNat)) (sB aa.enc (fun _ => rfl))))) ?_;refine hk _ _ ?_;clear hk k;refine aA ?_;refine ah (hk6 _ _ ?_);refine cp ?_;refine aB (((l50.set x51.toNat (l50.getD ((IntKind.wrap .i64 (x51 + 1)).toNat) default)).set ((IntKind.wrap .i64 (x51 + 1)).toNat) (l50.getD x51.toNat default)), (IntKind.wrap .i64 (x51 + 1))) () hm ?_;exact ls
      ·rw [iN h29] at hm;refine ai rfl (dF h29) ?_;refine br ?_;have ho31 := av hm hr4;subst ho31;replace hm : bG l50 = some r := hm4;refine a8 (aY (ar ?_));refine au l50 () hm ?_;exact ls
    ·rintro l42 _ hm;replace hm : bG l42 = some r := hm;refine aU ?_;unfold bG at hm;refine az ?_;refine aC ?_;refine gY [.arr 2 v0_ 39 (l42.map aa.enc)] ?_;obtain rfl := sI hm;simp only [bF, bT, tab, bX, Sum.elim_inl, Sum.elim_inr, reduceIte, ↓reduceIte, reduceCtorEq, Int.reduceToNat, Nat.reduceDiv, Nat.reduceMod, Nat.reduceLT, Nat.reduceLeDiff, Nat.reduceAdd, Nat.reduceSub, Nat.reduceMul, Nat.reduceEqDiff, Nat.reduceBEq, Nat.reduceBNe, Nat.reduceGT]
     all_goals and_intros <;> first | rfl | omega | (simp; done) | (simp [lit, bX, eK, eB, eS, eL]; done)
  ·rw [iN h28] at hm;refine ai rfl (nB h28) ?_;refine ap ?_;refine au () () hm ?_;exact ls
 ·rintro _ _ hm;replace hm : bK rcf p1 p2 p3 p4 p5 = some r := hm;refine aU ?_;unfold bK at hm;refine a9 (S := Unit) (V := Unit) [0, 14, 15, 16, 17, 77, 78, 79, 80, 81, 82, 83, 84, 85, 86, 87, 88, 89, 90, 91, 92, 93, 94, 95, 96, 97, 98, 99, 100, 101, 102, 103, 104, 105, 106, 107, 108, 109, 110, 111, 112, 113, 114, 115, 116, 117, 118, 119, 120, 121, 122, 123, 124, 125, 126, 127, 128] (fun _ _ => [(0, .c (.osl 0 v0_ 0 p1))]) (fun _ _ => [.arr 2 v0_ 39 (p5.map aa.enc)]) (fun _ => bI rcf p1 p2 p3 p4 p5 = some r) ?_ ?_
  ·skip;refine am [77, 78, 79] ?_
   by_cases h19 : (IntKind.wrap .i64 (p4 - p3)) = 1
   ·rw [iP h19] at hm;refine af rfl (eQ h19) ?_;refine am [1, 3, 80, 81] ?_;refine am [82] ?_;refine a9 (S := Int) (V := Unit) [0, 4, 14, 15, 16, 83, 84, 85, 86, 87, 88, 89, 90, 91, 92, 93, 94, 95, 96, 97, 98, 99, 100, 101, 102, 103, 104, 105, 106] (fun x19 _ => [(0, .c (.osl 0 v0_ 0 p1)), (14, .c (.int .i64 x19))]) (fun x19 _ => [.arr 2 v0_ 39 (p5.map aa.enc)]) (fun x19 => bh p1 p3 p5 x19 = some r) ?_ ?_
    ·skip;refine aq ?_
     obtain ⟨o3, hl3, hm3⟩ := bd hm;refine bn (S := (Int × Int)) (V := Unit) (O := Int) [0, 14, 15, 16, 83, 84, 85, 86, 87, 88, 89, 90, 91, 92, 93, 94, 95, 96, 97, 98, 99, 100, 101, 102, 103, 104, 105, 106] (fun (x36, x37) _ => [(0, .c (.osl 0 v0_ 0 p1)), (14, .c (.int .i64 x36)), (15, .c (.int .i64 x37))]) (fun (x36, x37) _ => [.arr 2 v0_ 39 (p5.map aa.enc)]) _ _ () hl3 ?_ ?_
     ·exact ls
     ·rintro ⟨x36, x37⟩ _ r3 hm hr3;replace hm : aO p1 p3 p5 x36 x37 = some r3 := hm;refine aU ?_;unfold aO at hm;refine ak fun k4 hk4 => ?_;refine am [83, 84] ?_
      by_cases h23 : x36 < x37
      ·rw [iP h23] at hm;refine af rfl (dT h23) ?_;refine ap ?_;refine ah (hk4 _ _ ?_);refine aq ?_;refine am [85, 86, 87, 88, 89, 90, 91] ?_;obtain ⟨⟨hg24a, hg24b, hg24c, hg24d⟩, hm⟩ := gd hm;refine lC [92, 93, 94, 95, 96, 97, 98, 99, 100, 101, 102] (by kernel_rfl) [0, 0, 0, 6, 14, 0, 0, 96, 224, 511, 1023, 2047] [false, false, false, false, false, false, false, false, false, true, true, true] (by kernel_rfl) fun k hk => ?_;refine gax (a2 (em aa.enc p5 p3.toNat) (em aa.enc p5 ((IntKind.wrap .i64 ((IntKind.wrap .u64 (IntKind.wrap .i64 (x36 + x37))).fdiv (2 ^ (min 1 (IntKind.bits .u64))))).toNat))) ?_;obtain ⟨y38, hc25, hm⟩ := bd hm;refine AP (fun _ => gm (p5.getD p3.toNat default) (p5.getD ((IntKind.wrap .i64 ((IntKind.wrap .u64 (IntKind.wrap .i64 (x36 + x37))).fdiv (2 ^ (min 1 (IntKind.bits .u64))))).toNat) default) _ hc25) ?_;refine ga ?_;refine hk _ _ ?_;clear hk k
       by_cases h26 : y38 < 0
       ·rw [iP h26] at hm;refine ai rfl (by rw [show decide (y38 < 0) = true from (dT h26)]; rfl) ?_;refine cp ?_;refine aA ?_;refine aB (x36, (IntKind.wrap .i64 ((IntKind.wrap .u64 (IntKind.wrap .i64 (x36 + x37))).fdiv (2 ^ (min 1 (IntKind.bits .u64)))))) () hm ?_;exact ls
       ·rw [iN h26] at hm;refine af rfl (by rw [show decide (y38 < 0) = false from (dF h26)]; rfl) ?_;refine cp ?_;refine aA ?_;refine aB ((IntKind.wrap .i64 ((IntKind.wrap .i64 ((IntKind.wrap .u64 (IntKind.wrap .i64 (x36 + x37))).fdiv (2 ^ (min 1 (IntKind.bits .u64))))) + 1)), x37) () hm ?_;exact ls
      ·rw [iN h23] at hm;refine ai rfl (dF h23) ?_;refine br ?_;have ho27 := av hm hr3;subst ho27;replace hm : bh p1 p3 p5 x36 = some r := hm3;refine a8 (aY (ar ?_));refine au x36 () hm ?_;exact ls
    ·rintro x19 _ hm;replace hm : bh p1 p3 p5 x19 = some r := hm;refine aU ?_;unfold bh at hm;refine a9 (S := (List aa)) (V := Unit) [0, 2, 14, 17, 107, 108, 109, 110, 111, 112, 113, 114, 115, 116, 117, 118, 119, 120, 121, 122, 123, 124, 125, 126, 127, 128] (fun l21 _ => []) (fun l21 _ => [.arr 2 v0_ 39 (l21.map aa.enc)]) (fun l21 => bJ l21 = some r) ?_ ?_
     ·skip;refine am [2, 107] ?_
      refine aq ?_;obtain ⟨o2, hl2, hm2⟩ := bd hm;refine bn (S := ((List aa) × Int)) (V := Unit) (O := (List aa)) [0, 17, 108, 109, 110, 111, 112, 113, 114, 115, 116, 117, 118, 119, 120, 121, 122, 123, 124, 125, 126, 127, 128] (fun (l29, x30) _ => [(0, .c (.osl 0 v0_ 0 p1)), (17, .c (.int .i64 x30))]) (fun (l29, x30) _ => [.arr 2 v0_ 39 (l29.map aa.enc)]) _ _ () hl2 ?_ ?_
      ·exact ls
      ·rintro ⟨l29, x30⟩ _ r2 hm hr2;replace hm : aN p1 x19 l29 x30 = some r2 := hm;refine aU ?_;unfold aN at hm;refine ak fun k2 hk2 => ?_;refine am [108, 109] ?_
       by_cases h20 : x30 > x19
       ·rw [iP h20] at hm;refine af rfl (dT h20) ?_;refine ap ?_;refine ah (hk2 _ _ ?_);refine ak fun k3 hk3 => ?_;refine aq ?_;refine mj (by kernel_rfl) [0] [0, 0, 0, 0, 8, 0, 0, 64, 224, 480, 0, 0, 3072, 7168, 16355, 32739, 65535, 131071] [false, false, false, false, false, false, false, false, false, false, false, false, false, false, false, false, true, true] [false, false, false, false, false, false, false, false, false, false, false, false, false, false, false, true, false, false] [[], [], [0], [17], [116], [], [], [], [], [], [], [], [], [], [], [], [], []] [false, false, true, false, false, false, false, false, false, false, false, false, false, false, false, false, false, false] (by kernel_rfl) fun k hk => ?_;refine mh 2 rfl rfl rfl rfl rfl ?_;refine gp ?_
        refine mi (kb rfl (by first | rfl | (simp only [bR, bT, tab, bX, reduceIte, ↓reduceIte, reduceCtorEq, Int.reduceToNat, Nat.reduceDiv, Nat.reduceMod, Nat.reduceLT, Nat.reduceLeDiff, Nat.reduceAdd, Nat.reduceSub, Nat.reduceMul, Nat.reduceEqDiff, Nat.reduceBEq, Nat.reduceBNe, Nat.reduceGT]; done))) (by first | rfl | (simp only [bA, bT, tab, bX, reduceIte, ↓reduceIte, reduceCtorEq, Int.reduceToNat, Nat.reduceDiv, Nat.reduceMod, Nat.reduceLT, Nat.reduceLeDiff, Nat.reduceAdd, Nat.reduceSub, Nat.reduceMul, Nat.reduceEqDiff, Nat.reduceBEq, Nat.reduceBNe, Nat.reduceGT]; done)) (by first | trivial | exact iH rfl) ?_
        refine gl ?_;obtain ⟨⟨hg21a, hg21b, hg21c, hg21d⟩, hm⟩ := gd hm;refine lh rfl ?_;refine gpx (a2 (em aa.enc l29 ((IntKind.wrap .i64 (x30 - 1)).toNat)) (a2 (em aa.enc l29 x30.toNat) (a2 (em aa.enc (l29.set x30.toNat (l29.getD ((IntKind.wrap .i64 (x30 - 1)).toNat) default)) ((IntKind.wrap .i64 (x30 - 1)).toNat)) (sB aa.enc (fun _ => rfl))))) ?_;refine hk _ _ ?_;clear hk k;refine aA ?_;refine ah (hk3 _ _ ?_);refine cp ?_;refine aB (((l29.set x30.toNat (l29.getD ((IntKind.wrap .i64 (x30 - 1)).toNat) default)).set ((IntKind.wrap .i64 (x30 - 1)).toNat) (l29.getD x30.toNat default)), (IntKind.wrap .i64 (x30 - 1))) () hm ?_;exact ls
       ·rw [iN h20] at hm;refine ai rfl (dF h20) ?_;refine br ?_;have ho22 := av hm hr2;subst ho22;replace hm : bJ l29 = some r := hm2;refine a8 (aY (ar ?_));refine au l29 () hm ?_;exact ls
     ·rintro l21 _ hm;replace hm : bJ l21 = some r := hm;refine aU ?_;unfold bJ at hm;refine az ?_;refine aC ?_;refine gY [.arr 2 v0_ 39 (l21.map aa.enc)] ?_;obtain rfl := sI hm;simp only [bF, bT, tab, bX, Sum.elim_inl, Sum.elim_inr, reduceIte, ↓reduceIte, reduceCtorEq, Int.reduceToNat, Nat.reduceDiv, Nat.reduceMod, Nat.reduceLT, Nat.reduceLeDiff, Nat.reduceAdd, Nat.reduceSub, Nat.reduceMul, Nat.reduceEqDiff, Nat.reduceBEq, Nat.reduceBNe, Nat.reduceGT]
      all_goals and_intros <;> first | rfl | omega | (simp; done) | (simp [lit, bX, eK, eB, eS, eL]; done)
   ·rw [iN h19] at hm;refine ai rfl (nB h19) ?_;refine ap ?_;refine au () () hm ?_;exact ls
  ·rintro _ _ hm;replace hm : bI rcf p1 p2 p3 p4 p5 = some r := hm;refine aU ?_;unfold bI at hm;refine am [129, 130, 131, 132, 133, 134] ?_;refine am [135, 136, 137] ?_;refine am [20, 21] ?_;refine a9 (S := (Int × Int)) (V := Unit) [0, 20, 21, 138, 139, 140, 141, 142, 143, 144, 145, 146] (fun (x1, x2) _ => [(0, .c (.osl 0 v0_ 0 p1)), (20, .c (.int .i64 x1)), (21, .c (.int .i64 x2))]) (fun (x1, x2) _ => [.arr 2 v0_ 39 (p5.map aa.enc)]) (fun (x1, x2) => bg rcf p1 p2 p3 p4 p5 x1 x2 = some r) ?_ ?_
   ·skip;refine am [138, 139] ?_
    by_cases h18 : p3 > (IntKind.wrap .i64 ((IntKind.wrap .u64 (IntKind.wrap .i64 (p2 + p4))).fdiv (2 ^ (min 1 (IntKind.bits .u64)))))
    ·rw [iP h18] at hm;refine af rfl (dT h18) ?_;refine am [140, 141, 142, 143] ?_;refine cp ?_;refine au ((IntKind.wrap .i64 ((IntKind.wrap .i64 ((IntKind.wrap .i64 ((IntKind.wrap .u64 (IntKind.wrap .i64 (p2 + p4))).fdiv (2 ^ (min 1 (IntKind.bits .u64))))) + p3)) - p4)), (IntKind.wrap .i64 ((IntKind.wrap .u64 (IntKind.wrap .i64 (p2 + p4))).fdiv (2 ^ (min 1 (IntKind.bits .u64)))))) () hm ?_;exact ls
    ·rw [iN h18] at hm;refine ai rfl (dF h18) ?_;refine am [140, 145] ?_;refine cp ?_;refine au (p2, p3) () hm ?_;exact ls
   ·rintro ⟨x1, x2⟩ _ hm;replace hm : bg rcf p1 p2 p3 p4 p5 x1 x2 = some r := hm;refine aU ?_;unfold bg at hm;refine am [147, 148] ?_;refine a9 (S := Int) (V := Unit) [0, 20, 21, 22, 23, 149, 150, 151, 152, 153, 154, 155, 156, 157, 158, 159, 160, 161, 162, 163, 164, 165, 166, 167, 168, 169, 170, 171, 172, 173, 174] (fun x3 _ => [(0, .c (.osl 0 v0_ 0 p1)), (20, .c (.int .i64 x3))]) (fun x3 _ => [.arr 2 v0_ 39 (p5.map aa.enc)]) (fun x3 => bf rcf p1 p2 p3 p4 p5 x3 = some r) ?_ ?_
    ·skip;refine aq ?_
     obtain ⟨o1, hl1, hm1⟩ := bd hm;refine bn (S := (Int × Int)) (V := Unit) (O := Int) [0, 20, 21, 23, 149, 150, 151, 152, 153, 154, 155, 156, 157, 158, 159, 160, 161, 162, 163, 164, 165, 166, 167, 168, 169, 170, 171, 172, 173, 174] (fun (x15, x16) _ => [(0, .c (.osl 0 v0_ 0 p1)), (20, .c (.int .i64 x15)), (21, .c (.int .i64 x16))]) (fun (x15, x16) _ => [.arr 2 v0_ 39 (p5.map aa.enc)]) _ _ () hl1 ?_ ?_
     ·exact ls
     ·rintro ⟨x15, x16⟩ _ r1 hm hr1;replace hm : aM p1 p2 p3 p4 p5 x15 x16 = some r1 := hm;refine aU ?_;unfold aM at hm;refine ak fun k1 hk1 => ?_;refine am [149, 150] ?_
      by_cases h13 : x15 < x16
      ·rw [iP h13] at hm;refine af rfl (dT h13) ?_;refine ap ?_;refine ah (hk1 _ _ ?_);refine aq ?_;refine am [151, 152, 153, 154, 155, 156, 157] ?_;obtain ⟨⟨hg14a, hg14b, hg14c, hg14d⟩, hm⟩ := gd hm;refine lC [158, 159, 160, 161, 162, 163, 164, 165, 166, 167, 168, 169, 170] (by kernel_rfl) [0, 0, 0, 0, 12, 30, 62, 0, 0, 384, 896, 2047, 4095, 8191] [false, false, false, false, false, false, false, false, false, false, false, true, true, true] (by kernel_rfl) fun k hk => ?_;refine gax (a2 (em aa.enc p5 ((IntKind.wrap .i64 ((IntKind.wrap .i64 ((IntKind.wrap .i64 ((IntKind.wrap .i64 ((IntKind.wrap .u64 (IntKind.wrap .i64 (p2 + p4))).fdiv (2 ^ (min 1 (IntKind.bits .u64))))) + p3)) - 1)) - (IntKind.wrap .i64 ((IntKind.wrap .u64 (IntKind.wrap .i64 (x15 + x16))).fdiv (2 ^ (min 1 (IntKind.bits .u64))))))).toNat)) (em aa.enc p5 ((IntKind.wrap .i64 ((IntKind.wrap .u64 (IntKind.wrap .i64 (x15 + x16))).fdiv (2 ^ (min 1 (IntKind.bits .u64))))).toNat))) ?_;obtain ⟨y17, hc15, hm⟩ := bd hm;refine AP (fun _ => gm (p5.getD ((IntKind.wrap .i64 ((IntKind.wrap .i64 ((IntKind.wrap .i64 ((IntKind.wrap .i64 ((IntKind.wrap .u64 (IntKind.wrap .i64 (p2 + p4))).fdiv (2 ^ (min 1 (IntKind.bits .u64))))) + p3)) - 1)) - (IntKind.wrap .i64 ((IntKind.wrap .u64 (IntKind.wrap .i64 (x15 + x16))).fdiv (2 ^ (min 1 (IntKind.bits .u64))))))).toNat) default) (p5.getD ((IntKind.wrap .i64 ((IntKind.wrap .u64 (IntKind.wrap .i64 (x15 + x16))).fdiv (2 ^ (min 1 (IntKind.bits .u64))))).toNat) default) _ hc15) ?_;refine ga ?_;refine hk _ _ ?_;clear hk k
       by_cases h16 : y17 < 0
       ·rw [iP h16] at hm;refine ai rfl (by rw [show decide (y17 < 0) = true from (dT h16)]; rfl) ?_;refine cp ?_;refine aA ?_;refine aB (x15, (IntKind.wrap .i64 ((IntKind.wrap .u64 (IntKind.wrap .i64 (x15 + x16))).fdiv (2 ^ (min 1 (IntKind.bits .u64)))))) () hm ?_;exact ls
       ·rw [iN h16] at hm;refine af rfl (by rw [show decide (y17 < 0) = false from (dF h16)]; rfl) ?_;refine cp ?_;refine aA ?_;refine aB ((IntKind.wrap .i64 ((IntKind.wrap .i64 ((IntKind.wrap .u64 (IntKind.wrap .i64 (x15 + x16))).fdiv (2 ^ (min 1 (IntKind.bits .u64))))) + 1)), x16) () hm ?_;exact ls
      ·rw [iN h13] at hm;refine ai rfl (dF h13) ?_;refine br ?_;have ho17 := av hm hr1;subst ho17;replace hm : bf rcf p1 p2 p3 p4 p5 x15 = some r := hm1;refine a8 (aY (ar ?_));refine au x15 () hm ?_;exact ls
    ·rintro x3 _ hm;replace hm : bf rcf p1 p2 p3 p4 p5 x3 = some r := hm;refine aU ?_;unfold bf at hm;refine am [19, 175, 176, 177] ?_;refine a9 (S := (List aa)) (V := Unit) [0, 2, 178, 179, 180, 181, 182, 183, 184, 185, 186, 187, 188, 189, 190, 191] (fun l5 _ => [(0, .c (.osl 0 v0_ 0 p1))]) (fun l5 _ => [.arr 2 v0_ 39 (l5.map aa.enc)]) (fun l5 => aL rcf p1 p2 p3 p4 x3 l5 = some r) ?_ ?_
     ·skip;refine eU [178, 179, 180, 181, 182, 183, 184] fun k kp hk hp => ?_
      refine aw 4 ?_;refine go ?_
      by_cases h9 : x3 < p3
      ·rw [iP h9] at hm;have h9b := dT h9;refine ae ?_;refine gox h9b ?_;refine hk _ _ ?_;clear hk hp k kp
       by_cases h10 : p3 < (IntKind.wrap .i64 ((IntKind.wrap .i64 ((IntKind.wrap .i64 ((IntKind.wrap .u64 (IntKind.wrap .i64 (p2 + p4))).fdiv (2 ^ (min 1 (IntKind.bits .u64))))) + p3)) - x3))
       ·rw [iP h10] at hm;refine af rfl (dT h10) ?_;refine fA fun k kp hk hp => ?_;refine go ?_;obtain ⟨y10, hc11, hm⟩ := bd hm;refine RA (gO p1 x3 p3 (IntKind.wrap .i64 ((IntKind.wrap .i64 ((IntKind.wrap .i64 ((IntKind.wrap .u64 (IntKind.wrap .i64 (p2 + p4))).fdiv (2 ^ (min 1 (IntKind.bits .u64))))) + p3)) - x3)) p5 v0_ _ hc11) [0] ?_;rintro p σ' ⟨rfl, rfl⟩ _;refine ae ?_;refine go ?_;refine hk _ _ ?_;clear hk hp k kp;refine au y10 () hm ?_;exact ls
       ·rw [iN h10] at hm;refine ai rfl (dF h10) ?_;refine ap ?_;refine au p5 () hm ?_;exact ls
      ·rw [iN h9] at hm;have h9b := dF h9;refine ae ?_;refine gox h9b ?_;refine hk _ _ ?_;clear hk hp k kp;refine ai rfl rfl ?_;refine ap ?_;refine au p5 () hm ?_;exact ls
     ·rintro l5 _ hm;replace hm : aL rcf p1 p2 p3 p4 x3 l5 = some r := hm;refine aU ?_;unfold aL at hm;refine a9 (S := (List aa)) (V := Unit) [0, 1, 20, 192, 193, 194, 195, 196, 197, 198, 199, 200, 201, 202, 203, 204, 205] (fun l7 _ => [(0, .c (.osl 0 v0_ 0 p1))]) (fun l7 _ => [.arr 2 v0_ 39 (l7.map aa.enc)]) (fun l7 => aZ rcf p1 p2 p3 p4 x3 l7 = some r) ?_ ?_
      ·skip;refine eU [192, 193, 194, 195, 196, 197, 198] fun k kp hk hp => ?_
       refine aw 4 ?_;refine go ?_
       by_cases h5 : p2 < x3
       ·rw [iP h5] at hm;have h5b := dT h5;refine ae ?_;refine gox h5b ?_;refine hk _ _ ?_;clear hk hp k kp
        by_cases h6 : x3 < (IntKind.wrap .i64 ((IntKind.wrap .u64 (IntKind.wrap .i64 (p2 + p4))).fdiv (2 ^ (min 1 (IntKind.bits .u64)))))
        ·rw [iP h6] at hm;refine af rfl (dT h6) ?_;refine fA fun k kp hk hp => ?_;refine go ?_;obtain ⟨y9, hc7, hm⟩ := bd hm;refine RA (hrec p1 p2 x3 (IntKind.wrap .i64 ((IntKind.wrap .u64 (IntKind.wrap .i64 (p2 + p4))).fdiv (2 ^ (min 1 (IntKind.bits .u64))))) l5 v0_ _ hc7) [0] ?_;rintro p σ' ⟨rfl, rfl⟩ _;refine ae ?_;refine go ?_;refine hk _ _ ?_;clear hk hp k kp;refine au y9 () hm ?_;exact ls
        ·rw [iN h6] at hm;refine ai rfl (dF h6) ?_;refine ap ?_;refine au l5 () hm ?_;exact ls
       ·rw [iN h5] at hm;have h5b := dF h5;refine ae ?_;refine gox h5b ?_;refine hk _ _ ?_;clear hk hp k kp;refine ai rfl rfl ?_;refine ap ?_;refine au l5 () hm ?_;exact ls
      ·rintro l7 _ hm;replace hm : aZ rcf p1 p2 p3 p4 x3 l7 = some r := hm;refine aU ?_;unfold aZ at hm;refine eU [206, 207, 208, 209, 210, 211, 212] fun k kp hk hp => ?_;refine aw 4 ?_;refine go ?_
       by_cases h1 : (IntKind.wrap .i64 ((IntKind.wrap .u64 (IntKind.wrap .i64 (p2 + p4))).fdiv (2 ^ (min 1 (IntKind.bits .u64))))) < (IntKind.wrap .i64 ((IntKind.wrap .i64 ((IntKind.wrap .i64 ((IntKind.wrap .u64 (IntKind.wrap .i64 (p2 + p4))).fdiv (2 ^ (min 1 (IntKind.bits .u64))))) + p3)) - x3))
       ·rw [iP h1] at hm;have h1b := dT h1;refine ae ?_;refine gox h1b ?_;refine hk _ _ ?_;clear hk hp k kp
        by_cases h2 : (IntKind.wrap .i64 ((IntKind.wrap .i64 ((IntKind.wrap .i64 ((IntKind.wrap .u64 (IntKind.wrap .i64 (p2 + p4))).fdiv (2 ^ (min 1 (IntKind.bits .u64))))) + p3)) - x3)) < p4
        ·rw [iP h2] at hm;refine af rfl (dT h2) ?_;refine fA fun k kp hk hp => ?_;refine go ?_;obtain ⟨y8, hc3, hm⟩ := bd hm;refine RA (hrec p1 (IntKind.wrap .i64 ((IntKind.wrap .u64 (IntKind.wrap .i64 (p2 + p4))).fdiv (2 ^ (min 1 (IntKind.bits .u64))))) (IntKind.wrap .i64 ((IntKind.wrap .i64 ((IntKind.wrap .i64 ((IntKind.wrap .u64 (IntKind.wrap .i64 (p2 + p4))).fdiv (2 ^ (min 1 (IntKind.bits .u64))))) + p3)) - x3)) p4 l7 v0_ _ hc3) [0] ?_;rintro p σ' ⟨rfl, rfl⟩ _;refine ae ?_;refine go ?_;refine hk _ _ ?_;clear hk hp k kp;refine iz [.arr 2 v0_ 39 (y8.map aa.enc)] ?_;obtain rfl := sI hm;simp only [bF, bT, tab, bX, Sum.elim_inl, Sum.elim_inr, reduceIte, ↓reduceIte, reduceCtorEq, Int.reduceToNat, Nat.reduceDiv, Nat.reduceMod, Nat.reduceLT, Nat.reduceLeDiff, Nat.reduceAdd, Nat.reduceSub, Nat.reduceMul, Nat.reduceEqDiff, Nat.reduceBEq, Nat.reduceBNe, Nat.reduceGT]
         all_goals and_intros <;> first | rfl | omega | (simp; done) | (simp [lit, bX, eK, eB, eS, eL]; done)
        ·rw [iN h2] at hm;refine ai rfl (dF h2) ?_;refine ap ?_;refine iz [.arr 2 v0_ 39 (l7.map aa.enc)] ?_;obtain rfl := sI hm;simp only [bF, bT, tab, bX, Sum.elim_inl, Sum.elim_inr, reduceIte, ↓reduceIte, reduceCtorEq, Int.reduceToNat, Nat.reduceDiv, Nat.reduceMod, Nat.reduceLT, Nat.reduceLeDiff, Nat.reduceAdd, Nat.reduceSub, Nat.reduceMul, Nat.reduceEqDiff, Nat.reduceBEq, Nat.reduceBNe, Nat.reduceGT]
         all_goals and_intros <;> first | rfl | omega | (simp; done) | (simp [lit, bX, eK, eB, eS, eL]; done)
       ·rw [iN h1] at hm;have h1b := dF h1;refine ae ?_;refine gox h1b ?_;refine hk _ _ ?_;clear hk hp k kp;refine ai rfl rfl ?_;refine ap ?_;refine iz [.arr 2 v0_ 39 (l7.map aa.enc)] ?_;obtain rfl := sI hm;simp only [bF, bT, tab, bX, Sum.elim_inl, Sum.elim_inr, reduceIte, ↓reduceIte, reduceCtorEq, Int.reduceToNat, Nat.reduceDiv, Nat.reduceMod, Nat.reduceLT, Nat.reduceLeDiff, Nat.reduceAdd, Nat.reduceSub, Nat.reduceMul, Nat.reduceEqDiff, Nat.reduceBEq, Nat.reduceBNe, Nat.reduceGT]
        all_goals and_intros <;> first | rfl | omega | (simp; done) | (simp [lit, bX, eK, eB, eS, eL]; done)
theorem dC (fuel : Nat) (p1 : Nat) (p2 : Int) (p3 : Int) (p4 : Int) (p5 : List aa) (v0_ : Nat) (r : (List aa)) (hm : cA fuel p1 p2 p3 p4 p5 = some r) : gD Try.prog 37 [.c (.osl 0 v0_ 0 p1), .c (.int .i64 p2), .c (.int .i64 p3), .c (.int .i64 p4), .c (.fn 20 [])] [.arr 2 v0_ 39 (p5.map aa.enc)] (fun p σ => (p = .t [] ∧ σ = [.arr 2 v0_ 39 (r.map aa.enc)])) (fun _ _ => False) := by
  have key : ∀ (n : Nat) (p1 : Nat) (p2 : Int) (p3 : Int) (p4 : Int) (p5 : List aa) (v0_ : Nat) (r : (List aa)), bl n p1 p2 p3 p4 p5 = some r → gD Try.prog 37 [.c (.osl 0 v0_ 0 p1), .c (.int .i64 p2), .c (.int .i64 p3), .c (.int .i64 p4), .c (.fn 20 [])] [.arr 2 v0_ 39 (p5.map aa.enc)] (fun p σ => (p = .t [] ∧ σ = [.arr 2 v0_ 39 (r.map aa.enc)])) (fun _ _ => False) := by
    intro n
    induction n with
    | zero =>
      intro p1 p2 p3 p4 p5 v0_ r hm;simp [bl] at hm
    | succ n ih =>
      intro p1 p2 p3 p4 p5 v0_ r hm;exact f9 (bl n) ih p1 p2 p3 p4 p5 v0_ r hm
  exact key fuel p1 p2 p3 p4 p5 v0_ r hm
theorem gP (fuel : Nat) (p1 : Int) (p2 : List aa) (v0_ : Nat) (r : (List aa)) (hm : ci fuel p1 p2 = some r) : gD Try.prog 35 [.c (.osl 0 v0_ 0 p2.length), .c (.int .i64 p1), .c (.fn 20 [])] [.arr 2 v0_ 39 (p2.map aa.enc)] (fun p σ => (p = .t [] ∧ σ = [.arr 2 v0_ 39 (r.map aa.enc)])) (fun _ _ => False) := by
 refine bq 63 [] Try.func35 rfl rfl rfl (by kernel_rfl) (by simp) ?_;refine cU ?_;unfold ci at hm;refine am [] ?_;refine am [10] ?_;refine a9 (S := ((List aa) × Int)) (V := Unit) [0, 7, 8, 11, 12, 13, 14, 15, 16, 17, 18, 19, 20, 21, 22] (fun (l2, x3) _ => [(0, .c (.osl 0 v0_ 0 p2.length)), (7, .c (.int .i64 x3))]) (fun (l2, x3) _ => [.arr 2 v0_ 39 (l2.map aa.enc)]) (fun (l2, x3) => bB fuel p1 p2 l2 x3 = some r) ?_ ?_
 ·skip;refine aq ?_
  obtain ⟨o3, hl3, hm3⟩ := bd hm;refine bn (S := ((List aa) × Int × Int)) (V := Unit) (O := ((List aa) × Int)) [0, 7, 8, 11, 12, 13, 14, 15, 16, 17, 18, 19, 20, 21, 22] (fun (l43, x44, x45) _ => [(0, .c (.osl 0 v0_ 0 p2.length)), (7, .c (.int .i64 x44)), (8, .c (.int .i64 x45))]) (fun (l43, x44, x45) _ => [.arr 2 v0_ 39 (l43.map aa.enc)]) _ _ () hl3 ?_ ?_
  ·exact ls
  ·rintro ⟨l43, x44, x45⟩ _ r3 hm hr3;replace hm : aF p1 p2 l43 x44 x45 = some r3 := hm;refine aU ?_;unfold aF at hm;refine ak fun k4 hk4 => ?_;refine am [11, 12] ?_
   by_cases h12 : x45 ≤ p1
   ·rw [iP h12] at hm;refine af rfl (dT h12) ?_;refine ap ?_;refine ah (hk4 _ _ ?_);refine aq ?_;refine bm [7, 13, 14, 15, 16, 17, 18] fun k kp hk hp => ?_;refine go ?_;obtain ⟨y46, hc13, hm⟩ := bd hm;refine RA (cV p2.length x44 x45 l43 v0_ _ hc13) [0] ?_;rintro p σ' ⟨rfl, rfl⟩ _;refine ae ?_;refine go ?_;refine hk _ _ ?_;clear hk hp k kp;refine am [19] ?_;refine cp ?_;refine aA ?_;refine aB (y46, x45, (IntKind.wrap .i64 (x45 + 20))) () hm ?_;exact ls
   ·rw [iN h12] at hm;refine ai rfl (dF h12) ?_;refine br ?_;have ho15 := av hm hr3;subst ho15;replace hm : bB fuel p1 p2 l43 x44 = some r := hm3;refine a8 (aY (ar ?_));refine au (l43, x44) () hm ?_;exact ls
 ·rintro ⟨l2, x3⟩ _ hm;replace hm : bB fuel p1 p2 l2 x3 = some r := hm;refine aU ?_;unfold bB at hm;refine bm [7, 23, 24, 25, 26, 27] fun k kp hk hp => ?_;refine go ?_;obtain ⟨y4, hc1, hm⟩ := bd hm;refine RA (cV p2.length x3 p1 l2 v0_ _ hc1) [0] ?_;rintro p σ' ⟨rfl, rfl⟩ _;refine ae ?_;refine go ?_;refine hk _ _ ?_;clear hk hp k kp;refine aq ?_;obtain ⟨o1, hl1, hm1⟩ := bd hm;refine bn (S := ((List aa) × Int)) (V := Unit) (O := (List aa)) [0, 6, 7, 8, 9, 28, 29, 30, 31, 32, 33, 34, 35, 36, 37, 38, 39, 40, 41, 42, 43, 44, 45, 46, 47, 48, 49, 50, 51, 52, 53, 54, 55, 56, 57, 58, 59, 60, 61, 62] (fun (l12, x13) _ => [(0, .c (.osl 0 v0_ 0 p2.length)), (6, .c (.int .i64 x13))]) (fun (l12, x13) _ => [.arr 2 v0_ 39 (l12.map aa.enc)]) _ _ () hl1 ?_ ?_
  ·exact ls
  ·rintro ⟨l12, x13⟩ _ r1 hm hr1;replace hm : aV fuel p1 p2 l12 x13 = some r1 := hm;refine aU ?_;unfold aV at hm;refine ak fun k1 hk1 => ?_;refine am [28, 29] ?_
   by_cases h3 : x13 < p1
   ·rw [iP h3] at hm;refine af rfl (dT h3) ?_;refine ap ?_;refine ah (hk1 _ _ ?_);refine aq ?_;refine am [30, 31, 32] ?_;refine a9 (S := ((List aa) × Int)) (V := Unit) [0, 7, 8, 33, 34, 35, 36, 37, 38, 39, 40, 41, 42, 43, 44, 45, 46, 47, 48] (fun (l15, x16) _ => [(0, .c (.osl 0 v0_ 0 p2.length)), (7, .c (.int .i64 x16))]) (fun (l15, x16) _ => [.arr 2 v0_ 39 (l15.map aa.enc)]) (fun (l15, x16) => bz fuel p1 p2 x13 l15 x16 = some r1) ?_ ?_
    ·skip;refine aq ?_
     obtain ⟨o2, hl2, hm2⟩ := bd hm;refine bn (S := ((List aa) × Int × Int)) (V := Unit) (O := ((List aa) × Int)) [0, 7, 8, 33, 34, 35, 36, 37, 38, 39, 40, 41, 42, 43, 44, 45, 46, 47, 48] (fun (l27, x28, x29) _ => [(0, .c (.osl 0 v0_ 0 p2.length)), (7, .c (.int .i64 x28)), (8, .c (.int .i64 x29))]) (fun (l27, x28, x29) _ => [.arr 2 v0_ 39 (l27.map aa.enc)]) _ _ () hl2 ?_ ?_
     ·exact ls
     ·rintro ⟨l27, x28, x29⟩ _ r2 hm hr2;replace hm : aE fuel p1 p2 x13 l27 x28 x29 = some r2 := hm;refine aU ?_;unfold aE at hm;refine ak fun k3 hk3 => ?_;refine am [33, 34] ?_
      by_cases h7 : x29 ≤ p1
      ·rw [iP h7] at hm;refine af rfl (dT h7) ?_;refine ap ?_;refine ah (hk3 _ _ ?_);refine aq ?_;refine bm [7, 35, 36, 37, 38, 39, 40, 41, 42, 43] fun k kp hk hp => ?_;refine go ?_;obtain ⟨y30, hc8, hm⟩ := bd hm;refine RA (dC fuel p2.length x28 (IntKind.wrap .i64 (x28 + x13)) x29 l27 v0_ _ hc8) [0] ?_;rintro p σ' ⟨rfl, rfl⟩ _;refine ae ?_;refine go ?_;refine hk _ _ ?_;clear hk hp k kp;refine am [44] ?_;refine cp ?_;refine aA ?_;refine aB (y30, x29, (IntKind.wrap .i64 (x29 + (IntKind.wrap .i64 (2 * x13))))) () hm ?_;exact ls
      ·rw [iN h7] at hm;refine ai rfl (dF h7) ?_;refine br ?_;have ho10 := av hm hr2;subst ho10;replace hm : bz fuel p1 p2 x13 l27 x28 = some r1 := hm2;refine a8 (aY (ar ?_));refine au (l27, x28) () hm ?_;exact ls
    ·rintro ⟨l15, x16⟩ _ hm;replace hm : bz fuel p1 p2 x13 l15 x16 = some r1 := hm;refine aU ?_;unfold bz at hm;refine ak fun k2 hk2 => ?_;refine am [49, 50, 51] ?_;refine am [52, 53] ?_
     by_cases h4 : (IntKind.wrap .i64 (x16 + x13)) < p1
     ·rw [iP h4] at hm;refine af rfl (dT h4) ?_;refine fA fun k kp hk hp => ?_;refine go ?_;obtain ⟨y17, hc5, hm⟩ := bd hm;refine RA (dC fuel p2.length x16 (IntKind.wrap .i64 (x16 + x13)) p1 l15 v0_ _ hc5) [0] ?_;rintro p σ' ⟨rfl, rfl⟩ _;refine ae ?_;refine go ?_;refine hk _ _ ?_;clear hk hp k kp;refine ah (hk2 _ _ ?_);refine cp ?_;refine aA ?_;refine aB (y17, (IntKind.wrap .i64 (x13 * 2))) () hm ?_;exact ls
     ·rw [iN h4] at hm;refine ai rfl (dF h4) ?_;refine ap ?_;refine ah (hk2 _ _ ?_);refine cp ?_;refine aA ?_;refine aB (l15, (IntKind.wrap .i64 (x13 * 2))) () hm ?_;exact ls
   ·rw [iN h3] at hm;refine ai rfl (dF h3) ?_;refine br ?_;have ho11 := av hm hr1;subst ho11;replace hm : some l12 = some r := hm1;refine a8 (aY (ar ?_))
    cases hm
    exact kn 1
theorem e8 (fuel : Nat) (p1 : List aa) (v0_ : Nat) (r : (List aa)) (hm : bV fuel p1 = some r) : gD Try.prog 30 [.c (.osl 0 v0_ 0 p1.length), .c (.fn 20 [])] [.arr 2 v0_ 39 (p1.map aa.enc)] (fun p σ => (p = .t [] ∧ σ = [.arr 2 v0_ 39 (r.map aa.enc)])) (fun _ _ => False) := by
 refine bq 9 [] Try.func30 rfl rfl rfl (by kernel_rfl) (by simp) ?_;refine cU ?_;unfold bV at hm;refine fA fun k kp hk hp => ?_;refine go ?_;obtain ⟨y1, hc1, hm⟩ := bd hm;refine RA (gP fuel (p1.length : Int) p1 v0_ _ hc1) [0] ?_;rintro p σ' ⟨rfl, rfl⟩ _;refine ae ?_;refine go ?_;refine hk _ _ ?_;clear hk hp k kp
 cases hm
 exact kn 1
theorem gi (fuel : Nat) (p1 : List aa) (r : (List aa)) (hm : bW fuel p1 = some r) : gD Try.prog 18 [.c (.fn 31 [.optr 0 0]), .c (.fn 20 [])] [.box [.tree 2 (p1.map aa.enc)]] (fun p σ => (p = .c (.osl 1 1 0 r.length) ∧ σ = [.box [.tree 2 (p1.map aa.enc)], .arr 2 1 39 (r.map aa.enc)])) (fun _ _ => False) := by
 refine bq 12 [.tmp 4] Try.func18 rfl rfl rfl (by kernel_rfl) (by simp) ?_;refine cU ?_;unfold bW at hm;refine am [4] ?_;refine bm [0, 6, 7] fun k kp hk hp => ?_;refine go ?_;obtain ⟨y1, hc1, hm⟩ := bd hm;refine RA (iL p1  _ hc1) [0] ?_;rintro p σ' ⟨rfl, rfl⟩ _;refine ae ?_;refine go ?_;refine hk _ _ ?_;clear hk hp k kp;refine bm [1, 8, 9, 10] fun k kp hk hp => ?_;refine go ?_;obtain ⟨y2, hc3, hm⟩ := bd hm;refine RA (e8 fuel p1 0 _ hc3) [1] ?_;rintro p σ' ⟨rfl, rfl⟩ _;refine ae ?_;refine go ?_;refine hk _ _ ?_;clear hk hp k kp;refine am [5, 11] ?_;refine kj (mN 1 p1.length rfl) ?_;refine cy (qE 2 39 (by decide)) ?_;simp only [bZ, bL, reduceIte, ↓reduceIte, reduceCtorEq, Int.reduceToNat, Nat.reduceDiv, Nat.reduceMod, Nat.reduceLT, Nat.reduceLeDiff, Nat.reduceAdd, Nat.reduceSub, Nat.reduceMul, Nat.reduceEqDiff, Nat.reduceBEq, Nat.reduceBNe, Nat.reduceGT, List.length_cons, List.length_nil, List.length_append, List.cons_append, List.nil_append];refine kj (rr 2 1 (by decide) rfl rfl) ?_;refine kj (ru 1 2 (by decide) (Nat.le_of_ble_eq_true rfl) (Nat.le_of_ble_eq_true rfl) rfl rfl) ?_;obtain ⟨hrc5, hm⟩ := gd hm;refine az ?_;refine gY [.box [.tree 2 (p1.map aa.enc)], .arr 2 1 39 ((y2.take p1.length).map aa.enc)] ?_;obtain rfl := sI hm;exact enC
theorem jJ (p1 : aa) (r : Bool) (hm : fP p1 = some r) : cZ Try.prog 23 [.a [.int .i64 p1.n, .str p1.name]] (.c (.bool r)) := by
 refine bq 6 [.tmp 2] Try.func23 rfl rfl rfl (by kernel_rfl) (by simp) ?_;refine cU ?_;unfold fP at hm;refine am [0, 2] ?_;refine am [1, 3, 4, 5] ?_;refine az ?_
 cases hm
 exact kr 0
theorem fU (p1 : List aa) (v0_ : Nat) (r : Int) (hm : bN p1 = some r) : gD Try.prog 33 [.c (.osl 0 v0_ 0 p1.length), .c (.fn 23 [])] [.arr 2 v0_ 39 (p1.map aa.enc)] (fun p σ => (p = .c (.int .i64 r) ∧ σ = [.arr 2 v0_ 39 (p1.map aa.enc)])) (fun _ _ => False) := by
 refine bq 19 [.tmp 4] Try.func33 rfl rfl rfl (by kernel_rfl) (by simp) ?_;refine cU ?_;unfold bN at hm;refine am [4] ?_;refine a9 (S := Unit) (V := Unit) [0, 1, 4, 5, 6, 7, 8, 9, 10, 11, 12, 13, 14, 15, 16, 17, 18] (fun _ _ => []) (fun _ _ => [.arr 2 v0_ 39 (p1.map aa.enc)]) (fun _ => bC = some r) ?_ ?_
 ·skip;refine am [6] ?_
  refine aq ?_;obtain ⟨o1, hl1, hm1⟩ := bd hm;refine bn (S := Int) (V := Unit) (O := Unit ⊕ Int) [0, 4, 5, 8, 9, 10, 11, 12, 13, 14, 15, 16, 17, 18] (fun x3 _ => [(0, .c (.osl 0 v0_ 0 p1.length)), (8, .c (.int .i64 x3))]) (fun x3 _ => [.arr 2 v0_ 39 (p1.map aa.enc)]) _ _ () hl1 ?_ ?_
  ·exact ls
  ·rintro x3 _ r1 hm hr1;replace hm : bD p1 x3 = some r1 := hm;refine aU ?_;unfold bD at hm;refine am [] ?_;refine ak fun k1 hk1 => ?_
   by_cases h1 : x3 < (p1.length : Int)
   ·rw [iP h1] at hm;refine af rfl (dT h1) ?_;refine ap ?_;refine ah (hk1 _ _ ?_);refine ak fun k2 hk2 => ?_;refine aq ?_;refine am [9, 10] ?_;obtain ⟨hg2a, hm⟩ := gd hm;refine bm [11, 12, 13, 14, 15] fun k kp hk hp => ?_;refine gox (em aa.enc p1 x3.toNat) ?_;obtain ⟨y4, hc3, hm⟩ := bd hm;refine RP (fun _ => jJ (p1.getD x3.toNat default) _ hc3) ?_;refine ae ?_;refine gox (em aa.enc p1 x3.toNat) ?_;refine hk _ _ ?_;clear hk hp k kp
    by_cases h4 : y4 = true
    ·rw [iP h4] at hm;refine af rfl (h4) ?_;refine am [0, 1, 5, 7, 8, 16, 17] ?_;have ho5 := av hm hr1;subst ho5;replace hm : some x3 = some r := hm1;refine az ?_;refine aj (ao (aR (aj (aC ?_))))
     cases hm
     exact kr 1
    ·rw [iN h4] at hm;refine ai rfl (fB h4) ?_;refine ap ?_;refine aA ?_;refine ah (hk2 _ _ ?_);refine cp ?_;refine aB (IntKind.wrap .i64 (x3 + 1)) () hm ?_;exact ls
   ·rw [iN h1] at hm;refine ai rfl (dF h1) ?_;refine br ?_;have ho6 := av hm hr1;subst ho6;replace hm : bC = some r := hm1;refine a8 (aY (ar ?_));refine au () () hm ?_;exact ls
 ·rintro _ _ hm;replace hm : bC = some r := hm;refine aU ?_;unfold bC at hm;refine am [] ?_;refine az ?_
  cases hm
  exact kr 1
theorem fL (p1 : List aa) (v0_ : Nat) (r : (List aa)) (hm : bH p1 = some r) : gD Try.prog 22 [.c (.osl 0 v0_ 0 p1.length), .c (.fn 23 [])] [.arr 2 v0_ 39 (p1.map aa.enc)] (fun p σ => (p = .c (.osl 0 v0_ 0 r.length) ∧ σ = [.arr 2 v0_ 39 (r.map aa.enc)])) (fun _ _ => False) := by
 refine bq 42 [.tmp 4] Try.func22 rfl rfl rfl (by kernel_rfl) (by simp) ?_;refine cU ?_;unfold bH at hm;refine am [4] ?_;refine bm [8, 9, 10] fun k kp hk hp => ?_;refine go ?_;obtain ⟨y1, hc1, hm⟩ := bd hm;refine RA (fU p1 v0_ _ hc1) [0] ?_;rintro p σ' ⟨rfl, rfl⟩ _;refine ae ?_;refine go ?_;refine hk _ _ ?_;clear hk hp k kp;refine ak fun k1 hk1 => ?_;refine am [11] ?_
 by_cases h3 : y1 = (-1)
 ·rw [iP h3] at hm;refine af rfl (eQ h3) ?_;refine am [0, 1, 5, 12, 13] ?_;refine az ?_;refine ao ?_;refine gY [.arr 2 v0_ 39 (p1.map aa.enc)] ?_;obtain rfl := sI hm;exact enC
 ·rw [iN h3] at hm;refine ai rfl (nB h3) ?_;refine ap ?_;refine ah (hk1 _ _ ?_);refine a9 (S := ((List aa) × Int)) (V := Unit) [0, 1, 5, 6, 7, 12, 14, 15, 16, 17, 18, 19, 20, 21, 22, 23, 24, 25, 26, 27, 28, 29, 30, 31, 32, 33, 34, 35] (fun (l3, x4) _ => [(0, .c (.osl 0 v0_ 0 l3.length)), (5, .c (.int .i64 x4))]) (fun (l3, x4) _ => [.arr 2 v0_ 39 (l3.map aa.enc)]) (fun (l3, x4) => bk l3 x4 = some r) ?_ ?_
  ·skip;refine am [12, 14, 15] ?_
   refine aq ?_;obtain ⟨o1, hl1, hm1⟩ := bd hm;refine bn (S := ((List aa) × Int × Int)) (V := Unit) (O := ((List aa) × Int)) [0, 5, 6, 7, 16, 17, 18, 19, 20, 21, 22, 23, 24, 25, 26, 27, 28, 29, 30, 31, 32, 33, 34, 35] (fun (l14, x15, x16) _ => [(0, .c (.osl 0 v0_ 0 l14.length)), (5, .c (.int .i64 x15)), (6, .c (.int .i64 x16))]) (fun (l14, x15, x16) _ => [.arr 2 v0_ 39 (l14.map aa.enc)]) _ _ () hl1 ?_ ?_
   ·exact ls
   ·rintro ⟨l14, x15, x16⟩ _ r1 hm hr1;replace hm : aG l14 x15 x16 = some r1 := hm;refine aU ?_;unfold aG at hm;refine ak fun k2 hk2 => ?_;refine am [16, 17, 18] ?_
    by_cases h5 : x16 < (l14.length : Int)
    ·rw [iP h5] at hm;refine af rfl (dT h5) ?_;refine ap ?_;refine ah (hk2 _ _ ?_);refine ak fun k3 hk3 => ?_;refine aq ?_;obtain ⟨hg6a, hm⟩ := gd hm;refine cJ (em aa.enc l14 x16.toNat) [19, 22, 23, 24, 25] ?_;refine bm [26, 27, 28] fun k kp hk hp => ?_;refine go ?_;obtain ⟨y17, hc7, hm⟩ := bd hm;refine RP (fun _ => jJ (l14.getD x16.toNat default) _ hc7) ?_;refine ae ?_;refine go ?_;refine hk _ _ ?_;clear hk hp k kp
     by_cases h8 : y17 = true
     ·rw [iP h8] at hm;refine ai rfl (by rw [show y17 = true from (h8)]; rfl) ?_;refine ap ?_;refine aA ?_;refine ah (hk3 _ _ ?_);refine cp ?_;refine aB (l14, x15, (IntKind.wrap .i64 (x16 + 1))) () hm ?_;exact ls
     ·rw [iN h8] at hm;refine af rfl (by rw [show y17 = false from (fB h8)]; rfl) ?_;obtain ⟨hg9a, hm⟩ := gd hm;refine cJ (em aa.enc l14 x15.toNat) [7, 29, 30, 31, 32, 33] ?_;refine gV [.arr 2 v0_ 39 ((l14.set x15.toNat (l14.getD x16.toNat default)).map aa.enc), .box [.int .i64 ((l14.getD x16.toNat default).n), .str ((l14.getD x16.toNat default).name)]] ?_;refine cp ?_;refine aA ?_;refine ah (hk3 _ _ ?_);refine cp ?_;refine aB ((l14.set x15.toNat (l14.getD x16.toNat default)), (IntKind.wrap .i64 (x15 + 1)), (IntKind.wrap .i64 (x16 + 1))) () hm ?_;exact ls
    ·rw [iN h5] at hm;refine ai rfl (dF h5) ?_;refine br ?_;have ho10 := av hm hr1;subst ho10;replace hm : bk l14 x15 = some r := hm1;refine a8 (aY (ar ?_));refine au (l14, x15) () hm ?_;exact ls
  ·rintro ⟨l3, x4⟩ _ hm;replace hm : bk l3 x4 = some r := hm;refine aU ?_;unfold bk at hm;obtain ⟨hg4a, hm⟩ := gd hm;refine eU [36, 37, 38] fun k kp hk hp => ?_;refine aw 2 ?_;refine go ?_
   refine RS (sA rfl (by first | rfl | (simp only [bR, bT, tab, bX, reduceIte, ↓reduceIte, reduceCtorEq, Int.reduceToNat, Nat.reduceDiv, Nat.reduceMod, Nat.reduceLT, Nat.reduceLeDiff, Nat.reduceAdd, Nat.reduceSub, Nat.reduceMul, Nat.reduceEqDiff, Nat.reduceBEq, Nat.reduceBNe, Nat.reduceGT]; done)) rfl (by first | kernel_rfl | exact of_decide_eq_true (by kernel_rfl)) (by first | kernel_rfl | exact of_decide_eq_true (by kernel_rfl)) (by first | kernel_rfl | exact of_decide_eq_true (by kernel_rfl)) rfl rfl rfl rfl (by and_intros <;> omega)) ?_
   simp only [bR, bT, tab, bX, reduceIte, ↓reduceIte, reduceCtorEq, Int.reduceToNat, Nat.reduceDiv, Nat.reduceMod, Nat.reduceLT, Nat.reduceLeDiff, Nat.reduceAdd, Nat.reduceSub, Nat.reduceMul, Nat.reduceEqDiff, Nat.reduceBEq, Nat.reduceBNe, Nat.reduceGT];refine aw 0 ?_;refine go ?_
   refine RS (qH (e := aa.enc) (z := (aa.mk 0 [])) rfl rfl rfl rfl (by first | rfl | (simp only [bR, bT, tab, bX, reduceIte, ↓reduceIte, reduceCtorEq, Int.reduceToNat, Nat.reduceDiv, Nat.reduceMod, Nat.reduceLT, Nat.reduceLeDiff, Nat.reduceAdd, Nat.reduceSub, Nat.reduceMul, Nat.reduceEqDiff, Nat.reduceBEq, Nat.reduceBNe, Nat.reduceGT]; done)) rfl (by first | omega | (simp only [List.length_replicate, pZ, p8]; omega)) (by first | kernel_rfl | exact of_decide_eq_true (by kernel_rfl)) (by first | kernel_rfl | rfl) rfl) ?_
   simp only [bR, bT, tab, bX, reduceIte, ↓reduceIte, reduceCtorEq, Int.reduceToNat, Nat.reduceDiv, Nat.reduceMod, Nat.reduceLT, Nat.reduceLeDiff, Nat.reduceAdd, Nat.reduceSub, Nat.reduceMul, Nat.reduceEqDiff, Nat.reduceBEq, Nat.reduceBNe, Nat.reduceGT];refine ae ?_;refine go ?_;refine hk _ _ ?_;clear hk hp k kp;refine gV [.arr 2 v0_ 39 ((clr (aa.mk 0 []) l3 x4.toNat (l3.length - x4.toNat)).map aa.enc)] ?_;refine am [0, 5, 39, 40, 41] ?_;refine kj (mN 0 x4.toNat rfl) ?_;refine az ?_;refine gY [.arr 2 v0_ 39 (((clr (aa.mk 0 []) l3 x4.toNat (l3.length - x4.toNat)).take x4.toNat).map aa.enc)] ?_;obtain rfl := sI hm;exact enC
theorem fV (fuel : Nat) (p1 : List aa) (r : ((List aa) × ag)) (hm : eu fuel p1 = some r) : cZ Try.prog 8 [.c (.tree 2 (p1.map aa.enc))] (.t [.c (.tree 2 (r.1.map aa.enc)), .a [.int .i64 ((r.2).code), .int .i64 ((r.2).at_)]]) := by
 refine bq 76 [.tmp 2, .cell 3 30] Try.func8 rfl rfl rfl (by kernel_rfl) (by simp) ?_;refine cU ?_;unfold eu at hm;refine am [2] ?_;refine am [] ?_;refine ak fun k1 hk1 => ?_;refine am [11, 12] ?_
 by_cases h1 : (p1.length : Int) > 1000
 ·rw [iP h1] at hm;refine af rfl (dT h1) ?_;refine am [0, 4, 13, 14] ?_
  refine cy (cH 2 (.c (.tree 2 (([] : List _).map aa.enc))) rfl (by and_intros <;> trivial)) ?_
  refine gU ?_;refine az ?_;refine ao ?_
  cases hm
  exact kr 0
 ·rw [iN h1] at hm;refine ai rfl (dF h1) ?_;refine ap ?_;refine ah (hk1 _ _ ?_);refine a9 (S := Unit) (V := Unit) [2, 5, 6, 13, 15, 16, 17, 18, 19, 20, 21, 22, 23, 24, 25, 26, 27, 28, 29, 30, 31, 32] (fun _ _ => []) (fun _ _ => [.box [.int .i64 0, .int .i64 0]]) (fun _ => fR fuel p1 = some r) ?_ ?_
  ·skip;refine am [13] ?_
   refine aq ?_;obtain ⟨o2, hl2, hm2⟩ := bd hm;refine bn (S := Int) (V := Unit) (O := Unit ⊕ ((List aa) × ag)) [2, 5, 6, 17, 18, 19, 20, 21, 22, 23, 24, 25, 26, 27, 28, 29, 30, 31, 32] (fun x26 _ => [(17, .c (.int .i64 x26))]) (fun x26 _ => [.box [.int .i64 0, .int .i64 0]]) _ _ () hl2 ?_ ?_
   ·exact ls
   ·rintro x26 _ r2 hm hr2;replace hm : fS p1 x26 = some r2 := hm;refine aU ?_;unfold fS at hm;refine am [] ?_;refine ak fun k4 hk4 => ?_
    by_cases h16 : x26 < (p1.length : Int)
    ·rw [iP h16] at hm;refine af rfl (dT h16) ?_;refine ap ?_;refine ah (hk4 _ _ ?_);refine ak fun k5 hk5 => ?_;refine aq ?_;obtain ⟨hg17a, hm⟩ := gd hm;refine cJ (em aa.enc p1 x26.toNat) [18, 19, 20, 21] ?_;refine eU [6, 22, 23, 24, 25, 26, 27, 28] fun k kp hk hp => ?_;refine aw 4 ?_;refine go ?_
     by_cases h18 : ((p1.getD x26.toNat default).n) < (-1000000)
     ·rw [iP h18] at hm;have h18b := dT h18;refine ae ?_;refine gox h18b ?_;refine hk _ _ ?_;clear hk hp k kp;refine af rfl rfl ?_;refine am [0, 4, 5, 15, 16, 17, 29, 30, 31] ?_
      refine cy (cH 2 (.c (.tree 2 (([] : List _).map aa.enc))) rfl (by and_intros <;> trivial)) ?_
      refine gU ?_;have ho19 := av hm hr2;subst ho19;replace hm : some ([], (ag.mk 16 x26)) = some r := hm2;refine az ?_;refine aj (ao (aR (aj (aC ?_))))
      cases hm
      exact kr 0
     ·rw [iN h18] at hm;have h18b := dF h18;refine ae ?_;refine gox h18b ?_;refine hk _ _ ?_;clear hk hp k kp
      by_cases h20 : ((p1.getD x26.toNat default).n) > 1000000
      ·rw [iP h20] at hm;refine af rfl (dT h20) ?_;refine am [0, 4, 5, 15, 16, 17, 29, 30, 31] ?_
       refine cy (cH 2 (.c (.tree 2 (([] : List _).map aa.enc))) rfl (by and_intros <;> trivial)) ?_
       refine gU ?_;have ho21 := av hm hr2;subst ho21;replace hm : some ([], (ag.mk 16 x26)) = some r := hm2;refine az ?_;refine aj (ao (aR (aj (aC ?_))))
       cases hm
       exact kr 0
      ·rw [iN h20] at hm;refine ai rfl (dF h20) ?_;refine ap ?_;refine aA ?_;refine ah (hk5 _ _ ?_);refine cp ?_;refine aB (IntKind.wrap .i64 (x26 + 1)) () hm ?_;exact ls
    ·rw [iN h16] at hm;refine ai rfl (dF h16) ?_;refine br ?_;have ho22 := av hm hr2;subst ho22;replace hm : fR fuel p1 = some r := hm2;refine a8 (aY (ar ?_));refine au () () hm ?_;exact ls
  ·rintro _ _ hm;replace hm : fR fuel p1 = some r := hm;refine aU ?_;unfold fR at hm;refine bm [0, 33, 34, 35] fun k kp hk hp => ?_;refine go ?_;obtain ⟨y1, hc2, hm⟩ := bd hm;refine RA (gq p1  _ hc2) [] ?_;rintro p σ' ⟨rfl, rfl⟩ _;refine ae ?_;refine go ?_;obtain ⟨y2, hc4, hm⟩ := bd hm;refine RA (gi fuel y1  _ hc4) [1] ?_;rintro p σ' ⟨rfl, rfl⟩ _;refine ae ?_;refine go ?_;refine hk _ _ ?_;clear hk hp k kp;refine cy (gZ 4 2 39 (by decide) rfl (Nat.le_of_ble_eq_true rfl)) ?_;refine mQ ?_;refine a9 (S := (List aa)) (V := Nat) [4, 7, 9, 10, 36, 37, 38, 39, 40, 41, 42, 43, 44, 45, 46, 47, 48, 49, 50, 51, 52, 53, 54, 55, 56, 57, 58, 59, 60, 61, 62, 63, 64, 65, 66, 67, 68, 69, 70, 71, 72] (fun l5 v6 => [(4, .c (.osl 3 v6 0 l5.length))]) (fun l5 v6 => [.box [.int .i64 0, .int .i64 0], .box [.tree 2 (y1.map aa.enc)], .arr 2 1 39 (y2.map aa.enc), .arr 2 v6 39 (l5.map aa.enc)]) (fun l5 => fQ l5 = some r) ?_ ?_
   ·skip;refine am [7] ?_
    refine aq ?_;obtain ⟨o1, hl1, hm1⟩ := bd hm;refine bn (S := ((List aa) × Int)) (V := Nat) (O := (List aa)) [4, 9, 10, 36, 38, 39, 40, 41, 42, 43, 44, 45, 46, 47, 48, 49, 50, 51, 52, 53, 54, 55, 56, 57, 58, 59, 60, 61, 62, 63, 64, 65, 66, 67, 68, 69, 70, 71, 72] (fun (l20, x22) v21 => [(4, .c (.osl 3 v21 0 l20.length)), (36, .c (.osl 2 1 0 y2.length)), (38, .c (.int .i64 x22))]) (fun (l20, x22) v21 => [.box [.int .i64 0, .int .i64 0], .box [.tree 2 (y1.map aa.enc)], .arr 2 1 39 (y2.map aa.enc), .arr 2 v21 39 (l20.map aa.enc)]) _ _ 0 hl1 ?_ ?_
    ·exact ls
    ·rintro ⟨l20, x22⟩ v21 r1 hm hr1;replace hm : cE y2 l20 x22 = some r1 := hm;refine aU ?_;unfold cE at hm;refine am [] ?_;refine ak fun k2 hk2 => ?_
     by_cases h8 : x22 < (y2.length : Int)
     ·rw [iP h8] at hm;refine af rfl (dT h8) ?_;refine ap ?_;refine ah (hk2 _ _ ?_);refine ak fun k3 hk3 => ?_;refine aq ?_;obtain ⟨hg9a, hm⟩ := gd hm;refine cJ (em aa.enc y2 x22.toNat) [39, 40, 41] ?_;refine am [42, 43] ?_
      by_cases h10 : (l20.length : Int) > 0
      ·rw [iP h10] at hm;have h10b := dT h10;obtain ⟨hg11a, hm⟩ := gd hm;refine lg [44, 45, 46, 47, 48, 49, 50, 51, 52, 53, 54, 55] (by kernel_rfl) [0, 1, 3, 7, 7, 23, 63, 127, 255, 7, 519, 2047, 4095] [true, true, true, false, false, false, false, false, false, false, false, true, true] (by kernel_rfl) fun k hk => ?_;refine i9 ?_;refine gax (a2 (em aa.enc l20 ((IntKind.wrap .i64 ((l20.length : Int) - 1)).toNat)) h10b) ?_;refine hk _ _ ?_;clear hk k
       by_cases h12 : ((l20.getD ((IntKind.wrap .i64 ((l20.length : Int) - 1)).toNat) default).name) = ((y2.getD x22.toNat default).name)
       ·rw [iP h12] at hm;refine af rfl (eQ h12) ?_;refine rA (em aa.enc l20 ((IntKind.wrap .i64 ((l20.length : Int) - 1)).toNat)) [0, 0, 2, 7, 15, 31, 0, 64, 255, 511, 1023, 2047] [false, false, false, false, false, false, false, false, true, true, true, true] ?_;refine aA ?_;refine ah (hk3 _ _ ?_);refine cp ?_;refine aB ((l20.set ((IntKind.wrap .i64 ((l20.length : Int) - 1)).toNat) (aa.mk (IntKind.wrap .i64 (((l20.getD ((IntKind.wrap .i64 ((l20.length : Int) - 1)).toNat) default).n) + ((y2.getD x22.toNat default).n))) ((l20.getD ((IntKind.wrap .i64 ((l20.length : Int) - 1)).toNat) default).name))), (IntKind.wrap .i64 (x22 + 1))) v21 hm ?_;exact ls
       ·rw [iN h12] at hm;refine ai rfl (nB h12) ?_;obtain ⟨⟨hg13ax, hg13ay⟩, hm⟩ := gd hm;refine cp ?_;refine aA ?_;refine ah (hk3 _ _ ?_);refine cp ?_;refine aB ((l20 ++ (lit ([(y2.getD x22.toNat default)] : List aa))), (IntKind.wrap .i64 (x22 + 1))) (v21 + 1) hm ?_;exact ls
      ·rw [iN h10] at hm;have h10b := dF h10;refine lg [44, 45, 46, 47, 48, 49, 50, 51, 52, 53, 54, 55] (by kernel_rfl) [0, 1, 3, 7, 7, 23, 63, 127, 255, 7, 519, 2047, 4095] [true, true, true, false, false, false, false, false, false, false, false, true, true] (by kernel_rfl) fun k hk => ?_;refine i9 ?_;refine gax h10b ?_;refine hk _ _ ?_;clear hk k;refine ai rfl rfl ?_;obtain ⟨⟨hg14ax, hg14ay⟩, hm⟩ := gd hm;refine cp ?_;refine aA ?_;refine ah (hk3 _ _ ?_);refine cp ?_;refine aB ((l20 ++ (lit ([(y2.getD x22.toNat default)] : List aa))), (IntKind.wrap .i64 (x22 + 1))) (v21 + 1) hm ?_;exact ls
     ·rw [iN h8] at hm;refine ai rfl (dF h8) ?_;refine br ?_;have ho15 := av hm hr1;subst ho15;replace hm : fQ l20 = some r := hm1;refine a8 (aY (ar ?_));refine au l20 v21 hm ?_;exact ls
   ·rintro l5 v6 hm;replace hm : fQ l5 = some r := hm;refine aU ?_;unfold fQ at hm;refine bm [4, 73, 74, 75] fun k kp hk hp => ?_;refine go ?_;obtain ⟨y7, hc6, hm⟩ := bd hm;refine RA (fL l5 v6 _ hc6) [3] ?_;rintro p σ' ⟨rfl, rfl⟩ _;refine ae ?_;refine go ?_;refine hk _ _ ?_;clear hk hp k kp;refine kj (cI 3 rfl) ?_;refine az ?_
    cases hm
    exact kr 0
theorem df (p1 : List (List UInt8)) (p2 : List UInt8) (r : Int) (hm : bO p1 p2 = some r) : cZ Try.prog 26 [.c (.tree 1 (p1.map eS)), .c (.str p2)] (.c (.int .i64 r)) := by
 refine bq 19 [.tmp 4] Try.func26 rfl rfl rfl (by kernel_rfl) (by simp) ?_;refine cU ?_;unfold bO at hm;refine am [4] ?_;refine a9 (S := Unit) (V := Unit) [0, 1, 4, 5, 6, 7, 8, 9, 10, 11, 12, 13, 14, 15, 16, 17, 18] (fun _ _ => []) (fun _ _ => []) (fun _ => cj = some r) ?_ ?_
 ·skip;refine am [6] ?_
  refine aq ?_;obtain ⟨o1, hl1, hm1⟩ := bd hm;refine bn (S := Int) (V := Unit) (O := Unit ⊕ Int) [4, 5, 8, 9, 10, 11, 12, 13, 14, 15, 16, 17, 18] (fun x3 _ => [(8, .c (.int .i64 x3))]) (fun x3 _ => []) _ _ () hl1 ?_ ?_
  ·exact ls
  ·rintro x3 _ r1 hm hr1;replace hm : ck p1 p2 x3 = some r1 := hm;refine aU ?_;unfold ck at hm;refine am [] ?_;refine ak fun k1 hk1 => ?_
   by_cases h1 : x3 < (p1.length : Int)
   ·rw [iP h1] at hm;refine af rfl (dT h1) ?_;refine ap ?_;refine ah (hk1 _ _ ?_);refine ak fun k2 hk2 => ?_;refine aq ?_;refine am [9, 10] ?_;obtain ⟨hg2a, hm⟩ := gd hm;refine cJ (em eS p1 x3.toNat) [11, 12, 13, 14, 15] ?_
    by_cases h3 : p2 = (p1.getD x3.toNat default)
    ·rw [iP h3] at hm;refine af rfl (eQ h3) ?_;refine am [0, 1, 5, 7, 8, 16, 17] ?_;have ho4 := av hm hr1;subst ho4;replace hm : some x3 = some r := hm1;refine az ?_;refine aj (ao (aR (aj (aC ?_))))
     cases hm
     exact kr 0
    ·rw [iN h3] at hm;refine ai rfl (nB h3) ?_;refine ap ?_;refine aA ?_;refine ah (hk2 _ _ ?_);refine cp ?_;refine aB (IntKind.wrap .i64 (x3 + 1)) () hm ?_;exact ls
   ·rw [iN h1] at hm;refine ai rfl (dF h1) ?_;refine br ?_;have ho5 := av hm hr1;subst ho5;replace hm : cj = some r := hm1;refine a8 (aY (ar ?_));refine au () () hm ?_;exact ls
 ·rintro _ _ hm;replace hm : cj = some r := hm;refine aU ?_;unfold cj at hm;refine am [] ?_;refine az ?_
  cases hm
  exact kr 0
theorem dp (fuel : Nat) (p1 : List aa) (p2 : List (List UInt8)) (p3 : List Int) (r : (Int × ag)) (hm : cb fuel p1 p2 p3 = some r) : cZ Try.prog 12 [.c (.tree 2 (p1.map aa.enc)), .c (.tree 1 (p2.map eS)), .c (.tree 1 (p3.map (eK .i64)))] (.t [.c (.int .i64 r.1), .a [.int .i64 ((r.2).code), .int .i64 ((r.2).at_)]]) := by
 refine bq 66 [.tmp 6, .cell 7 30] Try.func12 rfl rfl rfl (by kernel_rfl) (by simp) ?_;refine cU ?_;unfold cb at hm;refine am [6] ?_;refine bm [0, 15, 16, 17, 18, 19] fun k kp hk hp => ?_;refine go ?_;obtain ⟨y1, hc1, hm⟩ := bd hm;refine RP (fun _ => fV fuel p1 _ hc1) ?_;refine ae ?_;refine go ?_;refine hk _ _ ?_;clear hk hp k kp;refine ak fun k1 hk1 => ?_;refine am [20, 21] ?_
 by_cases h2 : ¬ ((y1.2).code) = 0
 ·rw [iP h2] at hm;refine af rfl (bne_iff_ne.2 h2) ?_;refine tj [1, 2, 8, 9, 22, 23] [0, 0, 3] [false, false, true] ?_;refine az ?_;refine ao ?_
  cases hm
  exact kr 0
 ·rw [iN h2] at hm;refine ai rfl (bne_eq_false_iff_eq.2 (Decidable.not_not.1 h2)) ?_;refine ap ?_;refine ah (hk1 _ _ ?_);refine am [9, 22] ?_;refine a9 (S := Int) (V := Unit) [1, 2, 6, 8, 10, 12, 13, 14, 24, 25, 26, 27, 28, 29, 30, 31, 32, 33, 34, 35, 36, 37, 38, 39, 40, 41, 42, 43, 44, 45, 46, 47, 48, 49, 50, 51, 52, 53, 54, 55, 56, 57, 58, 59, 60, 61, 62, 63] (fun x2 _ => [(10, .c (.int .i64 x2))]) (fun x2 _ => [.box [.int .i64 0, .int .i64 0], .box [.int .i64 ((y1.2).code), .int .i64 ((y1.2).at_)]]) (fun x2 => fj x2 = some r) ?_ ?_
  ·skip;refine am [8] ?_
   refine aq ?_;obtain ⟨o1, hl1, hm1⟩ := bd hm;refine bn (S := (Int × Int)) (V := Unit) (O := Int ⊕ (Int × ag)) [6, 10, 12, 13, 14, 26, 27, 28, 29, 30, 31, 32, 33, 34, 35, 36, 37, 38, 39, 40, 41, 42, 43, 44, 45, 46, 47, 48, 49, 50, 51, 52, 53, 54, 55, 56, 57, 58, 59, 60, 61, 62, 63] (fun (x7, x8) _ => [(10, .c (.int .i64 x7)), (26, .c (.int .i64 x8))]) (fun (x7, x8) _ => [.box [.int .i64 0, .int .i64 0], .box [.int .i64 ((y1.2).code), .int .i64 ((y1.2).at_)]]) _ _ () hl1 ?_ ?_
   ·exact ls
   ·rintro ⟨x7, x8⟩ _ r1 hm hr1;replace hm : d7 p2 p3 y1 x7 x8 = some r1 := hm;refine aU ?_;unfold d7 at hm;refine am [] ?_;refine ak fun k2 hk2 => ?_
    by_cases h3 : x8 < (y1.1.length : Int)
    ·rw [iP h3] at hm;refine af rfl (dT h3) ?_;refine ap ?_;refine ah (hk2 _ _ ?_);refine ak fun k3 hk3 => ?_;refine aq ?_;obtain ⟨hg4a, hm⟩ := gd hm;refine cJ (em aa.enc y1.1 x8.toNat) [27, 28, 29] ?_;refine am [] ?_;refine a9 (S := Int) (V := Unit) [6, 13, 14, 30, 31, 32, 33, 34, 35, 36, 37, 38, 39, 40, 41, 42, 43, 44, 45, 46, 47, 48, 49] (fun x9 _ => [(13, .c (.int .i64 x9))]) (fun x9 _ => [.box [.int .i64 0, .int .i64 0], .box [.int .i64 ((y1.2).code), .int .i64 ((y1.2).at_)], .box [.int .i64 ((y1.1.getD x8.toNat default).n), .str ((y1.1.getD x8.toNat default).name)]]) (fun x9 => fm y1 x7 x8 x9 = some r1) ?_ ?_
     ·skip;refine am [30, 31] ?_
      by_cases h9 : ((y1.1.getD x8.toNat default).name) = ([] : List UInt8)
      ·rw [iP h9] at hm;refine ai rfl (by rw [show (((y1.1.getD x8.toNat default).name) == ([] : List UInt8)) = true from (eQ h9)]; rfl) ?_;refine ap ?_;refine au 1 () hm ?_;exact ls
      ·rw [iN h9] at hm;refine af rfl (by rw [show (((y1.1.getD x8.toNat default).name) == ([] : List UInt8)) = false from (nB h9)]; rfl) ?_;refine bm [13, 32, 33, 34, 35, 36] fun k kp hk hp => ?_;refine go ?_;obtain ⟨y10, hc10, hm⟩ := bd hm;refine RP (fun _ => df p2 ((y1.1.getD x8.toNat default).name) _ hc10) ?_;refine ae ?_;refine go ?_;refine hk _ _ ?_;clear hk hp k kp;refine ak fun k5 hk5 => ?_
       by_cases h11 : y10 < 0
       ·rw [iP h11] at hm;have h11b := dT h11;refine cJ h11b [37, 38, 39, 40, 41, 42, 43] ?_;refine af rfl rfl ?_;refine am [1, 2, 10, 12, 14, 24, 25, 26, 44, 45] ?_;have ho12 := av hm hr1;subst ho12;replace hm : some (0, (ag.mk 9 (-1))) = some r := hm1;refine az ?_;refine ao (aC (aj (ao (aR (aj (aC ?_))))))
        cases hm
        exact kr 0
       ·rw [iN h11] at hm;have h11b := dF h11;refine cJ h11b [37, 38, 39, 40, 41, 42, 43] ?_
        by_cases h13 : y10 ≥ (p3.length : Int)
        ·rw [iP h13] at hm;refine af rfl (dT h13) ?_;refine am [1, 2, 10, 12, 14, 24, 25, 26, 44, 45] ?_;have ho14 := av hm hr1;subst ho14;replace hm : some (0, (ag.mk 9 (-1))) = some r := hm1;refine az ?_;refine ao (aC (aj (ao (aR (aj (aC ?_))))))
         cases hm
         exact kr 0
        ·rw [iN h13] at hm;refine ai rfl (dF h13) ?_;refine ap ?_;refine ah (hk5 _ _ ?_);obtain ⟨hg15a, hm⟩ := gd hm;refine nD (em (eK .i64) p3 y10.toNat) ?_;refine au (p3.getD y10.toNat default) () hm ?_;exact ls
     ·rintro x9 _ hm;replace hm : fm y1 x7 x8 x9 = some r1 := hm;refine aU ?_;unfold fm at hm;refine ak fun k4 hk4 => ?_
      by_cases h5 : x9 < (-1000000)
      ·rw [iP h5] at hm;have h5b := dT h5;refine cJ h5b [50, 51, 52, 53, 54] ?_;refine af rfl rfl ?_;refine am [1, 2, 10, 12, 13, 24, 25, 26, 55, 56] ?_;have ho6 := av hm hr1;subst ho6;replace hm : some (0, (ag.mk 16 (-1))) = some r := hm1;refine az ?_;refine ao (aj (ao (aR (aj (aC ?_)))))
       cases hm
       exact kr 0
      ·rw [iN h5] at hm;have h5b := dF h5;refine cJ h5b [50, 51, 52, 53, 54] ?_
       by_cases h7 : x9 > 1000000
       ·rw [iP h7] at hm;refine af rfl (dT h7) ?_;refine am [1, 2, 10, 12, 13, 24, 25, 26, 55, 56] ?_;have ho8 := av hm hr1;subst ho8;replace hm : some (0, (ag.mk 16 (-1))) = some r := hm1;refine az ?_;refine ao (aj (ao (aR (aj (aC ?_)))))
        cases hm
        exact kr 0
       ·rw [iN h7] at hm;refine ai rfl (dF h7) ?_;refine ap ?_;refine ah (hk4 _ _ ?_);refine cp ?_;refine aA ?_;refine ah (hk3 _ _ ?_);refine cp ?_;refine aB ((IntKind.wrap .i64 (x7 + (IntKind.wrap .i64 (((y1.1.getD x8.toNat default).n) * x9)))), (IntKind.wrap .i64 (x8 + 1))) () hm ?_;exact ls
    ·rw [iN h3] at hm;refine ai rfl (dF h3) ?_;refine br ?_;have ho16 := av hm hr1;subst ho16;replace hm : fj x7 = some r := hm1;refine a8 (aY (ar ?_));refine au x7 () hm ?_;exact ls
  ·rintro x2 _ hm;replace hm : fj x2 = some r := hm;refine aU ?_;unfold fj at hm;refine am [10, 64, 65] ?_;refine az ?_
   cases hm
   exact kr 0
theorem eI (p1 : List aa) (p2 : List aa) (r : Bool) (hm : da p1 p2 = some r) : cZ Try.prog 14 [.c (.tree 2 (p1.map aa.enc)), .c (.tree 2 (p2.map aa.enc))] (.c (.bool r)) := by
 refine bq 26 [.tmp 4] Try.func14 rfl rfl rfl (by kernel_rfl) (by simp) ?_;refine cU ?_;unfold da at hm;refine am [4] ?_;refine ak fun k1 hk1 => ?_;refine am [6, 7, 8, 9] ?_
 by_cases h1 : ¬ (p1.length : Int) = (p2.length : Int)
 ·rw [iP h1] at hm;refine af rfl (bne_iff_ne.2 h1) ?_;refine am [0, 1, 10] ?_;refine az ?_;refine ao ?_
  cases hm
  exact kr 0
 ·rw [iN h1] at hm;refine ai rfl (bne_eq_false_iff_eq.2 (Decidable.not_not.1 h1)) ?_;refine ap ?_;refine ah (hk1 _ _ ?_);refine a9 (S := Unit) (V := Unit) [0, 1, 4, 5, 10, 11, 12, 13, 14, 15, 16, 17, 18, 19, 20, 21, 22, 23, 24, 25] (fun _ _ => []) (fun _ _ => []) (fun _ => ey = some r) ?_ ?_
  ·skip;refine am [10] ?_
   refine aq ?_;obtain ⟨o1, hl1, hm1⟩ := bd hm;refine bn (S := Int) (V := Unit) (O := Unit ⊕ Bool) [4, 5, 11, 12, 13, 14, 15, 16, 17, 18, 19, 20, 21, 22, 23, 24, 25] (fun x3 _ => [(5, .c (.int .i64 x3))]) (fun x3 _ => []) _ _ () hl1 ?_ ?_
   ·exact ls
   ·rintro x3 _ r1 hm hr1;replace hm : eA p1 p2 x3 = some r1 := hm;refine aU ?_;unfold eA at hm;refine ak fun k2 hk2 => ?_;refine am [11, 12, 13] ?_
    by_cases h2 : x3 < (p1.length : Int)
    ·rw [iP h2] at hm;refine af rfl (dT h2) ?_;refine ap ?_;refine ah (hk2 _ _ ?_);refine ak fun k3 hk3 => ?_;refine aq ?_;obtain ⟨⟨hg3a, hg3b⟩, hm⟩ := gd hm;refine rz (a2 (em aa.enc p1 x3.toNat) (em aa.enc p2 x3.toNat)) [14, 17, 18, 19, 20, 21, 22, 23, 24] [0, 0, 3, 7, 0, 0, 48, 112, 255] [false, false, false, false, false, false, false, false, true] ?_
     by_cases h4 : ((p1.getD x3.toNat default).n) = ((p2.getD x3.toNat default).n) ∧ ((p1.getD x3.toNat default).name) = ((p2.getD x3.toNat default).name)
     ·rw [iP h4] at hm;refine ai rfl (by rw [show ((((p1.getD x3.toNat default).n) == ((p2.getD x3.toNat default).n)) && (((p1.getD x3.toNat default).name) == ((p2.getD x3.toNat default).name))) = true from (by simpa [Bool.and_eq_true] using h4)]; rfl) ?_;refine ap ?_;refine aA ?_;refine ah (hk3 _ _ ?_);refine cp ?_;refine aB (IntKind.wrap .i64 (x3 + 1)) () hm ?_;exact ls
     ·rw [iN h4] at hm;refine af rfl (by rw [show ((((p1.getD x3.toNat default).n) == ((p2.getD x3.toNat default).n)) && (((p1.getD x3.toNat default).name) == ((p2.getD x3.toNat default).name))) = false from (fB (fun hh => h4 (by simpa [Bool.and_eq_true] using hh)))]; rfl) ?_;refine am [0, 1, 5, 25] ?_;have ho5 := av hm hr1;subst ho5;replace hm : some false = some r := hm1;refine az ?_;refine aj (ao (aR (aj (aC ?_))))
      cases hm
      exact kr 0
    ·rw [iN h2] at hm;refine ai rfl (dF h2) ?_;refine br ?_;have ho6 := av hm hr1;subst ho6;replace hm : ey = some r := hm1;refine a8 (aY (ar ?_));refine au () () hm ?_;exact ls
  ·rintro _ _ hm;replace hm : ey = some r := hm;refine aU ?_;unfold ey at hm;refine am [] ?_;refine az ?_
   cases hm
   exact kr 0
theorem hI (fuel : Nat) (r : Bool) (hm : d8 fuel  = some r) : cZ Try.prog 6 [] (.c (.bool r)) := by
 refine bq 41 [.tmp 0] Try.func6 rfl rfl rfl (by kernel_rfl) (by simp) ?_;refine cU ?_;unfold d8 at hm;refine am [0] ?_;refine bm [5, 6, 7, 8, 9, 10, 11, 12] fun k kp hk hp => ?_;refine go ?_;refine cN (cI 0 rfl) ?_;refine gt ?_;obtain ⟨y1, hc1, hm⟩ := bd hm;refine RP (fun _ => fV fuel (lit ([(aa.mk 2 ([110] : List UInt8)), (aa.mk 3 []), (aa.mk (-1) ([110] : List UInt8))] : List aa)) _ hc1) ?_;refine ae ?_;refine go ?_;refine hk _ _ ?_;clear hk hp k kp;refine bm [13, 14, 15, 16, 17, 18, 19, 20, 21] fun k kp hk hp => ?_;refine go ?_;refine cN (cI 2 rfl) ?_;refine gt ?_;refine cN (cI 3 rfl) ?_;refine gt ?_;refine cN (cI 4 rfl) ?_;refine gt ?_;obtain ⟨y2, hc2, hm⟩ := bd hm;refine RP (fun _ => dp fuel (lit ([(aa.mk 2 ([110] : List UInt8)), (aa.mk (-1) [])] : List aa)) (lit ([([110] : List UInt8)] : List (List UInt8))) (lit ([4] : List Int)) _ hc2) ?_;refine ae ?_;refine go ?_;refine hk _ _ ?_;clear hk hp k kp;refine eU [1, 2, 3, 4, 22, 23, 24, 25, 26, 27, 28, 29, 30, 31, 32, 33, 34, 35, 36, 37, 38, 39, 40] fun k kp hk hp => ?_;refine aw 4 ?_;refine go ?_
 by_cases h3 : ((y1.2).code) = 0
 ·rw [iP h3] at hm;have h3b := eQ h3;refine aw 5 ?_;refine gox h3b ?_
  by_cases h4 : ((y2.2).code) = 0
  ·rw [iP h4] at hm;have h4b := eQ h4;refine aw 4 ?_;refine gox (a2 h3b h4b) ?_
   by_cases h5 : y2.1 = 7
   ·rw [iP h5] at hm;have h5b := eQ h5;refine ae ?_;refine gox (a2 h3b (a2 h4b h5b)) ?_;refine cN (cI 6 rfl) ?_;refine gtx (a2 h3b (a2 h4b h5b)) ?_;obtain ⟨y3, hc6, hm⟩ := bd hm;refine RP (fun _ => eI y1.1 (lit ([(aa.mk 3 []), (aa.mk 1 ([110] : List UInt8))] : List aa)) _ hc6) ?_;refine ae ?_;refine gox (a2 h3b (a2 h4b h5b)) ?_;refine hk _ _ ?_;clear hk hp k kp;refine az ?_
    cases hm
    exact kr 0
   ·rw [iN h5] at hm;have h5b := nB h5;refine ae ?_;refine gox (a2 h3b (a2 h4b h5b)) ?_;refine hk _ _ ?_;clear hk hp k kp;refine az ?_
    cases hm
    exact kr 0
  ·rw [iN h4] at hm;have h4b := nB h4;refine ae ?_;refine gox (a2 h3b h4b) ?_;refine hk _ _ ?_;clear hk hp k kp;refine az ?_
   cases hm
   exact kr 0
 ·rw [iN h3] at hm;have h3b := nB h3;refine ae ?_;refine gox h3b ?_;refine hk _ _ ?_;clear hk hp k kp;refine az ?_
  cases hm
  exact kr 0
end Pam
