/- the walk of kinds_Op, printed by a program of ours -/
import Derived.Test.YtjmjabdmmlgenaaBackBase2
import Derived.Test.YtjmjabdmmlgenaaBackaFun1
import Derived.Test.YtjmjabdmmlgenaaBackBase3
set_option linter.all false
set_option maxRecDepth 100000
set_option maxHeartbeats 8000000
namespace Pam
open Go Go.Proofs
theorem mu (p1 : Int) (r : (Int × Int × Int)) (hm : io p1 = some r) : eu Try.prog 39 [.c (.int .i64 p1)] (.t [.c (.int .u8 r.1), .c (.int .u8 r.2.1), .c (.int .i64 r.2.2)]) := by
 refine bn 32 [.tmp 2, .tmp 3, .tmp 4] Try.func39 rfl rfl rfl (by kernel_rfl) (by simp) ?_;refine dR ?_;unfold io at hm;refine am [2, 3, 4] ?_;refine aB fun k1 hk1 => ?_;refine aJ ?_
 by_cases h1 : p1 ≥ 1
 ·rw [iP h1] at hm;have h1b := dT h1;refine dv h1b [6, 7, 8, 9, 10, 11] ?_
  by_cases h2 : p1 ≤ 7
  ·rw [iP h2] at hm;refine ab rfl (dT h2) ?_;refine am [0, 5] ?_;refine ap ?_;refine ak (ai ?_)
   cases hm
   exact kr 0
  ·rw [iN h2] at hm;refine ah rfl (dF h2) ?_
   by_cases h3 : p1 = 8
   ·rw [iP h3] at hm;have h3b := eQ h3;refine dv h3b [5, 13, 14, 15, 16, 17, 18] ?_;refine ab rfl rfl ?_;refine am [0, 12] ?_;refine ap ?_;refine ak (ai ?_)
    cases hm
    exact kr 0
   ·rw [iN h3] at hm;have h3b := nB h3;refine dv h3b [5, 13, 14, 15, 16, 17, 18] ?_
    by_cases h4 : p1 = 9
    ·rw [iP h4] at hm;refine ab rfl (eQ h4) ?_;refine am [0, 12] ?_;refine ap ?_;refine ak (ai ?_)
     cases hm
     exact kr 0
    ·rw [iN h4] at hm;refine ah rfl (nB h4) ?_
     by_cases h5 : p1 ≥ 10
     ·rw [iP h5] at hm;have h5b := dT h5;refine dv h5b [12, 20, 21, 22, 23, 24, 25] ?_
      by_cases h6 : p1 ≤ 12
      ·rw [iP h6] at hm;refine ab rfl (dT h6) ?_;refine am [0, 19] ?_;refine ap ?_;refine ak (ai ?_)
       cases hm
       exact kr 0
      ·rw [iN h6] at hm;refine ah rfl (dF h6) ?_;refine am [19, 27, 28] ?_
       by_cases h7 : p1 = 13
       ·rw [iP h7] at hm;refine ab rfl (eQ h7) ?_;refine am [0, 26] ?_;refine ap ?_;refine ak (ai ?_)
        cases hm
        exact kr 0
       ·rw [iN h7] at hm;refine ah rfl (nB h7) ?_;refine am [0, 26, 30, 31] ?_
        by_cases h8 : p1 = 14
        ·rw [iP h8] at hm;refine ab rfl (eQ h8) ?_;refine am [29] ?_;refine ap ?_;refine ak (ai ?_)
         cases hm
         exact kr 0
        ·rw [iN h8] at hm;refine ah rfl (nB h8) ?_;refine aG ?_;refine aO ?_;refine aw (hk1 _ _ ?_);refine am [29] ?_;refine ap ?_
         cases hm
         exact kr 0
     ·rw [iN h5] at hm;have h5b := dF h5;refine dv h5b [12, 20, 21, 22, 23, 24, 25] ?_;refine ah rfl rfl ?_;refine am [19, 27, 28] ?_
      by_cases h9 : p1 = 13
      ·rw [iP h9] at hm;refine ab rfl (eQ h9) ?_;refine am [0, 26] ?_;refine ap ?_;refine ak (ai ?_)
       cases hm
       exact kr 0
      ·rw [iN h9] at hm;refine ah rfl (nB h9) ?_;refine am [0, 26, 30, 31] ?_
       by_cases h10 : p1 = 14
       ·rw [iP h10] at hm;refine ab rfl (eQ h10) ?_;refine am [29] ?_;refine ap ?_;refine ak (ai ?_)
        cases hm
        exact kr 0
       ·rw [iN h10] at hm;refine ah rfl (nB h10) ?_;refine aG ?_;refine aO ?_;refine aw (hk1 _ _ ?_);refine am [29] ?_;refine ap ?_
        cases hm
        exact kr 0
 ·rw [iN h1] at hm;have h1b := dF h1;refine dv h1b [6, 7, 8, 9, 10, 11] ?_;refine ah rfl rfl ?_
  by_cases h11 : p1 = 8
  ·rw [iP h11] at hm;have h11b := eQ h11;refine dv h11b [5, 13, 14, 15, 16, 17, 18] ?_;refine ab rfl rfl ?_;refine am [0, 12] ?_;refine ap ?_;refine ak (ai ?_)
   cases hm
   exact kr 0
  ·rw [iN h11] at hm;have h11b := nB h11;refine dv h11b [5, 13, 14, 15, 16, 17, 18] ?_
   by_cases h12 : p1 = 9
   ·rw [iP h12] at hm;refine ab rfl (eQ h12) ?_;refine am [0, 12] ?_;refine ap ?_;refine ak (ai ?_)
    cases hm
    exact kr 0
   ·rw [iN h12] at hm;refine ah rfl (nB h12) ?_
    by_cases h13 : p1 ≥ 10
    ·rw [iP h13] at hm;have h13b := dT h13;refine dv h13b [12, 20, 21, 22, 23, 24, 25] ?_
     by_cases h14 : p1 ≤ 12
     ·rw [iP h14] at hm;refine ab rfl (dT h14) ?_;refine am [0, 19] ?_;refine ap ?_;refine ak (ai ?_)
      cases hm
      exact kr 0
     ·rw [iN h14] at hm;refine ah rfl (dF h14) ?_;refine am [19, 27, 28] ?_
      by_cases h15 : p1 = 13
      ·rw [iP h15] at hm;refine ab rfl (eQ h15) ?_;refine am [0, 26] ?_;refine ap ?_;refine ak (ai ?_)
       cases hm
       exact kr 0
      ·rw [iN h15] at hm;refine ah rfl (nB h15) ?_;refine am [0, 26, 30, 31] ?_
       by_cases h16 : p1 = 14
       ·rw [iP h16] at hm;refine ab rfl (eQ h16) ?_;refine am [29] ?_;refine ap ?_;refine ak (ai ?_)
        cases hm
        exact kr 0
       ·rw [iN h16] at hm;refine ah rfl (nB h16) ?_;refine aG ?_;refine aO ?_;refine aw (hk1 _ _ ?_);refine am [29] ?_;refine ap ?_
        cases hm
        exact kr 0
    ·rw [iN h13] at hm;have h13b := dF h13;refine dv h13b [12, 20, 21, 22, 23, 24, 25] ?_;refine ah rfl rfl ?_;refine am [19, 27, 28] ?_
     by_cases h17 : p1 = 13
     ·rw [iP h17] at hm;refine ab rfl (eQ h17) ?_;refine am [0, 26] ?_;refine ap ?_;refine ak (ai ?_)
      cases hm
      exact kr 0
     ·rw [iN h17] at hm;refine ah rfl (nB h17) ?_;refine am [0, 26, 30, 31] ?_
      by_cases h18 : p1 = 14
      ·rw [iP h18] at hm;refine ab rfl (eQ h18) ?_;refine am [29] ?_;refine ap ?_;refine ak (ai ?_)
       cases hm
       exact kr 0
      ·rw [iN h18] at hm;refine ah rfl (nB h18) ?_;refine aG ?_;refine aO ?_;refine aw (hk1 _ _ ?_);refine am [29] ?_;refine ap ?_
       cases hm
       exact kr 0
theorem iI (p1 : Int) (p2 : bI) (r : Bool) (hm : er p1 p2 = some r) : fV Try.prog 43 [.c (.int .i64 p1), .c (.optr 0 0)] [.box [.int .i64 p2.m_.cells, .int .i64 p2.m_.regs, .int .i64 p2.m_.cost, .tree 1 (p2.m_.put.map (eK .i64)), .tree 1 (p2.m_.bools.map (eK .i64)), .tree 1 (p2.m_.get.map (eK .i64)), .tree 6 (p2.m_.code.map aF.enc)]] (fun p σ => (p = .c (.bool r) ∧ σ = [.box [.int .i64 p2.m_.cells, .int .i64 p2.m_.regs, .int .i64 p2.m_.cost, .tree 1 (p2.m_.put.map (eK .i64)), .tree 1 (p2.m_.bools.map (eK .i64)), .tree 1 (p2.m_.get.map (eK .i64)), .tree 6 (p2.m_.code.map aF.enc)]])) (fun _ _ => False) := by
 refine bn 13 [.tmp 3] Try.func43 rfl rfl rfl (by kernel_rfl) (by simp) ?_;refine dR ?_;unfold er at hm;refine am [3] ?_
 by_cases h1 : p1 < 0
 ·rw [iP h1] at hm;have h1b := dT h1;refine dv h1b [0, 1, 4, 5, 6, 7, 8, 9, 10, 11, 12] ?_;refine ap ?_
  cases hm
  exact kr 1
 ·rw [iN h1] at hm;have h1b := dF h1;refine dv h1b [0, 1, 4, 5, 6, 7, 8, 9, 10, 11, 12] ?_;refine ap ?_
  cases hm
  exact kr 1
theorem fK (p1 : List Int) (p2 : bI) (r : Int) (hm : bJ p1 p2 = some r) : fV Try.prog 44 [.c (.tree 1 (p1.map (eK .i64))), .c (.fn 43 [.optr 0 0])] [.box [.int .i64 p2.m_.cells, .int .i64 p2.m_.regs, .int .i64 p2.m_.cost, .tree 1 (p2.m_.put.map (eK .i64)), .tree 1 (p2.m_.bools.map (eK .i64)), .tree 1 (p2.m_.get.map (eK .i64)), .tree 6 (p2.m_.code.map aF.enc)]] (fun p σ => (p = .c (.int .i64 r) ∧ σ = [.box [.int .i64 p2.m_.cells, .int .i64 p2.m_.regs, .int .i64 p2.m_.cost, .tree 1 (p2.m_.put.map (eK .i64)), .tree 1 (p2.m_.bools.map (eK .i64)), .tree 1 (p2.m_.get.map (eK .i64)), .tree 6 (p2.m_.code.map aF.enc)]])) (fun _ _ => False) := by
 refine bn 19 [.tmp 4] Try.func44 rfl rfl rfl (by kernel_rfl) (by simp) ?_;refine dR ?_;unfold bJ at hm;refine am [4] ?_;refine cb (S := Unit) (V := Unit) [0, 1, 4, 5, 6, 7, 8, 9, 10, 11, 12, 13, 14, 15, 16, 17, 18] (fun _ _ => []) (fun _ _ => [.box [.int .i64 p2.m_.cells, .int .i64 p2.m_.regs, .int .i64 p2.m_.cost, .tree 1 (p2.m_.put.map (eK .i64)), .tree 1 (p2.m_.bools.map (eK .i64)), .tree 1 (p2.m_.get.map (eK .i64)), .tree 6 (p2.m_.code.map aF.enc)]]) (fun _ => bj = some r) ?_ ?_
 ·skip;refine am [6] ?_
  refine aJ ?_;obtain ⟨o1, hl1, hm1⟩ := bd hm;refine cM (S := Int) (V := Unit) (O := Unit ⊕ Int) [4, 5, 8, 9, 10, 11, 12, 13, 14, 15, 16, 17, 18] (fun x3 _ => [(8, .c (.int .i64 x3))]) (fun x3 _ => [.box [.int .i64 p2.m_.cells, .int .i64 p2.m_.regs, .int .i64 p2.m_.cost, .tree 1 (p2.m_.put.map (eK .i64)), .tree 1 (p2.m_.bools.map (eK .i64)), .tree 1 (p2.m_.get.map (eK .i64)), .tree 6 (p2.m_.code.map aF.enc)]]) _ _ () hl1 ?_ ?_
  ·exact ls
  ·rintro x3 _ r1 hm hr1;replace hm : bk p1 p2 x3 = some r1 := hm;refine bP ?_;unfold bk at hm;refine am [] ?_;refine aB fun k1 hk1 => ?_
   by_cases h1 : x3 < (p1.length : Int)
   ·rw [iP h1] at hm;refine ab rfl (dT h1) ?_;refine aG ?_;refine aw (hk1 _ _ ?_);refine aB fun k2 hk2 => ?_;refine aJ ?_;refine am [9, 10] ?_;obtain ⟨hg2a, hm⟩ := gd hm;refine aS [11, 12, 13, 14, 15] fun k kp hk hp => ?_;refine gox (em (eK .i64) p1 x3.toNat) ?_;obtain ⟨y4, hc3, hm⟩ := bd hm;refine RA (iI (p1.getD x3.toNat default) p2  _ hc3) [0] ?_;rintro p σ' ⟨rfl, rfl⟩ _;refine aa ?_;refine gox (em (eK .i64) p1 x3.toNat) ?_;refine hk _ _ ?_;clear hk hp k kp
    by_cases h5 : y4 = true
    ·rw [iP h5] at hm;refine ab rfl (h5) ?_;refine am [0, 1, 5, 7, 8, 16, 17] ?_;have ho6 := aQ hm hr1;subst ho6;replace hm : some x3 = some r := hm1;refine ap ?_;refine ak (ai (di (ak (cP ?_))))
     cases hm
     exact kr 1
    ·rw [iN h5] at hm;refine ah rfl (fB h5) ?_;refine aG ?_;refine aO ?_;refine aw (hk2 _ _ ?_);refine eD ?_;refine bH (IntKind.wrap .i64 (x3 + 1)) () hm ?_;exact ls
   ·rw [iN h1] at hm;refine ah rfl (dF h1) ?_;refine db ?_;have ho7 := aQ hm hr1;subst ho7;replace hm : bj = some r := hm1;refine cD (bO (aX ?_));refine aP () () hm ?_;exact ls
 ·rintro _ _ hm;replace hm : bj = some r := hm;refine bP ?_;unfold bj at hm;refine am [] ?_;refine ap ?_
  cases hm
  exact kr 1
theorem fh (p1 : List Int) (p2 : bI) (r : Bool) (hm : bU p1 p2 = some r) : fV Try.prog 42 [.c (.tree 1 (p1.map (eK .i64))), .c (.fn 43 [.optr 0 0])] [.box [.int .i64 p2.m_.cells, .int .i64 p2.m_.regs, .int .i64 p2.m_.cost, .tree 1 (p2.m_.put.map (eK .i64)), .tree 1 (p2.m_.bools.map (eK .i64)), .tree 1 (p2.m_.get.map (eK .i64)), .tree 6 (p2.m_.code.map aF.enc)]] (fun p σ => (p = .c (.bool r) ∧ σ = [.box [.int .i64 p2.m_.cells, .int .i64 p2.m_.regs, .int .i64 p2.m_.cost, .tree 1 (p2.m_.put.map (eK .i64)), .tree 1 (p2.m_.bools.map (eK .i64)), .tree 1 (p2.m_.get.map (eK .i64)), .tree 6 (p2.m_.code.map aF.enc)]])) (fun _ _ => False) := by
 refine bn 9 [.tmp 4] Try.func42 rfl rfl rfl (by kernel_rfl) (by simp) ?_;refine dR ?_;unfold bU at hm;refine am [4] ?_;refine aS [0, 1, 5, 6, 7, 8] fun k kp hk hp => ?_;refine go ?_;obtain ⟨y1, hc1, hm⟩ := bd hm;refine RA (fK p1 p2  _ hc1) [0] ?_;rintro p σ' ⟨rfl, rfl⟩ _;refine aa ?_;refine go ?_;refine hk _ _ ?_;clear hk hp k kp;refine ap ?_
 cases hm
 exact kr 1
theorem bD (p1 : bI) (p2 : List Int) (r : Bool) (hm : aY p1 p2 = some r) : eu Try.prog 40 [.a [.int .i64 p1.m_.cells, .int .i64 p1.m_.regs, .int .i64 p1.m_.cost, .tree 1 (p1.m_.put.map (eK .i64)), .tree 1 (p1.m_.bools.map (eK .i64)), .tree 1 (p1.m_.get.map (eK .i64)), .tree 6 (p1.m_.code.map aF.enc)], .c (.tree 1 (p2.map (eK .i64)))] (.c (.bool r)) := by
 refine bn 9 [.tmp 4] Try.func40 rfl rfl rfl (by kernel_rfl) (by simp) ?_;refine dR ?_;unfold aY at hm;refine am [0, 4] ?_;refine aS [1, 2, 5, 6, 7, 8] fun k kp hk hp => ?_;refine go ?_;obtain ⟨y1, hc1, hm⟩ := bd hm;refine RA (fh p2 p1  _ hc1) [0] ?_;rintro p σ' ⟨rfl, rfl⟩ _;refine aa ?_;refine go ?_;refine hk _ _ ?_;clear hk hp k kp;refine ap ?_
 cases hm
 exact kr 0
theorem fG (p1 : bI) (p2 : Int) (p3 : Int) (r : Bool) (hm : cj p1 p2 p3 = some r) : eu Try.prog 41 [.a [.int .i64 p1.m_.cells, .int .i64 p1.m_.regs, .int .i64 p1.m_.cost, .tree 1 (p1.m_.put.map (eK .i64)), .tree 1 (p1.m_.bools.map (eK .i64)), .tree 1 (p1.m_.get.map (eK .i64)), .tree 6 (p1.m_.code.map aF.enc)], .c (.int .i64 p2), .c (.int .i64 p3)] (.c (.bool r)) := by
 refine bn 29 [.tmp 6] Try.func41 rfl rfl rfl (by kernel_rfl) (by simp) ?_;refine dR ?_;unfold cj at hm;refine am [0, 6] ?_
 by_cases h1 : p3 ≥ 1
 ·rw [iP h1] at hm;have h1b := dT h1;refine dX [1, 2, 3, 7, 8, 9, 10, 11, 12, 13, 14, 15, 16, 17, 18, 19, 20, 21, 22, 23, 24, 25, 26, 27, 28] fun k kp hk hp => ?_;refine aj 10 ?_;refine gox h1b ?_
  by_cases h2 : p3 ≤ p1.m_.cells
  ·rw [iP h2] at hm;have h2b := dT h2;refine aj 4 ?_;refine gox (a2 h1b h2b) ?_
   by_cases h3 : p2 ≥ 0
   ·rw [iP h3] at hm;have h3b := dT h3;refine aa ?_;refine gox (a2 h1b (a2 h2b h3b)) ?_;refine hk _ _ ?_;clear hk hp k kp;refine ap ?_
    cases hm
    exact kr 0
   ·rw [iN h3] at hm;have h3b := dF h3;refine aa ?_;refine gox (a2 h1b (a2 h2b h3b)) ?_;refine hk _ _ ?_;clear hk hp k kp;refine ap ?_
    cases hm
    exact kr 0
  ·rw [iN h2] at hm;have h2b := dF h2;refine aa ?_;refine gox (a2 h1b h2b) ?_;refine hk _ _ ?_;clear hk hp k kp;refine ap ?_
   cases hm
   exact kr 0
 ·rw [iN h1] at hm;have h1b := dF h1;refine dv h1b [1, 2, 3, 7, 8, 9, 10, 11, 12, 13, 14, 15, 16, 17, 18, 19, 20, 21, 22, 23, 24, 25, 26, 27, 28] ?_;refine ap ?_
  cases hm
  exact kr 0
theorem ja (p1 : bI) (p2 : aF) (r : Bool) (hm : cG p1 p2 = some r) : eu Try.prog 31 [.a [.int .i64 p1.m_.cells, .int .i64 p1.m_.regs, .int .i64 p1.m_.cost, .tree 1 (p1.m_.put.map (eK .i64)), .tree 1 (p1.m_.bools.map (eK .i64)), .tree 1 (p1.m_.get.map (eK .i64)), .tree 6 (p1.m_.code.map aF.enc)], .a [.int .i64 p2.op, .int .i64 p2.k, .int .i64 p2.r_, .int .i64 p2.a, .int .i64 p2.b, .int .i64 p2.n]] (.c (.bool r)) := by
 refine bn 124 [.tmp 4] Try.func31 rfl rfl rfl (by kernel_rfl) (by simp) ?_;refine dR ?_;unfold cG at hm;refine am [0, 1, 4] ?_;refine aS [5, 6, 8, 9, 10, 11, 12, 13, 14] fun k kp hk hp => ?_;refine go ?_;obtain ⟨y1, hc1, hm⟩ := bd hm;refine RP (fun _ => mu p2.k _ hc1) ?_;refine aa ?_;refine go ?_;refine hk _ _ ?_;clear hk hp k kp;refine aB fun k1 hk1 => ?_;refine am [15] ?_;refine aJ ?_;refine am [18] ?_
 by_cases h2 : p2.op = 1
 ·rw [iP h2] at hm;refine ab rfl (eQ h2) ?_;refine aS [2, 3, 7, 16, 17, 19, 20, 21, 22, 23] fun k kp hk hp => ?_;refine go ?_;refine aU (cy 2 rfl) ?_;refine gt ?_;obtain ⟨y2, hc3, hm⟩ := bd hm;refine RP (fun _ => bD p1 (lit ([p2.r_] : List Int)) _ hc3) ?_;refine aa ?_;refine go ?_;refine hk _ _ ?_;clear hk hp k kp;refine ap ?_;refine ak (ai ?_)
  cases hm
  exact kr 0
 ·rw [iN h2] at hm;refine ah rfl (nB h2) ?_;refine cb (S := Bool) (V := Unit) [17, 24, 25, 26] (fun b3 _ => [(24, .c (.bool b3))]) (fun b3 _ => [.box [.int .i64 p1.m_.cells, .int .i64 p1.m_.regs, .int .i64 p1.m_.cost, .tree 1 (p1.m_.put.map (eK .i64)), .tree 1 (p1.m_.bools.map (eK .i64)), .tree 1 (p1.m_.get.map (eK .i64)), .tree 6 (p1.m_.code.map aF.enc)], .box [.int .i64 p2.op, .int .i64 p2.k, .int .i64 p2.r_, .int .i64 p2.a, .int .i64 p2.b, .int .i64 p2.n]]) (fun b3 => cm p1 p2 y1 b3 = some r) ?_ ?_
  ·skip;refine am [17, 25] ?_
   by_cases h27 : p2.op = 2
   ·rw [iP h27] at hm;refine ab rfl (eQ h27) ?_;refine aG ?_;refine aP (p2.op == 2) () hm ?_;exact ls
   ·rw [iN h27] at hm;refine ah rfl (nB h27) ?_;refine eD ?_;refine aP (p2.op == 4) () hm ?_;exact ls
  ·rintro b3 _ hm;replace hm : cm p1 p2 y1 b3 = some r := hm;refine bP ?_;unfold cm at hm
   by_cases h4 : b3 = true
   ·rw [iP h4] at hm;refine ab rfl (h4) ?_;refine aS [2, 3, 7, 16, 24, 27, 28, 29, 30, 31, 32, 33, 34, 35, 36, 37] fun k kp hk hp => ?_;refine go ?_;refine aU (cy 2 rfl) ?_;refine gt ?_;obtain ⟨y4, hc5, hm⟩ := bd hm;refine RP (fun _ => bD p1 (lit ([p2.r_] : List Int)) _ hc5) ?_
    by_cases h6 : y4 = true
    ·rw [iP h6] at hm;have h6b := h6;refine aa ?_;refine gox h6b ?_;obtain ⟨y5, hc7, hm⟩ := bd hm;refine RP (fun _ => fG p1 p2.n 1 _ hc7) ?_;refine aa ?_;refine gox h6b ?_;refine hk _ _ ?_;clear hk hp k kp;refine ap ?_;refine ak (ai ?_)
     cases hm
     exact kr 0
    ·rw [iN h6] at hm;have h6b := fB h6;refine aa ?_;refine gox h6b ?_;refine hk _ _ ?_;clear hk hp k kp;refine ap ?_;refine ak (ai ?_)
     cases hm
     exact kr 0
   ·rw [iN h4] at hm;refine ah rfl (fB h4) ?_;refine cb (S := Bool) (V := Unit) [24, 38, 39, 40] (fun b6 _ => [(38, .c (.bool b6))]) (fun b6 _ => [.box [.int .i64 p1.m_.cells, .int .i64 p1.m_.regs, .int .i64 p1.m_.cost, .tree 1 (p1.m_.put.map (eK .i64)), .tree 1 (p1.m_.bools.map (eK .i64)), .tree 1 (p1.m_.get.map (eK .i64)), .tree 6 (p1.m_.code.map aF.enc)], .box [.int .i64 p2.op, .int .i64 p2.k, .int .i64 p2.r_, .int .i64 p2.a, .int .i64 p2.b, .int .i64 p2.n]]) (fun b6 => ck p1 p2 y1 b6 = some r) ?_ ?_
    ·skip;refine am [24, 39] ?_
     by_cases h26 : p2.op = 3
     ·rw [iP h26] at hm;refine ab rfl (eQ h26) ?_;refine aG ?_;refine aP (p2.op == 3) () hm ?_;exact ls
     ·rw [iN h26] at hm;refine ah rfl (nB h26) ?_;refine eD ?_;refine aP (p2.op == 5) () hm ?_;exact ls
    ·rintro b6 _ hm;replace hm : ck p1 p2 y1 b6 = some r := hm;refine bP ?_;unfold ck at hm
     by_cases h8 : b6 = true
     ·rw [iP h8] at hm;refine ab rfl (h8) ?_;refine aS [2, 3, 7, 16, 38, 41, 42, 43, 44, 45, 46, 47, 48, 49, 50, 51, 52, 53, 54, 55] fun k kp hk hp => ?_;refine go ?_;refine aU (cy 2 rfl) ?_;refine gt ?_;obtain ⟨y7, hc9, hm⟩ := bd hm;refine RP (fun _ => bD p1 (lit ([p2.r_, p2.a] : List Int)) _ hc9) ?_
      by_cases h10 : y7 = true
      ·rw [iP h10] at hm;have h10b := h10;refine aa ?_;refine gox h10b ?_;obtain ⟨y8, hc11, hm⟩ := bd hm;refine RP (fun _ => fG p1 p2.n p2.b _ hc11) ?_;refine aa ?_;refine gox h10b ?_;refine hk _ _ ?_;clear hk hp k kp;refine ap ?_;refine ak (ai ?_)
       cases hm
       exact kr 0
      ·rw [iN h10] at hm;have h10b := fB h10;refine aa ?_;refine gox h10b ?_;refine hk _ _ ?_;clear hk hp k kp;refine ap ?_;refine ak (ai ?_)
       cases hm
       exact kr 0
     ·rw [iN h8] at hm;refine ah rfl (fB h8) ?_;refine am [38, 57] ?_
      by_cases h12 : p2.op = 6
      ·rw [iP h12] at hm;refine ab rfl (eQ h12) ?_;refine aS [2, 3, 7, 16, 56, 58, 59, 60, 61, 62, 63, 64, 65, 66, 67, 68] fun k kp hk hp => ?_;refine go ?_;refine aU (cy 2 rfl) ?_;refine gt ?_;obtain ⟨y9, hc13, hm⟩ := bd hm;refine RP (fun _ => bD p1 (lit ([p2.r_, p2.a] : List Int)) _ hc13) ?_
       by_cases h14 : y9 = true
       ·rw [iP h14] at hm;have h14b := h14;refine aa ?_;refine gox h14b ?_;refine hk _ _ ?_;clear hk hp k kp;refine ap ?_;refine ak (ai ?_)
        cases hm
        exact kr 0
       ·rw [iN h14] at hm;have h14b := fB h14;refine aa ?_;refine gox h14b ?_;refine hk _ _ ?_;clear hk hp k kp;refine ap ?_;refine ak (ai ?_)
        cases hm
        exact kr 0
      ·rw [iN h12] at hm;refine ah rfl (nB h12) ?_;refine am [56, 70] ?_
       by_cases h15 : p2.op = 7
       ·rw [iP h15] at hm;refine ab rfl (eQ h15) ?_;refine aS [2, 3, 7, 16, 69, 71, 72, 73, 74, 75, 76, 77, 78, 79, 80, 81, 82, 83] fun k kp hk hp => ?_;refine go ?_;refine aU (cy 2 rfl) ?_;refine gt ?_;obtain ⟨y10, hc16, hm⟩ := bd hm;refine RP (fun _ => bD p1 (lit ([p2.r_, p2.a, p2.b] : List Int)) _ hc16) ?_
        by_cases h17 : y10 = true
        ·rw [iP h17] at hm;have h17b := h17;refine aa ?_;refine gox h17b ?_;refine hk _ _ ?_;clear hk hp k kp;refine ap ?_;refine ak (ai ?_)
         cases hm
         exact kr 0
        ·rw [iN h17] at hm;have h17b := fB h17;refine aa ?_;refine gox h17b ?_;refine hk _ _ ?_;clear hk hp k kp;refine ap ?_;refine ak (ai ?_)
         cases hm
         exact kr 0
       ·rw [iN h15] at hm;refine ah rfl (nB h15) ?_;refine am [7, 69, 85] ?_
        by_cases h18 : p2.op = 8
        ·rw [iP h18] at hm;refine ab rfl (eQ h18) ?_;refine aS [2, 3, 16, 84, 86, 87, 88, 89, 90, 91, 92, 93, 94] fun k kp hk hp => ?_;refine go ?_;refine aU (cy 2 rfl) ?_;refine gt ?_;obtain ⟨y11, hc19, hm⟩ := bd hm;refine RP (fun _ => bD p1 (lit ([p2.r_, p2.a, p2.b] : List Int)) _ hc19) ?_;refine aa ?_;refine go ?_;refine hk _ _ ?_;clear hk hp k kp;refine ap ?_;refine ak (ai ?_)
         cases hm
         exact kr 0
        ·rw [iN h18] at hm;refine ah rfl (nB h18) ?_;refine am [84, 96] ?_
         by_cases h20 : p2.op = 9
         ·rw [iP h20] at hm;refine ab rfl (eQ h20) ?_;refine aS [2, 3, 16, 95, 97, 98, 99, 100, 101, 102, 103] fun k kp hk hp => ?_;refine go ?_;refine aU (cy 2 rfl) ?_;refine gt ?_;obtain ⟨y12, hc21, hm⟩ := bd hm;refine RP (fun _ => bD p1 (lit ([p2.r_, p2.a] : List Int)) _ hc21) ?_;refine aa ?_;refine go ?_;refine hk _ _ ?_;clear hk hp k kp;refine ap ?_;refine ak (ai ?_)
          cases hm
          exact kr 0
         ·rw [iN h20] at hm;refine ah rfl (nB h20) ?_;refine am [16, 95, 105] ?_
          by_cases h22 : p2.op = 10
          ·rw [iP h22] at hm;refine ab rfl (eQ h22) ?_;refine aS [2, 3, 104, 106, 107, 108, 109, 110, 111, 112, 113, 114, 115, 116, 117, 118, 119, 120] fun k kp hk hp => ?_;refine go ?_;refine aU (cy 2 rfl) ?_;refine gt ?_;obtain ⟨y13, hc23, hm⟩ := bd hm;refine RP (fun _ => bD p1 (lit ([p2.r_] : List Int)) _ hc23) ?_
           by_cases h24 : y13 = true
           ·rw [iP h24] at hm;have h24b := h24;refine aj 6 ?_;refine gox h24b ?_
            by_cases h25 : p2.n ≥ 1
            ·rw [iP h25] at hm;have h25b := dT h25;refine aa ?_;refine gox (a2 h24b h25b) ?_;refine hk _ _ ?_;clear hk hp k kp;refine ap ?_;refine ak (ai ?_)
             cases hm
             exact kr 0
            ·rw [iN h25] at hm;have h25b := dF h25;refine aa ?_;refine gox (a2 h24b h25b) ?_;refine hk _ _ ?_;clear hk hp k kp;refine ap ?_;refine ak (ai ?_)
             cases hm
             exact kr 0
           ·rw [iN h24] at hm;have h24b := fB h24;refine aa ?_;refine gox h24b ?_;refine hk _ _ ?_;clear hk hp k kp;refine ap ?_;refine ak (ai ?_)
            cases hm
            exact kr 0
          ·rw [iN h22] at hm;refine ah rfl (nB h22) ?_;refine aG ?_;refine aO ?_;refine aw (hk1 _ _ ?_);refine am [2, 3, 104, 121, 122, 123] ?_;refine ap ?_
           cases hm
           exact kr 0
theorem lS (p1 : List aF) (r : Int) (hm : gF p1 = some r) : eu Try.prog 32 [.c (.tree 6 (p1.map aF.enc))] (.c (.int .i64 r)) := by
 refine bn 47 [.tmp 2] Try.func32 rfl rfl rfl (by kernel_rfl) (by simp) ?_;refine dR ?_;unfold gF at hm;refine am [2] ?_;refine am [] ?_;refine cb (S := (Int × Int)) (V := Unit) [0, 2, 3, 4, 5, 7, 8, 9, 10, 11, 12, 13, 14, 15, 16, 17, 18, 19, 20, 21, 22, 23, 24, 25, 26, 27, 28, 29, 30, 31, 32, 33, 34, 35, 36, 37, 38, 39, 40, 41, 42, 43] (fun (x1, x2) _ => [(3, .c (.int .i64 x1)), (5, .c (.int .i64 x2))]) (fun (x1, x2) _ => []) (fun (x1, x2) => dx x1 x2 = some r) ?_ ?_
 ·skip;refine am [0] ?_
  refine aJ ?_;obtain ⟨o1, hl1, hm1⟩ := bd hm;refine cM (S := (Int × Int × Int × Int)) (V := Unit) (O := (Int × Int) ⊕ Int) [2, 3, 4, 5, 7, 10, 11, 12, 13, 14, 15, 16, 17, 18, 19, 20, 21, 22, 23, 24, 25, 26, 27, 28, 29, 30, 31, 32, 33, 34, 35, 36, 37, 38, 39, 40, 41, 42, 43] (fun (x11, x12, x13, x14) _ => [(3, .c (.int .i64 x11)), (4, .c (.int .i64 x12)), (5, .c (.int .i64 x13)), (10, .c (.int .i64 x14))]) (fun (x11, x12, x13, x14) _ => []) _ _ () hl1 ?_ ?_
  ·exact ls
  ·rintro ⟨x11, x12, x13, x14⟩ _ r1 hm hr1;replace hm : dy p1 x11 x12 x13 x14 = some r1 := hm;refine bP ?_;unfold dy at hm;refine am [] ?_;refine aB fun k2 hk2 => ?_
   by_cases h2 : x14 < (p1.length : Int)
   ·rw [iP h2] at hm;refine ab rfl (dT h2) ?_;refine aG ?_;refine aw (hk2 _ _ ?_);refine aB fun k3 hk3 => ?_;refine aJ ?_;obtain ⟨hg3a, hm⟩ := gd hm;refine dv (em aF.enc p1 x14.toNat) [11, 12, 13] ?_;refine am [14, 15, 16] ?_;refine am [17] ?_;refine aJ ?_;refine am [20] ?_
    by_cases h4 : ((p1.getD x14.toNat default).op) = 10
    ·rw [iP h4] at hm;refine ab rfl (eQ h4) ?_;refine aB fun k4 hk4 => ?_
     by_cases h5 : x12 > 1
     ·rw [iP h5] at hm;have h5b := dT h5;refine dv h5b [4, 5, 18, 19, 21, 22, 23, 24, 25, 26, 27, 28, 29, 30, 31, 32, 33, 34, 35] ?_;refine ab rfl rfl ?_;refine am [3, 7, 8, 9, 10, 36] ?_;have ho6 := aQ hm hr1;subst ho6;replace hm : some 0 = some r := hm1;refine ap ?_;refine ai (ak (ak (ai (di (ak (cP ?_))))))
      cases hm
      exact kr 0
     ·rw [iN h5] at hm;have h5b := dF h5;refine dX [4, 5, 18, 19, 21, 22, 23, 24, 25, 26, 27, 28, 29, 30, 31, 32, 33, 34, 35] fun k kp hk hp => ?_;refine aj 7 ?_;refine gox h5b ?_
      by_cases h7 : x13 > 0
      ·rw [iP h7] at hm;have h7b := dT h7;refine aa ?_;refine gox (a2 h5b h7b) ?_;refine hk _ _ ?_;clear hk hp k kp;refine ab rfl rfl ?_;refine am [3, 7, 8, 9, 10, 36] ?_;have ho8 := aQ hm hr1;subst ho8;replace hm : some 0 = some r := hm1;refine ap ?_;refine ai (ak (ak (ai (di (ak (cP ?_))))))
       cases hm
       exact kr 0
      ·rw [iN h7] at hm;have h7b := dF h7;refine aj 5 ?_;refine gox (a2 h5b h7b) ?_
       by_cases h9 : ((p1.getD x14.toNat default).n) < 1
       ·rw [iP h9] at hm;have h9b := dT h9;refine aa ?_;refine gox (a2 h5b (a2 h7b h9b)) ?_;refine hk _ _ ?_;clear hk hp k kp;refine ab rfl rfl ?_;refine am [3, 7, 8, 9, 10, 36] ?_;have ho10 := aQ hm hr1;subst ho10;replace hm : some 0 = some r := hm1;refine ap ?_;refine ai (ak (ak (ai (di (ak (cP ?_))))))
        cases hm
        exact kr 0
       ·rw [iN h9] at hm;have h9b := dF h9;refine aa ?_;refine gox (a2 h5b (a2 h7b h9b)) ?_;refine hk _ _ ?_;clear hk hp k kp
        by_cases h11 : ((p1.getD x14.toNat default).n) > 300
        ·rw [iP h11] at hm;refine ab rfl (dT h11) ?_;refine am [3, 7, 8, 9, 10, 36] ?_;have ho12 := aQ hm hr1;subst ho12;replace hm : some 0 = some r := hm1;refine ap ?_;refine ai (ak (ak (ai (di (ak (cP ?_))))))
         cases hm
         exact kr 0
        ·rw [iN h11] at hm;refine ah rfl (dF h11) ?_;refine aG ?_;refine aw (hk4 _ _ ?_);refine eD ?_;refine aO (aO ?_);refine aw (hk3 _ _ ?_);refine eD ?_;refine bH ((IntKind.wrap .i64 (x11 + x12)), (p1.getD x14.toNat default).n, 1, (IntKind.wrap .i64 (x14 + 1))) () hm ?_;exact ls
    ·rw [iN h4] at hm;refine ah rfl (nB h4) ?_;refine am [7, 18, 19, 40] ?_
     by_cases h13 : ((p1.getD x14.toNat default).op) = 11
     ·rw [iP h13] at hm;refine ab rfl (eQ h13) ?_;refine aB fun k5 hk5 => ?_;refine am [4, 5, 39, 41] ?_
      by_cases h14 : x13 = 0
      ·rw [iP h14] at hm;refine ab rfl (eQ h14) ?_;refine am [3, 8, 9, 10, 42] ?_;have ho15 := aQ hm hr1;subst ho15;replace hm : some 0 = some r := hm1;refine ap ?_;refine ai (ak (ak (ai (di (ak (cP ?_))))))
       cases hm
       exact kr 0
      ·rw [iN h14] at hm;refine ah rfl (nB h14) ?_;refine aG ?_;refine aw (hk5 _ _ ?_);refine eD ?_;refine aO (aO ?_);refine aw (hk3 _ _ ?_);refine eD ?_;refine bH ((IntKind.wrap .i64 (x11 + x12)), 1, 0, (IntKind.wrap .i64 (x14 + 1))) () hm ?_;exact ls
     ·rw [iN h13] at hm;refine ah rfl (nB h13) ?_;refine aG ?_;refine aO (aO ?_);refine aw (hk3 _ _ ?_);refine eD ?_;refine bH ((IntKind.wrap .i64 (x11 + x12)), x12, x13, (IntKind.wrap .i64 (x14 + 1))) () hm ?_;exact ls
   ·rw [iN h2] at hm;refine ah rfl (dF h2) ?_;refine db ?_;have ho16 := aQ hm hr1;subst ho16;replace hm : dx x11 x13 = some r := hm1;refine cD (bO (aX ?_));refine aP (x11, x13) () hm ?_;exact ls
 ·rintro ⟨x1, x2⟩ _ hm;replace hm : dx x1 x2 = some r := hm;refine bP ?_;unfold dx at hm;refine aB fun k1 hk1 => ?_;refine am [5, 44] ?_
  by_cases h1 : x2 > 0
  ·rw [iP h1] at hm;refine ab rfl (dT h1) ?_;refine am [3, 45] ?_;refine ap ?_;refine ai ?_
   cases hm
   exact kr 0
  ·rw [iN h1] at hm;refine ah rfl (dF h1) ?_;refine aG ?_;refine aw (hk1 _ _ ?_);refine am [3, 45, 46] ?_;refine ap ?_
   cases hm
   exact kr 0
theorem iR (p1 : ag) (r : aq) (hm : cZ p1 = some r) : eu Try.prog 17 [.a [.int .i64 p1.cells, .int .i64 p1.regs, .int .i64 p1.cost, .tree 1 (p1.put.map (eK .i64)), .tree 1 (p1.bools.map (eK .i64)), .tree 1 (p1.get.map (eK .i64)), .tree 6 (p1.code.map aF.enc)]] (.a [.int .i64 ((r).code), .int .i64 ((r).at_)]) := by
 refine bn 116 [.cell 2 31] Try.func17 rfl rfl rfl (by kernel_rfl) (by simp) ?_;refine dR ?_;unfold cZ at hm;refine am [0] ?_;refine aB fun k1 hk1 => ?_;refine dX [10, 11, 12, 13, 14, 15, 16, 17, 18, 19, 20, 21, 22, 23, 24, 25, 26] fun k kp hk hp => ?_;refine aj 4 ?_;refine go ?_
 by_cases h1 : p1.cells < 1
 ·rw [iP h1] at hm;have h1b := dT h1;refine aa ?_;refine gox h1b ?_;refine hk _ _ ?_;clear hk hp k kp;refine ab rfl rfl ?_;refine am [1, 27, 28] ?_;refine ap ?_;refine ai ?_
  cases hm
  exact kr 0
 ·rw [iN h1] at hm;have h1b := dF h1;refine aj 5 ?_;refine gox h1b ?_
  by_cases h2 : p1.cells > 6000
  ·rw [iP h2] at hm;have h2b := dT h2;refine aa ?_;refine gox (a2 h1b h2b) ?_;refine hk _ _ ?_;clear hk hp k kp;refine ab rfl rfl ?_;refine am [1, 27, 28] ?_;refine ap ?_;refine ai ?_
   cases hm
   exact kr 0
  ·rw [iN h2] at hm;have h2b := dF h2;refine aj 5 ?_;refine gox (a2 h1b h2b) ?_
   by_cases h3 : p1.regs < 1
   ·rw [iP h3] at hm;have h3b := dT h3;refine aa ?_;refine gox (a2 h1b (a2 h2b h3b)) ?_;refine hk _ _ ?_;clear hk hp k kp;refine ab rfl rfl ?_;refine am [1, 27, 28] ?_;refine ap ?_;refine ai ?_
    cases hm
    exact kr 0
   ·rw [iN h3] at hm;have h3b := dF h3;refine aa ?_;refine gox (a2 h1b (a2 h2b h3b)) ?_;refine hk _ _ ?_;clear hk hp k kp
    by_cases h4 : p1.regs > 40
    ·rw [iP h4] at hm;refine ab rfl (dT h4) ?_;refine am [1, 27, 28] ?_;refine ap ?_;refine ai ?_
     cases hm
     exact kr 0
    ·rw [iN h4] at hm;refine ah rfl (dF h4) ?_;refine aG ?_;refine aw (hk1 _ _ ?_);refine aB fun k2 hk2 => ?_;refine dX [27, 29, 30, 31, 32, 33, 34, 35, 36, 37, 38, 39, 40, 41, 42, 43, 44, 45, 46, 47, 48, 49] fun k kp hk hp => ?_;refine aj 5 ?_;refine go ?_
     by_cases h5 : (p1.put.length : Int) > 6000
     ·rw [iP h5] at hm;have h5b := dT h5;refine aa ?_;refine gox h5b ?_;refine hk _ _ ?_;clear hk hp k kp;refine ab rfl rfl ?_;refine am [1, 50, 51] ?_;refine ap ?_;refine ai ?_
      cases hm
      exact kr 0
     ·rw [iN h5] at hm;have h5b := dF h5;refine aj 6 ?_;refine gox h5b ?_
      by_cases h6 : (p1.bools.length : Int) > 6000
      ·rw [iP h6] at hm;have h6b := dT h6;refine aa ?_;refine gox (a2 h5b h6b) ?_;refine hk _ _ ?_;clear hk hp k kp;refine ab rfl rfl ?_;refine am [1, 50, 51] ?_;refine ap ?_;refine ai ?_
       cases hm
       exact kr 0
      ·rw [iN h6] at hm;have h6b := dF h6;refine aj 6 ?_;refine gox (a2 h5b h6b) ?_
       by_cases h7 : (p1.get.length : Int) > 120000
       ·rw [iP h7] at hm;have h7b := dT h7;refine aa ?_;refine gox (a2 h5b (a2 h6b h7b)) ?_;refine hk _ _ ?_;clear hk hp k kp;refine ab rfl rfl ?_;refine am [1, 50, 51] ?_;refine ap ?_;refine ai ?_
        cases hm
        exact kr 0
       ·rw [iN h7] at hm;have h7b := dF h7;refine aa ?_;refine gox (a2 h5b (a2 h6b h7b)) ?_;refine hk _ _ ?_;clear hk hp k kp
        by_cases h8 : (p1.code.length : Int) > 200000
        ·rw [iP h8] at hm;refine ab rfl (dT h8) ?_;refine am [1, 50, 51] ?_;refine ap ?_;refine ai ?_
         cases hm
         exact kr 0
        ·rw [iN h8] at hm;refine ah rfl (dF h8) ?_;refine aG ?_;refine aw (hk2 _ _ ?_);refine cb (S := Unit) (V := Unit) [4, 6, 50, 52, 53, 54, 55, 56, 57, 58, 59, 60, 61, 62, 63, 64, 65, 66, 67, 68, 69, 70, 71, 72, 73, 74, 75, 76, 77, 78, 79, 80] (fun _ _ => []) (fun _ _ => [.box [.int .i64 p1.cells, .int .i64 p1.regs, .int .i64 p1.cost, .tree 1 (p1.put.map (eK .i64)), .tree 1 (p1.bools.map (eK .i64)), .tree 1 (p1.get.map (eK .i64)), .tree 6 (p1.code.map aF.enc)], .box [.int .i64 0, .int .i64 0]]) (fun _ => dI p1 = some r) ?_ ?_
         ·skip;refine am [50, 52, 53, 54, 55, 56, 57] ?_
          refine o7 [.box [.int .i64 p1.cells, .int .i64 p1.regs, .int .i64 p1.cost, .tree 1 (p1.put.map (eK .i64)), .tree 1 (p1.bools.map (eK .i64)), .tree 1 (p1.get.map (eK .i64)), .tree 6 (p1.code.map aF.enc)], .box [.int .i64 0, .int .i64 0], .arr 1 0 22 ((lit ([p1.put, p1.bools, p1.get] : List (List Int))).map (eL 1 (eK .i64)))] ?_;refine aJ ?_;obtain ⟨o2, hl2, hm2⟩ := bd hm;refine cM (S := Int) (V := Unit) (O := Unit ⊕ aq) [4, 6, 58, 60, 61, 62, 63, 64, 65, 66, 67, 68, 69, 70, 71, 72, 73, 74, 75, 76, 77, 78, 79, 80] (fun x9 _ => [(58, .c (.osl 2 0 0 3)), (60, .c (.int .i64 x9))]) (fun x9 _ => [.box [.int .i64 p1.cells, .int .i64 p1.regs, .int .i64 p1.cost, .tree 1 (p1.put.map (eK .i64)), .tree 1 (p1.bools.map (eK .i64)), .tree 1 (p1.get.map (eK .i64)), .tree 6 (p1.code.map aF.enc)], .box [.int .i64 0, .int .i64 0], .arr 1 0 22 ((lit ([p1.put, p1.bools, p1.get] : List (List Int))).map (eL 1 (eK .i64)))]) _ _ () hl2 ?_ ?_
          ·exact ls
          ·rintro x9 _ r2 hm hr2;replace hm : dL p1 x9 = some r2 := hm;refine bP ?_;unfold dL at hm;refine am [] ?_;refine aB fun k6 hk6 => ?_
           by_cases h20 : x9 < (3 : Int)
           ·rw [iP h20] at hm;refine ab rfl (dT h20) ?_;refine aG ?_;refine aw (hk6 _ _ ?_);refine cb (S := Unit) (V := Unit) [4, 6, 58, 61, 62, 63, 64, 65, 66, 67, 68, 69, 70, 71, 72, 73, 74, 75, 76, 77, 78, 79] (fun _ _ => [(58, .c (.osl 2 0 0 3))]) (fun _ _ => [.box [.int .i64 p1.cells, .int .i64 p1.regs, .int .i64 p1.cost, .tree 1 (p1.put.map (eK .i64)), .tree 1 (p1.bools.map (eK .i64)), .tree 1 (p1.get.map (eK .i64)), .tree 6 (p1.code.map aF.enc)], .box [.int .i64 0, .int .i64 0], .arr 1 0 22 ((lit ([p1.put, p1.bools, p1.get] : List (List Int))).map (eL 1 (eK .i64)))]) (fun _ => dJ x9 = some r2) ?_ ?_
            ·skip;refine aJ ?_
             obtain ⟨hg21a, hm⟩ := gd hm;refine dv (em (eL 1 (eK .i64)) (lit ([p1.put, p1.bools, p1.get] : List (List Int))) x9.toNat) [61, 62, 63] ?_;refine am [4] ?_;refine aJ ?_;obtain ⟨o3, hl3, hm3⟩ := bd hm;refine cM (S := Int) (V := Unit) (O := Unit ⊕ aq) [6, 58, 66, 67, 68, 69, 70, 71, 72, 73, 74, 75, 76, 77, 78, 79] (fun x12 _ => [(58, .c (.osl 2 0 0 3)), (66, .c (.int .i64 x12))]) (fun x12 _ => [.box [.int .i64 p1.cells, .int .i64 p1.regs, .int .i64 p1.cost, .tree 1 (p1.put.map (eK .i64)), .tree 1 (p1.bools.map (eK .i64)), .tree 1 (p1.get.map (eK .i64)), .tree 6 (p1.code.map aF.enc)], .box [.int .i64 0, .int .i64 0], .arr 1 0 22 ((lit ([p1.put, p1.bools, p1.get] : List (List Int))).map (eL 1 (eK .i64)))]) _ _ () hl3 ?_ ?_
             ·exact ls
             ·rintro x12 _ r3 hm hr3;replace hm : dK p1 x9 x12 = some r3 := hm;refine bP ?_;unfold dK at hm;refine am [] ?_;refine aB fun k7 hk7 => ?_
              by_cases h22 : x12 < (((lit ([p1.put, p1.bools, p1.get] : List (List Int))).getD x9.toNat default).length : Int)
              ·rw [iP h22] at hm;refine ab rfl (dT h22) ?_;refine aG ?_;refine aw (hk7 _ _ ?_);refine aB fun k8 hk8 => ?_;refine aJ ?_;obtain ⟨hg23a, hm⟩ := gd hm;refine dv (em (eK .i64) ((lit ([p1.put, p1.bools, p1.get] : List (List Int))).getD x9.toNat default) x12.toNat) [67, 68, 69] ?_
               by_cases h24 : (((lit ([p1.put, p1.bools, p1.get] : List (List Int))).getD x9.toNat default).getD x12.toNat default) < 0
               ·rw [iP h24] at hm;have h24b := dT h24;refine dv h24b [6, 70, 71, 72, 73, 74, 75, 76] ?_;refine ab rfl rfl ?_;refine am [1, 58, 59, 60, 64, 65, 66, 77, 78] ?_;have ho25 := aQ hm hr3;subst ho25;replace hm : some (.inr (.inr (aq.mk 16 (-1)))) = some r2 := hm3;have ho26 := aQ hm hr2;subst ho26;replace hm : some (aq.mk 16 (-1)) = some r := hm2;refine ap ?_;refine ak (ai (di (ak (ak (cP (di (ak (cP ?_))))))))
                cases hm
                exact kr 0
               ·rw [iN h24] at hm;have h24b := dF h24;refine dv h24b [6, 70, 71, 72, 73, 74, 75, 76] ?_
                by_cases h27 : (((lit ([p1.put, p1.bools, p1.get] : List (List Int))).getD x9.toNat default).getD x12.toNat default) ≥ p1.cells
                ·rw [iP h27] at hm;refine ab rfl (dT h27) ?_;refine am [1, 58, 59, 60, 64, 65, 66, 77, 78] ?_;have ho28 := aQ hm hr3;subst ho28;replace hm : some (.inr (.inr (aq.mk 16 (-1)))) = some r2 := hm3;have ho29 := aQ hm hr2;subst ho29;replace hm : some (aq.mk 16 (-1)) = some r := hm2;refine ap ?_;refine ak (ai (di (ak (ak (cP (di (ak (cP ?_))))))))
                 cases hm
                 exact kr 0
                ·rw [iN h27] at hm;refine ah rfl (dF h27) ?_;refine aG ?_;refine aO ?_;refine aw (hk8 _ _ ?_);refine eD ?_;refine bH (IntKind.wrap .i64 (x12 + 1)) () hm ?_;exact ls
              ·rw [iN h22] at hm;refine ah rfl (dF h22) ?_;refine db ?_;have ho30 := aQ hm hr3;subst ho30;replace hm : dJ x9 = some r2 := hm3;refine cD (bO (aX (aO ?_)));refine aP () () hm ?_;exact ls
            ·rintro _ _ hm;replace hm : dJ x9 = some r2 := hm;refine bP ?_;unfold dJ at hm;refine eD ?_;refine bH (IntKind.wrap .i64 (x9 + 1)) () hm ?_;exact ls
           ·rw [iN h20] at hm;refine ah rfl (dF h20) ?_;refine db ?_;have ho31 := aQ hm hr2;subst ho31;replace hm : dI p1 = some r := hm2;refine cD (bO (aX ?_));refine aP () () hm ?_;exact ls
         ·rintro _ _ hm;replace hm : dI p1 = some r := hm;refine bP ?_;unfold dI at hm;refine cb (S := Unit) (V := Unit) [7, 8, 81, 82, 83, 84, 85, 86, 87, 88, 89, 90, 91, 92, 93, 94, 95, 96] (fun _ _ => []) (fun _ _ => [.box [.int .i64 p1.cells, .int .i64 p1.regs, .int .i64 p1.cost, .tree 1 (p1.put.map (eK .i64)), .tree 1 (p1.bools.map (eK .i64)), .tree 1 (p1.get.map (eK .i64)), .tree 6 (p1.code.map aF.enc)], .box [.int .i64 0, .int .i64 0]]) (fun _ => dG p1 = some r) ?_ ?_
          ·skip;refine am [81] ?_
           refine aJ ?_;obtain ⟨o1, hl1, hm1⟩ := bd hm;refine cM (S := Int) (V := Unit) (O := Unit ⊕ aq) [7, 8, 84, 85, 86, 87, 88, 89, 90, 91, 92, 93, 94, 95, 96] (fun x4 _ => [(84, .c (.int .i64 x4))]) (fun x4 _ => [.box [.int .i64 p1.cells, .int .i64 p1.regs, .int .i64 p1.cost, .tree 1 (p1.put.map (eK .i64)), .tree 1 (p1.bools.map (eK .i64)), .tree 1 (p1.get.map (eK .i64)), .tree 6 (p1.code.map aF.enc)], .box [.int .i64 0, .int .i64 0]]) _ _ () hl1 ?_ ?_
           ·exact ls
           ·rintro x4 _ r1 hm hr1;replace hm : dH p1 x4 = some r1 := hm;refine bP ?_;unfold dH at hm;refine am [] ?_;refine aB fun k4 hk4 => ?_
            by_cases h14 : x4 < (p1.code.length : Int)
            ·rw [iP h14] at hm;refine ab rfl (dT h14) ?_;refine aG ?_;refine aw (hk4 _ _ ?_);refine aB fun k5 hk5 => ?_;refine aJ ?_;obtain ⟨hg15a, hm⟩ := gd hm;refine dv (em aF.enc p1.code x4.toNat) [85, 86, 87, 88] ?_;refine aS [8, 89, 90, 91, 92] fun k kp hk hp => ?_;refine go ?_;obtain ⟨y5, hc16, hm⟩ := bd hm;refine RP (fun _ => ja (bI.mk p1) (p1.code.getD x4.toNat default) _ hc16) ?_;refine aa ?_;refine go ?_;refine hk _ _ ?_;clear hk hp k kp
             by_cases h17 : y5 = true
             ·rw [iP h17] at hm;refine ah rfl (by rw [show y5 = true from (h17)]; rfl) ?_;refine aG ?_;refine aO ?_;refine aw (hk5 _ _ ?_);refine eD ?_;refine bH (IntKind.wrap .i64 (x4 + 1)) () hm ?_;exact ls
             ·rw [iN h17] at hm;refine ab rfl (by rw [show y5 = false from (fB h17)]; rfl) ?_;refine am [1, 7, 82, 83, 84, 93, 94, 95] ?_;have ho18 := aQ hm hr1;subst ho18;replace hm : some (aq.mk 4 x4) = some r := hm1;refine ap ?_;refine ak (ai (di (ak (cP ?_))))
              cases hm
              exact kr 0
            ·rw [iN h14] at hm;refine ah rfl (dF h14) ?_;refine db ?_;have ho19 := aQ hm hr1;subst ho19;replace hm : dG p1 = some r := hm1;refine cD (bO (aX ?_));refine aP () () hm ?_;exact ls
          ·rintro _ _ hm;replace hm : dG p1 = some r := hm;refine bP ?_;unfold dG at hm;refine aS [97, 98, 99] fun k kp hk hp => ?_;refine go ?_;obtain ⟨y1, hc9, hm⟩ := bd hm;refine RP (fun _ => lS p1.code _ hc9) ?_;refine aa ?_;refine go ?_;refine hk _ _ ?_;clear hk hp k kp;refine aB fun k3 hk3 => ?_
           by_cases h10 : y1 = 0
           ·rw [iP h10] at hm;have h10b := eQ h10;refine dX [1, 9, 100, 101, 102, 103, 104, 105, 106, 107, 108, 109, 110, 111, 112] fun k kp hk hp => ?_;refine aj 9 ?_;refine gox h10b ?_
            by_cases h11 : (p1.code.length : Int) > 0
            ·rw [iP h11] at hm;have h11b := dT h11;refine aa ?_;refine gox (a2 h10b h11b) ?_;refine hk _ _ ?_;clear hk hp k kp;refine ab rfl rfl ?_;refine am [113, 114] ?_;refine ap ?_;refine ai ?_
             cases hm
             exact kr 0
            ·rw [iN h11] at hm;have h11b := dF h11;refine aa ?_;refine gox (a2 h10b h11b) ?_;refine hk _ _ ?_;clear hk hp k kp
             by_cases h12 : ¬ y1 = p1.cost
             ·rw [iP h12] at hm;refine ab rfl (bne_iff_ne.2 h12) ?_;refine am [113, 114] ?_;refine ap ?_;refine ai ?_
              cases hm
              exact kr 0
             ·rw [iN h12] at hm;refine ah rfl (bne_eq_false_iff_eq.2 (Decidable.not_not.1 h12)) ?_;refine aG ?_;refine aw (hk3 _ _ ?_);refine am [113, 115] ?_;refine ap ?_
              cases hm
              exact kr 0
           ·rw [iN h10] at hm;have h10b := nB h10;refine dv h10b [1, 9, 100, 101, 102, 103, 104, 105, 106, 107, 108, 109, 110, 111, 112] ?_
            by_cases h13 : ¬ y1 = p1.cost
            ·rw [iP h13] at hm;refine ab rfl (bne_iff_ne.2 h13) ?_;refine am [113, 114] ?_;refine ap ?_;refine ai ?_
             cases hm
             exact kr 0
            ·rw [iN h13] at hm;refine ah rfl (bne_eq_false_iff_eq.2 (Decidable.not_not.1 h13)) ?_;refine aG ?_;refine aw (hk3 _ _ ?_);refine am [113, 115] ?_;refine ap ?_
             cases hm
             exact kr 0
theorem cK (p1 : List Int) (p2 : List Int) (v1_ : Nat) (r : (List Int)) (hm : bh p1 p2 = some r) : fV Try.prog 18 [.c (.optr 0 0), .c (.tree 1 (p1.map (eK .i64)))] [.box [.osl 1 v1_ 0 p2.length], .arr 1 v1_ 5 (p2.map (eK .u8))] (fun p σ => ∃ w1_, (p = .t [] ∧ σ = [.box [.osl 1 w1_ 0 r.length], .arr 1 w1_ 5 (r.map (eK .u8))])) (fun _ _ => False) := by
 refine bn 48 [] Try.func18 rfl rfl rfl (by kernel_rfl) (by simp) ?_;refine dR ?_;unfold bh at hm;refine am [1] ?_;refine aJ ?_;obtain ⟨o1, hl1, hm1⟩ := bd hm;refine cM (S := ((List Int) × Int)) (V := Nat) (O := (List Int)) [5, 6, 9, 10, 11, 12, 13, 14, 15, 16, 17, 18, 19, 20, 21, 22, 23, 24, 25, 26, 27, 28, 29, 30, 31, 32, 33, 34, 35, 36, 37, 38, 39, 40, 41, 42, 43, 44, 45, 46, 47] (fun (l13, x15) v14 => [(9, .c (.int .i64 x15))]) (fun (l13, x15) v14 => [.box [.osl 1 v14 0 l13.length], .arr 1 v14 5 (l13.map (eK .u8))]) _ _ v1_ hl1 ?_ ?_
 ·exact ls
 ·rintro ⟨l13, x15⟩ v14 r1 hm hr1;replace hm : aW p1 l13 x15 = some r1 := hm;refine bP ?_;unfold aW at hm;refine am [] ?_;refine aB fun k1 hk1 => ?_
  by_cases h1 : x15 < (p1.length : Int)
  ·rw [iP h1] at hm;refine ab rfl (dT h1) ?_;refine aG ?_;refine aw (hk1 _ _ ?_);refine cb (S := (List Int)) (V := Nat) [5, 6, 10, 11, 12, 13, 14, 15, 16, 17, 18, 19, 20, 21, 22, 23, 24, 25, 26, 27, 28, 29, 30, 31, 32, 33, 34, 35, 36, 37, 38, 39, 40, 41, 42, 43, 44, 45, 46] (fun l18 v19 => []) (fun l18 v19 => [.box [.osl 1 v19 0 l18.length], .arr 1 v19 5 (l18.map (eK .u8))]) (fun l18 => cJ x15 l18 = some r1) ?_ ?_
   ·skip;refine aJ ?_
    obtain ⟨hg2a, hm⟩ := gd hm;refine dv (em (eK .i64) p1 x15.toNat) [10, 11, 12] ?_;refine am [5, 13, 14, 15, 16, 17, 18, 19] ?_;refine cb (S := ((List Int) × Int)) (V := Nat) [6, 20, 21, 22, 23, 24, 25, 26, 27, 28, 29, 30, 31, 32, 33, 34, 35] (fun (l22, x24) v23 => [(6, .c (.int .u64 x24))]) (fun (l22, x24) v23 => [.box [.osl 1 v23 0 l22.length], .arr 1 v23 5 (l22.map (eK .u8))]) (fun (l22, x24) => bB x15 l22 x24 = some r1) ?_ ?_
    ·skip;refine aJ ?_
     obtain ⟨o2, hl2, hm2⟩ := bd hm;refine cM (S := ((List Int) × Int)) (V := Nat) (O := ((List Int) × Int)) [6, 20, 21, 22, 23, 24, 25, 26, 27, 28, 29, 30, 31, 32, 33, 34, 35] (fun (l39, x41) v40 => [(6, .c (.int .u64 x41))]) (fun (l39, x41) v40 => [.box [.osl 1 v40 0 l39.length], .arr 1 v40 5 (l39.map (eK .u8))]) _ _ v14 hl2 ?_ ?_
     ·exact ls
     ·rintro ⟨l39, x41⟩ v40 r2 hm hr2;replace hm : aV l39 x41 = some r2 := hm;refine bP ?_;unfold aV at hm;refine aB fun k2 hk2 => ?_;refine am [20] ?_
      by_cases h4 : x41 ≥ 128
      ·rw [iP h4] at hm;refine ab rfl (dT h4) ?_;refine aG ?_;refine aw (hk2 _ _ ?_);refine aB fun k3 hk3 => ?_;refine aJ ?_;obtain ⟨⟨hg5ax, hg5ay⟩, hm⟩ := gd hm;refine eD ?_;refine aO ?_;refine aw (hk3 _ _ ?_);refine eD ?_;refine bH ((l39 ++ (lit ([(bits .or .u8 (IntKind.wrap .u8 x41) 128)] : List Int))), (x41.fdiv (2 ^ (min 7 (IntKind.bits .u64))))) (v40 + 1) hm ?_;exact ls
      ·rw [iN h4] at hm;refine ah rfl (dF h4) ?_;refine db ?_;have ho6 := aQ hm hr2;subst ho6;replace hm : bB x15 l39 x41 = some r1 := hm2;refine cD (bO (aX ?_));refine aP (l39, x41) v40 hm ?_;exact ls
    ·rintro ⟨l22, x24⟩ v23 hm;replace hm : bB x15 l22 x24 = some r1 := hm;refine bP ?_;unfold bB at hm;obtain ⟨⟨hg3ax, hg3ay⟩, hm⟩ := gd hm;refine eD ?_;refine aO ?_;refine aP (l22 ++ (lit ([(IntKind.wrap .u8 x24)] : List Int))) (v23 + 1) hm ?_;exact ls
   ·rintro l18 v19 hm;replace hm : cJ x15 l18 = some r1 := hm;refine bP ?_;unfold cJ at hm;refine eD ?_;refine bH (l18, (IntKind.wrap .i64 (x15 + 1))) v19 hm ?_;exact ls
  ·rw [iN h1] at hm;refine ah rfl (dF h1) ?_;refine db ?_;have ho7 := aQ hm hr1;subst ho7;replace hm : some l13 = some r := hm1;refine cD (bO (aX ?_))
   cases hm
   exact kn 2
theorem d9 (p1 : List Int) (p2 : List Int) (v1_ : Nat) (r : (List Int)) (hm : bY p1 p2 = some r) : fV Try.prog 19 [.c (.optr 0 0), .c (.tree 1 (p1.map (eK .i64)))] [.box [.osl 1 v1_ 0 p2.length], .arr 1 v1_ 5 (p2.map (eK .u8))] (fun p σ => ∃ w1_, (p = .t [] ∧ σ = [.box [.osl 1 w1_ 0 r.length], .arr 1 w1_ 5 (r.map (eK .u8))])) (fun _ _ => False) := by
 refine bn 22 [] Try.func19 rfl rfl rfl (by kernel_rfl) (by simp) ?_;refine dR ?_;unfold bY at hm;refine aS [6, 7, 8, 9, 10] fun k kp hk hp => ?_;refine go ?_;refine aU (cy 2 rfl) ?_;refine gt ?_;obtain ⟨y1, hc1, hm⟩ := bd hm;refine RA (cK (lit ([(p1.length : Int)] : List Int)) p2 v1_ _ hc1) [0, 1] ?_;rintro p σ' hq2 _;obtain ⟨v2, rfl, rfl⟩ := hq2;refine aa ?_;refine go ?_;refine hk _ _ ?_;clear hk hp k kp;refine am [1] ?_;refine aJ ?_;obtain ⟨o1, hl1, hm1⟩ := bd hm;refine cM (S := ((List Int) × Int)) (V := Nat) (O := (List Int)) [5, 13, 14, 15, 16, 17, 18, 19, 20, 21] (fun (l17, x19) v18 => [(13, .c (.int .i64 x19))]) (fun (l17, x19) v18 => [.box [.osl 1 v18 0 l17.length], .arr 1 v18 5 (l17.map (eK .u8)), .dead]) _ _ v2 hl1 ?_ ?_
 ·exact ls
 ·rintro ⟨l17, x19⟩ v18 r1 hm hr1;replace hm : aR p1 l17 x19 = some r1 := hm;refine bP ?_;unfold aR at hm;refine am [] ?_;refine aB fun k1 hk1 => ?_
  by_cases h3 : x19 < (p1.length : Int)
  ·rw [iP h3] at hm;refine ab rfl (dT h3) ?_;refine aG ?_;refine aw (hk1 _ _ ?_);refine aB fun k2 hk2 => ?_;refine aJ ?_;obtain ⟨hg4a, hm⟩ := gd hm;refine dv (em (eK .i64) p1 x19.toNat) [14, 15, 16] ?_;refine jk fun k kp hk hp => ?_;refine go ?_;refine aU (cy 3 rfl) ?_;refine gt ?_;obtain ⟨y20, hc5, hm⟩ := bd hm;refine RA (cK (lit ([(p1.getD x19.toNat default)] : List Int)) l17 v18 _ hc5) [0, 1] ?_;rintro p σ' hq6 _;obtain ⟨v21, rfl, rfl⟩ := hq6;refine aa ?_;refine go ?_;refine hk _ _ ?_;clear hk hp k kp;refine aO ?_;refine aw (hk2 _ _ ?_);refine eD ?_;refine bH (y20, (IntKind.wrap .i64 (x19 + 1))) v21 hm ?_;exact ls
  ·rw [iN h3] at hm;refine ah rfl (dF h3) ?_;refine db ?_;have ho7 := aQ hm hr1;subst ho7;replace hm : some l17 = some r := hm1;refine cD (bO (aX ?_))
   cases hm
   exact kn 2
theorem lT (p1 : List Int) (v0_ : Nat) (r : Int) (hm : iz p1 = some r) : fV Try.prog 14 [.c (.osl 0 v0_ 0 p1.length)] [.arr 1 v0_ 5 (p1.map (eK .u8))] (fun p σ => (p = .c (.int .u32 r) ∧ σ = [.arr 1 v0_ 5 (p1.map (eK .u8))])) (fun _ _ => False) := by
 refine bn 29 [.tmp 2] Try.func14 rfl rfl rfl (by kernel_rfl) (by simp) ?_;refine dR ?_;unfold iz at hm;refine am [2] ?_;refine am [] ?_;refine cb (S := Int) (V := Unit) [0, 3, 5, 6, 7, 8, 9, 10, 11, 12, 13, 14, 15, 16, 17, 18, 19, 20, 21, 22, 23, 24, 25, 26] (fun x1 _ => [(3, .c (.int .u32 x1))]) (fun x1 _ => [.arr 1 v0_ 5 (p1.map (eK .u8))]) (fun x1 => eW x1 = some r) ?_ ?_
 ·skip;refine am [0] ?_
  refine aJ ?_;obtain ⟨o1, hl1, hm1⟩ := bd hm;refine cM (S := (Int × Int)) (V := Unit) (O := Int) [3, 5, 6, 8, 9, 10, 11, 12, 13, 14, 15, 16, 17, 18, 19, 20, 21, 22, 23, 24, 25, 26] (fun (x6, x7) _ => [(3, .c (.int .u32 x6)), (6, .c (.osl 0 v0_ 0 p1.length)), (8, .c (.int .i64 x7))]) (fun (x6, x7) _ => [.arr 1 v0_ 5 (p1.map (eK .u8))]) _ _ () hl1 ?_ ?_
  ·exact ls
  ·rintro ⟨x6, x7⟩ _ r1 hm hr1;replace hm : hB p1 x6 x7 = some r1 := hm;refine bP ?_;unfold hB at hm;refine am [] ?_;refine aB fun k1 hk1 => ?_
   by_cases h1 : x7 < (p1.length : Int)
   ·rw [iP h1] at hm;refine ab rfl (dT h1) ?_;refine aG ?_;refine aw (hk1 _ _ ?_);refine cb (S := Int) (V := Unit) [3, 5, 6, 9, 10, 11, 12, 13, 14, 15, 16, 17, 18, 19, 20, 21, 22, 23, 24, 25] (fun x8 _ => [(3, .c (.int .u32 x8)), (6, .c (.osl 0 v0_ 0 p1.length))]) (fun x8 _ => [.arr 1 v0_ 5 (p1.map (eK .u8))]) (fun x8 => eX x7 x8 = some r1) ?_ ?_
    ·skip;refine aJ ?_
     obtain ⟨hg2a, hm⟩ := gd hm;refine dv (em (eK .u8) p1 x7.toNat) [9, 10, 11] ?_;refine am [5, 12, 13, 14, 15] ?_;refine am [] ?_;refine aJ ?_;obtain ⟨o2, hl2, hm2⟩ := bd hm;refine cM (S := (Int × Int)) (V := Unit) (O := Int) [3, 6, 16, 17, 18, 19, 20, 21, 22, 23, 24, 25] (fun (x13, x14) _ => [(3, .c (.int .u32 x13)), (6, .c (.osl 0 v0_ 0 p1.length)), (16, .c (.int .i64 x14))]) (fun (x13, x14) _ => [.arr 1 v0_ 5 (p1.map (eK .u8))]) _ _ () hl2 ?_ ?_
     ·exact ls
     ·rintro ⟨x13, x14⟩ _ r2 hm hr2;replace hm : gZ x13 x14 = some r2 := hm;refine bP ?_;unfold gZ at hm;refine am [] ?_;refine aB fun k2 hk2 => ?_
      by_cases h3 : x14 < 8
      ·rw [iP h3] at hm;refine ab rfl (dT h3) ?_;refine aG ?_;refine aw (hk2 _ _ ?_);refine aB fun k3 hk3 => ?_;refine aJ ?_;refine eD ?_;refine aO ?_;refine aw (hk3 _ _ ?_);refine eD ?_;refine bH ((bits .xor .u32 (x13.fdiv (2 ^ (min 1 (IntKind.bits .u32)))) (bits .and .u32 3988292384 (IntKind.wrap .u32 (0 - (bits .and .u32 x13 1))))), (IntKind.wrap .i64 (x14 + 1))) () hm ?_;exact ls
      ·rw [iN h3] at hm;refine ah rfl (dF h3) ?_;refine db ?_;have ho4 := aQ hm hr2;subst ho4;replace hm : eX x7 x13 = some r1 := hm2;refine cD (bO (aX (aO ?_)));refine aP x13 () hm ?_;exact ls
    ·rintro x8 _ hm;replace hm : eX x7 x8 = some r1 := hm;refine bP ?_;unfold eX at hm;refine eD ?_;refine bH (x8, (IntKind.wrap .i64 (x7 + 1))) () hm ?_;exact ls
   ·rw [iN h1] at hm;refine ah rfl (dF h1) ?_;refine db ?_;have ho5 := aQ hm hr1;subst ho5;replace hm : eW x6 = some r := hm1;refine cD (bO (aX ?_));refine aP x6 () hm ?_;exact ls
 ·rintro x1 _ hm;replace hm : eW x1 = some r := hm;refine bP ?_;unfold eW at hm;refine am [3, 27, 28] ?_;refine ap ?_
  cases hm
  exact kr 1
theorem fD (p1 : ag) (r : ((List Int) × aq)) (hm : cq p1 = some r) : eu Try.prog 9 [.a [.int .i64 p1.cells, .int .i64 p1.regs, .int .i64 p1.cost, .tree 1 (p1.put.map (eK .i64)), .tree 1 (p1.bools.map (eK .i64)), .tree 1 (p1.get.map (eK .i64)), .tree 6 (p1.code.map aF.enc)]] (.t [.c (.tree 1 (r.1.map (eK .u8))), .a [.int .i64 ((r.2).code), .int .i64 ((r.2).at_)]]) := by
 refine bn 95 [.tmp 2, .cell 3 31] Try.func9 rfl rfl rfl (by kernel_rfl) (by simp) ?_;refine dR ?_;unfold cq at hm;refine am [0, 2] ?_;refine aB fun k1 hk1 => ?_;refine aS [9, 10] fun k kp hk hp => ?_;refine go ?_;obtain ⟨y1, hc1, hm⟩ := bd hm;refine RP (fun _ => iR p1 _ hc1) ?_;refine aa ?_;refine go ?_;refine hk _ _ ?_;clear hk hp k kp;refine am [11, 12] ?_
 by_cases h2 : ¬ ((y1).code) = 0
 ·rw [iP h2] at hm;refine ab rfl (bne_iff_ne.2 h2) ?_;refine rQ [1, 4, 13, 14] [0, 0, 3] [false, false, true] ?_
  refine fJ (jA 2 (.c (.tree 1 (([] : List _).map (eK .u8)))) rfl (by and_intros <;> trivial)) ?_
  refine qu ?_;refine ap ?_;refine ai ?_
  cases hm
  exact kr 0
 ·rw [iN h2] at hm;refine ah rfl (bne_eq_false_iff_eq.2 (Decidable.not_not.1 h2)) ?_;refine aG ?_;refine aw (hk1 _ _ ?_);refine dX [4, 13, 15, 16, 17, 18] fun k kp hk hp => ?_;refine aj 1 ?_;refine go ?_
  refine RS (mo rfl (by first | rfl | (simp only [bR, bT, tab, bX, reduceIte, ↓reduceIte, reduceCtorEq, Int.reduceToNat, Nat.reduceDiv, Nat.reduceMod, Nat.reduceLT, Nat.reduceLeDiff, Nat.reduceAdd, Nat.reduceSub, Nat.reduceMul, Nat.reduceEqDiff, Nat.reduceBEq, Nat.reduceBNe, Nat.reduceGT]; done)) rfl (by first | kernel_rfl | exact of_decide_eq_true (by kernel_rfl)) (by first | kernel_rfl | exact of_decide_eq_true (by kernel_rfl)) (by first | assumption | omega)) ?_
  simp only [bR, bT, tab, bX, reduceIte, ↓reduceIte, reduceCtorEq, Int.reduceToNat, Nat.reduceDiv, Nat.reduceMod, Nat.reduceLT, Nat.reduceLeDiff, Nat.reduceAdd, Nat.reduceSub, Nat.reduceMul, Nat.reduceEqDiff, Nat.reduceBEq, Nat.reduceBNe, Nat.reduceGT];refine aa ?_;refine go ?_;refine hk _ _ ?_;clear hk hp k kp;refine o7 [.box [.int .i64 p1.cells, .int .i64 p1.regs, .int .i64 p1.cost, .tree 1 (p1.put.map (eK .i64)), .tree 1 (p1.bools.map (eK .i64)), .tree 1 (p1.get.map (eK .i64)), .tree 6 (p1.code.map aF.enc)], .box [.int .i64 0, .int .i64 0], .box [.int .i64 ((y1).code), .int .i64 ((y1).at_)], .arr 1 0 5 ((lit ([76, 87, 1] : List Int)).map (eK .u8)), .box [.osl 3 0 0 3]] ?_;refine aS [19, 20, 21, 22, 23, 24, 25, 26, 27] fun k kp hk hp => ?_;refine go ?_;refine aU (cy 5 rfl) ?_;refine gt ?_;obtain ⟨y2, hc3, hm⟩ := bd hm;refine RA (cK (lit ([p1.cells, p1.regs, p1.cost] : List Int)) (lit ([76, 87, 1] : List Int)) 0 _ hc3) [4, 3] ?_;rintro p σ' hq4 _;obtain ⟨v3, rfl, rfl⟩ := hq4;refine aa ?_;refine go ?_;refine hk _ _ ?_;clear hk hp k kp;refine aS [28, 29, 30, 31] fun k kp hk hp => ?_;refine go ?_;obtain ⟨y4, hc5, hm⟩ := bd hm;refine RA (d9 p1.put y2 v3 _ hc5) [4, 3] ?_;rintro p σ' hq6 _;obtain ⟨v5, rfl, rfl⟩ := hq6;refine aa ?_;refine go ?_;refine hk _ _ ?_;clear hk hp k kp;refine aS [32, 33, 34, 35] fun k kp hk hp => ?_;refine go ?_;obtain ⟨y6, hc7, hm⟩ := bd hm;refine RA (d9 p1.bools y4 v5 _ hc7) [4, 3] ?_;rintro p σ' hq8 _;obtain ⟨v7, rfl, rfl⟩ := hq8;refine aa ?_;refine go ?_;refine hk _ _ ?_;clear hk hp k kp;refine aS [36, 37, 38, 39] fun k kp hk hp => ?_;refine go ?_;obtain ⟨y8, hc9, hm⟩ := bd hm;refine RA (d9 p1.get y6 v7 _ hc9) [4, 3] ?_;rintro p σ' hq10 _;obtain ⟨v9, rfl, rfl⟩ := hq10;refine aa ?_;refine go ?_;refine hk _ _ ?_;clear hk hp k kp;refine aS [40, 41, 42, 43, 44, 45] fun k kp hk hp => ?_;refine go ?_;refine aU (cy 6 rfl) ?_;refine gt ?_;obtain ⟨y10, hc11, hm⟩ := bd hm;refine RA (cK (lit ([(p1.code.length : Int)] : List Int)) y8 v9 _ hc11) [4, 3] ?_;rintro p σ' hq12 _;obtain ⟨v11, rfl, rfl⟩ := hq12;refine aa ?_;refine go ?_;refine hk _ _ ?_;clear hk hp k kp;refine cb (S := (List Int)) (V := Nat) [1, 7, 46, 47, 48, 49, 50, 51, 52, 53, 54, 55, 56, 57, 58, 59, 60, 61, 62, 63, 64, 65, 66, 67, 68] (fun l14 v15 => []) (fun l14 v15 => [.box [.int .i64 p1.cells, .int .i64 p1.regs, .int .i64 p1.cost, .tree 1 (p1.put.map (eK .i64)), .tree 1 (p1.bools.map (eK .i64)), .tree 1 (p1.get.map (eK .i64)), .tree 6 (p1.code.map aF.enc)], .box [.int .i64 0, .int .i64 0], .box [.int .i64 ((y1).code), .int .i64 ((y1).at_)], .arr 1 v15 5 (l14.map (eK .u8)), .box [.osl 3 v15 0 l14.length], .dead, .dead]) (fun l14 => cH l14 = some r) ?_ ?_
  ·skip;refine am [1, 46] ?_
   refine aJ ?_;obtain ⟨o2, hl2, hm2⟩ := bd hm;refine cM (S := ((List Int) × Int)) (V := Nat) (O := (List Int)) [7, 49, 50, 51, 52, 53, 54, 55, 56, 57, 58, 59, 60, 61, 62, 63, 64, 65, 66, 67, 68] (fun (l56, x58) v57 => [(49, .c (.int .i64 x58))]) (fun (l56, x58) v57 => [.box [.int .i64 p1.cells, .int .i64 p1.regs, .int .i64 p1.cost, .tree 1 (p1.put.map (eK .i64)), .tree 1 (p1.bools.map (eK .i64)), .tree 1 (p1.get.map (eK .i64)), .tree 6 (p1.code.map aF.enc)], .box [.int .i64 0, .int .i64 0], .box [.int .i64 ((y1).code), .int .i64 ((y1).at_)], .arr 1 v57 5 (l56.map (eK .u8)), .box [.osl 3 v57 0 l56.length], .dead, .dead]) _ _ v11 hl2 ?_ ?_
   ·exact ls
   ·rintro ⟨l56, x58⟩ v57 r2 hm hr2;replace hm : bu p1 l56 x58 = some r2 := hm;refine bP ?_;unfold bu at hm;refine am [] ?_;refine aB fun k4 hk4 => ?_
    by_cases h18 : x58 < (p1.code.length : Int)
    ·rw [iP h18] at hm;refine ab rfl (dT h18) ?_;refine aG ?_;refine aw (hk4 _ _ ?_);refine aB fun k5 hk5 => ?_;refine aJ ?_;obtain ⟨hg19a, hm⟩ := gd hm;refine dv (em aF.enc p1.code x58.toNat) [50, 51, 52] ?_;refine jk fun k kp hk hp => ?_;refine go ?_;refine aU (cy 8 rfl) ?_;refine gt ?_;obtain ⟨y59, hc20, hm⟩ := bd hm;refine RA (cK (lit ([(p1.code.getD x58.toNat default).op, (p1.code.getD x58.toNat default).k, (p1.code.getD x58.toNat default).r_, (p1.code.getD x58.toNat default).a, (p1.code.getD x58.toNat default).b, (p1.code.getD x58.toNat default).n] : List Int)) l56 v57 _ hc20) [4, 3] ?_;rintro p σ' hq21 _;obtain ⟨v60, rfl, rfl⟩ := hq21;refine aa ?_;refine go ?_;refine hk _ _ ?_;clear hk hp k kp;refine aO ?_;refine aw (hk5 _ _ ?_);refine eD ?_;refine bH (y59, (IntKind.wrap .i64 (x58 + 1))) v60 hm ?_;exact ls
    ·rw [iN h18] at hm;refine ah rfl (dF h18) ?_;refine db ?_;have ho22 := aQ hm hr2;subst ho22;replace hm : cH l56 = some r := hm2;refine cD (bO (aX ?_));refine aP l56 v57 hm ?_;exact ls
  ·rintro l14 v15 hm;replace hm : cH l14 = some r := hm;refine bP ?_;unfold cH at hm;refine aS [69, 70, 71, 72, 73] fun k kp hk hp => ?_;refine go ?_;obtain ⟨y16, hc13, hm⟩ := bd hm;refine RA (lT l14 v15 _ hc13) [3] ?_;rintro p σ' ⟨rfl, rfl⟩ _;refine aa ?_;refine go ?_;refine hk _ _ ?_;clear hk hp k kp;refine cb (S := (List Int)) (V := Nat) [8, 74, 75, 76, 77, 78, 79, 80, 81, 82, 83, 84, 85, 86, 87, 88, 89] (fun l19 v20 => []) (fun l19 v20 => [.box [.int .i64 p1.cells, .int .i64 p1.regs, .int .i64 p1.cost, .tree 1 (p1.put.map (eK .i64)), .tree 1 (p1.bools.map (eK .i64)), .tree 1 (p1.get.map (eK .i64)), .tree 6 (p1.code.map aF.enc)], .box [.int .i64 0, .int .i64 0], .box [.int .i64 ((y1).code), .int .i64 ((y1).at_)], .arr 1 v20 5 (l19.map (eK .u8)), .box [.osl 3 v20 0 l19.length], .dead, .dead]) (fun l19 => dC l19 = some r) ?_ ?_
   ·skip;refine am [] ?_
    refine aJ ?_;obtain ⟨o1, hl1, hm1⟩ := bd hm;refine cM (S := ((List Int) × Int × Int)) (V := Nat) (O := (List Int)) [8, 74, 75, 76, 77, 78, 79, 80, 81, 82, 83, 84, 85, 86, 87, 88, 89] (fun (l37, x39, x40) v38 => [(8, .c (.int .u32 x39)), (74, .c (.int .i64 x40))]) (fun (l37, x39, x40) v38 => [.box [.int .i64 p1.cells, .int .i64 p1.regs, .int .i64 p1.cost, .tree 1 (p1.put.map (eK .i64)), .tree 1 (p1.bools.map (eK .i64)), .tree 1 (p1.get.map (eK .i64)), .tree 6 (p1.code.map aF.enc)], .box [.int .i64 0, .int .i64 0], .box [.int .i64 ((y1).code), .int .i64 ((y1).at_)], .arr 1 v38 5 (l37.map (eK .u8)), .box [.osl 3 v38 0 l37.length], .dead, .dead]) _ _ v15 hl1 ?_ ?_
    ·exact ls
    ·rintro ⟨l37, x39, x40⟩ v38 r1 hm hr1;replace hm : a9 l37 x39 x40 = some r1 := hm;refine bP ?_;unfold a9 at hm;refine am [] ?_;refine aB fun k2 hk2 => ?_
     by_cases h15 : x40 < 4
     ·rw [iP h15] at hm;refine ab rfl (dT h15) ?_;refine aG ?_;refine aw (hk2 _ _ ?_);refine aB fun k3 hk3 => ?_;refine aJ ?_;obtain ⟨⟨hg16ax, hg16ay⟩, hm⟩ := gd hm;refine am [75, 76, 77, 78, 79, 80, 81, 82, 83, 84, 85, 86] ?_;refine o7 [.box [.int .i64 p1.cells, .int .i64 p1.regs, .int .i64 p1.cost, .tree 1 (p1.put.map (eK .i64)), .tree 1 (p1.bools.map (eK .i64)), .tree 1 (p1.get.map (eK .i64)), .tree 6 (p1.code.map aF.enc)], .box [.int .i64 0, .int .i64 0], .box [.int .i64 ((y1).code), .int .i64 ((y1).at_)], .arr 1 (v38 + 1) 5 ((l37 ++ (lit ([(IntKind.wrap .u8 x39)] : List Int))).map (eK .u8)), .box [.osl 3 (v38 + 1) 0 (l37.length + 1)], .dead, .dead, .arr 1 0 5 ((lit ([(IntKind.wrap .u8 x39)] : List Int)).map (eK .u8))] ?_;refine eD ?_;refine aO ?_;refine aw (hk3 _ _ ?_);refine eD ?_;refine bH ((l37 ++ (lit ([(IntKind.wrap .u8 x39)] : List Int))), (x39.fdiv (2 ^ (min 8 (IntKind.bits .u32)))), (IntKind.wrap .i64 (x40 + 1))) (v38 + 1) hm ?_;exact ls
     ·rw [iN h15] at hm;refine ah rfl (dF h15) ?_;refine db ?_;have ho17 := aQ hm hr1;subst ho17;replace hm : dC l37 = some r := hm1;refine cD (bO (aX ?_));refine aP l37 v38 hm ?_;exact ls
   ·rintro l19 v20 hm;replace hm : dC l19 = some r := hm;refine bP ?_;unfold dC at hm;refine am [5, 90, 91, 92, 93, 94] ?_;refine pW (cy 3 rfl) ?_;refine ap ?_
    cases hm
    exact kr 0
theorem ip (p1 : List Int) (r : Int) (hm : dY p1 = some r) : eu Try.prog 14 [.c (.tree 1 (p1.map (eK .u8)))] (.c (.int .u32 r)) := by
 refine bn 29 [.tmp 2] Try.func14 rfl rfl rfl (by kernel_rfl) (by simp) ?_;refine dR ?_;unfold dY at hm;refine am [2] ?_;refine am [] ?_;refine cb (S := Int) (V := Unit) [0, 3, 5, 6, 7, 8, 9, 10, 11, 12, 13, 14, 15, 16, 17, 18, 19, 20, 21, 22, 23, 24, 25, 26] (fun x1 _ => [(3, .c (.int .u32 x1))]) (fun x1 _ => []) (fun x1 => dk x1 = some r) ?_ ?_
 ·skip;refine am [0] ?_
  refine aJ ?_;obtain ⟨o1, hl1, hm1⟩ := bd hm;refine cM (S := (Int × Int)) (V := Unit) (O := Int) [3, 5, 8, 9, 10, 11, 12, 13, 14, 15, 16, 17, 18, 19, 20, 21, 22, 23, 24, 25, 26] (fun (x6, x7) _ => [(3, .c (.int .u32 x6)), (8, .c (.int .i64 x7))]) (fun (x6, x7) _ => []) _ _ () hl1 ?_ ?_
  ·exact ls
  ·rintro ⟨x6, x7⟩ _ r1 hm hr1;replace hm : b8 p1 x6 x7 = some r1 := hm;refine bP ?_;unfold b8 at hm;refine am [] ?_;refine aB fun k1 hk1 => ?_
   by_cases h1 : x7 < (p1.length : Int)
   ·rw [iP h1] at hm;refine ab rfl (dT h1) ?_;refine aG ?_;refine aw (hk1 _ _ ?_);refine cb (S := Int) (V := Unit) [3, 5, 9, 10, 11, 12, 13, 14, 15, 16, 17, 18, 19, 20, 21, 22, 23, 24, 25] (fun x8 _ => [(3, .c (.int .u32 x8))]) (fun x8 _ => []) (fun x8 => dl x7 x8 = some r1) ?_ ?_
    ·skip;refine aJ ?_
     obtain ⟨hg2a, hm⟩ := gd hm;refine dv (em (eK .u8) p1 x7.toNat) [9, 10, 11] ?_;refine am [5, 12, 13, 14, 15] ?_;refine am [] ?_;refine aJ ?_;obtain ⟨o2, hl2, hm2⟩ := bd hm;refine cM (S := (Int × Int)) (V := Unit) (O := Int) [3, 16, 17, 18, 19, 20, 21, 22, 23, 24, 25] (fun (x13, x14) _ => [(3, .c (.int .u32 x13)), (16, .c (.int .i64 x14))]) (fun (x13, x14) _ => []) _ _ () hl2 ?_ ?_
     ·exact ls
     ·rintro ⟨x13, x14⟩ _ r2 hm hr2;replace hm : bK x13 x14 = some r2 := hm;refine bP ?_;unfold bK at hm;refine am [] ?_;refine aB fun k2 hk2 => ?_
      by_cases h3 : x14 < 8
      ·rw [iP h3] at hm;refine ab rfl (dT h3) ?_;refine aG ?_;refine aw (hk2 _ _ ?_);refine aB fun k3 hk3 => ?_;refine aJ ?_;refine eD ?_;refine aO ?_;refine aw (hk3 _ _ ?_);refine eD ?_;refine bH ((bits .xor .u32 (x13.fdiv (2 ^ (min 1 (IntKind.bits .u32)))) (bits .and .u32 3988292384 (IntKind.wrap .u32 (0 - (bits .and .u32 x13 1))))), (IntKind.wrap .i64 (x14 + 1))) () hm ?_;exact ls
      ·rw [iN h3] at hm;refine ah rfl (dF h3) ?_;refine db ?_;have ho4 := aQ hm hr2;subst ho4;replace hm : dl x7 x13 = some r1 := hm2;refine cD (bO (aX (aO ?_)));refine aP x13 () hm ?_;exact ls
    ·rintro x8 _ hm;replace hm : dl x7 x8 = some r1 := hm;refine bP ?_;unfold dl at hm;refine eD ?_;refine bH (x8, (IntKind.wrap .i64 (x7 + 1))) () hm ?_;exact ls
   ·rw [iN h1] at hm;refine ah rfl (dF h1) ?_;refine db ?_;have ho5 := aQ hm hr1;subst ho5;replace hm : dk x6 = some r := hm1;refine cD (bO (aX ?_));refine aP x6 () hm ?_;exact ls
 ·rintro x1 _ hm;replace hm : dk x1 = some r := hm;refine bP ?_;unfold dk at hm;refine am [3, 27, 28] ?_;refine ap ?_
  cases hm
  exact kr 0
theorem jq (r : Bool) (hm : dZ  = some r) : eu Try.prog 6 [] (.c (.bool r)) := by
 refine bn 34 [.tmp 0] Try.func6 rfl rfl rfl (by kernel_rfl) (by simp) ?_;refine dR ?_;unfold dZ at hm;refine am [0] ?_;refine aS [3, 4, 5, 6, 7] fun k kp hk hp => ?_;refine go ?_
 refine aU (jA 4 (.a [.int .i64 100, .int .i64 3, .int .i64 0, .tree 1 ([].map (eK .i64)), .tree 1 ([].map (eK .i64)), .tree 1 ([].map (eK .i64)), .tree 6 ([].map aF.enc)]) rfl (by and_intros <;> trivial)) ?_
 refine go ?_;obtain ⟨y1, hc1, hm⟩ := bd hm;refine RP (fun _ => fD (ag.mk 100 3 0 [] [] [] []) _ hc1) ?_;refine aa ?_;refine go ?_;refine hk _ _ ?_;clear hk hp k kp;refine dX [1, 2, 8, 9, 10, 11, 12, 13, 14, 15, 16, 17, 18, 19, 20, 21, 22, 23, 24, 25, 26, 27, 28, 29, 30, 31, 32, 33] fun k kp hk hp => ?_;refine aj 4 ?_;refine go ?_
 by_cases h2 : ((y1.2).code) = 0
 ·rw [iP h2] at hm;have h2b := eQ h2;refine aj 5 ?_;refine gox h2b ?_
  by_cases h3 : (y1.1.length : Int) = 15
  ·rw [iP h3] at hm;have h3b := eQ h3;obtain ⟨hg4a, hm⟩ := gd hm;refine aj 6 ?_;refine gox (a2 (em (eK .u8) y1.1 3) (a2 h2b h3b)) ?_
   by_cases h5 : (y1.1.getD 3 default) = 200
   ·rw [iP h5] at hm;have h5b := eQ h5;obtain ⟨hg6a, hm⟩ := gd hm;refine aj 6 ?_;refine gox (a2 (em (eK .u8) y1.1 4) (a2 h2b (a2 h3b h5b))) ?_
    by_cases h7 : (y1.1.getD 4 default) = 1
    ·rw [iP h7] at hm;have h7b := eQ h7;refine aj 1 ?_;refine gox (a2 h2b (a2 h3b (a2 h5b h7b))) ?_
     refine RS (mo rfl (by first | rfl | (simp only [bR, bT, tab, bX, reduceIte, ↓reduceIte, reduceCtorEq, Int.reduceToNat, Nat.reduceDiv, Nat.reduceMod, Nat.reduceLT, Nat.reduceLeDiff, Nat.reduceAdd, Nat.reduceSub, Nat.reduceMul, Nat.reduceEqDiff, Nat.reduceBEq, Nat.reduceBNe, Nat.reduceGT]; done)) rfl (by first | kernel_rfl | exact of_decide_eq_true (by kernel_rfl)) (by first | kernel_rfl | exact of_decide_eq_true (by kernel_rfl)) (by first | assumption | omega)) ?_
     simp only [bR, bT, tab, bX, reduceIte, ↓reduceIte, reduceCtorEq, Int.reduceToNat, Nat.reduceDiv, Nat.reduceMod, Nat.reduceLT, Nat.reduceLeDiff, Nat.reduceAdd, Nat.reduceSub, Nat.reduceMul, Nat.reduceEqDiff, Nat.reduceBEq, Nat.reduceBNe, Nat.reduceGT];refine aa ?_;refine gox (a2 h2b (a2 h3b (a2 h5b h7b))) ?_;refine aU (cy 1 rfl) ?_;refine gtx (a2 h2b (a2 h3b (a2 h5b h7b))) ?_;obtain ⟨y2, hc8, hm⟩ := bd hm;refine RP (fun _ => ip (lit ([49, 50, 51, 52, 53, 54, 55, 56, 57] : List Int)) _ hc8) ?_;refine aa ?_;refine gox (a2 h2b (a2 h3b (a2 h5b h7b))) ?_;refine hk _ _ ?_;clear hk hp k kp;refine ap ?_
     cases hm
     exact kr 0
    ·rw [iN h7] at hm;have h7b := nB h7;refine aa ?_;refine gox (a2 h2b (a2 h3b (a2 h5b h7b))) ?_;refine hk _ _ ?_;clear hk hp k kp;refine ap ?_
     cases hm
     exact kr 0
   ·rw [iN h5] at hm;have h5b := nB h5;refine aa ?_;refine gox (a2 h2b (a2 h3b h5b)) ?_;refine hk _ _ ?_;clear hk hp k kp;refine ap ?_
    cases hm
    exact kr 0
  ·rw [iN h3] at hm;have h3b := nB h3;refine aa ?_;refine gox (a2 h2b h3b) ?_;refine hk _ _ ?_;clear hk hp k kp;refine ap ?_
   cases hm
   exact kr 0
 ·rw [iN h2] at hm;have h2b := nB h2;refine aa ?_;refine gox h2b ?_;refine hk _ _ ?_;clear hk hp k kp;refine ap ?_
  cases hm
  exact kr 0
theorem jr (p1 : ag) (r : Bool) (hm : d8 p1 = some r) : eu Try.prog 7 [.a [.int .i64 p1.cells, .int .i64 p1.regs, .int .i64 p1.cost, .tree 1 (p1.put.map (eK .i64)), .tree 1 (p1.bools.map (eK .i64)), .tree 1 (p1.get.map (eK .i64)), .tree 6 (p1.code.map aF.enc)]] (.c (.bool r)) := by
 refine bn 25 [.tmp 2] Try.func7 rfl rfl rfl (by kernel_rfl) (by simp) ?_;refine dR ?_;unfold d8 at hm;refine am [0, 2] ?_;refine dX [1, 3, 4, 5, 6, 7, 8, 9, 10, 11, 12, 13, 14, 15, 16, 17, 18, 19, 20, 21, 22, 23, 24] fun k kp hk hp => ?_;refine aj 5 ?_;refine go ?_
 by_cases h1 : (p1.put.length : Int) > 7000
 ·rw [iP h1] at hm;have h1b := dT h1;refine aa ?_;refine gox h1b ?_;refine hk _ _ ?_;clear hk hp k kp;refine ap ?_
  cases hm
  exact kr 0
 ·rw [iN h1] at hm;have h1b := dF h1;refine aj 6 ?_;refine gox h1b ?_
  by_cases h2 : (p1.bools.length : Int) > 7000
  ·rw [iP h2] at hm;have h2b := dT h2;refine aa ?_;refine gox (a2 h1b h2b) ?_;refine hk _ _ ?_;clear hk hp k kp;refine ap ?_
   cases hm
   exact kr 0
  ·rw [iN h2] at hm;have h2b := dF h2;refine aj 6 ?_;refine gox (a2 h1b h2b) ?_
   by_cases h3 : (p1.get.length : Int) > 20000
   ·rw [iP h3] at hm;have h3b := dT h3;refine aa ?_;refine gox (a2 h1b (a2 h2b h3b)) ?_;refine hk _ _ ?_;clear hk hp k kp;refine ap ?_
    cases hm
    exact kr 0
   ·rw [iN h3] at hm;have h3b := dF h3;refine aa ?_;refine gox (a2 h1b (a2 h2b h3b)) ?_;refine hk _ _ ?_;clear hk hp k kp;refine ap ?_
    cases hm
    exact kr 0
theorem aL (p1 : ae) (r : (Int × Int) ⊕ (Int × Int)) (hm : aC p1 = some r) : fV Try.prog 33 [.c (.optr 0 0)] [.box [.tree 1 (p1.b.map (eK .u8)), .int .i64 p1.at_]] (fun p σ => (Sum.elim (fun z => (p = .c (.int .i64 z.1) ∧ σ = [.box [.tree 1 (p1.b.map (eK .u8)), .int .i64 z.2]])) (fun z => False)) r) (fun p _ => (Sum.elim (fun z => False) (fun z => p = .c (.ifc 51 true (nsC [(.i64, z.1), (.i64, z.2)])))) r) := by
 refine bn 82 [.tmp 2] Try.func33 rfl rfl rfl (by kernel_rfl) (by simp) ?_;refine dR ?_;unfold aC at hm;refine am [2] ?_;refine am [] ?_;refine cb (S := (Int × Int)) (V := Unit) [0, 3, 4, 5, 6, 7, 8, 9, 10, 11, 12, 13, 14, 15, 16, 17, 18, 19, 20, 21, 22, 23, 24, 25, 26, 27, 28, 29, 30, 31, 32, 33, 34, 35, 36, 37, 38, 39, 40, 41, 42, 43, 44, 45, 46, 47, 48, 49, 50, 51, 52, 53, 54, 55, 56, 57, 58, 59, 60, 61, 62, 63, 64, 65, 66, 67, 68, 69, 70, 71, 72, 73] (fun (x1, x2) _ => [(3, .c (.int .u64 x2))]) (fun (x1, x2) _ => [.box [.tree 1 (p1.b.map (eK .u8)), .int .i64 x1]]) (fun (x1, x2) => bi x1 x2 = some r) ?_ ?_
 ·skip;refine am [] ?_
  refine aJ ?_;obtain ⟨o1, hl1, hm1⟩ := bd hm;refine cM (S := (Int × Int × Int)) (V := Unit) (O := (Int × Int) ⊕ ((Int × Int) ⊕ (Int × Int))) [3, 4, 5, 6, 7, 8, 9, 10, 11, 12, 13, 14, 15, 16, 17, 18, 19, 20, 21, 22, 23, 24, 25, 26, 27, 28, 29, 30, 31, 32, 33, 34, 35, 36, 37, 38, 39, 40, 41, 42, 43, 44, 45, 46, 47, 48, 49, 50, 51, 52, 53, 54, 55, 56, 57, 58, 59, 60, 61, 62, 63, 64, 65, 66, 67, 68, 69, 70, 71, 72, 73] (fun (x9, x10, x11) _ => [(3, .c (.int .u64 x10)), (6, .c (.int .i64 x11))]) (fun (x9, x10, x11) _ => [.box [.tree 1 (p1.b.map (eK .u8)), .int .i64 x9]]) _ _ () hl1 ?_ ?_
  ·exact ls
  ·rintro ⟨x9, x10, x11⟩ _ r1 hm hr1;replace hm : ar p1 x9 x10 x11 = some r1 := hm;refine bP ?_;unfold ar at hm;refine am [] ?_;refine aB fun k1 hk1 => ?_
   by_cases h1 : x11 < 10
   ·rw [iP h1] at hm;refine ab rfl (dT h1) ?_;refine aG ?_;refine aw (hk1 _ _ ?_);refine aB fun k2 hk2 => ?_;refine aJ ?_;refine am [7, 8] ?_;refine aB fun k3 hk3 => ?_;refine rQ [9, 10, 11, 12, 13, 14, 15, 16, 17] [0, 1, 3, 7, 0, 16, 48, 112, 240, 511] [false, false, false, false, false, false, false, false, false, true] ?_
    by_cases h2 : x9 ≥ (p1.b.length : Int)
    ·rw [iP h2] at hm;refine ab rfl (dT h2) ?_;refine fO fun k kp hk hp => ?_;refine aj 6 ?_;refine go ?_
     refine RS (iA (ns := [(.i64, 5), (.i64, (p1.b.length : Int))]) rfl (by first | rfl | (simp only [bR, bT, tab, bX, reduceIte, ↓reduceIte, reduceCtorEq, Int.reduceToNat, Nat.reduceDiv, Nat.reduceMod, Nat.reduceLT, Nat.reduceLeDiff, Nat.reduceAdd, Nat.reduceSub, Nat.reduceMul, Nat.reduceEqDiff, Nat.reduceBEq, Nat.reduceBNe, Nat.reduceGT]; done)) (by first | kernel_rfl | exact of_decide_eq_true (by kernel_rfl))) ?_
     simp only [bR, bT, tab, bX, reduceIte, ↓reduceIte, reduceCtorEq, Int.reduceToNat, Nat.reduceDiv, Nat.reduceMod, Nat.reduceLT, Nat.reduceLeDiff, Nat.reduceAdd, Nat.reduceSub, Nat.reduceMul, Nat.reduceEqDiff, Nat.reduceBEq, Nat.reduceBNe, Nat.reduceGT]
     refine dN rfl (by first | rfl | (simp only [bR, bT, tab, bX, reduceIte, ↓reduceIte, reduceCtorEq, Int.reduceToNat, Nat.reduceDiv, Nat.reduceMod, Nat.reduceLT, Nat.reduceLeDiff, Nat.reduceAdd, Nat.reduceSub, Nat.reduceMul, Nat.reduceEqDiff, Nat.reduceBEq, Nat.reduceBNe, Nat.reduceGT]; done)) (by first | rfl | (simp only [bR, bT, tab, bX, reduceIte, ↓reduceIte, reduceCtorEq, Int.reduceToNat, Nat.reduceDiv, Nat.reduceMod, Nat.reduceLT, Nat.reduceLeDiff, Nat.reduceAdd, Nat.reduceSub, Nat.reduceMul, Nat.reduceEqDiff, Nat.reduceBEq, Nat.reduceBNe, Nat.reduceGT]; done)) ?_
     have ho3 := aQ hm hr1;subst ho3;replace hm : some (.inr (5, (p1.b.length : Int))) = some r := hm1;refine hp _ _ _ ?_;refine dP ?_;refine bz ?_;refine dP ?_;refine dW ?_;refine bz ?_;refine cI ?_;obtain rfl := sI hm;exact rfl
    ·rw [iN h2] at hm;refine ah rfl (dF h2) ?_;refine aG ?_;refine aw (hk3 _ _ ?_);obtain ⟨hg4a, hm⟩ := gd hm;refine nv (em (eK .u8) p1.b x9.toNat) [18, 26, 27, 28, 29, 30, 31, 32, 33, 34, 35] [0, 1, 3, 7, 0, 16, 48, 112, 255, 511, 1023] [false, false, false, false, false, false, false, false, true, true, true] ?_;refine cb (S := Unit) (V := Unit) [36, 37, 38, 39, 40, 41, 42, 43, 44, 45, 46, 47, 48, 49, 50, 51, 52, 53, 54, 55] (fun _ _ => []) (fun _ _ => [.box [.tree 1 (p1.b.map (eK .u8)), .int .i64 x9]]) (fun _ => aD p1 x9 x10 x11 = some r1) ?_ ?_
     ·skip
      by_cases h8 : x11 = 9
      ·rw [iP h8] at hm;have h8b := eQ h8;refine dX [36, 37, 38, 39, 40, 41, 42, 43, 44, 45, 46, 47, 48] fun k kp hk hp => ?_;refine aj 7 ?_;refine gox h8b ?_
       by_cases h9 : (p1.b.getD x9.toNat default) > 1
       ·rw [iP h9] at hm;have h9b := dT h9;refine aa ?_;refine gox (a2 h8b h9b) ?_;refine hk _ _ ?_;clear hk hp k kp;refine ab rfl rfl ?_;refine fO fun k kp hk hp => ?_;refine aj 5 ?_;refine go ?_
        refine RS (iA (ns := [(.i64, 2), (.i64, x9)]) rfl (by first | rfl | (simp only [bR, bT, tab, bX, reduceIte, ↓reduceIte, reduceCtorEq, Int.reduceToNat, Nat.reduceDiv, Nat.reduceMod, Nat.reduceLT, Nat.reduceLeDiff, Nat.reduceAdd, Nat.reduceSub, Nat.reduceMul, Nat.reduceEqDiff, Nat.reduceBEq, Nat.reduceBNe, Nat.reduceGT]; done)) (by first | kernel_rfl | exact of_decide_eq_true (by kernel_rfl))) ?_
        simp only [bR, bT, tab, bX, reduceIte, ↓reduceIte, reduceCtorEq, Int.reduceToNat, Nat.reduceDiv, Nat.reduceMod, Nat.reduceLT, Nat.reduceLeDiff, Nat.reduceAdd, Nat.reduceSub, Nat.reduceMul, Nat.reduceEqDiff, Nat.reduceBEq, Nat.reduceBNe, Nat.reduceGT]
        refine dN rfl (by first | rfl | (simp only [bR, bT, tab, bX, reduceIte, ↓reduceIte, reduceCtorEq, Int.reduceToNat, Nat.reduceDiv, Nat.reduceMod, Nat.reduceLT, Nat.reduceLeDiff, Nat.reduceAdd, Nat.reduceSub, Nat.reduceMul, Nat.reduceEqDiff, Nat.reduceBEq, Nat.reduceBNe, Nat.reduceGT]; done)) (by first | rfl | (simp only [bR, bT, tab, bX, reduceIte, ↓reduceIte, reduceCtorEq, Int.reduceToNat, Nat.reduceDiv, Nat.reduceMod, Nat.reduceLT, Nat.reduceLeDiff, Nat.reduceAdd, Nat.reduceSub, Nat.reduceMul, Nat.reduceEqDiff, Nat.reduceBEq, Nat.reduceBNe, Nat.reduceGT]; done)) ?_
        have ho10 := aQ hm hr1;subst ho10;replace hm : some (.inr (2, x9)) = some r := hm1;refine hp _ _ _ ?_;refine cI ?_;refine bz ?_;refine dP ?_;refine dW ?_;refine bz ?_;refine cI ?_;obtain rfl := sI hm;exact rfl
       ·rw [iN h9] at hm;have h9b := dF h9
        by_cases h11 : x11 > 0
        ·rw [iP h11] at hm;have h11b := dT h11;refine aa ?_;refine gox (a2 h8b (a2 h9b h11b)) ?_;refine hk _ _ ?_;clear hk hp k kp
         by_cases h12 : (p1.b.getD x9.toNat default) = 0
         ·rw [iP h12] at hm;refine ab rfl (eQ h12) ?_;refine fO fun k kp hk hp => ?_;refine aj 5 ?_;refine go ?_
          refine RS (iA (ns := [(.i64, 2), (.i64, x9)]) rfl (by first | rfl | (simp only [bR, bT, tab, bX, reduceIte, ↓reduceIte, reduceCtorEq, Int.reduceToNat, Nat.reduceDiv, Nat.reduceMod, Nat.reduceLT, Nat.reduceLeDiff, Nat.reduceAdd, Nat.reduceSub, Nat.reduceMul, Nat.reduceEqDiff, Nat.reduceBEq, Nat.reduceBNe, Nat.reduceGT]; done)) (by first | kernel_rfl | exact of_decide_eq_true (by kernel_rfl))) ?_
          simp only [bR, bT, tab, bX, reduceIte, ↓reduceIte, reduceCtorEq, Int.reduceToNat, Nat.reduceDiv, Nat.reduceMod, Nat.reduceLT, Nat.reduceLeDiff, Nat.reduceAdd, Nat.reduceSub, Nat.reduceMul, Nat.reduceEqDiff, Nat.reduceBEq, Nat.reduceBNe, Nat.reduceGT]
          refine dN rfl (by first | rfl | (simp only [bR, bT, tab, bX, reduceIte, ↓reduceIte, reduceCtorEq, Int.reduceToNat, Nat.reduceDiv, Nat.reduceMod, Nat.reduceLT, Nat.reduceLeDiff, Nat.reduceAdd, Nat.reduceSub, Nat.reduceMul, Nat.reduceEqDiff, Nat.reduceBEq, Nat.reduceBNe, Nat.reduceGT]; done)) (by first | rfl | (simp only [bR, bT, tab, bX, reduceIte, ↓reduceIte, reduceCtorEq, Int.reduceToNat, Nat.reduceDiv, Nat.reduceMod, Nat.reduceLT, Nat.reduceLeDiff, Nat.reduceAdd, Nat.reduceSub, Nat.reduceMul, Nat.reduceEqDiff, Nat.reduceBEq, Nat.reduceBNe, Nat.reduceGT]; done)) ?_
          have ho13 := aQ hm hr1;subst ho13;replace hm : some (.inr (2, x9)) = some r := hm1;refine hp _ _ _ ?_;refine cI ?_;refine bz ?_;refine dP ?_;refine dW ?_;refine bz ?_;refine cI ?_;obtain rfl := sI hm;exact rfl
         ·rw [iN h12] at hm;refine ah rfl (nB h12) ?_;refine aG ?_;refine aP () () hm ?_;exact ls
        ·rw [iN h11] at hm;have h11b := dF h11;refine aa ?_;refine gox (a2 h8b (a2 h9b h11b)) ?_;refine hk _ _ ?_;clear hk hp k kp;refine ah rfl rfl ?_;refine aG ?_;refine aP () () hm ?_;exact ls
      ·rw [iN h8] at hm;have h8b := nB h8;refine dX [36, 37, 38, 39, 40, 41, 42, 43, 44, 45, 46, 47, 48] fun k kp hk hp => ?_;refine aj 10 ?_;refine gox h8b ?_
       by_cases h14 : x11 > 0
       ·rw [iP h14] at hm;have h14b := dT h14;refine aa ?_;refine gox (a2 h8b h14b) ?_;refine hk _ _ ?_;clear hk hp k kp
        by_cases h15 : (p1.b.getD x9.toNat default) = 0
        ·rw [iP h15] at hm;refine ab rfl (eQ h15) ?_;refine fO fun k kp hk hp => ?_;refine aj 5 ?_;refine go ?_
         refine RS (iA (ns := [(.i64, 2), (.i64, x9)]) rfl (by first | rfl | (simp only [bR, bT, tab, bX, reduceIte, ↓reduceIte, reduceCtorEq, Int.reduceToNat, Nat.reduceDiv, Nat.reduceMod, Nat.reduceLT, Nat.reduceLeDiff, Nat.reduceAdd, Nat.reduceSub, Nat.reduceMul, Nat.reduceEqDiff, Nat.reduceBEq, Nat.reduceBNe, Nat.reduceGT]; done)) (by first | kernel_rfl | exact of_decide_eq_true (by kernel_rfl))) ?_
         simp only [bR, bT, tab, bX, reduceIte, ↓reduceIte, reduceCtorEq, Int.reduceToNat, Nat.reduceDiv, Nat.reduceMod, Nat.reduceLT, Nat.reduceLeDiff, Nat.reduceAdd, Nat.reduceSub, Nat.reduceMul, Nat.reduceEqDiff, Nat.reduceBEq, Nat.reduceBNe, Nat.reduceGT]
         refine dN rfl (by first | rfl | (simp only [bR, bT, tab, bX, reduceIte, ↓reduceIte, reduceCtorEq, Int.reduceToNat, Nat.reduceDiv, Nat.reduceMod, Nat.reduceLT, Nat.reduceLeDiff, Nat.reduceAdd, Nat.reduceSub, Nat.reduceMul, Nat.reduceEqDiff, Nat.reduceBEq, Nat.reduceBNe, Nat.reduceGT]; done)) (by first | rfl | (simp only [bR, bT, tab, bX, reduceIte, ↓reduceIte, reduceCtorEq, Int.reduceToNat, Nat.reduceDiv, Nat.reduceMod, Nat.reduceLT, Nat.reduceLeDiff, Nat.reduceAdd, Nat.reduceSub, Nat.reduceMul, Nat.reduceEqDiff, Nat.reduceBEq, Nat.reduceBNe, Nat.reduceGT]; done)) ?_
         have ho16 := aQ hm hr1;subst ho16;replace hm : some (.inr (2, x9)) = some r := hm1;refine hp _ _ _ ?_;refine cI ?_;refine bz ?_;refine dP ?_;refine dW ?_;refine bz ?_;refine cI ?_;obtain rfl := sI hm;exact rfl
        ·rw [iN h15] at hm;refine ah rfl (nB h15) ?_;refine aG ?_;refine aP () () hm ?_;exact ls
       ·rw [iN h14] at hm;have h14b := dF h14;refine aa ?_;refine gox (a2 h8b h14b) ?_;refine hk _ _ ?_;clear hk hp k kp;refine ah rfl rfl ?_;refine aG ?_;refine aP () () hm ?_;exact ls
     ·rintro _ _ hm;replace hm : aD p1 x9 x10 x11 = some r1 := hm;refine bP ?_;unfold aD at hm;refine am [56, 57, 58, 59, 60, 61, 62] ?_;obtain ⟨hg5a, hm⟩ := gd hm;refine am [4, 63, 64, 65, 66, 67, 68, 69, 70] ?_;refine am [5, 71] ?_
      by_cases h6 : (p1.b.getD x9.toNat default) < 128
      ·rw [iP h6] at hm;refine ab rfl (dT h6) ?_;refine db ?_;have ho7 := aQ hm hr1;subst ho7;replace hm : bi (IntKind.wrap .i64 (x9 + 1)) (bits .or .u64 x10 (IntKind.wrap .u64 ((IntKind.wrap .u64 (bits .and .u8 (p1.b.getD x9.toNat default) 127)) * 2 ^ (min ((IntKind.wrap .i64 (7 * x11)).toNat) (IntKind.bits .u64))))) = some r := hm1;refine oS (by decide) ?_;refine cD (bO (aX ?_));refine aP ((IntKind.wrap .i64 (x9 + 1)), (bits .or .u64 x10 (IntKind.wrap .u64 ((IntKind.wrap .u64 (bits .and .u8 (p1.b.getD x9.toNat default) 127)) * 2 ^ (min ((IntKind.wrap .i64 (7 * x11)).toNat) (IntKind.bits .u64)))))) () hm ?_;exact ls
      ·rw [iN h6] at hm;refine ah rfl (dF h6) ?_;refine aG ?_;refine aO ?_;refine aw (hk2 _ _ ?_);refine eD ?_;refine bH ((IntKind.wrap .i64 (x9 + 1)), (bits .or .u64 x10 (IntKind.wrap .u64 ((IntKind.wrap .u64 (bits .and .u8 (p1.b.getD x9.toNat default) 127)) * 2 ^ (min ((IntKind.wrap .i64 (7 * x11)).toNat) (IntKind.bits .u64))))), (IntKind.wrap .i64 (x11 + 1))) () hm ?_;exact ls
   ·rw [iN h1] at hm;refine ah rfl (dF h1) ?_;refine db ?_;have ho17 := aQ hm hr1;subst ho17;replace hm : bi x9 x10 = some r := hm1;refine cD (bO (aX ?_));refine aP (x9, x10) () hm ?_;exact ls
 ·rintro ⟨x1, x2⟩ _ hm;replace hm : bi x1 x2 = some r := hm;refine bP ?_;unfold bi at hm;refine am [3, 74, 75, 76, 77, 78, 79, 80, 81] ?_;refine ap ?_
  cases hm
  exact kr 1
theorem fd (p1 : Int) (p2 : ae) (r : (Int × Int) ⊕ (Int × Int)) (hm : bp p1 p2 = some r) : fV Try.prog 35 [.c (.optr 0 0), .c (.int .i64 p1)] [.box [.tree 1 (p2.b.map (eK .u8)), .int .i64 p2.at_]] (fun p σ => (Sum.elim (fun z => (p = .c (.int .i64 z.1) ∧ σ = [.box [.tree 1 (p2.b.map (eK .u8)), .int .i64 z.2]])) (fun z => False)) r) (fun p _ => (Sum.elim (fun z => False) (fun z => p = .c (.ifc 51 true (nsC [(.i64, z.1), (.i64, z.2)])))) r) := by
 refine bn 35 [.tmp 4] Try.func35 rfl rfl rfl (by kernel_rfl) (by simp) ?_;refine dR ?_;unfold bp at hm;refine am [4] ?_;refine am [7, 8, 9, 10] ?_;refine aS [11, 12] fun k kp hk hp => ?_;refine go ?_;obtain ⟨y1, hc1, hm⟩ := bd hm
 refine aT (aL p2  _ hc1) [0] (by first | trivial | exact cY rfl) (by first | trivial | (intro _; first | trivial | simp [af]) | simp [af]) (by simp) (by simp) rfl rfl (by first | trivial | (simp [bX, eK, eB, eS, eL, ca, aH, PV.under, CV.under, ao, OB.under, ax]; done)) (by first | trivial | (simp [bX, eK, eB, eS, eL, ca, aH, PV.under, CV.under, ao, OB.under, ax]; done)) ?_ ?_
 rotate_left
 ·rintro p σ' hpp hpl
  rcases y1 with y2 | y3
  ·exact False.elim hpp
  simp only [Sum.elim_inl, Sum.elim_inr] at hm hpp;subst hpp;refine hp _ _ _ ?_;obtain rfl := sI hm;exact rfl
 rintro p σ' hq2 _
 rcases y1 with y4 | y5
 ·skip;simp only [Sum.elim_inl, Sum.elim_inr] at hm hq2
  obtain ⟨rfl, rfl⟩ := hq2;refine aa ?_;refine go ?_;refine hk _ _ ?_;clear hk hp k kp;refine aB fun k1 hk1 => ?_
  by_cases h3 : y4.1 < 0
  ·rw [iP h3] at hm;have h3b := dT h3;refine nw [0, 1, 13, 14, 15, 16, 17, 18, 19, 20, 21, 22, 23, 24, 25, 26, 27, 28, 29] (by kernel_rfl) [0, 1, 3, 7, 7, 23, 55, 119, 247, 7, 519, 1543, 3591, 8183, 7, 32759, 65535, 131071] [true, true, true, false, false, false, false, false, false, false, false, false, false, false, false, false, true, true] (by kernel_rfl) fun k hk => ?_;refine o9 ?_;refine gax h3b ?_;refine hk _ _ ?_;clear hk k;refine ab rfl rfl ?_;refine fO fun k kp hk hp => ?_;refine aj 2 ?_;refine go ?_
   refine RS (iA (ns := [(.i64, 7), (.i64, p2.at_)]) rfl (by first | rfl | (simp only [bR, bT, tab, bX, reduceIte, ↓reduceIte, reduceCtorEq, Int.reduceToNat, Nat.reduceDiv, Nat.reduceMod, Nat.reduceLT, Nat.reduceLeDiff, Nat.reduceAdd, Nat.reduceSub, Nat.reduceMul, Nat.reduceEqDiff, Nat.reduceBEq, Nat.reduceBNe, Nat.reduceGT]; done)) (by first | kernel_rfl | exact of_decide_eq_true (by kernel_rfl))) ?_
   simp only [bR, bT, tab, bX, reduceIte, ↓reduceIte, reduceCtorEq, Int.reduceToNat, Nat.reduceDiv, Nat.reduceMod, Nat.reduceLT, Nat.reduceLeDiff, Nat.reduceAdd, Nat.reduceSub, Nat.reduceMul, Nat.reduceEqDiff, Nat.reduceBEq, Nat.reduceBNe, Nat.reduceGT]
   refine dN rfl (by first | rfl | (simp only [bR, bT, tab, bX, reduceIte, ↓reduceIte, reduceCtorEq, Int.reduceToNat, Nat.reduceDiv, Nat.reduceMod, Nat.reduceLT, Nat.reduceLeDiff, Nat.reduceAdd, Nat.reduceSub, Nat.reduceMul, Nat.reduceEqDiff, Nat.reduceBEq, Nat.reduceBNe, Nat.reduceGT]; done)) (by first | rfl | (simp only [bR, bT, tab, bX, reduceIte, ↓reduceIte, reduceCtorEq, Int.reduceToNat, Nat.reduceDiv, Nat.reduceMod, Nat.reduceLT, Nat.reduceLeDiff, Nat.reduceAdd, Nat.reduceSub, Nat.reduceMul, Nat.reduceEqDiff, Nat.reduceBEq, Nat.reduceBNe, Nat.reduceGT]; done)) ?_
   refine hp _ _ _ ?_;refine dP ?_;obtain rfl := sI hm;exact rfl
  ·rw [iN h3] at hm;have h3b := dF h3;obtain ⟨hg4a, hm⟩ := gd hm;refine nw [0, 1, 13, 14, 15, 16, 17, 18, 19, 20, 21, 22, 23, 24, 25, 26, 27, 28, 29] (by kernel_rfl) [0, 1, 3, 7, 7, 23, 55, 119, 247, 7, 519, 1543, 3591, 8183, 7, 32759, 65535, 131071] [true, true, true, false, false, false, false, false, false, false, false, false, false, false, false, false, true, true] (by kernel_rfl) fun k hk => ?_;refine o9 ?_;refine gax h3b ?_;refine hk _ _ ?_;clear hk k
   by_cases h5 : y4.1 > (IntKind.wrap .i64 ((IntKind.wrap .i64 ((p2.b.length : Int) - y4.2)).tdiv p1))
   ·rw [iP h5] at hm;refine ab rfl (dT h5) ?_;refine fO fun k kp hk hp => ?_;refine aj 2 ?_;refine go ?_
    refine RS (iA (ns := [(.i64, 7), (.i64, p2.at_)]) rfl (by first | rfl | (simp only [bR, bT, tab, bX, reduceIte, ↓reduceIte, reduceCtorEq, Int.reduceToNat, Nat.reduceDiv, Nat.reduceMod, Nat.reduceLT, Nat.reduceLeDiff, Nat.reduceAdd, Nat.reduceSub, Nat.reduceMul, Nat.reduceEqDiff, Nat.reduceBEq, Nat.reduceBNe, Nat.reduceGT]; done)) (by first | kernel_rfl | exact of_decide_eq_true (by kernel_rfl))) ?_
    simp only [bR, bT, tab, bX, reduceIte, ↓reduceIte, reduceCtorEq, Int.reduceToNat, Nat.reduceDiv, Nat.reduceMod, Nat.reduceLT, Nat.reduceLeDiff, Nat.reduceAdd, Nat.reduceSub, Nat.reduceMul, Nat.reduceEqDiff, Nat.reduceBEq, Nat.reduceBNe, Nat.reduceGT]
    refine dN rfl (by first | rfl | (simp only [bR, bT, tab, bX, reduceIte, ↓reduceIte, reduceCtorEq, Int.reduceToNat, Nat.reduceDiv, Nat.reduceMod, Nat.reduceLT, Nat.reduceLeDiff, Nat.reduceAdd, Nat.reduceSub, Nat.reduceMul, Nat.reduceEqDiff, Nat.reduceBEq, Nat.reduceBNe, Nat.reduceGT]; done)) (by first | rfl | (simp only [bR, bT, tab, bX, reduceIte, ↓reduceIte, reduceCtorEq, Int.reduceToNat, Nat.reduceDiv, Nat.reduceMod, Nat.reduceLT, Nat.reduceLeDiff, Nat.reduceAdd, Nat.reduceSub, Nat.reduceMul, Nat.reduceEqDiff, Nat.reduceBEq, Nat.reduceBNe, Nat.reduceGT]; done)) ?_
    refine hp _ _ _ ?_;refine dP ?_;obtain rfl := sI hm;exact rfl
   ·rw [iN h5] at hm;refine ah rfl (dF h5) ?_;refine aG ?_;refine aw (hk1 _ _ ?_);refine am [5, 6, 30, 34] ?_;refine ap ?_
    cases hm
    exact kr 1
 ·skip;exact False.elim hq2
theorem ee (p1 : ae) (r : ((List Int) × Int) ⊕ (Int × Int)) (hm : bl p1 = some r) : fV Try.prog 34 [.c (.optr 0 0)] [.box [.tree 1 (p1.b.map (eK .u8)), .int .i64 p1.at_]] (fun p σ => (Sum.elim (fun z => (p = .c (.tree 1 (z.1.map (eK .i64))) ∧ σ = [.box [.tree 1 (p1.b.map (eK .u8)), .int .i64 z.2]])) (fun z => False)) r) (fun p _ => (Sum.elim (fun z => False) (fun z => p = .c (.ifc 51 true (nsC [(.i64, z.1), (.i64, z.2)])))) r) := by
 refine bn 15 [.tmp 2] Try.func34 rfl rfl rfl (by kernel_rfl) (by simp) ?_;refine dR ?_;unfold bl at hm;refine am [2] ?_;refine am [] ?_;refine fJ (n9 3 1 3 (by decide) rfl (Nat.le_of_ble_eq_true rfl)) ?_;refine rR ?_;refine cb (S := (Int × (List Int))) (V := Nat) [0, 3, 4, 5, 6, 7, 8, 9, 10, 11, 12, 13] (fun (x3, l4) v5 => [(3, .c (.osl 1 v5 0 l4.length))]) (fun (x3, l4) v5 => [.box [.tree 1 (p1.b.map (eK .u8)), .int .i64 x3], .arr 1 v5 3 (l4.map (eK .i64))]) (fun (x3, l4) => cz x3 l4 = some r) ?_ ?_
 ·skip;refine aS [4] fun k kp hk hp => ?_
  refine go ?_;obtain ⟨y6, hc1, hm⟩ := bd hm
  refine aT (fd 1 p1  _ hc1) [0] (by first | trivial | exact cY rfl) (by first | trivial | (intro _; first | trivial | simp [af]) | simp [af]) (by simp) (by simp) rfl rfl (by first | trivial | (simp [bX, eK, eB, eS, eL, ca, aH, PV.under, CV.under, ao, OB.under, ax]; done)) (by first | trivial | (simp [bX, eK, eB, eS, eL, ca, aH, PV.under, CV.under, ao, OB.under, ax]; done)) ?_ ?_
  rotate_left
  ·rintro p σ' hpp hpl
   rcases y6 with y7 | y8
   ·exact False.elim hpp
   simp only [Sum.elim_inl, Sum.elim_inr] at hm hpp;subst hpp;refine hp _ _ _ ?_;refine cI ?_;obtain rfl := sI hm;exact rfl
  rintro p σ' hq2 _
  rcases y6 with y9 | y10
  ·skip;simp only [Sum.elim_inl, Sum.elim_inr] at hm hq2
   obtain ⟨rfl, rfl⟩ := hq2;refine aa ?_;refine go ?_;refine hk _ _ ?_;clear hk hp k kp;refine aJ ?_;obtain ⟨o1, hl1, hm1⟩ := bd hm;refine cM (S := (Int × (List Int) × Int)) (V := Nat) (O := (Int × (List Int)) ⊕ (((List Int) × Int) ⊕ (Int × Int))) [3, 6, 7, 8, 9, 10, 11, 12, 13] (fun (x25, l26, x28) v27 => [(3, .c (.osl 1 v27 0 l26.length)), (6, .c (.int .i64 x28))]) (fun (x25, l26, x28) v27 => [.box [.tree 1 (p1.b.map (eK .u8)), .int .i64 x25], .arr 1 v27 3 (l26.map (eK .i64))]) _ _ 0 hl1 ?_ ?_
   ·exact ls
   ·rintro ⟨x25, l26, x28⟩ v27 r1 hm hr1;replace hm : aA p1 y9 x25 l26 x28 = some r1 := hm;refine bP ?_;unfold aA at hm;refine am [] ?_;refine aB fun k1 hk1 => ?_
    by_cases h3 : x28 < y9.1
    ·rw [iP h3] at hm;refine ab rfl (dT h3) ?_;refine aG ?_;refine aw (hk1 _ _ ?_);refine aB fun k2 hk2 => ?_;refine aJ ?_;refine jk fun k kp hk hp => ?_;refine go ?_;obtain ⟨y29, hc4, hm⟩ := bd hm
     refine aT (aL (ae.mk p1.b x25)  _ hc4) [0] (by first | trivial | exact cY rfl) (by first | trivial | (intro _; first | trivial | simp [af]) | simp [af]) (by simp) (by simp) rfl rfl (by first | trivial | (simp [bX, eK, eB, eS, eL, ca, aH, PV.under, CV.under, ao, OB.under, ax]; done)) (by first | trivial | (simp [bX, eK, eB, eS, eL, ca, aH, PV.under, CV.under, ao, OB.under, ax]; done)) ?_ ?_
     rotate_left
     ·rintro p σ' hpp hpl
      rcases y29 with y30 | y31
      ·exact False.elim hpp
      simp only [Sum.elim_inl, Sum.elim_inr] at hm hpp;subst hpp;have ho6 := aQ hm hr1;subst ho6;replace hm : some (.inr (y31.1, y31.2)) = some r := hm1;refine hp _ _ _ ?_;refine bz ?_;refine dP ?_;refine dW ?_;refine bz ?_;refine cI ?_;obtain rfl := sI hm;exact rfl
     rintro p σ' hq5 _
     rcases y29 with y32 | y33
     ·skip;simp only [Sum.elim_inl, Sum.elim_inr] at hm hq5
      obtain ⟨rfl, rfl⟩ := hq5;obtain ⟨⟨hg7ax, hg7ay⟩, hm⟩ := gd hm;refine aa ?_;refine go ?_;refine hk _ _ ?_;clear hk hp k kp;refine aO ?_;refine aw (hk2 _ _ ?_);refine eD ?_;refine bH (y32.2, (l26 ++ (lit ([y32.1] : List Int))), (IntKind.wrap .i64 (x28 + 1))) (v27 + 1) hm ?_;exact ls
     ·skip;exact False.elim hq5
    ·rw [iN h3] at hm;refine ah rfl (dF h3) ?_;refine db ?_;have ho8 := aQ hm hr1;subst ho8;replace hm : cz x25 l26 = some r := hm1;refine cD (bO (aX ?_));refine aP (x25, l26) v27 hm ?_;exact ls
  ·skip;exact False.elim hq2
 ·rintro ⟨x3, l4⟩ v5 hm;replace hm : cz x3 l4 = some r := hm;refine bP ?_;unfold cz at hm;refine am [3, 14] ?_;refine pW (cy 1 rfl) ?_;refine ap ?_
  cases hm
  exact kr 1
theorem hY (p1 : ae) (r : (ag × Int) ⊕ (Int × Int)) (hm : bq p1 = some r) : fV Try.prog 21 [.c (.optr 0 0)] [.box [.tree 1 (p1.b.map (eK .u8)), .int .i64 p1.at_]] (fun p σ => (Sum.elim (fun z => (p = .a [.int .i64 ((z.1).cells), .int .i64 ((z.1).regs), .int .i64 ((z.1).cost), .tree 1 (((z.1).put).map (eK .i64)), .tree 1 (((z.1).bools).map (eK .i64)), .tree 1 (((z.1).get).map (eK .i64)), .tree 6 (((z.1).code).map aF.enc)] ∧ σ = [.box [.tree 1 (p1.b.map (eK .u8)), .int .i64 z.2]])) (fun z => False)) r) (fun p _ => (Sum.elim (fun z => False) (fun z => p = .c (.ifc 51 true (nsC [(.i64, z.1), (.i64, z.2)])))) r) := by
 refine bn 47 [.cell 2 25] Try.func21 rfl rfl rfl (by kernel_rfl) (by simp) ?_;refine dR ?_;unfold bq at hm;refine am [] ?_;refine aS [5, 6, 7, 8, 9, 10, 11] fun k kp hk hp => ?_;refine go ?_;obtain ⟨y1, hc1, hm⟩ := bd hm
 refine aT (aL p1  _ hc1) [0] (by first | trivial | exact cY rfl) (by first | trivial | (intro _; first | trivial | simp [af]) | simp [af]) (by simp) (by simp) rfl rfl (by first | trivial | (simp [bX, eK, eB, eS, eL, ca, aH, PV.under, CV.under, ao, OB.under, ax]; done)) (by first | trivial | (simp [bX, eK, eB, eS, eL, ca, aH, PV.under, CV.under, ao, OB.under, ax]; done)) ?_ ?_
 rotate_left
 ·rintro p σ' hpp hpl
  rcases y1 with y2 | y3
  ·exact False.elim hpp
  simp only [Sum.elim_inl, Sum.elim_inr] at hm hpp;subst hpp;refine hp _ _ _ ?_;obtain rfl := sI hm;exact rfl
 rintro p σ' hq2 _
 rcases y1 with y4 | y5
 ·skip;simp only [Sum.elim_inl, Sum.elim_inr] at hm hq2
  obtain ⟨rfl, rfl⟩ := hq2;refine aa ?_;refine go ?_;obtain ⟨y6, hc3, hm⟩ := bd hm
  refine aT (aL (ae.mk p1.b y4.2)  _ hc3) [0] (by first | trivial | exact cY rfl) (by first | trivial | (intro _; first | trivial | simp [af]) | simp [af]) (by simp) (by simp) rfl rfl (by first | trivial | (simp [bX, eK, eB, eS, eL, ca, aH, PV.under, CV.under, ao, OB.under, ax]; done)) (by first | trivial | (simp [bX, eK, eB, eS, eL, ca, aH, PV.under, CV.under, ao, OB.under, ax]; done)) ?_ ?_
  rotate_left
  ·rintro p σ' hpp hpl
   rcases y6 with y7 | y8
   ·exact False.elim hpp
   simp only [Sum.elim_inl, Sum.elim_inr] at hm hpp;subst hpp;refine hp _ _ _ ?_;obtain rfl := sI hm;exact rfl
  rintro p σ' hq4 _
  rcases y6 with y9 | y10
  ·skip;simp only [Sum.elim_inl, Sum.elim_inr] at hm hq4
   obtain ⟨rfl, rfl⟩ := hq4;refine aa ?_;refine go ?_;obtain ⟨y11, hc5, hm⟩ := bd hm
   refine aT (aL (ae.mk p1.b y9.2)  _ hc5) [0] (by first | trivial | exact cY rfl) (by first | trivial | (intro _; first | trivial | simp [af]) | simp [af]) (by simp) (by simp) rfl rfl (by first | trivial | (simp [bX, eK, eB, eS, eL, ca, aH, PV.under, CV.under, ao, OB.under, ax]; done)) (by first | trivial | (simp [bX, eK, eB, eS, eL, ca, aH, PV.under, CV.under, ao, OB.under, ax]; done)) ?_ ?_
   rotate_left
   ·rintro p σ' hpp hpl
    rcases y11 with y12 | y13
    ·exact False.elim hpp
    simp only [Sum.elim_inl, Sum.elim_inr] at hm hpp;subst hpp;refine hp _ _ _ ?_;obtain rfl := sI hm;exact rfl
   rintro p σ' hq6 _
   rcases y11 with y14 | y15
   ·skip;simp only [Sum.elim_inl, Sum.elim_inr] at hm hq6
    obtain ⟨rfl, rfl⟩ := hq6;refine aa ?_;refine go ?_;refine hk _ _ ?_;clear hk hp k kp;refine aS [12, 13, 14, 15, 16, 17, 18, 19, 20] fun k kp hk hp => ?_;refine go ?_;obtain ⟨y16, hc7, hm⟩ := bd hm
    refine aT (ee (ae.mk p1.b y14.2)  _ hc7) [0] (by first | trivial | exact cY rfl) (by first | trivial | (intro _; first | trivial | simp [af]) | simp [af]) (by simp) (by simp) rfl rfl (by first | trivial | (simp [bX, eK, eB, eS, eL, ca, aH, PV.under, CV.under, ao, OB.under, ax]; done)) (by first | trivial | (simp [bX, eK, eB, eS, eL, ca, aH, PV.under, CV.under, ao, OB.under, ax]; done)) ?_ ?_
    rotate_left
    ·rintro p σ' hpp hpl
     rcases y16 with y17 | y18
     ·exact False.elim hpp
     simp only [Sum.elim_inl, Sum.elim_inr] at hm hpp;subst hpp;refine hp _ _ _ ?_;obtain rfl := sI hm;exact rfl
    rintro p σ' hq8 _
    rcases y16 with y19 | y20
    ·skip;simp only [Sum.elim_inl, Sum.elim_inr] at hm hq8
     obtain ⟨rfl, rfl⟩ := hq8;refine aa ?_;refine go ?_;obtain ⟨y21, hc9, hm⟩ := bd hm
     refine aT (ee (ae.mk p1.b y19.2)  _ hc9) [0] (by first | trivial | exact cY rfl) (by first | trivial | (intro _; first | trivial | simp [af]) | simp [af]) (by simp) (by simp) rfl rfl (by first | trivial | (simp [bX, eK, eB, eS, eL, ca, aH, PV.under, CV.under, ao, OB.under, ax]; done)) (by first | trivial | (simp [bX, eK, eB, eS, eL, ca, aH, PV.under, CV.under, ao, OB.under, ax]; done)) ?_ ?_
     rotate_left
     ·rintro p σ' hpp hpl
      rcases y21 with y22 | y23
      ·exact False.elim hpp
      simp only [Sum.elim_inl, Sum.elim_inr] at hm hpp;subst hpp;refine hp _ _ _ ?_;obtain rfl := sI hm;exact rfl
     rintro p σ' hq10 _
     rcases y21 with y24 | y25
     ·skip;simp only [Sum.elim_inl, Sum.elim_inr] at hm hq10
      obtain ⟨rfl, rfl⟩ := hq10;refine aa ?_;refine go ?_;obtain ⟨y26, hc11, hm⟩ := bd hm
      refine aT (ee (ae.mk p1.b y24.2)  _ hc11) [0] (by first | trivial | exact cY rfl) (by first | trivial | (intro _; first | trivial | simp [af]) | simp [af]) (by simp) (by simp) rfl rfl (by first | trivial | (simp [bX, eK, eB, eS, eL, ca, aH, PV.under, CV.under, ao, OB.under, ax]; done)) (by first | trivial | (simp [bX, eK, eB, eS, eL, ca, aH, PV.under, CV.under, ao, OB.under, ax]; done)) ?_ ?_
      rotate_left
      ·rintro p σ' hpp hpl
       rcases y26 with y27 | y28
       ·exact False.elim hpp
       simp only [Sum.elim_inl, Sum.elim_inr] at hm hpp;subst hpp;refine hp _ _ _ ?_;obtain rfl := sI hm;exact rfl
      rintro p σ' hq12 _
      rcases y26 with y29 | y30
      ·skip;simp only [Sum.elim_inl, Sum.elim_inr] at hm hq12
       obtain ⟨rfl, rfl⟩ := hq12;refine aa ?_;refine go ?_;refine hk _ _ ?_;clear hk hp k kp;refine pW (mY 2 6 6 50 (by decide) rfl rfl) ?_;refine cb (S := (Int × (List aF))) (V := Nat) [0, 4, 21, 22, 23, 24, 25, 26, 27, 28, 29, 30, 31, 32, 33, 34, 35, 36, 37, 38, 39, 40, 41, 42, 43, 44, 45] (fun (x33, l34) v35 => []) (fun (x33, l34) v35 => [.box [.tree 1 (p1.b.map (eK .u8)), .int .i64 x33], .box [.int .i64 0, .int .i64 0, .int .i64 0, .nils, .nils, .nils, .nils], .box [.int .i64 y4.1, .int .i64 y9.1, .int .i64 y14.1, .tree 1 (y19.1.map (eK .i64)), .tree 1 (y24.1.map (eK .i64)), .tree 1 (y29.1.map (eK .i64)), .osl 3 v35 0 l34.length], .arr 6 v35 50 (l34.map aF.enc)]) (fun (x33, l34) => cg y4 y9 y14 y19 y24 y29 x33 l34 = some r) ?_ ?_
       ·skip;refine aS [21] fun k kp hk hp => ?_
        refine go ?_;obtain ⟨y36, hc13, hm⟩ := bd hm
        refine aT (fd 6 (ae.mk p1.b y29.2)  _ hc13) [0] (by first | trivial | exact cY rfl) (by first | trivial | (intro _; first | trivial | simp [af]) | simp [af]) (by simp) (by simp) rfl rfl (by first | trivial | (simp [bX, eK, eB, eS, eL, ca, aH, PV.under, CV.under, ao, OB.under, ax]; done)) (by first | trivial | (simp [bX, eK, eB, eS, eL, ca, aH, PV.under, CV.under, ao, OB.under, ax]; done)) ?_ ?_
        rotate_left
        ·rintro p σ' hpp hpl
         rcases y36 with y37 | y38
         ·exact False.elim hpp
         simp only [Sum.elim_inl, Sum.elim_inr] at hm hpp;subst hpp;refine hp _ _ _ ?_;refine cI ?_;obtain rfl := sI hm;exact rfl
        rintro p σ' hq14 _
        rcases y36 with y39 | y40
        ·skip;simp only [Sum.elim_inl, Sum.elim_inr] at hm hq14
         obtain ⟨rfl, rfl⟩ := hq14;refine aa ?_;refine go ?_;refine hk _ _ ?_;clear hk hp k kp;refine aJ ?_;obtain ⟨o1, hl1, hm1⟩ := bd hm;refine cM (S := (Int × (List aF) × Int)) (V := Nat) (O := (Int × (List aF)) ⊕ ((ag × Int) ⊕ (Int × Int))) [4, 23, 24, 25, 26, 27, 28, 29, 30, 31, 32, 33, 34, 35, 36, 37, 38, 39, 40, 41, 42, 43, 44, 45] (fun (x55, l56, x58) v57 => [(23, .c (.int .i64 x58))]) (fun (x55, l56, x58) v57 => [.box [.tree 1 (p1.b.map (eK .u8)), .int .i64 x55], .box [.int .i64 0, .int .i64 0, .int .i64 0, .nils, .nils, .nils, .nils], .box [.int .i64 y4.1, .int .i64 y9.1, .int .i64 y14.1, .tree 1 (y19.1.map (eK .i64)), .tree 1 (y24.1.map (eK .i64)), .tree 1 (y29.1.map (eK .i64)), .osl 3 v57 0 l56.length], .arr 6 v57 50 (l56.map aF.enc)]) _ _ 0 hl1 ?_ ?_
         ·exact ls
         ·rintro ⟨x55, l56, x58⟩ v57 r1 hm hr1;replace hm : au p1 y39 x55 l56 x58 = some r1 := hm;refine bP ?_;unfold au at hm;refine am [] ?_;refine aB fun k1 hk1 => ?_
          by_cases h15 : x58 < y39.1
          ·rw [iP h15] at hm;refine ab rfl (dT h15) ?_;refine aG ?_;refine aw (hk1 _ _ ?_);refine aB fun k2 hk2 => ?_;refine aJ ?_;refine aS [24, 25, 26, 27, 28, 29, 30, 31, 32, 33, 34, 35] fun k kp hk hp => ?_;refine go ?_;obtain ⟨y59, hc16, hm⟩ := bd hm
           refine aT (aL (ae.mk p1.b x55)  _ hc16) [0] (by first | trivial | exact cY rfl) (by first | trivial | (intro _; first | trivial | simp [af]) | simp [af]) (by simp) (by simp) rfl rfl (by first | trivial | (simp [bX, eK, eB, eS, eL, ca, aH, PV.under, CV.under, ao, OB.under, ax]; done)) (by first | trivial | (simp [bX, eK, eB, eS, eL, ca, aH, PV.under, CV.under, ao, OB.under, ax]; done)) ?_ ?_
           rotate_left
           ·rintro p σ' hpp hpl
            rcases y59 with y60 | y61
            ·exact False.elim hpp
            simp only [Sum.elim_inl, Sum.elim_inr] at hm hpp;subst hpp;have ho18 := aQ hm hr1;subst ho18;replace hm : some (.inr (y61.1, y61.2)) = some r := hm1;refine hp _ _ _ ?_;refine bz ?_;refine dP ?_;refine dW ?_;refine bz ?_;refine cI ?_;obtain rfl := sI hm;exact rfl
           rintro p σ' hq17 _
           rcases y59 with y62 | y63
           ·skip;simp only [Sum.elim_inl, Sum.elim_inr] at hm hq17
            obtain ⟨rfl, rfl⟩ := hq17;refine aa ?_;refine go ?_;obtain ⟨y64, hc19, hm⟩ := bd hm
            refine aT (aL (ae.mk p1.b y62.2)  _ hc19) [0] (by first | trivial | exact cY rfl) (by first | trivial | (intro _; first | trivial | simp [af]) | simp [af]) (by simp) (by simp) rfl rfl (by first | trivial | (simp [bX, eK, eB, eS, eL, ca, aH, PV.under, CV.under, ao, OB.under, ax]; done)) (by first | trivial | (simp [bX, eK, eB, eS, eL, ca, aH, PV.under, CV.under, ao, OB.under, ax]; done)) ?_ ?_
            rotate_left
            ·rintro p σ' hpp hpl
             rcases y64 with y65 | y66
             ·exact False.elim hpp
             simp only [Sum.elim_inl, Sum.elim_inr] at hm hpp;subst hpp;have ho21 := aQ hm hr1;subst ho21;replace hm : some (.inr (y66.1, y66.2)) = some r := hm1;refine hp _ _ _ ?_;refine bz ?_;refine dP ?_;refine dW ?_;refine bz ?_;refine cI ?_;obtain rfl := sI hm;exact rfl
            rintro p σ' hq20 _
            rcases y64 with y67 | y68
            ·skip;simp only [Sum.elim_inl, Sum.elim_inr] at hm hq20
             obtain ⟨rfl, rfl⟩ := hq20;refine aa ?_;refine go ?_;obtain ⟨y69, hc22, hm⟩ := bd hm
             refine aT (aL (ae.mk p1.b y67.2)  _ hc22) [0] (by first | trivial | exact cY rfl) (by first | trivial | (intro _; first | trivial | simp [af]) | simp [af]) (by simp) (by simp) rfl rfl (by first | trivial | (simp [bX, eK, eB, eS, eL, ca, aH, PV.under, CV.under, ao, OB.under, ax]; done)) (by first | trivial | (simp [bX, eK, eB, eS, eL, ca, aH, PV.under, CV.under, ao, OB.under, ax]; done)) ?_ ?_
             rotate_left
             ·rintro p σ' hpp hpl
              rcases y69 with y70 | y71
              ·exact False.elim hpp
              simp only [Sum.elim_inl, Sum.elim_inr] at hm hpp;subst hpp;have ho24 := aQ hm hr1;subst ho24;replace hm : some (.inr (y71.1, y71.2)) = some r := hm1;refine hp _ _ _ ?_;refine bz ?_;refine dP ?_;refine dW ?_;refine bz ?_;refine cI ?_;obtain rfl := sI hm;exact rfl
             rintro p σ' hq23 _
             rcases y69 with y72 | y73
             ·skip;simp only [Sum.elim_inl, Sum.elim_inr] at hm hq23
              obtain ⟨rfl, rfl⟩ := hq23;refine aa ?_;refine go ?_;obtain ⟨y74, hc25, hm⟩ := bd hm
              refine aT (aL (ae.mk p1.b y72.2)  _ hc25) [0] (by first | trivial | exact cY rfl) (by first | trivial | (intro _; first | trivial | simp [af]) | simp [af]) (by simp) (by simp) rfl rfl (by first | trivial | (simp [bX, eK, eB, eS, eL, ca, aH, PV.under, CV.under, ao, OB.under, ax]; done)) (by first | trivial | (simp [bX, eK, eB, eS, eL, ca, aH, PV.under, CV.under, ao, OB.under, ax]; done)) ?_ ?_
              rotate_left
              ·rintro p σ' hpp hpl
               rcases y74 with y75 | y76
               ·exact False.elim hpp
               simp only [Sum.elim_inl, Sum.elim_inr] at hm hpp;subst hpp;have ho27 := aQ hm hr1;subst ho27;replace hm : some (.inr (y76.1, y76.2)) = some r := hm1;refine hp _ _ _ ?_;refine bz ?_;refine dP ?_;refine dW ?_;refine bz ?_;refine cI ?_;obtain rfl := sI hm;exact rfl
              rintro p σ' hq26 _
              rcases y74 with y77 | y78
              ·skip;simp only [Sum.elim_inl, Sum.elim_inr] at hm hq26
               obtain ⟨rfl, rfl⟩ := hq26;refine aa ?_;refine go ?_;obtain ⟨y79, hc28, hm⟩ := bd hm
               refine aT (aL (ae.mk p1.b y77.2)  _ hc28) [0] (by first | trivial | exact cY rfl) (by first | trivial | (intro _; first | trivial | simp [af]) | simp [af]) (by simp) (by simp) rfl rfl (by first | trivial | (simp [bX, eK, eB, eS, eL, ca, aH, PV.under, CV.under, ao, OB.under, ax]; done)) (by first | trivial | (simp [bX, eK, eB, eS, eL, ca, aH, PV.under, CV.under, ao, OB.under, ax]; done)) ?_ ?_
               rotate_left
               ·rintro p σ' hpp hpl
                rcases y79 with y80 | y81
                ·exact False.elim hpp
                simp only [Sum.elim_inl, Sum.elim_inr] at hm hpp;subst hpp;have ho30 := aQ hm hr1;subst ho30;replace hm : some (.inr (y81.1, y81.2)) = some r := hm1;refine hp _ _ _ ?_;refine bz ?_;refine dP ?_;refine dW ?_;refine bz ?_;refine cI ?_;obtain rfl := sI hm;exact rfl
               rintro p σ' hq29 _
               rcases y79 with y82 | y83
               ·skip;simp only [Sum.elim_inl, Sum.elim_inr] at hm hq29
                obtain ⟨rfl, rfl⟩ := hq29;refine aa ?_;refine go ?_;refine hk _ _ ?_;clear hk hp k kp;refine aS [36, 37, 38] fun k kp hk hp => ?_;refine go ?_;obtain ⟨y84, hc31, hm⟩ := bd hm
                refine aT (aL (ae.mk p1.b y82.2)  _ hc31) [0] (by first | trivial | exact cY rfl) (by first | trivial | (intro _; first | trivial | simp [af]) | simp [af]) (by simp) (by simp) rfl rfl (by first | trivial | (simp [bX, eK, eB, eS, eL, ca, aH, PV.under, CV.under, ao, OB.under, ax]; done)) (by first | trivial | (simp [bX, eK, eB, eS, eL, ca, aH, PV.under, CV.under, ao, OB.under, ax]; done)) ?_ ?_
                rotate_left
                ·rintro p σ' hpp hpl
                 rcases y84 with y85 | y86
                 ·exact False.elim hpp
                 simp only [Sum.elim_inl, Sum.elim_inr] at hm hpp;subst hpp;have ho33 := aQ hm hr1;subst ho33;replace hm : some (.inr (y86.1, y86.2)) = some r := hm1;refine hp _ _ _ ?_;refine bz ?_;refine dP ?_;refine dW ?_;refine bz ?_;refine cI ?_;obtain rfl := sI hm;exact rfl
                rintro p σ' hq32 _
                rcases y84 with y87 | y88
                ·skip;simp only [Sum.elim_inl, Sum.elim_inr] at hm hq32
                 obtain ⟨rfl, rfl⟩ := hq32;refine aa ?_;refine go ?_;refine hk _ _ ?_;clear hk hp k kp;obtain ⟨⟨hg34ax, hg34ay⟩, hm⟩ := gd hm;refine eD ?_;refine aO ?_;refine aw (hk2 _ _ ?_);refine eD ?_;refine bH (y87.2, (l56 ++ (lit ([(aF.mk y62.1 y67.1 y72.1 y77.1 y82.1 y87.1)] : List aF))), (IntKind.wrap .i64 (x58 + 1))) (v57 + 1) hm ?_;exact ls
                ·skip;exact False.elim hq32
               ·skip;exact False.elim hq29
              ·skip;exact False.elim hq26
             ·skip;exact False.elim hq23
            ·skip;exact False.elim hq20
           ·skip;exact False.elim hq17
          ·rw [iN h15] at hm;refine ah rfl (dF h15) ?_;refine db ?_;have ho35 := aQ hm hr1;subst ho35;replace hm : cg y4 y9 y14 y19 y24 y29 x55 l56 = some r := hm1;refine cD (bO (aX ?_));refine aP (x55, l56) v57 hm ?_;exact ls
        ·skip;exact False.elim hq14
       ·rintro ⟨x33, l34⟩ v35 hm;replace hm : cg y4 y9 y14 y19 y24 y29 x33 l34 = some r := hm;refine bP ?_;unfold cg at hm;refine am [3, 46] ?_;refine pW (cy 3 rfl) ?_;refine ap ?_
        cases hm
        exact kr 1
      ·skip;exact False.elim hq12
     ·skip;exact False.elim hq10
    ·skip;exact False.elim hq8
   ·skip;exact False.elim hq6
  ·skip;exact False.elim hq4
 ·skip;exact False.elim hq2
theorem hS (p1 : List Int) (r : (ag × aq)) (hm : cN p1 = some r) : eu Try.prog 10 [.c (.tree 1 (p1.map (eK .u8)))] (.t [.a [.int .i64 ((r.1).cells), .int .i64 ((r.1).regs), .int .i64 ((r.1).cost), .tree 1 (((r.1).put).map (eK .i64)), .tree 1 (((r.1).bools).map (eK .i64)), .tree 1 (((r.1).get).map (eK .i64)), .tree 6 (((r.1).code).map aF.enc)], .a [.int .i64 ((r.2).code), .int .i64 ((r.2).at_)]]) := by
 refine fV.drop (m7 (hf := Try.func10) 91 [.cell 2 25, .cell 3 31] 2 3 8 _ rfl rfl rfl (by kernel_rfl) (by simp) rfl rfl rfl rfl rfl rfl rfl rfl (⟨⟨_, _, _, _, _, Try.func20, rfl, rfl, rfl, by kernel_rfl, rfl, rfl, rfl, rfl, rfl, rfl, rfl, rfl⟩, by decide, by decide, by decide, by decide, by decide⟩ : Clo Try.prog 20 _ 18 5 2) ?_ ?_)
 ·skip;intro σ0
  refine hQ (by simp only [Env.ofList, bE, Nat.reduceDiv, Nat.reduceMod, Nat.reduceLT, Nat.reduceLeDiff, Nat.reduceAdd, Nat.reduceSub, Nat.reduceMul, Nat.reduceEqDiff, Nat.reduceBEq, Nat.reduceBNe, Nat.reduceGT, Int.reduceToNat]; rfl) rfl ?_;refine dX [5, 6] fun k kp hk hp => ?_;refine aj 1 ?_;refine go ?_
  refine RS (pZ rfl (by first | exact .inl rfl | exact .inr rfl) (by first | rfl | (simp only [bR, bT, tab, bX, reduceIte, ↓reduceIte, reduceCtorEq, Int.reduceToNat, Nat.reduceDiv, Nat.reduceMod, Nat.reduceLT, Nat.reduceLeDiff, Nat.reduceAdd, Nat.reduceSub, Nat.reduceMul, Nat.reduceEqDiff, Nat.reduceBEq, Nat.reduceBNe, Nat.reduceGT]; done)) (by first | kernel_rfl | exact of_decide_eq_true (by kernel_rfl))) ?_
  simp only [bR, bT, tab, bX, reduceIte, ↓reduceIte, reduceCtorEq, Int.reduceToNat, Nat.reduceDiv, Nat.reduceMod, Nat.reduceLT, Nat.reduceLeDiff, Nat.reduceAdd, Nat.reduceSub, Nat.reduceMul, Nat.reduceEqDiff, Nat.reduceBEq, Nat.reduceBNe, Nat.reduceGT];refine aa ?_;refine go ?_;refine hk _ _ ?_;clear hk hp k kp;refine ah rfl rfl ?_;refine aG ?_;exact qv rfl
 refine dR ?_;unfold cN at hm;refine eD ?_
 refine ⟨0, 1, rfl, rfl, of_decide_eq_true rfl, of_decide_eq_true rfl, of_decide_eq_true rfl, ?_⟩
 refine qu ?_;refine am [9, 10, 11] ?_;refine aB fun k1 hk1 => ?_;refine am [12] ?_
 by_cases h1 : (IntKind.wrap .i64 ((p1.length : Int) - 4)) < 3
 ·rw [iP h1] at hm;refine ab rfl (dT h1) ?_;refine am [0, 4, 13, 14, 15, 16, 17] ?_
  refine fJ (fN 0 [.int .i64 0, .int .i64 0, .int .i64 0, .tree 1 ([].map (eK .i64)), .tree 1 ([].map (eK .i64)), .tree 1 ([].map (eK .i64)), .tree 6 ([].map aF.enc)] rfl (by and_intros <;> trivial)) ?_
  refine hQ rfl (by simp only [bZ, bL, reduceIte, ↓reduceIte, reduceCtorEq, Int.reduceToNat, Nat.reduceDiv, Nat.reduceMod, Nat.reduceLT, Nat.reduceLeDiff, Nat.reduceAdd, Nat.reduceSub, Nat.reduceMul, Nat.reduceEqDiff, Nat.reduceBEq, Nat.reduceBNe, Nat.reduceGT]; rfl) ?_;refine ap ?_;refine ai ?_;refine jD ?_
  cases hm
  exact kr 0
 ·rw [iN h1] at hm;refine ah rfl (dF h1) ?_;refine aG ?_;refine aw (hk1 _ _ ?_);refine aB fun k2 hk2 => ?_;obtain ⟨hg2a, hm⟩ := gd hm;refine dX [13, 18, 19, 20] fun k kp hk hp => ?_;refine aj 2 ?_;refine go ?_
  refine RS (lR rfl (by first | kernel_rfl | exact of_decide_eq_true (by kernel_rfl)) (by first | kernel_rfl | exact of_decide_eq_true (by kernel_rfl)) (by first | kernel_rfl | exact of_decide_eq_true (by kernel_rfl)) (jB (by first | rfl | (simp only [bR, bT, tab, bX, reduceIte, ↓reduceIte, reduceCtorEq, Int.reduceToNat, Nat.reduceDiv, Nat.reduceMod, Nat.reduceLT, Nat.reduceLeDiff, Nat.reduceAdd, Nat.reduceSub, Nat.reduceMul, Nat.reduceEqDiff, Nat.reduceBEq, Nat.reduceBNe, Nat.reduceGT]; done)))) ?_
  simp only [bR, bT, tab, bX, reduceIte, ↓reduceIte, reduceCtorEq, Int.reduceToNat, Nat.reduceDiv, Nat.reduceMod, Nat.reduceLT, Nat.reduceLeDiff, Nat.reduceAdd, Nat.reduceSub, Nat.reduceMul, Nat.reduceEqDiff, Nat.reduceBEq, Nat.reduceBNe, Nat.reduceGT];refine aa ?_;refine go ?_;refine hk _ _ ?_;clear hk hp k kp
  by_cases h3 : (gY (p1.take 3)) = ([76, 87, 1] : List UInt8)
  ·rw [iP h3] at hm;refine ah rfl (by rw [show ((gY (p1.take 3)) == ([76, 87, 1] : List UInt8)) = true from (eQ h3)]; rfl) ?_;refine aG ?_;refine aw (hk2 _ _ ?_);obtain ⟨⟨hg4a, hg4b, hg4c, hg4d⟩, hm⟩ := gd hm;refine nv (a2 (em (eK .u8) p1 ((IntKind.wrap .i64 ((p1.length : Int) - 4)).toNat)) (a2 (em (eK .u8) p1 ((IntKind.wrap .i64 ((IntKind.wrap .i64 ((p1.length : Int) - 4)) + 1)).toNat)) (a2 (em (eK .u8) p1 ((IntKind.wrap .i64 ((IntKind.wrap .i64 ((p1.length : Int) - 4)) + 2)).toNat)) (em (eK .u8) p1 ((IntKind.wrap .i64 ((IntKind.wrap .i64 ((p1.length : Int) - 4)) + 3)).toNat))))) [21, 24, 25, 26, 27, 28, 29, 30, 31, 32, 33, 34, 35, 36, 37, 38, 39, 40, 41, 42, 43, 44, 45, 46, 47, 48, 49, 50, 51, 52] [0, 0, 3, 7, 15, 0, 0, 64, 224, 480, 992, 2016, 4095, 0, 0, 16384, 57344, 122880, 253952, 516096, 1048575, 0, 0, 4194304, 14680064, 31457280, 65011712, 132120576, 268435455, 536870911] [false, false, false, false, false, false, false, false, false, false, false, false, false, false, false, false, false, false, false, false, false, false, false, false, false, false, false, false, true, true] ?_;refine aB fun k3 hk3 => ?_;obtain ⟨hg5a, hm⟩ := gd hm;refine aS [5, 53, 54, 55, 56, 57] fun k kp hk hp => ?_;refine go ?_;obtain ⟨y1, hc6, hm⟩ := bd hm;refine RP (fun _ => ip (p1.take ((IntKind.wrap .i64 ((p1.length : Int) - 4)).toNat)) _ hc6) ?_;refine aa ?_;refine go ?_;refine hk _ _ ?_;clear hk hp k kp
   by_cases h7 : ¬ y1 = (bits .or .u32 (bits .or .u32 (bits .or .u32 (IntKind.wrap .u32 (p1.getD ((IntKind.wrap .i64 ((p1.length : Int) - 4)).toNat) default)) (IntKind.wrap .u32 ((IntKind.wrap .u32 (p1.getD ((IntKind.wrap .i64 ((IntKind.wrap .i64 ((p1.length : Int) - 4)) + 1)).toNat) default)) * 2 ^ (min 8 (IntKind.bits .u32))))) (IntKind.wrap .u32 ((IntKind.wrap .u32 (p1.getD ((IntKind.wrap .i64 ((IntKind.wrap .i64 ((p1.length : Int) - 4)) + 2)).toNat) default)) * 2 ^ (min 16 (IntKind.bits .u32))))) (IntKind.wrap .u32 ((IntKind.wrap .u32 (p1.getD ((IntKind.wrap .i64 ((IntKind.wrap .i64 ((p1.length : Int) - 4)) + 3)).toNat) default)) * 2 ^ (min 24 (IntKind.bits .u32)))))
   ·rw [iP h7] at hm;refine ab rfl (bne_iff_ne.2 h7) ?_;refine am [0, 4, 58, 59, 60, 61] ?_
    refine fJ (fN 0 [.int .i64 0, .int .i64 0, .int .i64 0, .tree 1 ([].map (eK .i64)), .tree 1 ([].map (eK .i64)), .tree 1 ([].map (eK .i64)), .tree 6 ([].map aF.enc)] rfl (by and_intros <;> trivial)) ?_
    refine hQ rfl (by simp only [bZ, bL, reduceIte, ↓reduceIte, reduceCtorEq, Int.reduceToNat, Nat.reduceDiv, Nat.reduceMod, Nat.reduceLT, Nat.reduceLeDiff, Nat.reduceAdd, Nat.reduceSub, Nat.reduceMul, Nat.reduceEqDiff, Nat.reduceBEq, Nat.reduceBNe, Nat.reduceGT]; rfl) ?_;refine ap ?_;refine ai ?_;refine jD ?_
    cases hm
    exact kr 0
   ·rw [iN h7] at hm;refine ah rfl (bne_eq_false_iff_eq.2 (Decidable.not_not.1 h7)) ?_;refine aG ?_;refine aw (hk3 _ _ ?_);refine am [0, 58, 62, 63, 64, 65, 66] ?_;refine aS [67, 68] fun k kp hk hp => ?_;refine go ?_;obtain ⟨y2, hc8, hm⟩ := bd hm
    refine aT (hY (ae.mk (p1.take ((IntKind.wrap .i64 ((p1.length : Int) - 4)).toNat)) 3)  _ hc8) [2] (by first | trivial | exact cY rfl) (by first | trivial | (intro _; first | trivial | simp [af]) | simp [af]) (by simp) (by simp) rfl rfl (by first | trivial | (simp [bX, eK, eB, eS, eL, ca, aH, PV.under, CV.under, ao, OB.under, ax]; done)) (by first | trivial | (simp [bX, eK, eB, eS, eL, ca, aH, PV.under, CV.under, ao, OB.under, ax]; done)) ?_ ?_
    rotate_left
    ·rintro p σ' hpp hpl
     rcases σ' with _ | ⟨t0_, ts0_⟩
     ·simp at hpl
     rcases y2 with y3 | y4
     ·exact False.elim hpp
     simp only [Sum.elim_inl, Sum.elim_inr] at hm hpp;subst hpp;refine hp _ _ _ ?_
     refine ⟨[(2, .c (.optr 0 0)), (3, .c (.optr 1 0))], [.box [.int .i64 0, .int .i64 0, .int .i64 0, .nils, .nils, .nils, .nils], .box [.int .i64 0, .int .i64 0]], 51, [(.i64, y4.1), (.i64, y4.2)], rfl, ⟨by first | trivial | (simp [hO]; done) | (and_intros <;> rfl), ⟨_, by first | rfl | (simp only [List.map_cons, bC, List.set_cons_zero, List.set_cons_succ, List.cons_append, List.nil_append]; rfl)⟩, of_decide_eq_true rfl, by first | trivial | (simp [bX, eK, eB, eS, eL, ca, aH, PV.under, CV.under, ao, OB.under, ax]; done), by first | trivial | (simp [gP, PV.under, CV.under]; done)⟩, ?_⟩
     refine hQ (by simp only [Env.ofList, bE, Nat.reduceDiv, Nat.reduceMod, Nat.reduceLT, Nat.reduceLeDiff, Nat.reduceAdd, Nat.reduceSub, Nat.reduceMul, Nat.reduceEqDiff, Nat.reduceBEq, Nat.reduceBNe, Nat.reduceGT, Int.reduceToNat]; rfl) rfl ?_;refine dX [5, 6] fun k kp hk hp => ?_;refine aj 1 ?_;refine go ?_
     refine RS (oi rfl (by first | exact .inl rfl | exact .inr rfl) (by first | rfl | (simp only [bR, bT, tab, bX, reduceIte, ↓reduceIte, reduceCtorEq, Int.reduceToNat, Nat.reduceDiv, Nat.reduceMod, Nat.reduceLT, Nat.reduceLeDiff, Nat.reduceAdd, Nat.reduceSub, Nat.reduceMul, Nat.reduceEqDiff, Nat.reduceBEq, Nat.reduceBNe, Nat.reduceGT]; done)) (by first | kernel_rfl | exact of_decide_eq_true (by kernel_rfl))) ?_
     simp only [bR, bT, tab, bX, reduceIte, ↓reduceIte, reduceCtorEq, Int.reduceToNat, Nat.reduceDiv, Nat.reduceMod, Nat.reduceLT, Nat.reduceLeDiff, Nat.reduceAdd, Nat.reduceSub, Nat.reduceMul, Nat.reduceEqDiff, Nat.reduceBEq, Nat.reduceBNe, Nat.reduceGT];refine aa ?_;refine go ?_;refine hk _ _ ?_;clear hk hp k kp;refine ab rfl rfl ?_;refine dX [7, 8, 9, 10, 11, 12] fun k kp hk hp => ?_;refine aj 1 ?_;refine go ?_
     refine RS (m6 (ns := [(.i64, y4.1), (.i64, y4.2)]) [.int .i64 y4.1, .int .i64 y4.2] rfl rfl (by first | rfl | (simp only [bR, bT, tab, bX, reduceIte, ↓reduceIte, reduceCtorEq, Int.reduceToNat, Nat.reduceDiv, Nat.reduceMod, Nat.reduceLT, Nat.reduceLeDiff, Nat.reduceAdd, Nat.reduceSub, Nat.reduceMul, Nat.reduceEqDiff, Nat.reduceBEq, Nat.reduceBNe, Nat.reduceGT]; done)) (by first | kernel_rfl | exact of_decide_eq_true (by kernel_rfl))) ?_
     simp only [bR, bT, tab, bX, reduceIte, ↓reduceIte, reduceCtorEq, Int.reduceToNat, Nat.reduceDiv, Nat.reduceMod, Nat.reduceLT, Nat.reduceLeDiff, Nat.reduceAdd, Nat.reduceSub, Nat.reduceMul, Nat.reduceEqDiff, Nat.reduceBEq, Nat.reduceBNe, Nat.reduceGT];refine aa ?_;refine go ?_;refine hk _ _ ?_;clear hk hp k kp;refine aB fun k504 hk504 => ?_;refine am [4, 13] ?_;refine ah rfl rfl ?_;refine aG ?_;refine aw (hk504 _ _ ?_);refine qN (by kernel_rfl) [0] [0, 0, 1, 7] [false, false, false, true] [false, false, true, false] [[], [3], [], []] (by kernel_rfl) fun k hk => ?_;refine gp ?_;refine hk _ _ ?_;clear hk k
     refine sm (fN 0 [.int .i64 0, .int .i64 0, .int .i64 0, .tree 1 ([].map (eK .i64)), .tree 1 ([].map (eK .i64)), .tree 1 ([].map (eK .i64)), .tree 6 ([].map aF.enc)] rfl (by and_intros <;> trivial)) ?_
     refine gz ?_;refine qv (qO (ln [] ?_));obtain rfl := sI hm
     simp only [Env.ofList, bF, bT, tab, bX, Sum.elim_inl, Sum.elim_inr, reduceIte, ↓reduceIte, reduceCtorEq, Int.reduceToNat, Nat.reduceDiv, Nat.reduceMod, Nat.reduceLT, Nat.reduceLeDiff, Nat.reduceAdd, Nat.reduceSub, Nat.reduceMul, Nat.reduceEqDiff, Nat.reduceBEq, Nat.reduceBNe, Nat.reduceGT] <;> first | done | rfl | (and_intros <;> first | rfl | omega | (simp; done))
    rintro p σ' hq9 _
    rcases y2 with y5 | y6
    ·skip;simp only [Sum.elim_inl, Sum.elim_inr] at hm hq9
     obtain ⟨rfl, rfl⟩ := hq9;refine aa ?_;refine go ?_;refine hk _ _ ?_;clear hk hp k kp;refine aB fun k505 hk505 => ?_;refine am [69, 70, 71, 72, 73] ?_
     by_cases h510 : y5.2 < (IntKind.wrap .i64 ((p1.length : Int) - 4))
     ·rw [iP h510] at hm;refine ab rfl (dT h510) ?_;refine pY [4, 6, 74, 75, 76, 77, 78, 79, 80] (by kernel_rfl) [0] [0, 0, 2, 6, 14, 30, 1, 127] [false, false, false, false, false, false, false, true] [false, false, false, false, false, false, true, false] [[], [6], [76], [77], [78], [79], [], []] (by kernel_rfl) fun k hk => ?_;refine gp ?_;refine hk _ _ ?_;clear hk k
      refine fJ (fN 0 [.int .i64 0, .int .i64 0, .int .i64 0, .tree 1 ([].map (eK .i64)), .tree 1 ([].map (eK .i64)), .tree 1 ([].map (eK .i64)), .tree 6 ([].map aF.enc)] rfl (by and_intros <;> trivial)) ?_
      refine hQ rfl (by simp only [bZ, bL, reduceIte, ↓reduceIte, reduceCtorEq, Int.reduceToNat, Nat.reduceDiv, Nat.reduceMod, Nat.reduceLT, Nat.reduceLeDiff, Nat.reduceAdd, Nat.reduceSub, Nat.reduceMul, Nat.reduceEqDiff, Nat.reduceBEq, Nat.reduceBNe, Nat.reduceGT]; rfl) ?_;refine ap ?_;refine ai ?_;refine jD ?_
      cases hm
      exact kr 0
     ·rw [iN h510] at hm;refine ah rfl (dF h510) ?_;refine aG ?_;refine aw (hk505 _ _ ?_);refine aB fun k506 hk506 => ?_;refine aS [6, 74, 81, 82] fun k kp hk hp => ?_;refine go ?_;obtain ⟨y7, hc511, hm⟩ := bd hm;refine RP (fun _ => iR (y5.1) _ hc511) ?_;refine aa ?_;refine go ?_;refine hk _ _ ?_;clear hk hp k kp;refine am [7, 83, 84] ?_
      by_cases h512 : ¬ ((y7).code) = 0
      ·rw [iP h512] at hm;refine ab rfl (bne_iff_ne.2 h512) ?_;refine am [4, 85, 86, 87, 88] ?_
       refine fJ (fN 0 [.int .i64 0, .int .i64 0, .int .i64 0, .tree 1 ([].map (eK .i64)), .tree 1 ([].map (eK .i64)), .tree 1 ([].map (eK .i64)), .tree 6 ([].map aF.enc)] rfl (by and_intros <;> trivial)) ?_
       refine hQ rfl (by simp only [bZ, bL, reduceIte, ↓reduceIte, reduceCtorEq, Int.reduceToNat, Nat.reduceDiv, Nat.reduceMod, Nat.reduceLT, Nat.reduceLeDiff, Nat.reduceAdd, Nat.reduceSub, Nat.reduceMul, Nat.reduceEqDiff, Nat.reduceBEq, Nat.reduceBNe, Nat.reduceGT]; rfl) ?_;refine ap ?_;refine ai ?_;refine jD ?_
       cases hm
       exact kr 0
      ·rw [iN h512] at hm;refine ah rfl (bne_eq_false_iff_eq.2 (Decidable.not_not.1 h512)) ?_;refine aG ?_;refine aw (hk506 _ _ ?_);refine am [4, 85, 89, 90] ?_;refine ap ?_;refine jD ?_
       cases hm
       exact kr 0
    ·skip;exact False.elim hq9
  ·rw [iN h3] at hm;refine ab rfl (by rw [show ((gY (p1.take 3)) == ([76, 87, 1] : List UInt8)) = false from (nB h3)]; rfl) ?_;refine am [0, 4, 21, 22, 23] ?_
   refine fJ (fN 0 [.int .i64 0, .int .i64 0, .int .i64 0, .tree 1 ([].map (eK .i64)), .tree 1 ([].map (eK .i64)), .tree 1 ([].map (eK .i64)), .tree 6 ([].map aF.enc)] rfl (by and_intros <;> trivial)) ?_
   refine hQ rfl (by simp only [bZ, bL, reduceIte, ↓reduceIte, reduceCtorEq, Int.reduceToNat, Nat.reduceDiv, Nat.reduceMod, Nat.reduceLT, Nat.reduceLeDiff, Nat.reduceAdd, Nat.reduceSub, Nat.reduceMul, Nat.reduceEqDiff, Nat.reduceBEq, Nat.reduceBNe, Nat.reduceGT]; rfl) ?_;refine ap ?_;refine ai ?_;refine jD ?_
   cases hm
   exact kr 0
theorem fE (p1 : List Int) (p2 : List Int) (r : Bool) (hm : dz p1 p2 = some r) : eu Try.prog 28 [.c (.tree 1 (p1.map (eK .i64))), .c (.tree 1 (p2.map (eK .i64)))] (.c (.bool r)) := by
 refine bn 26 [.tmp 4] Try.func28 rfl rfl rfl (by kernel_rfl) (by simp) ?_;refine dR ?_;unfold dz at hm;refine am [4] ?_;refine aB fun k1 hk1 => ?_;refine am [6, 7, 8, 9] ?_
 by_cases h1 : ¬ (p1.length : Int) = (p2.length : Int)
 ·rw [iP h1] at hm;refine ab rfl (bne_iff_ne.2 h1) ?_;refine am [0, 1, 10] ?_;refine ap ?_;refine ai ?_
  cases hm
  exact kr 0
 ·rw [iN h1] at hm;refine ah rfl (bne_eq_false_iff_eq.2 (Decidable.not_not.1 h1)) ?_;refine aG ?_;refine aw (hk1 _ _ ?_);refine cb (S := Unit) (V := Unit) [0, 1, 4, 5, 10, 11, 12, 13, 14, 15, 16, 17, 18, 19, 20, 21, 22, 23, 24, 25] (fun _ _ => []) (fun _ _ => []) (fun _ => dD = some r) ?_ ?_
  ·skip;refine am [10] ?_
   refine aJ ?_;obtain ⟨o1, hl1, hm1⟩ := bd hm;refine cM (S := Int) (V := Unit) (O := Unit ⊕ Bool) [4, 5, 11, 12, 13, 14, 15, 16, 17, 18, 19, 20, 21, 22, 23, 24, 25] (fun x3 _ => [(5, .c (.int .i64 x3))]) (fun x3 _ => []) _ _ () hl1 ?_ ?_
   ·exact ls
   ·rintro x3 _ r1 hm hr1;replace hm : dE p1 p2 x3 = some r1 := hm;refine bP ?_;unfold dE at hm;refine aB fun k2 hk2 => ?_;refine am [11, 12, 13] ?_
    by_cases h2 : x3 < (p1.length : Int)
    ·rw [iP h2] at hm;refine ab rfl (dT h2) ?_;refine aG ?_;refine aw (hk2 _ _ ?_);refine aB fun k3 hk3 => ?_;refine aJ ?_;obtain ⟨⟨hg3a, hg3b⟩, hm⟩ := gd hm;refine nv (a2 (em (eK .i64) p1 x3.toNat) (em (eK .i64) p2 x3.toNat)) [14, 17, 18, 19, 20, 21, 22, 23, 24] [0, 0, 3, 7, 0, 0, 48, 112, 255] [false, false, false, false, false, false, false, false, true] ?_
     by_cases h4 : ¬ (p1.getD x3.toNat default) = (p2.getD x3.toNat default)
     ·rw [iP h4] at hm;refine ab rfl (bne_iff_ne.2 h4) ?_;refine am [0, 1, 5, 25] ?_;have ho5 := aQ hm hr1;subst ho5;replace hm : some false = some r := hm1;refine ap ?_;refine ak (ai (di (ak (cP ?_))))
      cases hm
      exact kr 0
     ·rw [iN h4] at hm;refine ah rfl (bne_eq_false_iff_eq.2 (Decidable.not_not.1 h4)) ?_;refine aG ?_;refine aO ?_;refine aw (hk3 _ _ ?_);refine eD ?_;refine bH (IntKind.wrap .i64 (x3 + 1)) () hm ?_;exact ls
    ·rw [iN h2] at hm;refine ah rfl (dF h2) ?_;refine db ?_;have ho6 := aQ hm hr1;subst ho6;replace hm : dD = some r := hm1;refine cD (bO (aX ?_));refine aP () () hm ?_;exact ls
  ·rintro _ _ hm;replace hm : dD = some r := hm;refine bP ?_;unfold dD at hm;refine am [] ?_;refine ap ?_
   cases hm
   exact kr 0
theorem gG (p1 : ag) (p2 : ag) (r : Bool) (hm : dM p1 p2 = some r) : eu Try.prog 13 [.a [.int .i64 p1.cells, .int .i64 p1.regs, .int .i64 p1.cost, .tree 1 (p1.put.map (eK .i64)), .tree 1 (p1.bools.map (eK .i64)), .tree 1 (p1.get.map (eK .i64)), .tree 6 (p1.code.map aF.enc)], .a [.int .i64 p2.cells, .int .i64 p2.regs, .int .i64 p2.cost, .tree 1 (p2.put.map (eK .i64)), .tree 1 (p2.bools.map (eK .i64)), .tree 1 (p2.get.map (eK .i64)), .tree 6 (p2.code.map aF.enc)]] (.c (.bool r)) := by
 refine bn 76 [.tmp 4] Try.func13 rfl rfl rfl (by kernel_rfl) (by simp) ?_;refine dR ?_;unfold dM at hm;refine am [0, 1, 4] ?_;refine aB fun k1 hk1 => ?_;refine dX [6, 7, 8, 9, 10, 11, 12, 13, 14, 15, 16, 17, 18, 19, 20, 21, 22, 23, 24, 25, 26, 27, 28, 29, 30, 31, 32, 33, 34, 35, 36, 37, 38, 39, 40, 41, 42, 43, 44, 45, 46, 47, 48, 49, 50, 51, 52, 53, 54, 55, 56] fun k kp hk hp => ?_;refine aj 6 ?_;refine go ?_
 by_cases h1 : ¬ p1.cells = p2.cells
 ·rw [iP h1] at hm;have h1b := bne_iff_ne.2 h1;refine aa ?_;refine gox h1b ?_;refine hk _ _ ?_;clear hk hp k kp;refine ab rfl rfl ?_;refine am [2, 3, 57] ?_;refine ap ?_;refine ai ?_
  cases hm
  exact kr 0
 ·rw [iN h1] at hm;have h1b : (p1.cells != p2.cells) = false := bne_eq_false_iff_eq.2 (Decidable.not_not.1 h1);refine aj 7 ?_;refine gox h1b ?_
  by_cases h2 : ¬ p1.regs = p2.regs
  ·rw [iP h2] at hm;have h2b := bne_iff_ne.2 h2;refine aa ?_;refine gox (a2 h1b h2b) ?_;refine hk _ _ ?_;clear hk hp k kp;refine ab rfl rfl ?_;refine am [2, 3, 57] ?_;refine ap ?_;refine ai ?_
   cases hm
   exact kr 0
  ·rw [iN h2] at hm;have h2b : (p1.regs != p2.regs) = false := bne_eq_false_iff_eq.2 (Decidable.not_not.1 h2);refine aj 7 ?_;refine gox (a2 h1b h2b) ?_
   by_cases h3 : ¬ p1.cost = p2.cost
   ·rw [iP h3] at hm;have h3b := bne_iff_ne.2 h3;refine aa ?_;refine gox (a2 h1b (a2 h2b h3b)) ?_;refine hk _ _ ?_;clear hk hp k kp;refine ab rfl rfl ?_;refine am [2, 3, 57] ?_;refine ap ?_;refine ai ?_
    cases hm
    exact kr 0
   ·rw [iN h3] at hm;have h3b : (p1.cost != p2.cost) = false := bne_eq_false_iff_eq.2 (Decidable.not_not.1 h3);refine aa ?_;refine gox (a2 h1b (a2 h2b h3b)) ?_;obtain ⟨y1, hc4, hm⟩ := bd hm;refine RP (fun _ => fE p1.put p2.put _ hc4) ?_
    by_cases h5 : y1 = true
    ·rw [iP h5] at hm;have h5b := h5
     have h5c : (!y1) = false := by rw [h5b]; rfl
     refine aa ?_;refine gox (a2 h1b (a2 h2b (a2 h3b (a2 h5b h5c)))) ?_;obtain ⟨y2, hc6, hm⟩ := bd hm;refine RP (fun _ => fE p1.bools p2.bools _ hc6) ?_
     by_cases h7 : y2 = true
     ·rw [iP h7] at hm;have h7b := h7
      have h7c : (!y2) = false := by rw [h7b]; rfl
      refine aa ?_;refine gox (a2 h1b (a2 h2b (a2 h3b (a2 h5b (a2 h5c (a2 h7b h7c)))))) ?_;obtain ⟨y3, hc8, hm⟩ := bd hm;refine RP (fun _ => fE p1.get p2.get _ hc8) ?_
      by_cases h9 : y3 = true
      ·rw [iP h9] at hm;have h9b := h9
       have h9c : (!y3) = false := by rw [h9b]; rfl
       refine aa ?_;refine gox (a2 h1b (a2 h2b (a2 h3b (a2 h5b (a2 h5c (a2 h7b (a2 h7c (a2 h9b h9c)))))))) ?_;refine hk _ _ ?_;clear hk hp k kp
       by_cases h10 : ¬ (p1.code.length : Int) = (p2.code.length : Int)
       ·rw [iP h10] at hm;refine ab rfl (bne_iff_ne.2 h10) ?_;refine am [2, 3, 57] ?_;refine ap ?_;refine ai ?_
        cases hm
        exact kr 0
       ·rw [iN h10] at hm;refine ah rfl (bne_eq_false_iff_eq.2 (Decidable.not_not.1 h10)) ?_;refine aG ?_;refine aw (hk1 _ _ ?_);refine cb (S := Unit) (V := Unit) [2, 3, 4, 5, 57, 58, 59, 60, 61, 62, 63, 64, 65, 66, 67, 68, 69, 70, 71, 72, 73, 74, 75] (fun _ _ => []) (fun _ _ => [.box [.int .i64 p1.cells, .int .i64 p1.regs, .int .i64 p1.cost, .tree 1 (p1.put.map (eK .i64)), .tree 1 (p1.bools.map (eK .i64)), .tree 1 (p1.get.map (eK .i64)), .tree 6 (p1.code.map aF.enc)], .box [.int .i64 p2.cells, .int .i64 p2.regs, .int .i64 p2.cost, .tree 1 (p2.put.map (eK .i64)), .tree 1 (p2.bools.map (eK .i64)), .tree 1 (p2.get.map (eK .i64)), .tree 6 (p2.code.map aF.enc)]]) (fun _ => dm = some r) ?_ ?_
        ·skip;refine am [57] ?_
         refine aJ ?_;obtain ⟨o1, hl1, hm1⟩ := bd hm;refine cM (S := Int) (V := Unit) (O := Unit ⊕ Bool) [4, 5, 58, 59, 60, 61, 62, 63, 64, 65, 66, 67, 68, 69, 70, 71, 72, 73, 74, 75] (fun x6 _ => [(5, .c (.int .i64 x6))]) (fun x6 _ => [.box [.int .i64 p1.cells, .int .i64 p1.regs, .int .i64 p1.cost, .tree 1 (p1.put.map (eK .i64)), .tree 1 (p1.bools.map (eK .i64)), .tree 1 (p1.get.map (eK .i64)), .tree 6 (p1.code.map aF.enc)], .box [.int .i64 p2.cells, .int .i64 p2.regs, .int .i64 p2.cost, .tree 1 (p2.put.map (eK .i64)), .tree 1 (p2.bools.map (eK .i64)), .tree 1 (p2.get.map (eK .i64)), .tree 6 (p2.code.map aF.enc)]]) _ _ () hl1 ?_ ?_
         ·exact ls
         ·rintro x6 _ r1 hm hr1;replace hm : dp p1 p2 x6 = some r1 := hm;refine bP ?_;unfold dp at hm;refine aB fun k2 hk2 => ?_;refine am [58, 59, 60, 61] ?_
          by_cases h11 : x6 < (p1.code.length : Int)
          ·rw [iP h11] at hm;refine ab rfl (dT h11) ?_;refine aG ?_;refine aw (hk2 _ _ ?_);refine aB fun k3 hk3 => ?_;refine aJ ?_;obtain ⟨⟨hg12a, hg12b⟩, hm⟩ := gd hm;refine nv (a2 (em aF.enc p1.code x6.toNat) (em aF.enc p2.code x6.toNat)) [62, 65, 66, 67, 68, 69, 70, 71, 72, 73, 74] [0, 1, 0, 7, 15, 0, 32, 0, 224, 480, 1023] [false, false, false, false, false, false, false, false, false, false, true] ?_
           by_cases h13 : ((p1.code.getD x6.toNat default).op) = ((p2.code.getD x6.toNat default).op) ∧ ((p1.code.getD x6.toNat default).k) = ((p2.code.getD x6.toNat default).k) ∧ ((p1.code.getD x6.toNat default).r_) = ((p2.code.getD x6.toNat default).r_) ∧ ((p1.code.getD x6.toNat default).a) = ((p2.code.getD x6.toNat default).a) ∧ ((p1.code.getD x6.toNat default).b) = ((p2.code.getD x6.toNat default).b) ∧ ((p1.code.getD x6.toNat default).n) = ((p2.code.getD x6.toNat default).n)
           ·rw [iP h13] at hm;refine ah rfl (by rw [show ((((p1.code.getD x6.toNat default).op) == ((p2.code.getD x6.toNat default).op)) && ((((p1.code.getD x6.toNat default).k) == ((p2.code.getD x6.toNat default).k)) && ((((p1.code.getD x6.toNat default).r_) == ((p2.code.getD x6.toNat default).r_)) && ((((p1.code.getD x6.toNat default).a) == ((p2.code.getD x6.toNat default).a)) && ((((p1.code.getD x6.toNat default).b) == ((p2.code.getD x6.toNat default).b)) && (((p1.code.getD x6.toNat default).n) == ((p2.code.getD x6.toNat default).n))))))) = true from (by simpa [Bool.and_eq_true] using h13)]; rfl) ?_;refine aG ?_;refine aO ?_;refine aw (hk3 _ _ ?_);refine eD ?_;refine bH (IntKind.wrap .i64 (x6 + 1)) () hm ?_;exact ls
           ·rw [iN h13] at hm;refine ab rfl (by rw [show ((((p1.code.getD x6.toNat default).op) == ((p2.code.getD x6.toNat default).op)) && ((((p1.code.getD x6.toNat default).k) == ((p2.code.getD x6.toNat default).k)) && ((((p1.code.getD x6.toNat default).r_) == ((p2.code.getD x6.toNat default).r_)) && ((((p1.code.getD x6.toNat default).a) == ((p2.code.getD x6.toNat default).a)) && ((((p1.code.getD x6.toNat default).b) == ((p2.code.getD x6.toNat default).b)) && (((p1.code.getD x6.toNat default).n) == ((p2.code.getD x6.toNat default).n))))))) = false from (fB (fun hh => h13 (by simpa [Bool.and_eq_true] using hh)))]; rfl) ?_;refine am [2, 3, 5, 75] ?_;have ho14 := aQ hm hr1;subst ho14;replace hm : some false = some r := hm1;refine ap ?_;refine ak (ai (di (ak (cP ?_))))
            cases hm
            exact kr 0
          ·rw [iN h11] at hm;refine ah rfl (dF h11) ?_;refine db ?_;have ho15 := aQ hm hr1;subst ho15;replace hm : dm = some r := hm1;refine cD (bO (aX ?_));refine aP () () hm ?_;exact ls
        ·rintro _ _ hm;replace hm : dm = some r := hm;refine bP ?_;unfold dm at hm;refine am [] ?_;refine ap ?_
         cases hm
         exact kr 0
      ·rw [iN h9] at hm;have h9b := fB h9
       have h9c : (!y3) = true := by rw [h9b]; rfl
       refine aa ?_;refine gox (a2 h1b (a2 h2b (a2 h3b (a2 h5b (a2 h5c (a2 h7b (a2 h7c (a2 h9b h9c)))))))) ?_;refine hk _ _ ?_;clear hk hp k kp;refine ab rfl rfl ?_;refine am [2, 3, 57] ?_;refine ap ?_;refine ai ?_
       cases hm
       exact kr 0
     ·rw [iN h7] at hm;have h7b := fB h7
      have h7c : (!y2) = true := by rw [h7b]; rfl
      refine aa ?_;refine gox (a2 h1b (a2 h2b (a2 h3b (a2 h5b (a2 h5c (a2 h7b h7c)))))) ?_;refine hk _ _ ?_;clear hk hp k kp;refine ab rfl rfl ?_;refine am [2, 3, 57] ?_;refine ap ?_;refine ai ?_
      cases hm
      exact kr 0
    ·rw [iN h5] at hm;have h5b := fB h5
     have h5c : (!y1) = true := by rw [h5b]; rfl
     refine aa ?_;refine gox (a2 h1b (a2 h2b (a2 h3b (a2 h5b h5c)))) ?_;refine hk _ _ ?_;clear hk hp k kp;refine ab rfl rfl ?_;refine am [2, 3, 57] ?_;refine ap ?_;refine ai ?_
     cases hm
     exact kr 0
theorem jE (p1 : ag) (p2 : List Int) (r : Bool) (hm : fq p1 p2 = some r) : eu Try.prog 4 [.a [.int .i64 p1.cells, .int .i64 p1.regs, .int .i64 p1.cost, .tree 1 (p1.put.map (eK .i64)), .tree 1 (p1.bools.map (eK .i64)), .tree 1 (p1.get.map (eK .i64)), .tree 6 (p1.code.map aF.enc)], .c (.tree 1 (p2.map (eK .u8)))] (.c (.bool r)) := by
 refine bn 70 [.tmp 4] Try.func4 rfl rfl rfl (by kernel_rfl) (by simp) ?_;refine dR ?_;unfold fq at hm;refine am [0, 4] ?_;refine aB fun k1 hk1 => ?_;refine aS [13] fun k kp hk hp => ?_;refine go ?_;obtain ⟨y1, hc1, hm⟩ := bd hm;refine RP (fun _ => jq  _ hc1) ?_;refine aa ?_;refine go ?_;refine hk _ _ ?_;clear hk hp k kp
 by_cases h2 : y1 = true
 ·rw [iP h2] at hm;refine ah rfl (by rw [show y1 = true from (h2)]; rfl) ?_;refine aG ?_;refine aw (hk1 _ _ ?_);refine aB fun k2 hk2 => ?_;refine aS [14, 15, 16, 17, 18, 19, 20] fun k kp hk hp => ?_;refine go ?_;obtain ⟨y2, hc3, hm⟩ := bd hm;refine RP (fun _ => jr p1 _ hc3) ?_
  by_cases h4 : y2 = true
  ·rw [iP h4] at hm;have h4b := h4;refine aa ?_;refine gox h4b ?_;refine hk _ _ ?_;clear hk hp k kp;refine ab rfl rfl ?_;refine am [1, 2, 21] ?_;refine ap ?_;refine ai ?_
   cases hm
   exact kr 0
  ·rw [iN h4] at hm;have h4b := fB h4;refine aa ?_;refine gox h4b ?_;refine hk _ _ ?_;clear hk hp k kp
   by_cases h5 : (p2.length : Int) > 30000
   ·rw [iP h5] at hm;refine ab rfl (dT h5) ?_;refine am [1, 2, 21] ?_;refine ap ?_;refine ai ?_
    cases hm
    exact kr 0
   ·rw [iN h5] at hm;refine ah rfl (dF h5) ?_;refine aG ?_;refine aw (hk2 _ _ ?_);refine aS [21, 22, 23, 24, 25, 26] fun k kp hk hp => ?_;refine go ?_;obtain ⟨y3, hc6, hm⟩ := bd hm;refine RP (fun _ => fD p1 _ hc6) ?_;refine aa ?_;refine go ?_;refine hk _ _ ?_;clear hk hp k kp;refine cb (S := Unit) (V := Unit) [2, 4, 5, 6, 7, 8, 27, 28, 29, 30, 31, 32, 33, 34, 35, 36, 37, 38, 39, 40, 41, 42, 43] (fun _ _ => []) (fun _ _ => [.box [.int .i64 p1.cells, .int .i64 p1.regs, .int .i64 p1.cost, .tree 1 (p1.put.map (eK .i64)), .tree 1 (p1.bools.map (eK .i64)), .tree 1 (p1.get.map (eK .i64)), .tree 6 (p1.code.map aF.enc)], .box [.int .i64 ((y3.2).code), .int .i64 ((y3.2).at_)]]) (fun _ => cn p2 = some r) ?_ ?_
    ·skip;refine am [6, 27, 28] ?_
     by_cases h12 : ((y3.2).code) = 0
     ·rw [iP h12] at hm;refine ab rfl (eQ h12) ?_;refine aS [5, 29, 30, 31, 32, 33, 34] fun k kp hk hp => ?_;refine go ?_;obtain ⟨y7, hc13, hm⟩ := bd hm;refine RP (fun _ => hS y3.1 _ hc13) ?_;refine aa ?_;refine go ?_;refine hk _ _ ?_;clear hk hp k kp;refine dX [2, 7, 8, 35, 36, 37, 38, 39, 40, 41, 42] fun k kp hk hp => ?_;refine aj 4 ?_;refine go ?_
      by_cases h14 : ¬ ((y7.2).code) = 0
      ·rw [iP h14] at hm;have h14b := bne_iff_ne.2 h14;refine aa ?_;refine gox h14b ?_;refine hk _ _ ?_;clear hk hp k kp;refine ab rfl rfl ?_;refine am [1, 43] ?_;refine ap ?_;refine cP ?_
       cases hm
       exact kr 0
      ·rw [iN h14] at hm;have h14b : (((y7.2).code) != 0) = false := bne_eq_false_iff_eq.2 (Decidable.not_not.1 h14);refine aa ?_;refine gox h14b ?_;obtain ⟨y8, hc15, hm⟩ := bd hm;refine RP (fun _ => gG (y7.1) p1 _ hc15) ?_;refine aa ?_;refine gox h14b ?_;refine hk _ _ ?_;clear hk hp k kp
       by_cases h16 : y8 = true
       ·rw [iP h16] at hm;refine ah rfl (by rw [show y8 = true from (h16)]; rfl) ?_;refine aG ?_;refine aP () () hm ?_;exact la
       ·rw [iN h16] at hm;refine ab rfl (by rw [show y8 = false from (fB h16)]; rfl) ?_;refine am [1, 43] ?_;refine ap ?_;refine cP ?_
        cases hm
        exact kr 0
     ·rw [iN h12] at hm;refine ah rfl (nB h12) ?_;refine aG ?_;refine aP () () hm ?_;exact la
    ·rintro _ _ hm;replace hm : cn p2 = some r := hm;refine bP ?_;unfold cn at hm;refine aS [44, 45, 46, 47, 48] fun k kp hk hp => ?_;refine go ?_;obtain ⟨y4, hc7, hm⟩ := bd hm;refine RP (fun _ => hS p2 _ hc7) ?_;refine aa ?_;refine go ?_;refine hk _ _ ?_;clear hk hp k kp;refine aB fun k3 hk3 => ?_;refine am [10, 49, 50] ?_
     by_cases h8 : ¬ ((y4.2).code) = 0
     ·rw [iP h8] at hm;refine ab rfl (bne_iff_ne.2 h8) ?_;refine aS [1, 9, 51, 52, 53, 54] fun k kp hk hp => ?_;refine go ?_
      refine aU (jA 53 (.a [.int .i64 0, .int .i64 0, .int .i64 0, .tree 1 ([].map (eK .i64)), .tree 1 ([].map (eK .i64)), .tree 1 ([].map (eK .i64)), .tree 6 ([].map aF.enc)]) rfl (by and_intros <;> trivial)) ?_
      refine go ?_;obtain ⟨y5, hc9, hm⟩ := bd hm;refine RP (fun _ => gG (y4.1) (ag.mk 0 0 0 [] [] [] []) _ hc9) ?_;refine aa ?_;refine go ?_;refine hk _ _ ?_;clear hk hp k kp;refine ap ?_;refine ai ?_
      cases hm
      exact kr 0
     ·rw [iN h8] at hm;refine ah rfl (bne_eq_false_iff_eq.2 (Decidable.not_not.1 h8)) ?_;refine aG ?_;refine aw (hk3 _ _ ?_);refine aS [9, 51, 55, 56, 57, 58, 59] fun k kp hk hp => ?_;refine go ?_;obtain ⟨y6, hc10, hm⟩ := bd hm;refine RP (fun _ => fD (y4.1) _ hc10) ?_;refine aa ?_;refine go ?_;refine hk _ _ ?_;clear hk hp k kp;refine dX [1, 11, 12, 60, 61, 62, 63, 64, 65, 66, 67, 68, 69] fun k kp hk hp => ?_;refine aj 4 ?_;refine go ?_
      by_cases h11 : ((y6.2).code) = 0
      ·rw [iP h11] at hm;have h11b := eQ h11;refine aj 1 ?_;refine gox h11b ?_
       refine RS (lR rfl (by first | kernel_rfl | exact of_decide_eq_true (by kernel_rfl)) (by first | kernel_rfl | exact of_decide_eq_true (by kernel_rfl)) (by first | kernel_rfl | exact of_decide_eq_true (by kernel_rfl)) (jB (by first | rfl | (simp only [bR, bT, tab, bX, reduceIte, ↓reduceIte, reduceCtorEq, Int.reduceToNat, Nat.reduceDiv, Nat.reduceMod, Nat.reduceLT, Nat.reduceLeDiff, Nat.reduceAdd, Nat.reduceSub, Nat.reduceMul, Nat.reduceEqDiff, Nat.reduceBEq, Nat.reduceBNe, Nat.reduceGT]; done)))) ?_
       simp only [bR, bT, tab, bX, reduceIte, ↓reduceIte, reduceCtorEq, Int.reduceToNat, Nat.reduceDiv, Nat.reduceMod, Nat.reduceLT, Nat.reduceLeDiff, Nat.reduceAdd, Nat.reduceSub, Nat.reduceMul, Nat.reduceEqDiff, Nat.reduceBEq, Nat.reduceBNe, Nat.reduceGT];refine aj 1 ?_;refine gox h11b ?_
       refine RS (lR rfl (by first | kernel_rfl | exact of_decide_eq_true (by kernel_rfl)) (by first | kernel_rfl | exact of_decide_eq_true (by kernel_rfl)) (by first | kernel_rfl | exact of_decide_eq_true (by kernel_rfl)) (jB (by first | rfl | (simp only [bR, bT, tab, bX, reduceIte, ↓reduceIte, reduceCtorEq, Int.reduceToNat, Nat.reduceDiv, Nat.reduceMod, Nat.reduceLT, Nat.reduceLeDiff, Nat.reduceAdd, Nat.reduceSub, Nat.reduceMul, Nat.reduceEqDiff, Nat.reduceBEq, Nat.reduceBNe, Nat.reduceGT]; done)))) ?_
       simp only [bR, bT, tab, bX, reduceIte, ↓reduceIte, reduceCtorEq, Int.reduceToNat, Nat.reduceDiv, Nat.reduceMod, Nat.reduceLT, Nat.reduceLeDiff, Nat.reduceAdd, Nat.reduceSub, Nat.reduceMul, Nat.reduceEqDiff, Nat.reduceBEq, Nat.reduceBNe, Nat.reduceGT];refine aa ?_;refine gox h11b ?_;refine hk _ _ ?_;clear hk hp k kp;refine ap ?_
       cases hm
       exact kr 0
      ·rw [iN h11] at hm;have h11b := nB h11;refine aa ?_;refine gox h11b ?_;refine hk _ _ ?_;clear hk hp k kp;refine ap ?_
       cases hm
       exact kr 0
 ·rw [iN h2] at hm;refine ab rfl (by rw [show y1 = false from (fB h2)]; rfl) ?_;refine am [1, 2, 14] ?_;refine ap ?_;refine ai ?_
  cases hm
  exact kr 0
end Pam
