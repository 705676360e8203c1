/- the walk of kinds_Op, printed by a program of ours -/
import Derived.Test.YtjmjabdmmlgenaaDoesBase2
import Derived.Test.YtjmjabdmmlgenaaDoesaFun1
import Derived.Test.YtjmjabdmmlgenaaDoesBase3
set_option linter.all false
set_option maxRecDepth 100000
set_option maxHeartbeats 8000000
namespace Pam
open Go Go.Proofs
theorem oO (p1 : Int) (r : (Int × Int × Int)) (hm : jP p1 = some r) : cR Try.prog 39 [.c (.int .i64 p1)] (.t [.c (.int .u8 r.1), .c (.int .u8 r.2.1), .c (.int .i64 r.2.2)]) := by
 refine aR 32 [.tmp 2, .tmp 3, .tmp 4] Try.func39 rfl rfl rfl (by kernel_rfl) (by simp) ?_;refine cB ?_;unfold jP at hm;refine ai [2, 3, 4] ?_;refine ap fun k1 hk1 => ?_;refine aw ?_
 by_cases h1 : p1 ≥ 1
 ·rw [iP h1] at hm;have h1b := dT h1;refine cS h1b [6, 7, 8, 9, 10, 11] ?_
  by_cases h2 : p1 ≤ 7
  ·rw [iP h2] at hm;refine ab rfl (dT h2) ?_;refine ai [0, 5] ?_;refine an ?_;refine ag (ah ?_)
   cases hm
   exact kr 0
  ·rw [iN h2] at hm;refine ae rfl (dF h2) ?_
   by_cases h3 : p1 = 8
   ·rw [iP h3] at hm;have h3b := eQ h3;refine cS h3b [5, 13, 14, 15, 16, 17, 18] ?_;refine ab rfl rfl ?_;refine ai [0, 12] ?_;refine an ?_;refine ag (ah ?_)
    cases hm
    exact kr 0
   ·rw [iN h3] at hm;have h3b := nB h3;refine cS h3b [5, 13, 14, 15, 16, 17, 18] ?_
    by_cases h4 : p1 = 9
    ·rw [iP h4] at hm;refine ab rfl (eQ h4) ?_;refine ai [0, 12] ?_;refine an ?_;refine ag (ah ?_)
     cases hm
     exact kr 0
    ·rw [iN h4] at hm;refine ae rfl (nB h4) ?_
     by_cases h5 : p1 ≥ 10
     ·rw [iP h5] at hm;have h5b := dT h5;refine cS h5b [12, 20, 21, 22, 23, 24, 25] ?_
      by_cases h6 : p1 ≤ 12
      ·rw [iP h6] at hm;refine ab rfl (dT h6) ?_;refine ai [0, 19] ?_;refine an ?_;refine ag (ah ?_)
       cases hm
       exact kr 0
      ·rw [iN h6] at hm;refine ae rfl (dF h6) ?_;refine ai [19, 27, 28] ?_
       by_cases h7 : p1 = 13
       ·rw [iP h7] at hm;refine ab rfl (eQ h7) ?_;refine ai [0, 26] ?_;refine an ?_;refine ag (ah ?_)
        cases hm
        exact kr 0
       ·rw [iN h7] at hm;refine ae rfl (nB h7) ?_;refine ai [0, 26, 30, 31] ?_
        by_cases h8 : p1 = 14
        ·rw [iP h8] at hm;refine ab rfl (eQ h8) ?_;refine ai [29] ?_;refine an ?_;refine ag (ah ?_)
         cases hm
         exact kr 0
        ·rw [iN h8] at hm;refine ae rfl (nB h8) ?_;refine aq ?_;refine aH ?_;refine ak (hk1 _ _ ?_);refine ai [29] ?_;refine an ?_
         cases hm
         exact kr 0
     ·rw [iN h5] at hm;have h5b := dF h5;refine cS h5b [12, 20, 21, 22, 23, 24, 25] ?_;refine ae rfl rfl ?_;refine ai [19, 27, 28] ?_
      by_cases h9 : p1 = 13
      ·rw [iP h9] at hm;refine ab rfl (eQ h9) ?_;refine ai [0, 26] ?_;refine an ?_;refine ag (ah ?_)
       cases hm
       exact kr 0
      ·rw [iN h9] at hm;refine ae rfl (nB h9) ?_;refine ai [0, 26, 30, 31] ?_
       by_cases h10 : p1 = 14
       ·rw [iP h10] at hm;refine ab rfl (eQ h10) ?_;refine ai [29] ?_;refine an ?_;refine ag (ah ?_)
        cases hm
        exact kr 0
       ·rw [iN h10] at hm;refine ae rfl (nB h10) ?_;refine aq ?_;refine aH ?_;refine ak (hk1 _ _ ?_);refine ai [29] ?_;refine an ?_
        cases hm
        exact kr 0
 ·rw [iN h1] at hm;have h1b := dF h1;refine cS h1b [6, 7, 8, 9, 10, 11] ?_;refine ae rfl rfl ?_
  by_cases h11 : p1 = 8
  ·rw [iP h11] at hm;have h11b := eQ h11;refine cS h11b [5, 13, 14, 15, 16, 17, 18] ?_;refine ab rfl rfl ?_;refine ai [0, 12] ?_;refine an ?_;refine ag (ah ?_)
   cases hm
   exact kr 0
  ·rw [iN h11] at hm;have h11b := nB h11;refine cS h11b [5, 13, 14, 15, 16, 17, 18] ?_
   by_cases h12 : p1 = 9
   ·rw [iP h12] at hm;refine ab rfl (eQ h12) ?_;refine ai [0, 12] ?_;refine an ?_;refine ag (ah ?_)
    cases hm
    exact kr 0
   ·rw [iN h12] at hm;refine ae rfl (nB h12) ?_
    by_cases h13 : p1 ≥ 10
    ·rw [iP h13] at hm;have h13b := dT h13;refine cS h13b [12, 20, 21, 22, 23, 24, 25] ?_
     by_cases h14 : p1 ≤ 12
     ·rw [iP h14] at hm;refine ab rfl (dT h14) ?_;refine ai [0, 19] ?_;refine an ?_;refine ag (ah ?_)
      cases hm
      exact kr 0
     ·rw [iN h14] at hm;refine ae rfl (dF h14) ?_;refine ai [19, 27, 28] ?_
      by_cases h15 : p1 = 13
      ·rw [iP h15] at hm;refine ab rfl (eQ h15) ?_;refine ai [0, 26] ?_;refine an ?_;refine ag (ah ?_)
       cases hm
       exact kr 0
      ·rw [iN h15] at hm;refine ae rfl (nB h15) ?_;refine ai [0, 26, 30, 31] ?_
       by_cases h16 : p1 = 14
       ·rw [iP h16] at hm;refine ab rfl (eQ h16) ?_;refine ai [29] ?_;refine an ?_;refine ag (ah ?_)
        cases hm
        exact kr 0
       ·rw [iN h16] at hm;refine ae rfl (nB h16) ?_;refine aq ?_;refine aH ?_;refine ak (hk1 _ _ ?_);refine ai [29] ?_;refine an ?_
        cases hm
        exact kr 0
    ·rw [iN h13] at hm;have h13b := dF h13;refine cS h13b [12, 20, 21, 22, 23, 24, 25] ?_;refine ae rfl rfl ?_;refine ai [19, 27, 28] ?_
     by_cases h17 : p1 = 13
     ·rw [iP h17] at hm;refine ab rfl (eQ h17) ?_;refine ai [0, 26] ?_;refine an ?_;refine ag (ah ?_)
      cases hm
      exact kr 0
     ·rw [iN h17] at hm;refine ae rfl (nB h17) ?_;refine ai [0, 26, 30, 31] ?_
      by_cases h18 : p1 = 14
      ·rw [iP h18] at hm;refine ab rfl (eQ h18) ?_;refine ai [29] ?_;refine an ?_;refine ag (ah ?_)
       cases hm
       exact kr 0
      ·rw [iN h18] at hm;refine ae rfl (nB h18) ?_;refine aq ?_;refine aH ?_;refine ak (hk1 _ _ ?_);refine ai [29] ?_;refine an ?_
       cases hm
       exact kr 0
theorem kg (p1 : Int) (p2 : ck) (r : Bool) (hm : fT p1 p2 = some r) : gv Try.prog 43 [.c (.int .i64 p1), .c (.optr 0 0)] [.box [.int .i64 p2.m_.cells, .int .i64 p2.m_.regs, .int .i64 p2.m_.cost, .tree 1 (p2.m_.put.map (eK .i64)), .tree 1 (p2.m_.bools.map (eK .i64)), .tree 1 (p2.m_.get.map (eK .i64)), .tree 6 (p2.m_.code.map ax.enc)]] (fun p σ => (p = .c (.bool r) ∧ σ = [.box [.int .i64 p2.m_.cells, .int .i64 p2.m_.regs, .int .i64 p2.m_.cost, .tree 1 (p2.m_.put.map (eK .i64)), .tree 1 (p2.m_.bools.map (eK .i64)), .tree 1 (p2.m_.get.map (eK .i64)), .tree 6 (p2.m_.code.map ax.enc)]])) (fun _ _ => False) := by
 refine aR 13 [.tmp 3] Try.func43 rfl rfl rfl (by kernel_rfl) (by simp) ?_;refine cB ?_;unfold fT at hm;refine ai [3] ?_
 by_cases h1 : p1 < 0
 ·rw [iP h1] at hm;have h1b := dT h1;refine cS h1b [0, 1, 4, 5, 6, 7, 8, 9, 10, 11, 12] ?_;refine an ?_
  cases hm
  exact kr 1
 ·rw [iN h1] at hm;have h1b := dF h1;refine cS h1b [0, 1, 4, 5, 6, 7, 8, 9, 10, 11, 12] ?_;refine an ?_
  cases hm
  exact kr 1
theorem ij (p1 : List Int) (p2 : ck) (r : Int) (hm : cm p1 p2 = some r) : gv Try.prog 44 [.c (.tree 1 (p1.map (eK .i64))), .c (.fn 43 [.optr 0 0])] [.box [.int .i64 p2.m_.cells, .int .i64 p2.m_.regs, .int .i64 p2.m_.cost, .tree 1 (p2.m_.put.map (eK .i64)), .tree 1 (p2.m_.bools.map (eK .i64)), .tree 1 (p2.m_.get.map (eK .i64)), .tree 6 (p2.m_.code.map ax.enc)]] (fun p σ => (p = .c (.int .i64 r) ∧ σ = [.box [.int .i64 p2.m_.cells, .int .i64 p2.m_.regs, .int .i64 p2.m_.cost, .tree 1 (p2.m_.put.map (eK .i64)), .tree 1 (p2.m_.bools.map (eK .i64)), .tree 1 (p2.m_.get.map (eK .i64)), .tree 6 (p2.m_.code.map ax.enc)]])) (fun _ _ => False) := by
 refine aR 19 [.tmp 4] Try.func44 rfl rfl rfl (by kernel_rfl) (by simp) ?_;refine cB ?_;unfold cm at hm;refine ai [4] ?_;refine aT (S := Unit) (V := Unit) [0, 1, 4, 5, 6, 7, 8, 9, 10, 11, 12, 13, 14, 15, 16, 17, 18] (fun _ _ => []) (fun _ _ => [.box [.int .i64 p2.m_.cells, .int .i64 p2.m_.regs, .int .i64 p2.m_.cost, .tree 1 (p2.m_.put.map (eK .i64)), .tree 1 (p2.m_.bools.map (eK .i64)), .tree 1 (p2.m_.get.map (eK .i64)), .tree 6 (p2.m_.code.map ax.enc)]]) (fun _ => bO = some r) ?_ ?_
 ·skip;refine ai [6] ?_
  refine aw ?_;obtain ⟨o1, hl1, hm1⟩ := bd hm;refine bl (S := Int) (V := Unit) (O := Unit ⊕ Int) [4, 5, 8, 9, 10, 11, 12, 13, 14, 15, 16, 17, 18] (fun x3 _ => [(8, .c (.int .i64 x3))]) (fun x3 _ => [.box [.int .i64 p2.m_.cells, .int .i64 p2.m_.regs, .int .i64 p2.m_.cost, .tree 1 (p2.m_.put.map (eK .i64)), .tree 1 (p2.m_.bools.map (eK .i64)), .tree 1 (p2.m_.get.map (eK .i64)), .tree 6 (p2.m_.code.map ax.enc)]]) _ _ () hl1 ?_ ?_
  ·exact ls
  ·rintro x3 _ r1 hm hr1;replace hm : bP p1 p2 x3 = some r1 := hm;refine aP ?_;unfold bP at hm;refine ai [] ?_;refine ap fun k1 hk1 => ?_
   by_cases h1 : x3 < (p1.length : Int)
   ·rw [iP h1] at hm;refine ab rfl (dT h1) ?_;refine aq ?_;refine ak (hk1 _ _ ?_);refine ap fun k2 hk2 => ?_;refine aw ?_;refine ai [9, 10] ?_;obtain ⟨hg2a, hm⟩ := gd hm;refine av [11, 12, 13, 14, 15] fun k kp hk hp => ?_;refine gox (em (eK .i64) p1 x3.toNat) ?_;obtain ⟨y4, hc3, hm⟩ := bd hm;refine RA (kg (p1.getD x3.toNat default) p2  _ hc3) [0] ?_;rintro p σ' ⟨rfl, rfl⟩ _;refine aa ?_;refine gox (em (eK .i64) p1 x3.toNat) ?_;refine hk _ _ ?_;clear hk hp k kp
    by_cases h5 : y4 = true
    ·rw [iP h5] at hm;refine ab rfl (h5) ?_;refine ai [0, 1, 5, 7, 8, 16, 17] ?_;have ho6 := aC hm hr1;subst ho6;replace hm : some x3 = some r := hm1;refine an ?_;refine ag (ah (bi (ag (aS ?_))))
     cases hm
     exact kr 1
    ·rw [iN h5] at hm;refine ae rfl (fB h5) ?_;refine aq ?_;refine aH ?_;refine ak (hk2 _ _ ?_);refine cE ?_;refine aO (IntKind.wrap .i64 (x3 + 1)) () hm ?_;exact ls
   ·rw [iN h1] at hm;refine ae rfl (dF h1) ?_;refine bw ?_;have ho7 := aC hm hr1;subst ho7;replace hm : bO = some r := hm1;refine aX (aL (az ?_));refine au () () hm ?_;exact ls
 ·rintro _ _ hm;replace hm : bO = some r := hm;refine aP ?_;unfold bO at hm;refine ai [] ?_;refine an ?_
  cases hm
  exact kr 1
theorem gP (p1 : List Int) (p2 : ck) (r : Bool) (hm : cD p1 p2 = some r) : gv Try.prog 42 [.c (.tree 1 (p1.map (eK .i64))), .c (.fn 43 [.optr 0 0])] [.box [.int .i64 p2.m_.cells, .int .i64 p2.m_.regs, .int .i64 p2.m_.cost, .tree 1 (p2.m_.put.map (eK .i64)), .tree 1 (p2.m_.bools.map (eK .i64)), .tree 1 (p2.m_.get.map (eK .i64)), .tree 6 (p2.m_.code.map ax.enc)]] (fun p σ => (p = .c (.bool r) ∧ σ = [.box [.int .i64 p2.m_.cells, .int .i64 p2.m_.regs, .int .i64 p2.m_.cost, .tree 1 (p2.m_.put.map (eK .i64)), .tree 1 (p2.m_.bools.map (eK .i64)), .tree 1 (p2.m_.get.map (eK .i64)), .tree 6 (p2.m_.code.map ax.enc)]])) (fun _ _ => False) := by
 refine aR 9 [.tmp 4] Try.func42 rfl rfl rfl (by kernel_rfl) (by simp) ?_;refine cB ?_;unfold cD at hm;refine ai [4] ?_;refine av [0, 1, 5, 6, 7, 8] fun k kp hk hp => ?_;refine go ?_;obtain ⟨y1, hc1, hm⟩ := bd hm;refine RA (ij p1 p2  _ hc1) [0] ?_;rintro p σ' ⟨rfl, rfl⟩ _;refine aa ?_;refine go ?_;refine hk _ _ ?_;clear hk hp k kp;refine an ?_
 cases hm
 exact kr 1
theorem ci (p1 : ck) (p2 : List Int) (r : Bool) (hm : bD p1 p2 = some r) : cR Try.prog 40 [.a [.int .i64 p1.m_.cells, .int .i64 p1.m_.regs, .int .i64 p1.m_.cost, .tree 1 (p1.m_.put.map (eK .i64)), .tree 1 (p1.m_.bools.map (eK .i64)), .tree 1 (p1.m_.get.map (eK .i64)), .tree 6 (p1.m_.code.map ax.enc)], .c (.tree 1 (p2.map (eK .i64)))] (.c (.bool r)) := by
 refine aR 9 [.tmp 4] Try.func40 rfl rfl rfl (by kernel_rfl) (by simp) ?_;refine cB ?_;unfold bD at hm;refine ai [0, 4] ?_;refine av [1, 2, 5, 6, 7, 8] fun k kp hk hp => ?_;refine go ?_;obtain ⟨y1, hc1, hm⟩ := bd hm;refine RA (gP p2 p1  _ hc1) [0] ?_;rintro p σ' ⟨rfl, rfl⟩ _;refine aa ?_;refine go ?_;refine hk _ _ ?_;clear hk hp k kp;refine an ?_
 cases hm
 exact kr 0
theorem ie (p1 : ck) (p2 : Int) (p3 : Int) (r : Bool) (hm : cV p1 p2 p3 = some r) : cR Try.prog 41 [.a [.int .i64 p1.m_.cells, .int .i64 p1.m_.regs, .int .i64 p1.m_.cost, .tree 1 (p1.m_.put.map (eK .i64)), .tree 1 (p1.m_.bools.map (eK .i64)), .tree 1 (p1.m_.get.map (eK .i64)), .tree 6 (p1.m_.code.map ax.enc)], .c (.int .i64 p2), .c (.int .i64 p3)] (.c (.bool r)) := by
 refine aR 29 [.tmp 6] Try.func41 rfl rfl rfl (by kernel_rfl) (by simp) ?_;refine cB ?_;unfold cV at hm;refine ai [0, 6] ?_
 by_cases h1 : p3 ≥ 1
 ·rw [iP h1] at hm;have h1b := dT h1;refine dj [1, 2, 3, 7, 8, 9, 10, 11, 12, 13, 14, 15, 16, 17, 18, 19, 20, 21, 22, 23, 24, 25, 26, 27, 28] fun k kp hk hp => ?_;refine am 10 ?_;refine gox h1b ?_
  by_cases h2 : p3 ≤ p1.m_.cells
  ·rw [iP h2] at hm;have h2b := dT h2;refine am 4 ?_;refine gox (a2 h1b h2b) ?_
   by_cases h3 : p2 ≥ 0
   ·rw [iP h3] at hm;have h3b := dT h3;refine aa ?_;refine gox (a2 h1b (a2 h2b h3b)) ?_;refine hk _ _ ?_;clear hk hp k kp;refine an ?_
    cases hm
    exact kr 0
   ·rw [iN h3] at hm;have h3b := dF h3;refine aa ?_;refine gox (a2 h1b (a2 h2b h3b)) ?_;refine hk _ _ ?_;clear hk hp k kp;refine an ?_
    cases hm
    exact kr 0
  ·rw [iN h2] at hm;have h2b := dF h2;refine aa ?_;refine gox (a2 h1b h2b) ?_;refine hk _ _ ?_;clear hk hp k kp;refine an ?_
   cases hm
   exact kr 0
 ·rw [iN h1] at hm;have h1b := dF h1;refine cS h1b [1, 2, 3, 7, 8, 9, 10, 11, 12, 13, 14, 15, 16, 17, 18, 19, 20, 21, 22, 23, 24, 25, 26, 27, 28] ?_;refine an ?_
  cases hm
  exact kr 0
theorem kF (p1 : ck) (p2 : ax) (r : Bool) (hm : dy p1 p2 = some r) : cR Try.prog 31 [.a [.int .i64 p1.m_.cells, .int .i64 p1.m_.regs, .int .i64 p1.m_.cost, .tree 1 (p1.m_.put.map (eK .i64)), .tree 1 (p1.m_.bools.map (eK .i64)), .tree 1 (p1.m_.get.map (eK .i64)), .tree 6 (p1.m_.code.map ax.enc)], .a [.int .i64 p2.op, .int .i64 p2.k, .int .i64 p2.r_, .int .i64 p2.a, .int .i64 p2.b, .int .i64 p2.n]] (.c (.bool r)) := by
 refine aR 124 [.tmp 4] Try.func31 rfl rfl rfl (by kernel_rfl) (by simp) ?_;refine cB ?_;unfold dy at hm;refine ai [0, 1, 4] ?_;refine av [5, 6, 8, 9, 10, 11, 12, 13, 14] fun k kp hk hp => ?_;refine go ?_;obtain ⟨y1, hc1, hm⟩ := bd hm;refine RP (fun _ => oO p2.k _ hc1) ?_;refine aa ?_;refine go ?_;refine hk _ _ ?_;clear hk hp k kp;refine ap fun k1 hk1 => ?_;refine ai [15] ?_;refine aw ?_;refine ai [18] ?_
 by_cases h2 : p2.op = 1
 ·rw [iP h2] at hm;refine ab rfl (eQ h2) ?_;refine av [2, 3, 7, 16, 17, 19, 20, 21, 22, 23] fun k kp hk hp => ?_;refine go ?_;refine aK (aZ 2 rfl) ?_;refine gt ?_;obtain ⟨y2, hc3, hm⟩ := bd hm;refine RP (fun _ => ci p1 (lit ([p2.r_] : List Int)) _ hc3) ?_;refine aa ?_;refine go ?_;refine hk _ _ ?_;clear hk hp k kp;refine an ?_;refine ag (ah ?_)
  cases hm
  exact kr 0
 ·rw [iN h2] at hm;refine ae rfl (nB h2) ?_;refine aT (S := Bool) (V := Unit) [17, 24, 25, 26] (fun b3 _ => [(24, .c (.bool b3))]) (fun b3 _ => [.box [.int .i64 p1.m_.cells, .int .i64 p1.m_.regs, .int .i64 p1.m_.cost, .tree 1 (p1.m_.put.map (eK .i64)), .tree 1 (p1.m_.bools.map (eK .i64)), .tree 1 (p1.m_.get.map (eK .i64)), .tree 6 (p1.m_.code.map ax.enc)], .box [.int .i64 p2.op, .int .i64 p2.k, .int .i64 p2.r_, .int .i64 p2.a, .int .i64 p2.b, .int .i64 p2.n]]) (fun b3 => cX p1 p2 y1 b3 = some r) ?_ ?_
  ·skip;refine ai [17, 25] ?_
   by_cases h27 : p2.op = 2
   ·rw [iP h27] at hm;refine ab rfl (eQ h27) ?_;refine aq ?_;refine au (p2.op == 2) () hm ?_;exact ls
   ·rw [iN h27] at hm;refine ae rfl (nB h27) ?_;refine cE ?_;refine au (p2.op == 4) () hm ?_;exact ls
  ·rintro b3 _ hm;replace hm : cX p1 p2 y1 b3 = some r := hm;refine aP ?_;unfold cX at hm
   by_cases h4 : b3 = true
   ·rw [iP h4] at hm;refine ab rfl (h4) ?_;refine av [2, 3, 7, 16, 24, 27, 28, 29, 30, 31, 32, 33, 34, 35, 36, 37] fun k kp hk hp => ?_;refine go ?_;refine aK (aZ 2 rfl) ?_;refine gt ?_;obtain ⟨y4, hc5, hm⟩ := bd hm;refine RP (fun _ => ci p1 (lit ([p2.r_] : List Int)) _ hc5) ?_
    by_cases h6 : y4 = true
    ·rw [iP h6] at hm;have h6b := h6;refine aa ?_;refine gox h6b ?_;obtain ⟨y5, hc7, hm⟩ := bd hm;refine RP (fun _ => ie p1 p2.n 1 _ hc7) ?_;refine aa ?_;refine gox h6b ?_;refine hk _ _ ?_;clear hk hp k kp;refine an ?_;refine ag (ah ?_)
     cases hm
     exact kr 0
    ·rw [iN h6] at hm;have h6b := fB h6;refine aa ?_;refine gox h6b ?_;refine hk _ _ ?_;clear hk hp k kp;refine an ?_;refine ag (ah ?_)
     cases hm
     exact kr 0
   ·rw [iN h4] at hm;refine ae rfl (fB h4) ?_;refine aT (S := Bool) (V := Unit) [24, 38, 39, 40] (fun b6 _ => [(38, .c (.bool b6))]) (fun b6 _ => [.box [.int .i64 p1.m_.cells, .int .i64 p1.m_.regs, .int .i64 p1.m_.cost, .tree 1 (p1.m_.put.map (eK .i64)), .tree 1 (p1.m_.bools.map (eK .i64)), .tree 1 (p1.m_.get.map (eK .i64)), .tree 6 (p1.m_.code.map ax.enc)], .box [.int .i64 p2.op, .int .i64 p2.k, .int .i64 p2.r_, .int .i64 p2.a, .int .i64 p2.b, .int .i64 p2.n]]) (fun b6 => cW p1 p2 y1 b6 = some r) ?_ ?_
    ·skip;refine ai [24, 39] ?_
     by_cases h26 : p2.op = 3
     ·rw [iP h26] at hm;refine ab rfl (eQ h26) ?_;refine aq ?_;refine au (p2.op == 3) () hm ?_;exact ls
     ·rw [iN h26] at hm;refine ae rfl (nB h26) ?_;refine cE ?_;refine au (p2.op == 5) () hm ?_;exact ls
    ·rintro b6 _ hm;replace hm : cW p1 p2 y1 b6 = some r := hm;refine aP ?_;unfold cW at hm
     by_cases h8 : b6 = true
     ·rw [iP h8] at hm;refine ab rfl (h8) ?_;refine av [2, 3, 7, 16, 38, 41, 42, 43, 44, 45, 46, 47, 48, 49, 50, 51, 52, 53, 54, 55] fun k kp hk hp => ?_;refine go ?_;refine aK (aZ 2 rfl) ?_;refine gt ?_;obtain ⟨y7, hc9, hm⟩ := bd hm;refine RP (fun _ => ci p1 (lit ([p2.r_, p2.a] : List Int)) _ hc9) ?_
      by_cases h10 : y7 = true
      ·rw [iP h10] at hm;have h10b := h10;refine aa ?_;refine gox h10b ?_;obtain ⟨y8, hc11, hm⟩ := bd hm;refine RP (fun _ => ie p1 p2.n p2.b _ hc11) ?_;refine aa ?_;refine gox h10b ?_;refine hk _ _ ?_;clear hk hp k kp;refine an ?_;refine ag (ah ?_)
       cases hm
       exact kr 0
      ·rw [iN h10] at hm;have h10b := fB h10;refine aa ?_;refine gox h10b ?_;refine hk _ _ ?_;clear hk hp k kp;refine an ?_;refine ag (ah ?_)
       cases hm
       exact kr 0
     ·rw [iN h8] at hm;refine ae rfl (fB h8) ?_;refine ai [38, 57] ?_
      by_cases h12 : p2.op = 6
      ·rw [iP h12] at hm;refine ab rfl (eQ h12) ?_;refine av [2, 3, 7, 16, 56, 58, 59, 60, 61, 62, 63, 64, 65, 66, 67, 68] fun k kp hk hp => ?_;refine go ?_;refine aK (aZ 2 rfl) ?_;refine gt ?_;obtain ⟨y9, hc13, hm⟩ := bd hm;refine RP (fun _ => ci p1 (lit ([p2.r_, p2.a] : List Int)) _ hc13) ?_
       by_cases h14 : y9 = true
       ·rw [iP h14] at hm;have h14b := h14;refine aa ?_;refine gox h14b ?_;refine hk _ _ ?_;clear hk hp k kp;refine an ?_;refine ag (ah ?_)
        cases hm
        exact kr 0
       ·rw [iN h14] at hm;have h14b := fB h14;refine aa ?_;refine gox h14b ?_;refine hk _ _ ?_;clear hk hp k kp;refine an ?_;refine ag (ah ?_)
        cases hm
        exact kr 0
      ·rw [iN h12] at hm;refine ae rfl (nB h12) ?_;refine ai [56, 70] ?_
       by_cases h15 : p2.op = 7
       ·rw [iP h15] at hm;refine ab rfl (eQ h15) ?_;refine av [2, 3, 7, 16, 69, 71, 72, 73, 74, 75, 76, 77, 78, 79, 80, 81, 82, 83] fun k kp hk hp => ?_;refine go ?_;refine aK (aZ 2 rfl) ?_;refine gt ?_;obtain ⟨y10, hc16, hm⟩ := bd hm;refine RP (fun _ => ci p1 (lit ([p2.r_, p2.a, p2.b] : List Int)) _ hc16) ?_
        by_cases h17 : y10 = true
        ·rw [iP h17] at hm;have h17b := h17;refine aa ?_;refine gox h17b ?_;refine hk _ _ ?_;clear hk hp k kp;refine an ?_;refine ag (ah ?_)
         cases hm
         exact kr 0
        ·rw [iN h17] at hm;have h17b := fB h17;refine aa ?_;refine gox h17b ?_;refine hk _ _ ?_;clear hk hp k kp;refine an ?_;refine ag (ah ?_)
         cases hm
         exact kr 0
       ·rw [iN h15] at hm;refine ae rfl (nB h15) ?_;refine ai [7, 69, 85] ?_
        by_cases h18 : p2.op = 8
        ·rw [iP h18] at hm;refine ab rfl (eQ h18) ?_;refine av [2, 3, 16, 84, 86, 87, 88, 89, 90, 91, 92, 93, 94] fun k kp hk hp => ?_;refine go ?_;refine aK (aZ 2 rfl) ?_;refine gt ?_;obtain ⟨y11, hc19, hm⟩ := bd hm;refine RP (fun _ => ci p1 (lit ([p2.r_, p2.a, p2.b] : List Int)) _ hc19) ?_;refine aa ?_;refine go ?_;refine hk _ _ ?_;clear hk hp k kp;refine an ?_;refine ag (ah ?_)
         cases hm
         exact kr 0
        ·rw [iN h18] at hm;refine ae rfl (nB h18) ?_;refine ai [84, 96] ?_
         by_cases h20 : p2.op = 9
         ·rw [iP h20] at hm;refine ab rfl (eQ h20) ?_;refine av [2, 3, 16, 95, 97, 98, 99, 100, 101, 102, 103] fun k kp hk hp => ?_;refine go ?_;refine aK (aZ 2 rfl) ?_;refine gt ?_;obtain ⟨y12, hc21, hm⟩ := bd hm;refine RP (fun _ => ci p1 (lit ([p2.r_, p2.a] : List Int)) _ hc21) ?_;refine aa ?_;refine go ?_;refine hk _ _ ?_;clear hk hp k kp;refine an ?_;refine ag (ah ?_)
          cases hm
          exact kr 0
         ·rw [iN h20] at hm;refine ae rfl (nB h20) ?_;refine ai [16, 95, 105] ?_
          by_cases h22 : p2.op = 10
          ·rw [iP h22] at hm;refine ab rfl (eQ h22) ?_;refine av [2, 3, 104, 106, 107, 108, 109, 110, 111, 112, 113, 114, 115, 116, 117, 118, 119, 120] fun k kp hk hp => ?_;refine go ?_;refine aK (aZ 2 rfl) ?_;refine gt ?_;obtain ⟨y13, hc23, hm⟩ := bd hm;refine RP (fun _ => ci p1 (lit ([p2.r_] : List Int)) _ hc23) ?_
           by_cases h24 : y13 = true
           ·rw [iP h24] at hm;have h24b := h24;refine am 6 ?_;refine gox h24b ?_
            by_cases h25 : p2.n ≥ 1
            ·rw [iP h25] at hm;have h25b := dT h25;refine aa ?_;refine gox (a2 h24b h25b) ?_;refine hk _ _ ?_;clear hk hp k kp;refine an ?_;refine ag (ah ?_)
             cases hm
             exact kr 0
            ·rw [iN h25] at hm;have h25b := dF h25;refine aa ?_;refine gox (a2 h24b h25b) ?_;refine hk _ _ ?_;clear hk hp k kp;refine an ?_;refine ag (ah ?_)
             cases hm
             exact kr 0
           ·rw [iN h24] at hm;have h24b := fB h24;refine aa ?_;refine gox h24b ?_;refine hk _ _ ?_;clear hk hp k kp;refine an ?_;refine ag (ah ?_)
            cases hm
            exact kr 0
          ·rw [iN h22] at hm;refine ae rfl (nB h22) ?_;refine aq ?_;refine aH ?_;refine ak (hk1 _ _ ?_);refine ai [2, 3, 104, 121, 122, 123] ?_;refine an ?_
           cases hm
           exact kr 0
theorem n0 (p1 : List ax) (r : Int) (hm : ja p1 = some r) : cR Try.prog 32 [.c (.tree 6 (p1.map ax.enc))] (.c (.int .i64 r)) := by
 refine aR 47 [.tmp 2] Try.func32 rfl rfl rfl (by kernel_rfl) (by simp) ?_;refine cB ?_;unfold ja at hm;refine ai [2] ?_;refine ai [] ?_;refine aT (S := (Int × Int)) (V := Unit) [0, 2, 3, 4, 5, 7, 8, 9, 10, 11, 12, 13, 14, 15, 16, 17, 18, 19, 20, 21, 22, 23, 24, 25, 26, 27, 28, 29, 30, 31, 32, 33, 34, 35, 36, 37, 38, 39, 40, 41, 42, 43] (fun (x1, x2) _ => [(3, .c (.int .i64 x1)), (5, .c (.int .i64 x2))]) (fun (x1, x2) _ => []) (fun (x1, x2) => eR x1 x2 = some r) ?_ ?_
 ·skip;refine ai [0] ?_
  refine aw ?_;obtain ⟨o1, hl1, hm1⟩ := bd hm;refine bl (S := (Int × Int × Int × Int)) (V := Unit) (O := (Int × Int) ⊕ Int) [2, 3, 4, 5, 7, 10, 11, 12, 13, 14, 15, 16, 17, 18, 19, 20, 21, 22, 23, 24, 25, 26, 27, 28, 29, 30, 31, 32, 33, 34, 35, 36, 37, 38, 39, 40, 41, 42, 43] (fun (x11, x12, x13, x14) _ => [(3, .c (.int .i64 x11)), (4, .c (.int .i64 x12)), (5, .c (.int .i64 x13)), (10, .c (.int .i64 x14))]) (fun (x11, x12, x13, x14) _ => []) _ _ () hl1 ?_ ?_
  ·exact ls
  ·rintro ⟨x11, x12, x13, x14⟩ _ r1 hm hr1;replace hm : eT p1 x11 x12 x13 x14 = some r1 := hm;refine aP ?_;unfold eT at hm;refine ai [] ?_;refine ap fun k2 hk2 => ?_
   by_cases h2 : x14 < (p1.length : Int)
   ·rw [iP h2] at hm;refine ab rfl (dT h2) ?_;refine aq ?_;refine ak (hk2 _ _ ?_);refine ap fun k3 hk3 => ?_;refine aw ?_;obtain ⟨hg3a, hm⟩ := gd hm;refine cS (em ax.enc p1 x14.toNat) [11, 12, 13] ?_;refine ai [14, 15, 16] ?_;refine ai [17] ?_;refine aw ?_;refine ai [20] ?_
    by_cases h4 : ((p1.getD x14.toNat default).op) = 10
    ·rw [iP h4] at hm;refine ab rfl (eQ h4) ?_;refine ap fun k4 hk4 => ?_
     by_cases h5 : x12 > 1
     ·rw [iP h5] at hm;have h5b := dT h5;refine cS h5b [4, 5, 18, 19, 21, 22, 23, 24, 25, 26, 27, 28, 29, 30, 31, 32, 33, 34, 35] ?_;refine ab rfl rfl ?_;refine ai [3, 7, 8, 9, 10, 36] ?_;have ho6 := aC hm hr1;subst ho6;replace hm : some 0 = some r := hm1;refine an ?_;refine ah (ag (ag (ah (bi (ag (aS ?_))))))
      cases hm
      exact kr 0
     ·rw [iN h5] at hm;have h5b := dF h5;refine dj [4, 5, 18, 19, 21, 22, 23, 24, 25, 26, 27, 28, 29, 30, 31, 32, 33, 34, 35] fun k kp hk hp => ?_;refine am 7 ?_;refine gox h5b ?_
      by_cases h7 : x13 > 0
      ·rw [iP h7] at hm;have h7b := dT h7;refine aa ?_;refine gox (a2 h5b h7b) ?_;refine hk _ _ ?_;clear hk hp k kp;refine ab rfl rfl ?_;refine ai [3, 7, 8, 9, 10, 36] ?_;have ho8 := aC hm hr1;subst ho8;replace hm : some 0 = some r := hm1;refine an ?_;refine ah (ag (ag (ah (bi (ag (aS ?_))))))
       cases hm
       exact kr 0
      ·rw [iN h7] at hm;have h7b := dF h7;refine am 5 ?_;refine gox (a2 h5b h7b) ?_
       by_cases h9 : ((p1.getD x14.toNat default).n) < 1
       ·rw [iP h9] at hm;have h9b := dT h9;refine aa ?_;refine gox (a2 h5b (a2 h7b h9b)) ?_;refine hk _ _ ?_;clear hk hp k kp;refine ab rfl rfl ?_;refine ai [3, 7, 8, 9, 10, 36] ?_;have ho10 := aC hm hr1;subst ho10;replace hm : some 0 = some r := hm1;refine an ?_;refine ah (ag (ag (ah (bi (ag (aS ?_))))))
        cases hm
        exact kr 0
       ·rw [iN h9] at hm;have h9b := dF h9;refine aa ?_;refine gox (a2 h5b (a2 h7b h9b)) ?_;refine hk _ _ ?_;clear hk hp k kp
        by_cases h11 : ((p1.getD x14.toNat default).n) > 300
        ·rw [iP h11] at hm;refine ab rfl (dT h11) ?_;refine ai [3, 7, 8, 9, 10, 36] ?_;have ho12 := aC hm hr1;subst ho12;replace hm : some 0 = some r := hm1;refine an ?_;refine ah (ag (ag (ah (bi (ag (aS ?_))))))
         cases hm
         exact kr 0
        ·rw [iN h11] at hm;refine ae rfl (dF h11) ?_;refine aq ?_;refine ak (hk4 _ _ ?_);refine cE ?_;refine aH (aH ?_);refine ak (hk3 _ _ ?_);refine cE ?_;refine aO ((IntKind.wrap .i64 (x11 + x12)), (p1.getD x14.toNat default).n, 1, (IntKind.wrap .i64 (x14 + 1))) () hm ?_;exact ls
    ·rw [iN h4] at hm;refine ae rfl (nB h4) ?_;refine ai [7, 18, 19, 40] ?_
     by_cases h13 : ((p1.getD x14.toNat default).op) = 11
     ·rw [iP h13] at hm;refine ab rfl (eQ h13) ?_;refine ap fun k5 hk5 => ?_;refine ai [4, 5, 39, 41] ?_
      by_cases h14 : x13 = 0
      ·rw [iP h14] at hm;refine ab rfl (eQ h14) ?_;refine ai [3, 8, 9, 10, 42] ?_;have ho15 := aC hm hr1;subst ho15;replace hm : some 0 = some r := hm1;refine an ?_;refine ah (ag (ag (ah (bi (ag (aS ?_))))))
       cases hm
       exact kr 0
      ·rw [iN h14] at hm;refine ae rfl (nB h14) ?_;refine aq ?_;refine ak (hk5 _ _ ?_);refine cE ?_;refine aH (aH ?_);refine ak (hk3 _ _ ?_);refine cE ?_;refine aO ((IntKind.wrap .i64 (x11 + x12)), 1, 0, (IntKind.wrap .i64 (x14 + 1))) () hm ?_;exact ls
     ·rw [iN h13] at hm;refine ae rfl (nB h13) ?_;refine aq ?_;refine aH (aH ?_);refine ak (hk3 _ _ ?_);refine cE ?_;refine aO ((IntKind.wrap .i64 (x11 + x12)), x12, x13, (IntKind.wrap .i64 (x14 + 1))) () hm ?_;exact ls
   ·rw [iN h2] at hm;refine ae rfl (dF h2) ?_;refine bw ?_;have ho16 := aC hm hr1;subst ho16;replace hm : eR x11 x13 = some r := hm1;refine aX (aL (az ?_));refine au (x11, x13) () hm ?_;exact ls
 ·rintro ⟨x1, x2⟩ _ hm;replace hm : eR x1 x2 = some r := hm;refine aP ?_;unfold eR at hm;refine ap fun k1 hk1 => ?_;refine ai [5, 44] ?_
  by_cases h1 : x2 > 0
  ·rw [iP h1] at hm;refine ab rfl (dT h1) ?_;refine ai [3, 45] ?_;refine an ?_;refine ah ?_
   cases hm
   exact kr 0
  ·rw [iN h1] at hm;refine ae rfl (dF h1) ?_;refine aq ?_;refine ak (hk1 _ _ ?_);refine ai [3, 45, 46] ?_;refine an ?_
   cases hm
   exact kr 0
theorem km (p1 : aj) (r : af) (hm : fC p1 = some r) : cR Try.prog 17 [.a [.int .i64 p1.cells, .int .i64 p1.regs, .int .i64 p1.cost, .tree 1 (p1.put.map (eK .i64)), .tree 1 (p1.bools.map (eK .i64)), .tree 1 (p1.get.map (eK .i64)), .tree 6 (p1.code.map ax.enc)]] (.a [.int .i64 ((r).code), .int .i64 ((r).at_)]) := by
 refine aR 116 [.cell 2 31] Try.func17 rfl rfl rfl (by kernel_rfl) (by simp) ?_;refine cB ?_;unfold fC at hm;refine ai [0] ?_;refine ap fun k1 hk1 => ?_;refine dj [10, 11, 12, 13, 14, 15, 16, 17, 18, 19, 20, 21, 22, 23, 24, 25, 26] fun k kp hk hp => ?_;refine am 4 ?_;refine go ?_
 by_cases h1 : p1.cells < 1
 ·rw [iP h1] at hm;have h1b := dT h1;refine aa ?_;refine gox h1b ?_;refine hk _ _ ?_;clear hk hp k kp;refine ab rfl rfl ?_;refine ai [1, 27, 28] ?_;refine an ?_;refine ah ?_
  cases hm
  exact kr 0
 ·rw [iN h1] at hm;have h1b := dF h1;refine am 5 ?_;refine gox h1b ?_
  by_cases h2 : p1.cells > 6000
  ·rw [iP h2] at hm;have h2b := dT h2;refine aa ?_;refine gox (a2 h1b h2b) ?_;refine hk _ _ ?_;clear hk hp k kp;refine ab rfl rfl ?_;refine ai [1, 27, 28] ?_;refine an ?_;refine ah ?_
   cases hm
   exact kr 0
  ·rw [iN h2] at hm;have h2b := dF h2;refine am 5 ?_;refine gox (a2 h1b h2b) ?_
   by_cases h3 : p1.regs < 1
   ·rw [iP h3] at hm;have h3b := dT h3;refine aa ?_;refine gox (a2 h1b (a2 h2b h3b)) ?_;refine hk _ _ ?_;clear hk hp k kp;refine ab rfl rfl ?_;refine ai [1, 27, 28] ?_;refine an ?_;refine ah ?_
    cases hm
    exact kr 0
   ·rw [iN h3] at hm;have h3b := dF h3;refine aa ?_;refine gox (a2 h1b (a2 h2b h3b)) ?_;refine hk _ _ ?_;clear hk hp k kp
    by_cases h4 : p1.regs > 40
    ·rw [iP h4] at hm;refine ab rfl (dT h4) ?_;refine ai [1, 27, 28] ?_;refine an ?_;refine ah ?_
     cases hm
     exact kr 0
    ·rw [iN h4] at hm;refine ae rfl (dF h4) ?_;refine aq ?_;refine ak (hk1 _ _ ?_);refine ap fun k2 hk2 => ?_;refine dj [27, 29, 30, 31, 32, 33, 34, 35, 36, 37, 38, 39, 40, 41, 42, 43, 44, 45, 46, 47, 48, 49] fun k kp hk hp => ?_;refine am 5 ?_;refine go ?_
     by_cases h5 : (p1.put.length : Int) > 6000
     ·rw [iP h5] at hm;have h5b := dT h5;refine aa ?_;refine gox h5b ?_;refine hk _ _ ?_;clear hk hp k kp;refine ab rfl rfl ?_;refine ai [1, 50, 51] ?_;refine an ?_;refine ah ?_
      cases hm
      exact kr 0
     ·rw [iN h5] at hm;have h5b := dF h5;refine am 6 ?_;refine gox h5b ?_
      by_cases h6 : (p1.bools.length : Int) > 6000
      ·rw [iP h6] at hm;have h6b := dT h6;refine aa ?_;refine gox (a2 h5b h6b) ?_;refine hk _ _ ?_;clear hk hp k kp;refine ab rfl rfl ?_;refine ai [1, 50, 51] ?_;refine an ?_;refine ah ?_
       cases hm
       exact kr 0
      ·rw [iN h6] at hm;have h6b := dF h6;refine am 6 ?_;refine gox (a2 h5b h6b) ?_
       by_cases h7 : (p1.get.length : Int) > 120000
       ·rw [iP h7] at hm;have h7b := dT h7;refine aa ?_;refine gox (a2 h5b (a2 h6b h7b)) ?_;refine hk _ _ ?_;clear hk hp k kp;refine ab rfl rfl ?_;refine ai [1, 50, 51] ?_;refine an ?_;refine ah ?_
        cases hm
        exact kr 0
       ·rw [iN h7] at hm;have h7b := dF h7;refine aa ?_;refine gox (a2 h5b (a2 h6b h7b)) ?_;refine hk _ _ ?_;clear hk hp k kp
        by_cases h8 : (p1.code.length : Int) > 200000
        ·rw [iP h8] at hm;refine ab rfl (dT h8) ?_;refine ai [1, 50, 51] ?_;refine an ?_;refine ah ?_
         cases hm
         exact kr 0
        ·rw [iN h8] at hm;refine ae rfl (dF h8) ?_;refine aq ?_;refine ak (hk2 _ _ ?_);refine aT (S := Unit) (V := Unit) [4, 6, 50, 52, 53, 54, 55, 56, 57, 58, 59, 60, 61, 62, 63, 64, 65, 66, 67, 68, 69, 70, 71, 72, 73, 74, 75, 76, 77, 78, 79, 80] (fun _ _ => []) (fun _ _ => [.box [.int .i64 p1.cells, .int .i64 p1.regs, .int .i64 p1.cost, .tree 1 (p1.put.map (eK .i64)), .tree 1 (p1.bools.map (eK .i64)), .tree 1 (p1.get.map (eK .i64)), .tree 6 (p1.code.map ax.enc)], .box [.int .i64 0, .int .i64 0]]) (fun _ => ff p1 = some r) ?_ ?_
         ·skip;refine ai [50, 52, 53, 54, 55, 56, 57] ?_
          refine ib [.box [.int .i64 p1.cells, .int .i64 p1.regs, .int .i64 p1.cost, .tree 1 (p1.put.map (eK .i64)), .tree 1 (p1.bools.map (eK .i64)), .tree 1 (p1.get.map (eK .i64)), .tree 6 (p1.code.map ax.enc)], .box [.int .i64 0, .int .i64 0], .arr 1 0 22 ((lit ([p1.put, p1.bools, p1.get] : List (List Int))).map (eL 1 (eK .i64)))] ?_;refine aw ?_;obtain ⟨o2, hl2, hm2⟩ := bd hm;refine bl (S := Int) (V := Unit) (O := Unit ⊕ af) [4, 6, 58, 60, 61, 62, 63, 64, 65, 66, 67, 68, 69, 70, 71, 72, 73, 74, 75, 76, 77, 78, 79, 80] (fun x9 _ => [(58, .c (.osl 2 0 0 3)), (60, .c (.int .i64 x9))]) (fun x9 _ => [.box [.int .i64 p1.cells, .int .i64 p1.regs, .int .i64 p1.cost, .tree 1 (p1.put.map (eK .i64)), .tree 1 (p1.bools.map (eK .i64)), .tree 1 (p1.get.map (eK .i64)), .tree 6 (p1.code.map ax.enc)], .box [.int .i64 0, .int .i64 0], .arr 1 0 22 ((lit ([p1.put, p1.bools, p1.get] : List (List Int))).map (eL 1 (eK .i64)))]) _ _ () hl2 ?_ ?_
          ·exact ls
          ·rintro x9 _ r2 hm hr2;replace hm : fj p1 x9 = some r2 := hm;refine aP ?_;unfold fj at hm;refine ai [] ?_;refine ap fun k6 hk6 => ?_
           by_cases h20 : x9 < (3 : Int)
           ·rw [iP h20] at hm;refine ab rfl (dT h20) ?_;refine aq ?_;refine ak (hk6 _ _ ?_);refine aT (S := Unit) (V := Unit) [4, 6, 58, 61, 62, 63, 64, 65, 66, 67, 68, 69, 70, 71, 72, 73, 74, 75, 76, 77, 78, 79] (fun _ _ => [(58, .c (.osl 2 0 0 3))]) (fun _ _ => [.box [.int .i64 p1.cells, .int .i64 p1.regs, .int .i64 p1.cost, .tree 1 (p1.put.map (eK .i64)), .tree 1 (p1.bools.map (eK .i64)), .tree 1 (p1.get.map (eK .i64)), .tree 6 (p1.code.map ax.enc)], .box [.int .i64 0, .int .i64 0], .arr 1 0 22 ((lit ([p1.put, p1.bools, p1.get] : List (List Int))).map (eL 1 (eK .i64)))]) (fun _ => fg x9 = some r2) ?_ ?_
            ·skip;refine aw ?_
             obtain ⟨hg21a, hm⟩ := gd hm;refine cS (em (eL 1 (eK .i64)) (lit ([p1.put, p1.bools, p1.get] : List (List Int))) x9.toNat) [61, 62, 63] ?_;refine ai [4] ?_;refine aw ?_;obtain ⟨o3, hl3, hm3⟩ := bd hm;refine bl (S := Int) (V := Unit) (O := Unit ⊕ af) [6, 58, 66, 67, 68, 69, 70, 71, 72, 73, 74, 75, 76, 77, 78, 79] (fun x12 _ => [(58, .c (.osl 2 0 0 3)), (66, .c (.int .i64 x12))]) (fun x12 _ => [.box [.int .i64 p1.cells, .int .i64 p1.regs, .int .i64 p1.cost, .tree 1 (p1.put.map (eK .i64)), .tree 1 (p1.bools.map (eK .i64)), .tree 1 (p1.get.map (eK .i64)), .tree 6 (p1.code.map ax.enc)], .box [.int .i64 0, .int .i64 0], .arr 1 0 22 ((lit ([p1.put, p1.bools, p1.get] : List (List Int))).map (eL 1 (eK .i64)))]) _ _ () hl3 ?_ ?_
             ·exact ls
             ·rintro x12 _ r3 hm hr3;replace hm : fh p1 x9 x12 = some r3 := hm;refine aP ?_;unfold fh at hm;refine ai [] ?_;refine ap fun k7 hk7 => ?_
              by_cases h22 : x12 < (((lit ([p1.put, p1.bools, p1.get] : List (List Int))).getD x9.toNat default).length : Int)
              ·rw [iP h22] at hm;refine ab rfl (dT h22) ?_;refine aq ?_;refine ak (hk7 _ _ ?_);refine ap fun k8 hk8 => ?_;refine aw ?_;obtain ⟨hg23a, hm⟩ := gd hm;refine cS (em (eK .i64) ((lit ([p1.put, p1.bools, p1.get] : List (List Int))).getD x9.toNat default) x12.toNat) [67, 68, 69] ?_
               by_cases h24 : (((lit ([p1.put, p1.bools, p1.get] : List (List Int))).getD x9.toNat default).getD x12.toNat default) < 0
               ·rw [iP h24] at hm;have h24b := dT h24;refine cS h24b [6, 70, 71, 72, 73, 74, 75, 76] ?_;refine ab rfl rfl ?_;refine ai [1, 58, 59, 60, 64, 65, 66, 77, 78] ?_;have ho25 := aC hm hr3;subst ho25;replace hm : some (.inr (.inr (af.mk 16 (-1)))) = some r2 := hm3;have ho26 := aC hm hr2;subst ho26;replace hm : some (af.mk 16 (-1)) = some r := hm2;refine an ?_;refine ag (ah (bi (ag (ag (aS (bi (ag (aS ?_))))))))
                cases hm
                exact kr 0
               ·rw [iN h24] at hm;have h24b := dF h24;refine cS h24b [6, 70, 71, 72, 73, 74, 75, 76] ?_
                by_cases h27 : (((lit ([p1.put, p1.bools, p1.get] : List (List Int))).getD x9.toNat default).getD x12.toNat default) ≥ p1.cells
                ·rw [iP h27] at hm;refine ab rfl (dT h27) ?_;refine ai [1, 58, 59, 60, 64, 65, 66, 77, 78] ?_;have ho28 := aC hm hr3;subst ho28;replace hm : some (.inr (.inr (af.mk 16 (-1)))) = some r2 := hm3;have ho29 := aC hm hr2;subst ho29;replace hm : some (af.mk 16 (-1)) = some r := hm2;refine an ?_;refine ag (ah (bi (ag (ag (aS (bi (ag (aS ?_))))))))
                 cases hm
                 exact kr 0
                ·rw [iN h27] at hm;refine ae rfl (dF h27) ?_;refine aq ?_;refine aH ?_;refine ak (hk8 _ _ ?_);refine cE ?_;refine aO (IntKind.wrap .i64 (x12 + 1)) () hm ?_;exact ls
              ·rw [iN h22] at hm;refine ae rfl (dF h22) ?_;refine bw ?_;have ho30 := aC hm hr3;subst ho30;replace hm : fg x9 = some r2 := hm3;refine aX (aL (az (aH ?_)));refine au () () hm ?_;exact ls
            ·rintro _ _ hm;replace hm : fg x9 = some r2 := hm;refine aP ?_;unfold fg at hm;refine cE ?_;refine aO (IntKind.wrap .i64 (x9 + 1)) () hm ?_;exact ls
           ·rw [iN h20] at hm;refine ae rfl (dF h20) ?_;refine bw ?_;have ho31 := aC hm hr2;subst ho31;replace hm : ff p1 = some r := hm2;refine aX (aL (az ?_));refine au () () hm ?_;exact ls
         ·rintro _ _ hm;replace hm : ff p1 = some r := hm;refine aP ?_;unfold ff at hm;refine aT (S := Unit) (V := Unit) [7, 8, 81, 82, 83, 84, 85, 86, 87, 88, 89, 90, 91, 92, 93, 94, 95, 96] (fun _ _ => []) (fun _ _ => [.box [.int .i64 p1.cells, .int .i64 p1.regs, .int .i64 p1.cost, .tree 1 (p1.put.map (eK .i64)), .tree 1 (p1.bools.map (eK .i64)), .tree 1 (p1.get.map (eK .i64)), .tree 6 (p1.code.map ax.enc)], .box [.int .i64 0, .int .i64 0]]) (fun _ => fd p1 = some r) ?_ ?_
          ·skip;refine ai [81] ?_
           refine aw ?_;obtain ⟨o1, hl1, hm1⟩ := bd hm;refine bl (S := Int) (V := Unit) (O := Unit ⊕ af) [7, 8, 84, 85, 86, 87, 88, 89, 90, 91, 92, 93, 94, 95, 96] (fun x4 _ => [(84, .c (.int .i64 x4))]) (fun x4 _ => [.box [.int .i64 p1.cells, .int .i64 p1.regs, .int .i64 p1.cost, .tree 1 (p1.put.map (eK .i64)), .tree 1 (p1.bools.map (eK .i64)), .tree 1 (p1.get.map (eK .i64)), .tree 6 (p1.code.map ax.enc)], .box [.int .i64 0, .int .i64 0]]) _ _ () hl1 ?_ ?_
           ·exact ls
           ·rintro x4 _ r1 hm hr1;replace hm : fe p1 x4 = some r1 := hm;refine aP ?_;unfold fe at hm;refine ai [] ?_;refine ap fun k4 hk4 => ?_
            by_cases h14 : x4 < (p1.code.length : Int)
            ·rw [iP h14] at hm;refine ab rfl (dT h14) ?_;refine aq ?_;refine ak (hk4 _ _ ?_);refine ap fun k5 hk5 => ?_;refine aw ?_;obtain ⟨hg15a, hm⟩ := gd hm;refine cS (em ax.enc p1.code x4.toNat) [85, 86, 87, 88] ?_;refine av [8, 89, 90, 91, 92] fun k kp hk hp => ?_;refine go ?_;obtain ⟨y5, hc16, hm⟩ := bd hm;refine RP (fun _ => kF (ck.mk p1) (p1.code.getD x4.toNat default) _ hc16) ?_;refine aa ?_;refine go ?_;refine hk _ _ ?_;clear hk hp k kp
             by_cases h17 : y5 = true
             ·rw [iP h17] at hm;refine ae rfl (by rw [show y5 = true from (h17)]; rfl) ?_;refine aq ?_;refine aH ?_;refine ak (hk5 _ _ ?_);refine cE ?_;refine aO (IntKind.wrap .i64 (x4 + 1)) () hm ?_;exact ls
             ·rw [iN h17] at hm;refine ab rfl (by rw [show y5 = false from (fB h17)]; rfl) ?_;refine ai [1, 7, 82, 83, 84, 93, 94, 95] ?_;have ho18 := aC hm hr1;subst ho18;replace hm : some (af.mk 4 x4) = some r := hm1;refine an ?_;refine ag (ah (bi (ag (aS ?_))))
              cases hm
              exact kr 0
            ·rw [iN h14] at hm;refine ae rfl (dF h14) ?_;refine bw ?_;have ho19 := aC hm hr1;subst ho19;replace hm : fd p1 = some r := hm1;refine aX (aL (az ?_));refine au () () hm ?_;exact ls
          ·rintro _ _ hm;replace hm : fd p1 = some r := hm;refine aP ?_;unfold fd at hm;refine av [97, 98, 99] fun k kp hk hp => ?_;refine go ?_;obtain ⟨y1, hc9, hm⟩ := bd hm;refine RP (fun _ => n0 p1.code _ hc9) ?_;refine aa ?_;refine go ?_;refine hk _ _ ?_;clear hk hp k kp;refine ap fun k3 hk3 => ?_
           by_cases h10 : y1 = 0
           ·rw [iP h10] at hm;have h10b := eQ h10;refine dj [1, 9, 100, 101, 102, 103, 104, 105, 106, 107, 108, 109, 110, 111, 112] fun k kp hk hp => ?_;refine am 9 ?_;refine gox h10b ?_
            by_cases h11 : (p1.code.length : Int) > 0
            ·rw [iP h11] at hm;have h11b := dT h11;refine aa ?_;refine gox (a2 h10b h11b) ?_;refine hk _ _ ?_;clear hk hp k kp;refine ab rfl rfl ?_;refine ai [113, 114] ?_;refine an ?_;refine ah ?_
             cases hm
             exact kr 0
            ·rw [iN h11] at hm;have h11b := dF h11;refine aa ?_;refine gox (a2 h10b h11b) ?_;refine hk _ _ ?_;clear hk hp k kp
             by_cases h12 : ¬ y1 = p1.cost
             ·rw [iP h12] at hm;refine ab rfl (bne_iff_ne.2 h12) ?_;refine ai [113, 114] ?_;refine an ?_;refine ah ?_
              cases hm
              exact kr 0
             ·rw [iN h12] at hm;refine ae rfl (bne_eq_false_iff_eq.2 (Decidable.not_not.1 h12)) ?_;refine aq ?_;refine ak (hk3 _ _ ?_);refine ai [113, 115] ?_;refine an ?_
              cases hm
              exact kr 0
           ·rw [iN h10] at hm;have h10b := nB h10;refine cS h10b [1, 9, 100, 101, 102, 103, 104, 105, 106, 107, 108, 109, 110, 111, 112] ?_
            by_cases h13 : ¬ y1 = p1.cost
            ·rw [iP h13] at hm;refine ab rfl (bne_iff_ne.2 h13) ?_;refine ai [113, 114] ?_;refine an ?_;refine ah ?_
             cases hm
             exact kr 0
            ·rw [iN h13] at hm;refine ae rfl (bne_eq_false_iff_eq.2 (Decidable.not_not.1 h13)) ?_;refine aq ?_;refine ak (hk3 _ _ ?_);refine ai [113, 115] ?_;refine an ?_
             cases hm
             exact kr 0
theorem dG (p1 : List Int) (p2 : List Int) (v1_ : Nat) (r : (List Int)) (hm : bN p1 p2 = some r) : gv Try.prog 18 [.c (.optr 0 0), .c (.tree 1 (p1.map (eK .i64)))] [.box [.osl 1 v1_ 0 p2.length], .arr 1 v1_ 5 (p2.map (eK .u8))] (fun p σ => ∃ w1_, (p = .t [] ∧ σ = [.box [.osl 1 w1_ 0 r.length], .arr 1 w1_ 5 (r.map (eK .u8))])) (fun _ _ => False) := by
 refine aR 48 [] Try.func18 rfl rfl rfl (by kernel_rfl) (by simp) ?_;refine cB ?_;unfold bN at hm;refine ai [1] ?_;refine aw ?_;obtain ⟨o1, hl1, hm1⟩ := bd hm;refine bl (S := ((List Int) × Int)) (V := Nat) (O := (List Int)) [5, 6, 9, 10, 11, 12, 13, 14, 15, 16, 17, 18, 19, 20, 21, 22, 23, 24, 25, 26, 27, 28, 29, 30, 31, 32, 33, 34, 35, 36, 37, 38, 39, 40, 41, 42, 43, 44, 45, 46, 47] (fun (l13, x15) v14 => [(9, .c (.int .i64 x15))]) (fun (l13, x15) v14 => [.box [.osl 1 v14 0 l13.length], .arr 1 v14 5 (l13.map (eK .u8))]) _ _ v1_ hl1 ?_ ?_
 ·exact ls
 ·rintro ⟨l13, x15⟩ v14 r1 hm hr1;replace hm : bC p1 l13 x15 = some r1 := hm;refine aP ?_;unfold bC at hm;refine ai [] ?_;refine ap fun k1 hk1 => ?_
  by_cases h1 : x15 < (p1.length : Int)
  ·rw [iP h1] at hm;refine ab rfl (dT h1) ?_;refine aq ?_;refine ak (hk1 _ _ ?_);refine aT (S := (List Int)) (V := Nat) [5, 6, 10, 11, 12, 13, 14, 15, 16, 17, 18, 19, 20, 21, 22, 23, 24, 25, 26, 27, 28, 29, 30, 31, 32, 33, 34, 35, 36, 37, 38, 39, 40, 41, 42, 43, 44, 45, 46] (fun l18 v19 => []) (fun l18 v19 => [.box [.osl 1 v19 0 l18.length], .arr 1 v19 5 (l18.map (eK .u8))]) (fun l18 => dE x15 l18 = some r1) ?_ ?_
   ·skip;refine aw ?_
    obtain ⟨hg2a, hm⟩ := gd hm;refine cS (em (eK .i64) p1 x15.toNat) [10, 11, 12] ?_;refine ai [5, 13, 14, 15, 16, 17, 18, 19] ?_;refine aT (S := ((List Int) × Int)) (V := Nat) [6, 20, 21, 22, 23, 24, 25, 26, 27, 28, 29, 30, 31, 32, 33, 34, 35] (fun (l22, x24) v23 => [(6, .c (.int .u64 x24))]) (fun (l22, x24) v23 => [.box [.osl 1 v23 0 l22.length], .arr 1 v23 5 (l22.map (eK .u8))]) (fun (l22, x24) => ca x15 l22 x24 = some r1) ?_ ?_
    ·skip;refine aw ?_
     obtain ⟨o2, hl2, hm2⟩ := bd hm;refine bl (S := ((List Int) × Int)) (V := Nat) (O := ((List Int) × Int)) [6, 20, 21, 22, 23, 24, 25, 26, 27, 28, 29, 30, 31, 32, 33, 34, 35] (fun (l39, x41) v40 => [(6, .c (.int .u64 x41))]) (fun (l39, x41) v40 => [.box [.osl 1 v40 0 l39.length], .arr 1 v40 5 (l39.map (eK .u8))]) _ _ v14 hl2 ?_ ?_
     ·exact ls
     ·rintro ⟨l39, x41⟩ v40 r2 hm hr2;replace hm : bB l39 x41 = some r2 := hm;refine aP ?_;unfold bB at hm;refine ap fun k2 hk2 => ?_;refine ai [20] ?_
      by_cases h4 : x41 ≥ 128
      ·rw [iP h4] at hm;refine ab rfl (dT h4) ?_;refine aq ?_;refine ak (hk2 _ _ ?_);refine ap fun k3 hk3 => ?_;refine aw ?_;obtain ⟨⟨hg5ax, hg5ay⟩, hm⟩ := gd hm;refine cE ?_;refine aH ?_;refine ak (hk3 _ _ ?_);refine cE ?_;refine aO ((l39 ++ (lit ([(bits .or .u8 (IntKind.wrap .u8 x41) 128)] : List Int))), (x41.fdiv (2 ^ (min 7 (IntKind.bits .u64))))) (v40 + 1) hm ?_;exact ls
      ·rw [iN h4] at hm;refine ae rfl (dF h4) ?_;refine bw ?_;have ho6 := aC hm hr2;subst ho6;replace hm : ca x15 l39 x41 = some r1 := hm2;refine aX (aL (az ?_));refine au (l39, x41) v40 hm ?_;exact ls
    ·rintro ⟨l22, x24⟩ v23 hm;replace hm : ca x15 l22 x24 = some r1 := hm;refine aP ?_;unfold ca at hm;obtain ⟨⟨hg3ax, hg3ay⟩, hm⟩ := gd hm;refine cE ?_;refine aH ?_;refine au (l22 ++ (lit ([(IntKind.wrap .u8 x24)] : List Int))) (v23 + 1) hm ?_;exact ls
   ·rintro l18 v19 hm;replace hm : dE x15 l18 = some r1 := hm;refine aP ?_;unfold dE at hm;refine cE ?_;refine aO (l18, (IntKind.wrap .i64 (x15 + 1))) v19 hm ?_;exact ls
  ·rw [iN h1] at hm;refine ae rfl (dF h1) ?_;refine bw ?_;have ho7 := aC hm hr1;subst ho7;replace hm : some l13 = some r := hm1;refine aX (aL (az ?_))
   cases hm
   exact kn 2
theorem fI (p1 : List Int) (p2 : List Int) (v1_ : Nat) (r : (List Int)) (hm : cH p1 p2 = some r) : gv Try.prog 19 [.c (.optr 0 0), .c (.tree 1 (p1.map (eK .i64)))] [.box [.osl 1 v1_ 0 p2.length], .arr 1 v1_ 5 (p2.map (eK .u8))] (fun p σ => ∃ w1_, (p = .t [] ∧ σ = [.box [.osl 1 w1_ 0 r.length], .arr 1 w1_ 5 (r.map (eK .u8))])) (fun _ _ => False) := by
 refine aR 22 [] Try.func19 rfl rfl rfl (by kernel_rfl) (by simp) ?_;refine cB ?_;unfold cH at hm;refine av [6, 7, 8, 9, 10] fun k kp hk hp => ?_;refine go ?_;refine aK (aZ 2 rfl) ?_;refine gt ?_;obtain ⟨y1, hc1, hm⟩ := bd hm;refine RA (dG (lit ([(p1.length : Int)] : List Int)) p2 v1_ _ hc1) [0, 1] ?_;rintro p σ' hq2 _;obtain ⟨v2, rfl, rfl⟩ := hq2;refine aa ?_;refine go ?_;refine hk _ _ ?_;clear hk hp k kp;refine ai [1] ?_;refine aw ?_;obtain ⟨o1, hl1, hm1⟩ := bd hm;refine bl (S := ((List Int) × Int)) (V := Nat) (O := (List Int)) [5, 13, 14, 15, 16, 17, 18, 19, 20, 21] (fun (l17, x19) v18 => [(13, .c (.int .i64 x19))]) (fun (l17, x19) v18 => [.box [.osl 1 v18 0 l17.length], .arr 1 v18 5 (l17.map (eK .u8)), .dead]) _ _ v2 hl1 ?_ ?_
 ·exact ls
 ·rintro ⟨l17, x19⟩ v18 r1 hm hr1;replace hm : bq p1 l17 x19 = some r1 := hm;refine aP ?_;unfold bq at hm;refine ai [] ?_;refine ap fun k1 hk1 => ?_
  by_cases h3 : x19 < (p1.length : Int)
  ·rw [iP h3] at hm;refine ab rfl (dT h3) ?_;refine aq ?_;refine ak (hk1 _ _ ?_);refine ap fun k2 hk2 => ?_;refine aw ?_;obtain ⟨hg4a, hm⟩ := gd hm;refine cS (em (eK .i64) p1 x19.toNat) [14, 15, 16] ?_;refine f9 fun k kp hk hp => ?_;refine go ?_;refine aK (aZ 3 rfl) ?_;refine gt ?_;obtain ⟨y20, hc5, hm⟩ := bd hm;refine RA (dG (lit ([(p1.getD x19.toNat default)] : List Int)) l17 v18 _ hc5) [0, 1] ?_;rintro p σ' hq6 _;obtain ⟨v21, rfl, rfl⟩ := hq6;refine aa ?_;refine go ?_;refine hk _ _ ?_;clear hk hp k kp;refine aH ?_;refine ak (hk2 _ _ ?_);refine cE ?_;refine aO (y20, (IntKind.wrap .i64 (x19 + 1))) v21 hm ?_;exact ls
  ·rw [iN h3] at hm;refine ae rfl (dF h3) ?_;refine bw ?_;have ho7 := aC hm hr1;subst ho7;replace hm : some l17 = some r := hm1;refine aX (aL (az ?_))
   cases hm
   exact kn 2
theorem n3 (p1 : List Int) (v0_ : Nat) (r : Int) (hm : j8 p1 = some r) : gv Try.prog 14 [.c (.osl 0 v0_ 0 p1.length)] [.arr 1 v0_ 5 (p1.map (eK .u8))] (fun p σ => (p = .c (.int .u32 r) ∧ σ = [.arr 1 v0_ 5 (p1.map (eK .u8))])) (fun _ _ => False) := by
 refine aR 29 [.tmp 2] Try.func14 rfl rfl rfl (by kernel_rfl) (by simp) ?_;refine cB ?_;unfold j8 at hm;refine ai [2] ?_;refine ai [] ?_;refine aT (S := Int) (V := Unit) [0, 3, 5, 6, 7, 8, 9, 10, 11, 12, 13, 14, 15, 16, 17, 18, 19, 20, 21, 22, 23, 24, 25, 26] (fun x1 _ => [(3, .c (.int .u32 x1))]) (fun x1 _ => [.arr 1 v0_ 5 (p1.map (eK .u8))]) (fun x1 => gG x1 = some r) ?_ ?_
 ·skip;refine ai [0] ?_
  refine aw ?_;obtain ⟨o1, hl1, hm1⟩ := bd hm;refine bl (S := (Int × Int)) (V := Unit) (O := Int) [3, 5, 6, 8, 9, 10, 11, 12, 13, 14, 15, 16, 17, 18, 19, 20, 21, 22, 23, 24, 25, 26] (fun (x6, x7) _ => [(3, .c (.int .u32 x6)), (6, .c (.osl 0 v0_ 0 p1.length)), (8, .c (.int .i64 x7))]) (fun (x6, x7) _ => [.arr 1 v0_ 5 (p1.map (eK .u8))]) _ _ () hl1 ?_ ?_
  ·exact ls
  ·rintro ⟨x6, x7⟩ _ r1 hm hr1;replace hm : jt p1 x6 x7 = some r1 := hm;refine aP ?_;unfold jt at hm;refine ai [] ?_;refine ap fun k1 hk1 => ?_
   by_cases h1 : x7 < (p1.length : Int)
   ·rw [iP h1] at hm;refine ab rfl (dT h1) ?_;refine aq ?_;refine ak (hk1 _ _ ?_);refine aT (S := Int) (V := Unit) [3, 5, 6, 9, 10, 11, 12, 13, 14, 15, 16, 17, 18, 19, 20, 21, 22, 23, 24, 25] (fun x8 _ => [(3, .c (.int .u32 x8)), (6, .c (.osl 0 v0_ 0 p1.length))]) (fun x8 _ => [.arr 1 v0_ 5 (p1.map (eK .u8))]) (fun x8 => gH x7 x8 = some r1) ?_ ?_
    ·skip;refine aw ?_
     obtain ⟨hg2a, hm⟩ := gd hm;refine cS (em (eK .u8) p1 x7.toNat) [9, 10, 11] ?_;refine ai [5, 12, 13, 14, 15] ?_;refine ai [] ?_;refine aw ?_;obtain ⟨o2, hl2, hm2⟩ := bd hm;refine bl (S := (Int × Int)) (V := Unit) (O := Int) [3, 6, 16, 17, 18, 19, 20, 21, 22, 23, 24, 25] (fun (x13, x14) _ => [(3, .c (.int .u32 x13)), (6, .c (.osl 0 v0_ 0 p1.length)), (16, .c (.int .i64 x14))]) (fun (x13, x14) _ => [.arr 1 v0_ 5 (p1.map (eK .u8))]) _ _ () hl2 ?_ ?_
     ·exact ls
     ·rintro ⟨x13, x14⟩ _ r2 hm hr2;replace hm : js x13 x14 = some r2 := hm;refine aP ?_;unfold js at hm;refine ai [] ?_;refine ap fun k2 hk2 => ?_
      by_cases h3 : x14 < 8
      ·rw [iP h3] at hm;refine ab rfl (dT h3) ?_;refine aq ?_;refine ak (hk2 _ _ ?_);refine ap fun k3 hk3 => ?_;refine aw ?_;refine cE ?_;refine aH ?_;refine ak (hk3 _ _ ?_);refine cE ?_;refine aO ((bits .xor .u32 (x13.fdiv (2 ^ (min 1 (IntKind.bits .u32)))) (bits .and .u32 3988292384 (IntKind.wrap .u32 (0 - (bits .and .u32 x13 1))))), (IntKind.wrap .i64 (x14 + 1))) () hm ?_;exact ls
      ·rw [iN h3] at hm;refine ae rfl (dF h3) ?_;refine bw ?_;have ho4 := aC hm hr2;subst ho4;replace hm : gH x7 x13 = some r1 := hm2;refine aX (aL (az (aH ?_)));refine au x13 () hm ?_;exact ls
    ·rintro x8 _ hm;replace hm : gH x7 x8 = some r1 := hm;refine aP ?_;unfold gH at hm;refine cE ?_;refine aO (x8, (IntKind.wrap .i64 (x7 + 1))) () hm ?_;exact ls
   ·rw [iN h1] at hm;refine ae rfl (dF h1) ?_;refine bw ?_;have ho5 := aC hm hr1;subst ho5;replace hm : gG x6 = some r := hm1;refine aX (aL (az ?_));refine au x6 () hm ?_;exact ls
 ·rintro x1 _ hm;replace hm : gG x1 = some r := hm;refine aP ?_;unfold gG at hm;refine ai [3, 27, 28] ?_;refine an ?_
  cases hm
  exact kr 1
theorem jB (p1 : aj) (r : ((List Int) × af)) (hm : d7 p1 = some r) : cR Try.prog 9 [.a [.int .i64 p1.cells, .int .i64 p1.regs, .int .i64 p1.cost, .tree 1 (p1.put.map (eK .i64)), .tree 1 (p1.bools.map (eK .i64)), .tree 1 (p1.get.map (eK .i64)), .tree 6 (p1.code.map ax.enc)]] (.t [.c (.tree 1 (r.1.map (eK .u8))), .a [.int .i64 ((r.2).code), .int .i64 ((r.2).at_)]]) := by
 refine aR 95 [.tmp 2, .cell 3 31] Try.func9 rfl rfl rfl (by kernel_rfl) (by simp) ?_;refine cB ?_;unfold d7 at hm;refine ai [0, 2] ?_;refine ap fun k1 hk1 => ?_;refine av [9, 10] fun k kp hk hp => ?_;refine go ?_;obtain ⟨y1, hc1, hm⟩ := bd hm;refine RP (fun _ => km p1 _ hc1) ?_;refine aa ?_;refine go ?_;refine hk _ _ ?_;clear hk hp k kp;refine ai [11, 12] ?_
 by_cases h2 : ¬ ((y1).code) = 0
 ·rw [iP h2] at hm;refine ab rfl (bne_iff_ne.2 h2) ?_;refine rz [1, 4, 13, 14] [0, 0, 3] [false, false, true] ?_
  refine dI (np 2 (.c (.tree 1 (([] : List _).map (eK .u8)))) rfl (by and_intros <;> trivial)) ?_
  refine sT ?_;refine an ?_;refine ah ?_
  cases hm
  exact kr 0
 ·rw [iN h2] at hm;refine ae rfl (bne_eq_false_iff_eq.2 (Decidable.not_not.1 h2)) ?_;refine aq ?_;refine ak (hk1 _ _ ?_);refine dj [4, 13, 15, 16, 17, 18] fun k kp hk hp => ?_;refine am 1 ?_;refine go ?_
  refine RS (oK rfl (by first | rfl | (simp only [bR, bT, tab, bX, reduceIte, ↓reduceIte, reduceCtorEq, Int.reduceToNat, Nat.reduceDiv, Nat.reduceMod, Nat.reduceLT, Nat.reduceLeDiff, Nat.reduceAdd, Nat.reduceSub, Nat.reduceMul, Nat.reduceEqDiff, Nat.reduceBEq, Nat.reduceBNe, Nat.reduceGT]; done)) rfl (by first | kernel_rfl | exact of_decide_eq_true (by kernel_rfl)) (by first | kernel_rfl | exact of_decide_eq_true (by kernel_rfl)) (by first | assumption | omega)) ?_
  simp only [bR, bT, tab, bX, reduceIte, ↓reduceIte, reduceCtorEq, Int.reduceToNat, Nat.reduceDiv, Nat.reduceMod, Nat.reduceLT, Nat.reduceLeDiff, Nat.reduceAdd, Nat.reduceSub, Nat.reduceMul, Nat.reduceEqDiff, Nat.reduceBEq, Nat.reduceBNe, Nat.reduceGT];refine aa ?_;refine go ?_;refine hk _ _ ?_;clear hk hp k kp;refine ib [.box [.int .i64 p1.cells, .int .i64 p1.regs, .int .i64 p1.cost, .tree 1 (p1.put.map (eK .i64)), .tree 1 (p1.bools.map (eK .i64)), .tree 1 (p1.get.map (eK .i64)), .tree 6 (p1.code.map ax.enc)], .box [.int .i64 0, .int .i64 0], .box [.int .i64 ((y1).code), .int .i64 ((y1).at_)], .arr 1 0 5 ((lit ([76, 87, 1] : List Int)).map (eK .u8)), .box [.osl 3 0 0 3]] ?_;refine av [19, 20, 21, 22, 23, 24, 25, 26, 27] fun k kp hk hp => ?_;refine go ?_;refine aK (aZ 5 rfl) ?_;refine gt ?_;obtain ⟨y2, hc3, hm⟩ := bd hm;refine RA (dG (lit ([p1.cells, p1.regs, p1.cost] : List Int)) (lit ([76, 87, 1] : List Int)) 0 _ hc3) [4, 3] ?_;rintro p σ' hq4 _;obtain ⟨v3, rfl, rfl⟩ := hq4;refine aa ?_;refine go ?_;refine hk _ _ ?_;clear hk hp k kp;refine av [28, 29, 30, 31] fun k kp hk hp => ?_;refine go ?_;obtain ⟨y4, hc5, hm⟩ := bd hm;refine RA (fI p1.put y2 v3 _ hc5) [4, 3] ?_;rintro p σ' hq6 _;obtain ⟨v5, rfl, rfl⟩ := hq6;refine aa ?_;refine go ?_;refine hk _ _ ?_;clear hk hp k kp;refine av [32, 33, 34, 35] fun k kp hk hp => ?_;refine go ?_;obtain ⟨y6, hc7, hm⟩ := bd hm;refine RA (fI p1.bools y4 v5 _ hc7) [4, 3] ?_;rintro p σ' hq8 _;obtain ⟨v7, rfl, rfl⟩ := hq8;refine aa ?_;refine go ?_;refine hk _ _ ?_;clear hk hp k kp;refine av [36, 37, 38, 39] fun k kp hk hp => ?_;refine go ?_;obtain ⟨y8, hc9, hm⟩ := bd hm;refine RA (fI p1.get y6 v7 _ hc9) [4, 3] ?_;rintro p σ' hq10 _;obtain ⟨v9, rfl, rfl⟩ := hq10;refine aa ?_;refine go ?_;refine hk _ _ ?_;clear hk hp k kp;refine av [40, 41, 42, 43, 44, 45] fun k kp hk hp => ?_;refine go ?_;refine aK (aZ 6 rfl) ?_;refine gt ?_;obtain ⟨y10, hc11, hm⟩ := bd hm;refine RA (dG (lit ([(p1.code.length : Int)] : List Int)) y8 v9 _ hc11) [4, 3] ?_;rintro p σ' hq12 _;obtain ⟨v11, rfl, rfl⟩ := hq12;refine aa ?_;refine go ?_;refine hk _ _ ?_;clear hk hp k kp;refine aT (S := (List Int)) (V := Nat) [1, 7, 46, 47, 48, 49, 50, 51, 52, 53, 54, 55, 56, 57, 58, 59, 60, 61, 62, 63, 64, 65, 66, 67, 68] (fun l14 v15 => []) (fun l14 v15 => [.box [.int .i64 p1.cells, .int .i64 p1.regs, .int .i64 p1.cost, .tree 1 (p1.put.map (eK .i64)), .tree 1 (p1.bools.map (eK .i64)), .tree 1 (p1.get.map (eK .i64)), .tree 6 (p1.code.map ax.enc)], .box [.int .i64 0, .int .i64 0], .box [.int .i64 ((y1).code), .int .i64 ((y1).at_)], .arr 1 v15 5 (l14.map (eK .u8)), .box [.osl 3 v15 0 l14.length], .dead, .dead]) (fun l14 => dz l14 = some r) ?_ ?_
  ·skip;refine ai [1, 46] ?_
   refine aw ?_;obtain ⟨o2, hl2, hm2⟩ := bd hm;refine bl (S := ((List Int) × Int)) (V := Nat) (O := (List Int)) [7, 49, 50, 51, 52, 53, 54, 55, 56, 57, 58, 59, 60, 61, 62, 63, 64, 65, 66, 67, 68] (fun (l56, x58) v57 => [(49, .c (.int .i64 x58))]) (fun (l56, x58) v57 => [.box [.int .i64 p1.cells, .int .i64 p1.regs, .int .i64 p1.cost, .tree 1 (p1.put.map (eK .i64)), .tree 1 (p1.bools.map (eK .i64)), .tree 1 (p1.get.map (eK .i64)), .tree 6 (p1.code.map ax.enc)], .box [.int .i64 0, .int .i64 0], .box [.int .i64 ((y1).code), .int .i64 ((y1).at_)], .arr 1 v57 5 (l56.map (eK .u8)), .box [.osl 3 v57 0 l56.length], .dead, .dead]) _ _ v11 hl2 ?_ ?_
   ·exact ls
   ·rintro ⟨l56, x58⟩ v57 r2 hm hr2;replace hm : bU p1 l56 x58 = some r2 := hm;refine aP ?_;unfold bU at hm;refine ai [] ?_;refine ap fun k4 hk4 => ?_
    by_cases h18 : x58 < (p1.code.length : Int)
    ·rw [iP h18] at hm;refine ab rfl (dT h18) ?_;refine aq ?_;refine ak (hk4 _ _ ?_);refine ap fun k5 hk5 => ?_;refine aw ?_;obtain ⟨hg19a, hm⟩ := gd hm;refine cS (em ax.enc p1.code x58.toNat) [50, 51, 52] ?_;refine f9 fun k kp hk hp => ?_;refine go ?_;refine aK (aZ 8 rfl) ?_;refine gt ?_;obtain ⟨y59, hc20, hm⟩ := bd hm;refine RA (dG (lit ([(p1.code.getD x58.toNat default).op, (p1.code.getD x58.toNat default).k, (p1.code.getD x58.toNat default).r_, (p1.code.getD x58.toNat default).a, (p1.code.getD x58.toNat default).b, (p1.code.getD x58.toNat default).n] : List Int)) l56 v57 _ hc20) [4, 3] ?_;rintro p σ' hq21 _;obtain ⟨v60, rfl, rfl⟩ := hq21;refine aa ?_;refine go ?_;refine hk _ _ ?_;clear hk hp k kp;refine aH ?_;refine ak (hk5 _ _ ?_);refine cE ?_;refine aO (y59, (IntKind.wrap .i64 (x58 + 1))) v60 hm ?_;exact ls
    ·rw [iN h18] at hm;refine ae rfl (dF h18) ?_;refine bw ?_;have ho22 := aC hm hr2;subst ho22;replace hm : dz l56 = some r := hm2;refine aX (aL (az ?_));refine au l56 v57 hm ?_;exact ls
  ·rintro l14 v15 hm;replace hm : dz l14 = some r := hm;refine aP ?_;unfold dz at hm;refine av [69, 70, 71, 72, 73] fun k kp hk hp => ?_;refine go ?_;obtain ⟨y16, hc13, hm⟩ := bd hm;refine RA (n3 l14 v15 _ hc13) [3] ?_;rintro p σ' ⟨rfl, rfl⟩ _;refine aa ?_;refine go ?_;refine hk _ _ ?_;clear hk hp k kp;refine aT (S := (List Int)) (V := Nat) [8, 74, 75, 76, 77, 78, 79, 80, 81, 82, 83, 84, 85, 86, 87, 88, 89] (fun l19 v20 => []) (fun l19 v20 => [.box [.int .i64 p1.cells, .int .i64 p1.regs, .int .i64 p1.cost, .tree 1 (p1.put.map (eK .i64)), .tree 1 (p1.bools.map (eK .i64)), .tree 1 (p1.get.map (eK .i64)), .tree 6 (p1.code.map ax.enc)], .box [.int .i64 0, .int .i64 0], .box [.int .i64 ((y1).code), .int .i64 ((y1).at_)], .arr 1 v20 5 (l19.map (eK .u8)), .box [.osl 3 v20 0 l19.length], .dead, .dead]) (fun l19 => eZ l19 = some r) ?_ ?_
   ·skip;refine ai [] ?_
    refine aw ?_;obtain ⟨o1, hl1, hm1⟩ := bd hm;refine bl (S := ((List Int) × Int × Int)) (V := Nat) (O := (List Int)) [8, 74, 75, 76, 77, 78, 79, 80, 81, 82, 83, 84, 85, 86, 87, 88, 89] (fun (l37, x39, x40) v38 => [(8, .c (.int .u32 x39)), (74, .c (.int .i64 x40))]) (fun (l37, x39, x40) v38 => [.box [.int .i64 p1.cells, .int .i64 p1.regs, .int .i64 p1.cost, .tree 1 (p1.put.map (eK .i64)), .tree 1 (p1.bools.map (eK .i64)), .tree 1 (p1.get.map (eK .i64)), .tree 6 (p1.code.map ax.enc)], .box [.int .i64 0, .int .i64 0], .box [.int .i64 ((y1).code), .int .i64 ((y1).at_)], .arr 1 v38 5 (l37.map (eK .u8)), .box [.osl 3 v38 0 l37.length], .dead, .dead]) _ _ v15 hl1 ?_ ?_
    ·exact ls
    ·rintro ⟨l37, x39, x40⟩ v38 r1 hm hr1;replace hm : bI l37 x39 x40 = some r1 := hm;refine aP ?_;unfold bI at hm;refine ai [] ?_;refine ap fun k2 hk2 => ?_
     by_cases h15 : x40 < 4
     ·rw [iP h15] at hm;refine ab rfl (dT h15) ?_;refine aq ?_;refine ak (hk2 _ _ ?_);refine ap fun k3 hk3 => ?_;refine aw ?_;obtain ⟨⟨hg16ax, hg16ay⟩, hm⟩ := gd hm;refine ai [75, 76, 77, 78, 79, 80, 81, 82, 83, 84, 85, 86] ?_;refine ib [.box [.int .i64 p1.cells, .int .i64 p1.regs, .int .i64 p1.cost, .tree 1 (p1.put.map (eK .i64)), .tree 1 (p1.bools.map (eK .i64)), .tree 1 (p1.get.map (eK .i64)), .tree 6 (p1.code.map ax.enc)], .box [.int .i64 0, .int .i64 0], .box [.int .i64 ((y1).code), .int .i64 ((y1).at_)], .arr 1 (v38 + 1) 5 ((l37 ++ (lit ([(IntKind.wrap .u8 x39)] : List Int))).map (eK .u8)), .box [.osl 3 (v38 + 1) 0 (l37.length + 1)], .dead, .dead, .arr 1 0 5 ((lit ([(IntKind.wrap .u8 x39)] : List Int)).map (eK .u8))] ?_;refine cE ?_;refine aH ?_;refine ak (hk3 _ _ ?_);refine cE ?_;refine aO ((l37 ++ (lit ([(IntKind.wrap .u8 x39)] : List Int))), (x39.fdiv (2 ^ (min 8 (IntKind.bits .u32)))), (IntKind.wrap .i64 (x40 + 1))) (v38 + 1) hm ?_;exact ls
     ·rw [iN h15] at hm;refine ae rfl (dF h15) ?_;refine bw ?_;have ho17 := aC hm hr1;subst ho17;replace hm : eZ l37 = some r := hm1;refine aX (aL (az ?_));refine au l37 v38 hm ?_;exact ls
   ·rintro l19 v20 hm;replace hm : eZ l19 = some r := hm;refine aP ?_;unfold eZ at hm;refine ai [5, 90, 91, 92, 93, 94] ?_;refine lK (aZ 3 rfl) ?_;refine an ?_
    cases hm
    exact kr 0
theorem iE (p1 : List Int) (r : Int) (hm : eN p1 = some r) : cR Try.prog 14 [.c (.tree 1 (p1.map (eK .u8)))] (.c (.int .u32 r)) := by
 refine aR 29 [.tmp 2] Try.func14 rfl rfl rfl (by kernel_rfl) (by simp) ?_;refine cB ?_;unfold eN at hm;refine ai [2] ?_;refine ai [] ?_;refine aT (S := Int) (V := Unit) [0, 3, 5, 6, 7, 8, 9, 10, 11, 12, 13, 14, 15, 16, 17, 18, 19, 20, 21, 22, 23, 24, 25, 26] (fun x1 _ => [(3, .c (.int .u32 x1))]) (fun x1 _ => []) (fun x1 => ey x1 = some r) ?_ ?_
 ·skip;refine ai [0] ?_
  refine aw ?_;obtain ⟨o1, hl1, hm1⟩ := bd hm;refine bl (S := (Int × Int)) (V := Unit) (O := Int) [3, 5, 8, 9, 10, 11, 12, 13, 14, 15, 16, 17, 18, 19, 20, 21, 22, 23, 24, 25, 26] (fun (x6, x7) _ => [(3, .c (.int .u32 x6)), (8, .c (.int .i64 x7))]) (fun (x6, x7) _ => []) _ _ () hl1 ?_ ?_
  ·exact ls
  ·rintro ⟨x6, x7⟩ _ r1 hm hr1;replace hm : cI p1 x6 x7 = some r1 := hm;refine aP ?_;unfold cI at hm;refine ai [] ?_;refine ap fun k1 hk1 => ?_
   by_cases h1 : x7 < (p1.length : Int)
   ·rw [iP h1] at hm;refine ab rfl (dT h1) ?_;refine aq ?_;refine ak (hk1 _ _ ?_);refine aT (S := Int) (V := Unit) [3, 5, 9, 10, 11, 12, 13, 14, 15, 16, 17, 18, 19, 20, 21, 22, 23, 24, 25] (fun x8 _ => [(3, .c (.int .u32 x8))]) (fun x8 _ => []) (fun x8 => ez x7 x8 = some r1) ?_ ?_
    ·skip;refine aw ?_
     obtain ⟨hg2a, hm⟩ := gd hm;refine cS (em (eK .u8) p1 x7.toNat) [9, 10, 11] ?_;refine ai [5, 12, 13, 14, 15] ?_;refine ai [] ?_;refine aw ?_;obtain ⟨o2, hl2, hm2⟩ := bd hm;refine bl (S := (Int × Int)) (V := Unit) (O := Int) [3, 16, 17, 18, 19, 20, 21, 22, 23, 24, 25] (fun (x13, x14) _ => [(3, .c (.int .u32 x13)), (16, .c (.int .i64 x14))]) (fun (x13, x14) _ => []) _ _ () hl2 ?_ ?_
     ·exact ls
     ·rintro ⟨x13, x14⟩ _ r2 hm hr2;replace hm : cn x13 x14 = some r2 := hm;refine aP ?_;unfold cn at hm;refine ai [] ?_;refine ap fun k2 hk2 => ?_
      by_cases h3 : x14 < 8
      ·rw [iP h3] at hm;refine ab rfl (dT h3) ?_;refine aq ?_;refine ak (hk2 _ _ ?_);refine ap fun k3 hk3 => ?_;refine aw ?_;refine cE ?_;refine aH ?_;refine ak (hk3 _ _ ?_);refine cE ?_;refine aO ((bits .xor .u32 (x13.fdiv (2 ^ (min 1 (IntKind.bits .u32)))) (bits .and .u32 3988292384 (IntKind.wrap .u32 (0 - (bits .and .u32 x13 1))))), (IntKind.wrap .i64 (x14 + 1))) () hm ?_;exact ls
      ·rw [iN h3] at hm;refine ae rfl (dF h3) ?_;refine bw ?_;have ho4 := aC hm hr2;subst ho4;replace hm : ez x7 x13 = some r1 := hm2;refine aX (aL (az (aH ?_)));refine au x13 () hm ?_;exact ls
    ·rintro x8 _ hm;replace hm : ez x7 x8 = some r1 := hm;refine aP ?_;unfold ez at hm;refine cE ?_;refine aO (x8, (IntKind.wrap .i64 (x7 + 1))) () hm ?_;exact ls
   ·rw [iN h1] at hm;refine ae rfl (dF h1) ?_;refine bw ?_;have ho5 := aC hm hr1;subst ho5;replace hm : ey x6 = some r := hm1;refine aX (aL (az ?_));refine au x6 () hm ?_;exact ls
 ·rintro x1 _ hm;replace hm : ey x1 = some r := hm;refine aP ?_;unfold ey at hm;refine ai [3, 27, 28] ?_;refine an ?_
  cases hm
  exact kr 0
theorem kV (r : Bool) (hm : fD  = some r) : cR Try.prog 6 [] (.c (.bool r)) := by
 refine aR 34 [.tmp 0] Try.func6 rfl rfl rfl (by kernel_rfl) (by simp) ?_;refine cB ?_;unfold fD at hm;refine ai [0] ?_;refine av [3, 4, 5, 6, 7] fun k kp hk hp => ?_;refine go ?_
 refine aK (np 4 (.a [.int .i64 100, .int .i64 3, .int .i64 0, .tree 1 ([].map (eK .i64)), .tree 1 ([].map (eK .i64)), .tree 1 ([].map (eK .i64)), .tree 6 ([].map ax.enc)]) rfl (by and_intros <;> trivial)) ?_
 refine go ?_;obtain ⟨y1, hc1, hm⟩ := bd hm;refine RP (fun _ => jB (aj.mk 100 3 0 [] [] [] []) _ hc1) ?_;refine aa ?_;refine go ?_;refine hk _ _ ?_;clear hk hp k kp;refine dj [1, 2, 8, 9, 10, 11, 12, 13, 14, 15, 16, 17, 18, 19, 20, 21, 22, 23, 24, 25, 26, 27, 28, 29, 30, 31, 32, 33] fun k kp hk hp => ?_;refine am 4 ?_;refine go ?_
 by_cases h2 : ((y1.2).code) = 0
 ·rw [iP h2] at hm;have h2b := eQ h2;refine am 5 ?_;refine gox h2b ?_
  by_cases h3 : (y1.1.length : Int) = 15
  ·rw [iP h3] at hm;have h3b := eQ h3;obtain ⟨hg4a, hm⟩ := gd hm;refine am 6 ?_;refine gox (a2 (em (eK .u8) y1.1 3) (a2 h2b h3b)) ?_
   by_cases h5 : (y1.1.getD 3 default) = 200
   ·rw [iP h5] at hm;have h5b := eQ h5;obtain ⟨hg6a, hm⟩ := gd hm;refine am 6 ?_;refine gox (a2 (em (eK .u8) y1.1 4) (a2 h2b (a2 h3b h5b))) ?_
    by_cases h7 : (y1.1.getD 4 default) = 1
    ·rw [iP h7] at hm;have h7b := eQ h7;refine am 1 ?_;refine gox (a2 h2b (a2 h3b (a2 h5b h7b))) ?_
     refine RS (oK rfl (by first | rfl | (simp only [bR, bT, tab, bX, reduceIte, ↓reduceIte, reduceCtorEq, Int.reduceToNat, Nat.reduceDiv, Nat.reduceMod, Nat.reduceLT, Nat.reduceLeDiff, Nat.reduceAdd, Nat.reduceSub, Nat.reduceMul, Nat.reduceEqDiff, Nat.reduceBEq, Nat.reduceBNe, Nat.reduceGT]; done)) rfl (by first | kernel_rfl | exact of_decide_eq_true (by kernel_rfl)) (by first | kernel_rfl | exact of_decide_eq_true (by kernel_rfl)) (by first | assumption | omega)) ?_
     simp only [bR, bT, tab, bX, reduceIte, ↓reduceIte, reduceCtorEq, Int.reduceToNat, Nat.reduceDiv, Nat.reduceMod, Nat.reduceLT, Nat.reduceLeDiff, Nat.reduceAdd, Nat.reduceSub, Nat.reduceMul, Nat.reduceEqDiff, Nat.reduceBEq, Nat.reduceBNe, Nat.reduceGT];refine aa ?_;refine gox (a2 h2b (a2 h3b (a2 h5b h7b))) ?_;refine aK (aZ 1 rfl) ?_;refine gtx (a2 h2b (a2 h3b (a2 h5b h7b))) ?_;obtain ⟨y2, hc8, hm⟩ := bd hm;refine RP (fun _ => iE (lit ([49, 50, 51, 52, 53, 54, 55, 56, 57] : List Int)) _ hc8) ?_;refine aa ?_;refine gox (a2 h2b (a2 h3b (a2 h5b h7b))) ?_;refine hk _ _ ?_;clear hk hp k kp;refine an ?_
     cases hm
     exact kr 0
    ·rw [iN h7] at hm;have h7b := nB h7;refine aa ?_;refine gox (a2 h2b (a2 h3b (a2 h5b h7b))) ?_;refine hk _ _ ?_;clear hk hp k kp;refine an ?_
     cases hm
     exact kr 0
   ·rw [iN h5] at hm;have h5b := nB h5;refine aa ?_;refine gox (a2 h2b (a2 h3b h5b)) ?_;refine hk _ _ ?_;clear hk hp k kp;refine an ?_
    cases hm
    exact kr 0
  ·rw [iN h3] at hm;have h3b := nB h3;refine aa ?_;refine gox (a2 h2b h3b) ?_;refine hk _ _ ?_;clear hk hp k kp;refine an ?_
   cases hm
   exact kr 0
 ·rw [iN h2] at hm;have h2b := nB h2;refine aa ?_;refine gox h2b ?_;refine hk _ _ ?_;clear hk hp k kp;refine an ?_
  cases hm
  exact kr 0
theorem kW (p1 : aj) (r : Bool) (hm : fE p1 = some r) : cR Try.prog 7 [.a [.int .i64 p1.cells, .int .i64 p1.regs, .int .i64 p1.cost, .tree 1 (p1.put.map (eK .i64)), .tree 1 (p1.bools.map (eK .i64)), .tree 1 (p1.get.map (eK .i64)), .tree 6 (p1.code.map ax.enc)]] (.c (.bool r)) := by
 refine aR 25 [.tmp 2] Try.func7 rfl rfl rfl (by kernel_rfl) (by simp) ?_;refine cB ?_;unfold fE at hm;refine ai [0, 2] ?_;refine dj [1, 3, 4, 5, 6, 7, 8, 9, 10, 11, 12, 13, 14, 15, 16, 17, 18, 19, 20, 21, 22, 23, 24] fun k kp hk hp => ?_;refine am 5 ?_;refine go ?_
 by_cases h1 : (p1.put.length : Int) > 7000
 ·rw [iP h1] at hm;have h1b := dT h1;refine aa ?_;refine gox h1b ?_;refine hk _ _ ?_;clear hk hp k kp;refine an ?_
  cases hm
  exact kr 0
 ·rw [iN h1] at hm;have h1b := dF h1;refine am 6 ?_;refine gox h1b ?_
  by_cases h2 : (p1.bools.length : Int) > 7000
  ·rw [iP h2] at hm;have h2b := dT h2;refine aa ?_;refine gox (a2 h1b h2b) ?_;refine hk _ _ ?_;clear hk hp k kp;refine an ?_
   cases hm
   exact kr 0
  ·rw [iN h2] at hm;have h2b := dF h2;refine am 6 ?_;refine gox (a2 h1b h2b) ?_
   by_cases h3 : (p1.get.length : Int) > 20000
   ·rw [iP h3] at hm;have h3b := dT h3;refine aa ?_;refine gox (a2 h1b (a2 h2b h3b)) ?_;refine hk _ _ ?_;clear hk hp k kp;refine an ?_
    cases hm
    exact kr 0
   ·rw [iN h3] at hm;have h3b := dF h3;refine aa ?_;refine gox (a2 h1b (a2 h2b h3b)) ?_;refine hk _ _ ?_;clear hk hp k kp;refine an ?_
    cases hm
    exact kr 0
theorem lm (p1 : aj) (r : aj) (hm : gW p1 = some r) : cR Try.prog 8 [.a [.int .i64 p1.cells, .int .i64 p1.regs, .int .i64 p1.cost, .tree 1 (p1.put.map (eK .i64)), .tree 1 (p1.bools.map (eK .i64)), .tree 1 (p1.get.map (eK .i64)), .tree 6 (p1.code.map ax.enc)]] (.a [.int .i64 ((r).cells), .int .i64 ((r).regs), .int .i64 ((r).cost), .tree 1 (((r).put).map (eK .i64)), .tree 1 (((r).bools).map (eK .i64)), .tree 1 (((r).get).map (eK .i64)), .tree 6 (((r).code).map ax.enc)]) := by
 refine aR 28 [.cell 2 25] Try.func8 rfl rfl rfl (by kernel_rfl) (by simp) ?_;refine cB ?_;unfold gW at hm;refine ai [0] ?_;refine ai [] ?_;refine ai [] ?_;obtain ⟨⟨⟨hg1ax, hg1ay⟩, ⟨hg1bx, hg1by⟩, ⟨hg1cx, hg1cy⟩, ⟨hg1dx, hg1dy⟩⟩, hm⟩ := gd hm;refine rz [3, 4, 5, 6, 7, 8, 9, 10, 11, 12, 13, 14, 15, 16, 17, 18, 19, 20, 21, 22, 23, 24, 25, 26] [0, 0, 2, 7, 0, 0, 32, 127, 0, 0, 512, 2047, 0, 0, 8192, 32767, 26223, 131071, 262143, 524287, 1048575, 2097151, 4194303, 8388607] [false, false, false, false, false, false, false, false, false, false, false, false, false, false, false, false, false, true, true, true, true, true, true, true] ?_;refine ib [.box [.int .i64 p1.cells, .int .i64 p1.regs, .int .i64 p1.cost, .osl 2 0 0 p1.put.length, .osl 3 0 0 p1.bools.length, .osl 4 0 0 p1.get.length, .osl 5 0 0 p1.code.length], .box [.int .i64 0, .int .i64 0, .int .i64 0, .nils, .nils, .nils, .nils], .arr 1 0 3 (p1.put.map (eK .i64)), .arr 1 0 3 (p1.bools.map (eK .i64)), .arr 1 0 3 (p1.get.map (eK .i64)), .arr 6 0 50 (p1.code.map ax.enc)] ?_;refine ai [1, 27] ?_;refine lK (aZ 2 rfl) ?_;refine lK (aZ 3 rfl) ?_;refine lK (aZ 4 rfl) ?_;refine lK (aZ 5 rfl) ?_;refine an ?_
 cases hm
 exact kr 0
theorem bf (p1 : aD) (r : (Int × Int) ⊕ (Int × Int)) (hm : aV p1 = some r) : gv Try.prog 33 [.c (.optr 0 0)] [.box [.tree 1 (p1.b.map (eK .u8)), .int .i64 p1.at_]] (fun p σ => (Sum.elim (fun z => (p = .c (.int .i64 z.1) ∧ σ = [.box [.tree 1 (p1.b.map (eK .u8)), .int .i64 z.2]])) (fun z => False)) r) (fun p _ => (Sum.elim (fun z => False) (fun z => p = .c (.ifc 51 true (nsC [(.i64, z.1), (.i64, z.2)])))) r) := by
 refine aR 82 [.tmp 2] Try.func33 rfl rfl rfl (by kernel_rfl) (by simp) ?_;refine cB ?_;unfold aV at hm;refine ai [2] ?_;refine ai [] ?_;refine aT (S := (Int × Int)) (V := Unit) [0, 3, 4, 5, 6, 7, 8, 9, 10, 11, 12, 13, 14, 15, 16, 17, 18, 19, 20, 21, 22, 23, 24, 25, 26, 27, 28, 29, 30, 31, 32, 33, 34, 35, 36, 37, 38, 39, 40, 41, 42, 43, 44, 45, 46, 47, 48, 49, 50, 51, 52, 53, 54, 55, 56, 57, 58, 59, 60, 61, 62, 63, 64, 65, 66, 67, 68, 69, 70, 71, 72, 73] (fun (x1, x2) _ => [(3, .c (.int .u64 x2))]) (fun (x1, x2) _ => [.box [.tree 1 (p1.b.map (eK .u8)), .int .i64 x1]]) (fun (x1, x2) => cb x1 x2 = some r) ?_ ?_
 ·skip;refine ai [] ?_
  refine aw ?_;obtain ⟨o1, hl1, hm1⟩ := bd hm;refine bl (S := (Int × Int × Int)) (V := Unit) (O := (Int × Int) ⊕ ((Int × Int) ⊕ (Int × Int))) [3, 4, 5, 6, 7, 8, 9, 10, 11, 12, 13, 14, 15, 16, 17, 18, 19, 20, 21, 22, 23, 24, 25, 26, 27, 28, 29, 30, 31, 32, 33, 34, 35, 36, 37, 38, 39, 40, 41, 42, 43, 44, 45, 46, 47, 48, 49, 50, 51, 52, 53, 54, 55, 56, 57, 58, 59, 60, 61, 62, 63, 64, 65, 66, 67, 68, 69, 70, 71, 72, 73] (fun (x9, x10, x11) _ => [(3, .c (.int .u64 x10)), (6, .c (.int .i64 x11))]) (fun (x9, x10, x11) _ => [.box [.tree 1 (p1.b.map (eK .u8)), .int .i64 x9]]) _ _ () hl1 ?_ ?_
  ·exact ls
  ·rintro ⟨x9, x10, x11⟩ _ r1 hm hr1;replace hm : be p1 x9 x10 x11 = some r1 := hm;refine aP ?_;unfold be at hm;refine ai [] ?_;refine ap fun k1 hk1 => ?_
   by_cases h1 : x11 < 10
   ·rw [iP h1] at hm;refine ab rfl (dT h1) ?_;refine aq ?_;refine ak (hk1 _ _ ?_);refine ap fun k2 hk2 => ?_;refine aw ?_;refine ai [7, 8] ?_;refine ap fun k3 hk3 => ?_;refine rz [9, 10, 11, 12, 13, 14, 15, 16, 17] [0, 1, 3, 7, 0, 16, 48, 112, 240, 511] [false, false, false, false, false, false, false, false, false, true] ?_
    by_cases h2 : x9 ≥ (p1.b.length : Int)
    ·rw [iP h2] at hm;refine ab rfl (dT h2) ?_;refine im fun k kp hk hp => ?_;refine am 6 ?_;refine go ?_
     refine RS (j9 (ns := [(.i64, 5), (.i64, (p1.b.length : Int))]) rfl (by first | rfl | (simp only [bR, bT, tab, bX, reduceIte, ↓reduceIte, reduceCtorEq, Int.reduceToNat, Nat.reduceDiv, Nat.reduceMod, Nat.reduceLT, Nat.reduceLeDiff, Nat.reduceAdd, Nat.reduceSub, Nat.reduceMul, Nat.reduceEqDiff, Nat.reduceBEq, Nat.reduceBNe, Nat.reduceGT]; done)) (by first | kernel_rfl | exact of_decide_eq_true (by kernel_rfl))) ?_
     simp only [bR, bT, tab, bX, reduceIte, ↓reduceIte, reduceCtorEq, Int.reduceToNat, Nat.reduceDiv, Nat.reduceMod, Nat.reduceLT, Nat.reduceLeDiff, Nat.reduceAdd, Nat.reduceSub, Nat.reduceMul, Nat.reduceEqDiff, Nat.reduceBEq, Nat.reduceBNe, Nat.reduceGT]
     refine fm rfl (by first | rfl | (simp only [bR, bT, tab, bX, reduceIte, ↓reduceIte, reduceCtorEq, Int.reduceToNat, Nat.reduceDiv, Nat.reduceMod, Nat.reduceLT, Nat.reduceLeDiff, Nat.reduceAdd, Nat.reduceSub, Nat.reduceMul, Nat.reduceEqDiff, Nat.reduceBEq, Nat.reduceBNe, Nat.reduceGT]; done)) (by first | rfl | (simp only [bR, bT, tab, bX, reduceIte, ↓reduceIte, reduceCtorEq, Int.reduceToNat, Nat.reduceDiv, Nat.reduceMod, Nat.reduceLT, Nat.reduceLeDiff, Nat.reduceAdd, Nat.reduceSub, Nat.reduceMul, Nat.reduceEqDiff, Nat.reduceBEq, Nat.reduceBNe, Nat.reduceGT]; done)) ?_
     have ho3 := aC hm hr1;subst ho3;replace hm : some (.inr (5, (p1.b.length : Int))) = some r := hm1;refine hp _ _ _ ?_;refine fq ?_;refine b9 ?_;refine fq ?_;refine fA ?_;refine b9 ?_;refine dD ?_;obtain rfl := sI hm;exact rfl
    ·rw [iN h2] at hm;refine ae rfl (dF h2) ?_;refine aq ?_;refine ak (hk3 _ _ ?_);obtain ⟨hg4a, hm⟩ := gd hm;refine oI (em (eK .u8) p1.b x9.toNat) [18, 26, 27, 28, 29, 30, 31, 32, 33, 34, 35] [0, 1, 3, 7, 0, 16, 48, 112, 255, 511, 1023] [false, false, false, false, false, false, false, false, true, true, true] ?_;refine aT (S := Unit) (V := Unit) [36, 37, 38, 39, 40, 41, 42, 43, 44, 45, 46, 47, 48, 49, 50, 51, 52, 53, 54, 55] (fun _ _ => []) (fun _ _ => [.box [.tree 1 (p1.b.map (eK .u8)), .int .i64 x9]]) (fun _ => bp p1 x9 x10 x11 = some r1) ?_ ?_
     ·skip
      by_cases h8 : x11 = 9
      ·rw [iP h8] at hm;have h8b := eQ h8;refine dj [36, 37, 38, 39, 40, 41, 42, 43, 44, 45, 46, 47, 48] fun k kp hk hp => ?_;refine am 7 ?_;refine gox h8b ?_
       by_cases h9 : (p1.b.getD x9.toNat default) > 1
       ·rw [iP h9] at hm;have h9b := dT h9;refine aa ?_;refine gox (a2 h8b h9b) ?_;refine hk _ _ ?_;clear hk hp k kp;refine ab rfl rfl ?_;refine im fun k kp hk hp => ?_;refine am 5 ?_;refine go ?_
        refine RS (j9 (ns := [(.i64, 2), (.i64, x9)]) rfl (by first | rfl | (simp only [bR, bT, tab, bX, reduceIte, ↓reduceIte, reduceCtorEq, Int.reduceToNat, Nat.reduceDiv, Nat.reduceMod, Nat.reduceLT, Nat.reduceLeDiff, Nat.reduceAdd, Nat.reduceSub, Nat.reduceMul, Nat.reduceEqDiff, Nat.reduceBEq, Nat.reduceBNe, Nat.reduceGT]; done)) (by first | kernel_rfl | exact of_decide_eq_true (by kernel_rfl))) ?_
        simp only [bR, bT, tab, bX, reduceIte, ↓reduceIte, reduceCtorEq, Int.reduceToNat, Nat.reduceDiv, Nat.reduceMod, Nat.reduceLT, Nat.reduceLeDiff, Nat.reduceAdd, Nat.reduceSub, Nat.reduceMul, Nat.reduceEqDiff, Nat.reduceBEq, Nat.reduceBNe, Nat.reduceGT]
        refine fm rfl (by first | rfl | (simp only [bR, bT, tab, bX, reduceIte, ↓reduceIte, reduceCtorEq, Int.reduceToNat, Nat.reduceDiv, Nat.reduceMod, Nat.reduceLT, Nat.reduceLeDiff, Nat.reduceAdd, Nat.reduceSub, Nat.reduceMul, Nat.reduceEqDiff, Nat.reduceBEq, Nat.reduceBNe, Nat.reduceGT]; done)) (by first | rfl | (simp only [bR, bT, tab, bX, reduceIte, ↓reduceIte, reduceCtorEq, Int.reduceToNat, Nat.reduceDiv, Nat.reduceMod, Nat.reduceLT, Nat.reduceLeDiff, Nat.reduceAdd, Nat.reduceSub, Nat.reduceMul, Nat.reduceEqDiff, Nat.reduceBEq, Nat.reduceBNe, Nat.reduceGT]; done)) ?_
        have ho10 := aC hm hr1;subst ho10;replace hm : some (.inr (2, x9)) = some r := hm1;refine hp _ _ _ ?_;refine dD ?_;refine b9 ?_;refine fq ?_;refine fA ?_;refine b9 ?_;refine dD ?_;obtain rfl := sI hm;exact rfl
       ·rw [iN h9] at hm;have h9b := dF h9
        by_cases h11 : x11 > 0
        ·rw [iP h11] at hm;have h11b := dT h11;refine aa ?_;refine gox (a2 h8b (a2 h9b h11b)) ?_;refine hk _ _ ?_;clear hk hp k kp
         by_cases h12 : (p1.b.getD x9.toNat default) = 0
         ·rw [iP h12] at hm;refine ab rfl (eQ h12) ?_;refine im fun k kp hk hp => ?_;refine am 5 ?_;refine go ?_
          refine RS (j9 (ns := [(.i64, 2), (.i64, x9)]) rfl (by first | rfl | (simp only [bR, bT, tab, bX, reduceIte, ↓reduceIte, reduceCtorEq, Int.reduceToNat, Nat.reduceDiv, Nat.reduceMod, Nat.reduceLT, Nat.reduceLeDiff, Nat.reduceAdd, Nat.reduceSub, Nat.reduceMul, Nat.reduceEqDiff, Nat.reduceBEq, Nat.reduceBNe, Nat.reduceGT]; done)) (by first | kernel_rfl | exact of_decide_eq_true (by kernel_rfl))) ?_
          simp only [bR, bT, tab, bX, reduceIte, ↓reduceIte, reduceCtorEq, Int.reduceToNat, Nat.reduceDiv, Nat.reduceMod, Nat.reduceLT, Nat.reduceLeDiff, Nat.reduceAdd, Nat.reduceSub, Nat.reduceMul, Nat.reduceEqDiff, Nat.reduceBEq, Nat.reduceBNe, Nat.reduceGT]
          refine fm rfl (by first | rfl | (simp only [bR, bT, tab, bX, reduceIte, ↓reduceIte, reduceCtorEq, Int.reduceToNat, Nat.reduceDiv, Nat.reduceMod, Nat.reduceLT, Nat.reduceLeDiff, Nat.reduceAdd, Nat.reduceSub, Nat.reduceMul, Nat.reduceEqDiff, Nat.reduceBEq, Nat.reduceBNe, Nat.reduceGT]; done)) (by first | rfl | (simp only [bR, bT, tab, bX, reduceIte, ↓reduceIte, reduceCtorEq, Int.reduceToNat, Nat.reduceDiv, Nat.reduceMod, Nat.reduceLT, Nat.reduceLeDiff, Nat.reduceAdd, Nat.reduceSub, Nat.reduceMul, Nat.reduceEqDiff, Nat.reduceBEq, Nat.reduceBNe, Nat.reduceGT]; done)) ?_
          have ho13 := aC hm hr1;subst ho13;replace hm : some (.inr (2, x9)) = some r := hm1;refine hp _ _ _ ?_;refine dD ?_;refine b9 ?_;refine fq ?_;refine fA ?_;refine b9 ?_;refine dD ?_;obtain rfl := sI hm;exact rfl
         ·rw [iN h12] at hm;refine ae rfl (nB h12) ?_;refine aq ?_;refine au () () hm ?_;exact ls
        ·rw [iN h11] at hm;have h11b := dF h11;refine aa ?_;refine gox (a2 h8b (a2 h9b h11b)) ?_;refine hk _ _ ?_;clear hk hp k kp;refine ae rfl rfl ?_;refine aq ?_;refine au () () hm ?_;exact ls
      ·rw [iN h8] at hm;have h8b := nB h8;refine dj [36, 37, 38, 39, 40, 41, 42, 43, 44, 45, 46, 47, 48] fun k kp hk hp => ?_;refine am 10 ?_;refine gox h8b ?_
       by_cases h14 : x11 > 0
       ·rw [iP h14] at hm;have h14b := dT h14;refine aa ?_;refine gox (a2 h8b h14b) ?_;refine hk _ _ ?_;clear hk hp k kp
        by_cases h15 : (p1.b.getD x9.toNat default) = 0
        ·rw [iP h15] at hm;refine ab rfl (eQ h15) ?_;refine im fun k kp hk hp => ?_;refine am 5 ?_;refine go ?_
         refine RS (j9 (ns := [(.i64, 2), (.i64, x9)]) rfl (by first | rfl | (simp only [bR, bT, tab, bX, reduceIte, ↓reduceIte, reduceCtorEq, Int.reduceToNat, Nat.reduceDiv, Nat.reduceMod, Nat.reduceLT, Nat.reduceLeDiff, Nat.reduceAdd, Nat.reduceSub, Nat.reduceMul, Nat.reduceEqDiff, Nat.reduceBEq, Nat.reduceBNe, Nat.reduceGT]; done)) (by first | kernel_rfl | exact of_decide_eq_true (by kernel_rfl))) ?_
         simp only [bR, bT, tab, bX, reduceIte, ↓reduceIte, reduceCtorEq, Int.reduceToNat, Nat.reduceDiv, Nat.reduceMod, Nat.reduceLT, Nat.reduceLeDiff, Nat.reduceAdd, Nat.reduceSub, Nat.reduceMul, Nat.reduceEqDiff, Nat.reduceBEq, Nat.reduceBNe, Nat.reduceGT]
         refine fm rfl (by first | rfl | (simp only [bR, bT, tab, bX, reduceIte, ↓reduceIte, reduceCtorEq, Int.reduceToNat, Nat.reduceDiv, Nat.reduceMod, Nat.reduceLT, Nat.reduceLeDiff, Nat.reduceAdd, Nat.reduceSub, Nat.reduceMul, Nat.reduceEqDiff, Nat.reduceBEq, Nat.reduceBNe, Nat.reduceGT]; done)) (by first | rfl | (simp only [bR, bT, tab, bX, reduceIte, ↓reduceIte, reduceCtorEq, Int.reduceToNat, Nat.reduceDiv, Nat.reduceMod, Nat.reduceLT, Nat.reduceLeDiff, Nat.reduceAdd, Nat.reduceSub, Nat.reduceMul, Nat.reduceEqDiff, Nat.reduceBEq, Nat.reduceBNe, Nat.reduceGT]; done)) ?_
         have ho16 := aC hm hr1;subst ho16;replace hm : some (.inr (2, x9)) = some r := hm1;refine hp _ _ _ ?_;refine dD ?_;refine b9 ?_;refine fq ?_;refine fA ?_;refine b9 ?_;refine dD ?_;obtain rfl := sI hm;exact rfl
        ·rw [iN h15] at hm;refine ae rfl (nB h15) ?_;refine aq ?_;refine au () () hm ?_;exact ls
       ·rw [iN h14] at hm;have h14b := dF h14;refine aa ?_;refine gox (a2 h8b h14b) ?_;refine hk _ _ ?_;clear hk hp k kp;refine ae rfl rfl ?_;refine aq ?_;refine au () () hm ?_;exact ls
     ·rintro _ _ hm;replace hm : bp p1 x9 x10 x11 = some r1 := hm;refine aP ?_;unfold bp at hm;refine ai [56, 57, 58, 59, 60, 61, 62] ?_;obtain ⟨hg5a, hm⟩ := gd hm;refine ai [4, 63, 64, 65, 66, 67, 68, 69, 70] ?_;refine ai [5, 71] ?_
      by_cases h6 : (p1.b.getD x9.toNat default) < 128
      ·rw [iP h6] at hm;refine ab rfl (dT h6) ?_;refine bw ?_;have ho7 := aC hm hr1;subst ho7;replace hm : cb (IntKind.wrap .i64 (x9 + 1)) (bits .or .u64 x10 (IntKind.wrap .u64 ((IntKind.wrap .u64 (bits .and .u8 (p1.b.getD x9.toNat default) 127)) * 2 ^ (min ((IntKind.wrap .i64 (7 * x11)).toNat) (IntKind.bits .u64))))) = some r := hm1;refine oH (by decide) ?_;refine aX (aL (az ?_));refine au ((IntKind.wrap .i64 (x9 + 1)), (bits .or .u64 x10 (IntKind.wrap .u64 ((IntKind.wrap .u64 (bits .and .u8 (p1.b.getD x9.toNat default) 127)) * 2 ^ (min ((IntKind.wrap .i64 (7 * x11)).toNat) (IntKind.bits .u64)))))) () hm ?_;exact ls
      ·rw [iN h6] at hm;refine ae rfl (dF h6) ?_;refine aq ?_;refine aH ?_;refine ak (hk2 _ _ ?_);refine cE ?_;refine aO ((IntKind.wrap .i64 (x9 + 1)), (bits .or .u64 x10 (IntKind.wrap .u64 ((IntKind.wrap .u64 (bits .and .u8 (p1.b.getD x9.toNat default) 127)) * 2 ^ (min ((IntKind.wrap .i64 (7 * x11)).toNat) (IntKind.bits .u64))))), (IntKind.wrap .i64 (x11 + 1))) () hm ?_;exact ls
   ·rw [iN h1] at hm;refine ae rfl (dF h1) ?_;refine bw ?_;have ho17 := aC hm hr1;subst ho17;replace hm : cb x9 x10 = some r := hm1;refine aX (aL (az ?_));refine au (x9, x10) () hm ?_;exact ls
 ·rintro ⟨x1, x2⟩ _ hm;replace hm : cb x1 x2 = some r := hm;refine aP ?_;unfold cb at hm;refine ai [3, 74, 75, 76, 77, 78, 79, 80, 81] ?_;refine an ?_
  cases hm
  exact kr 1
theorem gL (p1 : Int) (p2 : aD) (r : (Int × Int) ⊕ (Int × Int)) (hm : cY p1 p2 = some r) : gv Try.prog 35 [.c (.optr 0 0), .c (.int .i64 p1)] [.box [.tree 1 (p2.b.map (eK .u8)), .int .i64 p2.at_]] (fun p σ => (Sum.elim (fun z => (p = .c (.int .i64 z.1) ∧ σ = [.box [.tree 1 (p2.b.map (eK .u8)), .int .i64 z.2]])) (fun z => False)) r) (fun p _ => (Sum.elim (fun z => False) (fun z => p = .c (.ifc 51 true (nsC [(.i64, z.1), (.i64, z.2)])))) r) := by
 refine aR 35 [.tmp 4] Try.func35 rfl rfl rfl (by kernel_rfl) (by simp) ?_;refine cB ?_;unfold cY at hm;refine ai [4] ?_;refine ai [7, 8, 9, 10] ?_;refine av [11, 12] fun k kp hk hp => ?_;refine go ?_;obtain ⟨y1, hc1, hm⟩ := bd hm
 refine bz (bf p2  _ hc1) [0] (by first | trivial | exact cz rfl) (by first | trivial | (intro _; first | trivial | simp [ar]) | simp [ar]) (by simp) (by simp) rfl rfl (by first | trivial | (simp [bX, eK, eB, eS, eL, ce, aJ, PV.under, CV.under, ay, OB.under, aA]; done)) (by first | trivial | (simp [bX, eK, eB, eS, eL, ce, aJ, PV.under, CV.under, ay, OB.under, aA]; done)) ?_ ?_
 rotate_left
 ·rintro p σ' hpp hpl
  rcases y1 with y2 | y3
  ·exact False.elim hpp
  simp only [Sum.elim_inl, Sum.elim_inr] at hm hpp;subst hpp;refine hp _ _ _ ?_;obtain rfl := sI hm;exact rfl
 rintro p σ' hq2 _
 rcases y1 with y4 | y5
 ·skip;simp only [Sum.elim_inl, Sum.elim_inr] at hm hq2
  obtain ⟨rfl, rfl⟩ := hq2;refine aa ?_;refine go ?_;refine hk _ _ ?_;clear hk hp k kp;refine ap fun k1 hk1 => ?_
  by_cases h3 : y4.1 < 0
  ·rw [iP h3] at hm;have h3b := dT h3;refine kS [0, 1, 13, 14, 15, 16, 17, 18, 19, 20, 21, 22, 23, 24, 25, 26, 27, 28, 29] (by kernel_rfl) [0, 1, 3, 7, 7, 23, 55, 119, 247, 7, 519, 1543, 3591, 8183, 7, 32759, 65535, 131071] [true, true, true, false, false, false, false, false, false, false, false, false, false, false, false, false, true, true] (by kernel_rfl) fun k hk => ?_;refine jr ?_;refine gax h3b ?_;refine hk _ _ ?_;clear hk k;refine ab rfl rfl ?_;refine im fun k kp hk hp => ?_;refine am 2 ?_;refine go ?_
   refine RS (j9 (ns := [(.i64, 7), (.i64, p2.at_)]) rfl (by first | rfl | (simp only [bR, bT, tab, bX, reduceIte, ↓reduceIte, reduceCtorEq, Int.reduceToNat, Nat.reduceDiv, Nat.reduceMod, Nat.reduceLT, Nat.reduceLeDiff, Nat.reduceAdd, Nat.reduceSub, Nat.reduceMul, Nat.reduceEqDiff, Nat.reduceBEq, Nat.reduceBNe, Nat.reduceGT]; done)) (by first | kernel_rfl | exact of_decide_eq_true (by kernel_rfl))) ?_
   simp only [bR, bT, tab, bX, reduceIte, ↓reduceIte, reduceCtorEq, Int.reduceToNat, Nat.reduceDiv, Nat.reduceMod, Nat.reduceLT, Nat.reduceLeDiff, Nat.reduceAdd, Nat.reduceSub, Nat.reduceMul, Nat.reduceEqDiff, Nat.reduceBEq, Nat.reduceBNe, Nat.reduceGT]
   refine fm rfl (by first | rfl | (simp only [bR, bT, tab, bX, reduceIte, ↓reduceIte, reduceCtorEq, Int.reduceToNat, Nat.reduceDiv, Nat.reduceMod, Nat.reduceLT, Nat.reduceLeDiff, Nat.reduceAdd, Nat.reduceSub, Nat.reduceMul, Nat.reduceEqDiff, Nat.reduceBEq, Nat.reduceBNe, Nat.reduceGT]; done)) (by first | rfl | (simp only [bR, bT, tab, bX, reduceIte, ↓reduceIte, reduceCtorEq, Int.reduceToNat, Nat.reduceDiv, Nat.reduceMod, Nat.reduceLT, Nat.reduceLeDiff, Nat.reduceAdd, Nat.reduceSub, Nat.reduceMul, Nat.reduceEqDiff, Nat.reduceBEq, Nat.reduceBNe, Nat.reduceGT]; done)) ?_
   refine hp _ _ _ ?_;refine fq ?_;obtain rfl := sI hm;exact rfl
  ·rw [iN h3] at hm;have h3b := dF h3;obtain ⟨hg4a, hm⟩ := gd hm;refine kS [0, 1, 13, 14, 15, 16, 17, 18, 19, 20, 21, 22, 23, 24, 25, 26, 27, 28, 29] (by kernel_rfl) [0, 1, 3, 7, 7, 23, 55, 119, 247, 7, 519, 1543, 3591, 8183, 7, 32759, 65535, 131071] [true, true, true, false, false, false, false, false, false, false, false, false, false, false, false, false, true, true] (by kernel_rfl) fun k hk => ?_;refine jr ?_;refine gax h3b ?_;refine hk _ _ ?_;clear hk k
   by_cases h5 : y4.1 > (IntKind.wrap .i64 ((IntKind.wrap .i64 ((p2.b.length : Int) - y4.2)).tdiv p1))
   ·rw [iP h5] at hm;refine ab rfl (dT h5) ?_;refine im fun k kp hk hp => ?_;refine am 2 ?_;refine go ?_
    refine RS (j9 (ns := [(.i64, 7), (.i64, p2.at_)]) rfl (by first | rfl | (simp only [bR, bT, tab, bX, reduceIte, ↓reduceIte, reduceCtorEq, Int.reduceToNat, Nat.reduceDiv, Nat.reduceMod, Nat.reduceLT, Nat.reduceLeDiff, Nat.reduceAdd, Nat.reduceSub, Nat.reduceMul, Nat.reduceEqDiff, Nat.reduceBEq, Nat.reduceBNe, Nat.reduceGT]; done)) (by first | kernel_rfl | exact of_decide_eq_true (by kernel_rfl))) ?_
    simp only [bR, bT, tab, bX, reduceIte, ↓reduceIte, reduceCtorEq, Int.reduceToNat, Nat.reduceDiv, Nat.reduceMod, Nat.reduceLT, Nat.reduceLeDiff, Nat.reduceAdd, Nat.reduceSub, Nat.reduceMul, Nat.reduceEqDiff, Nat.reduceBEq, Nat.reduceBNe, Nat.reduceGT]
    refine fm rfl (by first | rfl | (simp only [bR, bT, tab, bX, reduceIte, ↓reduceIte, reduceCtorEq, Int.reduceToNat, Nat.reduceDiv, Nat.reduceMod, Nat.reduceLT, Nat.reduceLeDiff, Nat.reduceAdd, Nat.reduceSub, Nat.reduceMul, Nat.reduceEqDiff, Nat.reduceBEq, Nat.reduceBNe, Nat.reduceGT]; done)) (by first | rfl | (simp only [bR, bT, tab, bX, reduceIte, ↓reduceIte, reduceCtorEq, Int.reduceToNat, Nat.reduceDiv, Nat.reduceMod, Nat.reduceLT, Nat.reduceLeDiff, Nat.reduceAdd, Nat.reduceSub, Nat.reduceMul, Nat.reduceEqDiff, Nat.reduceBEq, Nat.reduceBNe, Nat.reduceGT]; done)) ?_
    refine hp _ _ _ ?_;refine fq ?_;obtain rfl := sI hm;exact rfl
   ·rw [iN h5] at hm;refine ae rfl (dF h5) ?_;refine aq ?_;refine ak (hk1 _ _ ?_);refine ai [5, 6, 30, 34] ?_;refine an ?_
    cases hm
    exact kr 1
 ·skip;exact False.elim hq2
theorem fJ (p1 : aD) (r : ((List Int) × Int) ⊕ (Int × Int)) (hm : cJ p1 = some r) : gv Try.prog 34 [.c (.optr 0 0)] [.box [.tree 1 (p1.b.map (eK .u8)), .int .i64 p1.at_]] (fun p σ => (Sum.elim (fun z => (p = .c (.tree 1 (z.1.map (eK .i64))) ∧ σ = [.box [.tree 1 (p1.b.map (eK .u8)), .int .i64 z.2]])) (fun z => False)) r) (fun p _ => (Sum.elim (fun z => False) (fun z => p = .c (.ifc 51 true (nsC [(.i64, z.1), (.i64, z.2)])))) r) := by
 refine aR 15 [.tmp 2] Try.func34 rfl rfl rfl (by kernel_rfl) (by simp) ?_;refine cB ?_;unfold cJ at hm;refine ai [2] ?_;refine ai [] ?_;refine dI (lk 3 1 3 (by decide) rfl (Nat.le_of_ble_eq_true rfl)) ?_;refine rA ?_;refine aT (S := (Int × (List Int))) (V := Nat) [0, 3, 4, 5, 6, 7, 8, 9, 10, 11, 12, 13] (fun (x3, l4) v5 => [(3, .c (.osl 1 v5 0 l4.length))]) (fun (x3, l4) v5 => [.box [.tree 1 (p1.b.map (eK .u8)), .int .i64 x3], .arr 1 v5 3 (l4.map (eK .i64))]) (fun (x3, l4) => dk x3 l4 = some r) ?_ ?_
 ·skip;refine av [4] fun k kp hk hp => ?_
  refine go ?_;obtain ⟨y6, hc1, hm⟩ := bd hm
  refine bz (gL 1 p1  _ hc1) [0] (by first | trivial | exact cz rfl) (by first | trivial | (intro _; first | trivial | simp [ar]) | simp [ar]) (by simp) (by simp) rfl rfl (by first | trivial | (simp [bX, eK, eB, eS, eL, ce, aJ, PV.under, CV.under, ay, OB.under, aA]; done)) (by first | trivial | (simp [bX, eK, eB, eS, eL, ce, aJ, PV.under, CV.under, ay, OB.under, aA]; done)) ?_ ?_
  rotate_left
  ·rintro p σ' hpp hpl
   rcases y6 with y7 | y8
   ·exact False.elim hpp
   simp only [Sum.elim_inl, Sum.elim_inr] at hm hpp;subst hpp;refine hp _ _ _ ?_;refine dD ?_;obtain rfl := sI hm;exact rfl
  rintro p σ' hq2 _
  rcases y6 with y9 | y10
  ·skip;simp only [Sum.elim_inl, Sum.elim_inr] at hm hq2
   obtain ⟨rfl, rfl⟩ := hq2;refine aa ?_;refine go ?_;refine hk _ _ ?_;clear hk hp k kp;refine aw ?_;obtain ⟨o1, hl1, hm1⟩ := bd hm;refine bl (S := (Int × (List Int) × Int)) (V := Nat) (O := (Int × (List Int)) ⊕ (((List Int) × Int) ⊕ (Int × Int))) [3, 6, 7, 8, 9, 10, 11, 12, 13] (fun (x25, l26, x28) v27 => [(3, .c (.osl 1 v27 0 l26.length)), (6, .c (.int .i64 x28))]) (fun (x25, l26, x28) v27 => [.box [.tree 1 (p1.b.map (eK .u8)), .int .i64 x25], .arr 1 v27 3 (l26.map (eK .i64))]) _ _ 0 hl1 ?_ ?_
   ·exact ls
   ·rintro ⟨x25, l26, x28⟩ v27 r1 hm hr1;replace hm : br p1 y9 x25 l26 x28 = some r1 := hm;refine aP ?_;unfold br at hm;refine ai [] ?_;refine ap fun k1 hk1 => ?_
    by_cases h3 : x28 < y9.1
    ·rw [iP h3] at hm;refine ab rfl (dT h3) ?_;refine aq ?_;refine ak (hk1 _ _ ?_);refine ap fun k2 hk2 => ?_;refine aw ?_;refine f9 fun k kp hk hp => ?_;refine go ?_;obtain ⟨y29, hc4, hm⟩ := bd hm
     refine bz (bf (aD.mk p1.b x25)  _ hc4) [0] (by first | trivial | exact cz rfl) (by first | trivial | (intro _; first | trivial | simp [ar]) | simp [ar]) (by simp) (by simp) rfl rfl (by first | trivial | (simp [bX, eK, eB, eS, eL, ce, aJ, PV.under, CV.under, ay, OB.under, aA]; done)) (by first | trivial | (simp [bX, eK, eB, eS, eL, ce, aJ, PV.under, CV.under, ay, OB.under, aA]; done)) ?_ ?_
     rotate_left
     ·rintro p σ' hpp hpl
      rcases y29 with y30 | y31
      ·exact False.elim hpp
      simp only [Sum.elim_inl, Sum.elim_inr] at hm hpp;subst hpp;have ho6 := aC hm hr1;subst ho6;replace hm : some (.inr (y31.1, y31.2)) = some r := hm1;refine hp _ _ _ ?_;refine b9 ?_;refine fq ?_;refine fA ?_;refine b9 ?_;refine dD ?_;obtain rfl := sI hm;exact rfl
     rintro p σ' hq5 _
     rcases y29 with y32 | y33
     ·skip;simp only [Sum.elim_inl, Sum.elim_inr] at hm hq5
      obtain ⟨rfl, rfl⟩ := hq5;obtain ⟨⟨hg7ax, hg7ay⟩, hm⟩ := gd hm;refine aa ?_;refine go ?_;refine hk _ _ ?_;clear hk hp k kp;refine aH ?_;refine ak (hk2 _ _ ?_);refine cE ?_;refine aO (y32.2, (l26 ++ (lit ([y32.1] : List Int))), (IntKind.wrap .i64 (x28 + 1))) (v27 + 1) hm ?_;exact ls
     ·skip;exact False.elim hq5
    ·rw [iN h3] at hm;refine ae rfl (dF h3) ?_;refine bw ?_;have ho8 := aC hm hr1;subst ho8;replace hm : dk x25 l26 = some r := hm1;refine aX (aL (az ?_));refine au (x25, l26) v27 hm ?_;exact ls
  ·skip;exact False.elim hq2
 ·rintro ⟨x3, l4⟩ v5 hm;replace hm : dk x3 l4 = some r := hm;refine aP ?_;unfold dk at hm;refine ai [3, 14] ?_;refine lK (aZ 1 rfl) ?_;refine an ?_
  cases hm
  exact kr 1
theorem jD (p1 : aD) (r : (aj × Int) ⊕ (Int × Int)) (hm : cZ p1 = some r) : gv Try.prog 21 [.c (.optr 0 0)] [.box [.tree 1 (p1.b.map (eK .u8)), .int .i64 p1.at_]] (fun p σ => (Sum.elim (fun z => (p = .a [.int .i64 ((z.1).cells), .int .i64 ((z.1).regs), .int .i64 ((z.1).cost), .tree 1 (((z.1).put).map (eK .i64)), .tree 1 (((z.1).bools).map (eK .i64)), .tree 1 (((z.1).get).map (eK .i64)), .tree 6 (((z.1).code).map ax.enc)] ∧ σ = [.box [.tree 1 (p1.b.map (eK .u8)), .int .i64 z.2]])) (fun z => False)) r) (fun p _ => (Sum.elim (fun z => False) (fun z => p = .c (.ifc 51 true (nsC [(.i64, z.1), (.i64, z.2)])))) r) := by
 refine aR 47 [.cell 2 25] Try.func21 rfl rfl rfl (by kernel_rfl) (by simp) ?_;refine cB ?_;unfold cZ at hm;refine ai [] ?_;refine av [5, 6, 7, 8, 9, 10, 11] fun k kp hk hp => ?_;refine go ?_;obtain ⟨y1, hc1, hm⟩ := bd hm
 refine bz (bf p1  _ hc1) [0] (by first | trivial | exact cz rfl) (by first | trivial | (intro _; first | trivial | simp [ar]) | simp [ar]) (by simp) (by simp) rfl rfl (by first | trivial | (simp [bX, eK, eB, eS, eL, ce, aJ, PV.under, CV.under, ay, OB.under, aA]; done)) (by first | trivial | (simp [bX, eK, eB, eS, eL, ce, aJ, PV.under, CV.under, ay, OB.under, aA]; done)) ?_ ?_
 rotate_left
 ·rintro p σ' hpp hpl
  rcases y1 with y2 | y3
  ·exact False.elim hpp
  simp only [Sum.elim_inl, Sum.elim_inr] at hm hpp;subst hpp;refine hp _ _ _ ?_;obtain rfl := sI hm;exact rfl
 rintro p σ' hq2 _
 rcases y1 with y4 | y5
 ·skip;simp only [Sum.elim_inl, Sum.elim_inr] at hm hq2
  obtain ⟨rfl, rfl⟩ := hq2;refine aa ?_;refine go ?_;obtain ⟨y6, hc3, hm⟩ := bd hm
  refine bz (bf (aD.mk p1.b y4.2)  _ hc3) [0] (by first | trivial | exact cz rfl) (by first | trivial | (intro _; first | trivial | simp [ar]) | simp [ar]) (by simp) (by simp) rfl rfl (by first | trivial | (simp [bX, eK, eB, eS, eL, ce, aJ, PV.under, CV.under, ay, OB.under, aA]; done)) (by first | trivial | (simp [bX, eK, eB, eS, eL, ce, aJ, PV.under, CV.under, ay, OB.under, aA]; done)) ?_ ?_
  rotate_left
  ·rintro p σ' hpp hpl
   rcases y6 with y7 | y8
   ·exact False.elim hpp
   simp only [Sum.elim_inl, Sum.elim_inr] at hm hpp;subst hpp;refine hp _ _ _ ?_;obtain rfl := sI hm;exact rfl
  rintro p σ' hq4 _
  rcases y6 with y9 | y10
  ·skip;simp only [Sum.elim_inl, Sum.elim_inr] at hm hq4
   obtain ⟨rfl, rfl⟩ := hq4;refine aa ?_;refine go ?_;obtain ⟨y11, hc5, hm⟩ := bd hm
   refine bz (bf (aD.mk p1.b y9.2)  _ hc5) [0] (by first | trivial | exact cz rfl) (by first | trivial | (intro _; first | trivial | simp [ar]) | simp [ar]) (by simp) (by simp) rfl rfl (by first | trivial | (simp [bX, eK, eB, eS, eL, ce, aJ, PV.under, CV.under, ay, OB.under, aA]; done)) (by first | trivial | (simp [bX, eK, eB, eS, eL, ce, aJ, PV.under, CV.under, ay, OB.under, aA]; done)) ?_ ?_
   rotate_left
   ·rintro p σ' hpp hpl
    rcases y11 with y12 | y13
    ·exact False.elim hpp
    simp only [Sum.elim_inl, Sum.elim_inr] at hm hpp;subst hpp;refine hp _ _ _ ?_;obtain rfl := sI hm;exact rfl
   rintro p σ' hq6 _
   rcases y11 with y14 | y15
   ·skip;simp only [Sum.elim_inl, Sum.elim_inr] at hm hq6
    obtain ⟨rfl, rfl⟩ := hq6;refine aa ?_;refine go ?_;refine hk _ _ ?_;clear hk hp k kp;refine av [12, 13, 14, 15, 16, 17, 18, 19, 20] fun k kp hk hp => ?_;refine go ?_;obtain ⟨y16, hc7, hm⟩ := bd hm
    refine bz (fJ (aD.mk p1.b y14.2)  _ hc7) [0] (by first | trivial | exact cz rfl) (by first | trivial | (intro _; first | trivial | simp [ar]) | simp [ar]) (by simp) (by simp) rfl rfl (by first | trivial | (simp [bX, eK, eB, eS, eL, ce, aJ, PV.under, CV.under, ay, OB.under, aA]; done)) (by first | trivial | (simp [bX, eK, eB, eS, eL, ce, aJ, PV.under, CV.under, ay, OB.under, aA]; done)) ?_ ?_
    rotate_left
    ·rintro p σ' hpp hpl
     rcases y16 with y17 | y18
     ·exact False.elim hpp
     simp only [Sum.elim_inl, Sum.elim_inr] at hm hpp;subst hpp;refine hp _ _ _ ?_;obtain rfl := sI hm;exact rfl
    rintro p σ' hq8 _
    rcases y16 with y19 | y20
    ·skip;simp only [Sum.elim_inl, Sum.elim_inr] at hm hq8
     obtain ⟨rfl, rfl⟩ := hq8;refine aa ?_;refine go ?_;obtain ⟨y21, hc9, hm⟩ := bd hm
     refine bz (fJ (aD.mk p1.b y19.2)  _ hc9) [0] (by first | trivial | exact cz rfl) (by first | trivial | (intro _; first | trivial | simp [ar]) | simp [ar]) (by simp) (by simp) rfl rfl (by first | trivial | (simp [bX, eK, eB, eS, eL, ce, aJ, PV.under, CV.under, ay, OB.under, aA]; done)) (by first | trivial | (simp [bX, eK, eB, eS, eL, ce, aJ, PV.under, CV.under, ay, OB.under, aA]; done)) ?_ ?_
     rotate_left
     ·rintro p σ' hpp hpl
      rcases y21 with y22 | y23
      ·exact False.elim hpp
      simp only [Sum.elim_inl, Sum.elim_inr] at hm hpp;subst hpp;refine hp _ _ _ ?_;obtain rfl := sI hm;exact rfl
     rintro p σ' hq10 _
     rcases y21 with y24 | y25
     ·skip;simp only [Sum.elim_inl, Sum.elim_inr] at hm hq10
      obtain ⟨rfl, rfl⟩ := hq10;refine aa ?_;refine go ?_;obtain ⟨y26, hc11, hm⟩ := bd hm
      refine bz (fJ (aD.mk p1.b y24.2)  _ hc11) [0] (by first | trivial | exact cz rfl) (by first | trivial | (intro _; first | trivial | simp [ar]) | simp [ar]) (by simp) (by simp) rfl rfl (by first | trivial | (simp [bX, eK, eB, eS, eL, ce, aJ, PV.under, CV.under, ay, OB.under, aA]; done)) (by first | trivial | (simp [bX, eK, eB, eS, eL, ce, aJ, PV.under, CV.under, ay, OB.under, aA]; done)) ?_ ?_
      rotate_left
      ·rintro p σ' hpp hpl
       rcases y26 with y27 | y28
       ·exact False.elim hpp
       simp only [Sum.elim_inl, Sum.elim_inr] at hm hpp;subst hpp;refine hp _ _ _ ?_;obtain rfl := sI hm;exact rfl
      rintro p σ' hq12 _
      rcases y26 with y29 | y30
      ·skip;simp only [Sum.elim_inl, Sum.elim_inr] at hm hq12
       obtain ⟨rfl, rfl⟩ := hq12;refine aa ?_;refine go ?_;refine hk _ _ ?_;clear hk hp k kp;refine lK (mu 2 6 6 50 (by decide) rfl rfl) ?_;refine aT (S := (Int × (List ax))) (V := Nat) [0, 4, 21, 22, 23, 24, 25, 26, 27, 28, 29, 30, 31, 32, 33, 34, 35, 36, 37, 38, 39, 40, 41, 42, 43, 44, 45] (fun (x33, l34) v35 => []) (fun (x33, l34) v35 => [.box [.tree 1 (p1.b.map (eK .u8)), .int .i64 x33], .box [.int .i64 0, .int .i64 0, .int .i64 0, .nils, .nils, .nils, .nils], .box [.int .i64 y4.1, .int .i64 y9.1, .int .i64 y14.1, .tree 1 (y19.1.map (eK .i64)), .tree 1 (y24.1.map (eK .i64)), .tree 1 (y29.1.map (eK .i64)), .osl 3 v35 0 l34.length], .arr 6 v35 50 (l34.map ax.enc)]) (fun (x33, l34) => cT y4 y9 y14 y19 y24 y29 x33 l34 = some r) ?_ ?_
       ·skip;refine av [21] fun k kp hk hp => ?_
        refine go ?_;obtain ⟨y36, hc13, hm⟩ := bd hm
        refine bz (gL 6 (aD.mk p1.b y29.2)  _ hc13) [0] (by first | trivial | exact cz rfl) (by first | trivial | (intro _; first | trivial | simp [ar]) | simp [ar]) (by simp) (by simp) rfl rfl (by first | trivial | (simp [bX, eK, eB, eS, eL, ce, aJ, PV.under, CV.under, ay, OB.under, aA]; done)) (by first | trivial | (simp [bX, eK, eB, eS, eL, ce, aJ, PV.under, CV.under, ay, OB.under, aA]; done)) ?_ ?_
        rotate_left
        ·rintro p σ' hpp hpl
         rcases y36 with y37 | y38
         ·exact False.elim hpp
         simp only [Sum.elim_inl, Sum.elim_inr] at hm hpp;subst hpp;refine hp _ _ _ ?_;refine dD ?_;obtain rfl := sI hm;exact rfl
        rintro p σ' hq14 _
        rcases y36 with y39 | y40
        ·skip;simp only [Sum.elim_inl, Sum.elim_inr] at hm hq14
         obtain ⟨rfl, rfl⟩ := hq14;refine aa ?_;refine go ?_;refine hk _ _ ?_;clear hk hp k kp;refine aw ?_;obtain ⟨o1, hl1, hm1⟩ := bd hm;refine bl (S := (Int × (List ax) × Int)) (V := Nat) (O := (Int × (List ax)) ⊕ ((aj × Int) ⊕ (Int × Int))) [4, 23, 24, 25, 26, 27, 28, 29, 30, 31, 32, 33, 34, 35, 36, 37, 38, 39, 40, 41, 42, 43, 44, 45] (fun (x55, l56, x58) v57 => [(23, .c (.int .i64 x58))]) (fun (x55, l56, x58) v57 => [.box [.tree 1 (p1.b.map (eK .u8)), .int .i64 x55], .box [.int .i64 0, .int .i64 0, .int .i64 0, .nils, .nils, .nils, .nils], .box [.int .i64 y4.1, .int .i64 y9.1, .int .i64 y14.1, .tree 1 (y19.1.map (eK .i64)), .tree 1 (y24.1.map (eK .i64)), .tree 1 (y29.1.map (eK .i64)), .osl 3 v57 0 l56.length], .arr 6 v57 50 (l56.map ax.enc)]) _ _ 0 hl1 ?_ ?_
         ·exact ls
         ·rintro ⟨x55, l56, x58⟩ v57 r1 hm hr1;replace hm : bm p1 y39 x55 l56 x58 = some r1 := hm;refine aP ?_;unfold bm at hm;refine ai [] ?_;refine ap fun k1 hk1 => ?_
          by_cases h15 : x58 < y39.1
          ·rw [iP h15] at hm;refine ab rfl (dT h15) ?_;refine aq ?_;refine ak (hk1 _ _ ?_);refine ap fun k2 hk2 => ?_;refine aw ?_;refine av [24, 25, 26, 27, 28, 29, 30, 31, 32, 33, 34, 35] fun k kp hk hp => ?_;refine go ?_;obtain ⟨y59, hc16, hm⟩ := bd hm
           refine bz (bf (aD.mk p1.b x55)  _ hc16) [0] (by first | trivial | exact cz rfl) (by first | trivial | (intro _; first | trivial | simp [ar]) | simp [ar]) (by simp) (by simp) rfl rfl (by first | trivial | (simp [bX, eK, eB, eS, eL, ce, aJ, PV.under, CV.under, ay, OB.under, aA]; done)) (by first | trivial | (simp [bX, eK, eB, eS, eL, ce, aJ, PV.under, CV.under, ay, OB.under, aA]; done)) ?_ ?_
           rotate_left
           ·rintro p σ' hpp hpl
            rcases y59 with y60 | y61
            ·exact False.elim hpp
            simp only [Sum.elim_inl, Sum.elim_inr] at hm hpp;subst hpp;have ho18 := aC hm hr1;subst ho18;replace hm : some (.inr (y61.1, y61.2)) = some r := hm1;refine hp _ _ _ ?_;refine b9 ?_;refine fq ?_;refine fA ?_;refine b9 ?_;refine dD ?_;obtain rfl := sI hm;exact rfl
           rintro p σ' hq17 _
           rcases y59 with y62 | y63
           ·skip;simp only [Sum.elim_inl, Sum.elim_inr] at hm hq17
            obtain ⟨rfl, rfl⟩ := hq17;refine aa ?_;refine go ?_;obtain ⟨y64, hc19, hm⟩ := bd hm
            refine bz (bf (aD.mk p1.b y62.2)  _ hc19) [0] (by first | trivial | exact cz rfl) (by first | trivial | (intro _; first | trivial | simp [ar]) | simp [ar]) (by simp) (by simp) rfl rfl (by first | trivial | (simp [bX, eK, eB, eS, eL, ce, aJ, PV.under, CV.under, ay, OB.under, aA]; done)) (by first | trivial | (simp [bX, eK, eB, eS, eL, ce, aJ, PV.under, CV.under, ay, OB.under, aA]; done)) ?_ ?_
            rotate_left
            ·rintro p σ' hpp hpl
             rcases y64 with y65 | y66
             ·exact False.elim hpp
             simp only [Sum.elim_inl, Sum.elim_inr] at hm hpp;subst hpp;have ho21 := aC hm hr1;subst ho21;replace hm : some (.inr (y66.1, y66.2)) = some r := hm1;refine hp _ _ _ ?_;refine b9 ?_;refine fq ?_;refine fA ?_;refine b9 ?_;refine dD ?_;obtain rfl := sI hm;exact rfl
            rintro p σ' hq20 _
            rcases y64 with y67 | y68
            ·skip;simp only [Sum.elim_inl, Sum.elim_inr] at hm hq20
             obtain ⟨rfl, rfl⟩ := hq20;refine aa ?_;refine go ?_;obtain ⟨y69, hc22, hm⟩ := bd hm
             refine bz (bf (aD.mk p1.b y67.2)  _ hc22) [0] (by first | trivial | exact cz rfl) (by first | trivial | (intro _; first | trivial | simp [ar]) | simp [ar]) (by simp) (by simp) rfl rfl (by first | trivial | (simp [bX, eK, eB, eS, eL, ce, aJ, PV.under, CV.under, ay, OB.under, aA]; done)) (by first | trivial | (simp [bX, eK, eB, eS, eL, ce, aJ, PV.under, CV.under, ay, OB.under, aA]; done)) ?_ ?_
             rotate_left
             ·rintro p σ' hpp hpl
              rcases y69 with y70 | y71
              ·exact False.elim hpp
              simp only [Sum.elim_inl, Sum.elim_inr] at hm hpp;subst hpp;have ho24 := aC hm hr1;subst ho24;replace hm : some (.inr (y71.1, y71.2)) = some r := hm1;refine hp _ _ _ ?_;refine b9 ?_;refine fq ?_;refine fA ?_;refine b9 ?_;refine dD ?_;obtain rfl := sI hm;exact rfl
             rintro p σ' hq23 _
             rcases y69 with y72 | y73
             ·skip;simp only [Sum.elim_inl, Sum.elim_inr] at hm hq23
              obtain ⟨rfl, rfl⟩ := hq23;refine aa ?_;refine go ?_;obtain ⟨y74, hc25, hm⟩ := bd hm
              refine bz (bf (aD.mk p1.b y72.2)  _ hc25) [0] (by first | trivial | exact cz rfl) (by first | trivial | (intro _; first | trivial | simp [ar]) | simp [ar]) (by simp) (by simp) rfl rfl (by first | trivial | (simp [bX, eK, eB, eS, eL, ce, aJ, PV.under, CV.under, ay, OB.under, aA]; done)) (by first | trivial | (simp [bX, eK, eB, eS, eL, ce, aJ, PV.under, CV.under, ay, OB.under, aA]; done)) ?_ ?_
              rotate_left
              ·rintro p σ' hpp hpl
               rcases y74 with y75 | y76
               ·exact False.elim hpp
               simp only [Sum.elim_inl, Sum.elim_inr] at hm hpp;subst hpp;have ho27 := aC hm hr1;subst ho27;replace hm : some (.inr (y76.1, y76.2)) = some r := hm1;refine hp _ _ _ ?_;refine b9 ?_;refine fq ?_;refine fA ?_;refine b9 ?_;refine dD ?_;obtain rfl := sI hm;exact rfl
              rintro p σ' hq26 _
              rcases y74 with y77 | y78
              ·skip;simp only [Sum.elim_inl, Sum.elim_inr] at hm hq26
               obtain ⟨rfl, rfl⟩ := hq26;refine aa ?_;refine go ?_;obtain ⟨y79, hc28, hm⟩ := bd hm
               refine bz (bf (aD.mk p1.b y77.2)  _ hc28) [0] (by first | trivial | exact cz rfl) (by first | trivial | (intro _; first | trivial | simp [ar]) | simp [ar]) (by simp) (by simp) rfl rfl (by first | trivial | (simp [bX, eK, eB, eS, eL, ce, aJ, PV.under, CV.under, ay, OB.under, aA]; done)) (by first | trivial | (simp [bX, eK, eB, eS, eL, ce, aJ, PV.under, CV.under, ay, OB.under, aA]; done)) ?_ ?_
               rotate_left
               ·rintro p σ' hpp hpl
                rcases y79 with y80 | y81
                ·exact False.elim hpp
                simp only [Sum.elim_inl, Sum.elim_inr] at hm hpp;subst hpp;have ho30 := aC hm hr1;subst ho30;replace hm : some (.inr (y81.1, y81.2)) = some r := hm1;refine hp _ _ _ ?_;refine b9 ?_;refine fq ?_;refine fA ?_;refine b9 ?_;refine dD ?_;obtain rfl := sI hm;exact rfl
               rintro p σ' hq29 _
               rcases y79 with y82 | y83
               ·skip;simp only [Sum.elim_inl, Sum.elim_inr] at hm hq29
                obtain ⟨rfl, rfl⟩ := hq29;refine aa ?_;refine go ?_;refine hk _ _ ?_;clear hk hp k kp;refine av [36, 37, 38] fun k kp hk hp => ?_;refine go ?_;obtain ⟨y84, hc31, hm⟩ := bd hm
                refine bz (bf (aD.mk p1.b y82.2)  _ hc31) [0] (by first | trivial | exact cz rfl) (by first | trivial | (intro _; first | trivial | simp [ar]) | simp [ar]) (by simp) (by simp) rfl rfl (by first | trivial | (simp [bX, eK, eB, eS, eL, ce, aJ, PV.under, CV.under, ay, OB.under, aA]; done)) (by first | trivial | (simp [bX, eK, eB, eS, eL, ce, aJ, PV.under, CV.under, ay, OB.under, aA]; done)) ?_ ?_
                rotate_left
                ·rintro p σ' hpp hpl
                 rcases y84 with y85 | y86
                 ·exact False.elim hpp
                 simp only [Sum.elim_inl, Sum.elim_inr] at hm hpp;subst hpp;have ho33 := aC hm hr1;subst ho33;replace hm : some (.inr (y86.1, y86.2)) = some r := hm1;refine hp _ _ _ ?_;refine b9 ?_;refine fq ?_;refine fA ?_;refine b9 ?_;refine dD ?_;obtain rfl := sI hm;exact rfl
                rintro p σ' hq32 _
                rcases y84 with y87 | y88
                ·skip;simp only [Sum.elim_inl, Sum.elim_inr] at hm hq32
                 obtain ⟨rfl, rfl⟩ := hq32;refine aa ?_;refine go ?_;refine hk _ _ ?_;clear hk hp k kp;obtain ⟨⟨hg34ax, hg34ay⟩, hm⟩ := gd hm;refine cE ?_;refine aH ?_;refine ak (hk2 _ _ ?_);refine cE ?_;refine aO (y87.2, (l56 ++ (lit ([(ax.mk y62.1 y67.1 y72.1 y77.1 y82.1 y87.1)] : List ax))), (IntKind.wrap .i64 (x58 + 1))) (v57 + 1) hm ?_;exact ls
                ·skip;exact False.elim hq32
               ·skip;exact False.elim hq29
              ·skip;exact False.elim hq26
             ·skip;exact False.elim hq23
            ·skip;exact False.elim hq20
           ·skip;exact False.elim hq17
          ·rw [iN h15] at hm;refine ae rfl (dF h15) ?_;refine bw ?_;have ho35 := aC hm hr1;subst ho35;replace hm : cT y4 y9 y14 y19 y24 y29 x55 l56 = some r := hm1;refine aX (aL (az ?_));refine au (x55, l56) v57 hm ?_;exact ls
        ·skip;exact False.elim hq14
       ·rintro ⟨x33, l34⟩ v35 hm;replace hm : cT y4 y9 y14 y19 y24 y29 x33 l34 = some r := hm;refine aP ?_;unfold cT at hm;refine ai [3, 46] ?_;refine lK (aZ 3 rfl) ?_;refine an ?_
        cases hm
        exact kr 1
      ·skip;exact False.elim hq12
     ·skip;exact False.elim hq10
    ·skip;exact False.elim hq8
   ·skip;exact False.elim hq6
  ·skip;exact False.elim hq4
 ·skip;exact False.elim hq2
theorem lL (p1 : List Int) (r : (aj × af)) (hm : eU p1 = some r) : cR Try.prog 10 [.c (.tree 1 (p1.map (eK .u8)))] (.t [.a [.int .i64 ((r.1).cells), .int .i64 ((r.1).regs), .int .i64 ((r.1).cost), .tree 1 (((r.1).put).map (eK .i64)), .tree 1 (((r.1).bools).map (eK .i64)), .tree 1 (((r.1).get).map (eK .i64)), .tree 6 (((r.1).code).map ax.enc)], .a [.int .i64 ((r.2).code), .int .i64 ((r.2).at_)]]) := by
 refine gv.drop (pD (hf := Try.func10) 91 [.cell 2 25, .cell 3 31] 2 3 8 _ rfl rfl rfl (by kernel_rfl) (by simp) rfl rfl rfl rfl rfl rfl rfl rfl (⟨⟨_, _, _, _, _, Try.func20, rfl, rfl, rfl, by kernel_rfl, rfl, rfl, rfl, rfl, rfl, rfl, rfl, rfl⟩, by decide, by decide, by decide, by decide, by decide⟩ : Clo Try.prog 20 _ 18 5 2) ?_ ?_)
 ·skip;intro σ0
  refine gr (by simp only [Env.ofList, bE, Nat.reduceDiv, Nat.reduceMod, Nat.reduceLT, Nat.reduceLeDiff, Nat.reduceAdd, Nat.reduceSub, Nat.reduceMul, Nat.reduceEqDiff, Nat.reduceBEq, Nat.reduceBNe, Nat.reduceGT, Int.reduceToNat]; rfl) rfl ?_;refine dj [5, 6] fun k kp hk hp => ?_;refine am 1 ?_;refine go ?_
  refine RS (sx rfl (by first | exact .inl rfl | exact .inr rfl) (by first | rfl | (simp only [bR, bT, tab, bX, reduceIte, ↓reduceIte, reduceCtorEq, Int.reduceToNat, Nat.reduceDiv, Nat.reduceMod, Nat.reduceLT, Nat.reduceLeDiff, Nat.reduceAdd, Nat.reduceSub, Nat.reduceMul, Nat.reduceEqDiff, Nat.reduceBEq, Nat.reduceBNe, Nat.reduceGT]; done)) (by first | kernel_rfl | exact of_decide_eq_true (by kernel_rfl))) ?_
  simp only [bR, bT, tab, bX, reduceIte, ↓reduceIte, reduceCtorEq, Int.reduceToNat, Nat.reduceDiv, Nat.reduceMod, Nat.reduceLT, Nat.reduceLeDiff, Nat.reduceAdd, Nat.reduceSub, Nat.reduceMul, Nat.reduceEqDiff, Nat.reduceBEq, Nat.reduceBNe, Nat.reduceGT];refine aa ?_;refine go ?_;refine hk _ _ ?_;clear hk hp k kp;refine ae rfl rfl ?_;refine aq ?_;exact sU rfl
 refine cB ?_;unfold eU at hm;refine cE ?_
 refine ⟨0, 1, rfl, rfl, of_decide_eq_true rfl, of_decide_eq_true rfl, of_decide_eq_true rfl, ?_⟩
 refine sT ?_;refine ai [9, 10, 11] ?_;refine ap fun k1 hk1 => ?_;refine ai [12] ?_
 by_cases h1 : (IntKind.wrap .i64 ((p1.length : Int) - 4)) < 3
 ·rw [iP h1] at hm;refine ab rfl (dT h1) ?_;refine ai [0, 4, 13, 14, 15, 16, 17] ?_
  refine dI (dm 0 [.int .i64 0, .int .i64 0, .int .i64 0, .tree 1 ([].map (eK .i64)), .tree 1 ([].map (eK .i64)), .tree 1 ([].map (eK .i64)), .tree 6 ([].map ax.enc)] rfl (by and_intros <;> trivial)) ?_
  refine gr rfl (by simp only [bZ, bL, reduceIte, ↓reduceIte, reduceCtorEq, Int.reduceToNat, Nat.reduceDiv, Nat.reduceMod, Nat.reduceLT, Nat.reduceLeDiff, Nat.reduceAdd, Nat.reduceSub, Nat.reduceMul, Nat.reduceEqDiff, Nat.reduceBEq, Nat.reduceBNe, Nat.reduceGT]; rfl) ?_;refine an ?_;refine ah ?_;refine ln ?_
  cases hm
  exact kr 0
 ·rw [iN h1] at hm;refine ae rfl (dF h1) ?_;refine aq ?_;refine ak (hk1 _ _ ?_);refine ap fun k2 hk2 => ?_;obtain ⟨hg2a, hm⟩ := gd hm;refine dj [13, 18, 19, 20] fun k kp hk hp => ?_;refine am 2 ?_;refine go ?_
  refine RS (lS rfl (by first | kernel_rfl | exact of_decide_eq_true (by kernel_rfl)) (by first | kernel_rfl | exact of_decide_eq_true (by kernel_rfl)) (by first | kernel_rfl | exact of_decide_eq_true (by kernel_rfl)) (j6 (by first | rfl | (simp only [bR, bT, tab, bX, reduceIte, ↓reduceIte, reduceCtorEq, Int.reduceToNat, Nat.reduceDiv, Nat.reduceMod, Nat.reduceLT, Nat.reduceLeDiff, Nat.reduceAdd, Nat.reduceSub, Nat.reduceMul, Nat.reduceEqDiff, Nat.reduceBEq, Nat.reduceBNe, Nat.reduceGT]; done)))) ?_
  simp only [bR, bT, tab, bX, reduceIte, ↓reduceIte, reduceCtorEq, Int.reduceToNat, Nat.reduceDiv, Nat.reduceMod, Nat.reduceLT, Nat.reduceLeDiff, Nat.reduceAdd, Nat.reduceSub, Nat.reduceMul, Nat.reduceEqDiff, Nat.reduceBEq, Nat.reduceBNe, Nat.reduceGT];refine aa ?_;refine go ?_;refine hk _ _ ?_;clear hk hp k kp
  by_cases h3 : (iA (p1.take 3)) = ([76, 87, 1] : List UInt8)
  ·rw [iP h3] at hm;refine ae rfl (by rw [show ((iA (p1.take 3)) == ([76, 87, 1] : List UInt8)) = true from (eQ h3)]; rfl) ?_;refine aq ?_;refine ak (hk2 _ _ ?_);obtain ⟨⟨hg4a, hg4b, hg4c, hg4d⟩, hm⟩ := gd hm;refine oI (a2 (em (eK .u8) p1 ((IntKind.wrap .i64 ((p1.length : Int) - 4)).toNat)) (a2 (em (eK .u8) p1 ((IntKind.wrap .i64 ((IntKind.wrap .i64 ((p1.length : Int) - 4)) + 1)).toNat)) (a2 (em (eK .u8) p1 ((IntKind.wrap .i64 ((IntKind.wrap .i64 ((p1.length : Int) - 4)) + 2)).toNat)) (em (eK .u8) p1 ((IntKind.wrap .i64 ((IntKind.wrap .i64 ((p1.length : Int) - 4)) + 3)).toNat))))) [21, 24, 25, 26, 27, 28, 29, 30, 31, 32, 33, 34, 35, 36, 37, 38, 39, 40, 41, 42, 43, 44, 45, 46, 47, 48, 49, 50, 51, 52] [0, 0, 3, 7, 15, 0, 0, 64, 224, 480, 992, 2016, 4095, 0, 0, 16384, 57344, 122880, 253952, 516096, 1048575, 0, 0, 4194304, 14680064, 31457280, 65011712, 132120576, 268435455, 536870911] [false, false, false, false, false, false, false, false, false, false, false, false, false, false, false, false, false, false, false, false, false, false, false, false, false, false, false, false, true, true] ?_;refine ap fun k3 hk3 => ?_;obtain ⟨hg5a, hm⟩ := gd hm;refine av [5, 53, 54, 55, 56, 57] fun k kp hk hp => ?_;refine go ?_;obtain ⟨y1, hc6, hm⟩ := bd hm;refine RP (fun _ => iE (p1.take ((IntKind.wrap .i64 ((p1.length : Int) - 4)).toNat)) _ hc6) ?_;refine aa ?_;refine go ?_;refine hk _ _ ?_;clear hk hp k kp
   by_cases h7 : ¬ y1 = (bits .or .u32 (bits .or .u32 (bits .or .u32 (IntKind.wrap .u32 (p1.getD ((IntKind.wrap .i64 ((p1.length : Int) - 4)).toNat) default)) (IntKind.wrap .u32 ((IntKind.wrap .u32 (p1.getD ((IntKind.wrap .i64 ((IntKind.wrap .i64 ((p1.length : Int) - 4)) + 1)).toNat) default)) * 2 ^ (min 8 (IntKind.bits .u32))))) (IntKind.wrap .u32 ((IntKind.wrap .u32 (p1.getD ((IntKind.wrap .i64 ((IntKind.wrap .i64 ((p1.length : Int) - 4)) + 2)).toNat) default)) * 2 ^ (min 16 (IntKind.bits .u32))))) (IntKind.wrap .u32 ((IntKind.wrap .u32 (p1.getD ((IntKind.wrap .i64 ((IntKind.wrap .i64 ((p1.length : Int) - 4)) + 3)).toNat) default)) * 2 ^ (min 24 (IntKind.bits .u32)))))
   ·rw [iP h7] at hm;refine ab rfl (bne_iff_ne.2 h7) ?_;refine ai [0, 4, 58, 59, 60, 61] ?_
    refine dI (dm 0 [.int .i64 0, .int .i64 0, .int .i64 0, .tree 1 ([].map (eK .i64)), .tree 1 ([].map (eK .i64)), .tree 1 ([].map (eK .i64)), .tree 6 ([].map ax.enc)] rfl (by and_intros <;> trivial)) ?_
    refine gr rfl (by simp only [bZ, bL, reduceIte, ↓reduceIte, reduceCtorEq, Int.reduceToNat, Nat.reduceDiv, Nat.reduceMod, Nat.reduceLT, Nat.reduceLeDiff, Nat.reduceAdd, Nat.reduceSub, Nat.reduceMul, Nat.reduceEqDiff, Nat.reduceBEq, Nat.reduceBNe, Nat.reduceGT]; rfl) ?_;refine an ?_;refine ah ?_;refine ln ?_
    cases hm
    exact kr 0
   ·rw [iN h7] at hm;refine ae rfl (bne_eq_false_iff_eq.2 (Decidable.not_not.1 h7)) ?_;refine aq ?_;refine ak (hk3 _ _ ?_);refine ai [0, 58, 62, 63, 64, 65, 66] ?_;refine av [67, 68] fun k kp hk hp => ?_;refine go ?_;obtain ⟨y2, hc8, hm⟩ := bd hm
    refine bz (jD (aD.mk (p1.take ((IntKind.wrap .i64 ((p1.length : Int) - 4)).toNat)) 3)  _ hc8) [2] (by first | trivial | exact cz rfl) (by first | trivial | (intro _; first | trivial | simp [ar]) | simp [ar]) (by simp) (by simp) rfl rfl (by first | trivial | (simp [bX, eK, eB, eS, eL, ce, aJ, PV.under, CV.under, ay, OB.under, aA]; done)) (by first | trivial | (simp [bX, eK, eB, eS, eL, ce, aJ, PV.under, CV.under, ay, OB.under, aA]; done)) ?_ ?_
    rotate_left
    ·rintro p σ' hpp hpl
     rcases σ' with _ | ⟨t0_, ts0_⟩
     ·simp at hpl
     rcases y2 with y3 | y4
     ·exact False.elim hpp
     simp only [Sum.elim_inl, Sum.elim_inr] at hm hpp;subst hpp;refine hp _ _ _ ?_
     refine ⟨[(2, .c (.optr 0 0)), (3, .c (.optr 1 0))], [.box [.int .i64 0, .int .i64 0, .int .i64 0, .nils, .nils, .nils, .nils], .box [.int .i64 0, .int .i64 0]], 51, [(.i64, y4.1), (.i64, y4.2)], rfl, ⟨by first | trivial | (simp [jx]; done) | (and_intros <;> rfl), ⟨_, by first | rfl | (simp only [List.map_cons, b8, List.set_cons_zero, List.set_cons_succ, List.cons_append, List.nil_append]; rfl)⟩, of_decide_eq_true rfl, by first | trivial | (simp [bX, eK, eB, eS, eL, ce, aJ, PV.under, CV.under, ay, OB.under, aA]; done), by first | trivial | (simp [jj, PV.under, CV.under]; done)⟩, ?_⟩
     refine gr (by simp only [Env.ofList, bE, Nat.reduceDiv, Nat.reduceMod, Nat.reduceLT, Nat.reduceLeDiff, Nat.reduceAdd, Nat.reduceSub, Nat.reduceMul, Nat.reduceEqDiff, Nat.reduceBEq, Nat.reduceBNe, Nat.reduceGT, Int.reduceToNat]; rfl) rfl ?_;refine dj [5, 6] fun k kp hk hp => ?_;refine am 1 ?_;refine go ?_
     refine RS (qF rfl (by first | exact .inl rfl | exact .inr rfl) (by first | rfl | (simp only [bR, bT, tab, bX, reduceIte, ↓reduceIte, reduceCtorEq, Int.reduceToNat, Nat.reduceDiv, Nat.reduceMod, Nat.reduceLT, Nat.reduceLeDiff, Nat.reduceAdd, Nat.reduceSub, Nat.reduceMul, Nat.reduceEqDiff, Nat.reduceBEq, Nat.reduceBNe, Nat.reduceGT]; done)) (by first | kernel_rfl | exact of_decide_eq_true (by kernel_rfl))) ?_
     simp only [bR, bT, tab, bX, reduceIte, ↓reduceIte, reduceCtorEq, Int.reduceToNat, Nat.reduceDiv, Nat.reduceMod, Nat.reduceLT, Nat.reduceLeDiff, Nat.reduceAdd, Nat.reduceSub, Nat.reduceMul, Nat.reduceEqDiff, Nat.reduceBEq, Nat.reduceBNe, Nat.reduceGT];refine aa ?_;refine go ?_;refine hk _ _ ?_;clear hk hp k kp;refine ab rfl rfl ?_;refine dj [7, 8, 9, 10, 11, 12] fun k kp hk hp => ?_;refine am 1 ?_;refine go ?_
     refine RS (pC (ns := [(.i64, y4.1), (.i64, y4.2)]) [.int .i64 y4.1, .int .i64 y4.2] rfl rfl (by first | rfl | (simp only [bR, bT, tab, bX, reduceIte, ↓reduceIte, reduceCtorEq, Int.reduceToNat, Nat.reduceDiv, Nat.reduceMod, Nat.reduceLT, Nat.reduceLeDiff, Nat.reduceAdd, Nat.reduceSub, Nat.reduceMul, Nat.reduceEqDiff, Nat.reduceBEq, Nat.reduceBNe, Nat.reduceGT]; done)) (by first | kernel_rfl | exact of_decide_eq_true (by kernel_rfl))) ?_
     simp only [bR, bT, tab, bX, reduceIte, ↓reduceIte, reduceCtorEq, Int.reduceToNat, Nat.reduceDiv, Nat.reduceMod, Nat.reduceLT, Nat.reduceLeDiff, Nat.reduceAdd, Nat.reduceSub, Nat.reduceMul, Nat.reduceEqDiff, Nat.reduceBEq, Nat.reduceBNe, Nat.reduceGT];refine aa ?_;refine go ?_;refine hk _ _ ?_;clear hk hp k kp;refine ap fun k504 hk504 => ?_;refine ai [4, 13] ?_;refine ae rfl rfl ?_;refine aq ?_;refine ak (hk504 _ _ ?_);refine tn (by kernel_rfl) [0] [0, 0, 1, 7] [false, false, false, true] [false, false, true, false] [[], [3], [], []] (by kernel_rfl) fun k hk => ?_;refine gp ?_;refine hk _ _ ?_;clear hk k
     refine uC (dm 0 [.int .i64 0, .int .i64 0, .int .i64 0, .tree 1 ([].map (eK .i64)), .tree 1 ([].map (eK .i64)), .tree 1 ([].map (eK .i64)), .tree 6 ([].map ax.enc)] rfl (by and_intros <;> trivial)) ?_
     refine gz ?_;refine sU (to (nn [] ?_));obtain rfl := sI hm
     simp only [Env.ofList, bF, bT, tab, bX, Sum.elim_inl, Sum.elim_inr, reduceIte, ↓reduceIte, reduceCtorEq, Int.reduceToNat, Nat.reduceDiv, Nat.reduceMod, Nat.reduceLT, Nat.reduceLeDiff, Nat.reduceAdd, Nat.reduceSub, Nat.reduceMul, Nat.reduceEqDiff, Nat.reduceBEq, Nat.reduceBNe, Nat.reduceGT] <;> first | done | rfl | (and_intros <;> first | rfl | omega | (simp; done))
    rintro p σ' hq9 _
    rcases y2 with y5 | y6
    ·skip;simp only [Sum.elim_inl, Sum.elim_inr] at hm hq9
     obtain ⟨rfl, rfl⟩ := hq9;refine aa ?_;refine go ?_;refine hk _ _ ?_;clear hk hp k kp;refine ap fun k505 hk505 => ?_;refine ai [69, 70, 71, 72, 73] ?_
     by_cases h510 : y5.2 < (IntKind.wrap .i64 ((p1.length : Int) - 4))
     ·rw [iP h510] at hm;refine ab rfl (dT h510) ?_;refine nY [4, 6, 74, 75, 76, 77, 78, 79, 80] (by kernel_rfl) [0] [0, 0, 2, 6, 14, 30, 1, 127] [false, false, false, false, false, false, false, true] [false, false, false, false, false, false, true, false] [[], [6], [76], [77], [78], [79], [], []] (by kernel_rfl) fun k hk => ?_;refine gp ?_;refine hk _ _ ?_;clear hk k
      refine dI (dm 0 [.int .i64 0, .int .i64 0, .int .i64 0, .tree 1 ([].map (eK .i64)), .tree 1 ([].map (eK .i64)), .tree 1 ([].map (eK .i64)), .tree 6 ([].map ax.enc)] rfl (by and_intros <;> trivial)) ?_
      refine gr rfl (by simp only [bZ, bL, reduceIte, ↓reduceIte, reduceCtorEq, Int.reduceToNat, Nat.reduceDiv, Nat.reduceMod, Nat.reduceLT, Nat.reduceLeDiff, Nat.reduceAdd, Nat.reduceSub, Nat.reduceMul, Nat.reduceEqDiff, Nat.reduceBEq, Nat.reduceBNe, Nat.reduceGT]; rfl) ?_;refine an ?_;refine ah ?_;refine ln ?_
      cases hm
      exact kr 0
     ·rw [iN h510] at hm;refine ae rfl (dF h510) ?_;refine aq ?_;refine ak (hk505 _ _ ?_);refine ap fun k506 hk506 => ?_;refine av [6, 74, 81, 82] fun k kp hk hp => ?_;refine go ?_;obtain ⟨y7, hc511, hm⟩ := bd hm;refine RP (fun _ => km (y5.1) _ hc511) ?_;refine aa ?_;refine go ?_;refine hk _ _ ?_;clear hk hp k kp;refine ai [7, 83, 84] ?_
      by_cases h512 : ¬ ((y7).code) = 0
      ·rw [iP h512] at hm;refine ab rfl (bne_iff_ne.2 h512) ?_;refine ai [4, 85, 86, 87, 88] ?_
       refine dI (dm 0 [.int .i64 0, .int .i64 0, .int .i64 0, .tree 1 ([].map (eK .i64)), .tree 1 ([].map (eK .i64)), .tree 1 ([].map (eK .i64)), .tree 6 ([].map ax.enc)] rfl (by and_intros <;> trivial)) ?_
       refine gr rfl (by simp only [bZ, bL, reduceIte, ↓reduceIte, reduceCtorEq, Int.reduceToNat, Nat.reduceDiv, Nat.reduceMod, Nat.reduceLT, Nat.reduceLeDiff, Nat.reduceAdd, Nat.reduceSub, Nat.reduceMul, Nat.reduceEqDiff, Nat.reduceBEq, Nat.reduceBNe, Nat.reduceGT]; rfl) ?_;refine an ?_;refine ah ?_;refine ln ?_
       cases hm
       exact kr 0
      ·rw [iN h512] at hm;refine ae rfl (bne_eq_false_iff_eq.2 (Decidable.not_not.1 h512)) ?_;refine aq ?_;refine ak (hk506 _ _ ?_);refine ai [4, 85, 89, 90] ?_;refine an ?_;refine ln ?_
       cases hm
       exact kr 0
    ·skip;exact False.elim hq9
  ·rw [iN h3] at hm;refine ab rfl (by rw [show ((iA (p1.take 3)) == ([76, 87, 1] : List UInt8)) = false from (nB h3)]; rfl) ?_;refine ai [0, 4, 21, 22, 23] ?_
   refine dI (dm 0 [.int .i64 0, .int .i64 0, .int .i64 0, .tree 1 ([].map (eK .i64)), .tree 1 ([].map (eK .i64)), .tree 1 ([].map (eK .i64)), .tree 6 ([].map ax.enc)] rfl (by and_intros <;> trivial)) ?_
   refine gr rfl (by simp only [bZ, bL, reduceIte, ↓reduceIte, reduceCtorEq, Int.reduceToNat, Nat.reduceDiv, Nat.reduceMod, Nat.reduceLT, Nat.reduceLeDiff, Nat.reduceAdd, Nat.reduceSub, Nat.reduceMul, Nat.reduceEqDiff, Nat.reduceBEq, Nat.reduceBNe, Nat.reduceGT]; rfl) ?_;refine an ?_;refine ah ?_;refine ln ?_
   cases hm
   exact kr 0
theorem cw (p1 : Int) (p2 : Int) (r : af) (hm : eA p1 p2 = some r) : cR Try.prog 22 [.c (.int .i64 p1), .c (.int .i64 p2)] (.a [.int .i64 ((r).code), .int .i64 ((r).at_)]) := by
 refine aR 8 [.cell 4 31] Try.func22 rfl rfl rfl (by kernel_rfl) (by simp) ?_;refine cB ?_;unfold eA at hm;refine ai [] ?_;refine ai [0, 1, 5, 6, 7] ?_;refine an ?_
 cases hm
 exact kr 0
theorem oQ (p1 : Int) (r : (Int × Int × Int)) (hm : jQ p1 = some r) : cR Try.prog 36 [.c (.int .i64 p1)] (.t [.c (.int .u8 r.1), .c (.int .u8 r.2.1), .c (.int .i64 r.2.2)]) := by
 refine aR 23 [.tmp 2, .tmp 3, .tmp 4] Try.func36 rfl rfl rfl (by kernel_rfl) (by simp) ?_;refine cB ?_;unfold jQ at hm;refine ai [2, 3, 4] ?_;refine ai [] ?_;refine ai [] ?_;refine ap fun k1 hk1 => ?_
 by_cases h1 : p1 < 1
 ·rw [iP h1] at hm;have h1b := dT h1;refine cS h1b [8, 9, 10, 11, 12] ?_;refine ab rfl rfl ?_;refine ai [0, 5, 6, 13] ?_;refine an ?_;refine ah ?_
  cases hm
  exact kr 0
 ·rw [iN h1] at hm;have h1b := dF h1;refine cS h1b [8, 9, 10, 11, 12] ?_
  by_cases h2 : p1 > 14
  ·rw [iP h2] at hm;refine ab rfl (dT h2) ?_;refine ai [0, 5, 6, 13] ?_;refine an ?_;refine ah ?_
   cases hm
   exact kr 0
  ·rw [iN h2] at hm;refine ae rfl (dF h2) ?_;refine aq ?_;refine ak (hk1 _ _ ?_);refine ai [13] ?_;refine aT (S := Int) (V := Unit) [7, 14, 15] (fun x1 _ => [(7, .c (.int .i64 x1))]) (fun x1 _ => []) (fun x1 => fF p1 x1 = some r) ?_ ?_
   ·skip;refine ai [14] ?_
    by_cases h4 : p1 ≥ 13
    ·rw [iP h4] at hm;refine ab rfl (dT h4) ?_;refine cE ?_;refine au 1 () hm ?_;exact ls
    ·rw [iN h4] at hm;refine ae rfl (dF h4) ?_;refine aq ?_;refine au 2 () hm ?_;exact ls
   ·rintro x1 _ hm;replace hm : fF p1 x1 = some r := hm;refine aP ?_;unfold fF at hm;obtain ⟨⟨hg3a, hg3b⟩, hm⟩ := gd hm;refine rz [0, 5, 6, 7, 16, 17, 18, 19, 20, 21, 22] [0, 0, 3, 0, 0, 24, 0, 7, 191, 511] [false, false, false, false, false, false, false, false, false, true] ?_;refine an ?_
    cases hm
    exact kr 0
theorem dL (p1 : aj) (p2 : List Int) (r : Bool) (hm : c9 p1 p2 = some r) : cR Try.prog 37 [.a [.int .i64 p1.cells, .int .i64 p1.regs, .int .i64 p1.cost, .tree 1 (p1.put.map (eK .i64)), .tree 1 (p1.bools.map (eK .i64)), .tree 1 (p1.get.map (eK .i64)), .tree 6 (p1.code.map ax.enc)], .c (.tree 1 (p2.map (eK .i64)))] (.c (.bool r)) := by
 refine aR 26 [.tmp 4] Try.func37 rfl rfl rfl (by kernel_rfl) (by simp) ?_;refine cB ?_;unfold c9 at hm;refine ai [0, 4] ?_;refine aT (S := Unit) (V := Unit) [1, 2, 4, 5, 6, 7, 8, 9, 10, 11, 12, 13, 14, 15, 16, 17, 18, 19, 20, 21, 22, 23, 24, 25] (fun _ _ => []) (fun _ _ => [.box [.int .i64 p1.cells, .int .i64 p1.regs, .int .i64 p1.cost, .tree 1 (p1.put.map (eK .i64)), .tree 1 (p1.bools.map (eK .i64)), .tree 1 (p1.get.map (eK .i64)), .tree 6 (p1.code.map ax.enc)]]) (fun _ => gc = some r) ?_ ?_
 ·skip;refine ai [] ?_
  refine aw ?_;obtain ⟨o1, hl1, hm1⟩ := bd hm;refine bl (S := Int) (V := Unit) (O := Unit ⊕ Bool) [4, 5, 6, 7, 8, 9, 10, 11, 12, 13, 14, 15, 16, 17, 18, 19, 20, 21, 22, 23, 24, 25] (fun x3 _ => [(5, .c (.int .i64 x3))]) (fun x3 _ => [.box [.int .i64 p1.cells, .int .i64 p1.regs, .int .i64 p1.cost, .tree 1 (p1.put.map (eK .i64)), .tree 1 (p1.bools.map (eK .i64)), .tree 1 (p1.get.map (eK .i64)), .tree 6 (p1.code.map ax.enc)]]) _ _ () hl1 ?_ ?_
  ·exact ls
  ·rintro x3 _ r1 hm hr1;replace hm : gf p1 p2 x3 = some r1 := hm;refine aP ?_;unfold gf at hm;refine ap fun k1 hk1 => ?_;refine ai [6, 7, 8] ?_
   by_cases h1 : x3 < (p2.length : Int)
   ·rw [iP h1] at hm;refine ab rfl (dT h1) ?_;refine aq ?_;refine ak (hk1 _ _ ?_);refine ap fun k2 hk2 => ?_;refine aw ?_;obtain ⟨hg2a, hm⟩ := gd hm;refine kS [9, 12, 13, 14, 15, 16, 17, 18, 19, 20, 21, 22, 23, 24] (by kernel_rfl) [0, 0, 3, 7, 15, 31, 63, 63, 255, 511, 63, 1087, 4095, 8191] [false, false, true, true, true, true, false, false, false, false, false, false, true, true] (by kernel_rfl) fun k hk => ?_;refine pB 6 rfl ?_;refine gax (em (eK .i64) p2 x3.toNat) ?_
    by_cases h3 : (p2.getD x3.toNat default) < 0
    ·rw [iP h3] at hm;have h3b := dT h3;refine jr ?_;refine gax h3b ?_;refine hk _ _ ?_;clear hk k;refine ab rfl rfl ?_;refine ai [1, 2, 5, 25] ?_;have ho4 := aC hm hr1;subst ho4;replace hm : some false = some r := hm1;refine an ?_;refine ag (ah (bi (ag (aS ?_))))
     cases hm
     exact kr 0
    ·rw [iN h3] at hm;have h3b := dF h3;refine jr ?_;refine gax (a2 (em (eK .i64) p2 x3.toNat) h3b) ?_;refine hk _ _ ?_;clear hk k
     by_cases h5 : (p2.getD x3.toNat default) ≥ p1.regs
     ·rw [iP h5] at hm;refine ab rfl (dT h5) ?_;refine ai [1, 2, 5, 25] ?_;have ho6 := aC hm hr1;subst ho6;replace hm : some false = some r := hm1;refine an ?_;refine ag (ah (bi (ag (aS ?_))))
      cases hm
      exact kr 0
     ·rw [iN h5] at hm;refine ae rfl (dF h5) ?_;refine aq ?_;refine aH ?_;refine ak (hk2 _ _ ?_);refine cE ?_;refine aO (IntKind.wrap .i64 (x3 + 1)) () hm ?_;exact ls
   ·rw [iN h1] at hm;refine ae rfl (dF h1) ?_;refine bw ?_;have ho7 := aC hm hr1;subst ho7;replace hm : gc = some r := hm1;refine aX (aL (az ?_));refine au () () hm ?_;exact ls
 ·rintro _ _ hm;replace hm : gc = some r := hm;refine aP ?_;unfold gc at hm;refine ai [] ?_;refine an ?_
  cases hm
  exact kr 0
theorem n7 (p1 : aj) (p2 : ax) (r : Bool) (hm : io p1 p2 = some r) : cR Try.prog 23 [.a [.int .i64 p1.cells, .int .i64 p1.regs, .int .i64 p1.cost, .tree 1 (p1.put.map (eK .i64)), .tree 1 (p1.bools.map (eK .i64)), .tree 1 (p1.get.map (eK .i64)), .tree 6 (p1.code.map ax.enc)], .a [.int .i64 p2.op, .int .i64 p2.k, .int .i64 p2.r_, .int .i64 p2.a, .int .i64 p2.b, .int .i64 p2.n]] (.c (.bool r)) := by
 refine aR 149 [.tmp 4] Try.func23 rfl rfl rfl (by kernel_rfl) (by simp) ?_;refine cB ?_;unfold io at hm;refine ai [0, 1, 4] ?_;refine av [5, 6, 8, 9, 10, 11, 12, 13, 14] fun k kp hk hp => ?_;refine go ?_;obtain ⟨y1, hc1, hm⟩ := bd hm;refine RP (fun _ => oQ p2.k _ hc1) ?_;refine aa ?_;refine go ?_;refine hk _ _ ?_;clear hk hp k kp;refine ap fun k1 hk1 => ?_;refine ai [15] ?_;refine aw ?_;refine ai [18] ?_
 by_cases h2 : p2.op = 1
 ·rw [iP h2] at hm;refine ab rfl (eQ h2) ?_;refine av [2, 3, 7, 16, 17, 19, 20, 21, 22, 23] fun k kp hk hp => ?_;refine go ?_;refine aK (aZ 2 rfl) ?_;refine gt ?_;obtain ⟨y2, hc3, hm⟩ := bd hm;refine RP (fun _ => dL p1 (lit ([p2.r_] : List Int)) _ hc3) ?_;refine aa ?_;refine go ?_;refine hk _ _ ?_;clear hk hp k kp;refine an ?_;refine ag (ah ?_)
  cases hm
  exact kr 0
 ·rw [iN h2] at hm;refine ae rfl (nB h2) ?_;refine aT (S := Bool) (V := Unit) [17, 24, 25, 26] (fun b3 _ => [(24, .c (.bool b3))]) (fun b3 _ => [.box [.int .i64 p1.cells, .int .i64 p1.regs, .int .i64 p1.cost, .tree 1 (p1.put.map (eK .i64)), .tree 1 (p1.bools.map (eK .i64)), .tree 1 (p1.get.map (eK .i64)), .tree 6 (p1.code.map ax.enc)], .box [.int .i64 p2.op, .int .i64 p2.k, .int .i64 p2.r_, .int .i64 p2.a, .int .i64 p2.b, .int .i64 p2.n]]) (fun b3 => fV p1 p2 y1 b3 = some r) ?_ ?_
  ·skip;refine ai [17, 25] ?_
   by_cases h29 : p2.op = 2
   ·rw [iP h29] at hm;refine ab rfl (eQ h29) ?_;refine aq ?_;refine au (p2.op == 2) () hm ?_;exact ls
   ·rw [iN h29] at hm;refine ae rfl (nB h29) ?_;refine cE ?_;refine au (p2.op == 4) () hm ?_;exact ls
  ·rintro b3 _ hm;replace hm : fV p1 p2 y1 b3 = some r := hm;refine aP ?_;unfold fV at hm
   by_cases h4 : b3 = true
   ·rw [iP h4] at hm;refine ab rfl (h4) ?_;refine av [2, 3, 7, 16, 24, 27, 28, 29, 30, 31, 32, 33, 34, 35, 36, 37, 38, 39, 40, 41, 42, 43] fun k kp hk hp => ?_;refine go ?_;refine aK (aZ 2 rfl) ?_;refine gt ?_;obtain ⟨y4, hc5, hm⟩ := bd hm;refine RP (fun _ => dL p1 (lit ([p2.r_] : List Int)) _ hc5) ?_
    by_cases h6 : y4 = true
    ·rw [iP h6] at hm;have h6b := h6;refine am 6 ?_;refine gox h6b ?_
     by_cases h7 : p2.n ≥ 0
     ·rw [iP h7] at hm;have h7b := dT h7;refine aa ?_;refine gox (a2 h6b h7b) ?_;refine hk _ _ ?_;clear hk hp k kp;refine an ?_;refine ag (ah ?_)
      cases hm
      exact kr 0
     ·rw [iN h7] at hm;have h7b := dF h7;refine aa ?_;refine gox (a2 h6b h7b) ?_;refine hk _ _ ?_;clear hk hp k kp;refine an ?_;refine ag (ah ?_)
      cases hm
      exact kr 0
    ·rw [iN h6] at hm;have h6b := fB h6;refine aa ?_;refine gox h6b ?_;refine hk _ _ ?_;clear hk hp k kp;refine an ?_;refine ag (ah ?_)
     cases hm
     exact kr 0
   ·rw [iN h4] at hm;refine ae rfl (fB h4) ?_;refine aT (S := Bool) (V := Unit) [24, 44, 45, 46] (fun b5 _ => [(44, .c (.bool b5))]) (fun b5 _ => [.box [.int .i64 p1.cells, .int .i64 p1.regs, .int .i64 p1.cost, .tree 1 (p1.put.map (eK .i64)), .tree 1 (p1.bools.map (eK .i64)), .tree 1 (p1.get.map (eK .i64)), .tree 6 (p1.code.map ax.enc)], .box [.int .i64 p2.op, .int .i64 p2.k, .int .i64 p2.r_, .int .i64 p2.a, .int .i64 p2.b, .int .i64 p2.n]]) (fun b5 => fU p1 p2 y1 b5 = some r) ?_ ?_
    ·skip;refine ai [24, 45] ?_
     by_cases h28 : p2.op = 3
     ·rw [iP h28] at hm;refine ab rfl (eQ h28) ?_;refine aq ?_;refine au (p2.op == 3) () hm ?_;exact ls
     ·rw [iN h28] at hm;refine ae rfl (nB h28) ?_;refine cE ?_;refine au (p2.op == 5) () hm ?_;exact ls
    ·rintro b5 _ hm;replace hm : fU p1 p2 y1 b5 = some r := hm;refine aP ?_;unfold fU at hm
     by_cases h8 : b5 = true
     ·rw [iP h8] at hm;refine ab rfl (h8) ?_;refine av [2, 3, 7, 16, 44, 47, 48, 49, 50, 51, 52, 53, 54, 55, 56, 57, 58, 59, 60, 61, 62, 63, 64, 65, 66, 67, 68, 69, 70, 71, 72, 73, 74, 75, 76, 77, 78, 79, 80] fun k kp hk hp => ?_;refine go ?_;refine aK (aZ 2 rfl) ?_;refine gt ?_;obtain ⟨y6, hc9, hm⟩ := bd hm;refine RP (fun _ => dL p1 (lit ([p2.r_, p2.a] : List Int)) _ hc9) ?_
      by_cases h10 : y6 = true
      ·rw [iP h10] at hm;have h10b := h10;refine am 6 ?_;refine gox h10b ?_
       by_cases h11 : p2.n ≥ 0
       ·rw [iP h11] at hm;have h11b := dT h11;refine am 7 ?_;refine gox (a2 h10b h11b) ?_
        by_cases h12 : p2.n < p1.cells
        ·rw [iP h12] at hm;have h12b := dT h12;refine am 5 ?_;refine gox (a2 h10b (a2 h11b h12b)) ?_
         by_cases h13 : p2.b ≥ 1
         ·rw [iP h13] at hm;have h13b := dT h13;refine aa ?_;refine gox (a2 h10b (a2 h11b (a2 h12b h13b))) ?_;refine hk _ _ ?_;clear hk hp k kp;refine an ?_;refine ag (ah ?_)
          cases hm
          exact kr 0
         ·rw [iN h13] at hm;have h13b := dF h13;refine aa ?_;refine gox (a2 h10b (a2 h11b (a2 h12b h13b))) ?_;refine hk _ _ ?_;clear hk hp k kp;refine an ?_;refine ag (ah ?_)
          cases hm
          exact kr 0
        ·rw [iN h12] at hm;have h12b := dF h12;refine aa ?_;refine gox (a2 h10b (a2 h11b h12b)) ?_;refine hk _ _ ?_;clear hk hp k kp;refine an ?_;refine ag (ah ?_)
         cases hm
         exact kr 0
       ·rw [iN h11] at hm;have h11b := dF h11;refine aa ?_;refine gox (a2 h10b h11b) ?_;refine hk _ _ ?_;clear hk hp k kp;refine an ?_;refine ag (ah ?_)
        cases hm
        exact kr 0
      ·rw [iN h10] at hm;have h10b := fB h10;refine aa ?_;refine gox h10b ?_;refine hk _ _ ?_;clear hk hp k kp;refine an ?_;refine ag (ah ?_)
       cases hm
       exact kr 0
     ·rw [iN h8] at hm;refine ae rfl (fB h8) ?_;refine ai [44, 82] ?_
      by_cases h14 : p2.op = 6
      ·rw [iP h14] at hm;refine ab rfl (eQ h14) ?_;refine av [2, 3, 7, 16, 81, 83, 84, 85, 86, 87, 88, 89, 90, 91, 92, 93] fun k kp hk hp => ?_;refine go ?_;refine aK (aZ 2 rfl) ?_;refine gt ?_;obtain ⟨y7, hc15, hm⟩ := bd hm;refine RP (fun _ => dL p1 (lit ([p2.r_, p2.a] : List Int)) _ hc15) ?_
       by_cases h16 : y7 = true
       ·rw [iP h16] at hm;have h16b := h16;refine aa ?_;refine gox h16b ?_;refine hk _ _ ?_;clear hk hp k kp;refine an ?_;refine ag (ah ?_)
        cases hm
        exact kr 0
       ·rw [iN h16] at hm;have h16b := fB h16;refine aa ?_;refine gox h16b ?_;refine hk _ _ ?_;clear hk hp k kp;refine an ?_;refine ag (ah ?_)
        cases hm
        exact kr 0
      ·rw [iN h14] at hm;refine ae rfl (nB h14) ?_;refine ai [81, 95] ?_
       by_cases h17 : p2.op = 7
       ·rw [iP h17] at hm;refine ab rfl (eQ h17) ?_;refine av [2, 3, 7, 16, 94, 96, 97, 98, 99, 100, 101, 102, 103, 104, 105, 106, 107, 108] fun k kp hk hp => ?_;refine go ?_;refine aK (aZ 2 rfl) ?_;refine gt ?_;obtain ⟨y8, hc18, hm⟩ := bd hm;refine RP (fun _ => dL p1 (lit ([p2.r_, p2.a, p2.b] : List Int)) _ hc18) ?_
        by_cases h19 : y8 = true
        ·rw [iP h19] at hm;have h19b := h19;refine aa ?_;refine gox h19b ?_;refine hk _ _ ?_;clear hk hp k kp;refine an ?_;refine ag (ah ?_)
         cases hm
         exact kr 0
        ·rw [iN h19] at hm;have h19b := fB h19;refine aa ?_;refine gox h19b ?_;refine hk _ _ ?_;clear hk hp k kp;refine an ?_;refine ag (ah ?_)
         cases hm
         exact kr 0
       ·rw [iN h17] at hm;refine ae rfl (nB h17) ?_;refine ai [7, 94, 110] ?_
        by_cases h20 : p2.op = 8
        ·rw [iP h20] at hm;refine ab rfl (eQ h20) ?_;refine av [2, 3, 16, 109, 111, 112, 113, 114, 115, 116, 117, 118, 119] fun k kp hk hp => ?_;refine go ?_;refine aK (aZ 2 rfl) ?_;refine gt ?_;obtain ⟨y9, hc21, hm⟩ := bd hm;refine RP (fun _ => dL p1 (lit ([p2.r_, p2.a, p2.b] : List Int)) _ hc21) ?_;refine aa ?_;refine go ?_;refine hk _ _ ?_;clear hk hp k kp;refine an ?_;refine ag (ah ?_)
         cases hm
         exact kr 0
        ·rw [iN h20] at hm;refine ae rfl (nB h20) ?_;refine ai [109, 121] ?_
         by_cases h22 : p2.op = 9
         ·rw [iP h22] at hm;refine ab rfl (eQ h22) ?_;refine av [2, 3, 16, 120, 122, 123, 124, 125, 126, 127, 128] fun k kp hk hp => ?_;refine go ?_;refine aK (aZ 2 rfl) ?_;refine gt ?_;obtain ⟨y10, hc23, hm⟩ := bd hm;refine RP (fun _ => dL p1 (lit ([p2.r_, p2.a] : List Int)) _ hc23) ?_;refine aa ?_;refine go ?_;refine hk _ _ ?_;clear hk hp k kp;refine an ?_;refine ag (ah ?_)
          cases hm
          exact kr 0
         ·rw [iN h22] at hm;refine ae rfl (nB h22) ?_;refine ai [16, 120, 130] ?_
          by_cases h24 : p2.op = 10
          ·rw [iP h24] at hm;refine ab rfl (eQ h24) ?_;refine av [2, 3, 129, 131, 132, 133, 134, 135, 136, 137, 138, 139, 140, 141, 142, 143, 144, 145] fun k kp hk hp => ?_;refine go ?_;refine aK (aZ 2 rfl) ?_;refine gt ?_;obtain ⟨y11, hc25, hm⟩ := bd hm;refine RP (fun _ => dL p1 (lit ([p2.r_] : List Int)) _ hc25) ?_
           by_cases h26 : y11 = true
           ·rw [iP h26] at hm;have h26b := h26;refine am 6 ?_;refine gox h26b ?_
            by_cases h27 : p2.n ≥ 1
            ·rw [iP h27] at hm;have h27b := dT h27;refine aa ?_;refine gox (a2 h26b h27b) ?_;refine hk _ _ ?_;clear hk hp k kp;refine an ?_;refine ag (ah ?_)
             cases hm
             exact kr 0
            ·rw [iN h27] at hm;have h27b := dF h27;refine aa ?_;refine gox (a2 h26b h27b) ?_;refine hk _ _ ?_;clear hk hp k kp;refine an ?_;refine ag (ah ?_)
             cases hm
             exact kr 0
           ·rw [iN h26] at hm;have h26b := fB h26;refine aa ?_;refine gox h26b ?_;refine hk _ _ ?_;clear hk hp k kp;refine an ?_;refine ag (ah ?_)
            cases hm
            exact kr 0
          ·rw [iN h24] at hm;refine ae rfl (nB h24) ?_;refine aq ?_;refine aH ?_;refine ak (hk1 _ _ ?_);refine ai [2, 3, 129, 146, 147, 148] ?_;refine an ?_
           cases hm
           exact kr 0
theorem m8 (p1 : List ax) (r : Int) (hm : iB p1 = some r) : cR Try.prog 24 [.c (.tree 6 (p1.map ax.enc))] (.c (.int .i64 r)) := by
 refine aR 81 [.tmp 2] Try.func24 rfl rfl rfl (by kernel_rfl) (by simp) ?_;refine cB ?_;unfold iB at hm;refine ai [2] ?_;refine ai [] ?_;refine aT (S := Int) (V := Unit) [0, 2, 3, 4, 5, 6, 7, 8, 9, 10, 11, 12, 13, 14, 15, 16, 17, 18, 19, 20, 21, 22, 23, 24, 25, 26, 27, 28, 29, 30, 31, 32, 33, 34, 35, 36, 37, 38, 39, 40, 41, 42, 43, 44, 45, 46, 47, 48, 49, 50, 51, 52, 53, 54, 55, 56, 57, 58, 59, 60, 61, 62, 63, 64, 65, 66, 67, 68, 69, 70, 71, 72, 73, 74, 75, 76, 77, 78, 79] (fun x1 _ => [(3, .c (.int .i64 x1))]) (fun x1 _ => []) (fun x1 => ed x1 = some r) ?_ ?_
 ·skip;refine ai [] ?_
  refine aw ?_;obtain ⟨o1, hl1, hm1⟩ := bd hm;refine bl (S := (Int × Int)) (V := Unit) (O := Int ⊕ Int) [2, 3, 4, 5, 6, 7, 8, 9, 10, 11, 12, 13, 14, 15, 16, 17, 18, 19, 20, 21, 22, 23, 24, 25, 26, 27, 28, 29, 30, 31, 32, 33, 34, 35, 36, 37, 38, 39, 40, 41, 42, 43, 44, 45, 46, 47, 48, 49, 50, 51, 52, 53, 54, 55, 56, 57, 58, 59, 60, 61, 62, 63, 64, 65, 66, 67, 68, 69, 70, 71, 72, 73, 74, 75, 76, 77, 78, 79] (fun (x6, x7) _ => [(3, .c (.int .i64 x6)), (4, .c (.int .i64 x7))]) (fun (x6, x7) _ => []) _ _ () hl1 ?_ ?_
  ·exact ls
  ·rintro ⟨x6, x7⟩ _ r1 hm hr1;replace hm : eg p1 x6 x7 = some r1 := hm;refine aP ?_;unfold eg at hm;refine ap fun k1 hk1 => ?_;refine ai [6, 7, 8] ?_
   by_cases h1 : x7 < (p1.length : Int)
   ·rw [iP h1] at hm;refine ab rfl (dT h1) ?_;refine aq ?_;refine ak (hk1 _ _ ?_);refine aT (S := (Int × Int)) (V := Unit) [2, 3, 4, 5, 9, 12, 13, 14, 15, 16, 17, 18, 19, 20, 21, 22, 23, 24, 25, 26, 27, 28, 29, 30, 31, 32, 33, 34, 35, 36, 37, 38, 39, 40, 41, 42, 43, 44, 45, 46, 47, 48, 49, 50, 51, 52, 53, 54, 55, 56, 57, 58, 59, 60, 61, 62, 63, 64, 65, 66, 67, 68, 69, 70, 71, 72, 73, 74, 75, 76, 77, 78, 79] (fun (x8, x9) _ => [(3, .c (.int .i64 x8)), (4, .c (.int .i64 x9))]) (fun (x8, x9) _ => []) (fun (x8, x9) => ee x8 x9 = some r1) ?_ ?_
    ·skip;refine aw ?_
     refine ai [9, 12, 13] ?_;refine ap fun k2 hk2 => ?_;obtain ⟨hg2a, hm⟩ := gd hm;refine cS (em ax.enc p1 x7.toNat) [14, 15, 16, 17, 18] ?_
     by_cases h3 : ((p1.getD x7.toNat default).op) = 11
     ·rw [iP h3] at hm;refine ab rfl (eQ h3) ?_;refine ai [0, 3, 4, 19] ?_;have ho4 := aC hm hr1;subst ho4;replace hm : some 0 = some r := hm1;refine an ?_;refine ah (ag (aS (bi (ag (aS ?_)))))
      cases hm
      exact kr 0
     ·rw [iN h3] at hm;refine ae rfl (nB h3) ?_;refine aq ?_;refine ak (hk2 _ _ ?_);refine ap fun k3 hk3 => ?_;refine cS (em ax.enc p1 x7.toNat) [19, 20, 21, 22, 23, 24] ?_
      by_cases h5 : ¬ ((p1.getD x7.toNat default).op) = 10
      ·rw [iP h5] at hm;refine ab rfl (bne_iff_ne.2 h5) ?_;refine bw ?_;refine aX (az ?_);refine au ((IntKind.wrap .i64 (x6 + 1)), x7) () hm ?_;exact ls
      ·rw [iN h5] at hm;refine ae rfl (bne_eq_false_iff_eq.2 (Decidable.not_not.1 h5)) ?_;refine aq ?_;refine ak (hk3 _ _ ?_);refine ai [25, 26, 27] ?_;refine aT (S := Int) (V := Unit) [2, 5, 28, 29, 30, 31, 32, 33, 34, 35, 36, 37, 38, 39, 40, 41, 42, 43, 44, 45, 46, 47] (fun x10 _ => [(5, .c (.int .i64 x10))]) (fun x10 _ => []) (fun x10 => db p1 x6 x7 x10 = some r1) ?_ ?_
       ·skip;refine aw ?_
        obtain ⟨o2, hl2, hm2⟩ := bd hm;refine bl (S := Int) (V := Unit) (O := Int ⊕ Int) [2, 5, 28, 29, 30, 31, 32, 33, 34, 35, 36, 37, 38, 39, 40, 41, 42, 43, 44, 45, 46, 47] (fun x13 _ => [(5, .c (.int .i64 x13))]) (fun x13 _ => []) _ _ () hl2 ?_ ?_
        ·exact ls
        ·rintro x13 _ r2 hm hr2;replace hm : cF p1 x13 = some r2 := hm;refine aP ?_;unfold cF at hm;refine ap fun k5 hk5 => ?_;refine dj [28, 29, 30, 31, 32, 33, 34, 35, 36, 37, 38] fun k kp hk hp => ?_;refine am 5 ?_;refine go ?_
         by_cases h12 : x13 < (p1.length : Int)
         ·rw [iP h12] at hm;have h12b := dT h12;obtain ⟨hg13a, hm⟩ := gd hm;refine aa ?_;refine gox (a2 (em ax.enc p1 x13.toNat) h12b) ?_;refine hk _ _ ?_;clear hk hp k kp
          by_cases h14 : ¬ ((p1.getD x13.toNat default).op) = 11
          ·rw [iP h14] at hm;refine ab rfl (bne_iff_ne.2 h14) ?_;refine aq ?_;refine ak (hk5 _ _ ?_);refine aw ?_;refine ap fun k6 hk6 => ?_;refine cS (em ax.enc p1 x13.toNat) [39, 40, 41, 42, 43, 44] ?_
           by_cases h15 : ((p1.getD x13.toNat default).op) = 10
           ·rw [iP h15] at hm;refine ab rfl (eQ h15) ?_;refine ai [0, 3, 4, 5, 45] ?_;have ho16 := aC hm hr2;subst ho16;replace hm : some (.inr (.inr 0)) = some r1 := hm2;have ho17 := aC hm hr1;subst ho17;replace hm : some 0 = some r := hm1;refine an ?_;refine ah (ag (bi (ag (aS (ag (aS (bi (ag (aS ?_)))))))))
            cases hm
            exact kr 0
           ·rw [iN h15] at hm;refine ae rfl (nB h15) ?_;refine aq ?_;refine ak (hk6 _ _ ?_);refine cE ?_;refine aH ?_;refine aO (IntKind.wrap .i64 (x13 + 1)) () hm ?_;exact ls
          ·rw [iN h14] at hm;refine ae rfl (bne_eq_false_iff_eq.2 (Decidable.not_not.1 h14)) ?_;refine bw ?_;have ho18 := aC hm hr2;subst ho18;replace hm : db p1 x6 x7 x13 = some r1 := hm2;refine aX (aL (az ?_));refine au x13 () hm ?_;exact ls
         ·rw [iN h12] at hm;have h12b := dF h12;refine aa ?_;refine gox h12b ?_;refine hk _ _ ?_;clear hk hp k kp;refine ae rfl rfl ?_;refine bw ?_;have ho19 := aC hm hr2;subst ho19;replace hm : db p1 x6 x7 x13 = some r1 := hm2;refine aX (aL (az ?_));refine au x13 () hm ?_;exact ls
       ·rintro x10 _ hm;replace hm : db p1 x6 x7 x10 = some r1 := hm;refine aP ?_;unfold db at hm;refine ap fun k4 hk4 => ?_;refine dj [48, 49, 50, 51, 52, 53, 54, 55, 56, 57, 58, 59, 60, 61, 62, 63, 64, 65, 66] fun k kp hk hp => ?_;refine am 5 ?_;refine go ?_
        by_cases h6 : x10 = (p1.length : Int)
        ·rw [iP h6] at hm;have h6b := eQ h6;refine aa ?_;refine gox h6b ?_;refine hk _ _ ?_;clear hk hp k kp;refine ab rfl rfl ?_;refine ai [0, 3, 4, 5, 67] ?_;have ho7 := aC hm hr1;subst ho7;replace hm : some 0 = some r := hm1;refine an ?_;refine ah (ag (aS (bi (ag (aS ?_)))))
         cases hm
         exact kr 0
        ·rw [iN h6] at hm;have h6b := nB h6;refine am 8 ?_;refine gox (a2 (em ax.enc p1 x7.toNat) h6b) ?_
         by_cases h8 : ((p1.getD x7.toNat default).n) < 1
         ·rw [iP h8] at hm;have h8b := dT h8;refine aa ?_;refine gox (a2 h6b h8b) ?_;refine hk _ _ ?_;clear hk hp k kp;refine ab rfl rfl ?_;refine ai [0, 3, 4, 5, 67] ?_;have ho9 := aC hm hr1;subst ho9;replace hm : some 0 = some r := hm1;refine an ?_;refine ah (ag (aS (bi (ag (aS ?_)))))
          cases hm
          exact kr 0
         ·rw [iN h8] at hm;have h8b := dF h8;refine aa ?_;refine gox (a2 (em ax.enc p1 x7.toNat) (a2 h6b h8b)) ?_;refine hk _ _ ?_;clear hk hp k kp
          by_cases h10 : ((p1.getD x7.toNat default).n) > 300
          ·rw [iP h10] at hm;refine ab rfl (dT h10) ?_;refine ai [0, 3, 4, 5, 67] ?_;have ho11 := aC hm hr1;subst ho11;replace hm : some 0 = some r := hm1;refine an ?_;refine ah (ag (aS (bi (ag (aS ?_)))))
           cases hm
           exact kr 0
          ·rw [iN h10] at hm;refine ae rfl (dF h10) ?_;refine aq ?_;refine ak (hk4 _ _ ?_);refine cS (em ax.enc p1 x7.toNat) [4, 67, 68, 69, 70, 71, 72, 73, 74, 75, 76, 77, 78] ?_;refine cE ?_;refine aH ?_;refine au ((IntKind.wrap .i64 ((IntKind.wrap .i64 (x6 + 1)) + (IntKind.wrap .i64 (((p1.getD x7.toNat default).n) * (IntKind.wrap .i64 (x10 - x7)))))), x10) () hm ?_;exact ls
    ·rintro ⟨x8, x9⟩ _ hm;replace hm : ee x8 x9 = some r1 := hm;refine aP ?_;unfold ee at hm;refine cE ?_;refine aO (x8, (IntKind.wrap .i64 (x9 + 1))) () hm ?_;exact ls
   ·rw [iN h1] at hm;refine ae rfl (dF h1) ?_;refine bw ?_;have ho20 := aC hm hr1;subst ho20;replace hm : ed x6 = some r := hm1;refine aX (aL (az ?_));refine au x6 () hm ?_;exact ls
 ·rintro x1 _ hm;replace hm : ed x1 = some r := hm;refine aP ?_;unfold ed at hm;refine ai [3, 80] ?_;refine an ?_
  cases hm
  exact kr 0
theorem iQ (p1 : aj) (r : af) (hm : eC p1 = some r) : cR Try.prog 11 [.a [.int .i64 p1.cells, .int .i64 p1.regs, .int .i64 p1.cost, .tree 1 (p1.put.map (eK .i64)), .tree 1 (p1.bools.map (eK .i64)), .tree 1 (p1.get.map (eK .i64)), .tree 6 (p1.code.map ax.enc)]] (.a [.int .i64 ((r).code), .int .i64 ((r).at_)]) := by
 refine aR 127 [.cell 2 31] Try.func11 rfl rfl rfl (by kernel_rfl) (by simp) ?_;refine cB ?_;unfold eC at hm;refine ai [0] ?_;refine ap fun k1 hk1 => ?_;refine dj [8, 9, 10, 11, 12, 13, 14, 15, 16, 17, 18, 19, 20, 21, 22, 23, 24] fun k kp hk hp => ?_;refine am 4 ?_;refine go ?_
 by_cases h1 : p1.cells < 1
 ·rw [iP h1] at hm;have h1b := dT h1;refine aa ?_;refine gox h1b ?_;refine hk _ _ ?_;clear hk hp k kp;refine ab rfl rfl ?_;refine av [1, 25, 26] fun k kp hk hp => ?_;refine go ?_;obtain ⟨y1, hc2, hm⟩ := bd hm;refine RP (fun _ => cw 13 (-1) _ hc2) ?_;refine aa ?_;refine go ?_;refine hk _ _ ?_;clear hk hp k kp;refine an ?_;refine ah ?_
  cases hm
  exact kr 0
 ·rw [iN h1] at hm;have h1b := dF h1;refine am 5 ?_;refine gox h1b ?_
  by_cases h3 : p1.cells > 6000
  ·rw [iP h3] at hm;have h3b := dT h3;refine aa ?_;refine gox (a2 h1b h3b) ?_;refine hk _ _ ?_;clear hk hp k kp;refine ab rfl rfl ?_;refine av [1, 25, 26] fun k kp hk hp => ?_;refine go ?_;obtain ⟨y2, hc4, hm⟩ := bd hm;refine RP (fun _ => cw 13 (-1) _ hc4) ?_;refine aa ?_;refine go ?_;refine hk _ _ ?_;clear hk hp k kp;refine an ?_;refine ah ?_
   cases hm
   exact kr 0
  ·rw [iN h3] at hm;have h3b := dF h3;refine am 5 ?_;refine gox (a2 h1b h3b) ?_
   by_cases h5 : p1.regs < 1
   ·rw [iP h5] at hm;have h5b := dT h5;refine aa ?_;refine gox (a2 h1b (a2 h3b h5b)) ?_;refine hk _ _ ?_;clear hk hp k kp;refine ab rfl rfl ?_;refine av [1, 25, 26] fun k kp hk hp => ?_;refine go ?_;obtain ⟨y3, hc6, hm⟩ := bd hm;refine RP (fun _ => cw 13 (-1) _ hc6) ?_;refine aa ?_;refine go ?_;refine hk _ _ ?_;clear hk hp k kp;refine an ?_;refine ah ?_
    cases hm
    exact kr 0
   ·rw [iN h5] at hm;have h5b := dF h5;refine aa ?_;refine gox (a2 h1b (a2 h3b h5b)) ?_;refine hk _ _ ?_;clear hk hp k kp
    by_cases h7 : p1.regs > 40
    ·rw [iP h7] at hm;refine ab rfl (dT h7) ?_;refine av [1, 25, 26] fun k kp hk hp => ?_;refine go ?_;obtain ⟨y4, hc8, hm⟩ := bd hm;refine RP (fun _ => cw 13 (-1) _ hc8) ?_;refine aa ?_;refine go ?_;refine hk _ _ ?_;clear hk hp k kp;refine an ?_;refine ah ?_
     cases hm
     exact kr 0
    ·rw [iN h7] at hm;refine ae rfl (dF h7) ?_;refine aq ?_;refine ak (hk1 _ _ ?_);refine ap fun k2 hk2 => ?_;refine dj [25, 27, 28, 29, 30, 31, 32, 33, 34, 35, 36, 37, 38, 39, 40, 41, 42, 43, 44, 45, 46, 47] fun k kp hk hp => ?_;refine am 5 ?_;refine go ?_
     by_cases h9 : (p1.put.length : Int) > 6000
     ·rw [iP h9] at hm;have h9b := dT h9;refine aa ?_;refine gox h9b ?_;refine hk _ _ ?_;clear hk hp k kp;refine ab rfl rfl ?_;refine av [1, 48, 49] fun k kp hk hp => ?_;refine go ?_;obtain ⟨y5, hc10, hm⟩ := bd hm;refine RP (fun _ => cw 7 (-1) _ hc10) ?_;refine aa ?_;refine go ?_;refine hk _ _ ?_;clear hk hp k kp;refine an ?_;refine ah ?_
      cases hm
      exact kr 0
     ·rw [iN h9] at hm;have h9b := dF h9;refine am 6 ?_;refine gox h9b ?_
      by_cases h11 : (p1.bools.length : Int) > 6000
      ·rw [iP h11] at hm;have h11b := dT h11;refine aa ?_;refine gox (a2 h9b h11b) ?_;refine hk _ _ ?_;clear hk hp k kp;refine ab rfl rfl ?_;refine av [1, 48, 49] fun k kp hk hp => ?_;refine go ?_;obtain ⟨y6, hc12, hm⟩ := bd hm;refine RP (fun _ => cw 7 (-1) _ hc12) ?_;refine aa ?_;refine go ?_;refine hk _ _ ?_;clear hk hp k kp;refine an ?_;refine ah ?_
       cases hm
       exact kr 0
      ·rw [iN h11] at hm;have h11b := dF h11;refine am 6 ?_;refine gox (a2 h9b h11b) ?_
       by_cases h13 : (p1.get.length : Int) > 120000
       ·rw [iP h13] at hm;have h13b := dT h13;refine aa ?_;refine gox (a2 h9b (a2 h11b h13b)) ?_;refine hk _ _ ?_;clear hk hp k kp;refine ab rfl rfl ?_;refine av [1, 48, 49] fun k kp hk hp => ?_;refine go ?_;obtain ⟨y7, hc14, hm⟩ := bd hm;refine RP (fun _ => cw 7 (-1) _ hc14) ?_;refine aa ?_;refine go ?_;refine hk _ _ ?_;clear hk hp k kp;refine an ?_;refine ah ?_
        cases hm
        exact kr 0
       ·rw [iN h13] at hm;have h13b := dF h13;refine aa ?_;refine gox (a2 h9b (a2 h11b h13b)) ?_;refine hk _ _ ?_;clear hk hp k kp
        by_cases h15 : (p1.code.length : Int) > 200000
        ·rw [iP h15] at hm;refine ab rfl (dT h15) ?_;refine av [1, 48, 49] fun k kp hk hp => ?_;refine go ?_;obtain ⟨y8, hc16, hm⟩ := bd hm;refine RP (fun _ => cw 7 (-1) _ hc16) ?_;refine aa ?_;refine go ?_;refine hk _ _ ?_;clear hk hp k kp;refine an ?_;refine ah ?_
         cases hm
         exact kr 0
        ·rw [iN h15] at hm;refine ae rfl (dF h15) ?_;refine aq ?_;refine ak (hk2 _ _ ?_);refine ai [48, 50, 51, 52, 53, 54, 55, 56] ?_;refine ib [.box [.int .i64 p1.cells, .int .i64 p1.regs, .int .i64 p1.cost, .tree 1 (p1.put.map (eK .i64)), .tree 1 (p1.bools.map (eK .i64)), .tree 1 (p1.get.map (eK .i64)), .tree 6 (p1.code.map ax.enc)], .box [.int .i64 0, .int .i64 0], .arr 1 0 22 ((lit ([p1.put, p1.bools, p1.get] : List (List Int))).map (eL 1 (eK .i64)))] ?_;refine aT (S := Unit) (V := Unit) [3, 4, 5, 57, 58, 59, 60, 61, 62, 63, 64, 65, 66, 67, 68, 69, 70, 71, 72, 73, 74, 75, 76, 77, 78, 79, 80, 81, 82, 83, 84, 85, 86, 87, 88, 89, 90] (fun _ _ => []) (fun _ _ => [.box [.int .i64 p1.cells, .int .i64 p1.regs, .int .i64 p1.cost, .tree 1 (p1.put.map (eK .i64)), .tree 1 (p1.bools.map (eK .i64)), .tree 1 (p1.get.map (eK .i64)), .tree 6 (p1.code.map ax.enc)], .box [.int .i64 0, .int .i64 0], .arr 1 0 22 ((lit ([p1.put, p1.bools, p1.get] : List (List Int))).map (eL 1 (eK .i64)))]) (fun _ => dr p1 = some r) ?_ ?_
         ·skip;refine ai [] ?_
          refine aw ?_;obtain ⟨o2, hl2, hm2⟩ := bd hm;refine bl (S := Int) (V := Unit) (O := Unit ⊕ af) [3, 4, 5, 57, 58, 59, 60, 61, 62, 63, 64, 65, 66, 67, 68, 69, 70, 71, 72, 73, 74, 75, 76, 77, 78, 79, 80, 81, 82, 83, 84, 85, 86, 87, 88, 89, 90] (fun x20 _ => [(3, .c (.osl 2 0 0 3)), (4, .c (.int .i64 x20))]) (fun x20 _ => [.box [.int .i64 p1.cells, .int .i64 p1.regs, .int .i64 p1.cost, .tree 1 (p1.put.map (eK .i64)), .tree 1 (p1.bools.map (eK .i64)), .tree 1 (p1.get.map (eK .i64)), .tree 6 (p1.code.map ax.enc)], .box [.int .i64 0, .int .i64 0], .arr 1 0 22 ((lit ([p1.put, p1.bools, p1.get] : List (List Int))).map (eL 1 (eK .i64)))]) _ _ () hl2 ?_ ?_
          ·exact ls
          ·rintro x20 _ r2 hm hr2;replace hm : dv p1 x20 = some r2 := hm;refine aP ?_;unfold dv at hm;refine ap fun k6 hk6 => ?_;refine ai [57] ?_
           by_cases h30 : x20 < 3
           ·rw [iP h30] at hm;refine ab rfl (dT h30) ?_;refine aq ?_;refine ak (hk6 _ _ ?_);refine aT (S := Unit) (V := Unit) [3, 5, 58, 61, 62, 63, 64, 65, 66, 67, 68, 69, 70, 71, 72, 73, 74, 75, 76, 77, 78, 79, 80, 81, 82, 83, 84, 85, 86, 87, 88, 89, 90] (fun _ _ => [(3, .c (.osl 2 0 0 3))]) (fun _ _ => [.box [.int .i64 p1.cells, .int .i64 p1.regs, .int .i64 p1.cost, .tree 1 (p1.put.map (eK .i64)), .tree 1 (p1.bools.map (eK .i64)), .tree 1 (p1.get.map (eK .i64)), .tree 6 (p1.code.map ax.enc)], .box [.int .i64 0, .int .i64 0], .arr 1 0 22 ((lit ([p1.put, p1.bools, p1.get] : List (List Int))).map (eL 1 (eK .i64)))]) (fun _ => dt x20 = some r2) ?_ ?_
            ·skip;refine aw ?_
             refine ai [58] ?_;refine aw ?_;obtain ⟨o3, hl3, hm3⟩ := bd hm;refine bl (S := Int) (V := Unit) (O := Unit ⊕ af) [3, 5, 61, 62, 63, 64, 65, 66, 67, 68, 69, 70, 71, 72, 73, 74, 75, 76, 77, 78, 79, 80, 81, 82, 83, 84, 85, 86, 87, 88, 89, 90] (fun x23 _ => [(3, .c (.osl 2 0 0 3)), (5, .c (.int .i64 x23))]) (fun x23 _ => [.box [.int .i64 p1.cells, .int .i64 p1.regs, .int .i64 p1.cost, .tree 1 (p1.put.map (eK .i64)), .tree 1 (p1.bools.map (eK .i64)), .tree 1 (p1.get.map (eK .i64)), .tree 6 (p1.code.map ax.enc)], .box [.int .i64 0, .int .i64 0], .arr 1 0 22 ((lit ([p1.put, p1.bools, p1.get] : List (List Int))).map (eL 1 (eK .i64)))]) _ _ () hl3 ?_ ?_
             ·exact ls
             ·rintro x23 _ r3 hm hr3;replace hm : du p1 x20 x23 = some r3 := hm;refine aP ?_;unfold du at hm;refine ap fun k7 hk7 => ?_;obtain ⟨hg31a, hm⟩ := gd hm;refine cS (em (eL 1 (eK .i64)) (lit ([p1.put, p1.bools, p1.get] : List (List Int))) x20.toNat) [61, 62, 63, 64, 65, 66] ?_
              by_cases h32 : x23 < (((lit ([p1.put, p1.bools, p1.get] : List (List Int))).getD x20.toNat default).length : Int)
              ·rw [iP h32] at hm;refine ab rfl (dT h32) ?_;refine aq ?_;refine ak (hk7 _ _ ?_);refine ap fun k8 hk8 => ?_;refine aw ?_;obtain ⟨hg33a, hm⟩ := gd hm;refine kS [67, 70, 71, 72, 73, 74, 75, 76, 77, 78, 79, 80, 81, 82, 83, 84, 85, 86, 87, 88] (by kernel_rfl) [0, 0, 3, 7, 0, 31, 63, 127, 255, 511, 511, 2047, 4095, 511, 16383, 32767, 511, 66047, 262143, 524287] [false, false, false, false, false, true, true, true, true, false, false, false, false, false, false, false, false, false, true, true] (by kernel_rfl) fun k hk => ?_;refine pB 9 rfl ?_;refine gax (a2 (em (eL 1 (eK .i64)) (lit ([p1.put, p1.bools, p1.get] : List (List Int))) x20.toNat) (em (eK .i64) ((lit ([p1.put, p1.bools, p1.get] : List (List Int))).getD x20.toNat default) x23.toNat)) ?_
               by_cases h34 : (((lit ([p1.put, p1.bools, p1.get] : List (List Int))).getD x20.toNat default).getD x23.toNat default) < 0
               ·rw [iP h34] at hm;have h34b := dT h34;refine jr ?_;refine gax h34b ?_;refine hk _ _ ?_;clear hk k;refine ab rfl rfl ?_;refine av [1, 3, 4, 5, 89, 90] fun k kp hk hp => ?_;refine go ?_;obtain ⟨y24, hc35, hm⟩ := bd hm;refine RP (fun _ => cw 16 (-1) _ hc35) ?_;refine aa ?_;refine go ?_;refine hk _ _ ?_;clear hk hp k kp;have ho36 := aC hm hr3;subst ho36;replace hm : some (.inr (.inr (y24))) = some r2 := hm3;have ho37 := aC hm hr2;subst ho37;replace hm : some (y24) = some r := hm2;refine an ?_;refine ag (ah (bi (ag (ag (aS (bi (ag (aS ?_))))))))
                cases hm
                exact kr 0
               ·rw [iN h34] at hm;have h34b := dF h34;refine jr ?_;refine gax (a2 (em (eL 1 (eK .i64)) (lit ([p1.put, p1.bools, p1.get] : List (List Int))) x20.toNat) (a2 (em (eK .i64) ((lit ([p1.put, p1.bools, p1.get] : List (List Int))).getD x20.toNat default) x23.toNat) h34b)) ?_;refine hk _ _ ?_;clear hk k
                by_cases h38 : (((lit ([p1.put, p1.bools, p1.get] : List (List Int))).getD x20.toNat default).getD x23.toNat default) ≥ p1.cells
                ·rw [iP h38] at hm;refine ab rfl (dT h38) ?_;refine av [1, 3, 4, 5, 89, 90] fun k kp hk hp => ?_;refine go ?_;obtain ⟨y25, hc39, hm⟩ := bd hm;refine RP (fun _ => cw 16 (-1) _ hc39) ?_;refine aa ?_;refine go ?_;refine hk _ _ ?_;clear hk hp k kp;have ho40 := aC hm hr3;subst ho40;replace hm : some (.inr (.inr (y25))) = some r2 := hm3;have ho41 := aC hm hr2;subst ho41;replace hm : some (y25) = some r := hm2;refine an ?_;refine ag (ah (bi (ag (ag (aS (bi (ag (aS ?_))))))))
                 cases hm
                 exact kr 0
                ·rw [iN h38] at hm;refine ae rfl (dF h38) ?_;refine aq ?_;refine aH ?_;refine ak (hk8 _ _ ?_);refine cE ?_;refine aO (IntKind.wrap .i64 (x23 + 1)) () hm ?_;exact ls
              ·rw [iN h32] at hm;refine ae rfl (dF h32) ?_;refine bw ?_;have ho42 := aC hm hr3;subst ho42;replace hm : dt x20 = some r2 := hm3;refine aX (aL (az (aH ?_)));refine au () () hm ?_;exact ls
            ·rintro _ _ hm;replace hm : dt x20 = some r2 := hm;refine aP ?_;unfold dt at hm;refine cE ?_;refine aO (IntKind.wrap .i64 (x20 + 1)) () hm ?_;exact ls
           ·rw [iN h30] at hm;refine ae rfl (dF h30) ?_;refine bw ?_;have ho43 := aC hm hr2;subst ho43;replace hm : dr p1 = some r := hm2;refine aX (aL (az ?_));refine au () () hm ?_;exact ls
         ·rintro _ _ hm;replace hm : dr p1 = some r := hm;refine aP ?_;unfold dr at hm;refine aT (S := Unit) (V := Unit) [6, 91, 92, 93, 94, 95, 96, 97, 98, 99, 100, 101, 102, 103, 104, 105, 106, 107] (fun _ _ => []) (fun _ _ => [.box [.int .i64 p1.cells, .int .i64 p1.regs, .int .i64 p1.cost, .tree 1 (p1.put.map (eK .i64)), .tree 1 (p1.bools.map (eK .i64)), .tree 1 (p1.get.map (eK .i64)), .tree 6 (p1.code.map ax.enc)], .box [.int .i64 0, .int .i64 0], .arr 1 0 22 ((lit ([p1.put, p1.bools, p1.get] : List (List Int))).map (eL 1 (eK .i64)))]) (fun _ => dp p1 = some r) ?_ ?_
          ·skip;refine ai [] ?_
           refine aw ?_;obtain ⟨o1, hl1, hm1⟩ := bd hm;refine bl (S := Int) (V := Unit) (O := Unit ⊕ af) [6, 91, 92, 93, 94, 95, 96, 97, 98, 99, 100, 101, 102, 103, 104, 105, 106, 107] (fun x14 _ => [(6, .c (.int .i64 x14))]) (fun x14 _ => [.box [.int .i64 p1.cells, .int .i64 p1.regs, .int .i64 p1.cost, .tree 1 (p1.put.map (eK .i64)), .tree 1 (p1.bools.map (eK .i64)), .tree 1 (p1.get.map (eK .i64)), .tree 6 (p1.code.map ax.enc)], .box [.int .i64 0, .int .i64 0], .arr 1 0 22 ((lit ([p1.put, p1.bools, p1.get] : List (List Int))).map (eL 1 (eK .i64)))]) _ _ () hl1 ?_ ?_
           ·exact ls
           ·rintro x14 _ r1 hm hr1;replace hm : dq p1 x14 = some r1 := hm;refine aP ?_;unfold dq at hm;refine ap fun k4 hk4 => ?_;refine ai [91, 92, 93, 94] ?_
            by_cases h23 : x14 < (p1.code.length : Int)
            ·rw [iP h23] at hm;refine ab rfl (dT h23) ?_;refine aq ?_;refine ak (hk4 _ _ ?_);refine ap fun k5 hk5 => ?_;refine aw ?_;obtain ⟨hg24a, hm⟩ := gd hm;refine pw [95, 98, 99, 100, 101, 102, 103, 104] (by kernel_rfl) [0, 0, 2, 0, 14, 30, 63, 127] [false, false, false, false, false, false, true, true] (by kernel_rfl) fun k hk => ?_;refine gax (em ax.enc p1.code x14.toNat) ?_;obtain ⟨y15, hc25, hm⟩ := bd hm;refine AP (fun _ => n7 p1 (p1.code.getD x14.toNat default) _ hc25) ?_;refine ga ?_;refine hk _ _ ?_;clear hk k
             by_cases h26 : y15 = true
             ·rw [iP h26] at hm;refine ae rfl (by rw [show y15 = true from (h26)]; rfl) ?_;refine aq ?_;refine aH ?_;refine ak (hk5 _ _ ?_);refine cE ?_;refine aO (IntKind.wrap .i64 (x14 + 1)) () hm ?_;exact ls
             ·rw [iN h26] at hm;refine ab rfl (by rw [show y15 = false from (fB h26)]; rfl) ?_;refine av [1, 6, 105, 106, 107] fun k kp hk hp => ?_;refine go ?_;obtain ⟨y16, hc27, hm⟩ := bd hm;refine RP (fun _ => cw 4 x14 _ hc27) ?_;refine aa ?_;refine go ?_;refine hk _ _ ?_;clear hk hp k kp;have ho28 := aC hm hr1;subst ho28;replace hm : some (y16) = some r := hm1;refine an ?_;refine ag (ah (bi (ag (aS ?_))))
              cases hm
              exact kr 0
            ·rw [iN h23] at hm;refine ae rfl (dF h23) ?_;refine bw ?_;have ho29 := aC hm hr1;subst ho29;replace hm : dp p1 = some r := hm1;refine aX (aL (az ?_));refine au () () hm ?_;exact ls
          ·rintro _ _ hm;replace hm : dp p1 = some r := hm;refine aP ?_;unfold dp at hm;refine av [108, 109, 110] fun k kp hk hp => ?_;refine go ?_;obtain ⟨y9, hc17, hm⟩ := bd hm;refine RP (fun _ => m8 p1.code _ hc17) ?_;refine aa ?_;refine go ?_;refine hk _ _ ?_;clear hk hp k kp;refine ap fun k3 hk3 => ?_;refine dj [1, 7, 111, 112, 113, 114, 115, 116, 117, 118, 119, 120, 121, 122, 123] fun k kp hk hp => ?_;refine am 5 ?_;refine go ?_
           by_cases h18 : ¬ p1.cost = y9
           ·rw [iP h18] at hm;have h18b := bne_iff_ne.2 h18;refine aa ?_;refine gox h18b ?_;refine hk _ _ ?_;clear hk hp k kp;refine ab rfl rfl ?_;refine av [124, 125] fun k kp hk hp => ?_;refine go ?_;obtain ⟨y10, hc19, hm⟩ := bd hm;refine RP (fun _ => cw 18 (-1) _ hc19) ?_;refine aa ?_;refine go ?_;refine hk _ _ ?_;clear hk hp k kp;refine an ?_;refine ah ?_
            cases hm
            exact kr 0
           ·rw [iN h18] at hm;have h18b : (p1.cost != y9) = false := bne_eq_false_iff_eq.2 (Decidable.not_not.1 h18)
            by_cases h20 : y9 = 0
            ·rw [iP h20] at hm;have h20b := eQ h20;refine aa ?_;refine gox (a2 h18b h20b) ?_;refine hk _ _ ?_;clear hk hp k kp
             by_cases h21 : (p1.code.length : Int) > 0
             ·rw [iP h21] at hm;refine ab rfl (dT h21) ?_;refine av [124, 125] fun k kp hk hp => ?_;refine go ?_;obtain ⟨y11, hc22, hm⟩ := bd hm;refine RP (fun _ => cw 18 (-1) _ hc22) ?_;refine aa ?_;refine go ?_;refine hk _ _ ?_;clear hk hp k kp;refine an ?_;refine ah ?_
              cases hm
              exact kr 0
             ·rw [iN h21] at hm;refine ae rfl (dF h21) ?_;refine aq ?_;refine ak (hk3 _ _ ?_);refine ai [124, 126] ?_;refine an ?_
              cases hm
              exact kr 0
            ·rw [iN h20] at hm;have h20b := nB h20;refine aa ?_;refine gox (a2 h18b h20b) ?_;refine hk _ _ ?_;clear hk hp k kp;refine ae rfl rfl ?_;refine aq ?_;refine ak (hk3 _ _ ?_);refine ai [124, 126] ?_;refine an ?_
             cases hm
             exact kr 0
theorem kX (p1 : List Int) (r : Int) (hm : ip p1 = some r) : cR Try.prog 15 [.c (.tree 1 (p1.map (eK .u8)))] (.c (.int .u32 r)) := by
 refine aR 37 [.tmp 2] Try.func15 rfl rfl rfl (by kernel_rfl) (by simp) ?_;refine cB ?_;unfold ip at hm;refine ai [2] ?_;refine ai [] ?_;refine aT (S := Int) (V := Unit) [0, 3, 4, 5, 6, 7, 8, 9, 10, 11, 12, 13, 14, 15, 16, 17, 18, 19, 20, 21, 22, 23, 24, 25, 26, 27, 28, 29, 30, 31, 32, 33, 34] (fun x1 _ => [(3, .c (.int .u32 x1))]) (fun x1 _ => []) (fun x1 => fW x1 = some r) ?_ ?_
 ·skip;refine ai [] ?_
  refine aw ?_;obtain ⟨o1, hl1, hm1⟩ := bd hm;refine bl (S := (Int × Int)) (V := Unit) (O := Int) [3, 4, 5, 6, 7, 8, 9, 10, 11, 12, 13, 14, 15, 16, 17, 18, 19, 20, 21, 22, 23, 24, 25, 26, 27, 28, 29, 30, 31, 32, 33, 34] (fun (x6, x7) _ => [(3, .c (.int .u32 x6)), (4, .c (.int .i64 x7))]) (fun (x6, x7) _ => []) _ _ () hl1 ?_ ?_
  ·exact ls
  ·rintro ⟨x6, x7⟩ _ r1 hm hr1;replace hm : dJ p1 x6 x7 = some r1 := hm;refine aP ?_;unfold dJ at hm;refine ap fun k1 hk1 => ?_;refine ai [7, 8, 9] ?_
   by_cases h1 : x7 < (p1.length : Int)
   ·rw [iP h1] at hm;refine ab rfl (dT h1) ?_;refine aq ?_;refine ak (hk1 _ _ ?_);refine aT (S := Int) (V := Unit) [3, 5, 6, 10, 13, 14, 15, 16, 17, 18, 19, 20, 21, 22, 23, 24, 25, 26, 27, 28, 29, 30, 31, 32, 33, 34] (fun x8 _ => [(3, .c (.int .u32 x8))]) (fun x8 _ => []) (fun x8 => fX x7 x8 = some r1) ?_ ?_
    ·skip;refine aw ?_
     refine ai [10] ?_;refine aw ?_;obtain ⟨o2, hl2, hm2⟩ := bd hm;refine bl (S := (Int × Int)) (V := Unit) (O := Int) [3, 5, 6, 13, 14, 15, 16, 17, 18, 19, 20, 21, 22, 23, 24, 25, 26, 27, 28, 29, 30, 31, 32, 33, 34] (fun (x13, x14) _ => [(3, .c (.int .u32 x13)), (5, .c (.int .i64 x14))]) (fun (x13, x14) _ => []) _ _ () hl2 ?_ ?_
     ·exact ls
     ·rintro ⟨x13, x14⟩ _ r2 hm hr2;replace hm : dd p1 x7 x13 x14 = some r2 := hm;refine aP ?_;unfold dd at hm;refine ap fun k2 hk2 => ?_;refine ai [13] ?_
      by_cases h2 : x14 < 8
      ·rw [iP h2] at hm;refine ab rfl (dT h2) ?_;refine aq ?_;refine ak (hk2 _ _ ?_);refine ap fun k3 hk3 => ?_;refine aw ?_;obtain ⟨⟨hg3a, hg3b⟩, hm⟩ := gd hm;refine cS (em (eK .u8) p1 x7.toNat) [14, 17, 18, 19, 20, 21, 22, 23, 24, 25, 26, 27, 28] ?_;refine ai [29, 30] ?_;refine ai [6, 31] ?_
       by_cases h4 : (bits .xor .u32 (bits .and .u32 ((IntKind.wrap .u32 (p1.getD x7.toNat default)).fdiv (2 ^ (min ((IntKind.wrap .u64 x14).toNat) (IntKind.bits .u32)))) 1) (bits .and .u32 x13 1)) = 1
       ·rw [iP h4] at hm;refine ab rfl (eQ h4) ?_;refine cE ?_;refine aH ?_;refine ak (hk3 _ _ ?_);refine cE ?_;refine aO ((bits .xor .u32 (x13.fdiv (2 ^ (min 1 (IntKind.bits .u32)))) 3988292384), (IntKind.wrap .i64 (x14 + 1))) () hm ?_;exact ls
       ·rw [iN h4] at hm;refine ae rfl (nB h4) ?_;refine aq ?_;refine aH ?_;refine ak (hk3 _ _ ?_);refine cE ?_;refine aO ((x13.fdiv (2 ^ (min 1 (IntKind.bits .u32)))), (IntKind.wrap .i64 (x14 + 1))) () hm ?_;exact ls
      ·rw [iN h2] at hm;refine ae rfl (dF h2) ?_;refine bw ?_;have ho5 := aC hm hr2;subst ho5;replace hm : fX x7 x13 = some r1 := hm2;refine aX (aL (az (aH ?_)));refine au x13 () hm ?_;exact ls
    ·rintro x8 _ hm;replace hm : fX x7 x8 = some r1 := hm;refine aP ?_;unfold fX at hm;refine cE ?_;refine aO (x8, (IntKind.wrap .i64 (x7 + 1))) () hm ?_;exact ls
   ·rw [iN h1] at hm;refine ae rfl (dF h1) ?_;refine bw ?_;have ho6 := aC hm hr1;subst ho6;replace hm : fW x6 = some r := hm1;refine aX (aL (az ?_));refine au x6 () hm ?_;exact ls
 ·rintro x1 _ hm;replace hm : fW x1 = some r := hm;refine aP ?_;unfold fW at hm;refine ai [3, 35, 36] ?_;refine an ?_
  cases hm
  exact kr 0
theorem cC (p1 : Int) (p2 : Int) (p3 : ao) (r : (Int × Int)) (hm : bG p1 p2 p3 = some r) : gv Try.prog 38 [.c (.optr 0 0), .c (.int .i64 p1), .c (.int .i64 p2)] [.box [.tree 1 (p3.b.map (eK .u8)), .int .i64 p3.at_, .int .i64 p3.f.code, .int .i64 p3.f.at_]] (fun p σ => (p = .t [] ∧ σ = [.box [.tree 1 (p3.b.map (eK .u8)), .int .i64 p3.at_, .int .i64 r.1, .int .i64 r.2]])) (fun _ _ => False) := by
 refine aR 18 [] Try.func38 rfl rfl rfl (by kernel_rfl) (by simp) ?_;refine cB ?_;unfold bG at hm;refine ai [6, 7, 8, 9, 10] ?_
 by_cases h1 : p3.f.code = 0
 ·rw [iP h1] at hm;refine ab rfl (eQ h1) ?_;refine f9 fun k kp hk hp => ?_;refine go ?_;obtain ⟨y1, hc2, hm⟩ := bd hm;refine RP (fun _ => cw p1 p2 _ hc2) ?_;refine aa ?_;refine go ?_;refine hk _ _ ?_;clear hk hp k kp
  cases hm
  exact kn 1
 ·rw [iN h1] at hm;refine ae rfl (nB h1) ?_;refine aq ?_
  cases hm
  exact kn 1
theorem bk (p1 : ao) (r : (Int × Int × Int × Int)) (hm : aQ p1 = some r) : gv Try.prog 25 [.c (.optr 0 0)] [.box [.tree 1 (p1.b.map (eK .u8)), .int .i64 p1.at_, .int .i64 p1.f.code, .int .i64 p1.f.at_]] (fun p σ => (p = .c (.int .i64 r.1) ∧ σ = [.box [.tree 1 (p1.b.map (eK .u8)), .int .i64 r.2.1, .int .i64 r.2.2.1, .int .i64 r.2.2.2]])) (fun _ _ => False) := by
 refine aR 91 [.tmp 2] Try.func25 rfl rfl rfl (by kernel_rfl) (by simp) ?_;refine cB ?_;unfold aQ at hm;refine ai [2] ?_;refine ai [] ?_;refine aT (S := (Int × Int)) (V := Unit) [0, 2, 3, 4, 5, 6, 7, 8, 9, 10, 11, 12, 13, 14, 15, 16, 17, 18, 19, 20, 21, 22, 23, 24, 25, 26, 27, 28, 29, 30, 31, 32, 33, 34, 35, 36, 37, 38, 39, 40, 41, 42, 43, 44, 45, 46, 47, 48, 49, 50, 51, 52, 53, 54, 55, 56, 57, 58, 59, 60, 61, 62, 63, 64, 65, 66, 67, 68, 69, 70, 71, 72, 73, 74, 75, 76, 77, 78, 79] (fun (x1, x2) _ => [(3, .c (.int .u64 x2))]) (fun (x1, x2) _ => [.box [.tree 1 (p1.b.map (eK .u8)), .int .i64 x1, .int .i64 p1.f.code, .int .i64 p1.f.at_]]) (fun (x1, x2) => bH p1 x1 x2 = some r) ?_ ?_
 ·skip;refine ai [] ?_
  refine aw ?_;obtain ⟨o1, hl1, hm1⟩ := bd hm;refine bl (S := (Int × Int × Int × Int)) (V := Unit) (O := (Int × Int) ⊕ (Int × Int × Int × Int)) [2, 3, 4, 5, 6, 7, 8, 9, 10, 11, 12, 13, 14, 15, 16, 17, 18, 19, 20, 21, 22, 23, 24, 25, 26, 27, 28, 29, 30, 31, 32, 33, 34, 35, 36, 37, 38, 39, 40, 41, 42, 43, 44, 45, 46, 47, 48, 49, 50, 51, 52, 53, 54, 55, 56, 57, 58, 59, 60, 61, 62, 63, 64, 65, 66, 67, 68, 69, 70, 71, 72, 73, 74, 75, 76, 77, 78, 79] (fun (x11, x12, x13, x14) _ => [(3, .c (.int .u64 x12)), (4, .c (.int .u64 x13)), (5, .c (.int .i64 x14))]) (fun (x11, x12, x13, x14) _ => [.box [.tree 1 (p1.b.map (eK .u8)), .int .i64 x11, .int .i64 p1.f.code, .int .i64 p1.f.at_]]) _ _ () hl1 ?_ ?_
  ·exact ls
  ·rintro ⟨x11, x12, x13, x14⟩ _ r1 hm hr1;replace hm : aW p1 x11 x12 x13 x14 = some r1 := hm;refine aP ?_;unfold aW at hm;refine ap fun k2 hk2 => ?_;refine ai [7, 8, 9, 10, 11] ?_
   by_cases h2 : p1.f.code = 0
   ·rw [iP h2] at hm;refine ab rfl (eQ h2) ?_;refine aq ?_;refine ak (hk2 _ _ ?_);refine ap fun k3 hk3 => ?_;refine aw ?_;refine ap fun k4 hk4 => ?_;refine rz [12, 15, 16, 17, 18, 19, 20, 21, 22, 23] [0, 1, 3, 7, 0, 16, 48, 112, 240, 511] [false, false, false, false, false, false, false, false, false, true] ?_
    by_cases h3 : x11 ≥ (p1.b.length : Int)
    ·rw [iP h3] at hm;refine ab rfl (dT h3) ?_;refine av [0, 3, 4, 5, 24, 25, 26, 27, 28, 29, 30, 31] fun k kp hk hp => ?_;refine go ?_;obtain ⟨y15, hc4, hm⟩ := bd hm;refine RA (cC 5 (p1.b.length : Int) (ao.mk p1.b x11 p1.f)  _ hc4) [0] ?_;rintro p σ' ⟨rfl, rfl⟩ _;refine aa ?_;refine go ?_;refine hk _ _ ?_;clear hk hp k kp;refine ai [] ?_;have ho6 := aC hm hr1;subst ho6;replace hm : some (0, x11, y15.1, y15.2) = some r := hm1;refine an ?_;refine ah (ag (ah (bi (ag (aS ?_)))))
     cases hm
     exact kr 1
    ·rw [iN h3] at hm;refine ae rfl (dF h3) ?_;refine aq ?_;refine ak (hk4 _ _ ?_);obtain ⟨hg7a, hm⟩ := gd hm;refine oI (em (eK .u8) p1.b x11.toNat) [24, 32, 33, 34, 35, 36, 37, 38, 39, 40, 41, 42] [0, 1, 3, 7, 0, 16, 48, 112, 255, 511, 1023, 2047] [false, false, false, false, false, false, false, false, true, true, true, true] ?_;refine aT (S := Unit) (V := Unit) [2, 43, 44, 45, 46, 47, 48, 49, 50, 51, 52, 53, 54, 55, 56, 57, 58, 59, 60, 61, 62] (fun _ _ => []) (fun _ _ => [.box [.tree 1 (p1.b.map (eK .u8)), .int .i64 x11, .int .i64 p1.f.code, .int .i64 p1.f.at_]]) (fun _ => bx p1 x11 x12 x13 x14 = some r1) ?_ ?_
     ·skip
      by_cases h10 : x14 = 9
      ·rw [iP h10] at hm;have h10b := eQ h10;refine dj [43, 44, 45, 46, 47, 48, 49, 50, 51, 52, 53, 54, 55] fun k kp hk hp => ?_;refine am 7 ?_;refine gox h10b ?_
       by_cases h11 : (IntKind.wrap .u64 (p1.b.getD x11.toNat default)) > 1
       ·rw [iP h11] at hm;have h11b := dT h11;refine aa ?_;refine gox (a2 h10b h11b) ?_;refine hk _ _ ?_;clear hk hp k kp;refine ab rfl rfl ?_;refine av [0, 3, 4, 5, 6, 56, 57, 58, 59, 60, 61, 62] fun k kp hk hp => ?_;refine go ?_;obtain ⟨y16, hc12, hm⟩ := bd hm;refine RA (cC 2 x11 (ao.mk p1.b x11 p1.f)  _ hc12) [0] ?_;rintro p σ' ⟨rfl, rfl⟩ _;refine aa ?_;refine go ?_;refine hk _ _ ?_;clear hk hp k kp;refine ai [] ?_;have ho14 := aC hm hr1;subst ho14;replace hm : some (0, x11, y16.1, y16.2) = some r := hm1;refine an ?_;refine aS (ag (ah (bi (ag (aS ?_)))))
        cases hm
        exact kr 1
       ·rw [iN h11] at hm;have h11b := dF h11
        by_cases h15 : x14 > 0
        ·rw [iP h15] at hm;have h15b := dT h15;refine aa ?_;refine gox (a2 h10b (a2 h11b h15b)) ?_;refine hk _ _ ?_;clear hk hp k kp
         by_cases h16 : (IntKind.wrap .u64 (p1.b.getD x11.toNat default)) = 0
         ·rw [iP h16] at hm;refine ab rfl (eQ h16) ?_;refine av [0, 3, 4, 5, 6, 56, 57, 58, 59, 60, 61, 62] fun k kp hk hp => ?_;refine go ?_;obtain ⟨y17, hc17, hm⟩ := bd hm;refine RA (cC 2 x11 (ao.mk p1.b x11 p1.f)  _ hc17) [0] ?_;rintro p σ' ⟨rfl, rfl⟩ _;refine aa ?_;refine go ?_;refine hk _ _ ?_;clear hk hp k kp;refine ai [] ?_;have ho19 := aC hm hr1;subst ho19;replace hm : some (0, x11, y17.1, y17.2) = some r := hm1;refine an ?_;refine aS (ag (ah (bi (ag (aS ?_)))))
          cases hm
          exact kr 1
         ·rw [iN h16] at hm;refine ae rfl (nB h16) ?_;refine aq ?_;refine au () () hm ?_;exact ls
        ·rw [iN h15] at hm;have h15b := dF h15;refine aa ?_;refine gox (a2 h10b (a2 h11b h15b)) ?_;refine hk _ _ ?_;clear hk hp k kp;refine ae rfl rfl ?_;refine aq ?_;refine au () () hm ?_;exact ls
      ·rw [iN h10] at hm;have h10b := nB h10;refine dj [43, 44, 45, 46, 47, 48, 49, 50, 51, 52, 53, 54, 55] fun k kp hk hp => ?_;refine am 10 ?_;refine gox h10b ?_
       by_cases h20 : x14 > 0
       ·rw [iP h20] at hm;have h20b := dT h20;refine aa ?_;refine gox (a2 h10b h20b) ?_;refine hk _ _ ?_;clear hk hp k kp
        by_cases h21 : (IntKind.wrap .u64 (p1.b.getD x11.toNat default)) = 0
        ·rw [iP h21] at hm;refine ab rfl (eQ h21) ?_;refine av [0, 3, 4, 5, 6, 56, 57, 58, 59, 60, 61, 62] fun k kp hk hp => ?_;refine go ?_;obtain ⟨y18, hc22, hm⟩ := bd hm;refine RA (cC 2 x11 (ao.mk p1.b x11 p1.f)  _ hc22) [0] ?_;rintro p σ' ⟨rfl, rfl⟩ _;refine aa ?_;refine go ?_;refine hk _ _ ?_;clear hk hp k kp;refine ai [] ?_;have ho24 := aC hm hr1;subst ho24;replace hm : some (0, x11, y18.1, y18.2) = some r := hm1;refine an ?_;refine aS (ag (ah (bi (ag (aS ?_)))))
         cases hm
         exact kr 1
        ·rw [iN h21] at hm;refine ae rfl (nB h21) ?_;refine aq ?_;refine au () () hm ?_;exact ls
       ·rw [iN h20] at hm;have h20b := dF h20;refine aa ?_;refine gox (a2 h10b h20b) ?_;refine hk _ _ ?_;clear hk hp k kp;refine ae rfl rfl ?_;refine aq ?_;refine au () () hm ?_;exact ls
     ·rintro _ _ hm;replace hm : bx p1 x11 x12 x13 x14 = some r1 := hm;refine aP ?_;unfold bx at hm;refine ai [63, 64, 65, 66, 67, 68, 69] ?_;refine ai [70, 71, 72, 73, 74, 75] ?_;refine ai [76, 77] ?_;refine ai [6, 78] ?_
      by_cases h8 : (IntKind.wrap .u64 (p1.b.getD x11.toNat default)) < 128
      ·rw [iP h8] at hm;refine ab rfl (dT h8) ?_;refine bw ?_;have ho9 := aC hm hr1;subst ho9;replace hm : bH p1 (IntKind.wrap .i64 (x11 + 1)) (IntKind.wrap .u64 (x12 + (IntKind.wrap .u64 (((IntKind.wrap .u64 (p1.b.getD x11.toNat default)).tmod 128) * x13)))) = some r := hm1;refine oH (by decide) ?_;refine aX (aL (az ?_));refine au ((IntKind.wrap .i64 (x11 + 1)), (IntKind.wrap .u64 (x12 + (IntKind.wrap .u64 (((IntKind.wrap .u64 (p1.b.getD x11.toNat default)).tmod 128) * x13))))) () hm ?_;exact ls
      ·rw [iN h8] at hm;refine ae rfl (dF h8) ?_;refine aq ?_;refine aH ?_;refine ak (hk3 _ _ ?_);refine cE ?_;refine aO ((IntKind.wrap .i64 (x11 + 1)), (IntKind.wrap .u64 (x12 + (IntKind.wrap .u64 (((IntKind.wrap .u64 (p1.b.getD x11.toNat default)).tmod 128) * x13)))), (IntKind.wrap .u64 (x13 * 128)), (IntKind.wrap .i64 (x14 + 1))) () hm ?_;exact ls
   ·rw [iN h2] at hm;refine ae rfl (nB h2) ?_;refine bw ?_;have ho25 := aC hm hr1;subst ho25;replace hm : bH p1 x11 x12 = some r := hm1;refine aX (aL (az ?_));refine au (x11, x12) () hm ?_;exact ls
 ·rintro ⟨x1, x2⟩ _ hm;replace hm : bH p1 x1 x2 = some r := hm;refine aP ?_;unfold bH at hm;refine ap fun k1 hk1 => ?_;refine ai [80, 81] ?_
  by_cases h1 : (x2.tmod 2) = 1
  ·rw [iP h1] at hm;refine ab rfl (eQ h1) ?_;refine ai [3, 82, 83, 84, 85, 86, 87] ?_;refine an ?_;refine ah ?_
   cases hm
   exact kr 1
  ·rw [iN h1] at hm;refine ae rfl (nB h1) ?_;refine aq ?_;refine ak (hk1 _ _ ?_);refine ai [3, 82, 88, 89, 90] ?_;refine an ?_
   cases hm
   exact kr 1
theorem hO (p1 : Int) (p2 : ao) (r : (Int × Int × Int × Int)) (hm : cg p1 p2 = some r) : gv Try.prog 27 [.c (.optr 0 0), .c (.int .i64 p1)] [.box [.tree 1 (p2.b.map (eK .u8)), .int .i64 p2.at_, .int .i64 p2.f.code, .int .i64 p2.f.at_]] (fun p σ => (p = .c (.int .i64 r.1) ∧ σ = [.box [.tree 1 (p2.b.map (eK .u8)), .int .i64 r.2.1, .int .i64 r.2.2.1, .int .i64 r.2.2.2]])) (fun _ _ => False) := by
 refine aR 49 [.tmp 4] Try.func27 rfl rfl rfl (by kernel_rfl) (by simp) ?_;refine cB ?_;unfold cg at hm;refine ai [4] ?_;refine ai [7, 8, 9, 10] ?_;refine av [11, 12] fun k kp hk hp => ?_;refine go ?_;obtain ⟨y1, hc1, hm⟩ := bd hm;refine RA (bk p2  _ hc1) [0] ?_;rintro p σ' ⟨rfl, rfl⟩ _;refine aa ?_;refine go ?_;refine hk _ _ ?_;clear hk hp k kp;refine aT (S := (Int × Int)) (V := Unit) [1, 5, 13, 14, 15, 16, 17, 18, 19, 20, 21, 22, 23, 24, 25, 26, 27, 28, 29, 30, 31, 32, 33, 34, 35, 36, 37, 38, 39, 40, 41] (fun (x2, x3) _ => []) (fun (x2, x3) _ => [.box [.tree 1 (p2.b.map (eK .u8)), .int .i64 y1.2.1, .int .i64 x2, .int .i64 x3]]) (fun (x2, x3) => bg y1 x2 x3 = some r) ?_ ?_
 ·skip;refine kS [1, 13, 14, 15, 16, 17, 18, 19, 20, 21, 22, 23, 24, 25, 26, 27, 28, 29, 30, 31, 32, 33, 34, 35, 36, 37] (by kernel_rfl) [0, 1, 3, 7, 15, 31, 63, 127, 255, 511, 1023, 1023, 3071, 7167, 15359, 31743, 1023, 66559, 197631, 459775, 1047551, 1023, 4193279, 8388607, 16777215, 33554431] [true, true, true, true, true, true, true, true, true, true, false, false, false, false, false, false, false, false, false, false, false, false, false, true, true, true] (by kernel_rfl) fun k hk => ?_
  refine pB 7 rfl ?_;refine ga ?_
  by_cases h4 : y1.2.2.1 = 0
  ·rw [iP h4] at hm;have h4b := eQ h4
   by_cases h5 : y1.1 < 0
   ·rw [iP h5] at hm;have h5b := dT h5;refine jr ?_;refine gax (a2 h4b h5b) ?_;refine hk _ _ ?_;clear hk k;refine ab rfl rfl ?_;refine f9 fun k kp hk hp => ?_;refine go ?_;obtain ⟨y4, hc6, hm⟩ := bd hm;refine RA (cC 7 p2.at_ (ao.mk p2.b y1.2.1 (af.mk y1.2.2.1 y1.2.2.2))  _ hc6) [0] ?_;rintro p σ' ⟨rfl, rfl⟩ _;refine aa ?_;refine go ?_;refine hk _ _ ?_;clear hk hp k kp;refine au (y4.1, y4.2) () hm ?_;exact ls
   ·rw [iN h5] at hm;have h5b := dF h5;obtain ⟨hg8a, hm⟩ := gd hm;refine jr ?_;refine gax (a2 h4b h5b) ?_;refine hk _ _ ?_;clear hk k
    by_cases h9 : y1.1 > (IntKind.wrap .i64 ((IntKind.wrap .i64 ((p2.b.length : Int) - y1.2.1)).tdiv p1))
    ·rw [iP h9] at hm;refine ab rfl (dT h9) ?_;refine f9 fun k kp hk hp => ?_;refine go ?_;obtain ⟨y5, hc10, hm⟩ := bd hm;refine RA (cC 7 p2.at_ (ao.mk p2.b y1.2.1 (af.mk y1.2.2.1 y1.2.2.2))  _ hc10) [0] ?_;rintro p σ' ⟨rfl, rfl⟩ _;refine aa ?_;refine go ?_;refine hk _ _ ?_;clear hk hp k kp;refine au (y5.1, y5.2) () hm ?_;exact ls
    ·rw [iN h9] at hm;refine ae rfl (dF h9) ?_;refine aq ?_;refine au (y1.2.2.1, y1.2.2.2) () hm ?_;exact ls
  ·rw [iN h4] at hm;have h4b := nB h4;refine jr ?_;refine gax h4b ?_;refine hk _ _ ?_;clear hk k;refine ae rfl rfl ?_;refine aq ?_;refine au (y1.2.2.1, y1.2.2.2) () hm ?_;exact ls
 ·rintro ⟨x2, x3⟩ _ hm;replace hm : bg y1 x2 x3 = some r := hm;refine aP ?_;unfold bg at hm;refine ap fun k1 hk1 => ?_;refine ai [0, 42, 43, 44, 45, 46] ?_
  by_cases h3 : ¬ x2 = 0
  ·rw [iP h3] at hm;refine ab rfl (bne_iff_ne.2 h3) ?_;refine ai [6, 47] ?_;refine an ?_;refine ah ?_
   cases hm
   exact kr 1
  ·rw [iN h3] at hm;refine ae rfl (bne_eq_false_iff_eq.2 (Decidable.not_not.1 h3)) ?_;refine aq ?_;refine ak (hk1 _ _ ?_);refine ai [6, 47, 48] ?_;refine an ?_
   cases hm
   exact kr 1
theorem f5 (p1 : ao) (r : ((List Int) × Int × Int × Int)) (hm : bV p1 = some r) : gv Try.prog 26 [.c (.optr 0 0)] [.box [.tree 1 (p1.b.map (eK .u8)), .int .i64 p1.at_, .int .i64 p1.f.code, .int .i64 p1.f.at_]] (fun p σ => (p = .c (.tree 1 (r.1.map (eK .i64))) ∧ σ = [.box [.tree 1 (p1.b.map (eK .u8)), .int .i64 r.2.1, .int .i64 r.2.2.1, .int .i64 r.2.2.2]])) (fun _ _ => False) := by
 refine aR 27 [.tmp 2] Try.func26 rfl rfl rfl (by kernel_rfl) (by simp) ?_;refine cB ?_;unfold bV at hm;refine ai [2] ?_;refine ai [] ?_;refine av [6, 7] fun k kp hk hp => ?_;refine go ?_;obtain ⟨y1, hc1, hm⟩ := bd hm;refine RA (hO 1 p1  _ hc1) [0] ?_;rintro p σ' ⟨rfl, rfl⟩ _;refine aa ?_;refine go ?_;refine hk _ _ ?_;clear hk hp k kp;refine dI (lk 3 1 3 (by decide) rfl (Nat.le_of_ble_eq_true rfl)) ?_;refine rA ?_;refine aT (S := (Int × Int × Int × (List Int))) (V := Nat) [0, 3, 4, 5, 8, 9, 10, 11, 12, 13, 14, 15, 16, 17, 18, 19, 20, 21, 22, 23, 24, 25] (fun (x4, x5, x6, l7) v8 => [(3, .c (.osl 1 v8 0 l7.length))]) (fun (x4, x5, x6, l7) v8 => [.box [.tree 1 (p1.b.map (eK .u8)), .int .i64 x4, .int .i64 x5, .int .i64 x6], .arr 1 v8 3 (l7.map (eK .i64))]) (fun (x4, x5, x6, l7) => cM x4 x5 x6 l7 = some r) ?_ ?_
 ·skip;refine ai [] ?_
  refine aw ?_;obtain ⟨o1, hl1, hm1⟩ := bd hm;refine bl (S := (Int × Int × Int × (List Int) × Int)) (V := Nat) (O := (Int × Int × Int × (List Int))) [3, 5, 8, 9, 10, 11, 12, 13, 14, 15, 16, 17, 18, 19, 20, 21, 22, 23, 24, 25] (fun (x27, x28, x29, l30, x32) v31 => [(3, .c (.osl 1 v31 0 l30.length)), (5, .c (.int .i64 x32))]) (fun (x27, x28, x29, l30, x32) v31 => [.box [.tree 1 (p1.b.map (eK .u8)), .int .i64 x27, .int .i64 x28, .int .i64 x29], .arr 1 v31 3 (l30.map (eK .i64))]) _ _ 0 hl1 ?_ ?_
  ·exact ls
  ·rintro ⟨x27, x28, x29, l30, x32⟩ v31 r1 hm hr1;replace hm : aE p1 y1 x27 x28 x29 l30 x32 = some r1 := hm;refine aP ?_;unfold aE at hm;refine ap fun k1 hk1 => ?_;refine dj [8, 9, 10, 11, 12, 13, 14, 15, 16, 17] fun k kp hk hp => ?_;refine am 4 ?_;refine go ?_
   by_cases h3 : x32 < y1.1
   ·rw [iP h3] at hm;have h3b := dT h3;refine aa ?_;refine gox h3b ?_;refine hk _ _ ?_;clear hk hp k kp
    by_cases h4 : x28 = 0
    ·rw [iP h4] at hm;refine ab rfl (eQ h4) ?_;refine aq ?_;refine ak (hk1 _ _ ?_);refine ap fun k2 hk2 => ?_;refine aw ?_;refine f9 fun k kp hk hp => ?_;refine go ?_;obtain ⟨y33, hc5, hm⟩ := bd hm;refine RA (bk (ao.mk p1.b x27 (af.mk x28 x29))  _ hc5) [0] ?_;rintro p σ' ⟨rfl, rfl⟩ _;obtain ⟨⟨hg7ax, hg7ay⟩, hm⟩ := gd hm;refine aa ?_;refine go ?_;refine hk _ _ ?_;clear hk hp k kp;refine aH ?_;refine ak (hk2 _ _ ?_);refine cE ?_;refine aO (y33.2.1, y33.2.2.1, y33.2.2.2, (l30 ++ (lit ([y33.1] : List Int))), (IntKind.wrap .i64 (x32 + 1))) (v31 + 1) hm ?_;exact ls
    ·rw [iN h4] at hm;refine ae rfl (nB h4) ?_;refine bw ?_;have ho8 := aC hm hr1;subst ho8;replace hm : cM x27 x28 x29 l30 = some r := hm1;refine aX (aL (az ?_));refine au (x27, x28, x29, l30) v31 hm ?_;exact ls
   ·rw [iN h3] at hm;have h3b := dF h3;refine aa ?_;refine gox h3b ?_;refine hk _ _ ?_;clear hk hp k kp;refine ae rfl rfl ?_;refine bw ?_;have ho9 := aC hm hr1;subst ho9;replace hm : cM x27 x28 x29 l30 = some r := hm1;refine aX (aL (az ?_));refine au (x27, x28, x29, l30) v31 hm ?_;exact ls
 ·rintro ⟨x4, x5, x6, l7⟩ v8 hm;replace hm : cM x4 x5 x6 l7 = some r := hm;refine aP ?_;unfold cM at hm;refine ai [3, 26] ?_;refine lK (aZ 1 rfl) ?_;refine an ?_
  cases hm
  exact kr 1
theorem mC (p1 : List Int) (r : (aj × af)) (hm : hK p1 = some r) : cR Try.prog 12 [.c (.tree 1 (p1.map (eK .u8)))] (.t [.a [.int .i64 ((r.1).cells), .int .i64 ((r.1).regs), .int .i64 ((r.1).cost), .tree 1 (((r.1).put).map (eK .i64)), .tree 1 (((r.1).bools).map (eK .i64)), .tree 1 (((r.1).get).map (eK .i64)), .tree 6 (((r.1).code).map ax.enc)], .a [.int .i64 ((r.2).code), .int .i64 ((r.2).at_)]]) := by
 refine aR 160 [.cell 2 25, .cell 3 31] Try.func12 rfl rfl rfl (by kernel_rfl) (by simp) ?_;refine cB ?_;unfold hK at hm;refine ai [] ?_;refine ap fun k1 hk1 => ?_;refine ai [12, 13] ?_
 by_cases h1 : (p1.length : Int) < 7
 ·rw [iP h1] at hm;refine ab rfl (dT h1) ?_;refine av [0, 14, 15, 16, 17, 18] fun k kp hk hp => ?_;refine go ?_;obtain ⟨y1, hc2, hm⟩ := bd hm;refine RP (fun _ => cw 5 (p1.length : Int) _ hc2) ?_;refine aa ?_;refine go ?_;refine hk _ _ ?_;clear hk hp k kp
  refine dI (dm 0 [.int .i64 0, .int .i64 0, .int .i64 0, .tree 1 ([].map (eK .i64)), .tree 1 ([].map (eK .i64)), .tree 1 ([].map (eK .i64)), .tree 6 ([].map ax.enc)] rfl (by and_intros <;> trivial)) ?_
  refine gr rfl (by simp only [bZ, bL, reduceIte, ↓reduceIte, reduceCtorEq, Int.reduceToNat, Nat.reduceDiv, Nat.reduceMod, Nat.reduceLT, Nat.reduceLeDiff, Nat.reduceAdd, Nat.reduceSub, Nat.reduceMul, Nat.reduceEqDiff, Nat.reduceBEq, Nat.reduceBNe, Nat.reduceGT]; rfl) ?_;refine an ?_;refine ah ?_
  cases hm
  exact kr 0
 ·rw [iN h1] at hm;refine ae rfl (dF h1) ?_;refine aq ?_;refine ak (hk1 _ _ ?_);refine ap fun k2 hk2 => ?_;obtain ⟨hg3a, hm⟩ := gd hm;refine dj [14, 19, 20, 21, 22, 23, 24, 25, 26, 27, 28, 29, 30, 31, 32, 33] fun k kp hk hp => ?_;refine am 5 ?_;refine gox (em (eK .u8) p1 0) ?_
  by_cases h4 : ¬ (p1.getD 0 default) = 76
  ·rw [iP h4] at hm;have h4b := bne_iff_ne.2 h4;refine aa ?_;refine gox h4b ?_;refine hk _ _ ?_;clear hk hp k kp;refine ab rfl rfl ?_;refine av [0, 34, 35, 36] fun k kp hk hp => ?_;refine go ?_;obtain ⟨y2, hc5, hm⟩ := bd hm;refine RP (fun _ => cw 4 0 _ hc5) ?_;refine aa ?_;refine go ?_;refine hk _ _ ?_;clear hk hp k kp
   refine dI (dm 0 [.int .i64 0, .int .i64 0, .int .i64 0, .tree 1 ([].map (eK .i64)), .tree 1 ([].map (eK .i64)), .tree 1 ([].map (eK .i64)), .tree 6 ([].map ax.enc)] rfl (by and_intros <;> trivial)) ?_
   refine gr rfl (by simp only [bZ, bL, reduceIte, ↓reduceIte, reduceCtorEq, Int.reduceToNat, Nat.reduceDiv, Nat.reduceMod, Nat.reduceLT, Nat.reduceLeDiff, Nat.reduceAdd, Nat.reduceSub, Nat.reduceMul, Nat.reduceEqDiff, Nat.reduceBEq, Nat.reduceBNe, Nat.reduceGT]; rfl) ?_;refine an ?_;refine ah ?_
   cases hm
   exact kr 0
  ·rw [iN h4] at hm;have h4b : ((p1.getD 0 default) != 76) = false := bne_eq_false_iff_eq.2 (Decidable.not_not.1 h4);obtain ⟨hg6a, hm⟩ := gd hm;refine am 6 ?_;refine gox (a2 (em (eK .u8) p1 1) h4b) ?_
   by_cases h7 : ¬ (p1.getD 1 default) = 87
   ·rw [iP h7] at hm;have h7b := bne_iff_ne.2 h7;refine aa ?_;refine gox (a2 h4b h7b) ?_;refine hk _ _ ?_;clear hk hp k kp;refine ab rfl rfl ?_;refine av [0, 34, 35, 36] fun k kp hk hp => ?_;refine go ?_;obtain ⟨y3, hc8, hm⟩ := bd hm;refine RP (fun _ => cw 4 0 _ hc8) ?_;refine aa ?_;refine go ?_;refine hk _ _ ?_;clear hk hp k kp
    refine dI (dm 0 [.int .i64 0, .int .i64 0, .int .i64 0, .tree 1 ([].map (eK .i64)), .tree 1 ([].map (eK .i64)), .tree 1 ([].map (eK .i64)), .tree 6 ([].map ax.enc)] rfl (by and_intros <;> trivial)) ?_
    refine gr rfl (by simp only [bZ, bL, reduceIte, ↓reduceIte, reduceCtorEq, Int.reduceToNat, Nat.reduceDiv, Nat.reduceMod, Nat.reduceLT, Nat.reduceLeDiff, Nat.reduceAdd, Nat.reduceSub, Nat.reduceMul, Nat.reduceEqDiff, Nat.reduceBEq, Nat.reduceBNe, Nat.reduceGT]; rfl) ?_;refine an ?_;refine ah ?_
    cases hm
    exact kr 0
   ·rw [iN h7] at hm;have h7b : ((p1.getD 1 default) != 87) = false := bne_eq_false_iff_eq.2 (Decidable.not_not.1 h7);obtain ⟨hg9a, hm⟩ := gd hm;refine aa ?_;refine gox (a2 (em (eK .u8) p1 2) (a2 h4b h7b)) ?_;refine hk _ _ ?_;clear hk hp k kp
    by_cases h10 : ¬ (p1.getD 2 default) = 1
    ·rw [iP h10] at hm;refine ab rfl (bne_iff_ne.2 h10) ?_;refine av [0, 34, 35, 36] fun k kp hk hp => ?_;refine go ?_;obtain ⟨y4, hc11, hm⟩ := bd hm;refine RP (fun _ => cw 4 0 _ hc11) ?_;refine aa ?_;refine go ?_;refine hk _ _ ?_;clear hk hp k kp
     refine dI (dm 0 [.int .i64 0, .int .i64 0, .int .i64 0, .tree 1 ([].map (eK .i64)), .tree 1 ([].map (eK .i64)), .tree 1 ([].map (eK .i64)), .tree 6 ([].map ax.enc)] rfl (by and_intros <;> trivial)) ?_
     refine gr rfl (by simp only [bZ, bL, reduceIte, ↓reduceIte, reduceCtorEq, Int.reduceToNat, Nat.reduceDiv, Nat.reduceMod, Nat.reduceLT, Nat.reduceLeDiff, Nat.reduceAdd, Nat.reduceSub, Nat.reduceMul, Nat.reduceEqDiff, Nat.reduceBEq, Nat.reduceBNe, Nat.reduceGT]; rfl) ?_;refine an ?_;refine ah ?_
     cases hm
     exact kr 0
    ·rw [iN h10] at hm;refine ae rfl (bne_eq_false_iff_eq.2 (Decidable.not_not.1 h10)) ?_;refine aq ?_;refine ak (hk2 _ _ ?_);refine ai [34, 37, 38, 39] ?_;obtain ⟨hg12a, hm⟩ := gd hm;refine av [40, 41, 42, 43] fun k kp hk hp => ?_;refine go ?_;obtain ⟨y5, hc13, hm⟩ := bd hm;refine RP (fun _ => kX (p1.take ((IntKind.wrap .i64 ((p1.length : Int) - 4)).toNat)) _ hc13) ?_;refine aa ?_;refine go ?_;refine hk _ _ ?_;clear hk hp k kp;refine aT (S := Unit) (V := Unit) [5, 6, 44, 45, 46, 47, 48, 49, 50, 51, 52, 53, 54, 55, 56, 57, 58, 59, 60, 61, 62, 63] (fun _ _ => []) (fun _ _ => [.box [.int .i64 0, .int .i64 0, .int .i64 0, .nils, .nils, .nils, .nils], .box [.int .i64 0, .int .i64 0]]) (fun _ => dP p1 = some r) ?_ ?_
     ·skip;refine ai [] ?_
      refine aw ?_;obtain ⟨o2, hl2, hm2⟩ := bd hm;refine bl (S := Int) (V := Unit) (O := Unit ⊕ (aj × af)) [6, 44, 45, 46, 47, 48, 49, 50, 51, 52, 53, 54, 55, 56, 57, 58, 59, 60, 61, 62, 63] (fun x59 _ => [(6, .c (.int .i64 x59))]) (fun x59 _ => [.box [.int .i64 0, .int .i64 0, .int .i64 0, .nils, .nils, .nils, .nils], .box [.int .i64 0, .int .i64 0]]) _ _ () hl2 ?_ ?_
      ·exact ls
      ·rintro x59 _ r2 hm hr2;replace hm : dQ p1 y5 x59 = some r2 := hm;refine aP ?_;unfold dQ at hm;refine ap fun k8 hk8 => ?_;refine ai [44] ?_
       by_cases h51 : x59 < 4
       ·rw [iP h51] at hm;refine ab rfl (dT h51) ?_;refine aq ?_;refine ak (hk8 _ _ ?_);refine ap fun k9 hk9 => ?_;refine aw ?_;obtain ⟨⟨hg52a, hg52b⟩, hm⟩ := gd hm;refine cS (em (eK .u8) p1 ((IntKind.wrap .i64 ((IntKind.wrap .i64 ((p1.length : Int) - 4)) + x59)).toNat)) [45, 48, 49, 50, 51, 52, 53, 54, 55, 56, 57, 58, 59] ?_
        by_cases h53 : ¬ (p1.getD ((IntKind.wrap .i64 ((IntKind.wrap .i64 ((p1.length : Int) - 4)) + x59)).toNat) default) = (IntKind.wrap .u8 (y5.fdiv (2 ^ (min ((IntKind.wrap .u64 (IntKind.wrap .i64 (8 * x59))).toNat) (IntKind.bits .u32)))))
        ·rw [iP h53] at hm;refine ab rfl (bne_iff_ne.2 h53) ?_;refine av [0, 4, 5, 6, 60, 61, 62, 63] fun k kp hk hp => ?_;refine go ?_;obtain ⟨y60, hc54, hm⟩ := bd hm;refine RP (fun _ => cw 19 (IntKind.wrap .i64 ((p1.length : Int) - 4)) _ hc54) ?_;refine aa ?_;refine go ?_;refine hk _ _ ?_;clear hk hp k kp
         refine dI (dm 0 [.int .i64 0, .int .i64 0, .int .i64 0, .tree 1 ([].map (eK .i64)), .tree 1 ([].map (eK .i64)), .tree 1 ([].map (eK .i64)), .tree 6 ([].map ax.enc)] rfl (by and_intros <;> trivial)) ?_
         refine gr rfl (by simp only [bZ, bL, reduceIte, ↓reduceIte, reduceCtorEq, Int.reduceToNat, Nat.reduceDiv, Nat.reduceMod, Nat.reduceLT, Nat.reduceLeDiff, Nat.reduceAdd, Nat.reduceSub, Nat.reduceMul, Nat.reduceEqDiff, Nat.reduceBEq, Nat.reduceBNe, Nat.reduceGT]; rfl) ?_;have ho55 := aC hm hr2;subst ho55;replace hm : some ((aj.mk 0 0 0 [] [] [] []), (y60)) = some r := hm2;refine an ?_;refine ag (ah (bi (ag (aS ?_))))
         cases hm
         exact kr 0
        ·rw [iN h53] at hm;refine ae rfl (bne_eq_false_iff_eq.2 (Decidable.not_not.1 h53)) ?_;refine aq ?_;refine aH ?_;refine ak (hk9 _ _ ?_);refine cE ?_;refine aO (IntKind.wrap .i64 (x59 + 1)) () hm ?_;exact ls
       ·rw [iN h51] at hm;refine ae rfl (dF h51) ?_;refine bw ?_;have ho56 := aC hm hr2;subst ho56;replace hm : dP p1 = some r := hm2;refine aX (aL (az ?_));refine au () () hm ?_;exact ls
     ·rintro _ _ hm;replace hm : dP p1 = some r := hm;refine aP ?_;unfold dP at hm;refine ai [0, 64, 65, 66, 67, 68] ?_;refine ai [69] ?_;refine av [70, 71, 72] fun k kp hk hp => ?_;refine go ?_;obtain ⟨y6, hc14, hm⟩ := bd hm;refine RA (bk (ao.mk (p1.take ((IntKind.wrap .i64 ((p1.length : Int) - 4)).toNat)) 3 (af.mk 0 0))  _ hc14) [2] ?_;rintro p σ' ⟨rfl, rfl⟩ _;refine aa ?_;refine go ?_;refine hk _ _ ?_;clear hk hp k kp;refine av [73, 74, 75] fun k kp hk hp => ?_;refine go ?_;obtain ⟨y7, hc16, hm⟩ := bd hm;refine RA (bk (ao.mk (p1.take ((IntKind.wrap .i64 ((p1.length : Int) - 4)).toNat)) y6.2.1 (af.mk y6.2.2.1 y6.2.2.2))  _ hc16) [2] ?_;rintro p σ' ⟨rfl, rfl⟩ _;refine aa ?_;refine go ?_;refine hk _ _ ?_;clear hk hp k kp;refine av [76, 77, 78] fun k kp hk hp => ?_;refine go ?_;obtain ⟨y8, hc18, hm⟩ := bd hm;refine RA (bk (ao.mk (p1.take ((IntKind.wrap .i64 ((p1.length : Int) - 4)).toNat)) y7.2.1 (af.mk y7.2.2.1 y7.2.2.2))  _ hc18) [2] ?_;rintro p σ' ⟨rfl, rfl⟩ _;refine aa ?_;refine go ?_;refine hk _ _ ?_;clear hk hp k kp;refine av [79, 80, 81] fun k kp hk hp => ?_;refine go ?_;obtain ⟨y9, hc20, hm⟩ := bd hm;refine RA (f5 (ao.mk (p1.take ((IntKind.wrap .i64 ((p1.length : Int) - 4)).toNat)) y8.2.1 (af.mk y8.2.2.1 y8.2.2.2))  _ hc20) [2] ?_;rintro p σ' ⟨rfl, rfl⟩ _;refine aa ?_;refine go ?_;refine hk _ _ ?_;clear hk hp k kp;refine av [82, 83, 84] fun k kp hk hp => ?_;refine go ?_;obtain ⟨y10, hc22, hm⟩ := bd hm;refine RA (f5 (ao.mk (p1.take ((IntKind.wrap .i64 ((p1.length : Int) - 4)).toNat)) y9.2.1 (af.mk y9.2.2.1 y9.2.2.2))  _ hc22) [2] ?_;rintro p σ' ⟨rfl, rfl⟩ _;refine aa ?_;refine go ?_;refine hk _ _ ?_;clear hk hp k kp;refine av [85, 86, 87] fun k kp hk hp => ?_;refine go ?_;obtain ⟨y11, hc24, hm⟩ := bd hm;refine RA (f5 (ao.mk (p1.take ((IntKind.wrap .i64 ((p1.length : Int) - 4)).toNat)) y10.2.1 (af.mk y10.2.2.1 y10.2.2.2))  _ hc24) [2] ?_;rintro p σ' ⟨rfl, rfl⟩ _;refine aa ?_;refine go ?_;refine hk _ _ ?_;clear hk hp k kp;refine av [88, 89] fun k kp hk hp => ?_;refine go ?_;obtain ⟨y12, hc26, hm⟩ := bd hm;refine RA (hO 6 (ao.mk (p1.take ((IntKind.wrap .i64 ((p1.length : Int) - 4)).toNat)) y11.2.1 (af.mk y11.2.2.1 y11.2.2.2))  _ hc26) [2] ?_;rintro p σ' ⟨rfl, rfl⟩ _;refine aa ?_;refine go ?_;refine hk _ _ ?_;clear hk hp k kp;refine lK (mu 3 6 6 50 (by decide) rfl rfl) ?_
      refine aT (S := (Int × Int × Int × (List ax))) (V := Nat) [9, 10, 11, 90, 91, 92, 93, 94, 95, 96, 97, 98, 99, 100, 101, 102, 103, 104, 105, 106, 107, 108, 109, 110, 111, 112, 113, 114, 115, 116, 117, 118, 119, 120, 121, 122, 123, 124, 125, 126, 127] (fun (x15, x16, x17, l18) v19 => []) (fun (x15, x16, x17, l18) v19 => [.box [.int .i64 0, .int .i64 0, .int .i64 0, .nils, .nils, .nils, .nils], .box [.int .i64 0, .int .i64 0], .box [.tree 1 ((p1.take ((IntKind.wrap .i64 ((p1.length : Int) - 4)).toNat)).map (eK .u8)), .int .i64 x15, .int .i64 x16, .int .i64 x17], .box [.int .i64 y6.1, .int .i64 y7.1, .int .i64 y8.1, .tree 1 (y9.1.map (eK .i64)), .tree 1 (y10.1.map (eK .i64)), .tree 1 (y11.1.map (eK .i64)), .osl 4 v19 0 l18.length], .arr 6 v19 50 (l18.map ax.enc)]) (fun (x15, x16, x17, l18) => cp p1 y6 y7 y8 y9 y10 y11 x15 x16 x17 l18 = some r) ?_ ?_
      ·skip;refine ai [] ?_
       refine aw ?_;obtain ⟨o1, hl1, hm1⟩ := bd hm;refine bl (S := (Int × Int × Int × (List ax) × Int)) (V := Nat) (O := (Int × Int × Int × (List ax))) [10, 11, 90, 91, 92, 93, 94, 95, 96, 97, 98, 99, 100, 101, 102, 103, 104, 105, 106, 107, 108, 109, 110, 111, 112, 113, 114, 115, 116, 117, 118, 119, 120, 121, 122, 123, 124, 125, 126, 127] (fun (x41, x42, x43, l44, x46) v45 => [(10, .c (.int .i64 x46))]) (fun (x41, x42, x43, l44, x46) v45 => [.box [.int .i64 0, .int .i64 0, .int .i64 0, .nils, .nils, .nils, .nils], .box [.int .i64 0, .int .i64 0], .box [.tree 1 ((p1.take ((IntKind.wrap .i64 ((p1.length : Int) - 4)).toNat)).map (eK .u8)), .int .i64 x41, .int .i64 x42, .int .i64 x43], .box [.int .i64 y6.1, .int .i64 y7.1, .int .i64 y8.1, .tree 1 (y9.1.map (eK .i64)), .tree 1 (y10.1.map (eK .i64)), .tree 1 (y11.1.map (eK .i64)), .osl 4 v45 0 l44.length], .arr 6 v45 50 (l44.map ax.enc)]) _ _ 0 hl1 ?_ ?_
       ·exact ls
       ·rintro ⟨x41, x42, x43, l44, x46⟩ v45 r1 hm hr1;replace hm : bj p1 y12 x41 x42 x43 l44 x46 = some r1 := hm;refine aP ?_;unfold bj at hm;refine ap fun k6 hk6 => ?_;refine dj [90, 91, 92, 93, 94, 95, 96, 97, 98, 99] fun k kp hk hp => ?_;refine am 4 ?_;refine go ?_
        by_cases h34 : x46 < y12.1
        ·rw [iP h34] at hm;have h34b := dT h34;refine aa ?_;refine gox h34b ?_;refine hk _ _ ?_;clear hk hp k kp
         by_cases h35 : x42 = 0
         ·rw [iP h35] at hm;refine ab rfl (eQ h35) ?_;refine aq ?_;refine ak (hk6 _ _ ?_);refine ap fun k7 hk7 => ?_;refine aw ?_;refine ai [100, 103] ?_;refine av [104, 105, 106] fun k kp hk hp => ?_;refine go ?_;obtain ⟨y47, hc36, hm⟩ := bd hm;refine RA (bk (ao.mk (p1.take ((IntKind.wrap .i64 ((p1.length : Int) - 4)).toNat)) x41 (af.mk x42 x43))  _ hc36) [2] ?_;rintro p σ' ⟨rfl, rfl⟩ _;refine aa ?_;refine go ?_;refine hk _ _ ?_;clear hk hp k kp;refine av [107, 108, 109] fun k kp hk hp => ?_;refine go ?_;obtain ⟨y48, hc38, hm⟩ := bd hm;refine RA (bk (ao.mk (p1.take ((IntKind.wrap .i64 ((p1.length : Int) - 4)).toNat)) y47.2.1 (af.mk y47.2.2.1 y47.2.2.2))  _ hc38) [2] ?_;rintro p σ' ⟨rfl, rfl⟩ _;refine aa ?_;refine go ?_;refine hk _ _ ?_;clear hk hp k kp;refine av [110, 111, 112] fun k kp hk hp => ?_;refine go ?_;obtain ⟨y49, hc40, hm⟩ := bd hm;refine RA (bk (ao.mk (p1.take ((IntKind.wrap .i64 ((p1.length : Int) - 4)).toNat)) y48.2.1 (af.mk y48.2.2.1 y48.2.2.2))  _ hc40) [2] ?_;rintro p σ' ⟨rfl, rfl⟩ _;refine aa ?_;refine go ?_;refine hk _ _ ?_;clear hk hp k kp;refine av [113, 114, 115] fun k kp hk hp => ?_;refine go ?_;obtain ⟨y50, hc42, hm⟩ := bd hm;refine RA (bk (ao.mk (p1.take ((IntKind.wrap .i64 ((p1.length : Int) - 4)).toNat)) y49.2.1 (af.mk y49.2.2.1 y49.2.2.2))  _ hc42) [2] ?_;rintro p σ' ⟨rfl, rfl⟩ _;refine aa ?_;refine go ?_;refine hk _ _ ?_;clear hk hp k kp;refine av [116, 117, 118] fun k kp hk hp => ?_;refine go ?_;obtain ⟨y51, hc44, hm⟩ := bd hm;refine RA (bk (ao.mk (p1.take ((IntKind.wrap .i64 ((p1.length : Int) - 4)).toNat)) y50.2.1 (af.mk y50.2.2.1 y50.2.2.2))  _ hc44) [2] ?_;rintro p σ' ⟨rfl, rfl⟩ _;refine aa ?_;refine go ?_;refine hk _ _ ?_;clear hk hp k kp;refine av [119, 120, 121] fun k kp hk hp => ?_;refine go ?_;obtain ⟨y52, hc46, hm⟩ := bd hm;refine RA (bk (ao.mk (p1.take ((IntKind.wrap .i64 ((p1.length : Int) - 4)).toNat)) y51.2.1 (af.mk y51.2.2.1 y51.2.2.2))  _ hc46) [2] ?_;rintro p σ' ⟨rfl, rfl⟩ _;refine aa ?_;refine go ?_;refine hk _ _ ?_;clear hk hp k kp;obtain ⟨⟨hg48ax, hg48ay⟩, hm⟩ := gd hm;refine cE ?_;refine aH ?_;refine ak (hk7 _ _ ?_);refine cE ?_;refine aO (y52.2.1, y52.2.2.1, y52.2.2.2, (l44 ++ (lit ([(ax.mk y47.1 y48.1 y49.1 y50.1 y51.1 y52.1)] : List ax))), (IntKind.wrap .i64 (x46 + 1))) (v45 + 1) hm ?_;exact ls
         ·rw [iN h35] at hm;refine ae rfl (nB h35) ?_;refine bw ?_;have ho49 := aC hm hr1;subst ho49;replace hm : cp p1 y6 y7 y8 y9 y10 y11 x41 x42 x43 l44 = some r := hm1;refine aX (aL (az ?_));refine au (x41, x42, x43, l44) v45 hm ?_;exact ls
        ·rw [iN h34] at hm;have h34b := dF h34;refine aa ?_;refine gox h34b ?_;refine hk _ _ ?_;clear hk hp k kp;refine ae rfl rfl ?_;refine bw ?_;have ho50 := aC hm hr1;subst ho50;replace hm : cp p1 y6 y7 y8 y9 y10 y11 x41 x42 x43 l44 = some r := hm1;refine aX (aL (az ?_));refine au (x41, x42, x43, l44) v45 hm ?_;exact ls
      ·rintro ⟨x15, x16, x17, l18⟩ v19 hm;replace hm : cp p1 y6 y7 y8 y9 y10 y11 x15 x16 x17 l18 = some r := hm;refine aP ?_;unfold cp at hm;refine ap fun k3 hk3 => ?_;refine ai [128, 129, 130, 131, 132] ?_
       by_cases h28 : ¬ x16 = 0
       ·rw [iP h28] at hm;refine ab rfl (bne_iff_ne.2 h28) ?_;refine nY [4, 7, 8, 133, 134, 135, 136, 137, 138] (by kernel_rfl) [0] [0, 0, 2, 6, 14, 1, 63] [false, false, false, false, false, false, true] [false, false, false, false, false, true, false] [[], [7], [135], [136], [137], [], []] (by kernel_rfl) fun k hk => ?_;refine gp ?_;refine hk _ _ ?_;clear hk k
        refine dI (dm 0 [.int .i64 0, .int .i64 0, .int .i64 0, .tree 1 ([].map (eK .i64)), .tree 1 ([].map (eK .i64)), .tree 1 ([].map (eK .i64)), .tree 6 ([].map ax.enc)] rfl (by and_intros <;> trivial)) ?_
        refine gr rfl (by simp only [bZ, bL, reduceIte, ↓reduceIte, reduceCtorEq, Int.reduceToNat, Nat.reduceDiv, Nat.reduceMod, Nat.reduceLT, Nat.reduceLeDiff, Nat.reduceAdd, Nat.reduceSub, Nat.reduceMul, Nat.reduceEqDiff, Nat.reduceBEq, Nat.reduceBNe, Nat.reduceGT]; rfl) ?_;refine an ?_;refine ah ?_
        cases hm
        exact kr 0
       ·rw [iN h28] at hm;refine ae rfl (bne_eq_false_iff_eq.2 (Decidable.not_not.1 h28)) ?_;refine aq ?_;refine ak (hk3 _ _ ?_);refine ap fun k4 hk4 => ?_;refine ai [133, 139, 140, 141, 142, 143] ?_
        by_cases h29 : x15 < (IntKind.wrap .i64 ((p1.length : Int) - 4))
        ·rw [iP h29] at hm;refine ab rfl (dT h29) ?_;refine av [4, 7, 8, 144, 145, 146, 147, 148, 149, 150] fun k kp hk hp => ?_;refine go ?_;obtain ⟨y20, hc30, hm⟩ := bd hm;refine RP (fun _ => cw 4 x15 _ hc30) ?_;refine aa ?_;refine go ?_;refine hk _ _ ?_;clear hk hp k kp
         refine dI (dm 0 [.int .i64 0, .int .i64 0, .int .i64 0, .tree 1 ([].map (eK .i64)), .tree 1 ([].map (eK .i64)), .tree 1 ([].map (eK .i64)), .tree 6 ([].map ax.enc)] rfl (by and_intros <;> trivial)) ?_
         refine gr rfl (by simp only [bZ, bL, reduceIte, ↓reduceIte, reduceCtorEq, Int.reduceToNat, Nat.reduceDiv, Nat.reduceMod, Nat.reduceLT, Nat.reduceLeDiff, Nat.reduceAdd, Nat.reduceSub, Nat.reduceMul, Nat.reduceEqDiff, Nat.reduceBEq, Nat.reduceBNe, Nat.reduceGT]; rfl) ?_;refine an ?_;refine ah ?_
         cases hm
         exact kr 0
        ·rw [iN h29] at hm;refine ae rfl (dF h29) ?_;refine aq ?_;refine ak (hk4 _ _ ?_);refine ap fun k5 hk5 => ?_;refine av [7, 144, 151, 152, 153] fun k kp hk hp => ?_;refine go ?_;refine aK (aZ 4 rfl) ?_;refine gt ?_;obtain ⟨y21, hc31, hm⟩ := bd hm;refine RP (fun _ => iQ (aj.mk y6.1 y7.1 y8.1 y9.1 y10.1 y11.1 l18) _ hc31) ?_;refine aa ?_;refine go ?_;refine hk _ _ ?_;clear hk hp k kp
         by_cases h32 : ¬ ((y21).code) = 0
         ·rw [iP h32] at hm;refine ab rfl (bne_iff_ne.2 h32) ?_;refine av [4, 8, 154, 155, 156, 157] fun k kp hk hp => ?_;refine go ?_;obtain ⟨y22, hc33, hm⟩ := bd hm;refine RP (fun _ => cw 18 (IntKind.wrap .i64 ((p1.length : Int) - 4)) _ hc33) ?_;refine aa ?_;refine go ?_;refine hk _ _ ?_;clear hk hp k kp
          refine dI (dm 0 [.int .i64 0, .int .i64 0, .int .i64 0, .tree 1 ([].map (eK .i64)), .tree 1 ([].map (eK .i64)), .tree 1 ([].map (eK .i64)), .tree 6 ([].map ax.enc)] rfl (by and_intros <;> trivial)) ?_
          refine gr rfl (by simp only [bZ, bL, reduceIte, ↓reduceIte, reduceCtorEq, Int.reduceToNat, Nat.reduceDiv, Nat.reduceMod, Nat.reduceLT, Nat.reduceLeDiff, Nat.reduceAdd, Nat.reduceSub, Nat.reduceMul, Nat.reduceEqDiff, Nat.reduceBEq, Nat.reduceBNe, Nat.reduceGT]; rfl) ?_;refine an ?_;refine ah ?_
          cases hm
          exact kr 0
         ·rw [iN h32] at hm;refine ae rfl (bne_eq_false_iff_eq.2 (Decidable.not_not.1 h32)) ?_;refine aq ?_;refine ak (hk5 _ _ ?_);refine ai [4, 8, 154, 158, 159] ?_;refine an ?_
          cases hm
          exact kr 0
theorem hY (p1 : List Int) (p2 : List Int) (r : Bool) (hm : eV p1 p2 = some r) : cR Try.prog 28 [.c (.tree 1 (p1.map (eK .i64))), .c (.tree 1 (p2.map (eK .i64)))] (.c (.bool r)) := by
 refine aR 26 [.tmp 4] Try.func28 rfl rfl rfl (by kernel_rfl) (by simp) ?_;refine cB ?_;unfold eV at hm;refine ai [4] ?_;refine ap fun k1 hk1 => ?_;refine ai [6, 7, 8, 9] ?_
 by_cases h1 : ¬ (p1.length : Int) = (p2.length : Int)
 ·rw [iP h1] at hm;refine ab rfl (bne_iff_ne.2 h1) ?_;refine ai [0, 1, 10] ?_;refine an ?_;refine ah ?_
  cases hm
  exact kr 0
 ·rw [iN h1] at hm;refine ae rfl (bne_eq_false_iff_eq.2 (Decidable.not_not.1 h1)) ?_;refine aq ?_;refine ak (hk1 _ _ ?_);refine aT (S := Unit) (V := Unit) [0, 1, 4, 5, 10, 11, 12, 13, 14, 15, 16, 17, 18, 19, 20, 21, 22, 23, 24, 25] (fun _ _ => []) (fun _ _ => []) (fun _ => fa = some r) ?_ ?_
  ·skip;refine ai [10] ?_
   refine aw ?_;obtain ⟨o1, hl1, hm1⟩ := bd hm;refine bl (S := Int) (V := Unit) (O := Unit ⊕ Bool) [4, 5, 11, 12, 13, 14, 15, 16, 17, 18, 19, 20, 21, 22, 23, 24, 25] (fun x3 _ => [(5, .c (.int .i64 x3))]) (fun x3 _ => []) _ _ () hl1 ?_ ?_
   ·exact ls
   ·rintro x3 _ r1 hm hr1;replace hm : fb p1 p2 x3 = some r1 := hm;refine aP ?_;unfold fb at hm;refine ap fun k2 hk2 => ?_;refine ai [11, 12, 13] ?_
    by_cases h2 : x3 < (p1.length : Int)
    ·rw [iP h2] at hm;refine ab rfl (dT h2) ?_;refine aq ?_;refine ak (hk2 _ _ ?_);refine ap fun k3 hk3 => ?_;refine aw ?_;obtain ⟨⟨hg3a, hg3b⟩, hm⟩ := gd hm;refine oI (a2 (em (eK .i64) p1 x3.toNat) (em (eK .i64) p2 x3.toNat)) [14, 17, 18, 19, 20, 21, 22, 23, 24] [0, 0, 3, 7, 0, 0, 48, 112, 255] [false, false, false, false, false, false, false, false, true] ?_
     by_cases h4 : ¬ (p1.getD x3.toNat default) = (p2.getD x3.toNat default)
     ·rw [iP h4] at hm;refine ab rfl (bne_iff_ne.2 h4) ?_;refine ai [0, 1, 5, 25] ?_;have ho5 := aC hm hr1;subst ho5;replace hm : some false = some r := hm1;refine an ?_;refine ag (ah (bi (ag (aS ?_))))
      cases hm
      exact kr 0
     ·rw [iN h4] at hm;refine ae rfl (bne_eq_false_iff_eq.2 (Decidable.not_not.1 h4)) ?_;refine aq ?_;refine aH ?_;refine ak (hk3 _ _ ?_);refine cE ?_;refine aO (IntKind.wrap .i64 (x3 + 1)) () hm ?_;exact ls
    ·rw [iN h2] at hm;refine ae rfl (dF h2) ?_;refine bw ?_;have ho6 := aC hm hr1;subst ho6;replace hm : fa = some r := hm1;refine aX (aL (az ?_));refine au () () hm ?_;exact ls
  ·rintro _ _ hm;replace hm : fa = some r := hm;refine aP ?_;unfold fa at hm;refine ai [] ?_;refine an ?_
   cases hm
   exact kr 0
theorem jb (p1 : aj) (p2 : aj) (r : Bool) (hm : fl p1 p2 = some r) : cR Try.prog 13 [.a [.int .i64 p1.cells, .int .i64 p1.regs, .int .i64 p1.cost, .tree 1 (p1.put.map (eK .i64)), .tree 1 (p1.bools.map (eK .i64)), .tree 1 (p1.get.map (eK .i64)), .tree 6 (p1.code.map ax.enc)], .a [.int .i64 p2.cells, .int .i64 p2.regs, .int .i64 p2.cost, .tree 1 (p2.put.map (eK .i64)), .tree 1 (p2.bools.map (eK .i64)), .tree 1 (p2.get.map (eK .i64)), .tree 6 (p2.code.map ax.enc)]] (.c (.bool r)) := by
 refine aR 76 [.tmp 4] Try.func13 rfl rfl rfl (by kernel_rfl) (by simp) ?_;refine cB ?_;unfold fl at hm;refine ai [0, 1, 4] ?_;refine ap fun k1 hk1 => ?_;refine dj [6, 7, 8, 9, 10, 11, 12, 13, 14, 15, 16, 17, 18, 19, 20, 21, 22, 23, 24, 25, 26, 27, 28, 29, 30, 31, 32, 33, 34, 35, 36, 37, 38, 39, 40, 41, 42, 43, 44, 45, 46, 47, 48, 49, 50, 51, 52, 53, 54, 55, 56] fun k kp hk hp => ?_;refine am 6 ?_;refine go ?_
 by_cases h1 : ¬ p1.cells = p2.cells
 ·rw [iP h1] at hm;have h1b := bne_iff_ne.2 h1;refine aa ?_;refine gox h1b ?_;refine hk _ _ ?_;clear hk hp k kp;refine ab rfl rfl ?_;refine ai [2, 3, 57] ?_;refine an ?_;refine ah ?_
  cases hm
  exact kr 0
 ·rw [iN h1] at hm;have h1b : (p1.cells != p2.cells) = false := bne_eq_false_iff_eq.2 (Decidable.not_not.1 h1);refine am 7 ?_;refine gox h1b ?_
  by_cases h2 : ¬ p1.regs = p2.regs
  ·rw [iP h2] at hm;have h2b := bne_iff_ne.2 h2;refine aa ?_;refine gox (a2 h1b h2b) ?_;refine hk _ _ ?_;clear hk hp k kp;refine ab rfl rfl ?_;refine ai [2, 3, 57] ?_;refine an ?_;refine ah ?_
   cases hm
   exact kr 0
  ·rw [iN h2] at hm;have h2b : (p1.regs != p2.regs) = false := bne_eq_false_iff_eq.2 (Decidable.not_not.1 h2);refine am 7 ?_;refine gox (a2 h1b h2b) ?_
   by_cases h3 : ¬ p1.cost = p2.cost
   ·rw [iP h3] at hm;have h3b := bne_iff_ne.2 h3;refine aa ?_;refine gox (a2 h1b (a2 h2b h3b)) ?_;refine hk _ _ ?_;clear hk hp k kp;refine ab rfl rfl ?_;refine ai [2, 3, 57] ?_;refine an ?_;refine ah ?_
    cases hm
    exact kr 0
   ·rw [iN h3] at hm;have h3b : (p1.cost != p2.cost) = false := bne_eq_false_iff_eq.2 (Decidable.not_not.1 h3);refine aa ?_;refine gox (a2 h1b (a2 h2b h3b)) ?_;obtain ⟨y1, hc4, hm⟩ := bd hm;refine RP (fun _ => hY p1.put p2.put _ hc4) ?_
    by_cases h5 : y1 = true
    ·rw [iP h5] at hm;have h5b := h5
     have h5c : (!y1) = false := by rw [h5b]; rfl
     refine aa ?_;refine gox (a2 h1b (a2 h2b (a2 h3b (a2 h5b h5c)))) ?_;obtain ⟨y2, hc6, hm⟩ := bd hm;refine RP (fun _ => hY p1.bools p2.bools _ hc6) ?_
     by_cases h7 : y2 = true
     ·rw [iP h7] at hm;have h7b := h7
      have h7c : (!y2) = false := by rw [h7b]; rfl
      refine aa ?_;refine gox (a2 h1b (a2 h2b (a2 h3b (a2 h5b (a2 h5c (a2 h7b h7c)))))) ?_;obtain ⟨y3, hc8, hm⟩ := bd hm;refine RP (fun _ => hY p1.get p2.get _ hc8) ?_
      by_cases h9 : y3 = true
      ·rw [iP h9] at hm;have h9b := h9
       have h9c : (!y3) = false := by rw [h9b]; rfl
       refine aa ?_;refine gox (a2 h1b (a2 h2b (a2 h3b (a2 h5b (a2 h5c (a2 h7b (a2 h7c (a2 h9b h9c)))))))) ?_;refine hk _ _ ?_;clear hk hp k kp
       by_cases h10 : ¬ (p1.code.length : Int) = (p2.code.length : Int)
       ·rw [iP h10] at hm;refine ab rfl (bne_iff_ne.2 h10) ?_;refine ai [2, 3, 57] ?_;refine an ?_;refine ah ?_
        cases hm
        exact kr 0
       ·rw [iN h10] at hm;refine ae rfl (bne_eq_false_iff_eq.2 (Decidable.not_not.1 h10)) ?_;refine aq ?_;refine ak (hk1 _ _ ?_);refine aT (S := Unit) (V := Unit) [2, 3, 4, 5, 57, 58, 59, 60, 61, 62, 63, 64, 65, 66, 67, 68, 69, 70, 71, 72, 73, 74, 75] (fun _ _ => []) (fun _ _ => [.box [.int .i64 p1.cells, .int .i64 p1.regs, .int .i64 p1.cost, .tree 1 (p1.put.map (eK .i64)), .tree 1 (p1.bools.map (eK .i64)), .tree 1 (p1.get.map (eK .i64)), .tree 6 (p1.code.map ax.enc)], .box [.int .i64 p2.cells, .int .i64 p2.regs, .int .i64 p2.cost, .tree 1 (p2.put.map (eK .i64)), .tree 1 (p2.bools.map (eK .i64)), .tree 1 (p2.get.map (eK .i64)), .tree 6 (p2.code.map ax.enc)]]) (fun _ => eD = some r) ?_ ?_
        ·skip;refine ai [57] ?_
         refine aw ?_;obtain ⟨o1, hl1, hm1⟩ := bd hm;refine bl (S := Int) (V := Unit) (O := Unit ⊕ Bool) [4, 5, 58, 59, 60, 61, 62, 63, 64, 65, 66, 67, 68, 69, 70, 71, 72, 73, 74, 75] (fun x6 _ => [(5, .c (.int .i64 x6))]) (fun x6 _ => [.box [.int .i64 p1.cells, .int .i64 p1.regs, .int .i64 p1.cost, .tree 1 (p1.put.map (eK .i64)), .tree 1 (p1.bools.map (eK .i64)), .tree 1 (p1.get.map (eK .i64)), .tree 6 (p1.code.map ax.enc)], .box [.int .i64 p2.cells, .int .i64 p2.regs, .int .i64 p2.cost, .tree 1 (p2.put.map (eK .i64)), .tree 1 (p2.bools.map (eK .i64)), .tree 1 (p2.get.map (eK .i64)), .tree 6 (p2.code.map ax.enc)]]) _ _ () hl1 ?_ ?_
         ·exact ls
         ·rintro x6 _ r1 hm hr1;replace hm : eE p1 p2 x6 = some r1 := hm;refine aP ?_;unfold eE at hm;refine ap fun k2 hk2 => ?_;refine ai [58, 59, 60, 61] ?_
          by_cases h11 : x6 < (p1.code.length : Int)
          ·rw [iP h11] at hm;refine ab rfl (dT h11) ?_;refine aq ?_;refine ak (hk2 _ _ ?_);refine ap fun k3 hk3 => ?_;refine aw ?_;obtain ⟨⟨hg12a, hg12b⟩, hm⟩ := gd hm;refine oI (a2 (em ax.enc p1.code x6.toNat) (em ax.enc p2.code x6.toNat)) [62, 65, 66, 67, 68, 69, 70, 71, 72, 73, 74] [0, 1, 0, 7, 15, 0, 32, 0, 224, 480, 1023] [false, false, false, false, false, false, false, false, false, false, true] ?_
           by_cases h13 : ((p1.code.getD x6.toNat default).op) = ((p2.code.getD x6.toNat default).op) ∧ ((p1.code.getD x6.toNat default).k) = ((p2.code.getD x6.toNat default).k) ∧ ((p1.code.getD x6.toNat default).r_) = ((p2.code.getD x6.toNat default).r_) ∧ ((p1.code.getD x6.toNat default).a) = ((p2.code.getD x6.toNat default).a) ∧ ((p1.code.getD x6.toNat default).b) = ((p2.code.getD x6.toNat default).b) ∧ ((p1.code.getD x6.toNat default).n) = ((p2.code.getD x6.toNat default).n)
           ·rw [iP h13] at hm;refine ae rfl (by rw [show ((((p1.code.getD x6.toNat default).op) == ((p2.code.getD x6.toNat default).op)) && ((((p1.code.getD x6.toNat default).k) == ((p2.code.getD x6.toNat default).k)) && ((((p1.code.getD x6.toNat default).r_) == ((p2.code.getD x6.toNat default).r_)) && ((((p1.code.getD x6.toNat default).a) == ((p2.code.getD x6.toNat default).a)) && ((((p1.code.getD x6.toNat default).b) == ((p2.code.getD x6.toNat default).b)) && (((p1.code.getD x6.toNat default).n) == ((p2.code.getD x6.toNat default).n))))))) = true from (by simpa [Bool.and_eq_true] using h13)]; rfl) ?_;refine aq ?_;refine aH ?_;refine ak (hk3 _ _ ?_);refine cE ?_;refine aO (IntKind.wrap .i64 (x6 + 1)) () hm ?_;exact ls
           ·rw [iN h13] at hm;refine ab rfl (by rw [show ((((p1.code.getD x6.toNat default).op) == ((p2.code.getD x6.toNat default).op)) && ((((p1.code.getD x6.toNat default).k) == ((p2.code.getD x6.toNat default).k)) && ((((p1.code.getD x6.toNat default).r_) == ((p2.code.getD x6.toNat default).r_)) && ((((p1.code.getD x6.toNat default).a) == ((p2.code.getD x6.toNat default).a)) && ((((p1.code.getD x6.toNat default).b) == ((p2.code.getD x6.toNat default).b)) && (((p1.code.getD x6.toNat default).n) == ((p2.code.getD x6.toNat default).n))))))) = false from (fB (fun hh => h13 (by simpa [Bool.and_eq_true] using hh)))]; rfl) ?_;refine ai [2, 3, 5, 75] ?_;have ho14 := aC hm hr1;subst ho14;replace hm : some false = some r := hm1;refine an ?_;refine ag (ah (bi (ag (aS ?_))))
            cases hm
            exact kr 0
          ·rw [iN h11] at hm;refine ae rfl (dF h11) ?_;refine bw ?_;have ho15 := aC hm hr1;subst ho15;replace hm : eD = some r := hm1;refine aX (aL (az ?_));refine au () () hm ?_;exact ls
        ·rintro _ _ hm;replace hm : eD = some r := hm;refine aP ?_;unfold eD at hm;refine ai [] ?_;refine an ?_
         cases hm
         exact kr 0
      ·rw [iN h9] at hm;have h9b := fB h9
       have h9c : (!y3) = true := by rw [h9b]; rfl
       refine aa ?_;refine gox (a2 h1b (a2 h2b (a2 h3b (a2 h5b (a2 h5c (a2 h7b (a2 h7c (a2 h9b h9c)))))))) ?_;refine hk _ _ ?_;clear hk hp k kp;refine ab rfl rfl ?_;refine ai [2, 3, 57] ?_;refine an ?_;refine ah ?_
       cases hm
       exact kr 0
     ·rw [iN h7] at hm;have h7b := fB h7
      have h7c : (!y2) = true := by rw [h7b]; rfl
      refine aa ?_;refine gox (a2 h1b (a2 h2b (a2 h3b (a2 h5b (a2 h5c (a2 h7b h7c)))))) ?_;refine hk _ _ ?_;clear hk hp k kp;refine ab rfl rfl ?_;refine ai [2, 3, 57] ?_;refine an ?_;refine ah ?_
      cases hm
      exact kr 0
    ·rw [iN h5] at hm;have h5b := fB h5
     have h5c : (!y1) = true := by rw [h5b]; rfl
     refine aa ?_;refine gox (a2 h1b (a2 h2b (a2 h3b (a2 h5b h5c)))) ?_;refine hk _ _ ?_;clear hk hp k kp;refine ab rfl rfl ?_;refine ai [2, 3, 57] ?_;refine an ?_;refine ah ?_
     cases hm
     exact kr 0
theorem dB (p1 : Int) (r : (List Int)) (hm : cy p1 = some r) : cR Try.prog 29 [.c (.int .i64 p1)] (.c (.tree 1 (r.map (eK .u8)))) := by
 refine aR 32 [.tmp 2] Try.func29 rfl rfl rfl (by kernel_rfl) (by simp) ?_;refine cB ?_;unfold cy at hm;refine ai [2] ?_;refine ai [5, 6, 7] ?_;refine aT (S := Int) (V := Unit) [0, 3, 8, 9, 10, 11, 12, 13, 14, 15] (fun x1 _ => [(3, .c (.int .u64 x1))]) (fun x1 _ => []) (fun x1 => dA x1 = some r) ?_ ?_
 ·skip;refine ai [8] ?_
  by_cases h5 : p1 < 0
  ·rw [iP h5] at hm;refine ab rfl (dT h5) ?_;refine cE ?_;refine au (IntKind.wrap .u64 ((IntKind.wrap .u64 ((IntKind.wrap .u64 (IntKind.wrap .i64 (0 - (IntKind.wrap .i64 (p1 + 1))))) * 2)) + 1)) () hm ?_;exact ls
  ·rw [iN h5] at hm;refine ae rfl (dF h5) ?_;refine aq ?_;refine au (IntKind.wrap .u64 ((IntKind.wrap .u64 p1) * 2)) () hm ?_;exact ls
 ·rintro x1 _ hm;replace hm : dA x1 = some r := hm;refine aP ?_;unfold dA at hm;refine ai [] ?_;refine dI (lk 4 1 5 (by decide) rfl (Nat.le_of_ble_eq_true rfl)) ?_;refine rA ?_;refine aT (S := ((List Int) × Int)) (V := Nat) [3, 4, 16, 17, 18, 19, 20, 21, 22, 23, 24, 25, 26] (fun (l4, x6) v5 => [(3, .c (.int .u64 x6)), (4, .c (.osl 0 v5 0 l4.length))]) (fun (l4, x6) v5 => [.arr 1 v5 5 (l4.map (eK .u8))]) (fun (l4, x6) => dV l4 x6 = some r) ?_ ?_
  ·skip;refine aw ?_
   obtain ⟨o1, hl1, hm1⟩ := bd hm;refine bl (S := ((List Int) × Int)) (V := Nat) (O := ((List Int) × Int)) [3, 4, 16, 17, 18, 19, 20, 21, 22, 23, 24, 25, 26] (fun (l19, x21) v20 => [(3, .c (.int .u64 x21)), (4, .c (.osl 0 v20 0 l19.length))]) (fun (l19, x21) v20 => [.arr 1 v20 5 (l19.map (eK .u8))]) _ _ 0 hl1 ?_ ?_
   ·exact ls
   ·rintro ⟨l19, x21⟩ v20 r1 hm hr1;replace hm : cx l19 x21 = some r1 := hm;refine aP ?_;unfold cx at hm;refine ap fun k1 hk1 => ?_;refine ai [16] ?_
    by_cases h2 : x21 ≥ 128
    ·rw [iP h2] at hm;refine ab rfl (dT h2) ?_;refine aq ?_;refine ak (hk1 _ _ ?_);refine aw ?_;obtain ⟨⟨hg3ax, hg3ay⟩, hm⟩ := gd hm;refine ai [17, 18, 19, 20, 21, 22, 23, 24] ?_;refine ib [.arr 1 (v20 + 1) 5 ((l19 ++ (lit ([(IntKind.wrap .u8 (IntKind.wrap .u64 ((x21.tmod 128) + 128)))] : List Int))).map (eK .u8)), .arr 1 0 5 ((lit ([(IntKind.wrap .u8 (IntKind.wrap .u64 ((x21.tmod 128) + 128)))] : List Int)).map (eK .u8))] ?_;refine cE ?_;refine aH ?_;refine aO ((l19 ++ (lit ([(IntKind.wrap .u8 (IntKind.wrap .u64 ((x21.tmod 128) + 128)))] : List Int))), (IntKind.wrap .u64 (x21.tdiv 128))) (v20 + 1) hm ?_;exact ls
    ·rw [iN h2] at hm;refine ae rfl (dF h2) ?_;refine bw ?_;have ho4 := aC hm hr1;subst ho4;replace hm : dV l19 x21 = some r := hm1;refine aX (aL (az ?_));refine au (l19, x21) v20 hm ?_;exact ls
  ·rintro ⟨l4, x6⟩ v5 hm;replace hm : dV l4 x6 = some r := hm;refine aP ?_;unfold dV at hm;obtain ⟨⟨hg1ax, hg1ay⟩, hm⟩ := gd hm;refine ai [3, 4, 27, 28, 29, 30, 31] ?_;refine ib [.arr 1 (v5 + 1) 5 ((l4 ++ (lit ([(IntKind.wrap .u8 x6)] : List Int))).map (eK .u8)), .arr 1 0 5 ((lit ([(IntKind.wrap .u8 x6)] : List Int)).map (eK .u8))] ?_;refine lK (aZ 0 rfl) ?_;refine an ?_
   cases hm
   exact kr 0
theorem gQ (p1 : List Int) (p2 : List Int) (pv3 : Nat) (r : ((List Int) × Nat)) (hm : eh p1 p2 pv3 = some r) : gv Try.prog 30 [.c (.osl 0 pv3 0 p2.length), .c (.tree 1 (p1.map (eK .i64)))] [.arr 1 pv3 5 (p2.map (eK .u8))] (fun p σ => (p = .c (.osl 0 r.2 0 r.1.length) ∧ σ = [.arr 1 r.2 5 (r.1.map (eK .u8))])) (fun _ _ => False) := by
 refine aR 25 [.tmp 4] Try.func30 rfl rfl rfl (by kernel_rfl) (by simp) ?_;refine cB ?_;unfold eh at hm;refine ai [4] ?_;refine av [6, 7, 8, 9, 10] fun k kp hk hp => ?_;refine go ?_;obtain ⟨y1, hc1, hm⟩ := bd hm;refine RP (fun _ => dB (p1.length : Int) _ hc1) ?_;obtain ⟨⟨hg2ax, hg2ay⟩, hm⟩ := gd hm;refine aa ?_;refine go ?_;refine hk _ _ ?_;clear hk hp k kp;refine ib [.arr 1 (pv3 + 1) 5 ((p2 ++ y1).map (eK .u8))] ?_;refine aT (S := ((List Int) × Nat)) (V := Unit) [0, 1, 5, 11, 12, 13, 14, 15, 16, 17, 18, 19, 20, 21, 22, 23] (fun (l4, v5) _ => [(0, .c (.osl 0 v5 0 l4.length))]) (fun (l4, v5) _ => [.arr 1 v5 5 (l4.map (eK .u8))]) (fun (l4, v5) => eF l4 v5 = some r) ?_ ?_
 ·skip;refine ai [] ?_
  refine aw ?_;obtain ⟨o1, hl1, hm1⟩ := bd hm;refine bl (S := ((List Int) × Nat × Int)) (V := Unit) (O := ((List Int) × Nat)) [0, 5, 11, 12, 13, 14, 15, 16, 17, 18, 19, 20, 21, 22, 23] (fun (l18, v19, x20) _ => [(0, .c (.osl 0 v19 0 l18.length)), (5, .c (.int .i64 x20))]) (fun (l18, v19, x20) _ => [.arr 1 v19 5 (l18.map (eK .u8))]) _ _ () hl1 ?_ ?_
  ·exact ls
  ·rintro ⟨l18, v19, x20⟩ _ r1 hm hr1;replace hm : bW p1 l18 v19 x20 = some r1 := hm;refine aP ?_;unfold bW at hm;refine ap fun k1 hk1 => ?_;refine ai [11, 12, 13] ?_
   by_cases h3 : x20 < (p1.length : Int)
   ·rw [iP h3] at hm;refine ab rfl (dT h3) ?_;refine aq ?_;refine ak (hk1 _ _ ?_);refine ap fun k2 hk2 => ?_;refine aw ?_;obtain ⟨hg4a, hm⟩ := gd hm;refine f9 fun k kp hk hp => ?_;refine gox (em (eK .i64) p1 x20.toNat) ?_;obtain ⟨y21, hc5, hm⟩ := bd hm;refine RP (fun _ => dB (p1.getD x20.toNat default) _ hc5) ?_;obtain ⟨⟨hg6ax, hg6ay⟩, hm⟩ := gd hm;refine aa ?_;refine go ?_;refine hk _ _ ?_;clear hk hp k kp;refine aH ?_;refine ak (hk2 _ _ ?_);refine cE ?_;refine aO ((l18 ++ y21), v19 + 1, (IntKind.wrap .i64 (x20 + 1))) () hm ?_;exact ls
   ·rw [iN h3] at hm;refine ae rfl (dF h3) ?_;refine bw ?_;have ho7 := aC hm hr1;subst ho7;replace hm : eF l18 v19 = some r := hm1;refine aX (aL (az ?_));refine au (l18, v19) () hm ?_;exact ls
 ·rintro ⟨l4, v5⟩ _ hm;replace hm : eF l4 v5 = some r := hm;refine aP ?_;unfold eF at hm;refine ai [0, 24] ?_;refine an ?_
  cases hm
  exact kr 1
theorem mD (p1 : List Int) (v0_ : Nat) (r : Int) (hm : iM p1 = some r) : gv Try.prog 15 [.c (.osl 0 v0_ 0 p1.length)] [.arr 1 v0_ 5 (p1.map (eK .u8))] (fun p σ => (p = .c (.int .u32 r) ∧ σ = [.arr 1 v0_ 5 (p1.map (eK .u8))])) (fun _ _ => False) := by
 refine aR 37 [.tmp 2] Try.func15 rfl rfl rfl (by kernel_rfl) (by simp) ?_;refine cB ?_;unfold iM at hm;refine ai [2] ?_;refine ai [] ?_;refine aT (S := Int) (V := Unit) [0, 3, 4, 5, 6, 7, 8, 9, 10, 11, 12, 13, 14, 15, 16, 17, 18, 19, 20, 21, 22, 23, 24, 25, 26, 27, 28, 29, 30, 31, 32, 33, 34] (fun x1 _ => [(3, .c (.int .u32 x1))]) (fun x1 _ => [.arr 1 v0_ 5 (p1.map (eK .u8))]) (fun x1 => fG x1 = some r) ?_ ?_
 ·skip;refine ai [] ?_
  refine aw ?_;obtain ⟨o1, hl1, hm1⟩ := bd hm;refine bl (S := (Int × Int)) (V := Unit) (O := Int) [0, 3, 4, 5, 6, 7, 8, 9, 10, 11, 12, 13, 14, 15, 16, 17, 18, 19, 20, 21, 22, 23, 24, 25, 26, 27, 28, 29, 30, 31, 32, 33, 34] (fun (x6, x7) _ => [(0, .c (.osl 0 v0_ 0 p1.length)), (3, .c (.int .u32 x6)), (4, .c (.int .i64 x7))]) (fun (x6, x7) _ => [.arr 1 v0_ 5 (p1.map (eK .u8))]) _ _ () hl1 ?_ ?_
  ·exact ls
  ·rintro ⟨x6, x7⟩ _ r1 hm hr1;replace hm : iD p1 x6 x7 = some r1 := hm;refine aP ?_;unfold iD at hm;refine ap fun k1 hk1 => ?_;refine ai [7, 8, 9] ?_
   by_cases h1 : x7 < (p1.length : Int)
   ·rw [iP h1] at hm;refine ab rfl (dT h1) ?_;refine aq ?_;refine ak (hk1 _ _ ?_);refine aT (S := Int) (V := Unit) [0, 3, 5, 6, 10, 13, 14, 15, 16, 17, 18, 19, 20, 21, 22, 23, 24, 25, 26, 27, 28, 29, 30, 31, 32, 33, 34] (fun x8 _ => [(0, .c (.osl 0 v0_ 0 p1.length)), (3, .c (.int .u32 x8))]) (fun x8 _ => [.arr 1 v0_ 5 (p1.map (eK .u8))]) (fun x8 => fH x7 x8 = some r1) ?_ ?_
    ·skip;refine aw ?_
     refine ai [10] ?_;refine aw ?_;obtain ⟨o2, hl2, hm2⟩ := bd hm;refine bl (S := (Int × Int)) (V := Unit) (O := Int) [0, 3, 5, 6, 13, 14, 15, 16, 17, 18, 19, 20, 21, 22, 23, 24, 25, 26, 27, 28, 29, 30, 31, 32, 33, 34] (fun (x13, x14) _ => [(0, .c (.osl 0 v0_ 0 p1.length)), (3, .c (.int .u32 x13)), (5, .c (.int .i64 x14))]) (fun (x13, x14) _ => [.arr 1 v0_ 5 (p1.map (eK .u8))]) _ _ () hl2 ?_ ?_
     ·exact ls
     ·rintro ⟨x13, x14⟩ _ r2 hm hr2;replace hm : iC p1 x7 x13 x14 = some r2 := hm;refine aP ?_;unfold iC at hm;refine ap fun k2 hk2 => ?_;refine ai [13] ?_
      by_cases h2 : x14 < 8
      ·rw [iP h2] at hm;refine ab rfl (dT h2) ?_;refine aq ?_;refine ak (hk2 _ _ ?_);refine ap fun k3 hk3 => ?_;refine aw ?_;obtain ⟨⟨hg3a, hg3b⟩, hm⟩ := gd hm;refine cS (em (eK .u8) p1 x7.toNat) [14, 17, 18, 19, 20, 21, 22, 23, 24, 25, 26, 27, 28] ?_;refine ai [29, 30] ?_;refine ai [6, 31] ?_
       by_cases h4 : (bits .xor .u32 (bits .and .u32 ((IntKind.wrap .u32 (p1.getD x7.toNat default)).fdiv (2 ^ (min ((IntKind.wrap .u64 x14).toNat) (IntKind.bits .u32)))) 1) (bits .and .u32 x13 1)) = 1
       ·rw [iP h4] at hm;refine ab rfl (eQ h4) ?_;refine cE ?_;refine aH ?_;refine ak (hk3 _ _ ?_);refine cE ?_;refine aO ((bits .xor .u32 (x13.fdiv (2 ^ (min 1 (IntKind.bits .u32)))) 3988292384), (IntKind.wrap .i64 (x14 + 1))) () hm ?_;exact ls
       ·rw [iN h4] at hm;refine ae rfl (nB h4) ?_;refine aq ?_;refine aH ?_;refine ak (hk3 _ _ ?_);refine cE ?_;refine aO ((x13.fdiv (2 ^ (min 1 (IntKind.bits .u32)))), (IntKind.wrap .i64 (x14 + 1))) () hm ?_;exact ls
      ·rw [iN h2] at hm;refine ae rfl (dF h2) ?_;refine bw ?_;have ho5 := aC hm hr2;subst ho5;replace hm : fH x7 x13 = some r1 := hm2;refine aX (aL (az (aH ?_)));refine au x13 () hm ?_;exact ls
    ·rintro x8 _ hm;replace hm : fH x7 x8 = some r1 := hm;refine aP ?_;unfold fH at hm;refine cE ?_;refine aO (x8, (IntKind.wrap .i64 (x7 + 1))) () hm ?_;exact ls
   ·rw [iN h1] at hm;refine ae rfl (dF h1) ?_;refine bw ?_;have ho6 := aC hm hr1;subst ho6;replace hm : fG x6 = some r := hm1;refine aX (aL (az ?_));refine au x6 () hm ?_;exact ls
 ·rintro x1 _ hm;replace hm : fG x1 = some r := hm;refine aP ?_;unfold fG at hm;refine ai [3, 35, 36] ?_;refine an ?_
  cases hm
  exact kr 1
theorem mE (p1 : aj) (r : (List Int)) (hm : hM p1 = some r) : cR Try.prog 16 [.a [.int .i64 p1.cells, .int .i64 p1.regs, .int .i64 p1.cost, .tree 1 (p1.put.map (eK .i64)), .tree 1 (p1.bools.map (eK .i64)), .tree 1 (p1.get.map (eK .i64)), .tree 6 (p1.code.map ax.enc)]] (.c (.tree 1 (r.map (eK .u8)))) := by
 refine aR 93 [.tmp 2] Try.func16 rfl rfl rfl (by kernel_rfl) (by simp) ?_;refine cB ?_;unfold hM at hm;refine ai [0, 2] ?_;refine ai [9] ?_;refine ib [.box [.int .i64 p1.cells, .int .i64 p1.regs, .int .i64 p1.cost, .tree 1 (p1.put.map (eK .i64)), .tree 1 (p1.bools.map (eK .i64)), .tree 1 (p1.get.map (eK .i64)), .tree 6 (p1.code.map ax.enc)], .arr 1 0 5 ((lit ([76, 87, 1] : List Int)).map (eK .u8))] ?_;refine av [10, 11, 12, 13, 14] fun k kp hk hp => ?_;refine go ?_;obtain ⟨y1, hc1, hm⟩ := bd hm;refine RP (fun _ => dB p1.cells _ hc1) ?_;obtain ⟨⟨hg2ax, hg2ay⟩, hm⟩ := gd hm;refine aa ?_;refine go ?_;refine hk _ _ ?_;clear hk hp k kp;refine ib [.box [.int .i64 p1.cells, .int .i64 p1.regs, .int .i64 p1.cost, .tree 1 (p1.put.map (eK .i64)), .tree 1 (p1.bools.map (eK .i64)), .tree 1 (p1.get.map (eK .i64)), .tree 6 (p1.code.map ax.enc)], .arr 1 1 5 (((lit ([76, 87, 1] : List Int)) ++ y1).map (eK .u8))] ?_;refine av [15, 16, 17, 18, 19] fun k kp hk hp => ?_;refine go ?_;obtain ⟨y2, hc3, hm⟩ := bd hm;refine RP (fun _ => dB p1.regs _ hc3) ?_;obtain ⟨⟨hg4ax, hg4ay⟩, hm⟩ := gd hm;refine aa ?_;refine go ?_;refine hk _ _ ?_;clear hk hp k kp;refine ib [.box [.int .i64 p1.cells, .int .i64 p1.regs, .int .i64 p1.cost, .tree 1 (p1.put.map (eK .i64)), .tree 1 (p1.bools.map (eK .i64)), .tree 1 (p1.get.map (eK .i64)), .tree 6 (p1.code.map ax.enc)], .arr 1 2 5 ((((lit ([76, 87, 1] : List Int)) ++ y1) ++ y2).map (eK .u8))] ?_;refine av [20, 21, 22, 23, 24] fun k kp hk hp => ?_;refine go ?_;obtain ⟨y3, hc5, hm⟩ := bd hm;refine RP (fun _ => dB p1.cost _ hc5) ?_;obtain ⟨⟨hg6ax, hg6ay⟩, hm⟩ := gd hm;refine aa ?_;refine go ?_;refine hk _ _ ?_;clear hk hp k kp;refine ib [.box [.int .i64 p1.cells, .int .i64 p1.regs, .int .i64 p1.cost, .tree 1 (p1.put.map (eK .i64)), .tree 1 (p1.bools.map (eK .i64)), .tree 1 (p1.get.map (eK .i64)), .tree 6 (p1.code.map ax.enc)], .arr 1 3 5 (((((lit ([76, 87, 1] : List Int)) ++ y1) ++ y2) ++ y3).map (eK .u8))] ?_;refine nY [25, 26, 27, 28, 29, 30, 31, 32, 33, 34] (by kernel_rfl) [1] [0, 0, 2, 7, 0, 16, 63, 0, 128, 511, 1023] [false, false, false, false, false, false, false, false, false, true, true] [false, false, false, true, false, false, true, false, false, false, false] [[], [], [], [], [1], [29], [], [1], [32], [], []] (by kernel_rfl) fun k hk => ?_;refine gp ?_;obtain ⟨y4, hc7, hm⟩ := bd hm
 refine kT (σ2 := [.box [.int .i64 p1.cells, .int .i64 p1.regs, .int .i64 p1.cost, .tree 1 (p1.put.map (eK .i64)), .tree 1 (p1.bools.map (eK .i64)), .tree 1 (p1.get.map (eK .i64)), .tree 6 (p1.code.map ax.enc)], .arr 1 y4.2 5 (y4.1.map (eK .u8))]) (res := .c (.osl 1 y4.2 0 y4.1.length)) ⟨_, _, _, _, [1], gQ p1.put ((((lit ([76, 87, 1] : List Int)) ++ y1) ++ y2) ++ y3) 3  _ hc7, by simp, by simp, by first | rfl | (simp [PV.ren, CV.ren, CV.ren0, cA, lit]; omega), rfl, by first | trivial | (simp [bX, eK, eB, eS, eL, ce, aJ, PV.under, CV.under, ay, OB.under, aA]; done), by first | trivial | (simp [bX, eK, eB, eS, eL, ce, aJ, PV.under, CV.under, ay, OB.under, aA]; done), fun q τ hq _ => by obtain ⟨rfl, rfl⟩ := hq; exact ⟨rfl, rfl⟩, fun _ _ h => h.elim⟩ (by first | trivial | exact cz rfl) (by first | trivial | (intro _; first | trivial | simp [ar]) | simp [ar]) ⟨rfl, by simp only [lH]; and_intros <;> first | exact .inl rfl | exact .inr rfl | trivial⟩ ?_
 refine gp ?_;obtain ⟨y5, hc8, hm⟩ := bd hm
 refine kT (σ2 := [.box [.int .i64 p1.cells, .int .i64 p1.regs, .int .i64 p1.cost, .tree 1 (p1.put.map (eK .i64)), .tree 1 (p1.bools.map (eK .i64)), .tree 1 (p1.get.map (eK .i64)), .tree 6 (p1.code.map ax.enc)], .arr 1 y5.2 5 (y5.1.map (eK .u8))]) (res := .c (.osl 1 y5.2 0 y5.1.length)) ⟨_, _, _, _, [1], gQ p1.bools y4.1 y4.2  _ hc8, by simp, by simp, by first | rfl | (simp [PV.ren, CV.ren, CV.ren0, cA, lit]; omega), rfl, by first | trivial | (simp [bX, eK, eB, eS, eL, ce, aJ, PV.under, CV.under, ay, OB.under, aA]; done), by first | trivial | (simp [bX, eK, eB, eS, eL, ce, aJ, PV.under, CV.under, ay, OB.under, aA]; done), fun q τ hq _ => by obtain ⟨rfl, rfl⟩ := hq; exact ⟨rfl, rfl⟩, fun _ _ h => h.elim⟩ (by first | trivial | exact cz rfl) (by first | trivial | (intro _; first | trivial | simp [ar]) | simp [ar]) ⟨rfl, by simp only [lH]; and_intros <;> first | exact .inl rfl | exact .inr rfl | trivial⟩ ?_
 refine gp ?_;obtain ⟨y6, hc9, hm⟩ := bd hm;refine cap (σ2 := [.box [.int .i64 p1.cells, .int .i64 p1.regs, .int .i64 p1.cost, .tree 1 (p1.put.map (eK .i64)), .tree 1 (p1.bools.map (eK .i64)), .tree 1 (p1.get.map (eK .i64)), .tree 6 (p1.code.map ax.enc)], .arr 1 y6.2 5 (y6.1.map (eK .u8))]) (res := .c (.osl 1 y6.2 0 y6.1.length)) (ct [1] (gQ p1.get y5.1 y5.2  _ hc9)) ?_;refine gp ?_;refine hk _ _ ?_;clear hk k;refine av [35, 36, 37, 38, 39, 40] fun k kp hk hp => ?_;refine go ?_;obtain ⟨y7, hc10, hm⟩ := bd hm;refine RP (fun _ => dB (p1.code.length : Int) _ hc10) ?_;obtain ⟨⟨hg11ax, hg11ay⟩, hm⟩ := gd hm;refine aa ?_;refine go ?_;refine hk _ _ ?_;clear hk hp k kp;refine ib [.box [.int .i64 p1.cells, .int .i64 p1.regs, .int .i64 p1.cost, .tree 1 (p1.put.map (eK .i64)), .tree 1 (p1.bools.map (eK .i64)), .tree 1 (p1.get.map (eK .i64)), .tree 6 (p1.code.map ax.enc)], .arr 1 (y6.2 + 1) 5 ((y6.1 ++ y7).map (eK .u8))] ?_;refine aT (S := (List Int)) (V := Nat) [1, 3, 4, 5, 6, 7, 41, 42, 43, 44, 45, 46, 47, 48, 49, 50, 51, 52, 53, 54, 55, 56, 57, 58, 59, 60, 61, 62, 63, 64, 65, 66, 67, 68, 69, 70, 71, 72, 73, 74, 75, 76] (fun l10 v11 => [(3, .c (.osl 1 v11 0 l10.length))]) (fun l10 v11 => [.box [.int .i64 p1.cells, .int .i64 p1.regs, .int .i64 p1.cost, .tree 1 (p1.put.map (eK .i64)), .tree 1 (p1.bools.map (eK .i64)), .tree 1 (p1.get.map (eK .i64)), .tree 6 (p1.code.map ax.enc)], .arr 1 v11 5 (l10.map (eK .u8))]) (fun l10 => eG l10 = some r) ?_ ?_
 ·skip;refine ai [] ?_
  refine aw ?_;obtain ⟨o1, hl1, hm1⟩ := bd hm;refine bl (S := ((List Int) × Int)) (V := Nat) (O := (List Int)) [3, 4, 5, 6, 7, 41, 42, 43, 44, 45, 46, 47, 48, 49, 50, 51, 52, 53, 54, 55, 56, 57, 58, 59, 60, 61, 62, 63, 64, 65, 66, 67, 68, 69, 70, 71, 72, 73, 74, 75, 76] (fun (l25, x27) v26 => [(3, .c (.osl 1 v26 0 l25.length)), (4, .c (.int .i64 x27))]) (fun (l25, x27) v26 => [.box [.int .i64 p1.cells, .int .i64 p1.regs, .int .i64 p1.cost, .tree 1 (p1.put.map (eK .i64)), .tree 1 (p1.bools.map (eK .i64)), .tree 1 (p1.get.map (eK .i64)), .tree 6 (p1.code.map ax.enc)], .arr 1 v26 5 (l25.map (eK .u8))]) _ _ (y6.2 + 1) hl1 ?_ ?_
  ·exact ls
  ·rintro ⟨l25, x27⟩ v26 r1 hm hr1;replace hm : cr p1 l25 x27 = some r1 := hm;refine aP ?_;unfold cr at hm;refine ap fun k1 hk1 => ?_;refine ai [41, 42, 43, 44] ?_
   by_cases h15 : x27 < (p1.code.length : Int)
   ·rw [iP h15] at hm;refine ab rfl (dT h15) ?_;refine aq ?_;refine ak (hk1 _ _ ?_);refine aT (S := (List Int)) (V := Nat) [3, 5, 6, 7, 45, 48, 49, 50, 51, 52, 53, 54, 55, 56, 57, 58, 59, 60, 61, 62, 63, 64, 65, 66, 67, 68, 69, 70, 71, 72, 73, 74, 75, 76] (fun l30 v31 => [(3, .c (.osl 1 v31 0 l30.length))]) (fun l30 v31 => [.box [.int .i64 p1.cells, .int .i64 p1.regs, .int .i64 p1.cost, .tree 1 (p1.put.map (eK .i64)), .tree 1 (p1.bools.map (eK .i64)), .tree 1 (p1.get.map (eK .i64)), .tree 6 (p1.code.map ax.enc)], .arr 1 v31 5 (l30.map (eK .u8))]) (fun l30 => eH x27 l30 = some r1) ?_ ?_
    ·skip;refine aw ?_
     obtain ⟨hg16a, hm⟩ := gd hm;refine cS (em ax.enc p1.code x27.toNat) [45, 48, 49, 50, 51, 52] ?_;refine ai [5, 53, 54, 55, 56, 57, 58, 59, 60, 61, 62, 63, 64, 65] ?_;refine ib [.box [.int .i64 p1.cells, .int .i64 p1.regs, .int .i64 p1.cost, .tree 1 (p1.put.map (eK .i64)), .tree 1 (p1.bools.map (eK .i64)), .tree 1 (p1.get.map (eK .i64)), .tree 6 (p1.code.map ax.enc)], .arr 1 v26 5 (l25.map (eK .u8)), .box [.int .i64 ((p1.code.getD x27.toNat default).op), .int .i64 ((p1.code.getD x27.toNat default).k), .int .i64 ((p1.code.getD x27.toNat default).r_), .int .i64 ((p1.code.getD x27.toNat default).a), .int .i64 ((p1.code.getD x27.toNat default).b), .int .i64 ((p1.code.getD x27.toNat default).n)], .arr 1 0 2 ((lit ([(p1.code.getD x27.toNat default).op, (p1.code.getD x27.toNat default).k, (p1.code.getD x27.toNat default).r_, (p1.code.getD x27.toNat default).a, (p1.code.getD x27.toNat default).b, (p1.code.getD x27.toNat default).n] : List Int)).map (eK .i64))] ?_;refine ai [] ?_;refine aw ?_;obtain ⟨o2, hl2, hm2⟩ := bd hm;refine bl (S := ((List Int) × Int)) (V := Nat) (O := (List Int)) [3, 6, 7, 66, 67, 68, 69, 70, 71, 72, 73, 74, 75, 76] (fun (l46, x48) v47 => [(3, .c (.osl 1 v47 0 l46.length)), (6, .c (.osl 3 0 0 6)), (7, .c (.int .i64 x48))]) (fun (l46, x48) v47 => [.box [.int .i64 p1.cells, .int .i64 p1.regs, .int .i64 p1.cost, .tree 1 (p1.put.map (eK .i64)), .tree 1 (p1.bools.map (eK .i64)), .tree 1 (p1.get.map (eK .i64)), .tree 6 (p1.code.map ax.enc)], .arr 1 v47 5 (l46.map (eK .u8)), .box [.int .i64 ((p1.code.getD x27.toNat default).op), .int .i64 ((p1.code.getD x27.toNat default).k), .int .i64 ((p1.code.getD x27.toNat default).r_), .int .i64 ((p1.code.getD x27.toNat default).a), .int .i64 ((p1.code.getD x27.toNat default).b), .int .i64 ((p1.code.getD x27.toNat default).n)], .arr 1 0 2 ((lit ([(p1.code.getD x27.toNat default).op, (p1.code.getD x27.toNat default).k, (p1.code.getD x27.toNat default).r_, (p1.code.getD x27.toNat default).a, (p1.code.getD x27.toNat default).b, (p1.code.getD x27.toNat default).n] : List Int)).map (eK .i64))]) _ _ v26 hl2 ?_ ?_
     ·exact ls
     ·rintro ⟨l46, x48⟩ v47 r2 hm hr2;replace hm : cq p1 x27 l46 x48 = some r2 := hm;refine aP ?_;unfold cq at hm;refine ap fun k2 hk2 => ?_;refine ai [66] ?_
      by_cases h17 : x48 < 6
      ·rw [iP h17] at hm;refine ab rfl (dT h17) ?_;refine aq ?_;refine ak (hk2 _ _ ?_);refine ap fun k3 hk3 => ?_;refine aw ?_;obtain ⟨hg18a, hm⟩ := gd hm;refine f9 fun k kp hk hp => ?_;refine gox (em (eK .i64) (lit ([(p1.code.getD x27.toNat default).op, (p1.code.getD x27.toNat default).k, (p1.code.getD x27.toNat default).r_, (p1.code.getD x27.toNat default).a, (p1.code.getD x27.toNat default).b, (p1.code.getD x27.toNat default).n] : List Int)) x48.toNat) ?_;obtain ⟨y49, hc19, hm⟩ := bd hm;refine RP (fun _ => dB ((lit ([(p1.code.getD x27.toNat default).op, (p1.code.getD x27.toNat default).k, (p1.code.getD x27.toNat default).r_, (p1.code.getD x27.toNat default).a, (p1.code.getD x27.toNat default).b, (p1.code.getD x27.toNat default).n] : List Int)).getD x48.toNat default) _ hc19) ?_;obtain ⟨⟨hg20ax, hg20ay⟩, hm⟩ := gd hm;refine aa ?_;refine go ?_;refine hk _ _ ?_;clear hk hp k kp;refine aH ?_;refine ak (hk3 _ _ ?_);refine cE ?_;refine aO ((l46 ++ y49), (IntKind.wrap .i64 (x48 + 1))) (v47 + 1) hm ?_;exact ls
      ·rw [iN h17] at hm;refine ae rfl (dF h17) ?_;refine bw ?_;have ho21 := aC hm hr2;subst ho21;replace hm : eH x27 l46 = some r1 := hm2;refine aX (aL (az (aH ?_)));refine au l46 v47 hm ?_;exact ls
    ·rintro l30 v31 hm;replace hm : eH x27 l30 = some r1 := hm;refine aP ?_;unfold eH at hm;refine cE ?_;refine aO (l30, (IntKind.wrap .i64 (x27 + 1))) v31 hm ?_;exact ls
   ·rw [iN h15] at hm;refine ae rfl (dF h15) ?_;refine bw ?_;have ho22 := aC hm hr1;subst ho22;replace hm : eG l25 = some r := hm1;refine aX (aL (az ?_));refine au l25 v26 hm ?_;exact ls
 ·rintro l10 v11 hm;replace hm : eG l10 = some r := hm;refine aP ?_;unfold eG at hm;refine av [77, 78] fun k kp hk hp => ?_;refine go ?_;obtain ⟨y12, hc12, hm⟩ := bd hm;refine RA (mD l10 v11 _ hc12) [1] ?_;rintro p σ' ⟨rfl, rfl⟩ _;refine aa ?_;refine go ?_;refine hk _ _ ?_;clear hk hp k kp;obtain ⟨⟨hg14ax, hg14ay⟩, hm⟩ := gd hm;refine ai [3, 8, 79, 80, 81, 82, 83, 84, 85, 86, 87, 88, 89, 90, 91, 92] ?_;refine ib [.box [.int .i64 p1.cells, .int .i64 p1.regs, .int .i64 p1.cost, .tree 1 (p1.put.map (eK .i64)), .tree 1 (p1.bools.map (eK .i64)), .tree 1 (p1.get.map (eK .i64)), .tree 6 (p1.code.map ax.enc)], .arr 1 (v11 + 1) 5 ((l10 ++ (lit ([(IntKind.wrap .u8 y12), (IntKind.wrap .u8 (y12.fdiv (2 ^ (min 8 (IntKind.bits .u32))))), (IntKind.wrap .u8 (y12.fdiv (2 ^ (min 16 (IntKind.bits .u32))))), (IntKind.wrap .u8 (y12.fdiv (2 ^ (min 24 (IntKind.bits .u32)))))] : List Int))).map (eK .u8)), .arr 1 0 5 ((lit ([(IntKind.wrap .u8 y12), (IntKind.wrap .u8 (y12.fdiv (2 ^ (min 8 (IntKind.bits .u32))))), (IntKind.wrap .u8 (y12.fdiv (2 ^ (min 16 (IntKind.bits .u32))))), (IntKind.wrap .u8 (y12.fdiv (2 ^ (min 24 (IntKind.bits .u32)))))] : List Int)).map (eK .u8))] ?_;refine lK (aZ 1 rfl) ?_;refine an ?_
  cases hm
  exact kr 0
end Pam
