/- the walk of kinds_Op, printed by a program of ours -/
import Derived.Test.YtjmjabdmmlgenaaTornBase2
import Derived.Test.YtjmjabdmmlgenaaTornaFun1
set_option linter.all false
set_option maxRecDepth 100000
set_option maxHeartbeats 8000000
namespace Pam
open Go Go.Proofs
theorem lL (p1 : Int) (r : (Int × Int × Int)) (hm : hL p1 = some r) : ee Try.prog 39 [.c (.int .i64 p1)] (.t [.c (.int .u8 r.1), .c (.int .u8 r.2.1), .c (.int .i64 r.2.2)]) := by
 refine bq 32 [.tmp 2, .tmp 3, .tmp 4] Try.func39 rfl rfl rfl (by kernel_rfl) (by simp) ?_;refine dU ?_;unfold hL at hm;refine aq [2, 3, 4] ?_;refine ay fun k1 hk1 => ?_;refine aL ?_
 by_cases h1 : p1 ≥ 1
 ·rw [iP h1] at hm;have h1b := dT h1;refine cU h1b [6, 7, 8, 9, 10, 11] ?_
  by_cases h2 : p1 ≤ 7
  ·rw [iP h2] at hm;refine ae rfl (dT h2) ?_;refine aq [0, 5] ?_;refine au ?_;refine ak (am ?_)
   cases hm
   exact kr 0
  ·rw [iN h2] at hm;refine af rfl (dF h2) ?_
   by_cases h3 : p1 = 8
   ·rw [iP h3] at hm;have h3b := eQ h3;refine cU h3b [5, 13, 14, 15, 16, 17, 18] ?_;refine ae rfl rfl ?_;refine aq [0, 12] ?_;refine au ?_;refine ak (am ?_)
    cases hm
    exact kr 0
   ·rw [iN h3] at hm;have h3b := nB h3;refine cU h3b [5, 13, 14, 15, 16, 17, 18] ?_
    by_cases h4 : p1 = 9
    ·rw [iP h4] at hm;refine ae rfl (eQ h4) ?_;refine aq [0, 12] ?_;refine au ?_;refine ak (am ?_)
     cases hm
     exact kr 0
    ·rw [iN h4] at hm;refine af rfl (nB h4) ?_
     by_cases h5 : p1 ≥ 10
     ·rw [iP h5] at hm;have h5b := dT h5;refine cU h5b [12, 20, 21, 22, 23, 24, 25] ?_
      by_cases h6 : p1 ≤ 12
      ·rw [iP h6] at hm;refine ae rfl (dT h6) ?_;refine aq [0, 19] ?_;refine au ?_;refine ak (am ?_)
       cases hm
       exact kr 0
      ·rw [iN h6] at hm;refine af rfl (dF h6) ?_;refine aq [19, 27, 28] ?_
       by_cases h7 : p1 = 13
       ·rw [iP h7] at hm;refine ae rfl (eQ h7) ?_;refine aq [0, 26] ?_;refine au ?_;refine ak (am ?_)
        cases hm
        exact kr 0
       ·rw [iN h7] at hm;refine af rfl (nB h7) ?_;refine aq [0, 26, 30, 31] ?_
        by_cases h8 : p1 = 14
        ·rw [iP h8] at hm;refine ae rfl (eQ h8) ?_;refine aq [29] ?_;refine au ?_;refine ak (am ?_)
         cases hm
         exact kr 0
        ·rw [iN h8] at hm;refine af rfl (nB h8) ?_;refine aC ?_;refine aT ?_;refine aw (hk1 _ _ ?_);refine aq [29] ?_;refine au ?_
         cases hm
         exact kr 0
     ·rw [iN h5] at hm;have h5b := dF h5;refine cU h5b [12, 20, 21, 22, 23, 24, 25] ?_;refine af rfl rfl ?_;refine aq [19, 27, 28] ?_
      by_cases h9 : p1 = 13
      ·rw [iP h9] at hm;refine ae rfl (eQ h9) ?_;refine aq [0, 26] ?_;refine au ?_;refine ak (am ?_)
       cases hm
       exact kr 0
      ·rw [iN h9] at hm;refine af rfl (nB h9) ?_;refine aq [0, 26, 30, 31] ?_
       by_cases h10 : p1 = 14
       ·rw [iP h10] at hm;refine ae rfl (eQ h10) ?_;refine aq [29] ?_;refine au ?_;refine ak (am ?_)
        cases hm
        exact kr 0
       ·rw [iN h10] at hm;refine af rfl (nB h10) ?_;refine aC ?_;refine aT ?_;refine aw (hk1 _ _ ?_);refine aq [29] ?_;refine au ?_
        cases hm
        exact kr 0
 ·rw [iN h1] at hm;have h1b := dF h1;refine cU h1b [6, 7, 8, 9, 10, 11] ?_;refine af rfl rfl ?_
  by_cases h11 : p1 = 8
  ·rw [iP h11] at hm;have h11b := eQ h11;refine cU h11b [5, 13, 14, 15, 16, 17, 18] ?_;refine ae rfl rfl ?_;refine aq [0, 12] ?_;refine au ?_;refine ak (am ?_)
   cases hm
   exact kr 0
  ·rw [iN h11] at hm;have h11b := nB h11;refine cU h11b [5, 13, 14, 15, 16, 17, 18] ?_
   by_cases h12 : p1 = 9
   ·rw [iP h12] at hm;refine ae rfl (eQ h12) ?_;refine aq [0, 12] ?_;refine au ?_;refine ak (am ?_)
    cases hm
    exact kr 0
   ·rw [iN h12] at hm;refine af rfl (nB h12) ?_
    by_cases h13 : p1 ≥ 10
    ·rw [iP h13] at hm;have h13b := dT h13;refine cU h13b [12, 20, 21, 22, 23, 24, 25] ?_
     by_cases h14 : p1 ≤ 12
     ·rw [iP h14] at hm;refine ae rfl (dT h14) ?_;refine aq [0, 19] ?_;refine au ?_;refine ak (am ?_)
      cases hm
      exact kr 0
     ·rw [iN h14] at hm;refine af rfl (dF h14) ?_;refine aq [19, 27, 28] ?_
      by_cases h15 : p1 = 13
      ·rw [iP h15] at hm;refine ae rfl (eQ h15) ?_;refine aq [0, 26] ?_;refine au ?_;refine ak (am ?_)
       cases hm
       exact kr 0
      ·rw [iN h15] at hm;refine af rfl (nB h15) ?_;refine aq [0, 26, 30, 31] ?_
       by_cases h16 : p1 = 14
       ·rw [iP h16] at hm;refine ae rfl (eQ h16) ?_;refine aq [29] ?_;refine au ?_;refine ak (am ?_)
        cases hm
        exact kr 0
       ·rw [iN h16] at hm;refine af rfl (nB h16) ?_;refine aC ?_;refine aT ?_;refine aw (hk1 _ _ ?_);refine aq [29] ?_;refine au ?_
        cases hm
        exact kr 0
    ·rw [iN h13] at hm;have h13b := dF h13;refine cU h13b [12, 20, 21, 22, 23, 24, 25] ?_;refine af rfl rfl ?_;refine aq [19, 27, 28] ?_
     by_cases h17 : p1 = 13
     ·rw [iP h17] at hm;refine ae rfl (eQ h17) ?_;refine aq [0, 26] ?_;refine au ?_;refine ak (am ?_)
      cases hm
      exact kr 0
     ·rw [iN h17] at hm;refine af rfl (nB h17) ?_;refine aq [0, 26, 30, 31] ?_
      by_cases h18 : p1 = 14
      ·rw [iP h18] at hm;refine ae rfl (eQ h18) ?_;refine aq [29] ?_;refine au ?_;refine ak (am ?_)
       cases hm
       exact kr 0
      ·rw [iN h18] at hm;refine af rfl (nB h18) ?_;refine aC ?_;refine aT ?_;refine aw (hk1 _ _ ?_);refine aq [29] ?_;refine au ?_
       cases hm
       exact kr 0
theorem ig (p1 : Int) (p2 : br) (r : Bool) (hm : dQ p1 p2 = some r) : fw Try.prog 43 [.c (.int .i64 p1), .c (.optr 0 0)] [.box [.int .i64 p2.m_.cells, .int .i64 p2.m_.regs, .int .i64 p2.m_.cost, .tree 1 (p2.m_.put.map (eK .i64)), .tree 1 (p2.m_.bools.map (eK .i64)), .tree 1 (p2.m_.get.map (eK .i64)), .tree 6 (p2.m_.code.map aD.enc)]] (fun p σ => (p = .c (.bool r) ∧ σ = [.box [.int .i64 p2.m_.cells, .int .i64 p2.m_.regs, .int .i64 p2.m_.cost, .tree 1 (p2.m_.put.map (eK .i64)), .tree 1 (p2.m_.bools.map (eK .i64)), .tree 1 (p2.m_.get.map (eK .i64)), .tree 6 (p2.m_.code.map aD.enc)]])) (fun _ _ => False) := by
 refine bq 13 [.tmp 3] Try.func43 rfl rfl rfl (by kernel_rfl) (by simp) ?_;refine dU ?_;unfold dQ at hm;refine aq [3] ?_
 by_cases h1 : p1 < 0
 ·rw [iP h1] at hm;have h1b := dT h1;refine cU h1b [0, 1, 4, 5, 6, 7, 8, 9, 10, 11, 12] ?_;refine au ?_
  cases hm
  exact kr 1
 ·rw [iN h1] at hm;have h1b := dF h1;refine cU h1b [0, 1, 4, 5, 6, 7, 8, 9, 10, 11, 12] ?_;refine au ?_
  cases hm
  exact kr 1
theorem fe (p1 : List Int) (p2 : br) (r : Int) (hm : bu p1 p2 = some r) : fw Try.prog 44 [.c (.tree 1 (p1.map (eK .i64))), .c (.fn 43 [.optr 0 0])] [.box [.int .i64 p2.m_.cells, .int .i64 p2.m_.regs, .int .i64 p2.m_.cost, .tree 1 (p2.m_.put.map (eK .i64)), .tree 1 (p2.m_.bools.map (eK .i64)), .tree 1 (p2.m_.get.map (eK .i64)), .tree 6 (p2.m_.code.map aD.enc)]] (fun p σ => (p = .c (.int .i64 r) ∧ σ = [.box [.int .i64 p2.m_.cells, .int .i64 p2.m_.regs, .int .i64 p2.m_.cost, .tree 1 (p2.m_.put.map (eK .i64)), .tree 1 (p2.m_.bools.map (eK .i64)), .tree 1 (p2.m_.get.map (eK .i64)), .tree 6 (p2.m_.code.map aD.enc)]])) (fun _ _ => False) := by
 refine bq 19 [.tmp 4] Try.func44 rfl rfl rfl (by kernel_rfl) (by simp) ?_;refine dU ?_;unfold bu at hm;refine aq [4] ?_;refine cz (S := Unit) (V := Unit) [0, 1, 4, 5, 6, 7, 8, 9, 10, 11, 12, 13, 14, 15, 16, 17, 18] (fun _ _ => []) (fun _ _ => [.box [.int .i64 p2.m_.cells, .int .i64 p2.m_.regs, .int .i64 p2.m_.cost, .tree 1 (p2.m_.put.map (eK .i64)), .tree 1 (p2.m_.bools.map (eK .i64)), .tree 1 (p2.m_.get.map (eK .i64)), .tree 6 (p2.m_.code.map aD.enc)]]) (fun _ => be = some r) ?_ ?_
 ·skip;refine aq [6] ?_
  refine aL ?_;obtain ⟨o1, hl1, hm1⟩ := bd hm;refine cJ (S := Int) (V := Unit) (O := Unit ⊕ Int) [4, 5, 8, 9, 10, 11, 12, 13, 14, 15, 16, 17, 18] (fun x3 _ => [(8, .c (.int .i64 x3))]) (fun x3 _ => [.box [.int .i64 p2.m_.cells, .int .i64 p2.m_.regs, .int .i64 p2.m_.cost, .tree 1 (p2.m_.put.map (eK .i64)), .tree 1 (p2.m_.bools.map (eK .i64)), .tree 1 (p2.m_.get.map (eK .i64)), .tree 6 (p2.m_.code.map aD.enc)]]) _ _ () hl1 ?_ ?_
  ·exact ls
  ·rintro x3 _ r1 hm hr1;replace hm : bf p1 p2 x3 = some r1 := hm;refine ca ?_;unfold bf at hm;refine aq [] ?_;refine ay fun k1 hk1 => ?_
   by_cases h1 : x3 < (p1.length : Int)
   ·rw [iP h1] at hm;refine ae rfl (dT h1) ?_;refine aC ?_;refine aw (hk1 _ _ ?_);refine ay fun k2 hk2 => ?_;refine aL ?_;refine aq [9, 10] ?_;obtain ⟨hg2a, hm⟩ := gd hm;refine aV [11, 12, 13, 14, 15] fun k kp hk hp => ?_;refine gox (em (eK .i64) p1 x3.toNat) ?_;obtain ⟨y4, hc3, hm⟩ := bd hm;refine RA (ig (p1.getD x3.toNat default) p2  _ hc3) [0] ?_;rintro p σ' ⟨rfl, rfl⟩ _;refine aa ?_;refine gox (em (eK .i64) p1 x3.toNat) ?_;refine hk _ _ ?_;clear hk hp k kp
    by_cases h5 : y4 = true
    ·rw [iP h5] at hm;refine ae rfl (h5) ?_;refine aq [0, 1, 5, 7, 8, 16, 17] ?_;have ho6 := aW hm hr1;subst ho6;replace hm : some x3 = some r := hm1;refine au ?_;refine ak (am (dD (ak (dG ?_))))
     cases hm
     exact kr 1
    ·rw [iN h5] at hm;refine af rfl (fB h5) ?_;refine aC ?_;refine aT ?_;refine aw (hk2 _ _ ?_);refine ej ?_;refine bD (IntKind.wrap .i64 (x3 + 1)) () hm ?_;exact ls
   ·rw [iN h1] at hm;refine af rfl (dF h1) ?_;refine dx ?_;have ho7 := aW hm hr1;subst ho7;replace hm : be = some r := hm1;refine cD (bP (a9 ?_));refine aX () () hm ?_;exact ls
 ·rintro _ _ hm;replace hm : be = some r := hm;refine ca ?_;unfold be at hm;refine aq [] ?_;refine au ?_
  cases hm
  exact kr 1
theorem eO (p1 : List Int) (p2 : br) (r : Bool) (hm : bx p1 p2 = some r) : fw Try.prog 42 [.c (.tree 1 (p1.map (eK .i64))), .c (.fn 43 [.optr 0 0])] [.box [.int .i64 p2.m_.cells, .int .i64 p2.m_.regs, .int .i64 p2.m_.cost, .tree 1 (p2.m_.put.map (eK .i64)), .tree 1 (p2.m_.bools.map (eK .i64)), .tree 1 (p2.m_.get.map (eK .i64)), .tree 6 (p2.m_.code.map aD.enc)]] (fun p σ => (p = .c (.bool r) ∧ σ = [.box [.int .i64 p2.m_.cells, .int .i64 p2.m_.regs, .int .i64 p2.m_.cost, .tree 1 (p2.m_.put.map (eK .i64)), .tree 1 (p2.m_.bools.map (eK .i64)), .tree 1 (p2.m_.get.map (eK .i64)), .tree 6 (p2.m_.code.map aD.enc)]])) (fun _ _ => False) := by
 refine bq 9 [.tmp 4] Try.func42 rfl rfl rfl (by kernel_rfl) (by simp) ?_;refine dU ?_;unfold bx at hm;refine aq [4] ?_;refine aV [0, 1, 5, 6, 7, 8] fun k kp hk hp => ?_;refine go ?_;obtain ⟨y1, hc1, hm⟩ := bd hm;refine RA (fe p1 p2  _ hc1) [0] ?_;rintro p σ' ⟨rfl, rfl⟩ _;refine aa ?_;refine go ?_;refine hk _ _ ?_;clear hk hp k kp;refine au ?_
 cases hm
 exact kr 1
theorem bo (p1 : br) (p2 : List Int) (r : Bool) (hm : aU p1 p2 = some r) : ee Try.prog 40 [.a [.int .i64 p1.m_.cells, .int .i64 p1.m_.regs, .int .i64 p1.m_.cost, .tree 1 (p1.m_.put.map (eK .i64)), .tree 1 (p1.m_.bools.map (eK .i64)), .tree 1 (p1.m_.get.map (eK .i64)), .tree 6 (p1.m_.code.map aD.enc)], .c (.tree 1 (p2.map (eK .i64)))] (.c (.bool r)) := by
 refine bq 9 [.tmp 4] Try.func40 rfl rfl rfl (by kernel_rfl) (by simp) ?_;refine dU ?_;unfold aU at hm;refine aq [0, 4] ?_;refine aV [1, 2, 5, 6, 7, 8] fun k kp hk hp => ?_;refine go ?_;obtain ⟨y1, hc1, hm⟩ := bd hm;refine RA (eO p2 p1  _ hc1) [0] ?_;rintro p σ' ⟨rfl, rfl⟩ _;refine aa ?_;refine go ?_;refine hk _ _ ?_;clear hk hp k kp;refine au ?_
 cases hm
 exact kr 0
theorem fa (p1 : br) (p2 : Int) (p3 : Int) (r : Bool) (hm : bV p1 p2 p3 = some r) : ee Try.prog 41 [.a [.int .i64 p1.m_.cells, .int .i64 p1.m_.regs, .int .i64 p1.m_.cost, .tree 1 (p1.m_.put.map (eK .i64)), .tree 1 (p1.m_.bools.map (eK .i64)), .tree 1 (p1.m_.get.map (eK .i64)), .tree 6 (p1.m_.code.map aD.enc)], .c (.int .i64 p2), .c (.int .i64 p3)] (.c (.bool r)) := by
 refine bq 29 [.tmp 6] Try.func41 rfl rfl rfl (by kernel_rfl) (by simp) ?_;refine dU ?_;unfold bV at hm;refine aq [0, 6] ?_
 by_cases h1 : p3 ≥ 1
 ·rw [iP h1] at hm;have h1b := dT h1;refine dW [1, 2, 3, 7, 8, 9, 10, 11, 12, 13, 14, 15, 16, 17, 18, 19, 20, 21, 22, 23, 24, 25, 26, 27, 28] fun k kp hk hp => ?_;refine an 10 ?_;refine gox h1b ?_
  by_cases h2 : p3 ≤ p1.m_.cells
  ·rw [iP h2] at hm;have h2b := dT h2;refine an 4 ?_;refine gox (a2 h1b h2b) ?_
   by_cases h3 : p2 ≥ 0
   ·rw [iP h3] at hm;have h3b := dT h3;refine aa ?_;refine gox (a2 h1b (a2 h2b h3b)) ?_;refine hk _ _ ?_;clear hk hp k kp;refine au ?_
    cases hm
    exact kr 0
   ·rw [iN h3] at hm;have h3b := dF h3;refine aa ?_;refine gox (a2 h1b (a2 h2b h3b)) ?_;refine hk _ _ ?_;clear hk hp k kp;refine au ?_
    cases hm
    exact kr 0
  ·rw [iN h2] at hm;have h2b := dF h2;refine aa ?_;refine gox (a2 h1b h2b) ?_;refine hk _ _ ?_;clear hk hp k kp;refine au ?_
   cases hm
   exact kr 0
 ·rw [iN h1] at hm;have h1b := dF h1;refine cU h1b [1, 2, 3, 7, 8, 9, 10, 11, 12, 13, 14, 15, 16, 17, 18, 19, 20, 21, 22, 23, 24, 25, 26, 27, 28] ?_;refine au ?_
  cases hm
  exact kr 0
theorem iH (p1 : br) (p2 : aD) (r : Bool) (hm : cp p1 p2 = some r) : ee Try.prog 31 [.a [.int .i64 p1.m_.cells, .int .i64 p1.m_.regs, .int .i64 p1.m_.cost, .tree 1 (p1.m_.put.map (eK .i64)), .tree 1 (p1.m_.bools.map (eK .i64)), .tree 1 (p1.m_.get.map (eK .i64)), .tree 6 (p1.m_.code.map aD.enc)], .a [.int .i64 p2.op, .int .i64 p2.k, .int .i64 p2.r_, .int .i64 p2.a, .int .i64 p2.b, .int .i64 p2.n]] (.c (.bool r)) := by
 refine bq 124 [.tmp 4] Try.func31 rfl rfl rfl (by kernel_rfl) (by simp) ?_;refine dU ?_;unfold cp at hm;refine aq [0, 1, 4] ?_;refine aV [5, 6, 8, 9, 10, 11, 12, 13, 14] fun k kp hk hp => ?_;refine go ?_;obtain ⟨y1, hc1, hm⟩ := bd hm;refine RP (fun _ => lL p2.k _ hc1) ?_;refine aa ?_;refine go ?_;refine hk _ _ ?_;clear hk hp k kp;refine ay fun k1 hk1 => ?_;refine aq [15] ?_;refine aL ?_;refine aq [18] ?_
 by_cases h2 : p2.op = 1
 ·rw [iP h2] at hm;refine ae rfl (eQ h2) ?_;refine aV [2, 3, 7, 16, 17, 19, 20, 21, 22, 23] fun k kp hk hp => ?_;refine go ?_;refine aQ (bO 2 rfl) ?_;refine gt ?_;obtain ⟨y2, hc3, hm⟩ := bd hm;refine RP (fun _ => bo p1 (lit ([p2.r_] : List Int)) _ hc3) ?_;refine aa ?_;refine go ?_;refine hk _ _ ?_;clear hk hp k kp;refine au ?_;refine ak (am ?_)
  cases hm
  exact kr 0
 ·rw [iN h2] at hm;refine af rfl (nB h2) ?_;refine cz (S := Bool) (V := Unit) [17, 24, 25, 26] (fun b3 _ => [(24, .c (.bool b3))]) (fun b3 _ => [.box [.int .i64 p1.m_.cells, .int .i64 p1.m_.regs, .int .i64 p1.m_.cost, .tree 1 (p1.m_.put.map (eK .i64)), .tree 1 (p1.m_.bools.map (eK .i64)), .tree 1 (p1.m_.get.map (eK .i64)), .tree 6 (p1.m_.code.map aD.enc)], .box [.int .i64 p2.op, .int .i64 p2.k, .int .i64 p2.r_, .int .i64 p2.a, .int .i64 p2.b, .int .i64 p2.n]]) (fun b3 => bY p1 p2 y1 b3 = some r) ?_ ?_
  ·skip;refine aq [17, 25] ?_
   by_cases h27 : p2.op = 2
   ·rw [iP h27] at hm;refine ae rfl (eQ h27) ?_;refine aC ?_;refine aX (p2.op == 2) () hm ?_;exact ls
   ·rw [iN h27] at hm;refine af rfl (nB h27) ?_;refine ej ?_;refine aX (p2.op == 4) () hm ?_;exact ls
  ·rintro b3 _ hm;replace hm : bY p1 p2 y1 b3 = some r := hm;refine ca ?_;unfold bY at hm
   by_cases h4 : b3 = true
   ·rw [iP h4] at hm;refine ae rfl (h4) ?_;refine aV [2, 3, 7, 16, 24, 27, 28, 29, 30, 31, 32, 33, 34, 35, 36, 37] fun k kp hk hp => ?_;refine go ?_;refine aQ (bO 2 rfl) ?_;refine gt ?_;obtain ⟨y4, hc5, hm⟩ := bd hm;refine RP (fun _ => bo p1 (lit ([p2.r_] : List Int)) _ hc5) ?_
    by_cases h6 : y4 = true
    ·rw [iP h6] at hm;have h6b := h6;refine aa ?_;refine gox h6b ?_;obtain ⟨y5, hc7, hm⟩ := bd hm;refine RP (fun _ => fa p1 p2.n 1 _ hc7) ?_;refine aa ?_;refine gox h6b ?_;refine hk _ _ ?_;clear hk hp k kp;refine au ?_;refine ak (am ?_)
     cases hm
     exact kr 0
    ·rw [iN h6] at hm;have h6b := fB h6;refine aa ?_;refine gox h6b ?_;refine hk _ _ ?_;clear hk hp k kp;refine au ?_;refine ak (am ?_)
     cases hm
     exact kr 0
   ·rw [iN h4] at hm;refine af rfl (fB h4) ?_;refine cz (S := Bool) (V := Unit) [24, 38, 39, 40] (fun b6 _ => [(38, .c (.bool b6))]) (fun b6 _ => [.box [.int .i64 p1.m_.cells, .int .i64 p1.m_.regs, .int .i64 p1.m_.cost, .tree 1 (p1.m_.put.map (eK .i64)), .tree 1 (p1.m_.bools.map (eK .i64)), .tree 1 (p1.m_.get.map (eK .i64)), .tree 6 (p1.m_.code.map aD.enc)], .box [.int .i64 p2.op, .int .i64 p2.k, .int .i64 p2.r_, .int .i64 p2.a, .int .i64 p2.b, .int .i64 p2.n]]) (fun b6 => bW p1 p2 y1 b6 = some r) ?_ ?_
    ·skip;refine aq [24, 39] ?_
     by_cases h26 : p2.op = 3
     ·rw [iP h26] at hm;refine ae rfl (eQ h26) ?_;refine aC ?_;refine aX (p2.op == 3) () hm ?_;exact ls
     ·rw [iN h26] at hm;refine af rfl (nB h26) ?_;refine ej ?_;refine aX (p2.op == 5) () hm ?_;exact ls
    ·rintro b6 _ hm;replace hm : bW p1 p2 y1 b6 = some r := hm;refine ca ?_;unfold bW at hm
     by_cases h8 : b6 = true
     ·rw [iP h8] at hm;refine ae rfl (h8) ?_;refine aV [2, 3, 7, 16, 38, 41, 42, 43, 44, 45, 46, 47, 48, 49, 50, 51, 52, 53, 54, 55] fun k kp hk hp => ?_;refine go ?_;refine aQ (bO 2 rfl) ?_;refine gt ?_;obtain ⟨y7, hc9, hm⟩ := bd hm;refine RP (fun _ => bo p1 (lit ([p2.r_, p2.a] : List Int)) _ hc9) ?_
      by_cases h10 : y7 = true
      ·rw [iP h10] at hm;have h10b := h10;refine aa ?_;refine gox h10b ?_;obtain ⟨y8, hc11, hm⟩ := bd hm;refine RP (fun _ => fa p1 p2.n p2.b _ hc11) ?_;refine aa ?_;refine gox h10b ?_;refine hk _ _ ?_;clear hk hp k kp;refine au ?_;refine ak (am ?_)
       cases hm
       exact kr 0
      ·rw [iN h10] at hm;have h10b := fB h10;refine aa ?_;refine gox h10b ?_;refine hk _ _ ?_;clear hk hp k kp;refine au ?_;refine ak (am ?_)
       cases hm
       exact kr 0
     ·rw [iN h8] at hm;refine af rfl (fB h8) ?_;refine aq [38, 57] ?_
      by_cases h12 : p2.op = 6
      ·rw [iP h12] at hm;refine ae rfl (eQ h12) ?_;refine aV [2, 3, 7, 16, 56, 58, 59, 60, 61, 62, 63, 64, 65, 66, 67, 68] fun k kp hk hp => ?_;refine go ?_;refine aQ (bO 2 rfl) ?_;refine gt ?_;obtain ⟨y9, hc13, hm⟩ := bd hm;refine RP (fun _ => bo p1 (lit ([p2.r_, p2.a] : List Int)) _ hc13) ?_
       by_cases h14 : y9 = true
       ·rw [iP h14] at hm;have h14b := h14;refine aa ?_;refine gox h14b ?_;refine hk _ _ ?_;clear hk hp k kp;refine au ?_;refine ak (am ?_)
        cases hm
        exact kr 0
       ·rw [iN h14] at hm;have h14b := fB h14;refine aa ?_;refine gox h14b ?_;refine hk _ _ ?_;clear hk hp k kp;refine au ?_;refine ak (am ?_)
        cases hm
        exact kr 0
      ·rw [iN h12] at hm;refine af rfl (nB h12) ?_;refine aq [56, 70] ?_
       by_cases h15 : p2.op = 7
       ·rw [iP h15] at hm;refine ae rfl (eQ h15) ?_;refine aV [2, 3, 7, 16, 69, 71, 72, 73, 74, 75, 76, 77, 78, 79, 80, 81, 82, 83] fun k kp hk hp => ?_;refine go ?_;refine aQ (bO 2 rfl) ?_;refine gt ?_;obtain ⟨y10, hc16, hm⟩ := bd hm;refine RP (fun _ => bo p1 (lit ([p2.r_, p2.a, p2.b] : List Int)) _ hc16) ?_
        by_cases h17 : y10 = true
        ·rw [iP h17] at hm;have h17b := h17;refine aa ?_;refine gox h17b ?_;refine hk _ _ ?_;clear hk hp k kp;refine au ?_;refine ak (am ?_)
         cases hm
         exact kr 0
        ·rw [iN h17] at hm;have h17b := fB h17;refine aa ?_;refine gox h17b ?_;refine hk _ _ ?_;clear hk hp k kp;refine au ?_;refine ak (am ?_)
         cases hm
         exact kr 0
       ·rw [iN h15] at hm;refine af rfl (nB h15) ?_;refine aq [7, 69, 85] ?_
        by_cases h18 : p2.op = 8
        ·rw [iP h18] at hm;refine ae rfl (eQ h18) ?_;refine aV [2, 3, 16, 84, 86, 87, 88, 89, 90, 91, 92, 93, 94] fun k kp hk hp => ?_;refine go ?_;refine aQ (bO 2 rfl) ?_;refine gt ?_;obtain ⟨y11, hc19, hm⟩ := bd hm;refine RP (fun _ => bo p1 (lit ([p2.r_, p2.a, p2.b] : List Int)) _ hc19) ?_;refine aa ?_;refine go ?_;refine hk _ _ ?_;clear hk hp k kp;refine au ?_;refine ak (am ?_)
         cases hm
         exact kr 0
        ·rw [iN h18] at hm;refine af rfl (nB h18) ?_;refine aq [84, 96] ?_
         by_cases h20 : p2.op = 9
         ·rw [iP h20] at hm;refine ae rfl (eQ h20) ?_;refine aV [2, 3, 16, 95, 97, 98, 99, 100, 101, 102, 103] fun k kp hk hp => ?_;refine go ?_;refine aQ (bO 2 rfl) ?_;refine gt ?_;obtain ⟨y12, hc21, hm⟩ := bd hm;refine RP (fun _ => bo p1 (lit ([p2.r_, p2.a] : List Int)) _ hc21) ?_;refine aa ?_;refine go ?_;refine hk _ _ ?_;clear hk hp k kp;refine au ?_;refine ak (am ?_)
          cases hm
          exact kr 0
         ·rw [iN h20] at hm;refine af rfl (nB h20) ?_;refine aq [16, 95, 105] ?_
          by_cases h22 : p2.op = 10
          ·rw [iP h22] at hm;refine ae rfl (eQ h22) ?_;refine aV [2, 3, 104, 106, 107, 108, 109, 110, 111, 112, 113, 114, 115, 116, 117, 118, 119, 120] fun k kp hk hp => ?_;refine go ?_;refine aQ (bO 2 rfl) ?_;refine gt ?_;obtain ⟨y13, hc23, hm⟩ := bd hm;refine RP (fun _ => bo p1 (lit ([p2.r_] : List Int)) _ hc23) ?_
           by_cases h24 : y13 = true
           ·rw [iP h24] at hm;have h24b := h24;refine an 6 ?_;refine gox h24b ?_
            by_cases h25 : p2.n ≥ 1
            ·rw [iP h25] at hm;have h25b := dT h25;refine aa ?_;refine gox (a2 h24b h25b) ?_;refine hk _ _ ?_;clear hk hp k kp;refine au ?_;refine ak (am ?_)
             cases hm
             exact kr 0
            ·rw [iN h25] at hm;have h25b := dF h25;refine aa ?_;refine gox (a2 h24b h25b) ?_;refine hk _ _ ?_;clear hk hp k kp;refine au ?_;refine ak (am ?_)
             cases hm
             exact kr 0
           ·rw [iN h24] at hm;have h24b := fB h24;refine aa ?_;refine gox h24b ?_;refine hk _ _ ?_;clear hk hp k kp;refine au ?_;refine ak (am ?_)
            cases hm
            exact kr 0
          ·rw [iN h22] at hm;refine af rfl (nB h22) ?_;refine aC ?_;refine aT ?_;refine aw (hk1 _ _ ?_);refine aq [2, 3, 104, 121, 122, 123] ?_;refine au ?_
           cases hm
           exact kr 0
theorem lg (p1 : List aD) (r : Int) (hm : gc p1 = some r) : ee Try.prog 32 [.c (.tree 6 (p1.map aD.enc))] (.c (.int .i64 r)) := by
 refine bq 47 [.tmp 2] Try.func32 rfl rfl rfl (by kernel_rfl) (by simp) ?_;refine dU ?_;unfold gc at hm;refine aq [2] ?_;refine aq [] ?_;refine cz (S := (Int × Int)) (V := Unit) [0, 2, 3, 4, 5, 7, 8, 9, 10, 11, 12, 13, 14, 15, 16, 17, 18, 19, 20, 21, 22, 23, 24, 25, 26, 27, 28, 29, 30, 31, 32, 33, 34, 35, 36, 37, 38, 39, 40, 41, 42, 43] (fun (x1, x2) _ => [(3, .c (.int .i64 x1)), (5, .c (.int .i64 x2))]) (fun (x1, x2) _ => []) (fun (x1, x2) => dd x1 x2 = some r) ?_ ?_
 ·skip;refine aq [0] ?_
  refine aL ?_;obtain ⟨o1, hl1, hm1⟩ := bd hm;refine cJ (S := (Int × Int × Int × Int)) (V := Unit) (O := (Int × Int) ⊕ Int) [2, 3, 4, 5, 7, 10, 11, 12, 13, 14, 15, 16, 17, 18, 19, 20, 21, 22, 23, 24, 25, 26, 27, 28, 29, 30, 31, 32, 33, 34, 35, 36, 37, 38, 39, 40, 41, 42, 43] (fun (x11, x12, x13, x14) _ => [(3, .c (.int .i64 x11)), (4, .c (.int .i64 x12)), (5, .c (.int .i64 x13)), (10, .c (.int .i64 x14))]) (fun (x11, x12, x13, x14) _ => []) _ _ () hl1 ?_ ?_
  ·exact ls
  ·rintro ⟨x11, x12, x13, x14⟩ _ r1 hm hr1;replace hm : de p1 x11 x12 x13 x14 = some r1 := hm;refine ca ?_;unfold de at hm;refine aq [] ?_;refine ay fun k2 hk2 => ?_
   by_cases h2 : x14 < (p1.length : Int)
   ·rw [iP h2] at hm;refine ae rfl (dT h2) ?_;refine aC ?_;refine aw (hk2 _ _ ?_);refine ay fun k3 hk3 => ?_;refine aL ?_;obtain ⟨hg3a, hm⟩ := gd hm;refine cU (em aD.enc p1 x14.toNat) [11, 12, 13] ?_;refine aq [14, 15, 16] ?_;refine aq [17] ?_;refine aL ?_;refine aq [20] ?_
    by_cases h4 : ((p1.getD x14.toNat default).op) = 10
    ·rw [iP h4] at hm;refine ae rfl (eQ h4) ?_;refine ay fun k4 hk4 => ?_
     by_cases h5 : x12 > 1
     ·rw [iP h5] at hm;have h5b := dT h5;refine cU h5b [4, 5, 18, 19, 21, 22, 23, 24, 25, 26, 27, 28, 29, 30, 31, 32, 33, 34, 35] ?_;refine ae rfl rfl ?_;refine aq [3, 7, 8, 9, 10, 36] ?_;have ho6 := aW hm hr1;subst ho6;replace hm : some 0 = some r := hm1;refine au ?_;refine am (ak (ak (am (dD (ak (dG ?_))))))
      cases hm
      exact kr 0
     ·rw [iN h5] at hm;have h5b := dF h5;refine dW [4, 5, 18, 19, 21, 22, 23, 24, 25, 26, 27, 28, 29, 30, 31, 32, 33, 34, 35] fun k kp hk hp => ?_;refine an 7 ?_;refine gox h5b ?_
      by_cases h7 : x13 > 0
      ·rw [iP h7] at hm;have h7b := dT h7;refine aa ?_;refine gox (a2 h5b h7b) ?_;refine hk _ _ ?_;clear hk hp k kp;refine ae rfl rfl ?_;refine aq [3, 7, 8, 9, 10, 36] ?_;have ho8 := aW hm hr1;subst ho8;replace hm : some 0 = some r := hm1;refine au ?_;refine am (ak (ak (am (dD (ak (dG ?_))))))
       cases hm
       exact kr 0
      ·rw [iN h7] at hm;have h7b := dF h7;refine an 5 ?_;refine gox (a2 h5b h7b) ?_
       by_cases h9 : ((p1.getD x14.toNat default).n) < 1
       ·rw [iP h9] at hm;have h9b := dT h9;refine aa ?_;refine gox (a2 h5b (a2 h7b h9b)) ?_;refine hk _ _ ?_;clear hk hp k kp;refine ae rfl rfl ?_;refine aq [3, 7, 8, 9, 10, 36] ?_;have ho10 := aW hm hr1;subst ho10;replace hm : some 0 = some r := hm1;refine au ?_;refine am (ak (ak (am (dD (ak (dG ?_))))))
        cases hm
        exact kr 0
       ·rw [iN h9] at hm;have h9b := dF h9;refine aa ?_;refine gox (a2 h5b (a2 h7b h9b)) ?_;refine hk _ _ ?_;clear hk hp k kp
        by_cases h11 : ((p1.getD x14.toNat default).n) > 300
        ·rw [iP h11] at hm;refine ae rfl (dT h11) ?_;refine aq [3, 7, 8, 9, 10, 36] ?_;have ho12 := aW hm hr1;subst ho12;replace hm : some 0 = some r := hm1;refine au ?_;refine am (ak (ak (am (dD (ak (dG ?_))))))
         cases hm
         exact kr 0
        ·rw [iN h11] at hm;refine af rfl (dF h11) ?_;refine aC ?_;refine aw (hk4 _ _ ?_);refine ej ?_;refine aT (aT ?_);refine aw (hk3 _ _ ?_);refine ej ?_;refine bD ((IntKind.wrap .i64 (x11 + x12)), (p1.getD x14.toNat default).n, 1, (IntKind.wrap .i64 (x14 + 1))) () hm ?_;exact ls
    ·rw [iN h4] at hm;refine af rfl (nB h4) ?_;refine aq [7, 18, 19, 40] ?_
     by_cases h13 : ((p1.getD x14.toNat default).op) = 11
     ·rw [iP h13] at hm;refine ae rfl (eQ h13) ?_;refine ay fun k5 hk5 => ?_;refine aq [4, 5, 39, 41] ?_
      by_cases h14 : x13 = 0
      ·rw [iP h14] at hm;refine ae rfl (eQ h14) ?_;refine aq [3, 8, 9, 10, 42] ?_;have ho15 := aW hm hr1;subst ho15;replace hm : some 0 = some r := hm1;refine au ?_;refine am (ak (ak (am (dD (ak (dG ?_))))))
       cases hm
       exact kr 0
      ·rw [iN h14] at hm;refine af rfl (nB h14) ?_;refine aC ?_;refine aw (hk5 _ _ ?_);refine ej ?_;refine aT (aT ?_);refine aw (hk3 _ _ ?_);refine ej ?_;refine bD ((IntKind.wrap .i64 (x11 + x12)), 1, 0, (IntKind.wrap .i64 (x14 + 1))) () hm ?_;exact ls
     ·rw [iN h13] at hm;refine af rfl (nB h13) ?_;refine aC ?_;refine aT (aT ?_);refine aw (hk3 _ _ ?_);refine ej ?_;refine bD ((IntKind.wrap .i64 (x11 + x12)), x12, x13, (IntKind.wrap .i64 (x14 + 1))) () hm ?_;exact ls
   ·rw [iN h2] at hm;refine af rfl (dF h2) ?_;refine dx ?_;have ho16 := aW hm hr1;subst ho16;replace hm : dd x11 x13 = some r := hm1;refine cD (bP (a9 ?_));refine aX (x11, x13) () hm ?_;exact ls
 ·rintro ⟨x1, x2⟩ _ hm;replace hm : dd x1 x2 = some r := hm;refine ca ?_;unfold dd at hm;refine ay fun k1 hk1 => ?_;refine aq [5, 44] ?_
  by_cases h1 : x2 > 0
  ·rw [iP h1] at hm;refine ae rfl (dT h1) ?_;refine aq [3, 45] ?_;refine au ?_;refine am ?_
   cases hm
   exact kr 0
  ·rw [iN h1] at hm;refine af rfl (dF h1) ?_;refine aC ?_;refine aw (hk1 _ _ ?_);refine aq [3, 45, 46] ?_;refine au ?_
   cases hm
   exact kr 0
theorem ip (p1 : ag) (r : ao) (hm : dg p1 = some r) : ee Try.prog 17 [.a [.int .i64 p1.cells, .int .i64 p1.regs, .int .i64 p1.cost, .tree 1 (p1.put.map (eK .i64)), .tree 1 (p1.bools.map (eK .i64)), .tree 1 (p1.get.map (eK .i64)), .tree 6 (p1.code.map aD.enc)]] (.a [.int .i64 ((r).code), .int .i64 ((r).at_)]) := by
 refine bq 116 [.cell 2 31] Try.func17 rfl rfl rfl (by kernel_rfl) (by simp) ?_;refine dU ?_;unfold dg at hm;refine aq [0] ?_;refine ay fun k1 hk1 => ?_;refine dW [10, 11, 12, 13, 14, 15, 16, 17, 18, 19, 20, 21, 22, 23, 24, 25, 26] fun k kp hk hp => ?_;refine an 4 ?_;refine go ?_
 by_cases h1 : p1.cells < 1
 ·rw [iP h1] at hm;have h1b := dT h1;refine aa ?_;refine gox h1b ?_;refine hk _ _ ?_;clear hk hp k kp;refine ae rfl rfl ?_;refine aq [1, 27, 28] ?_;refine au ?_;refine am ?_
  cases hm
  exact kr 0
 ·rw [iN h1] at hm;have h1b := dF h1;refine an 5 ?_;refine gox h1b ?_
  by_cases h2 : p1.cells > 6000
  ·rw [iP h2] at hm;have h2b := dT h2;refine aa ?_;refine gox (a2 h1b h2b) ?_;refine hk _ _ ?_;clear hk hp k kp;refine ae rfl rfl ?_;refine aq [1, 27, 28] ?_;refine au ?_;refine am ?_
   cases hm
   exact kr 0
  ·rw [iN h2] at hm;have h2b := dF h2;refine an 5 ?_;refine gox (a2 h1b h2b) ?_
   by_cases h3 : p1.regs < 1
   ·rw [iP h3] at hm;have h3b := dT h3;refine aa ?_;refine gox (a2 h1b (a2 h2b h3b)) ?_;refine hk _ _ ?_;clear hk hp k kp;refine ae rfl rfl ?_;refine aq [1, 27, 28] ?_;refine au ?_;refine am ?_
    cases hm
    exact kr 0
   ·rw [iN h3] at hm;have h3b := dF h3;refine aa ?_;refine gox (a2 h1b (a2 h2b h3b)) ?_;refine hk _ _ ?_;clear hk hp k kp
    by_cases h4 : p1.regs > 40
    ·rw [iP h4] at hm;refine ae rfl (dT h4) ?_;refine aq [1, 27, 28] ?_;refine au ?_;refine am ?_
     cases hm
     exact kr 0
    ·rw [iN h4] at hm;refine af rfl (dF h4) ?_;refine aC ?_;refine aw (hk1 _ _ ?_);refine ay fun k2 hk2 => ?_;refine dW [27, 29, 30, 31, 32, 33, 34, 35, 36, 37, 38, 39, 40, 41, 42, 43, 44, 45, 46, 47, 48, 49] fun k kp hk hp => ?_;refine an 5 ?_;refine go ?_
     by_cases h5 : (p1.put.length : Int) > 6000
     ·rw [iP h5] at hm;have h5b := dT h5;refine aa ?_;refine gox h5b ?_;refine hk _ _ ?_;clear hk hp k kp;refine ae rfl rfl ?_;refine aq [1, 50, 51] ?_;refine au ?_;refine am ?_
      cases hm
      exact kr 0
     ·rw [iN h5] at hm;have h5b := dF h5;refine an 6 ?_;refine gox h5b ?_
      by_cases h6 : (p1.bools.length : Int) > 6000
      ·rw [iP h6] at hm;have h6b := dT h6;refine aa ?_;refine gox (a2 h5b h6b) ?_;refine hk _ _ ?_;clear hk hp k kp;refine ae rfl rfl ?_;refine aq [1, 50, 51] ?_;refine au ?_;refine am ?_
       cases hm
       exact kr 0
      ·rw [iN h6] at hm;have h6b := dF h6;refine an 6 ?_;refine gox (a2 h5b h6b) ?_
       by_cases h7 : (p1.get.length : Int) > 120000
       ·rw [iP h7] at hm;have h7b := dT h7;refine aa ?_;refine gox (a2 h5b (a2 h6b h7b)) ?_;refine hk _ _ ?_;clear hk hp k kp;refine ae rfl rfl ?_;refine aq [1, 50, 51] ?_;refine au ?_;refine am ?_
        cases hm
        exact kr 0
       ·rw [iN h7] at hm;have h7b := dF h7;refine aa ?_;refine gox (a2 h5b (a2 h6b h7b)) ?_;refine hk _ _ ?_;clear hk hp k kp
        by_cases h8 : (p1.code.length : Int) > 200000
        ·rw [iP h8] at hm;refine ae rfl (dT h8) ?_;refine aq [1, 50, 51] ?_;refine au ?_;refine am ?_
         cases hm
         exact kr 0
        ·rw [iN h8] at hm;refine af rfl (dF h8) ?_;refine aC ?_;refine aw (hk2 _ _ ?_);refine cz (S := Unit) (V := Unit) [4, 6, 50, 52, 53, 54, 55, 56, 57, 58, 59, 60, 61, 62, 63, 64, 65, 66, 67, 68, 69, 70, 71, 72, 73, 74, 75, 76, 77, 78, 79, 80] (fun _ _ => []) (fun _ _ => [.box [.int .i64 p1.cells, .int .i64 p1.regs, .int .i64 p1.cost, .tree 1 (p1.put.map (eK .i64)), .tree 1 (p1.bools.map (eK .i64)), .tree 1 (p1.get.map (eK .i64)), .tree 6 (p1.code.map aD.enc)], .box [.int .i64 0, .int .i64 0]]) (fun _ => dr p1 = some r) ?_ ?_
         ·skip;refine aq [50, 52, 53, 54, 55, 56, 57] ?_
          refine lF [.box [.int .i64 p1.cells, .int .i64 p1.regs, .int .i64 p1.cost, .tree 1 (p1.put.map (eK .i64)), .tree 1 (p1.bools.map (eK .i64)), .tree 1 (p1.get.map (eK .i64)), .tree 6 (p1.code.map aD.enc)], .box [.int .i64 0, .int .i64 0], .arr 1 0 22 ((lit ([p1.put, p1.bools, p1.get] : List (List Int))).map (eL 1 (eK .i64)))] ?_;refine aL ?_;obtain ⟨o2, hl2, hm2⟩ := bd hm;refine cJ (S := Int) (V := Unit) (O := Unit ⊕ ao) [4, 6, 58, 60, 61, 62, 63, 64, 65, 66, 67, 68, 69, 70, 71, 72, 73, 74, 75, 76, 77, 78, 79, 80] (fun x9 _ => [(58, .c (.osl 2 0 0 3)), (60, .c (.int .i64 x9))]) (fun x9 _ => [.box [.int .i64 p1.cells, .int .i64 p1.regs, .int .i64 p1.cost, .tree 1 (p1.put.map (eK .i64)), .tree 1 (p1.bools.map (eK .i64)), .tree 1 (p1.get.map (eK .i64)), .tree 6 (p1.code.map aD.enc)], .box [.int .i64 0, .int .i64 0], .arr 1 0 22 ((lit ([p1.put, p1.bools, p1.get] : List (List Int))).map (eL 1 (eK .i64)))]) _ _ () hl2 ?_ ?_
          ·exact ls
          ·rintro x9 _ r2 hm hr2;replace hm : dv p1 x9 = some r2 := hm;refine ca ?_;unfold dv at hm;refine aq [] ?_;refine ay fun k6 hk6 => ?_
           by_cases h20 : x9 < (3 : Int)
           ·rw [iP h20] at hm;refine ae rfl (dT h20) ?_;refine aC ?_;refine aw (hk6 _ _ ?_);refine cz (S := Unit) (V := Unit) [4, 6, 58, 61, 62, 63, 64, 65, 66, 67, 68, 69, 70, 71, 72, 73, 74, 75, 76, 77, 78, 79] (fun _ _ => [(58, .c (.osl 2 0 0 3))]) (fun _ _ => [.box [.int .i64 p1.cells, .int .i64 p1.regs, .int .i64 p1.cost, .tree 1 (p1.put.map (eK .i64)), .tree 1 (p1.bools.map (eK .i64)), .tree 1 (p1.get.map (eK .i64)), .tree 6 (p1.code.map aD.enc)], .box [.int .i64 0, .int .i64 0], .arr 1 0 22 ((lit ([p1.put, p1.bools, p1.get] : List (List Int))).map (eL 1 (eK .i64)))]) (fun _ => dt x9 = some r2) ?_ ?_
            ·skip;refine aL ?_
             obtain ⟨hg21a, hm⟩ := gd hm;refine cU (em (eL 1 (eK .i64)) (lit ([p1.put, p1.bools, p1.get] : List (List Int))) x9.toNat) [61, 62, 63] ?_;refine aq [4] ?_;refine aL ?_;obtain ⟨o3, hl3, hm3⟩ := bd hm;refine cJ (S := Int) (V := Unit) (O := Unit ⊕ ao) [6, 58, 66, 67, 68, 69, 70, 71, 72, 73, 74, 75, 76, 77, 78, 79] (fun x12 _ => [(58, .c (.osl 2 0 0 3)), (66, .c (.int .i64 x12))]) (fun x12 _ => [.box [.int .i64 p1.cells, .int .i64 p1.regs, .int .i64 p1.cost, .tree 1 (p1.put.map (eK .i64)), .tree 1 (p1.bools.map (eK .i64)), .tree 1 (p1.get.map (eK .i64)), .tree 6 (p1.code.map aD.enc)], .box [.int .i64 0, .int .i64 0], .arr 1 0 22 ((lit ([p1.put, p1.bools, p1.get] : List (List Int))).map (eL 1 (eK .i64)))]) _ _ () hl3 ?_ ?_
             ·exact ls
             ·rintro x12 _ r3 hm hr3;replace hm : du p1 x9 x12 = some r3 := hm;refine ca ?_;unfold du at hm;refine aq [] ?_;refine ay fun k7 hk7 => ?_
              by_cases h22 : x12 < (((lit ([p1.put, p1.bools, p1.get] : List (List Int))).getD x9.toNat default).length : Int)
              ·rw [iP h22] at hm;refine ae rfl (dT h22) ?_;refine aC ?_;refine aw (hk7 _ _ ?_);refine ay fun k8 hk8 => ?_;refine aL ?_;obtain ⟨hg23a, hm⟩ := gd hm;refine cU (em (eK .i64) ((lit ([p1.put, p1.bools, p1.get] : List (List Int))).getD x9.toNat default) x12.toNat) [67, 68, 69] ?_
               by_cases h24 : (((lit ([p1.put, p1.bools, p1.get] : List (List Int))).getD x9.toNat default).getD x12.toNat default) < 0
               ·rw [iP h24] at hm;have h24b := dT h24;refine cU h24b [6, 70, 71, 72, 73, 74, 75, 76] ?_;refine ae rfl rfl ?_;refine aq [1, 58, 59, 60, 64, 65, 66, 77, 78] ?_;have ho25 := aW hm hr3;subst ho25;replace hm : some (.inr (.inr (ao.mk 16 (-1)))) = some r2 := hm3;have ho26 := aW hm hr2;subst ho26;replace hm : some (ao.mk 16 (-1)) = some r := hm2;refine au ?_;refine ak (am (dD (ak (ak (dG (dD (ak (dG ?_))))))))
                cases hm
                exact kr 0
               ·rw [iN h24] at hm;have h24b := dF h24;refine cU h24b [6, 70, 71, 72, 73, 74, 75, 76] ?_
                by_cases h27 : (((lit ([p1.put, p1.bools, p1.get] : List (List Int))).getD x9.toNat default).getD x12.toNat default) ≥ p1.cells
                ·rw [iP h27] at hm;refine ae rfl (dT h27) ?_;refine aq [1, 58, 59, 60, 64, 65, 66, 77, 78] ?_;have ho28 := aW hm hr3;subst ho28;replace hm : some (.inr (.inr (ao.mk 16 (-1)))) = some r2 := hm3;have ho29 := aW hm hr2;subst ho29;replace hm : some (ao.mk 16 (-1)) = some r := hm2;refine au ?_;refine ak (am (dD (ak (ak (dG (dD (ak (dG ?_))))))))
                 cases hm
                 exact kr 0
                ·rw [iN h27] at hm;refine af rfl (dF h27) ?_;refine aC ?_;refine aT ?_;refine aw (hk8 _ _ ?_);refine ej ?_;refine bD (IntKind.wrap .i64 (x12 + 1)) () hm ?_;exact ls
              ·rw [iN h22] at hm;refine af rfl (dF h22) ?_;refine dx ?_;have ho30 := aW hm hr3;subst ho30;replace hm : dt x9 = some r2 := hm3;refine cD (bP (a9 (aT ?_)));refine aX () () hm ?_;exact ls
            ·rintro _ _ hm;replace hm : dt x9 = some r2 := hm;refine ca ?_;unfold dt at hm;refine ej ?_;refine bD (IntKind.wrap .i64 (x9 + 1)) () hm ?_;exact ls
           ·rw [iN h20] at hm;refine af rfl (dF h20) ?_;refine dx ?_;have ho31 := aW hm hr2;subst ho31;replace hm : dr p1 = some r := hm2;refine cD (bP (a9 ?_));refine aX () () hm ?_;exact ls
         ·rintro _ _ hm;replace hm : dr p1 = some r := hm;refine ca ?_;unfold dr at hm;refine cz (S := Unit) (V := Unit) [7, 8, 81, 82, 83, 84, 85, 86, 87, 88, 89, 90, 91, 92, 93, 94, 95, 96] (fun _ _ => []) (fun _ _ => [.box [.int .i64 p1.cells, .int .i64 p1.regs, .int .i64 p1.cost, .tree 1 (p1.put.map (eK .i64)), .tree 1 (p1.bools.map (eK .i64)), .tree 1 (p1.get.map (eK .i64)), .tree 6 (p1.code.map aD.enc)], .box [.int .i64 0, .int .i64 0]]) (fun _ => dp p1 = some r) ?_ ?_
          ·skip;refine aq [81] ?_
           refine aL ?_;obtain ⟨o1, hl1, hm1⟩ := bd hm;refine cJ (S := Int) (V := Unit) (O := Unit ⊕ ao) [7, 8, 84, 85, 86, 87, 88, 89, 90, 91, 92, 93, 94, 95, 96] (fun x4 _ => [(84, .c (.int .i64 x4))]) (fun x4 _ => [.box [.int .i64 p1.cells, .int .i64 p1.regs, .int .i64 p1.cost, .tree 1 (p1.put.map (eK .i64)), .tree 1 (p1.bools.map (eK .i64)), .tree 1 (p1.get.map (eK .i64)), .tree 6 (p1.code.map aD.enc)], .box [.int .i64 0, .int .i64 0]]) _ _ () hl1 ?_ ?_
           ·exact ls
           ·rintro x4 _ r1 hm hr1;replace hm : dq p1 x4 = some r1 := hm;refine ca ?_;unfold dq at hm;refine aq [] ?_;refine ay fun k4 hk4 => ?_
            by_cases h14 : x4 < (p1.code.length : Int)
            ·rw [iP h14] at hm;refine ae rfl (dT h14) ?_;refine aC ?_;refine aw (hk4 _ _ ?_);refine ay fun k5 hk5 => ?_;refine aL ?_;obtain ⟨hg15a, hm⟩ := gd hm;refine cU (em aD.enc p1.code x4.toNat) [85, 86, 87, 88] ?_;refine aV [8, 89, 90, 91, 92] fun k kp hk hp => ?_;refine go ?_;obtain ⟨y5, hc16, hm⟩ := bd hm;refine RP (fun _ => iH (br.mk p1) (p1.code.getD x4.toNat default) _ hc16) ?_;refine aa ?_;refine go ?_;refine hk _ _ ?_;clear hk hp k kp
             by_cases h17 : y5 = true
             ·rw [iP h17] at hm;refine af rfl (by rw [show y5 = true from (h17)]; rfl) ?_;refine aC ?_;refine aT ?_;refine aw (hk5 _ _ ?_);refine ej ?_;refine bD (IntKind.wrap .i64 (x4 + 1)) () hm ?_;exact ls
             ·rw [iN h17] at hm;refine ae rfl (by rw [show y5 = false from (fB h17)]; rfl) ?_;refine aq [1, 7, 82, 83, 84, 93, 94, 95] ?_;have ho18 := aW hm hr1;subst ho18;replace hm : some (ao.mk 4 x4) = some r := hm1;refine au ?_;refine ak (am (dD (ak (dG ?_))))
              cases hm
              exact kr 0
            ·rw [iN h14] at hm;refine af rfl (dF h14) ?_;refine dx ?_;have ho19 := aW hm hr1;subst ho19;replace hm : dp p1 = some r := hm1;refine cD (bP (a9 ?_));refine aX () () hm ?_;exact ls
          ·rintro _ _ hm;replace hm : dp p1 = some r := hm;refine ca ?_;unfold dp at hm;refine aV [97, 98, 99] fun k kp hk hp => ?_;refine go ?_;obtain ⟨y1, hc9, hm⟩ := bd hm;refine RP (fun _ => lg p1.code _ hc9) ?_;refine aa ?_;refine go ?_;refine hk _ _ ?_;clear hk hp k kp;refine ay fun k3 hk3 => ?_
           by_cases h10 : y1 = 0
           ·rw [iP h10] at hm;have h10b := eQ h10;refine dW [1, 9, 100, 101, 102, 103, 104, 105, 106, 107, 108, 109, 110, 111, 112] fun k kp hk hp => ?_;refine an 9 ?_;refine gox h10b ?_
            by_cases h11 : (p1.code.length : Int) > 0
            ·rw [iP h11] at hm;have h11b := dT h11;refine aa ?_;refine gox (a2 h10b h11b) ?_;refine hk _ _ ?_;clear hk hp k kp;refine ae rfl rfl ?_;refine aq [113, 114] ?_;refine au ?_;refine am ?_
             cases hm
             exact kr 0
            ·rw [iN h11] at hm;have h11b := dF h11;refine aa ?_;refine gox (a2 h10b h11b) ?_;refine hk _ _ ?_;clear hk hp k kp
             by_cases h12 : ¬ y1 = p1.cost
             ·rw [iP h12] at hm;refine ae rfl (bne_iff_ne.2 h12) ?_;refine aq [113, 114] ?_;refine au ?_;refine am ?_
              cases hm
              exact kr 0
             ·rw [iN h12] at hm;refine af rfl (bne_eq_false_iff_eq.2 (Decidable.not_not.1 h12)) ?_;refine aC ?_;refine aw (hk3 _ _ ?_);refine aq [113, 115] ?_;refine au ?_
              cases hm
              exact kr 0
           ·rw [iN h10] at hm;have h10b := nB h10;refine cU h10b [1, 9, 100, 101, 102, 103, 104, 105, 106, 107, 108, 109, 110, 111, 112] ?_
            by_cases h13 : ¬ y1 = p1.cost
            ·rw [iP h13] at hm;refine ae rfl (bne_iff_ne.2 h13) ?_;refine aq [113, 114] ?_;refine au ?_;refine am ?_
             cases hm
             exact kr 0
            ·rw [iN h13] at hm;refine af rfl (bne_eq_false_iff_eq.2 (Decidable.not_not.1 h13)) ?_;refine aC ?_;refine aw (hk3 _ _ ?_);refine aq [113, 115] ?_;refine au ?_
             cases hm
             exact kr 0
theorem cx (p1 : List Int) (p2 : List Int) (v1_ : Nat) (r : (List Int)) (hm : a8 p1 p2 = some r) : fw Try.prog 18 [.c (.optr 0 0), .c (.tree 1 (p1.map (eK .i64)))] [.box [.osl 1 v1_ 0 p2.length], .arr 1 v1_ 5 (p2.map (eK .u8))] (fun p σ => ∃ w1_, (p = .t [] ∧ σ = [.box [.osl 1 w1_ 0 r.length], .arr 1 w1_ 5 (r.map (eK .u8))])) (fun _ _ => False) := by
 refine bq 48 [] Try.func18 rfl rfl rfl (by kernel_rfl) (by simp) ?_;refine dU ?_;unfold a8 at hm;refine aq [1] ?_;refine aL ?_;obtain ⟨o1, hl1, hm1⟩ := bd hm;refine cJ (S := ((List Int) × Int)) (V := Nat) (O := (List Int)) [5, 6, 9, 10, 11, 12, 13, 14, 15, 16, 17, 18, 19, 20, 21, 22, 23, 24, 25, 26, 27, 28, 29, 30, 31, 32, 33, 34, 35, 36, 37, 38, 39, 40, 41, 42, 43, 44, 45, 46, 47] (fun (l13, x15) v14 => [(9, .c (.int .i64 x15))]) (fun (l13, x15) v14 => [.box [.osl 1 v14 0 l13.length], .arr 1 v14 5 (l13.map (eK .u8))]) _ _ v1_ hl1 ?_ ?_
 ·exact ls
 ·rintro ⟨l13, x15⟩ v14 r1 hm hr1;replace hm : aS p1 l13 x15 = some r1 := hm;refine ca ?_;unfold aS at hm;refine aq [] ?_;refine ay fun k1 hk1 => ?_
  by_cases h1 : x15 < (p1.length : Int)
  ·rw [iP h1] at hm;refine ae rfl (dT h1) ?_;refine aC ?_;refine aw (hk1 _ _ ?_);refine cz (S := (List Int)) (V := Nat) [5, 6, 10, 11, 12, 13, 14, 15, 16, 17, 18, 19, 20, 21, 22, 23, 24, 25, 26, 27, 28, 29, 30, 31, 32, 33, 34, 35, 36, 37, 38, 39, 40, 41, 42, 43, 44, 45, 46] (fun l18 v19 => []) (fun l18 v19 => [.box [.osl 1 v19 0 l18.length], .arr 1 v19 5 (l18.map (eK .u8))]) (fun l18 => cw x15 l18 = some r1) ?_ ?_
   ·skip;refine aL ?_
    obtain ⟨hg2a, hm⟩ := gd hm;refine cU (em (eK .i64) p1 x15.toNat) [10, 11, 12] ?_;refine aq [5, 13, 14, 15, 16, 17, 18, 19] ?_;refine cz (S := ((List Int) × Int)) (V := Nat) [6, 20, 21, 22, 23, 24, 25, 26, 27, 28, 29, 30, 31, 32, 33, 34, 35] (fun (l22, x24) v23 => [(6, .c (.int .u64 x24))]) (fun (l22, x24) v23 => [.box [.osl 1 v23 0 l22.length], .arr 1 v23 5 (l22.map (eK .u8))]) (fun (l22, x24) => bl x15 l22 x24 = some r1) ?_ ?_
    ·skip;refine aL ?_
     obtain ⟨o2, hl2, hm2⟩ := bd hm;refine cJ (S := ((List Int) × Int)) (V := Nat) (O := ((List Int) × Int)) [6, 20, 21, 22, 23, 24, 25, 26, 27, 28, 29, 30, 31, 32, 33, 34, 35] (fun (l39, x41) v40 => [(6, .c (.int .u64 x41))]) (fun (l39, x41) v40 => [.box [.osl 1 v40 0 l39.length], .arr 1 v40 5 (l39.map (eK .u8))]) _ _ v14 hl2 ?_ ?_
     ·exact ls
     ·rintro ⟨l39, x41⟩ v40 r2 hm hr2;replace hm : aR l39 x41 = some r2 := hm;refine ca ?_;unfold aR at hm;refine ay fun k2 hk2 => ?_;refine aq [20] ?_
      by_cases h4 : x41 ≥ 128
      ·rw [iP h4] at hm;refine ae rfl (dT h4) ?_;refine aC ?_;refine aw (hk2 _ _ ?_);refine ay fun k3 hk3 => ?_;refine aL ?_;obtain ⟨⟨hg5ax, hg5ay⟩, hm⟩ := gd hm;refine ej ?_;refine aT ?_;refine aw (hk3 _ _ ?_);refine ej ?_;refine bD ((l39 ++ (lit ([(bits .or .u8 (IntKind.wrap .u8 x41) 128)] : List Int))), (x41.fdiv (2 ^ (min 7 (IntKind.bits .u64))))) (v40 + 1) hm ?_;exact ls
      ·rw [iN h4] at hm;refine af rfl (dF h4) ?_;refine dx ?_;have ho6 := aW hm hr2;subst ho6;replace hm : bl x15 l39 x41 = some r1 := hm2;refine cD (bP (a9 ?_));refine aX (l39, x41) v40 hm ?_;exact ls
    ·rintro ⟨l22, x24⟩ v23 hm;replace hm : bl x15 l22 x24 = some r1 := hm;refine ca ?_;unfold bl at hm;obtain ⟨⟨hg3ax, hg3ay⟩, hm⟩ := gd hm;refine ej ?_;refine aT ?_;refine aX (l22 ++ (lit ([(IntKind.wrap .u8 x24)] : List Int))) (v23 + 1) hm ?_;exact ls
   ·rintro l18 v19 hm;replace hm : cw x15 l18 = some r1 := hm;refine ca ?_;unfold cw at hm;refine ej ?_;refine bD (l18, (IntKind.wrap .i64 (x15 + 1))) v19 hm ?_;exact ls
  ·rw [iN h1] at hm;refine af rfl (dF h1) ?_;refine dx ?_;have ho7 := aW hm hr1;subst ho7;replace hm : some l13 = some r := hm1;refine cD (bP (a9 ?_))
   cases hm
   exact kn 2
theorem dK (p1 : List Int) (p2 : List Int) (v1_ : Nat) (r : (List Int)) (hm : bG p1 p2 = some r) : fw Try.prog 19 [.c (.optr 0 0), .c (.tree 1 (p1.map (eK .i64)))] [.box [.osl 1 v1_ 0 p2.length], .arr 1 v1_ 5 (p2.map (eK .u8))] (fun p σ => ∃ w1_, (p = .t [] ∧ σ = [.box [.osl 1 w1_ 0 r.length], .arr 1 w1_ 5 (r.map (eK .u8))])) (fun _ _ => False) := by
 refine bq 22 [] Try.func19 rfl rfl rfl (by kernel_rfl) (by simp) ?_;refine dU ?_;unfold bG at hm;refine aV [6, 7, 8, 9, 10] fun k kp hk hp => ?_;refine go ?_;refine aQ (bO 2 rfl) ?_;refine gt ?_;obtain ⟨y1, hc1, hm⟩ := bd hm;refine RA (cx (lit ([(p1.length : Int)] : List Int)) p2 v1_ _ hc1) [0, 1] ?_;rintro p σ' hq2 _;obtain ⟨v2, rfl, rfl⟩ := hq2;refine aa ?_;refine go ?_;refine hk _ _ ?_;clear hk hp k kp;refine aq [1] ?_;refine aL ?_;obtain ⟨o1, hl1, hm1⟩ := bd hm;refine cJ (S := ((List Int) × Int)) (V := Nat) (O := (List Int)) [5, 13, 14, 15, 16, 17, 18, 19, 20, 21] (fun (l17, x19) v18 => [(13, .c (.int .i64 x19))]) (fun (l17, x19) v18 => [.box [.osl 1 v18 0 l17.length], .arr 1 v18 5 (l17.map (eK .u8)), .dead]) _ _ v2 hl1 ?_ ?_
 ·exact ls
 ·rintro ⟨l17, x19⟩ v18 r1 hm hr1;replace hm : aN p1 l17 x19 = some r1 := hm;refine ca ?_;unfold aN at hm;refine aq [] ?_;refine ay fun k1 hk1 => ?_
  by_cases h3 : x19 < (p1.length : Int)
  ·rw [iP h3] at hm;refine ae rfl (dT h3) ?_;refine aC ?_;refine aw (hk1 _ _ ?_);refine ay fun k2 hk2 => ?_;refine aL ?_;obtain ⟨hg4a, hm⟩ := gd hm;refine cU (em (eK .i64) p1 x19.toNat) [14, 15, 16] ?_;refine iR fun k kp hk hp => ?_;refine go ?_;refine aQ (bO 3 rfl) ?_;refine gt ?_;obtain ⟨y20, hc5, hm⟩ := bd hm;refine RA (cx (lit ([(p1.getD x19.toNat default)] : List Int)) l17 v18 _ hc5) [0, 1] ?_;rintro p σ' hq6 _;obtain ⟨v21, rfl, rfl⟩ := hq6;refine aa ?_;refine go ?_;refine hk _ _ ?_;clear hk hp k kp;refine aT ?_;refine aw (hk2 _ _ ?_);refine ej ?_;refine bD (y20, (IntKind.wrap .i64 (x19 + 1))) v21 hm ?_;exact ls
  ·rw [iN h3] at hm;refine af rfl (dF h3) ?_;refine dx ?_;have ho7 := aW hm hr1;subst ho7;replace hm : some l17 = some r := hm1;refine cD (bP (a9 ?_))
   cases hm
   exact kn 2
theorem lh (p1 : List Int) (v0_ : Nat) (r : Int) (hm : hS p1 = some r) : fw Try.prog 14 [.c (.osl 0 v0_ 0 p1.length)] [.arr 1 v0_ 5 (p1.map (eK .u8))] (fun p σ => (p = .c (.int .u32 r) ∧ σ = [.arr 1 v0_ 5 (p1.map (eK .u8))])) (fun _ _ => False) := by
 refine bq 29 [.tmp 2] Try.func14 rfl rfl rfl (by kernel_rfl) (by simp) ?_;refine dU ?_;unfold hS at hm;refine aq [2] ?_;refine aq [] ?_;refine cz (S := Int) (V := Unit) [0, 3, 5, 6, 7, 8, 9, 10, 11, 12, 13, 14, 15, 16, 17, 18, 19, 20, 21, 22, 23, 24, 25, 26] (fun x1 _ => [(3, .c (.int .u32 x1))]) (fun x1 _ => [.arr 1 v0_ 5 (p1.map (eK .u8))]) (fun x1 => eF x1 = some r) ?_ ?_
 ·skip;refine aq [0] ?_
  refine aL ?_;obtain ⟨o1, hl1, hm1⟩ := bd hm;refine cJ (S := (Int × Int)) (V := Unit) (O := Int) [3, 5, 6, 8, 9, 10, 11, 12, 13, 14, 15, 16, 17, 18, 19, 20, 21, 22, 23, 24, 25, 26] (fun (x6, x7) _ => [(3, .c (.int .u32 x6)), (6, .c (.osl 0 v0_ 0 p1.length)), (8, .c (.int .i64 x7))]) (fun (x6, x7) _ => [.arr 1 v0_ 5 (p1.map (eK .u8))]) _ _ () hl1 ?_ ?_
  ·exact ls
  ·rintro ⟨x6, x7⟩ _ r1 hm hr1;replace hm : gE p1 x6 x7 = some r1 := hm;refine ca ?_;unfold gE at hm;refine aq [] ?_;refine ay fun k1 hk1 => ?_
   by_cases h1 : x7 < (p1.length : Int)
   ·rw [iP h1] at hm;refine ae rfl (dT h1) ?_;refine aC ?_;refine aw (hk1 _ _ ?_);refine cz (S := Int) (V := Unit) [3, 5, 6, 9, 10, 11, 12, 13, 14, 15, 16, 17, 18, 19, 20, 21, 22, 23, 24, 25] (fun x8 _ => [(3, .c (.int .u32 x8)), (6, .c (.osl 0 v0_ 0 p1.length))]) (fun x8 _ => [.arr 1 v0_ 5 (p1.map (eK .u8))]) (fun x8 => eG x7 x8 = some r1) ?_ ?_
    ·skip;refine aL ?_
     obtain ⟨hg2a, hm⟩ := gd hm;refine cU (em (eK .u8) p1 x7.toNat) [9, 10, 11] ?_;refine aq [5, 12, 13, 14, 15] ?_;refine aq [] ?_;refine aL ?_;obtain ⟨o2, hl2, hm2⟩ := bd hm;refine cJ (S := (Int × Int)) (V := Unit) (O := Int) [3, 6, 16, 17, 18, 19, 20, 21, 22, 23, 24, 25] (fun (x13, x14) _ => [(3, .c (.int .u32 x13)), (6, .c (.osl 0 v0_ 0 p1.length)), (16, .c (.int .i64 x14))]) (fun (x13, x14) _ => [.arr 1 v0_ 5 (p1.map (eK .u8))]) _ _ () hl2 ?_ ?_
     ·exact ls
     ·rintro ⟨x13, x14⟩ _ r2 hm hr2;replace hm : gD x13 x14 = some r2 := hm;refine ca ?_;unfold gD at hm;refine aq [] ?_;refine ay fun k2 hk2 => ?_
      by_cases h3 : x14 < 8
      ·rw [iP h3] at hm;refine ae rfl (dT h3) ?_;refine aC ?_;refine aw (hk2 _ _ ?_);refine ay fun k3 hk3 => ?_;refine aL ?_;refine ej ?_;refine aT ?_;refine aw (hk3 _ _ ?_);refine ej ?_;refine bD ((bits .xor .u32 (x13.fdiv (2 ^ (min 1 (IntKind.bits .u32)))) (bits .and .u32 3988292384 (IntKind.wrap .u32 (0 - (bits .and .u32 x13 1))))), (IntKind.wrap .i64 (x14 + 1))) () hm ?_;exact ls
      ·rw [iN h3] at hm;refine af rfl (dF h3) ?_;refine dx ?_;have ho4 := aW hm hr2;subst ho4;replace hm : eG x7 x13 = some r1 := hm2;refine cD (bP (a9 (aT ?_)));refine aX x13 () hm ?_;exact ls
    ·rintro x8 _ hm;replace hm : eG x7 x8 = some r1 := hm;refine ca ?_;unfold eG at hm;refine ej ?_;refine bD (x8, (IntKind.wrap .i64 (x7 + 1))) () hm ?_;exact ls
   ·rw [iN h1] at hm;refine af rfl (dF h1) ?_;refine dx ?_;have ho5 := aW hm hr1;subst ho5;replace hm : eF x6 = some r := hm1;refine cD (bP (a9 ?_));refine aX x6 () hm ?_;exact ls
 ·rintro x1 _ hm;replace hm : eF x1 = some r := hm;refine ca ?_;unfold eF at hm;refine aq [3, 27, 28] ?_;refine au ?_
  cases hm
  exact kr 1
theorem gQ (p1 : ag) (r : ((List Int) × ao)) (hm : cK p1 = some r) : ee Try.prog 9 [.a [.int .i64 p1.cells, .int .i64 p1.regs, .int .i64 p1.cost, .tree 1 (p1.put.map (eK .i64)), .tree 1 (p1.bools.map (eK .i64)), .tree 1 (p1.get.map (eK .i64)), .tree 6 (p1.code.map aD.enc)]] (.t [.c (.tree 1 (r.1.map (eK .u8))), .a [.int .i64 ((r.2).code), .int .i64 ((r.2).at_)]]) := by
 refine bq 95 [.tmp 2, .cell 3 31] Try.func9 rfl rfl rfl (by kernel_rfl) (by simp) ?_;refine dU ?_;unfold cK at hm;refine aq [0, 2] ?_;refine ay fun k1 hk1 => ?_;refine aV [9, 10] fun k kp hk hp => ?_;refine go ?_;obtain ⟨y1, hc1, hm⟩ := bd hm;refine RP (fun _ => ip p1 _ hc1) ?_;refine aa ?_;refine go ?_;refine hk _ _ ?_;clear hk hp k kp;refine aq [11, 12] ?_
 by_cases h2 : ¬ ((y1).code) = 0
 ·rw [iP h2] at hm;refine ae rfl (bne_iff_ne.2 h2) ?_;refine qE [1, 4, 13, 14] [0, 0, 3] [false, false, true] ?_
  refine fd (kG 2 (.c (.tree 1 (([] : List _).map (eK .u8)))) rfl (by and_intros <;> trivial)) ?_
  refine pt ?_;refine au ?_;refine am ?_
  cases hm
  exact kr 0
 ·rw [iN h2] at hm;refine af rfl (bne_eq_false_iff_eq.2 (Decidable.not_not.1 h2)) ?_;refine aC ?_;refine aw (hk1 _ _ ?_);refine dW [4, 13, 15, 16, 17, 18] fun k kp hk hp => ?_;refine an 1 ?_;refine go ?_
  refine RS (lK rfl (by first | rfl | (simp only [bR, bT, tab, bX, reduceIte, ↓reduceIte, reduceCtorEq, Int.reduceToNat, Nat.reduceDiv, Nat.reduceMod, Nat.reduceLT, Nat.reduceLeDiff, Nat.reduceAdd, Nat.reduceSub, Nat.reduceMul, Nat.reduceEqDiff, Nat.reduceBEq, Nat.reduceBNe, Nat.reduceGT]; done)) rfl (by first | kernel_rfl | exact of_decide_eq_true (by kernel_rfl)) (by first | kernel_rfl | exact of_decide_eq_true (by kernel_rfl)) (by first | assumption | omega)) ?_
  simp only [bR, bT, tab, bX, reduceIte, ↓reduceIte, reduceCtorEq, Int.reduceToNat, Nat.reduceDiv, Nat.reduceMod, Nat.reduceLT, Nat.reduceLeDiff, Nat.reduceAdd, Nat.reduceSub, Nat.reduceMul, Nat.reduceEqDiff, Nat.reduceBEq, Nat.reduceBNe, Nat.reduceGT];refine aa ?_;refine go ?_;refine hk _ _ ?_;clear hk hp k kp;refine lF [.box [.int .i64 p1.cells, .int .i64 p1.regs, .int .i64 p1.cost, .tree 1 (p1.put.map (eK .i64)), .tree 1 (p1.bools.map (eK .i64)), .tree 1 (p1.get.map (eK .i64)), .tree 6 (p1.code.map aD.enc)], .box [.int .i64 0, .int .i64 0], .box [.int .i64 ((y1).code), .int .i64 ((y1).at_)], .arr 1 0 5 ((lit ([76, 87, 1] : List Int)).map (eK .u8)), .box [.osl 3 0 0 3]] ?_;refine aV [19, 20, 21, 22, 23, 24, 25, 26, 27] fun k kp hk hp => ?_;refine go ?_;refine aQ (bO 5 rfl) ?_;refine gt ?_;obtain ⟨y2, hc3, hm⟩ := bd hm;refine RA (cx (lit ([p1.cells, p1.regs, p1.cost] : List Int)) (lit ([76, 87, 1] : List Int)) 0 _ hc3) [4, 3] ?_;rintro p σ' hq4 _;obtain ⟨v3, rfl, rfl⟩ := hq4;refine aa ?_;refine go ?_;refine hk _ _ ?_;clear hk hp k kp;refine aV [28, 29, 30, 31] fun k kp hk hp => ?_;refine go ?_;obtain ⟨y4, hc5, hm⟩ := bd hm;refine RA (dK p1.put y2 v3 _ hc5) [4, 3] ?_;rintro p σ' hq6 _;obtain ⟨v5, rfl, rfl⟩ := hq6;refine aa ?_;refine go ?_;refine hk _ _ ?_;clear hk hp k kp;refine aV [32, 33, 34, 35] fun k kp hk hp => ?_;refine go ?_;obtain ⟨y6, hc7, hm⟩ := bd hm;refine RA (dK p1.bools y4 v5 _ hc7) [4, 3] ?_;rintro p σ' hq8 _;obtain ⟨v7, rfl, rfl⟩ := hq8;refine aa ?_;refine go ?_;refine hk _ _ ?_;clear hk hp k kp;refine aV [36, 37, 38, 39] fun k kp hk hp => ?_;refine go ?_;obtain ⟨y8, hc9, hm⟩ := bd hm;refine RA (dK p1.get y6 v7 _ hc9) [4, 3] ?_;rintro p σ' hq10 _;obtain ⟨v9, rfl, rfl⟩ := hq10;refine aa ?_;refine go ?_;refine hk _ _ ?_;clear hk hp k kp;refine aV [40, 41, 42, 43, 44, 45] fun k kp hk hp => ?_;refine go ?_;refine aQ (bO 6 rfl) ?_;refine gt ?_;obtain ⟨y10, hc11, hm⟩ := bd hm;refine RA (cx (lit ([(p1.code.length : Int)] : List Int)) y8 v9 _ hc11) [4, 3] ?_;rintro p σ' hq12 _;obtain ⟨v11, rfl, rfl⟩ := hq12;refine aa ?_;refine go ?_;refine hk _ _ ?_;clear hk hp k kp;refine cz (S := (List Int)) (V := Nat) [1, 7, 46, 47, 48, 49, 50, 51, 52, 53, 54, 55, 56, 57, 58, 59, 60, 61, 62, 63, 64, 65, 66, 67, 68] (fun l14 v15 => []) (fun l14 v15 => [.box [.int .i64 p1.cells, .int .i64 p1.regs, .int .i64 p1.cost, .tree 1 (p1.put.map (eK .i64)), .tree 1 (p1.bools.map (eK .i64)), .tree 1 (p1.get.map (eK .i64)), .tree 6 (p1.code.map aD.enc)], .box [.int .i64 0, .int .i64 0], .box [.int .i64 ((y1).code), .int .i64 ((y1).at_)], .arr 1 v15 5 (l14.map (eK .u8)), .box [.osl 3 v15 0 l14.length], .dead, .dead]) (fun l14 => cq l14 = some r) ?_ ?_
  ·skip;refine aq [1, 46] ?_
   refine aL ?_;obtain ⟨o2, hl2, hm2⟩ := bd hm;refine cJ (S := ((List Int) × Int)) (V := Nat) (O := (List Int)) [7, 49, 50, 51, 52, 53, 54, 55, 56, 57, 58, 59, 60, 61, 62, 63, 64, 65, 66, 67, 68] (fun (l56, x58) v57 => [(49, .c (.int .i64 x58))]) (fun (l56, x58) v57 => [.box [.int .i64 p1.cells, .int .i64 p1.regs, .int .i64 p1.cost, .tree 1 (p1.put.map (eK .i64)), .tree 1 (p1.bools.map (eK .i64)), .tree 1 (p1.get.map (eK .i64)), .tree 6 (p1.code.map aD.enc)], .box [.int .i64 0, .int .i64 0], .box [.int .i64 ((y1).code), .int .i64 ((y1).at_)], .arr 1 v57 5 (l56.map (eK .u8)), .box [.osl 3 v57 0 l56.length], .dead, .dead]) _ _ v11 hl2 ?_ ?_
   ·exact ls
   ·rintro ⟨l56, x58⟩ v57 r2 hm hr2;replace hm : bj p1 l56 x58 = some r2 := hm;refine ca ?_;unfold bj at hm;refine aq [] ?_;refine ay fun k4 hk4 => ?_
    by_cases h18 : x58 < (p1.code.length : Int)
    ·rw [iP h18] at hm;refine ae rfl (dT h18) ?_;refine aC ?_;refine aw (hk4 _ _ ?_);refine ay fun k5 hk5 => ?_;refine aL ?_;obtain ⟨hg19a, hm⟩ := gd hm;refine cU (em aD.enc p1.code x58.toNat) [50, 51, 52] ?_;refine iR fun k kp hk hp => ?_;refine go ?_;refine aQ (bO 8 rfl) ?_;refine gt ?_;obtain ⟨y59, hc20, hm⟩ := bd hm;refine RA (cx (lit ([(p1.code.getD x58.toNat default).op, (p1.code.getD x58.toNat default).k, (p1.code.getD x58.toNat default).r_, (p1.code.getD x58.toNat default).a, (p1.code.getD x58.toNat default).b, (p1.code.getD x58.toNat default).n] : List Int)) l56 v57 _ hc20) [4, 3] ?_;rintro p σ' hq21 _;obtain ⟨v60, rfl, rfl⟩ := hq21;refine aa ?_;refine go ?_;refine hk _ _ ?_;clear hk hp k kp;refine aT ?_;refine aw (hk5 _ _ ?_);refine ej ?_;refine bD (y59, (IntKind.wrap .i64 (x58 + 1))) v60 hm ?_;exact ls
    ·rw [iN h18] at hm;refine af rfl (dF h18) ?_;refine dx ?_;have ho22 := aW hm hr2;subst ho22;replace hm : cq l56 = some r := hm2;refine cD (bP (a9 ?_));refine aX l56 v57 hm ?_;exact ls
  ·rintro l14 v15 hm;replace hm : cq l14 = some r := hm;refine ca ?_;unfold cq at hm;refine aV [69, 70, 71, 72, 73] fun k kp hk hp => ?_;refine go ?_;obtain ⟨y16, hc13, hm⟩ := bd hm;refine RA (lh l14 v15 _ hc13) [3] ?_;rintro p σ' ⟨rfl, rfl⟩ _;refine aa ?_;refine go ?_;refine hk _ _ ?_;clear hk hp k kp;refine cz (S := (List Int)) (V := Nat) [8, 74, 75, 76, 77, 78, 79, 80, 81, 82, 83, 84, 85, 86, 87, 88, 89] (fun l19 v20 => []) (fun l19 v20 => [.box [.int .i64 p1.cells, .int .i64 p1.regs, .int .i64 p1.cost, .tree 1 (p1.put.map (eK .i64)), .tree 1 (p1.bools.map (eK .i64)), .tree 1 (p1.get.map (eK .i64)), .tree 6 (p1.code.map aD.enc)], .box [.int .i64 0, .int .i64 0], .box [.int .i64 ((y1).code), .int .i64 ((y1).at_)], .arr 1 v20 5 (l19.map (eK .u8)), .box [.osl 3 v20 0 l19.length], .dead, .dead]) (fun l19 => dj l19 = some r) ?_ ?_
   ·skip;refine aq [] ?_
    refine aL ?_;obtain ⟨o1, hl1, hm1⟩ := bd hm;refine cJ (S := ((List Int) × Int × Int)) (V := Nat) (O := (List Int)) [8, 74, 75, 76, 77, 78, 79, 80, 81, 82, 83, 84, 85, 86, 87, 88, 89] (fun (l37, x39, x40) v38 => [(8, .c (.int .u32 x39)), (74, .c (.int .i64 x40))]) (fun (l37, x39, x40) v38 => [.box [.int .i64 p1.cells, .int .i64 p1.regs, .int .i64 p1.cost, .tree 1 (p1.put.map (eK .i64)), .tree 1 (p1.bools.map (eK .i64)), .tree 1 (p1.get.map (eK .i64)), .tree 6 (p1.code.map aD.enc)], .box [.int .i64 0, .int .i64 0], .box [.int .i64 ((y1).code), .int .i64 ((y1).at_)], .arr 1 v38 5 (l37.map (eK .u8)), .box [.osl 3 v38 0 l37.length], .dead, .dead]) _ _ v15 hl1 ?_ ?_
    ·exact ls
    ·rintro ⟨l37, x39, x40⟩ v38 r1 hm hr1;replace hm : aY l37 x39 x40 = some r1 := hm;refine ca ?_;unfold aY at hm;refine aq [] ?_;refine ay fun k2 hk2 => ?_
     by_cases h15 : x40 < 4
     ·rw [iP h15] at hm;refine ae rfl (dT h15) ?_;refine aC ?_;refine aw (hk2 _ _ ?_);refine ay fun k3 hk3 => ?_;refine aL ?_;obtain ⟨⟨hg16ax, hg16ay⟩, hm⟩ := gd hm;refine aq [75, 76, 77, 78, 79, 80, 81, 82, 83, 84, 85, 86] ?_;refine lF [.box [.int .i64 p1.cells, .int .i64 p1.regs, .int .i64 p1.cost, .tree 1 (p1.put.map (eK .i64)), .tree 1 (p1.bools.map (eK .i64)), .tree 1 (p1.get.map (eK .i64)), .tree 6 (p1.code.map aD.enc)], .box [.int .i64 0, .int .i64 0], .box [.int .i64 ((y1).code), .int .i64 ((y1).at_)], .arr 1 (v38 + 1) 5 ((l37 ++ (lit ([(IntKind.wrap .u8 x39)] : List Int))).map (eK .u8)), .box [.osl 3 (v38 + 1) 0 (l37.length + 1)], .dead, .dead, .arr 1 0 5 ((lit ([(IntKind.wrap .u8 x39)] : List Int)).map (eK .u8))] ?_;refine ej ?_;refine aT ?_;refine aw (hk3 _ _ ?_);refine ej ?_;refine bD ((l37 ++ (lit ([(IntKind.wrap .u8 x39)] : List Int))), (x39.fdiv (2 ^ (min 8 (IntKind.bits .u32)))), (IntKind.wrap .i64 (x40 + 1))) (v38 + 1) hm ?_;exact ls
     ·rw [iN h15] at hm;refine af rfl (dF h15) ?_;refine dx ?_;have ho17 := aW hm hr1;subst ho17;replace hm : dj l37 = some r := hm1;refine cD (bP (a9 ?_));refine aX l37 v38 hm ?_;exact ls
   ·rintro l19 v20 hm;replace hm : dj l19 = some r := hm;refine ca ?_;unfold dj at hm;refine aq [5, 90, 91, 92, 93, 94] ?_;refine oV (bO 3 rfl) ?_;refine au ?_
    cases hm
    exact kr 0
theorem hM (p1 : List Int) (r : Int) (hm : dH p1 = some r) : ee Try.prog 14 [.c (.tree 1 (p1.map (eK .u8)))] (.c (.int .u32 r)) := by
 refine bq 29 [.tmp 2] Try.func14 rfl rfl rfl (by kernel_rfl) (by simp) ?_;refine dU ?_;unfold dH at hm;refine aq [2] ?_;refine aq [] ?_;refine cz (S := Int) (V := Unit) [0, 3, 5, 6, 7, 8, 9, 10, 11, 12, 13, 14, 15, 16, 17, 18, 19, 20, 21, 22, 23, 24, 25, 26] (fun x1 _ => [(3, .c (.int .u32 x1))]) (fun x1 _ => []) (fun x1 => cV x1 = some r) ?_ ?_
 ·skip;refine aq [0] ?_
  refine aL ?_;obtain ⟨o1, hl1, hm1⟩ := bd hm;refine cJ (S := (Int × Int)) (V := Unit) (O := Int) [3, 5, 8, 9, 10, 11, 12, 13, 14, 15, 16, 17, 18, 19, 20, 21, 22, 23, 24, 25, 26] (fun (x6, x7) _ => [(3, .c (.int .u32 x6)), (8, .c (.int .i64 x7))]) (fun (x6, x7) _ => []) _ _ () hl1 ?_ ?_
  ·exact ls
  ·rintro ⟨x6, x7⟩ _ r1 hm hr1;replace hm : bH p1 x6 x7 = some r1 := hm;refine ca ?_;unfold bH at hm;refine aq [] ?_;refine ay fun k1 hk1 => ?_
   by_cases h1 : x7 < (p1.length : Int)
   ·rw [iP h1] at hm;refine ae rfl (dT h1) ?_;refine aC ?_;refine aw (hk1 _ _ ?_);refine cz (S := Int) (V := Unit) [3, 5, 9, 10, 11, 12, 13, 14, 15, 16, 17, 18, 19, 20, 21, 22, 23, 24, 25] (fun x8 _ => [(3, .c (.int .u32 x8))]) (fun x8 _ => []) (fun x8 => cW x7 x8 = some r1) ?_ ?_
    ·skip;refine aL ?_
     obtain ⟨hg2a, hm⟩ := gd hm;refine cU (em (eK .u8) p1 x7.toNat) [9, 10, 11] ?_;refine aq [5, 12, 13, 14, 15] ?_;refine aq [] ?_;refine aL ?_;obtain ⟨o2, hl2, hm2⟩ := bd hm;refine cJ (S := (Int × Int)) (V := Unit) (O := Int) [3, 16, 17, 18, 19, 20, 21, 22, 23, 24, 25] (fun (x13, x14) _ => [(3, .c (.int .u32 x13)), (16, .c (.int .i64 x14))]) (fun (x13, x14) _ => []) _ _ () hl2 ?_ ?_
     ·exact ls
     ·rintro ⟨x13, x14⟩ _ r2 hm hr2;replace hm : bw x13 x14 = some r2 := hm;refine ca ?_;unfold bw at hm;refine aq [] ?_;refine ay fun k2 hk2 => ?_
      by_cases h3 : x14 < 8
      ·rw [iP h3] at hm;refine ae rfl (dT h3) ?_;refine aC ?_;refine aw (hk2 _ _ ?_);refine ay fun k3 hk3 => ?_;refine aL ?_;refine ej ?_;refine aT ?_;refine aw (hk3 _ _ ?_);refine ej ?_;refine bD ((bits .xor .u32 (x13.fdiv (2 ^ (min 1 (IntKind.bits .u32)))) (bits .and .u32 3988292384 (IntKind.wrap .u32 (0 - (bits .and .u32 x13 1))))), (IntKind.wrap .i64 (x14 + 1))) () hm ?_;exact ls
      ·rw [iN h3] at hm;refine af rfl (dF h3) ?_;refine dx ?_;have ho4 := aW hm hr2;subst ho4;replace hm : cW x7 x13 = some r1 := hm2;refine cD (bP (a9 (aT ?_)));refine aX x13 () hm ?_;exact ls
    ·rintro x8 _ hm;replace hm : cW x7 x8 = some r1 := hm;refine ca ?_;unfold cW at hm;refine ej ?_;refine bD (x8, (IntKind.wrap .i64 (x7 + 1))) () hm ?_;exact ls
   ·rw [iN h1] at hm;refine af rfl (dF h1) ?_;refine dx ?_;have ho5 := aW hm hr1;subst ho5;replace hm : cV x6 = some r := hm1;refine cD (bP (a9 ?_));refine aX x6 () hm ?_;exact ls
 ·rintro x1 _ hm;replace hm : cV x1 = some r := hm;refine ca ?_;unfold cV at hm;refine aq [3, 27, 28] ?_;refine au ?_
  cases hm
  exact kr 0
theorem i2 (r : Bool) (hm : dI  = some r) : ee Try.prog 6 [] (.c (.bool r)) := by
 refine bq 34 [.tmp 0] Try.func6 rfl rfl rfl (by kernel_rfl) (by simp) ?_;refine dU ?_;unfold dI at hm;refine aq [0] ?_;refine aV [3, 4, 5, 6, 7] fun k kp hk hp => ?_;refine go ?_
 refine aQ (kG 4 (.a [.int .i64 100, .int .i64 3, .int .i64 0, .tree 1 ([].map (eK .i64)), .tree 1 ([].map (eK .i64)), .tree 1 ([].map (eK .i64)), .tree 6 ([].map aD.enc)]) rfl (by and_intros <;> trivial)) ?_
 refine go ?_;obtain ⟨y1, hc1, hm⟩ := bd hm;refine RP (fun _ => gQ (ag.mk 100 3 0 [] [] [] []) _ hc1) ?_;refine aa ?_;refine go ?_;refine hk _ _ ?_;clear hk hp k kp;refine dW [1, 2, 8, 9, 10, 11, 12, 13, 14, 15, 16, 17, 18, 19, 20, 21, 22, 23, 24, 25, 26, 27, 28, 29, 30, 31, 32, 33] fun k kp hk hp => ?_;refine an 4 ?_;refine go ?_
 by_cases h2 : ((y1.2).code) = 0
 ·rw [iP h2] at hm;have h2b := eQ h2;refine an 5 ?_;refine gox h2b ?_
  by_cases h3 : (y1.1.length : Int) = 15
  ·rw [iP h3] at hm;have h3b := eQ h3;obtain ⟨hg4a, hm⟩ := gd hm;refine an 6 ?_;refine gox (a2 (em (eK .u8) y1.1 3) (a2 h2b h3b)) ?_
   by_cases h5 : (y1.1.getD 3 default) = 200
   ·rw [iP h5] at hm;have h5b := eQ h5;obtain ⟨hg6a, hm⟩ := gd hm;refine an 6 ?_;refine gox (a2 (em (eK .u8) y1.1 4) (a2 h2b (a2 h3b h5b))) ?_
    by_cases h7 : (y1.1.getD 4 default) = 1
    ·rw [iP h7] at hm;have h7b := eQ h7;refine an 1 ?_;refine gox (a2 h2b (a2 h3b (a2 h5b h7b))) ?_
     refine RS (lK rfl (by first | rfl | (simp only [bR, bT, tab, bX, reduceIte, ↓reduceIte, reduceCtorEq, Int.reduceToNat, Nat.reduceDiv, Nat.reduceMod, Nat.reduceLT, Nat.reduceLeDiff, Nat.reduceAdd, Nat.reduceSub, Nat.reduceMul, Nat.reduceEqDiff, Nat.reduceBEq, Nat.reduceBNe, Nat.reduceGT]; done)) rfl (by first | kernel_rfl | exact of_decide_eq_true (by kernel_rfl)) (by first | kernel_rfl | exact of_decide_eq_true (by kernel_rfl)) (by first | assumption | omega)) ?_
     simp only [bR, bT, tab, bX, reduceIte, ↓reduceIte, reduceCtorEq, Int.reduceToNat, Nat.reduceDiv, Nat.reduceMod, Nat.reduceLT, Nat.reduceLeDiff, Nat.reduceAdd, Nat.reduceSub, Nat.reduceMul, Nat.reduceEqDiff, Nat.reduceBEq, Nat.reduceBNe, Nat.reduceGT];refine aa ?_;refine gox (a2 h2b (a2 h3b (a2 h5b h7b))) ?_;refine aQ (bO 1 rfl) ?_;refine gtx (a2 h2b (a2 h3b (a2 h5b h7b))) ?_;obtain ⟨y2, hc8, hm⟩ := bd hm;refine RP (fun _ => hM (lit ([49, 50, 51, 52, 53, 54, 55, 56, 57] : List Int)) _ hc8) ?_;refine aa ?_;refine gox (a2 h2b (a2 h3b (a2 h5b h7b))) ?_;refine hk _ _ ?_;clear hk hp k kp;refine au ?_
     cases hm
     exact kr 0
    ·rw [iN h7] at hm;have h7b := nB h7;refine aa ?_;refine gox (a2 h2b (a2 h3b (a2 h5b h7b))) ?_;refine hk _ _ ?_;clear hk hp k kp;refine au ?_
     cases hm
     exact kr 0
   ·rw [iN h5] at hm;have h5b := nB h5;refine aa ?_;refine gox (a2 h2b (a2 h3b h5b)) ?_;refine hk _ _ ?_;clear hk hp k kp;refine au ?_
    cases hm
    exact kr 0
  ·rw [iN h3] at hm;have h3b := nB h3;refine aa ?_;refine gox (a2 h2b h3b) ?_;refine hk _ _ ?_;clear hk hp k kp;refine au ?_
   cases hm
   exact kr 0
 ·rw [iN h2] at hm;have h2b := nB h2;refine aa ?_;refine gox h2b ?_;refine hk _ _ ?_;clear hk hp k kp;refine au ?_
  cases hm
  exact kr 0
theorem i3 (p1 : ag) (r : Bool) (hm : dJ p1 = some r) : ee Try.prog 7 [.a [.int .i64 p1.cells, .int .i64 p1.regs, .int .i64 p1.cost, .tree 1 (p1.put.map (eK .i64)), .tree 1 (p1.bools.map (eK .i64)), .tree 1 (p1.get.map (eK .i64)), .tree 6 (p1.code.map aD.enc)]] (.c (.bool r)) := by
 refine bq 25 [.tmp 2] Try.func7 rfl rfl rfl (by kernel_rfl) (by simp) ?_;refine dU ?_;unfold dJ at hm;refine aq [0, 2] ?_;refine dW [1, 3, 4, 5, 6, 7, 8, 9, 10, 11, 12, 13, 14, 15, 16, 17, 18, 19, 20, 21, 22, 23, 24] fun k kp hk hp => ?_;refine an 5 ?_;refine go ?_
 by_cases h1 : (p1.put.length : Int) > 7000
 ·rw [iP h1] at hm;have h1b := dT h1;refine aa ?_;refine gox h1b ?_;refine hk _ _ ?_;clear hk hp k kp;refine au ?_
  cases hm
  exact kr 0
 ·rw [iN h1] at hm;have h1b := dF h1;refine an 6 ?_;refine gox h1b ?_
  by_cases h2 : (p1.bools.length : Int) > 7000
  ·rw [iP h2] at hm;have h2b := dT h2;refine aa ?_;refine gox (a2 h1b h2b) ?_;refine hk _ _ ?_;clear hk hp k kp;refine au ?_
   cases hm
   exact kr 0
  ·rw [iN h2] at hm;have h2b := dF h2;refine an 6 ?_;refine gox (a2 h1b h2b) ?_
   by_cases h3 : (p1.get.length : Int) > 20000
   ·rw [iP h3] at hm;have h3b := dT h3;refine aa ?_;refine gox (a2 h1b (a2 h2b h3b)) ?_;refine hk _ _ ?_;clear hk hp k kp;refine au ?_
    cases hm
    exact kr 0
   ·rw [iN h3] at hm;have h3b := dF h3;refine aa ?_;refine gox (a2 h1b (a2 h2b h3b)) ?_;refine hk _ _ ?_;clear hk hp k kp;refine au ?_
    cases hm
    exact kr 0
theorem aJ (p1 : ah) (r : (Int × Int) ⊕ (Int × Int)) (hm : aA p1 = some r) : fw Try.prog 33 [.c (.optr 0 0)] [.box [.tree 1 (p1.b.map (eK .u8)), .int .i64 p1.at_]] (fun p σ => (Sum.elim (fun z => (p = .c (.int .i64 z.1) ∧ σ = [.box [.tree 1 (p1.b.map (eK .u8)), .int .i64 z.2]])) (fun z => False)) r) (fun p _ => (Sum.elim (fun z => False) (fun z => p = .c (.ifc 51 true (nsC [(.i64, z.1), (.i64, z.2)])))) r) := by
 refine bq 82 [.tmp 2] Try.func33 rfl rfl rfl (by kernel_rfl) (by simp) ?_;refine dU ?_;unfold aA at hm;refine aq [2] ?_;refine aq [] ?_;refine cz (S := (Int × Int)) (V := Unit) [0, 3, 4, 5, 6, 7, 8, 9, 10, 11, 12, 13, 14, 15, 16, 17, 18, 19, 20, 21, 22, 23, 24, 25, 26, 27, 28, 29, 30, 31, 32, 33, 34, 35, 36, 37, 38, 39, 40, 41, 42, 43, 44, 45, 46, 47, 48, 49, 50, 51, 52, 53, 54, 55, 56, 57, 58, 59, 60, 61, 62, 63, 64, 65, 66, 67, 68, 69, 70, 71, 72, 73] (fun (x1, x2) _ => [(3, .c (.int .u64 x2))]) (fun (x1, x2) _ => [.box [.tree 1 (p1.b.map (eK .u8)), .int .i64 x1]]) (fun (x1, x2) => bm x1 x2 = some r) ?_ ?_
 ·skip;refine aq [] ?_
  refine aL ?_;obtain ⟨o1, hl1, hm1⟩ := bd hm;refine cJ (S := (Int × Int × Int)) (V := Unit) (O := (Int × Int) ⊕ ((Int × Int) ⊕ (Int × Int))) [3, 4, 5, 6, 7, 8, 9, 10, 11, 12, 13, 14, 15, 16, 17, 18, 19, 20, 21, 22, 23, 24, 25, 26, 27, 28, 29, 30, 31, 32, 33, 34, 35, 36, 37, 38, 39, 40, 41, 42, 43, 44, 45, 46, 47, 48, 49, 50, 51, 52, 53, 54, 55, 56, 57, 58, 59, 60, 61, 62, 63, 64, 65, 66, 67, 68, 69, 70, 71, 72, 73] (fun (x9, x10, x11) _ => [(3, .c (.int .u64 x10)), (6, .c (.int .i64 x11))]) (fun (x9, x10, x11) _ => [.box [.tree 1 (p1.b.map (eK .u8)), .int .i64 x9]]) _ _ () hl1 ?_ ?_
  ·exact ls
  ·rintro ⟨x9, x10, x11⟩ _ r1 hm hr1;replace hm : aM p1 x9 x10 x11 = some r1 := hm;refine ca ?_;unfold aM at hm;refine aq [] ?_;refine ay fun k1 hk1 => ?_
   by_cases h1 : x11 < 10
   ·rw [iP h1] at hm;refine ae rfl (dT h1) ?_;refine aC ?_;refine aw (hk1 _ _ ?_);refine ay fun k2 hk2 => ?_;refine aL ?_;refine aq [7, 8] ?_;refine ay fun k3 hk3 => ?_;refine qE [9, 10, 11, 12, 13, 14, 15, 16, 17] [0, 1, 3, 7, 0, 16, 48, 112, 240, 511] [false, false, false, false, false, false, false, false, false, true] ?_
    by_cases h2 : x9 ≥ (p1.b.length : Int)
    ·rw [iP h2] at hm;refine ae rfl (dT h2) ?_;refine fm fun k kp hk hp => ?_;refine an 6 ?_;refine go ?_
     refine RS (hU (ns := [(.i64, 5), (.i64, (p1.b.length : Int))]) rfl (by first | rfl | (simp only [bR, bT, tab, bX, reduceIte, ↓reduceIte, reduceCtorEq, Int.reduceToNat, Nat.reduceDiv, Nat.reduceMod, Nat.reduceLT, Nat.reduceLeDiff, Nat.reduceAdd, Nat.reduceSub, Nat.reduceMul, Nat.reduceEqDiff, Nat.reduceBEq, Nat.reduceBNe, Nat.reduceGT]; done)) (by first | kernel_rfl | exact of_decide_eq_true (by kernel_rfl))) ?_
     simp only [bR, bT, tab, bX, reduceIte, ↓reduceIte, reduceCtorEq, Int.reduceToNat, Nat.reduceDiv, Nat.reduceMod, Nat.reduceLT, Nat.reduceLeDiff, Nat.reduceAdd, Nat.reduceSub, Nat.reduceMul, Nat.reduceEqDiff, Nat.reduceBEq, Nat.reduceBNe, Nat.reduceGT]
     refine dw rfl (by first | rfl | (simp only [bR, bT, tab, bX, reduceIte, ↓reduceIte, reduceCtorEq, Int.reduceToNat, Nat.reduceDiv, Nat.reduceMod, Nat.reduceLT, Nat.reduceLeDiff, Nat.reduceAdd, Nat.reduceSub, Nat.reduceMul, Nat.reduceEqDiff, Nat.reduceBEq, Nat.reduceBNe, Nat.reduceGT]; done)) (by first | rfl | (simp only [bR, bT, tab, bX, reduceIte, ↓reduceIte, reduceCtorEq, Int.reduceToNat, Nat.reduceDiv, Nat.reduceMod, Nat.reduceLT, Nat.reduceLeDiff, Nat.reduceAdd, Nat.reduceSub, Nat.reduceMul, Nat.reduceEqDiff, Nat.reduceBEq, Nat.reduceBNe, Nat.reduceGT]; done)) ?_
     have ho3 := aW hm hr1;subst ho3;replace hm : some (.inr (5, (p1.b.length : Int))) = some r := hm1;refine hp _ _ _ ?_;refine dz ?_;refine bk ?_;refine dz ?_;refine dE ?_;refine bk ?_;refine ct ?_;obtain rfl := sI hm;exact rfl
    ·rw [iN h2] at hm;refine af rfl (dF h2) ?_;refine aC ?_;refine aw (hk3 _ _ ?_);obtain ⟨hg4a, hm⟩ := gd hm;refine pr (em (eK .u8) p1.b x9.toNat) [18, 26, 27, 28, 29, 30, 31, 32, 33, 34, 35] [0, 1, 3, 7, 0, 16, 48, 112, 255, 511, 1023] [false, false, false, false, false, false, false, false, true, true, true] ?_;refine cz (S := Unit) (V := Unit) [36, 37, 38, 39, 40, 41, 42, 43, 44, 45, 46, 47, 48, 49, 50, 51, 52, 53, 54, 55] (fun _ _ => []) (fun _ _ => [.box [.tree 1 (p1.b.map (eK .u8)), .int .i64 x9]]) (fun _ => aI p1 x9 x10 x11 = some r1) ?_ ?_
     ·skip
      by_cases h8 : x11 = 9
      ·rw [iP h8] at hm;have h8b := eQ h8;refine dW [36, 37, 38, 39, 40, 41, 42, 43, 44, 45, 46, 47, 48] fun k kp hk hp => ?_;refine an 7 ?_;refine gox h8b ?_
       by_cases h9 : (p1.b.getD x9.toNat default) > 1
       ·rw [iP h9] at hm;have h9b := dT h9;refine aa ?_;refine gox (a2 h8b h9b) ?_;refine hk _ _ ?_;clear hk hp k kp;refine ae rfl rfl ?_;refine fm fun k kp hk hp => ?_;refine an 5 ?_;refine go ?_
        refine RS (hU (ns := [(.i64, 2), (.i64, x9)]) rfl (by first | rfl | (simp only [bR, bT, tab, bX, reduceIte, ↓reduceIte, reduceCtorEq, Int.reduceToNat, Nat.reduceDiv, Nat.reduceMod, Nat.reduceLT, Nat.reduceLeDiff, Nat.reduceAdd, Nat.reduceSub, Nat.reduceMul, Nat.reduceEqDiff, Nat.reduceBEq, Nat.reduceBNe, Nat.reduceGT]; done)) (by first | kernel_rfl | exact of_decide_eq_true (by kernel_rfl))) ?_
        simp only [bR, bT, tab, bX, reduceIte, ↓reduceIte, reduceCtorEq, Int.reduceToNat, Nat.reduceDiv, Nat.reduceMod, Nat.reduceLT, Nat.reduceLeDiff, Nat.reduceAdd, Nat.reduceSub, Nat.reduceMul, Nat.reduceEqDiff, Nat.reduceBEq, Nat.reduceBNe, Nat.reduceGT]
        refine dw rfl (by first | rfl | (simp only [bR, bT, tab, bX, reduceIte, ↓reduceIte, reduceCtorEq, Int.reduceToNat, Nat.reduceDiv, Nat.reduceMod, Nat.reduceLT, Nat.reduceLeDiff, Nat.reduceAdd, Nat.reduceSub, Nat.reduceMul, Nat.reduceEqDiff, Nat.reduceBEq, Nat.reduceBNe, Nat.reduceGT]; done)) (by first | rfl | (simp only [bR, bT, tab, bX, reduceIte, ↓reduceIte, reduceCtorEq, Int.reduceToNat, Nat.reduceDiv, Nat.reduceMod, Nat.reduceLT, Nat.reduceLeDiff, Nat.reduceAdd, Nat.reduceSub, Nat.reduceMul, Nat.reduceEqDiff, Nat.reduceBEq, Nat.reduceBNe, Nat.reduceGT]; done)) ?_
        have ho10 := aW hm hr1;subst ho10;replace hm : some (.inr (2, x9)) = some r := hm1;refine hp _ _ _ ?_;refine ct ?_;refine bk ?_;refine dz ?_;refine dE ?_;refine bk ?_;refine ct ?_;obtain rfl := sI hm;exact rfl
       ·rw [iN h9] at hm;have h9b := dF h9
        by_cases h11 : x11 > 0
        ·rw [iP h11] at hm;have h11b := dT h11;refine aa ?_;refine gox (a2 h8b (a2 h9b h11b)) ?_;refine hk _ _ ?_;clear hk hp k kp
         by_cases h12 : (p1.b.getD x9.toNat default) = 0
         ·rw [iP h12] at hm;refine ae rfl (eQ h12) ?_;refine fm fun k kp hk hp => ?_;refine an 5 ?_;refine go ?_
          refine RS (hU (ns := [(.i64, 2), (.i64, x9)]) rfl (by first | rfl | (simp only [bR, bT, tab, bX, reduceIte, ↓reduceIte, reduceCtorEq, Int.reduceToNat, Nat.reduceDiv, Nat.reduceMod, Nat.reduceLT, Nat.reduceLeDiff, Nat.reduceAdd, Nat.reduceSub, Nat.reduceMul, Nat.reduceEqDiff, Nat.reduceBEq, Nat.reduceBNe, Nat.reduceGT]; done)) (by first | kernel_rfl | exact of_decide_eq_true (by kernel_rfl))) ?_
          simp only [bR, bT, tab, bX, reduceIte, ↓reduceIte, reduceCtorEq, Int.reduceToNat, Nat.reduceDiv, Nat.reduceMod, Nat.reduceLT, Nat.reduceLeDiff, Nat.reduceAdd, Nat.reduceSub, Nat.reduceMul, Nat.reduceEqDiff, Nat.reduceBEq, Nat.reduceBNe, Nat.reduceGT]
          refine dw rfl (by first | rfl | (simp only [bR, bT, tab, bX, reduceIte, ↓reduceIte, reduceCtorEq, Int.reduceToNat, Nat.reduceDiv, Nat.reduceMod, Nat.reduceLT, Nat.reduceLeDiff, Nat.reduceAdd, Nat.reduceSub, Nat.reduceMul, Nat.reduceEqDiff, Nat.reduceBEq, Nat.reduceBNe, Nat.reduceGT]; done)) (by first | rfl | (simp only [bR, bT, tab, bX, reduceIte, ↓reduceIte, reduceCtorEq, Int.reduceToNat, Nat.reduceDiv, Nat.reduceMod, Nat.reduceLT, Nat.reduceLeDiff, Nat.reduceAdd, Nat.reduceSub, Nat.reduceMul, Nat.reduceEqDiff, Nat.reduceBEq, Nat.reduceBNe, Nat.reduceGT]; done)) ?_
          have ho13 := aW hm hr1;subst ho13;replace hm : some (.inr (2, x9)) = some r := hm1;refine hp _ _ _ ?_;refine ct ?_;refine bk ?_;refine dz ?_;refine dE ?_;refine bk ?_;refine ct ?_;obtain rfl := sI hm;exact rfl
         ·rw [iN h12] at hm;refine af rfl (nB h12) ?_;refine aC ?_;refine aX () () hm ?_;exact ls
        ·rw [iN h11] at hm;have h11b := dF h11;refine aa ?_;refine gox (a2 h8b (a2 h9b h11b)) ?_;refine hk _ _ ?_;clear hk hp k kp;refine af rfl rfl ?_;refine aC ?_;refine aX () () hm ?_;exact ls
      ·rw [iN h8] at hm;have h8b := nB h8;refine dW [36, 37, 38, 39, 40, 41, 42, 43, 44, 45, 46, 47, 48] fun k kp hk hp => ?_;refine an 10 ?_;refine gox h8b ?_
       by_cases h14 : x11 > 0
       ·rw [iP h14] at hm;have h14b := dT h14;refine aa ?_;refine gox (a2 h8b h14b) ?_;refine hk _ _ ?_;clear hk hp k kp
        by_cases h15 : (p1.b.getD x9.toNat default) = 0
        ·rw [iP h15] at hm;refine ae rfl (eQ h15) ?_;refine fm fun k kp hk hp => ?_;refine an 5 ?_;refine go ?_
         refine RS (hU (ns := [(.i64, 2), (.i64, x9)]) rfl (by first | rfl | (simp only [bR, bT, tab, bX, reduceIte, ↓reduceIte, reduceCtorEq, Int.reduceToNat, Nat.reduceDiv, Nat.reduceMod, Nat.reduceLT, Nat.reduceLeDiff, Nat.reduceAdd, Nat.reduceSub, Nat.reduceMul, Nat.reduceEqDiff, Nat.reduceBEq, Nat.reduceBNe, Nat.reduceGT]; done)) (by first | kernel_rfl | exact of_decide_eq_true (by kernel_rfl))) ?_
         simp only [bR, bT, tab, bX, reduceIte, ↓reduceIte, reduceCtorEq, Int.reduceToNat, Nat.reduceDiv, Nat.reduceMod, Nat.reduceLT, Nat.reduceLeDiff, Nat.reduceAdd, Nat.reduceSub, Nat.reduceMul, Nat.reduceEqDiff, Nat.reduceBEq, Nat.reduceBNe, Nat.reduceGT]
         refine dw rfl (by first | rfl | (simp only [bR, bT, tab, bX, reduceIte, ↓reduceIte, reduceCtorEq, Int.reduceToNat, Nat.reduceDiv, Nat.reduceMod, Nat.reduceLT, Nat.reduceLeDiff, Nat.reduceAdd, Nat.reduceSub, Nat.reduceMul, Nat.reduceEqDiff, Nat.reduceBEq, Nat.reduceBNe, Nat.reduceGT]; done)) (by first | rfl | (simp only [bR, bT, tab, bX, reduceIte, ↓reduceIte, reduceCtorEq, Int.reduceToNat, Nat.reduceDiv, Nat.reduceMod, Nat.reduceLT, Nat.reduceLeDiff, Nat.reduceAdd, Nat.reduceSub, Nat.reduceMul, Nat.reduceEqDiff, Nat.reduceBEq, Nat.reduceBNe, Nat.reduceGT]; done)) ?_
         have ho16 := aW hm hr1;subst ho16;replace hm : some (.inr (2, x9)) = some r := hm1;refine hp _ _ _ ?_;refine ct ?_;refine bk ?_;refine dz ?_;refine dE ?_;refine bk ?_;refine ct ?_;obtain rfl := sI hm;exact rfl
        ·rw [iN h15] at hm;refine af rfl (nB h15) ?_;refine aC ?_;refine aX () () hm ?_;exact ls
       ·rw [iN h14] at hm;have h14b := dF h14;refine aa ?_;refine gox (a2 h8b h14b) ?_;refine hk _ _ ?_;clear hk hp k kp;refine af rfl rfl ?_;refine aC ?_;refine aX () () hm ?_;exact ls
     ·rintro _ _ hm;replace hm : aI p1 x9 x10 x11 = some r1 := hm;refine ca ?_;unfold aI at hm;refine aq [56, 57, 58, 59, 60, 61, 62] ?_;obtain ⟨hg5a, hm⟩ := gd hm;refine aq [4, 63, 64, 65, 66, 67, 68, 69, 70] ?_;refine aq [5, 71] ?_
      by_cases h6 : (p1.b.getD x9.toNat default) < 128
      ·rw [iP h6] at hm;refine ae rfl (dT h6) ?_;refine dx ?_;have ho7 := aW hm hr1;subst ho7;replace hm : bm (IntKind.wrap .i64 (x9 + 1)) (bits .or .u64 x10 (IntKind.wrap .u64 ((IntKind.wrap .u64 (bits .and .u8 (p1.b.getD x9.toNat default) 127)) * 2 ^ (min ((IntKind.wrap .i64 (7 * x11)).toNat) (IntKind.bits .u64))))) = some r := hm1;refine nW (by decide) ?_;refine cD (bP (a9 ?_));refine aX ((IntKind.wrap .i64 (x9 + 1)), (bits .or .u64 x10 (IntKind.wrap .u64 ((IntKind.wrap .u64 (bits .and .u8 (p1.b.getD x9.toNat default) 127)) * 2 ^ (min ((IntKind.wrap .i64 (7 * x11)).toNat) (IntKind.bits .u64)))))) () hm ?_;exact ls
      ·rw [iN h6] at hm;refine af rfl (dF h6) ?_;refine aC ?_;refine aT ?_;refine aw (hk2 _ _ ?_);refine ej ?_;refine bD ((IntKind.wrap .i64 (x9 + 1)), (bits .or .u64 x10 (IntKind.wrap .u64 ((IntKind.wrap .u64 (bits .and .u8 (p1.b.getD x9.toNat default) 127)) * 2 ^ (min ((IntKind.wrap .i64 (7 * x11)).toNat) (IntKind.bits .u64))))), (IntKind.wrap .i64 (x11 + 1))) () hm ?_;exact ls
   ·rw [iN h1] at hm;refine af rfl (dF h1) ?_;refine dx ?_;have ho17 := aW hm hr1;subst ho17;replace hm : bm x9 x10 = some r := hm1;refine cD (bP (a9 ?_));refine aX (x9, x10) () hm ?_;exact ls
 ·rintro ⟨x1, x2⟩ _ hm;replace hm : bm x1 x2 = some r := hm;refine ca ?_;unfold bm at hm;refine aq [3, 74, 75, 76, 77, 78, 79, 80, 81] ?_;refine au ?_
  cases hm
  exact kr 1
theorem eJ (p1 : Int) (p2 : ah) (r : (Int × Int) ⊕ (Int × Int)) (hm : b8 p1 p2 = some r) : fw Try.prog 35 [.c (.optr 0 0), .c (.int .i64 p1)] [.box [.tree 1 (p2.b.map (eK .u8)), .int .i64 p2.at_]] (fun p σ => (Sum.elim (fun z => (p = .c (.int .i64 z.1) ∧ σ = [.box [.tree 1 (p2.b.map (eK .u8)), .int .i64 z.2]])) (fun z => False)) r) (fun p _ => (Sum.elim (fun z => False) (fun z => p = .c (.ifc 51 true (nsC [(.i64, z.1), (.i64, z.2)])))) r) := by
 refine bq 35 [.tmp 4] Try.func35 rfl rfl rfl (by kernel_rfl) (by simp) ?_;refine dU ?_;unfold b8 at hm;refine aq [4] ?_;refine aq [7, 8, 9, 10] ?_;refine aV [11, 12] fun k kp hk hp => ?_;refine go ?_;obtain ⟨y1, hc1, hm⟩ := bd hm
 refine aP (aJ p2  _ hc1) [0] (by first | trivial | exact cN rfl) (by first | trivial | (intro _; first | trivial | simp [ab]) | simp [ab]) (by simp) (by simp) rfl rfl (by first | trivial | (simp [bX, eK, eB, eS, eL, bJ, aB, PV.under, CV.under, aj, OB.under, ar]; done)) (by first | trivial | (simp [bX, eK, eB, eS, eL, bJ, aB, PV.under, CV.under, aj, OB.under, ar]; done)) ?_ ?_
 rotate_left
 ·rintro p σ' hpp hpl
  rcases y1 with y2 | y3
  ·exact False.elim hpp
  simp only [Sum.elim_inl, Sum.elim_inr] at hm hpp;subst hpp;refine hp _ _ _ ?_;obtain rfl := sI hm;exact rfl
 rintro p σ' hq2 _
 rcases y1 with y4 | y5
 ·skip;simp only [Sum.elim_inl, Sum.elim_inr] at hm hq2
  obtain ⟨rfl, rfl⟩ := hq2;refine aa ?_;refine go ?_;refine hk _ _ ?_;clear hk hp k kp;refine ay fun k1 hk1 => ?_
  by_cases h3 : y4.1 < 0
  ·rw [iP h3] at hm;have h3b := dT h3;refine mO [0, 1, 13, 14, 15, 16, 17, 18, 19, 20, 21, 22, 23, 24, 25, 26, 27, 28, 29] (by kernel_rfl) [0, 1, 3, 7, 7, 23, 55, 119, 247, 7, 519, 1543, 3591, 8183, 7, 32759, 65535, 131071] [true, true, true, false, false, false, false, false, false, false, false, false, false, false, false, false, true, true] (by kernel_rfl) fun k hk => ?_;refine n8 ?_;refine gax h3b ?_;refine hk _ _ ?_;clear hk k;refine ae rfl rfl ?_;refine fm fun k kp hk hp => ?_;refine an 2 ?_;refine go ?_
   refine RS (hU (ns := [(.i64, 7), (.i64, p2.at_)]) rfl (by first | rfl | (simp only [bR, bT, tab, bX, reduceIte, ↓reduceIte, reduceCtorEq, Int.reduceToNat, Nat.reduceDiv, Nat.reduceMod, Nat.reduceLT, Nat.reduceLeDiff, Nat.reduceAdd, Nat.reduceSub, Nat.reduceMul, Nat.reduceEqDiff, Nat.reduceBEq, Nat.reduceBNe, Nat.reduceGT]; done)) (by first | kernel_rfl | exact of_decide_eq_true (by kernel_rfl))) ?_
   simp only [bR, bT, tab, bX, reduceIte, ↓reduceIte, reduceCtorEq, Int.reduceToNat, Nat.reduceDiv, Nat.reduceMod, Nat.reduceLT, Nat.reduceLeDiff, Nat.reduceAdd, Nat.reduceSub, Nat.reduceMul, Nat.reduceEqDiff, Nat.reduceBEq, Nat.reduceBNe, Nat.reduceGT]
   refine dw rfl (by first | rfl | (simp only [bR, bT, tab, bX, reduceIte, ↓reduceIte, reduceCtorEq, Int.reduceToNat, Nat.reduceDiv, Nat.reduceMod, Nat.reduceLT, Nat.reduceLeDiff, Nat.reduceAdd, Nat.reduceSub, Nat.reduceMul, Nat.reduceEqDiff, Nat.reduceBEq, Nat.reduceBNe, Nat.reduceGT]; done)) (by first | rfl | (simp only [bR, bT, tab, bX, reduceIte, ↓reduceIte, reduceCtorEq, Int.reduceToNat, Nat.reduceDiv, Nat.reduceMod, Nat.reduceLT, Nat.reduceLeDiff, Nat.reduceAdd, Nat.reduceSub, Nat.reduceMul, Nat.reduceEqDiff, Nat.reduceBEq, Nat.reduceBNe, Nat.reduceGT]; done)) ?_
   refine hp _ _ _ ?_;refine dz ?_;obtain rfl := sI hm;exact rfl
  ·rw [iN h3] at hm;have h3b := dF h3;obtain ⟨hg4a, hm⟩ := gd hm;refine mO [0, 1, 13, 14, 15, 16, 17, 18, 19, 20, 21, 22, 23, 24, 25, 26, 27, 28, 29] (by kernel_rfl) [0, 1, 3, 7, 7, 23, 55, 119, 247, 7, 519, 1543, 3591, 8183, 7, 32759, 65535, 131071] [true, true, true, false, false, false, false, false, false, false, false, false, false, false, false, false, true, true] (by kernel_rfl) fun k hk => ?_;refine n8 ?_;refine gax h3b ?_;refine hk _ _ ?_;clear hk k
   by_cases h5 : y4.1 > (IntKind.wrap .i64 ((IntKind.wrap .i64 ((p2.b.length : Int) - y4.2)).tdiv p1))
   ·rw [iP h5] at hm;refine ae rfl (dT h5) ?_;refine fm fun k kp hk hp => ?_;refine an 2 ?_;refine go ?_
    refine RS (hU (ns := [(.i64, 7), (.i64, p2.at_)]) rfl (by first | rfl | (simp only [bR, bT, tab, bX, reduceIte, ↓reduceIte, reduceCtorEq, Int.reduceToNat, Nat.reduceDiv, Nat.reduceMod, Nat.reduceLT, Nat.reduceLeDiff, Nat.reduceAdd, Nat.reduceSub, Nat.reduceMul, Nat.reduceEqDiff, Nat.reduceBEq, Nat.reduceBNe, Nat.reduceGT]; done)) (by first | kernel_rfl | exact of_decide_eq_true (by kernel_rfl))) ?_
    simp only [bR, bT, tab, bX, reduceIte, ↓reduceIte, reduceCtorEq, Int.reduceToNat, Nat.reduceDiv, Nat.reduceMod, Nat.reduceLT, Nat.reduceLeDiff, Nat.reduceAdd, Nat.reduceSub, Nat.reduceMul, Nat.reduceEqDiff, Nat.reduceBEq, Nat.reduceBNe, Nat.reduceGT]
    refine dw rfl (by first | rfl | (simp only [bR, bT, tab, bX, reduceIte, ↓reduceIte, reduceCtorEq, Int.reduceToNat, Nat.reduceDiv, Nat.reduceMod, Nat.reduceLT, Nat.reduceLeDiff, Nat.reduceAdd, Nat.reduceSub, Nat.reduceMul, Nat.reduceEqDiff, Nat.reduceBEq, Nat.reduceBNe, Nat.reduceGT]; done)) (by first | rfl | (simp only [bR, bT, tab, bX, reduceIte, ↓reduceIte, reduceCtorEq, Int.reduceToNat, Nat.reduceDiv, Nat.reduceMod, Nat.reduceLT, Nat.reduceLeDiff, Nat.reduceAdd, Nat.reduceSub, Nat.reduceMul, Nat.reduceEqDiff, Nat.reduceBEq, Nat.reduceBNe, Nat.reduceGT]; done)) ?_
    refine hp _ _ _ ?_;refine dz ?_;obtain rfl := sI hm;exact rfl
   ·rw [iN h5] at hm;refine af rfl (dF h5) ?_;refine aC ?_;refine aw (hk1 _ _ ?_);refine aq [5, 6, 30, 34] ?_;refine au ?_
    cases hm
    exact kr 1
 ·skip;exact False.elim hq2
theorem dL (p1 : ah) (r : ((List Int) × Int) ⊕ (Int × Int)) (hm : bI p1 = some r) : fw Try.prog 34 [.c (.optr 0 0)] [.box [.tree 1 (p1.b.map (eK .u8)), .int .i64 p1.at_]] (fun p σ => (Sum.elim (fun z => (p = .c (.tree 1 (z.1.map (eK .i64))) ∧ σ = [.box [.tree 1 (p1.b.map (eK .u8)), .int .i64 z.2]])) (fun z => False)) r) (fun p _ => (Sum.elim (fun z => False) (fun z => p = .c (.ifc 51 true (nsC [(.i64, z.1), (.i64, z.2)])))) r) := by
 refine bq 15 [.tmp 2] Try.func34 rfl rfl rfl (by kernel_rfl) (by simp) ?_;refine dU ?_;unfold bI at hm;refine aq [2] ?_;refine aq [] ?_;refine fd (nk 3 1 3 (by decide) rfl (Nat.le_of_ble_eq_true rfl)) ?_;refine qF ?_;refine cz (S := (Int × (List Int))) (V := Nat) [0, 3, 4, 5, 6, 7, 8, 9, 10, 11, 12, 13] (fun (x3, l4) v5 => [(3, .c (.osl 1 v5 0 l4.length))]) (fun (x3, l4) v5 => [.box [.tree 1 (p1.b.map (eK .u8)), .int .i64 x3], .arr 1 v5 3 (l4.map (eK .i64))]) (fun (x3, l4) => cj x3 l4 = some r) ?_ ?_
 ·skip;refine aV [4] fun k kp hk hp => ?_
  refine go ?_;obtain ⟨y6, hc1, hm⟩ := bd hm
  refine aP (eJ 1 p1  _ hc1) [0] (by first | trivial | exact cN rfl) (by first | trivial | (intro _; first | trivial | simp [ab]) | simp [ab]) (by simp) (by simp) rfl rfl (by first | trivial | (simp [bX, eK, eB, eS, eL, bJ, aB, PV.under, CV.under, aj, OB.under, ar]; done)) (by first | trivial | (simp [bX, eK, eB, eS, eL, bJ, aB, PV.under, CV.under, aj, OB.under, ar]; done)) ?_ ?_
  rotate_left
  ·rintro p σ' hpp hpl
   rcases y6 with y7 | y8
   ·exact False.elim hpp
   simp only [Sum.elim_inl, Sum.elim_inr] at hm hpp;subst hpp;refine hp _ _ _ ?_;refine ct ?_;obtain rfl := sI hm;exact rfl
  rintro p σ' hq2 _
  rcases y6 with y9 | y10
  ·skip;simp only [Sum.elim_inl, Sum.elim_inr] at hm hq2
   obtain ⟨rfl, rfl⟩ := hq2;refine aa ?_;refine go ?_;refine hk _ _ ?_;clear hk hp k kp;refine aL ?_;obtain ⟨o1, hl1, hm1⟩ := bd hm;refine cJ (S := (Int × (List Int) × Int)) (V := Nat) (O := (Int × (List Int)) ⊕ (((List Int) × Int) ⊕ (Int × Int))) [3, 6, 7, 8, 9, 10, 11, 12, 13] (fun (x25, l26, x28) v27 => [(3, .c (.osl 1 v27 0 l26.length)), (6, .c (.int .i64 x28))]) (fun (x25, l26, x28) v27 => [.box [.tree 1 (p1.b.map (eK .u8)), .int .i64 x25], .arr 1 v27 3 (l26.map (eK .i64))]) _ _ 0 hl1 ?_ ?_
   ·exact ls
   ·rintro ⟨x25, l26, x28⟩ v27 r1 hm hr1;replace hm : aO p1 y9 x25 l26 x28 = some r1 := hm;refine ca ?_;unfold aO at hm;refine aq [] ?_;refine ay fun k1 hk1 => ?_
    by_cases h3 : x28 < y9.1
    ·rw [iP h3] at hm;refine ae rfl (dT h3) ?_;refine aC ?_;refine aw (hk1 _ _ ?_);refine ay fun k2 hk2 => ?_;refine aL ?_;refine iR fun k kp hk hp => ?_;refine go ?_;obtain ⟨y29, hc4, hm⟩ := bd hm
     refine aP (aJ (ah.mk p1.b x25)  _ hc4) [0] (by first | trivial | exact cN rfl) (by first | trivial | (intro _; first | trivial | simp [ab]) | simp [ab]) (by simp) (by simp) rfl rfl (by first | trivial | (simp [bX, eK, eB, eS, eL, bJ, aB, PV.under, CV.under, aj, OB.under, ar]; done)) (by first | trivial | (simp [bX, eK, eB, eS, eL, bJ, aB, PV.under, CV.under, aj, OB.under, ar]; done)) ?_ ?_
     rotate_left
     ·rintro p σ' hpp hpl
      rcases y29 with y30 | y31
      ·exact False.elim hpp
      simp only [Sum.elim_inl, Sum.elim_inr] at hm hpp;subst hpp;have ho6 := aW hm hr1;subst ho6;replace hm : some (.inr (y31.1, y31.2)) = some r := hm1;refine hp _ _ _ ?_;refine bk ?_;refine dz ?_;refine dE ?_;refine bk ?_;refine ct ?_;obtain rfl := sI hm;exact rfl
     rintro p σ' hq5 _
     rcases y29 with y32 | y33
     ·skip;simp only [Sum.elim_inl, Sum.elim_inr] at hm hq5
      obtain ⟨rfl, rfl⟩ := hq5;obtain ⟨⟨hg7ax, hg7ay⟩, hm⟩ := gd hm;refine aa ?_;refine go ?_;refine hk _ _ ?_;clear hk hp k kp;refine aT ?_;refine aw (hk2 _ _ ?_);refine ej ?_;refine bD (y32.2, (l26 ++ (lit ([y32.1] : List Int))), (IntKind.wrap .i64 (x28 + 1))) (v27 + 1) hm ?_;exact ls
     ·skip;exact False.elim hq5
    ·rw [iN h3] at hm;refine af rfl (dF h3) ?_;refine dx ?_;have ho8 := aW hm hr1;subst ho8;replace hm : cj x25 l26 = some r := hm1;refine cD (bP (a9 ?_));refine aX (x25, l26) v27 hm ?_;exact ls
  ·skip;exact False.elim hq2
 ·rintro ⟨x3, l4⟩ v5 hm;replace hm : cj x3 l4 = some r := hm;refine ca ?_;unfold cj at hm;refine aq [3, 14] ?_;refine oV (bO 1 rfl) ?_;refine au ?_
  cases hm
  exact kr 1
theorem gT (p1 : ah) (r : (ag × Int) ⊕ (Int × Int)) (hm : b9 p1 = some r) : fw Try.prog 21 [.c (.optr 0 0)] [.box [.tree 1 (p1.b.map (eK .u8)), .int .i64 p1.at_]] (fun p σ => (Sum.elim (fun z => (p = .a [.int .i64 ((z.1).cells), .int .i64 ((z.1).regs), .int .i64 ((z.1).cost), .tree 1 (((z.1).put).map (eK .i64)), .tree 1 (((z.1).bools).map (eK .i64)), .tree 1 (((z.1).get).map (eK .i64)), .tree 6 (((z.1).code).map aD.enc)] ∧ σ = [.box [.tree 1 (p1.b.map (eK .u8)), .int .i64 z.2]])) (fun z => False)) r) (fun p _ => (Sum.elim (fun z => False) (fun z => p = .c (.ifc 51 true (nsC [(.i64, z.1), (.i64, z.2)])))) r) := by
 refine bq 47 [.cell 2 25] Try.func21 rfl rfl rfl (by kernel_rfl) (by simp) ?_;refine dU ?_;unfold b9 at hm;refine aq [] ?_;refine aV [5, 6, 7, 8, 9, 10, 11] fun k kp hk hp => ?_;refine go ?_;obtain ⟨y1, hc1, hm⟩ := bd hm
 refine aP (aJ p1  _ hc1) [0] (by first | trivial | exact cN rfl) (by first | trivial | (intro _; first | trivial | simp [ab]) | simp [ab]) (by simp) (by simp) rfl rfl (by first | trivial | (simp [bX, eK, eB, eS, eL, bJ, aB, PV.under, CV.under, aj, OB.under, ar]; done)) (by first | trivial | (simp [bX, eK, eB, eS, eL, bJ, aB, PV.under, CV.under, aj, OB.under, ar]; done)) ?_ ?_
 rotate_left
 ·rintro p σ' hpp hpl
  rcases y1 with y2 | y3
  ·exact False.elim hpp
  simp only [Sum.elim_inl, Sum.elim_inr] at hm hpp;subst hpp;refine hp _ _ _ ?_;obtain rfl := sI hm;exact rfl
 rintro p σ' hq2 _
 rcases y1 with y4 | y5
 ·skip;simp only [Sum.elim_inl, Sum.elim_inr] at hm hq2
  obtain ⟨rfl, rfl⟩ := hq2;refine aa ?_;refine go ?_;obtain ⟨y6, hc3, hm⟩ := bd hm
  refine aP (aJ (ah.mk p1.b y4.2)  _ hc3) [0] (by first | trivial | exact cN rfl) (by first | trivial | (intro _; first | trivial | simp [ab]) | simp [ab]) (by simp) (by simp) rfl rfl (by first | trivial | (simp [bX, eK, eB, eS, eL, bJ, aB, PV.under, CV.under, aj, OB.under, ar]; done)) (by first | trivial | (simp [bX, eK, eB, eS, eL, bJ, aB, PV.under, CV.under, aj, OB.under, ar]; done)) ?_ ?_
  rotate_left
  ·rintro p σ' hpp hpl
   rcases y6 with y7 | y8
   ·exact False.elim hpp
   simp only [Sum.elim_inl, Sum.elim_inr] at hm hpp;subst hpp;refine hp _ _ _ ?_;obtain rfl := sI hm;exact rfl
  rintro p σ' hq4 _
  rcases y6 with y9 | y10
  ·skip;simp only [Sum.elim_inl, Sum.elim_inr] at hm hq4
   obtain ⟨rfl, rfl⟩ := hq4;refine aa ?_;refine go ?_;obtain ⟨y11, hc5, hm⟩ := bd hm
   refine aP (aJ (ah.mk p1.b y9.2)  _ hc5) [0] (by first | trivial | exact cN rfl) (by first | trivial | (intro _; first | trivial | simp [ab]) | simp [ab]) (by simp) (by simp) rfl rfl (by first | trivial | (simp [bX, eK, eB, eS, eL, bJ, aB, PV.under, CV.under, aj, OB.under, ar]; done)) (by first | trivial | (simp [bX, eK, eB, eS, eL, bJ, aB, PV.under, CV.under, aj, OB.under, ar]; done)) ?_ ?_
   rotate_left
   ·rintro p σ' hpp hpl
    rcases y11 with y12 | y13
    ·exact False.elim hpp
    simp only [Sum.elim_inl, Sum.elim_inr] at hm hpp;subst hpp;refine hp _ _ _ ?_;obtain rfl := sI hm;exact rfl
   rintro p σ' hq6 _
   rcases y11 with y14 | y15
   ·skip;simp only [Sum.elim_inl, Sum.elim_inr] at hm hq6
    obtain ⟨rfl, rfl⟩ := hq6;refine aa ?_;refine go ?_;refine hk _ _ ?_;clear hk hp k kp;refine aV [12, 13, 14, 15, 16, 17, 18, 19, 20] fun k kp hk hp => ?_;refine go ?_;obtain ⟨y16, hc7, hm⟩ := bd hm
    refine aP (dL (ah.mk p1.b y14.2)  _ hc7) [0] (by first | trivial | exact cN rfl) (by first | trivial | (intro _; first | trivial | simp [ab]) | simp [ab]) (by simp) (by simp) rfl rfl (by first | trivial | (simp [bX, eK, eB, eS, eL, bJ, aB, PV.under, CV.under, aj, OB.under, ar]; done)) (by first | trivial | (simp [bX, eK, eB, eS, eL, bJ, aB, PV.under, CV.under, aj, OB.under, ar]; done)) ?_ ?_
    rotate_left
    ·rintro p σ' hpp hpl
     rcases y16 with y17 | y18
     ·exact False.elim hpp
     simp only [Sum.elim_inl, Sum.elim_inr] at hm hpp;subst hpp;refine hp _ _ _ ?_;obtain rfl := sI hm;exact rfl
    rintro p σ' hq8 _
    rcases y16 with y19 | y20
    ·skip;simp only [Sum.elim_inl, Sum.elim_inr] at hm hq8
     obtain ⟨rfl, rfl⟩ := hq8;refine aa ?_;refine go ?_;obtain ⟨y21, hc9, hm⟩ := bd hm
     refine aP (dL (ah.mk p1.b y19.2)  _ hc9) [0] (by first | trivial | exact cN rfl) (by first | trivial | (intro _; first | trivial | simp [ab]) | simp [ab]) (by simp) (by simp) rfl rfl (by first | trivial | (simp [bX, eK, eB, eS, eL, bJ, aB, PV.under, CV.under, aj, OB.under, ar]; done)) (by first | trivial | (simp [bX, eK, eB, eS, eL, bJ, aB, PV.under, CV.under, aj, OB.under, ar]; done)) ?_ ?_
     rotate_left
     ·rintro p σ' hpp hpl
      rcases y21 with y22 | y23
      ·exact False.elim hpp
      simp only [Sum.elim_inl, Sum.elim_inr] at hm hpp;subst hpp;refine hp _ _ _ ?_;obtain rfl := sI hm;exact rfl
     rintro p σ' hq10 _
     rcases y21 with y24 | y25
     ·skip;simp only [Sum.elim_inl, Sum.elim_inr] at hm hq10
      obtain ⟨rfl, rfl⟩ := hq10;refine aa ?_;refine go ?_;obtain ⟨y26, hc11, hm⟩ := bd hm
      refine aP (dL (ah.mk p1.b y24.2)  _ hc11) [0] (by first | trivial | exact cN rfl) (by first | trivial | (intro _; first | trivial | simp [ab]) | simp [ab]) (by simp) (by simp) rfl rfl (by first | trivial | (simp [bX, eK, eB, eS, eL, bJ, aB, PV.under, CV.under, aj, OB.under, ar]; done)) (by first | trivial | (simp [bX, eK, eB, eS, eL, bJ, aB, PV.under, CV.under, aj, OB.under, ar]; done)) ?_ ?_
      rotate_left
      ·rintro p σ' hpp hpl
       rcases y26 with y27 | y28
       ·exact False.elim hpp
       simp only [Sum.elim_inl, Sum.elim_inr] at hm hpp;subst hpp;refine hp _ _ _ ?_;obtain rfl := sI hm;exact rfl
      rintro p σ' hq12 _
      rcases y26 with y29 | y30
      ·skip;simp only [Sum.elim_inl, Sum.elim_inr] at hm hq12
       obtain ⟨rfl, rfl⟩ := hq12;refine aa ?_;refine go ?_;refine hk _ _ ?_;clear hk hp k kp;refine oV (mi 2 6 6 50 (by decide) rfl rfl) ?_;refine cz (S := (Int × (List aD))) (V := Nat) [0, 4, 21, 22, 23, 24, 25, 26, 27, 28, 29, 30, 31, 32, 33, 34, 35, 36, 37, 38, 39, 40, 41, 42, 43, 44, 45] (fun (x33, l34) v35 => []) (fun (x33, l34) v35 => [.box [.tree 1 (p1.b.map (eK .u8)), .int .i64 x33], .box [.int .i64 0, .int .i64 0, .int .i64 0, .nils, .nils, .nils, .nils], .box [.int .i64 y4.1, .int .i64 y9.1, .int .i64 y14.1, .tree 1 (y19.1.map (eK .i64)), .tree 1 (y24.1.map (eK .i64)), .tree 1 (y29.1.map (eK .i64)), .osl 3 v35 0 l34.length], .arr 6 v35 50 (l34.map aD.enc)]) (fun (x33, l34) => bQ y4 y9 y14 y19 y24 y29 x33 l34 = some r) ?_ ?_
       ·skip;refine aV [21] fun k kp hk hp => ?_
        refine go ?_;obtain ⟨y36, hc13, hm⟩ := bd hm
        refine aP (eJ 6 (ah.mk p1.b y29.2)  _ hc13) [0] (by first | trivial | exact cN rfl) (by first | trivial | (intro _; first | trivial | simp [ab]) | simp [ab]) (by simp) (by simp) rfl rfl (by first | trivial | (simp [bX, eK, eB, eS, eL, bJ, aB, PV.under, CV.under, aj, OB.under, ar]; done)) (by first | trivial | (simp [bX, eK, eB, eS, eL, bJ, aB, PV.under, CV.under, aj, OB.under, ar]; done)) ?_ ?_
        rotate_left
        ·rintro p σ' hpp hpl
         rcases y36 with y37 | y38
         ·exact False.elim hpp
         simp only [Sum.elim_inl, Sum.elim_inr] at hm hpp;subst hpp;refine hp _ _ _ ?_;refine ct ?_;obtain rfl := sI hm;exact rfl
        rintro p σ' hq14 _
        rcases y36 with y39 | y40
        ·skip;simp only [Sum.elim_inl, Sum.elim_inr] at hm hq14
         obtain ⟨rfl, rfl⟩ := hq14;refine aa ?_;refine go ?_;refine hk _ _ ?_;clear hk hp k kp;refine aL ?_;obtain ⟨o1, hl1, hm1⟩ := bd hm;refine cJ (S := (Int × (List aD) × Int)) (V := Nat) (O := (Int × (List aD)) ⊕ ((ag × Int) ⊕ (Int × Int))) [4, 23, 24, 25, 26, 27, 28, 29, 30, 31, 32, 33, 34, 35, 36, 37, 38, 39, 40, 41, 42, 43, 44, 45] (fun (x55, l56, x58) v57 => [(23, .c (.int .i64 x58))]) (fun (x55, l56, x58) v57 => [.box [.tree 1 (p1.b.map (eK .u8)), .int .i64 x55], .box [.int .i64 0, .int .i64 0, .int .i64 0, .nils, .nils, .nils, .nils], .box [.int .i64 y4.1, .int .i64 y9.1, .int .i64 y14.1, .tree 1 (y19.1.map (eK .i64)), .tree 1 (y24.1.map (eK .i64)), .tree 1 (y29.1.map (eK .i64)), .osl 3 v57 0 l56.length], .arr 6 v57 50 (l56.map aD.enc)]) _ _ 0 hl1 ?_ ?_
         ·exact ls
         ·rintro ⟨x55, l56, x58⟩ v57 r1 hm hr1;replace hm : aF p1 y39 x55 l56 x58 = some r1 := hm;refine ca ?_;unfold aF at hm;refine aq [] ?_;refine ay fun k1 hk1 => ?_
          by_cases h15 : x58 < y39.1
          ·rw [iP h15] at hm;refine ae rfl (dT h15) ?_;refine aC ?_;refine aw (hk1 _ _ ?_);refine ay fun k2 hk2 => ?_;refine aL ?_;refine aV [24, 25, 26, 27, 28, 29, 30, 31, 32, 33, 34, 35] fun k kp hk hp => ?_;refine go ?_;obtain ⟨y59, hc16, hm⟩ := bd hm
           refine aP (aJ (ah.mk p1.b x55)  _ hc16) [0] (by first | trivial | exact cN rfl) (by first | trivial | (intro _; first | trivial | simp [ab]) | simp [ab]) (by simp) (by simp) rfl rfl (by first | trivial | (simp [bX, eK, eB, eS, eL, bJ, aB, PV.under, CV.under, aj, OB.under, ar]; done)) (by first | trivial | (simp [bX, eK, eB, eS, eL, bJ, aB, PV.under, CV.under, aj, OB.under, ar]; done)) ?_ ?_
           rotate_left
           ·rintro p σ' hpp hpl
            rcases y59 with y60 | y61
            ·exact False.elim hpp
            simp only [Sum.elim_inl, Sum.elim_inr] at hm hpp;subst hpp;have ho18 := aW hm hr1;subst ho18;replace hm : some (.inr (y61.1, y61.2)) = some r := hm1;refine hp _ _ _ ?_;refine bk ?_;refine dz ?_;refine dE ?_;refine bk ?_;refine ct ?_;obtain rfl := sI hm;exact rfl
           rintro p σ' hq17 _
           rcases y59 with y62 | y63
           ·skip;simp only [Sum.elim_inl, Sum.elim_inr] at hm hq17
            obtain ⟨rfl, rfl⟩ := hq17;refine aa ?_;refine go ?_;obtain ⟨y64, hc19, hm⟩ := bd hm
            refine aP (aJ (ah.mk p1.b y62.2)  _ hc19) [0] (by first | trivial | exact cN rfl) (by first | trivial | (intro _; first | trivial | simp [ab]) | simp [ab]) (by simp) (by simp) rfl rfl (by first | trivial | (simp [bX, eK, eB, eS, eL, bJ, aB, PV.under, CV.under, aj, OB.under, ar]; done)) (by first | trivial | (simp [bX, eK, eB, eS, eL, bJ, aB, PV.under, CV.under, aj, OB.under, ar]; done)) ?_ ?_
            rotate_left
            ·rintro p σ' hpp hpl
             rcases y64 with y65 | y66
             ·exact False.elim hpp
             simp only [Sum.elim_inl, Sum.elim_inr] at hm hpp;subst hpp;have ho21 := aW hm hr1;subst ho21;replace hm : some (.inr (y66.1, y66.2)) = some r := hm1;refine hp _ _ _ ?_;refine bk ?_;refine dz ?_;refine dE ?_;refine bk ?_;refine ct ?_;obtain rfl := sI hm;exact rfl
            rintro p σ' hq20 _
            rcases y64 with y67 | y68
            ·skip;simp only [Sum.elim_inl, Sum.elim_inr] at hm hq20
             obtain ⟨rfl, rfl⟩ := hq20;refine aa ?_;refine go ?_;obtain ⟨y69, hc22, hm⟩ := bd hm
             refine aP (aJ (ah.mk p1.b y67.2)  _ hc22) [0] (by first | trivial | exact cN rfl) (by first | trivial | (intro _; first | trivial | simp [ab]) | simp [ab]) (by simp) (by simp) rfl rfl (by first | trivial | (simp [bX, eK, eB, eS, eL, bJ, aB, PV.under, CV.under, aj, OB.under, ar]; done)) (by first | trivial | (simp [bX, eK, eB, eS, eL, bJ, aB, PV.under, CV.under, aj, OB.under, ar]; done)) ?_ ?_
             rotate_left
             ·rintro p σ' hpp hpl
              rcases y69 with y70 | y71
              ·exact False.elim hpp
              simp only [Sum.elim_inl, Sum.elim_inr] at hm hpp;subst hpp;have ho24 := aW hm hr1;subst ho24;replace hm : some (.inr (y71.1, y71.2)) = some r := hm1;refine hp _ _ _ ?_;refine bk ?_;refine dz ?_;refine dE ?_;refine bk ?_;refine ct ?_;obtain rfl := sI hm;exact rfl
             rintro p σ' hq23 _
             rcases y69 with y72 | y73
             ·skip;simp only [Sum.elim_inl, Sum.elim_inr] at hm hq23
              obtain ⟨rfl, rfl⟩ := hq23;refine aa ?_;refine go ?_;obtain ⟨y74, hc25, hm⟩ := bd hm
              refine aP (aJ (ah.mk p1.b y72.2)  _ hc25) [0] (by first | trivial | exact cN rfl) (by first | trivial | (intro _; first | trivial | simp [ab]) | simp [ab]) (by simp) (by simp) rfl rfl (by first | trivial | (simp [bX, eK, eB, eS, eL, bJ, aB, PV.under, CV.under, aj, OB.under, ar]; done)) (by first | trivial | (simp [bX, eK, eB, eS, eL, bJ, aB, PV.under, CV.under, aj, OB.under, ar]; done)) ?_ ?_
              rotate_left
              ·rintro p σ' hpp hpl
               rcases y74 with y75 | y76
               ·exact False.elim hpp
               simp only [Sum.elim_inl, Sum.elim_inr] at hm hpp;subst hpp;have ho27 := aW hm hr1;subst ho27;replace hm : some (.inr (y76.1, y76.2)) = some r := hm1;refine hp _ _ _ ?_;refine bk ?_;refine dz ?_;refine dE ?_;refine bk ?_;refine ct ?_;obtain rfl := sI hm;exact rfl
              rintro p σ' hq26 _
              rcases y74 with y77 | y78
              ·skip;simp only [Sum.elim_inl, Sum.elim_inr] at hm hq26
               obtain ⟨rfl, rfl⟩ := hq26;refine aa ?_;refine go ?_;obtain ⟨y79, hc28, hm⟩ := bd hm
               refine aP (aJ (ah.mk p1.b y77.2)  _ hc28) [0] (by first | trivial | exact cN rfl) (by first | trivial | (intro _; first | trivial | simp [ab]) | simp [ab]) (by simp) (by simp) rfl rfl (by first | trivial | (simp [bX, eK, eB, eS, eL, bJ, aB, PV.under, CV.under, aj, OB.under, ar]; done)) (by first | trivial | (simp [bX, eK, eB, eS, eL, bJ, aB, PV.under, CV.under, aj, OB.under, ar]; done)) ?_ ?_
               rotate_left
               ·rintro p σ' hpp hpl
                rcases y79 with y80 | y81
                ·exact False.elim hpp
                simp only [Sum.elim_inl, Sum.elim_inr] at hm hpp;subst hpp;have ho30 := aW hm hr1;subst ho30;replace hm : some (.inr (y81.1, y81.2)) = some r := hm1;refine hp _ _ _ ?_;refine bk ?_;refine dz ?_;refine dE ?_;refine bk ?_;refine ct ?_;obtain rfl := sI hm;exact rfl
               rintro p σ' hq29 _
               rcases y79 with y82 | y83
               ·skip;simp only [Sum.elim_inl, Sum.elim_inr] at hm hq29
                obtain ⟨rfl, rfl⟩ := hq29;refine aa ?_;refine go ?_;refine hk _ _ ?_;clear hk hp k kp;refine aV [36, 37, 38] fun k kp hk hp => ?_;refine go ?_;obtain ⟨y84, hc31, hm⟩ := bd hm
                refine aP (aJ (ah.mk p1.b y82.2)  _ hc31) [0] (by first | trivial | exact cN rfl) (by first | trivial | (intro _; first | trivial | simp [ab]) | simp [ab]) (by simp) (by simp) rfl rfl (by first | trivial | (simp [bX, eK, eB, eS, eL, bJ, aB, PV.under, CV.under, aj, OB.under, ar]; done)) (by first | trivial | (simp [bX, eK, eB, eS, eL, bJ, aB, PV.under, CV.under, aj, OB.under, ar]; done)) ?_ ?_
                rotate_left
                ·rintro p σ' hpp hpl
                 rcases y84 with y85 | y86
                 ·exact False.elim hpp
                 simp only [Sum.elim_inl, Sum.elim_inr] at hm hpp;subst hpp;have ho33 := aW hm hr1;subst ho33;replace hm : some (.inr (y86.1, y86.2)) = some r := hm1;refine hp _ _ _ ?_;refine bk ?_;refine dz ?_;refine dE ?_;refine bk ?_;refine ct ?_;obtain rfl := sI hm;exact rfl
                rintro p σ' hq32 _
                rcases y84 with y87 | y88
                ·skip;simp only [Sum.elim_inl, Sum.elim_inr] at hm hq32
                 obtain ⟨rfl, rfl⟩ := hq32;refine aa ?_;refine go ?_;refine hk _ _ ?_;clear hk hp k kp;obtain ⟨⟨hg34ax, hg34ay⟩, hm⟩ := gd hm;refine ej ?_;refine aT ?_;refine aw (hk2 _ _ ?_);refine ej ?_;refine bD (y87.2, (l56 ++ (lit ([(aD.mk y62.1 y67.1 y72.1 y77.1 y82.1 y87.1)] : List aD))), (IntKind.wrap .i64 (x58 + 1))) (v57 + 1) hm ?_;exact ls
                ·skip;exact False.elim hq32
               ·skip;exact False.elim hq29
              ·skip;exact False.elim hq26
             ·skip;exact False.elim hq23
            ·skip;exact False.elim hq20
           ·skip;exact False.elim hq17
          ·rw [iN h15] at hm;refine af rfl (dF h15) ?_;refine dx ?_;have ho35 := aW hm hr1;subst ho35;replace hm : bQ y4 y9 y14 y19 y24 y29 x55 l56 = some r := hm1;refine cD (bP (a9 ?_));refine aX (x55, l56) v57 hm ?_;exact ls
        ·skip;exact False.elim hq14
       ·rintro ⟨x33, l34⟩ v35 hm;replace hm : bQ y4 y9 y14 y19 y24 y29 x33 l34 = some r := hm;refine ca ?_;unfold bQ at hm;refine aq [3, 46] ?_;refine oV (bO 3 rfl) ?_;refine au ?_
        cases hm
        exact kr 1
      ·skip;exact False.elim hq12
     ·skip;exact False.elim hq10
    ·skip;exact False.elim hq8
   ·skip;exact False.elim hq6
  ·skip;exact False.elim hq4
 ·skip;exact False.elim hq2
theorem gR (p1 : List Int) (r : (ag × ao)) (hm : cL p1 = some r) : ee Try.prog 10 [.c (.tree 1 (p1.map (eK .u8)))] (.t [.a [.int .i64 ((r.1).cells), .int .i64 ((r.1).regs), .int .i64 ((r.1).cost), .tree 1 (((r.1).put).map (eK .i64)), .tree 1 (((r.1).bools).map (eK .i64)), .tree 1 (((r.1).get).map (eK .i64)), .tree 6 (((r.1).code).map aD.enc)], .a [.int .i64 ((r.2).code), .int .i64 ((r.2).at_)]]) := by
 refine fw.drop (mq (hf := Try.func10) 91 [.cell 2 25, .cell 3 31] 2 3 8 _ rfl rfl rfl (by kernel_rfl) (by simp) rfl rfl rfl rfl rfl rfl rfl rfl (⟨⟨_, _, _, _, _, Try.func20, rfl, rfl, rfl, by kernel_rfl, rfl, rfl, rfl, rfl, rfl, rfl, rfl, rfl⟩, by decide, by decide, by decide, by decide, by decide⟩ : Clo Try.prog 20 _ 18 5 2) ?_ ?_)
 ·skip;intro σ0
  refine gO (by simp only [Env.ofList, bE, Nat.reduceDiv, Nat.reduceMod, Nat.reduceLT, Nat.reduceLeDiff, Nat.reduceAdd, Nat.reduceSub, Nat.reduceMul, Nat.reduceEqDiff, Nat.reduceBEq, Nat.reduceBNe, Nat.reduceGT, Int.reduceToNat]; rfl) rfl ?_;refine dW [5, 6] fun k kp hk hp => ?_;refine an 1 ?_;refine go ?_
  refine RS (oZ rfl (by first | exact .inl rfl | exact .inr rfl) (by first | rfl | (simp only [bR, bT, tab, bX, reduceIte, ↓reduceIte, reduceCtorEq, Int.reduceToNat, Nat.reduceDiv, Nat.reduceMod, Nat.reduceLT, Nat.reduceLeDiff, Nat.reduceAdd, Nat.reduceSub, Nat.reduceMul, Nat.reduceEqDiff, Nat.reduceBEq, Nat.reduceBNe, Nat.reduceGT]; done)) (by first | kernel_rfl | exact of_decide_eq_true (by kernel_rfl))) ?_
  simp only [bR, bT, tab, bX, reduceIte, ↓reduceIte, reduceCtorEq, Int.reduceToNat, Nat.reduceDiv, Nat.reduceMod, Nat.reduceLT, Nat.reduceLeDiff, Nat.reduceAdd, Nat.reduceSub, Nat.reduceMul, Nat.reduceEqDiff, Nat.reduceBEq, Nat.reduceBNe, Nat.reduceGT];refine aa ?_;refine go ?_;refine hk _ _ ?_;clear hk hp k kp;refine af rfl rfl ?_;refine aC ?_;exact pu rfl
 refine dU ?_;unfold cL at hm;refine ej ?_
 refine ⟨0, 1, rfl, rfl, of_decide_eq_true rfl, of_decide_eq_true rfl, of_decide_eq_true rfl, ?_⟩
 refine pt ?_;refine aq [9, 10, 11] ?_;refine ay fun k1 hk1 => ?_;refine aq [12] ?_
 by_cases h1 : (IntKind.wrap .i64 ((p1.length : Int) - 4)) < 3
 ·rw [iP h1] at hm;refine ae rfl (dT h1) ?_;refine aq [0, 4, 13, 14, 15, 16, 17] ?_
  refine fd (fl 0 [.int .i64 0, .int .i64 0, .int .i64 0, .tree 1 ([].map (eK .i64)), .tree 1 ([].map (eK .i64)), .tree 1 ([].map (eK .i64)), .tree 6 ([].map aD.enc)] rfl (by and_intros <;> trivial)) ?_
  refine gO rfl (by simp only [bZ, bL, reduceIte, ↓reduceIte, reduceCtorEq, Int.reduceToNat, Nat.reduceDiv, Nat.reduceMod, Nat.reduceLT, Nat.reduceLeDiff, Nat.reduceAdd, Nat.reduceSub, Nat.reduceMul, Nat.reduceEqDiff, Nat.reduceBEq, Nat.reduceBNe, Nat.reduceGT]; rfl) ?_;refine au ?_;refine am ?_;refine jd ?_
  cases hm
  exact kr 0
 ·rw [iN h1] at hm;refine af rfl (dF h1) ?_;refine aC ?_;refine aw (hk1 _ _ ?_);refine ay fun k2 hk2 => ?_;obtain ⟨hg2a, hm⟩ := gd hm;refine dW [13, 18, 19, 20] fun k kp hk hp => ?_;refine an 2 ?_;refine go ?_
  refine RS (oY rfl (by first | kernel_rfl | exact of_decide_eq_true (by kernel_rfl)) (by first | kernel_rfl | exact of_decide_eq_true (by kernel_rfl)) (by first | kernel_rfl | exact of_decide_eq_true (by kernel_rfl)) (no (by first | rfl | (simp only [bR, bT, tab, bX, reduceIte, ↓reduceIte, reduceCtorEq, Int.reduceToNat, Nat.reduceDiv, Nat.reduceMod, Nat.reduceLT, Nat.reduceLeDiff, Nat.reduceAdd, Nat.reduceSub, Nat.reduceMul, Nat.reduceEqDiff, Nat.reduceBEq, Nat.reduceBNe, Nat.reduceGT]; done)))) ?_
  simp only [bR, bT, tab, bX, reduceIte, ↓reduceIte, reduceCtorEq, Int.reduceToNat, Nat.reduceDiv, Nat.reduceMod, Nat.reduceLT, Nat.reduceLeDiff, Nat.reduceAdd, Nat.reduceSub, Nat.reduceMul, Nat.reduceEqDiff, Nat.reduceBEq, Nat.reduceBNe, Nat.reduceGT];refine aa ?_;refine go ?_;refine hk _ _ ?_;clear hk hp k kp
  by_cases h3 : (js (p1.take 3)) = ([76, 87, 1] : List UInt8)
  ·rw [iP h3] at hm;refine af rfl (by rw [show ((js (p1.take 3)) == ([76, 87, 1] : List UInt8)) = true from (eQ h3)]; rfl) ?_;refine aC ?_;refine aw (hk2 _ _ ?_);obtain ⟨⟨hg4a, hg4b, hg4c, hg4d⟩, hm⟩ := gd hm;refine pr (a2 (em (eK .u8) p1 ((IntKind.wrap .i64 ((p1.length : Int) - 4)).toNat)) (a2 (em (eK .u8) p1 ((IntKind.wrap .i64 ((IntKind.wrap .i64 ((p1.length : Int) - 4)) + 1)).toNat)) (a2 (em (eK .u8) p1 ((IntKind.wrap .i64 ((IntKind.wrap .i64 ((p1.length : Int) - 4)) + 2)).toNat)) (em (eK .u8) p1 ((IntKind.wrap .i64 ((IntKind.wrap .i64 ((p1.length : Int) - 4)) + 3)).toNat))))) [21, 24, 25, 26, 27, 28, 29, 30, 31, 32, 33, 34, 35, 36, 37, 38, 39, 40, 41, 42, 43, 44, 45, 46, 47, 48, 49, 50, 51, 52] [0, 0, 3, 7, 15, 0, 0, 64, 224, 480, 992, 2016, 4095, 0, 0, 16384, 57344, 122880, 253952, 516096, 1048575, 0, 0, 4194304, 14680064, 31457280, 65011712, 132120576, 268435455, 536870911] [false, false, false, false, false, false, false, false, false, false, false, false, false, false, false, false, false, false, false, false, false, false, false, false, false, false, false, false, true, true] ?_;refine ay fun k3 hk3 => ?_;obtain ⟨hg5a, hm⟩ := gd hm;refine aV [5, 53, 54, 55, 56, 57] fun k kp hk hp => ?_;refine go ?_;obtain ⟨y1, hc6, hm⟩ := bd hm;refine RP (fun _ => hM (p1.take ((IntKind.wrap .i64 ((p1.length : Int) - 4)).toNat)) _ hc6) ?_;refine aa ?_;refine go ?_;refine hk _ _ ?_;clear hk hp k kp
   by_cases h7 : ¬ y1 = (bits .or .u32 (bits .or .u32 (bits .or .u32 (IntKind.wrap .u32 (p1.getD ((IntKind.wrap .i64 ((p1.length : Int) - 4)).toNat) default)) (IntKind.wrap .u32 ((IntKind.wrap .u32 (p1.getD ((IntKind.wrap .i64 ((IntKind.wrap .i64 ((p1.length : Int) - 4)) + 1)).toNat) default)) * 2 ^ (min 8 (IntKind.bits .u32))))) (IntKind.wrap .u32 ((IntKind.wrap .u32 (p1.getD ((IntKind.wrap .i64 ((IntKind.wrap .i64 ((p1.length : Int) - 4)) + 2)).toNat) default)) * 2 ^ (min 16 (IntKind.bits .u32))))) (IntKind.wrap .u32 ((IntKind.wrap .u32 (p1.getD ((IntKind.wrap .i64 ((IntKind.wrap .i64 ((p1.length : Int) - 4)) + 3)).toNat) default)) * 2 ^ (min 24 (IntKind.bits .u32)))))
   ·rw [iP h7] at hm;refine ae rfl (bne_iff_ne.2 h7) ?_;refine aq [0, 4, 58, 59, 60, 61] ?_
    refine fd (fl 0 [.int .i64 0, .int .i64 0, .int .i64 0, .tree 1 ([].map (eK .i64)), .tree 1 ([].map (eK .i64)), .tree 1 ([].map (eK .i64)), .tree 6 ([].map aD.enc)] rfl (by and_intros <;> trivial)) ?_
    refine gO rfl (by simp only [bZ, bL, reduceIte, ↓reduceIte, reduceCtorEq, Int.reduceToNat, Nat.reduceDiv, Nat.reduceMod, Nat.reduceLT, Nat.reduceLeDiff, Nat.reduceAdd, Nat.reduceSub, Nat.reduceMul, Nat.reduceEqDiff, Nat.reduceBEq, Nat.reduceBNe, Nat.reduceGT]; rfl) ?_;refine au ?_;refine am ?_;refine jd ?_
    cases hm
    exact kr 0
   ·rw [iN h7] at hm;refine af rfl (bne_eq_false_iff_eq.2 (Decidable.not_not.1 h7)) ?_;refine aC ?_;refine aw (hk3 _ _ ?_);refine aq [0, 58, 62, 63, 64, 65, 66] ?_;refine aV [67, 68] fun k kp hk hp => ?_;refine go ?_;obtain ⟨y2, hc8, hm⟩ := bd hm
    refine aP (gT (ah.mk (p1.take ((IntKind.wrap .i64 ((p1.length : Int) - 4)).toNat)) 3)  _ hc8) [2] (by first | trivial | exact cN rfl) (by first | trivial | (intro _; first | trivial | simp [ab]) | simp [ab]) (by simp) (by simp) rfl rfl (by first | trivial | (simp [bX, eK, eB, eS, eL, bJ, aB, PV.under, CV.under, aj, OB.under, ar]; done)) (by first | trivial | (simp [bX, eK, eB, eS, eL, bJ, aB, PV.under, CV.under, aj, OB.under, ar]; done)) ?_ ?_
    rotate_left
    ·rintro p σ' hpp hpl
     rcases σ' with _ | ⟨t0_, ts0_⟩
     ·simp at hpl
     rcases y2 with y3 | y4
     ·exact False.elim hpp
     simp only [Sum.elim_inl, Sum.elim_inr] at hm hpp;subst hpp;refine hp _ _ _ ?_
     refine ⟨[(2, .c (.optr 0 0)), (3, .c (.optr 1 0))], [.box [.int .i64 0, .int .i64 0, .int .i64 0, .nils, .nils, .nils, .nils], .box [.int .i64 0, .int .i64 0]], 51, [(.i64, y4.1), (.i64, y4.2)], rfl, ⟨by first | trivial | (simp [gM]; done) | (and_intros <;> rfl), ⟨_, by first | rfl | (simp only [List.map_cons, bn, List.set_cons_zero, List.set_cons_succ, List.cons_append, List.nil_append]; rfl)⟩, of_decide_eq_true rfl, by first | trivial | (simp [bX, eK, eB, eS, eL, bJ, aB, PV.under, CV.under, aj, OB.under, ar]; done), by first | trivial | (simp [gu, PV.under, CV.under]; done)⟩, ?_⟩
     refine gO (by simp only [Env.ofList, bE, Nat.reduceDiv, Nat.reduceMod, Nat.reduceLT, Nat.reduceLeDiff, Nat.reduceAdd, Nat.reduceSub, Nat.reduceMul, Nat.reduceEqDiff, Nat.reduceBEq, Nat.reduceBNe, Nat.reduceGT, Int.reduceToNat]; rfl) rfl ?_;refine dW [5, 6] fun k kp hk hp => ?_;refine an 1 ?_;refine go ?_
     refine RS (np rfl (by first | exact .inl rfl | exact .inr rfl) (by first | rfl | (simp only [bR, bT, tab, bX, reduceIte, ↓reduceIte, reduceCtorEq, Int.reduceToNat, Nat.reduceDiv, Nat.reduceMod, Nat.reduceLT, Nat.reduceLeDiff, Nat.reduceAdd, Nat.reduceSub, Nat.reduceMul, Nat.reduceEqDiff, Nat.reduceBEq, Nat.reduceBNe, Nat.reduceGT]; done)) (by first | kernel_rfl | exact of_decide_eq_true (by kernel_rfl))) ?_
     simp only [bR, bT, tab, bX, reduceIte, ↓reduceIte, reduceCtorEq, Int.reduceToNat, Nat.reduceDiv, Nat.reduceMod, Nat.reduceLT, Nat.reduceLeDiff, Nat.reduceAdd, Nat.reduceSub, Nat.reduceMul, Nat.reduceEqDiff, Nat.reduceBEq, Nat.reduceBNe, Nat.reduceGT];refine aa ?_;refine go ?_;refine hk _ _ ?_;clear hk hp k kp;refine ae rfl rfl ?_;refine dW [7, 8, 9, 10, 11, 12] fun k kp hk hp => ?_;refine an 1 ?_;refine go ?_
     refine RS (mo (ns := [(.i64, y4.1), (.i64, y4.2)]) [.int .i64 y4.1, .int .i64 y4.2] rfl rfl (by first | rfl | (simp only [bR, bT, tab, bX, reduceIte, ↓reduceIte, reduceCtorEq, Int.reduceToNat, Nat.reduceDiv, Nat.reduceMod, Nat.reduceLT, Nat.reduceLeDiff, Nat.reduceAdd, Nat.reduceSub, Nat.reduceMul, Nat.reduceEqDiff, Nat.reduceBEq, Nat.reduceBNe, Nat.reduceGT]; done)) (by first | kernel_rfl | exact of_decide_eq_true (by kernel_rfl))) ?_
     simp only [bR, bT, tab, bX, reduceIte, ↓reduceIte, reduceCtorEq, Int.reduceToNat, Nat.reduceDiv, Nat.reduceMod, Nat.reduceLT, Nat.reduceLeDiff, Nat.reduceAdd, Nat.reduceSub, Nat.reduceMul, Nat.reduceEqDiff, Nat.reduceBEq, Nat.reduceBNe, Nat.reduceGT];refine aa ?_;refine go ?_;refine hk _ _ ?_;clear hk hp k kp;refine ay fun k504 hk504 => ?_;refine aq [4, 13] ?_;refine af rfl rfl ?_;refine aC ?_;refine aw (hk504 _ _ ?_);refine pN (by kernel_rfl) [0] [0, 0, 1, 7] [false, false, false, true] [false, false, true, false] [[], [3], [], []] (by kernel_rfl) fun k hk => ?_;refine gp ?_;refine hk _ _ ?_;clear hk k
     refine qY (fl 0 [.int .i64 0, .int .i64 0, .int .i64 0, .tree 1 ([].map (eK .i64)), .tree 1 ([].map (eK .i64)), .tree 1 ([].map (eK .i64)), .tree 6 ([].map aD.enc)] rfl (by and_intros <;> trivial)) ?_
     refine gz ?_;refine pu (pO (kE [] ?_));obtain rfl := sI hm
     simp only [Env.ofList, bF, bT, tab, bX, Sum.elim_inl, Sum.elim_inr, reduceIte, ↓reduceIte, reduceCtorEq, Int.reduceToNat, Nat.reduceDiv, Nat.reduceMod, Nat.reduceLT, Nat.reduceLeDiff, Nat.reduceAdd, Nat.reduceSub, Nat.reduceMul, Nat.reduceEqDiff, Nat.reduceBEq, Nat.reduceBNe, Nat.reduceGT] <;> first | done | rfl | (and_intros <;> first | rfl | omega | (simp; done))
    rintro p σ' hq9 _
    rcases y2 with y5 | y6
    ·skip;simp only [Sum.elim_inl, Sum.elim_inr] at hm hq9
     obtain ⟨rfl, rfl⟩ := hq9;refine aa ?_;refine go ?_;refine hk _ _ ?_;clear hk hp k kp;refine ay fun k505 hk505 => ?_;refine aq [69, 70, 71, 72, 73] ?_
     by_cases h510 : y5.2 < (IntKind.wrap .i64 ((p1.length : Int) - 4))
     ·rw [iP h510] at hm;refine ae rfl (dT h510) ?_;refine oW [4, 6, 74, 75, 76, 77, 78, 79, 80] (by kernel_rfl) [0] [0, 0, 2, 6, 14, 30, 1, 127] [false, false, false, false, false, false, false, true] [false, false, false, false, false, false, true, false] [[], [6], [76], [77], [78], [79], [], []] (by kernel_rfl) fun k hk => ?_;refine gp ?_;refine hk _ _ ?_;clear hk k
      refine fd (fl 0 [.int .i64 0, .int .i64 0, .int .i64 0, .tree 1 ([].map (eK .i64)), .tree 1 ([].map (eK .i64)), .tree 1 ([].map (eK .i64)), .tree 6 ([].map aD.enc)] rfl (by and_intros <;> trivial)) ?_
      refine gO rfl (by simp only [bZ, bL, reduceIte, ↓reduceIte, reduceCtorEq, Int.reduceToNat, Nat.reduceDiv, Nat.reduceMod, Nat.reduceLT, Nat.reduceLeDiff, Nat.reduceAdd, Nat.reduceSub, Nat.reduceMul, Nat.reduceEqDiff, Nat.reduceBEq, Nat.reduceBNe, Nat.reduceGT]; rfl) ?_;refine au ?_;refine am ?_;refine jd ?_
      cases hm
      exact kr 0
     ·rw [iN h510] at hm;refine af rfl (dF h510) ?_;refine aC ?_;refine aw (hk505 _ _ ?_);refine ay fun k506 hk506 => ?_;refine aV [6, 74, 81, 82] fun k kp hk hp => ?_;refine go ?_;obtain ⟨y7, hc511, hm⟩ := bd hm;refine RP (fun _ => ip (y5.1) _ hc511) ?_;refine aa ?_;refine go ?_;refine hk _ _ ?_;clear hk hp k kp;refine aq [7, 83, 84] ?_
      by_cases h512 : ¬ ((y7).code) = 0
      ·rw [iP h512] at hm;refine ae rfl (bne_iff_ne.2 h512) ?_;refine aq [4, 85, 86, 87, 88] ?_
       refine fd (fl 0 [.int .i64 0, .int .i64 0, .int .i64 0, .tree 1 ([].map (eK .i64)), .tree 1 ([].map (eK .i64)), .tree 1 ([].map (eK .i64)), .tree 6 ([].map aD.enc)] rfl (by and_intros <;> trivial)) ?_
       refine gO rfl (by simp only [bZ, bL, reduceIte, ↓reduceIte, reduceCtorEq, Int.reduceToNat, Nat.reduceDiv, Nat.reduceMod, Nat.reduceLT, Nat.reduceLeDiff, Nat.reduceAdd, Nat.reduceSub, Nat.reduceMul, Nat.reduceEqDiff, Nat.reduceBEq, Nat.reduceBNe, Nat.reduceGT]; rfl) ?_;refine au ?_;refine am ?_;refine jd ?_
       cases hm
       exact kr 0
      ·rw [iN h512] at hm;refine af rfl (bne_eq_false_iff_eq.2 (Decidable.not_not.1 h512)) ?_;refine aC ?_;refine aw (hk506 _ _ ?_);refine aq [4, 85, 89, 90] ?_;refine au ?_;refine jd ?_
       cases hm
       exact kr 0
    ·skip;exact False.elim hq9
  ·rw [iN h3] at hm;refine ae rfl (by rw [show ((js (p1.take 3)) == ([76, 87, 1] : List UInt8)) = false from (nB h3)]; rfl) ?_;refine aq [0, 4, 21, 22, 23] ?_
   refine fd (fl 0 [.int .i64 0, .int .i64 0, .int .i64 0, .tree 1 ([].map (eK .i64)), .tree 1 ([].map (eK .i64)), .tree 1 ([].map (eK .i64)), .tree 6 ([].map aD.enc)] rfl (by and_intros <;> trivial)) ?_
   refine gO rfl (by simp only [bZ, bL, reduceIte, ↓reduceIte, reduceCtorEq, Int.reduceToNat, Nat.reduceDiv, Nat.reduceMod, Nat.reduceLT, Nat.reduceLeDiff, Nat.reduceAdd, Nat.reduceSub, Nat.reduceMul, Nat.reduceEqDiff, Nat.reduceBEq, Nat.reduceBNe, Nat.reduceGT]; rfl) ?_;refine au ?_;refine am ?_;refine jd ?_
   cases hm
   exact kr 0
theorem je (p1 : ag) (p2 : Int) (p3 : Int) (r : Bool) (hm : eU p1 p2 p3 = some r) : ee Try.prog 5 [.a [.int .i64 p1.cells, .int .i64 p1.regs, .int .i64 p1.cost, .tree 1 (p1.put.map (eK .i64)), .tree 1 (p1.bools.map (eK .i64)), .tree 1 (p1.get.map (eK .i64)), .tree 6 (p1.code.map aD.enc)], .c (.int .i64 p2), .c (.int .u8 p3)] (.c (.bool r)) := by
 refine bq 67 [.tmp 6] Try.func5 rfl rfl rfl (by kernel_rfl) (by simp) ?_;refine dU ?_;unfold eU at hm;refine aq [0, 6] ?_;refine ay fun k1 hk1 => ?_;refine aV [15] fun k kp hk hp => ?_;refine go ?_;obtain ⟨y1, hc1, hm⟩ := bd hm;refine RP (fun _ => i2  _ hc1) ?_;refine aa ?_;refine go ?_;refine hk _ _ ?_;clear hk hp k kp
 by_cases h2 : y1 = true
 ·rw [iP h2] at hm;refine af rfl (by rw [show y1 = true from (h2)]; rfl) ?_;refine aC ?_;refine aw (hk1 _ _ ?_);refine ay fun k2 hk2 => ?_;refine aV [16, 17] fun k kp hk hp => ?_;refine go ?_;obtain ⟨y2, hc3, hm⟩ := bd hm;refine RP (fun _ => i3 p1 _ hc3) ?_;refine aa ?_;refine go ?_;refine hk _ _ ?_;clear hk hp k kp
  by_cases h4 : y2 = true
  ·rw [iP h4] at hm;refine ae rfl (h4) ?_;refine aq [1, 2, 3, 18] ?_;refine au ?_;refine am ?_
   cases hm
   exact kr 0
  ·rw [iN h4] at hm;refine af rfl (fB h4) ?_;refine aC ?_;refine aw (hk2 _ _ ?_);refine aV [3, 18, 19, 20, 21, 22, 23] fun k kp hk hp => ?_;refine go ?_;obtain ⟨y3, hc5, hm⟩ := bd hm;refine RP (fun _ => gQ p1 _ hc5) ?_;refine aa ?_;refine go ?_;refine hk _ _ ?_;clear hk hp k kp;refine ay fun k3 hk3 => ?_;refine dW [8, 24, 25, 26, 27, 28, 29] fun k kp hk hp => ?_;refine an 4 ?_;refine go ?_
   by_cases h6 : ¬ ((y3.2).code) = 0
   ·rw [iP h6] at hm;have h6b := bne_iff_ne.2 h6;refine aa ?_;refine gox h6b ?_;refine hk _ _ ?_;clear hk hp k kp;refine ae rfl rfl ?_;refine aq [1, 2, 7, 30] ?_;refine au ?_;refine am ?_
    cases hm
    exact kr 0
   ·rw [iN h6] at hm;have h6b : (((y3.2).code) != 0) = false := bne_eq_false_iff_eq.2 (Decidable.not_not.1 h6);refine aa ?_;refine gox h6b ?_;refine hk _ _ ?_;clear hk hp k kp
    by_cases h7 : p3 = 0
    ·rw [iP h7] at hm;refine ae rfl (eQ h7) ?_;refine aq [1, 2, 7, 30] ?_;refine au ?_;refine am ?_
     cases hm
     exact kr 0
    ·rw [iN h7] at hm;refine af rfl (nB h7) ?_;refine aC ?_;refine aw (hk3 _ _ ?_);obtain ⟨hg8a, hm⟩ := gd hm;refine aq [1, 30, 31, 32, 33, 34, 35, 36, 37] ?_;obtain ⟨⟨hg9ax, hg9ay⟩, hm⟩ := gd hm;refine aq [38, 39] ?_;refine lF [.box [.int .i64 p1.cells, .int .i64 p1.regs, .int .i64 p1.cost, .tree 1 (p1.put.map (eK .i64)), .tree 1 (p1.bools.map (eK .i64)), .tree 1 (p1.get.map (eK .i64)), .tree 6 (p1.code.map aD.enc)], .box [.int .i64 ((y3.2).code), .int .i64 ((y3.2).at_)], .arr 1 0 5 (y3.1.map (eK .u8))] ?_;obtain ⟨hg10a, hm⟩ := gd hm;refine cU (em (eK .u8) y3.1 ((IntKind.wrap .i64 ((IntKind.wrap .u64 p2).tmod (IntKind.wrap .u64 (y3.1.length : Int)))).toNat)) [2, 9, 40, 41, 42, 43, 44, 45, 46, 47, 48] ?_;refine lF [.box [.int .i64 p1.cells, .int .i64 p1.regs, .int .i64 p1.cost, .tree 1 (p1.put.map (eK .i64)), .tree 1 (p1.bools.map (eK .i64)), .tree 1 (p1.get.map (eK .i64)), .tree 6 (p1.code.map aD.enc)], .box [.int .i64 ((y3.2).code), .int .i64 ((y3.2).at_)], .arr 1 0 5 ((y3.1.set ((IntKind.wrap .i64 ((IntKind.wrap .u64 p2).tmod (IntKind.wrap .u64 (y3.1.length : Int)))).toNat) (bits .xor .u8 (y3.1.getD ((IntKind.wrap .i64 ((IntKind.wrap .u64 p2).tmod (IntKind.wrap .u64 (y3.1.length : Int)))).toNat) default) p3)).map (eK .u8))] ?_;refine aV [10, 11, 49, 50, 51, 52, 53] fun k kp hk hp => ?_;refine go ?_;refine aQ (bO 2 rfl) ?_;refine gt ?_;obtain ⟨y4, hc11, hm⟩ := bd hm;refine RP (fun _ => gR (y3.1.set ((IntKind.wrap .i64 ((IntKind.wrap .u64 p2).tmod (IntKind.wrap .u64 (y3.1.length : Int)))).toNat) (bits .xor .u8 (y3.1.getD ((IntKind.wrap .i64 ((IntKind.wrap .u64 p2).tmod (IntKind.wrap .u64 (y3.1.length : Int)))).toNat) default) p3)) _ hc11) ?_;refine aa ?_;refine go ?_;refine hk _ _ ?_;clear hk hp k kp;refine aV [7, 13, 54, 55, 56, 57, 58] fun k kp hk hp => ?_;refine go ?_;obtain ⟨y5, hc12, hm⟩ := bd hm;refine RP (fun _ => gR y3.1 _ hc12) ?_;refine aa ?_;refine go ?_;refine hk _ _ ?_;clear hk hp k kp;refine dW [12, 14, 59, 60, 61, 62, 63, 64, 65, 66] fun k kp hk hp => ?_;refine an 4 ?_;refine go ?_
     by_cases h13 : ¬ ((y4.2).code) = 0
     ·rw [iP h13] at hm;have h13b := bne_iff_ne.2 h13;refine aa ?_;refine gox h13b ?_;refine hk _ _ ?_;clear hk hp k kp;refine au ?_
      cases hm
      exact kr 0
     ·rw [iN h13] at hm;have h13b : (((y4.2).code) != 0) = false := bne_eq_false_iff_eq.2 (Decidable.not_not.1 h13);refine aa ?_;refine gox h13b ?_;refine hk _ _ ?_;clear hk hp k kp;refine au ?_
      cases hm
      exact kr 0
 ·rw [iN h2] at hm;refine ae rfl (by rw [show y1 = false from (fB h2)]; rfl) ?_;refine aq [1, 2, 3, 16] ?_;refine au ?_;refine am ?_
  cases hm
  exact kr 0
end Pam
