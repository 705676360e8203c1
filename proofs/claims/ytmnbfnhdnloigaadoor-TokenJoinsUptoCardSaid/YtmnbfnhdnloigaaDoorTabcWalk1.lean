/- the walk of token_Word, printed by a program of ours -/
import Derived.Test.YtmnbfnhdnloigaaDoorTBase2
import Derived.Test.YtmnbfnhdnloigaaDoorTabcFun1
import Derived.Test.YtmnbfnhdnloigaaDoorTTypes1
set_option linter.all false
set_option maxRecDepth 100000
set_option maxHeartbeats 8000000
namespace Pam
open Go Go.Proofs
theorem ef (p1 : List UInt8) (r : Bool) (hm : cS p1 = some r) : bU Tryd.prog 10 [.c (.str p1)] (.c (.bool r)) := by
 refine aQ 37 [.tmp 2] Tryd.func10 rfl rfl rfl (by kernel_rfl) (by simp) ?_;refine c8 ?_;unfold cS at hm;refine am [2] ?_;refine az fun k1 hk1 => ?_;refine am [0] ?_;refine aH ?_;refine aV (S := Bool) (V := Unit) [3, 4, 5, 6, 7, 8, 9, 10, 11, 12, 13, 14, 15, 16, 17, 18, 19, 20, 21, 22, 23, 24, 25, 26, 27, 28, 29, 30, 31, 32, 33, 34, 35, 36] (fun b1 _ => [(4, .c (.bool b1))]) (fun b1 _ => []) (fun b1 => ao b1 = some r) ?_ ?_
 ·skip;refine am [5] ?_
  by_cases h2 : p1 = ([97, 100, 100] : List UInt8)
  ·rw [iP h2] at hm;refine ae rfl (eQ h2) ?_;refine ak ?_;refine ah (p1 == ([97, 100, 100] : List UInt8)) () hm ?_;exact ls
  ·rw [iN h2] at hm;refine ag rfl (nB h2) ?_;refine am [6] ?_
   by_cases h3 : p1 = ([97, 110, 100] : List UInt8)
   ·rw [iP h3] at hm;refine ae rfl (eQ h3) ?_;refine ak ?_;refine ah (p1 == ([97, 110, 100] : List UInt8)) () hm ?_;exact ls
   ·rw [iN h3] at hm;refine ag rfl (nB h3) ?_;refine am [7] ?_
    by_cases h4 : p1 = ([98, 111, 111, 108] : List UInt8)
    ·rw [iP h4] at hm;refine ae rfl (eQ h4) ?_;refine ak ?_;refine ah (p1 == ([98, 111, 111, 108] : List UInt8)) () hm ?_;exact ls
    ·rw [iN h4] at hm;refine ag rfl (nB h4) ?_;refine am [8] ?_
     by_cases h5 : p1 = ([99, 97, 108, 108] : List UInt8)
     ·rw [iP h5] at hm;refine ae rfl (eQ h5) ?_;refine ak ?_;refine ah (p1 == ([99, 97, 108, 108] : List UInt8)) () hm ?_;exact ls
     ·rw [iN h5] at hm;refine ag rfl (nB h5) ?_;refine am [9] ?_
      by_cases h6 : p1 = ([99, 97, 116] : List UInt8)
      ·rw [iP h6] at hm;refine ae rfl (eQ h6) ?_;refine ak ?_;refine ah (p1 == ([99, 97, 116] : List UInt8)) () hm ?_;exact ls
      ·rw [iN h6] at hm;refine ag rfl (nB h6) ?_;refine am [10] ?_
       by_cases h7 : p1 = ([100, 105, 118] : List UInt8)
       ·rw [iP h7] at hm;refine ae rfl (eQ h7) ?_;refine ak ?_;refine ah (p1 == ([100, 105, 118] : List UInt8)) () hm ?_;exact ls
       ·rw [iN h7] at hm;refine ag rfl (nB h7) ?_;refine am [11] ?_
        by_cases h8 : p1 = ([101, 108, 115, 101] : List UInt8)
        ·rw [iP h8] at hm;refine ae rfl (eQ h8) ?_;refine ak ?_;refine ah (p1 == ([101, 108, 115, 101] : List UInt8)) () hm ?_;exact ls
        ·rw [iN h8] at hm;refine ag rfl (nB h8) ?_;refine am [12] ?_
         by_cases h9 : p1 = ([101, 113] : List UInt8)
         ·rw [iP h9] at hm;refine ae rfl (eQ h9) ?_;refine ak ?_;refine ah (p1 == ([101, 113] : List UInt8)) () hm ?_;exact ls
         ·rw [iN h9] at hm;refine ag rfl (nB h9) ?_;refine am [13] ?_
          by_cases h10 : p1 = ([102, 97, 108, 115, 101] : List UInt8)
          ·rw [iP h10] at hm;refine ae rfl (eQ h10) ?_;refine ak ?_;refine ah (p1 == ([102, 97, 108, 115, 101] : List UInt8)) () hm ?_;exact ls
          ·rw [iN h10] at hm;refine ag rfl (nB h10) ?_;refine am [14] ?_
           by_cases h11 : p1 = ([102, 105, 108, 108] : List UInt8)
           ·rw [iP h11] at hm;refine ae rfl (eQ h11) ?_;refine ak ?_;refine ah (p1 == ([102, 105, 108, 108] : List UInt8)) () hm ?_;exact ls
           ·rw [iN h11] at hm;refine ag rfl (nB h11) ?_;refine am [15] ?_
            by_cases h12 : p1 = ([102, 111, 108, 100] : List UInt8)
            ·rw [iP h12] at hm;refine ae rfl (eQ h12) ?_;refine ak ?_;refine ah (p1 == ([102, 111, 108, 100] : List UInt8)) () hm ?_;exact ls
            ·rw [iN h12] at hm;refine ag rfl (nB h12) ?_;refine am [16] ?_
             by_cases h13 : p1 = ([105, 102] : List UInt8)
             ·rw [iP h13] at hm;refine ae rfl (eQ h13) ?_;refine ak ?_;refine ah (p1 == ([105, 102] : List UInt8)) () hm ?_;exact ls
             ·rw [iN h13] at hm;refine ag rfl (nB h13) ?_;refine am [17] ?_
              by_cases h14 : p1 = ([105, 110, 116] : List UInt8)
              ·rw [iP h14] at hm;refine ae rfl (eQ h14) ?_;refine ak ?_;refine ah (p1 == ([105, 110, 116] : List UInt8)) () hm ?_;exact ls
              ·rw [iN h14] at hm;refine ag rfl (nB h14) ?_;refine am [18] ?_
               by_cases h15 : p1 = ([108, 101, 115, 115] : List UInt8)
               ·rw [iP h15] at hm;refine ae rfl (eQ h15) ?_;refine ak ?_;refine ah (p1 == ([108, 101, 115, 115] : List UInt8)) () hm ?_;exact ls
               ·rw [iN h15] at hm;refine ag rfl (nB h15) ?_;refine am [19] ?_
                by_cases h16 : p1 = ([109, 97, 112] : List UInt8)
                ·rw [iP h16] at hm;refine ae rfl (eQ h16) ?_;refine ak ?_;refine ah (p1 == ([109, 97, 112] : List UInt8)) () hm ?_;exact ls
                ·rw [iN h16] at hm;refine ag rfl (nB h16) ?_;refine am [20] ?_
                 by_cases h17 : p1 = ([109, 97, 120] : List UInt8)
                 ·rw [iP h17] at hm;refine ae rfl (eQ h17) ?_;refine ak ?_;refine ah (p1 == ([109, 97, 120] : List UInt8)) () hm ?_;exact ls
                 ·rw [iN h17] at hm;refine ag rfl (nB h17) ?_;refine am [21] ?_
                  by_cases h18 : p1 = ([109, 105, 110] : List UInt8)
                  ·rw [iP h18] at hm;refine ae rfl (eQ h18) ?_;refine ak ?_;refine ah (p1 == ([109, 105, 110] : List UInt8)) () hm ?_;exact ls
                  ·rw [iN h18] at hm;refine ag rfl (nB h18) ?_;refine am [22] ?_
                   by_cases h19 : p1 = ([109, 111, 100] : List UInt8)
                   ·rw [iP h19] at hm;refine ae rfl (eQ h19) ?_;refine ak ?_;refine ah (p1 == ([109, 111, 100] : List UInt8)) () hm ?_;exact ls
                   ·rw [iN h19] at hm;refine ag rfl (nB h19) ?_;refine am [23] ?_
                    by_cases h20 : p1 = ([109, 117, 108] : List UInt8)
                    ·rw [iP h20] at hm;refine ae rfl (eQ h20) ?_;refine ak ?_;refine ah (p1 == ([109, 117, 108] : List UInt8)) () hm ?_;exact ls
                    ·rw [iN h20] at hm;refine ag rfl (nB h20) ?_;refine am [24] ?_
                     by_cases h21 : p1 = ([110, 101, 103] : List UInt8)
                     ·rw [iP h21] at hm;refine ae rfl (eQ h21) ?_;refine ak ?_;refine ah (p1 == ([110, 101, 103] : List UInt8)) () hm ?_;exact ls
                     ·rw [iN h21] at hm;refine ag rfl (nB h21) ?_;refine am [25] ?_
                      by_cases h22 : p1 = ([110, 111, 100, 101] : List UInt8)
                      ·rw [iP h22] at hm;refine ae rfl (eQ h22) ?_;refine ak ?_;refine ah (p1 == ([110, 111, 100, 101] : List UInt8)) () hm ?_;exact ls
                      ·rw [iN h22] at hm;refine ag rfl (nB h22) ?_;refine am [26] ?_
                       by_cases h23 : p1 = ([110, 111, 116] : List UInt8)
                       ·rw [iP h23] at hm;refine ae rfl (eQ h23) ?_;refine ak ?_;refine ah (p1 == ([110, 111, 116] : List UInt8)) () hm ?_;exact ls
                       ·rw [iN h23] at hm;refine ag rfl (nB h23) ?_;refine am [27] ?_
                        by_cases h24 : p1 = ([111, 114] : List UInt8)
                        ·rw [iP h24] at hm;refine ae rfl (eQ h24) ?_;refine ak ?_;refine ah (p1 == ([111, 114] : List UInt8)) () hm ?_;exact ls
                        ·rw [iN h24] at hm;refine ag rfl (nB h24) ?_;refine am [28] ?_
                         by_cases h25 : p1 = ([112, 114, 101] : List UInt8)
                         ·rw [iP h25] at hm;refine ae rfl (eQ h25) ?_;refine ak ?_;refine ah (p1 == ([112, 114, 101] : List UInt8)) () hm ?_;exact ls
                         ·rw [iN h25] at hm;refine ag rfl (nB h25) ?_;refine am [29] ?_
                          by_cases h26 : p1 = ([115, 99, 97, 110] : List UInt8)
                          ·rw [iP h26] at hm;refine ae rfl (eQ h26) ?_;refine ak ?_;refine ah (p1 == ([115, 99, 97, 110] : List UInt8)) () hm ?_;exact ls
                          ·rw [iN h26] at hm;refine ag rfl (nB h26) ?_;refine am [30] ?_
                           by_cases h27 : p1 = ([115, 108, 105, 99, 101] : List UInt8)
                           ·rw [iP h27] at hm;refine ae rfl (eQ h27) ?_;refine ak ?_;refine ah (p1 == ([115, 108, 105, 99, 101] : List UInt8)) () hm ?_;exact ls
                           ·rw [iN h27] at hm;refine ag rfl (nB h27) ?_;refine am [31] ?_
                            by_cases h28 : p1 = ([115, 117, 98] : List UInt8)
                            ·rw [iP h28] at hm;refine ae rfl (eQ h28) ?_;refine ak ?_;refine ah (p1 == ([115, 117, 98] : List UInt8)) () hm ?_;exact ls
                            ·rw [iN h28] at hm;refine ag rfl (nB h28) ?_;refine am [32] ?_
                             by_cases h29 : p1 = ([116, 104, 101, 110] : List UInt8)
                             ·rw [iP h29] at hm;refine ae rfl (eQ h29) ?_;refine ak ?_;refine ah (p1 == ([116, 104, 101, 110] : List UInt8)) () hm ?_;exact ls
                             ·rw [iN h29] at hm;refine ag rfl (nB h29) ?_;refine am [33] ?_
                              by_cases h30 : p1 = ([116, 114, 117, 101] : List UInt8)
                              ·rw [iP h30] at hm;refine ae rfl (eQ h30) ?_;refine ak ?_;refine ah (p1 == ([116, 114, 117, 101] : List UInt8)) () hm ?_;exact ls
                              ·rw [iN h30] at hm;refine ag rfl (nB h30) ?_;refine am [34] ?_
                               by_cases h31 : p1 = ([118, 97, 114] : List UInt8)
                               ·rw [iP h31] at hm;refine ae rfl (eQ h31) ?_;refine ak ?_;refine ah (p1 == ([118, 97, 114] : List UInt8)) () hm ?_;exact ls
                               ·rw [iN h31] at hm;refine ag rfl (nB h31) ?_;refine am [35] ?_
                                by_cases h32 : p1 = ([119, 105, 116, 104] : List UInt8)
                                ·rw [iP h32] at hm;refine ae rfl (eQ h32) ?_;refine ak ?_;refine ah (p1 == ([119, 105, 116, 104] : List UInt8)) () hm ?_;exact ls
                                ·rw [iN h32] at hm;refine ag rfl (nB h32) ?_;refine aR ?_;refine ah (p1 == ([120, 111, 114] : List UInt8)) () hm ?_;exact ls
 ·rintro b1 _ hm;replace hm : ao b1 = some r := hm;refine bl ?_;unfold ao at hm
  by_cases h1 : b1 = true
  ·rw [iP h1] at hm;refine ae rfl (h1) ?_;refine am [4] ?_;refine ax ?_;refine ar (aB ?_)
   cases hm
   exact kr 0
  ·rw [iN h1] at hm;refine ag rfl (fB h1) ?_;refine ak ?_;refine af ?_;refine aw (hk1 _ _ ?_);refine am [4] ?_;refine ax ?_
   cases hm
   exact kr 0
theorem dR (p1 : List UInt8) (p2 : Int) (p3 : List aa) (v1_ : Nat) (r : Int) (hm : bG p1 p2 p3 = some r) : gI Tryd.prog 14 [.c (.optr 0 0)] [.box [.str p1, .int .i64 p2, .osl 1 v1_ 0 p3.length], .arr 4 v1_ 31 (p3.map aa.enc)] (fun p σ => (p = .t [] ∧ σ = [.box [.str p1, .int .i64 r, .osl 1 v1_ 0 p3.length], .arr 4 v1_ 31 (p3.map aa.enc)])) (fun _ _ => False) := by
 refine aQ 44 [] Tryd.func14 rfl rfl rfl (by kernel_rfl) (by simp) ?_;refine c8 ?_;unfold bG at hm;refine am [] ?_;refine aH ?_;obtain ⟨o1, hl1, hm1⟩ := bd hm;refine cG (S := (Int × Bool)) (V := Unit) (O := Int) [2, 3, 4, 5, 6, 7, 8, 9, 10, 11, 12, 13, 14, 15, 16, 17, 18, 19, 20, 21, 22, 23, 24, 25, 26, 27, 28, 29, 30, 31, 32, 33, 34, 35, 36, 37, 38, 39, 40, 41, 42, 43] (fun (x5, b6) _ => [(2, .c (.bool b6))]) (fun (x5, b6) _ => [.box [.str p1, .int .i64 x5, .osl 1 v1_ 0 p3.length], .arr 4 v1_ 31 (p3.map aa.enc)]) _ _ () hl1 ?_ ?_
 ·exact ls
 ·rintro ⟨x5, b6⟩ _ r1 hm hr1;replace hm : aD p1 x5 b6 = some r1 := hm;refine bl ?_;unfold aD at hm;refine az fun k1 hk1 => ?_;refine mA [4, 5, 6, 7, 8, 9, 10, 11, 12] [0, 1, 3, 7, 0, 16, 48, 112, 240, 511] [false, false, false, false, false, false, false, false, false, true] ?_
  by_cases h1 : x5 < (p1.length : Int)
  ·rw [iP h1] at hm;refine ae rfl (dT h1) ?_;refine ak ?_;refine aw (hk1 _ _ ?_);refine aH ?_;refine aV (S := Bool) (V := Unit) [2, 3, 13, 14, 15, 16, 17, 18, 19, 20, 21, 22, 23, 24, 25, 26, 27, 28, 29, 30, 31, 32, 33, 34, 35, 36] (fun b7 _ => [(2, .c (.bool b7))]) (fun b7 _ => [.box [.str p1, .int .i64 x5, .osl 1 v1_ 0 p3.length], .arr 4 v1_ 31 (p3.map aa.enc)]) (fun b7 => aP x5 b7 = some r1) ?_ ?_
   ·skip;obtain ⟨hg2a, hm⟩ := gd hm
    refine mA [13, 14, 15, 16, 17, 18, 19, 20, 21, 22] [0, 1, 3, 7, 0, 16, 48, 112, 255, 511] [false, false, false, false, false, false, false, false, true, true] ?_;refine aH ?_;refine am [24, 25] ?_
    by_cases h3 : ((p1.getD x5.toNat 0).toNat : Int) = 10
    ·rw [iP h3] at hm;refine ae rfl (eQ h3) ?_;refine aR ?_;refine af ?_;refine ah false () hm ?_;exact ls
    ·rw [iN h3] at hm;refine ag rfl (nB h3) ?_;refine aV (S := Bool) (V := Unit) [23, 26, 27, 28, 29, 30, 31, 32, 33] (fun b8 _ => [(26, .c (.bool b8))]) (fun b8 _ => [.box [.str p1, .int .i64 x5, .osl 1 v1_ 0 p3.length], .arr 4 v1_ 31 (p3.map aa.enc)]) (fun b8 => aK p1 x5 b6 b8 = some r1) ?_ ?_
     ·skip;refine am [23, 27] ?_
      by_cases h7 : b6 = true
      ·rw [iP h7] at hm;refine ae rfl (h7) ?_;refine ak ?_;refine ah b6 () hm ?_;exact ls
      ·rw [iN h7] at hm;refine ag rfl (fB h7) ?_;refine am [28, 29] ?_
       by_cases h8 : ((p1.getD x5.toNat 0).toNat : Int) = 32
       ·rw [iP h8] at hm;refine ae rfl (eQ h8) ?_;refine ak ?_;refine ah (((p1.getD x5.toNat 0).toNat : Int) == 32) () hm ?_;exact ls
       ·rw [iN h8] at hm;refine ag rfl (nB h8) ?_;refine am [30, 31] ?_
        by_cases h9 : ((p1.getD x5.toNat 0).toNat : Int) = 9
        ·rw [iP h9] at hm;refine ae rfl (eQ h9) ?_;refine ak ?_;refine ah (((p1.getD x5.toNat 0).toNat : Int) == 9) () hm ?_;exact ls
        ·rw [iN h9] at hm;refine ag rfl (nB h9) ?_;refine aR ?_;refine ah (((p1.getD x5.toNat 0).toNat : Int) == 13) () hm ?_;exact ls
     ·rintro b8 _ hm;replace hm : aK p1 x5 b6 b8 = some r1 := hm;refine bl ?_;unfold aK at hm
      by_cases h4 : b8 = true
      ·rw [iP h4] at hm;refine ae rfl (h4) ?_;refine ak ?_;refine af ?_;refine ah b6 () hm ?_;exact ls
      ·rw [iN h4] at hm;refine ag rfl (fB h4) ?_;refine am [2, 3, 26, 35, 36] ?_
       by_cases h5 : ((p1.getD x5.toNat 0).toNat : Int) = 35
       ·rw [iP h5] at hm;refine ae rfl (eQ h5) ?_;refine aR ?_;refine af ?_;refine ah true () hm ?_;exact ls
       ·rw [iN h5] at hm;refine ag rfl (nB h5) ?_;have ho6 := aO hm hr1;subst ho6;replace hm : some x5 = some r := hm1;refine ax ?_;refine ar (aF (ar (bt (ar ?_))))
        cases hm
        exact kr 2
   ·rintro b7 _ hm;replace hm : aP x5 b7 = some r1 := hm;refine bl ?_;unfold aP at hm;refine aR ?_;refine af ?_;refine an ((IntKind.wrap .i64 (x5 + 1)), b7) () hm ?_;exact ls
  ·rw [iN h1] at hm;refine ag rfl (dF h1) ?_;refine cQ ?_;have ho10 := aO hm hr1;subst ho10;replace hm : some x5 = some r := hm1;refine cx (bB (aN ?_))
   cases hm
   exact kn 2
theorem dx (p1 : Int) (r : Bool) (hm : cy p1 = some r) : bU Tryd.prog 21 [.c (.int .u8 p1)] (.c (.bool r)) := by
 refine aQ 9 [.tmp 2] Tryd.func21 rfl rfl rfl (by kernel_rfl) (by simp) ?_;refine c8 ?_;unfold cy at hm;refine am [2] ?_
 by_cases h1 : p1 ≥ 97
 ·rw [iP h1] at hm;have h1b := dT h1;refine eR h1b [0, 3, 4, 5, 6, 7, 8] ?_;refine ax ?_
  cases hm
  exact kr 0
 ·rw [iN h1] at hm;have h1b := dF h1;refine eR h1b [0, 3, 4, 5, 6, 7, 8] ?_;refine ax ?_
  cases hm
  exact kr 0
theorem dS (p1 : Int) (r : Bool) (hm : cM p1 = some r) : bU Tryd.prog 22 [.c (.int .u8 p1)] (.c (.bool r)) := by
 refine aQ 9 [.tmp 2] Tryd.func22 rfl rfl rfl (by kernel_rfl) (by simp) ?_;refine c8 ?_;unfold cM at hm;refine am [2] ?_
 by_cases h1 : p1 ≥ 48
 ·rw [iP h1] at hm;have h1b := dT h1;refine eR h1b [0, 3, 4, 5, 6, 7, 8] ?_;refine ax ?_
  cases hm
  exact kr 0
 ·rw [iN h1] at hm;have h1b := dF h1;refine eR h1b [0, 3, 4, 5, 6, 7, 8] ?_;refine ax ?_
  cases hm
  exact kr 0
theorem el (p1 : List UInt8) (p2 : Int) (p3 : List aa) (v1_ : Nat) (r : ((List UInt8) × Int)) (hm : bf p1 p2 p3 = some r) : gI Tryd.prog 23 [.c (.optr 0 0)] [.box [.str p1, .int .i64 p2, .osl 1 v1_ 0 p3.length], .arr 4 v1_ 31 (p3.map aa.enc)] (fun p σ => (p = .c (.str r.1) ∧ σ = [.box [.str p1, .int .i64 r.2, .osl 1 v1_ 0 p3.length], .arr 4 v1_ 31 (p3.map aa.enc)])) (fun _ _ => False) := by
 refine aQ 59 [.tmp 2] Tryd.func23 rfl rfl rfl (by kernel_rfl) (by simp) ?_;refine c8 ?_;unfold bf at hm;refine am [2] ?_;refine am [4, 5, 6, 7] ?_;refine aV (S := Int) (V := Unit) [8, 9, 10, 11, 12, 13, 14, 15, 16, 17, 18, 19, 20, 21, 22, 23, 24, 25, 26, 27, 28, 29, 30, 31, 32, 33, 34, 35, 36, 37, 38, 39, 40, 41, 42, 43, 44, 45, 46, 47, 48] (fun x1 _ => []) (fun x1 _ => [.box [.str p1, .int .i64 x1, .osl 1 v1_ 0 p3.length], .arr 4 v1_ 31 (p3.map aa.enc)]) (fun x1 => aX p1 p2 x1 = some r) ?_ ?_
 ·skip;refine aH ?_
  obtain ⟨o1, hl1, hm1⟩ := bd hm;refine cG (S := Int) (V := Unit) (O := Int) [8, 9, 10, 11, 12, 13, 14, 15, 16, 17, 18, 19, 20, 21, 22, 23, 24, 25, 26, 27, 28, 29, 30, 31, 32, 33, 34, 35, 36, 37, 38, 39, 40, 41, 42, 43, 44, 45, 46, 47, 48] (fun x4 _ => []) (fun x4 _ => [.box [.str p1, .int .i64 x4, .osl 1 v1_ 0 p3.length], .arr 4 v1_ 31 (p3.map aa.enc)]) _ _ () hl1 ?_ ?_
  ·exact ls
  ·rintro x4 _ r1 hm hr1;replace hm : aY p1 x4 = some r1 := hm;refine bl ?_;unfold aY at hm;refine aV (S := Unit) (V := Unit) [8, 9, 10, 11, 12, 13, 14, 15, 16, 17, 18, 19, 20, 21, 22, 23, 24, 25, 26, 27, 28, 29, 30, 31, 32, 33, 34, 35, 36, 37, 38, 39, 40, 41] (fun _ _ => []) (fun _ _ => [.box [.str p1, .int .i64 x4, .osl 1 v1_ 0 p3.length], .arr 4 v1_ 31 (p3.map aa.enc)]) (fun _ => bu x4 = some r1) ?_ ?_
   ·skip;refine j7 [8, 9, 10, 11, 12, 13, 14, 15, 16, 17, 18, 19, 20, 21, 22, 23, 24, 25, 26, 27, 28, 29, 30, 31, 32, 33, 34, 35, 36, 37, 38, 39, 40] (by kernel_rfl) [0, 1, 3, 7, 0, 16, 48, 112, 240, 511, 1023, 2047, 4095, 8191, 16383, 2047, 34815, 100351, 231423, 524287, 1048575, 2097151, 4194303, 8388607, 16777215, 33554431, 4194303, 71303167, 205520895, 473956351, 1073741823, 2147483647, 4294967295, 8589934591] [false, false, false, false, false, false, false, false, false, true, true, false, false, false, false, false, false, false, false, true, true, true, false, false, false, false, false, false, false, false, true, true, true, true] (by kernel_rfl) fun k hk => ?_
    refine mB 11 rfl ?_;simp (maxSteps := 3000000) only [bA, bT, tab, bX, reduceIte, ↓reduceIte, reduceCtorEq, Int.reduceToNat, Nat.reduceDiv, Nat.reduceMod, Nat.reduceLT, Nat.reduceLeDiff, Nat.reduceAdd, Nat.reduceSub, Nat.reduceMul, Nat.reduceEqDiff, Nat.reduceBEq, Nat.reduceBNe, Nat.reduceGT]
    repeat refine sd ?_
    by_cases h2 : x4 < (p1.length : Int)
    ·rw [iP h2] at hm;have h2b := dT h2;obtain ⟨hg3a, hm⟩ := gd hm;refine fY ?_;simp (maxSteps := 3000000) only [bA, bT, tab, bX, reduceIte, ↓reduceIte, reduceCtorEq, Int.reduceToNat, Nat.reduceDiv, Nat.reduceMod, Nat.reduceLT, Nat.reduceLeDiff, Nat.reduceAdd, Nat.reduceSub, Nat.reduceMul, Nat.reduceEqDiff, Nat.reduceBEq, Nat.reduceBNe, Nat.reduceGT, h2b]
     repeat refine sd ?_
     obtain ⟨y5, hc4, hm⟩ := bd hm;refine pat (fun _ => dx ((p1.getD x4.toNat 0).toNat : Int) _ hc4) ?_
     by_cases h5 : y5 = true
     ·rw [iP h5] at hm;have h5b := h5;refine fY ?_;simp (maxSteps := 3000000) only [bA, bT, tab, bX, reduceIte, ↓reduceIte, reduceCtorEq, Int.reduceToNat, Nat.reduceDiv, Nat.reduceMod, Nat.reduceLT, Nat.reduceLeDiff, Nat.reduceAdd, Nat.reduceSub, Nat.reduceMul, Nat.reduceEqDiff, Nat.reduceBEq, Nat.reduceBNe, Nat.reduceGT, (a2 h2b h5b)]
      repeat refine sd ?_
      refine hk _ _ ?_;clear hk k;refine ae rfl rfl ?_;refine ak ?_;refine ah () () hm ?_;exact la
     ·rw [iN h5] at hm;have h5b := fB h5;refine fY ?_;simp (maxSteps := 3000000) only [bA, bT, tab, bX, reduceIte, ↓reduceIte, reduceCtorEq, Int.reduceToNat, Nat.reduceDiv, Nat.reduceMod, Nat.reduceLT, Nat.reduceLeDiff, Nat.reduceAdd, Nat.reduceSub, Nat.reduceMul, Nat.reduceEqDiff, Nat.reduceBEq, Nat.reduceBNe, Nat.reduceGT, (a2 h2b h5b)]
      repeat refine sd ?_
      obtain ⟨y6, hc6, hm⟩ := bd hm;refine pat (fun _ => dS ((p1.getD x4.toNat 0).toNat : Int) _ hc6) ?_;refine fY ?_;simp (maxSteps := 3000000) only [bA, bT, tab, bX, reduceIte, ↓reduceIte, reduceCtorEq, Int.reduceToNat, Nat.reduceDiv, Nat.reduceMod, Nat.reduceLT, Nat.reduceLeDiff, Nat.reduceAdd, Nat.reduceSub, Nat.reduceMul, Nat.reduceEqDiff, Nat.reduceBEq, Nat.reduceBNe, Nat.reduceGT, (a2 h2b h5b)]
      repeat refine sd ?_
      refine hk _ _ ?_;clear hk k
      by_cases h7 : y6 = true
      ·rw [iP h7] at hm;refine ae rfl (h7) ?_;refine ak ?_;refine ah () () hm ?_;exact la
      ·rw [iN h7] at hm;refine ag rfl (fB h7) ?_;refine cQ ?_;have ho8 := aO hm hr1;subst ho8;replace hm : aX p1 p2 x4 = some r := hm1;refine kv (bB (aN ?_));refine ah x4 () hm ?_;exact la
    ·rw [iN h2] at hm;have h2b := dF h2;refine fY ?_;simp (maxSteps := 3000000) only [bA, bT, tab, bX, reduceIte, ↓reduceIte, reduceCtorEq, Int.reduceToNat, Nat.reduceDiv, Nat.reduceMod, Nat.reduceLT, Nat.reduceLeDiff, Nat.reduceAdd, Nat.reduceSub, Nat.reduceMul, Nat.reduceEqDiff, Nat.reduceBEq, Nat.reduceBNe, Nat.reduceGT, h2b]
     repeat refine sd ?_
     refine hk _ _ ?_;clear hk k;refine ag rfl rfl ?_;refine cQ ?_;have ho9 := aO hm hr1;subst ho9;replace hm : aX p1 p2 x4 = some r := hm1;refine kv (bB (aN ?_));refine ah x4 () hm ?_;exact ls
   ·rintro _ _ hm;replace hm : bu x4 = some r1 := hm;refine bl ?_;unfold bu at hm;refine aH ?_;refine aR ?_;refine af ?_;refine an (IntKind.wrap .i64 (x4 + 1)) () hm ?_;exact ls
 ·rintro x1 _ hm;replace hm : aX p1 p2 x1 = some r := hm;refine bl ?_;unfold aX at hm;obtain ⟨hg1a, hm⟩ := gd hm;refine mA [0, 3, 49, 50, 51, 52, 53, 54, 55, 56, 57, 58] [0, 1, 3, 7, 0, 0, 32, 96, 224, 511, 1023] [false, false, false, false, false, false, false, false, false, true, true] ?_;refine ax ?_
  cases hm
  exact kr 2
theorem gr (p1 : List UInt8) (p2 p3 : Int) (r : Int) (hm : dk p1 p2 p3 = some r) : bU Tryd.prog 26 [.c (.str p1), .c (.int .i64 p2), .c (.int .i64 p3)] (.t [.c (.int .i64 r), .c (.nili)]) := by
 unfold dk at hm;obtain ⟨⟨rfl, rfl⟩, hm⟩ := gd hm;exact kZ lb rfl ⟨_, Tryd.func26, rfl, by kernel_rfl⟩ p1 r hm
theorem iH (p1 : List UInt8) (r : (Int × Bool)) (hm : dl p1 = some r) : bU Tryd.prog 24 [.c (.str p1)] (.t [.c (.int .i64 r.1), .c (.bool r.2)]) := by
 refine aQ 39 [.tmp 2, .tmp 3] Tryd.func24 rfl rfl rfl (by kernel_rfl) (by simp) ?_;refine c8 ?_;unfold dl at hm;refine am [2, 3] ?_;refine aV (S := Unit) (V := Unit) [2, 3, 7, 8, 9, 10, 11, 12, 13, 14, 15, 16, 17, 18, 19] (fun _ _ => []) (fun _ _ => []) (fun _ => ca p1 = some r) ?_ ?_
 ·skip;refine cR [7, 8, 9, 10, 11, 12, 13, 14, 15, 16, 17, 18] fun k kp hk hp => ?_
  refine ai 4 ?_;refine go ?_
  by_cases h8 : (p1.length : Int) > 18
  ·rw [iP h8] at hm;have h8b := dT h8;refine ab ?_;refine gox h8b ?_;refine hk _ _ ?_;clear hk hp k kp;refine ae rfl rfl ?_;refine am [0, 19] ?_;refine ax ?_;refine aF ?_
   cases hm
   exact kr 0
  ·rw [iN h8] at hm;have h8b := dF h8;refine ai 4 ?_;refine gox h8b ?_
   by_cases h9 : (p1.length : Int) > 1
   ·rw [iP h9] at hm;have h9b := dT h9;obtain ⟨hg10a, hm⟩ := gd hm;refine ab ?_;refine gox (a2 h8b h9b) ?_;refine hk _ _ ?_;clear hk hp k kp
    by_cases h11 : ((p1.getD 0 0).toNat : Int) = 48
    ·rw [iP h11] at hm;refine ae rfl (eQ h11) ?_;refine am [0, 19] ?_;refine ax ?_;refine aF ?_
     cases hm
     exact kr 0
    ·rw [iN h11] at hm;refine ag rfl (nB h11) ?_;refine ak ?_;refine ah () () hm ?_;exact ls
   ·rw [iN h9] at hm;have h9b := dF h9;refine ab ?_;refine gox (a2 h8b h9b) ?_;refine hk _ _ ?_;clear hk hp k kp;refine ag rfl rfl ?_;refine ak ?_;refine ah () () hm ?_;exact ls
 ·rintro _ _ hm;replace hm : ca p1 = some r := hm;refine bl ?_;unfold ca at hm;refine aV (S := Unit) (V := Unit) [2, 3, 4, 20, 21, 22, 23, 24, 25, 26, 27, 28, 29, 30] (fun _ _ => []) (fun _ _ => []) (fun _ => co p1 = some r) ?_ ?_
  ·skip;refine am [20] ?_
   refine aH ?_;obtain ⟨o1, hl1, hm1⟩ := bd hm;refine cG (S := Int) (V := Unit) (O := Unit ⊕ (Int × Bool)) [2, 3, 4, 22, 23, 24, 25, 26, 27, 28, 29, 30] (fun x4 _ => [(22, .c (.int .i64 x4))]) (fun x4 _ => []) _ _ () hl1 ?_ ?_
   ·exact ls
   ·rintro x4 _ r1 hm hr1;replace hm : bH p1 x4 = some r1 := hm;refine bl ?_;unfold bH at hm;refine am [] ?_;refine az fun k1 hk1 => ?_
    by_cases h2 : x4 < (p1.length : Int)
    ·rw [iP h2] at hm;refine ae rfl (dT h2) ?_;refine ak ?_;refine aw (hk1 _ _ ?_);refine az fun k2 hk2 => ?_;refine aH ?_;refine am [23, 24] ?_;obtain ⟨hg3a, hm⟩ := gd hm;refine aI [4, 25, 26, 27, 28] fun k kp hk hp => ?_;refine go ?_;obtain ⟨y5, hc4, hm⟩ := bd hm;refine RP (fun _ => dS ((p1.getD x4.toNat 0).toNat : Int) _ hc4) ?_;refine ab ?_;refine go ?_;refine hk _ _ ?_;clear hk hp k kp
     by_cases h5 : y5 = true
     ·rw [iP h5] at hm;refine ag rfl (by rw [show y5 = true from (h5)]; rfl) ?_;refine ak ?_;refine af ?_;refine aw (hk2 _ _ ?_);refine aR ?_;refine an (IntKind.wrap .i64 (x4 + 1)) () hm ?_;exact ls
     ·rw [iN h5] at hm;refine ae rfl (by rw [show y5 = false from (fB h5)]; rfl) ?_;refine am [0, 21, 22, 29] ?_;have ho6 := aO hm hr1;subst ho6;replace hm : some (0, false) = some r := hm1;refine ax ?_;refine ar (aB (bt (ar (aF ?_))))
      cases hm
      exact kr 0
    ·rw [iN h2] at hm;refine ag rfl (dF h2) ?_;refine cQ ?_;have ho7 := aO hm hr1;subst ho7;replace hm : co p1 = some r := hm1;refine cx (bB (aN ?_));refine ah () () hm ?_;exact ls
  ·rintro _ _ hm;replace hm : co p1 = some r := hm;refine bl ?_;unfold co at hm;refine aI [0, 31, 32, 33, 34, 35] fun k kp hk hp => ?_;refine go ?_;obtain ⟨y1, hc1, hm⟩ := bd hm;refine RP (fun _ => gr p1 10 64 _ hc1) ?_;refine ab ?_;refine go ?_;refine hk _ _ ?_;clear hk hp k kp;refine ng [5, 6, 36, 37, 38] (by kernel_rfl) [] [0, 0, 2, 1, 15] [false, false, false, false, true] [false, false, false, false, false] [[], [], [], [], []] [false, false, true, false, false] (by kernel_rfl) fun k hk => ?_;refine nd 2 rfl rfl rfl rfl rfl ?_;refine gp ?_
   refine nf (mH rfl (by first | exact .inl rfl | exact .inr rfl) (by first | rfl | (simp only [bR, bT, tab, bX, reduceIte, ↓reduceIte, reduceCtorEq, Int.reduceToNat, Nat.reduceDiv, Nat.reduceMod, Nat.reduceLT, Nat.reduceLeDiff, Nat.reduceAdd, Nat.reduceSub, Nat.reduceMul, Nat.reduceEqDiff, Nat.reduceBEq, Nat.reduceBNe, Nat.reduceGT]; done)) (by first | kernel_rfl | exact of_decide_eq_true (by kernel_rfl))) (by first | rfl | (simp only [bA, bT, tab, bX, reduceIte, ↓reduceIte, reduceCtorEq, Int.reduceToNat, Nat.reduceDiv, Nat.reduceMod, Nat.reduceLT, Nat.reduceLeDiff, Nat.reduceAdd, Nat.reduceSub, Nat.reduceMul, Nat.reduceEqDiff, Nat.reduceBEq, Nat.reduceBNe, Nat.reduceGT]; done)) (by first | trivial | exact gR rfl) ?_
   refine gl ?_;refine lF rfl ?_;refine gp ?_;refine hk _ _ ?_;clear hk k;refine ax ?_
   cases hm
   exact kr 0
theorem dI (p1 : List UInt8) (p2 : List UInt8) (r : Bool) (hm : bb p1 p2 = some r) : bU Tryd.prog 30 [.c (.str p1), .c (.str p2)] (.c (.bool r)) := by
 refine aQ 18 [.tmp 4] Tryd.func30 rfl rfl rfl (by kernel_rfl) (by simp) ?_;refine c8 ?_;unfold bb at hm;refine am [4] ?_;refine cR [0, 1, 5, 6, 7, 8, 9, 10, 11, 12, 13, 14, 15, 16, 17] fun k kp hk hp => ?_;refine ai 6 ?_;refine go ?_
 by_cases h1 : (p1.length : Int) ≥ (p2.length : Int)
 ·rw [iP h1] at hm;have h1b := dT h1;obtain ⟨hg2a, hm⟩ := gd hm;refine ab ?_;refine gox h1b ?_;refine hk _ _ ?_;clear hk hp k kp;refine ax ?_
  cases hm
  exact kr 0
 ·rw [iN h1] at hm;have h1b := dF h1;refine ab ?_;refine gox h1b ?_;refine hk _ _ ?_;clear hk hp k kp;refine ax ?_
  cases hm
  exact kr 0
theorem f6 (p1 : List UInt8) (p2 : List UInt8) (r : Bool) (hm : bC p1 p2 = some r) : bU Tryd.prog 27 [.c (.str p1), .c (.str p2)] (.c (.bool r)) := by
 refine aQ 8 [.tmp 4] Tryd.func27 rfl rfl rfl (by kernel_rfl) (by simp) ?_;refine c8 ?_;unfold bC at hm;refine am [4] ?_;refine aI [0, 1, 5, 6, 7] fun k kp hk hp => ?_;refine go ?_;obtain ⟨y1, hc1, hm⟩ := bd hm;refine RP (fun _ => dI p1 p2 _ hc1) ?_;refine ab ?_;refine go ?_;refine hk _ _ ?_;clear hk hp k kp;refine ax ?_
 cases hm
 exact kr 0
theorem fN (p1 : List UInt8) (p2 : Int) (p3 : List aa) (v1_ : Nat) (r : (List UInt8)) (hm : bN p1 p2 p3 = some r) : gI Tryd.prog 25 [.c (.optr 0 0)] [.box [.str p1, .int .i64 p2, .osl 1 v1_ 0 p3.length], .arr 4 v1_ 31 (p3.map aa.enc)] (fun p σ => (p = .c (.str r) ∧ σ = [.box [.str p1, .int .i64 p2, .osl 1 v1_ 0 p3.length], .arr 4 v1_ 31 (p3.map aa.enc)])) (fun _ _ => False) := by
 refine aQ 57 [.tmp 2] Tryd.func25 rfl rfl rfl (by kernel_rfl) (by simp) ?_;refine c8 ?_;unfold bN at hm;refine am [2] ?_;refine aV (S := Unit) (V := Unit) [2, 4, 6, 7, 8, 9, 10, 11, 12, 13, 14, 15, 16, 17, 18, 19, 20, 21, 22, 23, 24] (fun _ _ => []) (fun _ _ => [.box [.str p1, .int .i64 p2, .osl 1 v1_ 0 p3.length], .arr 4 v1_ 31 (p3.map aa.enc)]) (fun _ => bh p1 p2 = some r) ?_ ?_
 ·skip;refine am [] ?_
  refine bm [.box [.str p1, .int .i64 p2, .osl 1 v1_ 0 p3.length], .arr 4 v1_ 31 (p3.map aa.enc), .arr 1 0 9 ((lit ([([61, 61] : List UInt8), ([45, 62] : List UInt8)] : List (List UInt8))).map eS)] ?_;refine aH ?_;obtain ⟨o1, hl1, hm1⟩ := bd hm;refine cG (S := Int) (V := Unit) (O := Unit ⊕ (List UInt8)) [2, 4, 6, 8, 9, 10, 11, 12, 13, 14, 15, 16, 17, 18, 19, 20, 21, 22, 23, 24] (fun x4 _ => [(6, .c (.osl 2 0 0 2)), (8, .c (.int .i64 x4))]) (fun x4 _ => [.box [.str p1, .int .i64 p2, .osl 1 v1_ 0 p3.length], .arr 4 v1_ 31 (p3.map aa.enc), .arr 1 0 9 ((lit ([([61, 61] : List UInt8), ([45, 62] : List UInt8)] : List (List UInt8))).map eS)]) _ _ () hl1 ?_ ?_
  ·exact ls
  ·rintro x4 _ r1 hm hr1;replace hm : aJ p1 p2 x4 = some r1 := hm;refine bl ?_;unfold aJ at hm;refine am [] ?_;refine az fun k2 hk2 => ?_
   by_cases h21 : x4 < (2 : Int)
   ·rw [iP h21] at hm;refine ae rfl (dT h21) ?_;refine ak ?_;refine aw (hk2 _ _ ?_);refine az fun k3 hk3 => ?_;refine aH ?_;obtain ⟨hg22a, hm⟩ := gd hm;refine eR (em eS (lit ([([61, 61] : List UInt8), ([45, 62] : List UInt8)] : List (List UInt8))) x4.toNat) [9, 10, 11] ?_;obtain ⟨hg23a, hm⟩ := gd hm;refine kW [12, 13, 14, 15, 16, 17, 18, 19, 20, 21] (by kernel_rfl) [0, 1, 3, 7, 0, 16, 48, 112, 255, 0, 1023] [false, false, false, false, false, false, false, false, false, false, true] (by kernel_rfl) fun k hk => ?_;refine ga ?_;obtain ⟨y5, hc24, hm⟩ := bd hm;refine AP (fun _ => f6 (p1.drop p2.toNat) ((lit ([([61, 61] : List UInt8), ([45, 62] : List UInt8)] : List (List UInt8))).getD x4.toNat default) _ hc24) ?_;refine ga ?_;refine hk _ _ ?_;clear hk k
    by_cases h25 : y5 = true
    ·rw [iP h25] at hm;refine ae rfl (h25) ?_;refine am [0, 4, 6, 7, 8, 22, 23] ?_;have ho26 := aO hm hr1;subst ho26;replace hm : some ((lit ([([61, 61] : List UInt8), ([45, 62] : List UInt8)] : List (List UInt8))).getD x4.toNat default) = some r := hm1;refine ax ?_;refine ar (aB (bt (ar (aF ?_))))
     cases hm
     exact kr 2
    ·rw [iN h25] at hm;refine ag rfl (fB h25) ?_;refine ak ?_;refine af ?_;refine aw (hk3 _ _ ?_);refine aR ?_;refine an (IntKind.wrap .i64 (x4 + 1)) () hm ?_;exact ls
   ·rw [iN h21] at hm;refine ag rfl (dF h21) ?_;refine cQ ?_;have ho27 := aO hm hr1;subst ho27;replace hm : bh p1 p2 = some r := hm1;refine cx (bB (aN ?_));refine ah () () hm ?_;exact ls
 ·rintro _ _ hm;replace hm : bh p1 p2 = some r := hm;refine bl ?_;unfold bh at hm;refine az fun k1 hk1 => ?_;obtain ⟨hg1a, hm⟩ := gd hm;refine mA [0, 25, 26, 27, 28, 29, 30, 31, 32, 33] [0, 1, 3, 7, 0, 16, 48, 112, 255, 511] [false, false, false, false, false, false, false, false, true, true] ?_;refine am [] ?_;refine aH ?_;refine aV (S := Bool) (V := Unit) [34, 35, 36, 37, 38, 39, 40, 41, 42, 43, 44, 45, 46, 47, 48, 49, 50, 51, 52, 53] (fun b1 _ => [(35, .c (.bool b1))]) (fun b1 _ => [.box [.str p1, .int .i64 p2, .osl 1 v1_ 0 p3.length], .arr 4 v1_ 31 (p3.map aa.enc)]) (fun b1 => aj p1 p2 b1 = some r) ?_ ?_
  ·skip;refine am [36] ?_
   by_cases h4 : ((p1.getD p2.toNat 0).toNat : Int) = 40
   ·rw [iP h4] at hm;refine ae rfl (eQ h4) ?_;refine ak ?_;refine ah (((p1.getD p2.toNat 0).toNat : Int) == 40) () hm ?_;exact ls
   ·rw [iN h4] at hm;refine ag rfl (nB h4) ?_;refine am [37] ?_
    by_cases h5 : ((p1.getD p2.toNat 0).toNat : Int) = 41
    ·rw [iP h5] at hm;refine ae rfl (eQ h5) ?_;refine ak ?_;refine ah (((p1.getD p2.toNat 0).toNat : Int) == 41) () hm ?_;exact ls
    ·rw [iN h5] at hm;refine ag rfl (nB h5) ?_;refine am [38] ?_
     by_cases h6 : ((p1.getD p2.toNat 0).toNat : Int) = 123
     ·rw [iP h6] at hm;refine ae rfl (eQ h6) ?_;refine ak ?_;refine ah (((p1.getD p2.toNat 0).toNat : Int) == 123) () hm ?_;exact ls
     ·rw [iN h6] at hm;refine ag rfl (nB h6) ?_;refine am [39] ?_
      by_cases h7 : ((p1.getD p2.toNat 0).toNat : Int) = 125
      ·rw [iP h7] at hm;refine ae rfl (eQ h7) ?_;refine ak ?_;refine ah (((p1.getD p2.toNat 0).toNat : Int) == 125) () hm ?_;exact ls
      ·rw [iN h7] at hm;refine ag rfl (nB h7) ?_;refine am [40] ?_
       by_cases h8 : ((p1.getD p2.toNat 0).toNat : Int) = 91
       ·rw [iP h8] at hm;refine ae rfl (eQ h8) ?_;refine ak ?_;refine ah (((p1.getD p2.toNat 0).toNat : Int) == 91) () hm ?_;exact ls
       ·rw [iN h8] at hm;refine ag rfl (nB h8) ?_;refine am [41] ?_
        by_cases h9 : ((p1.getD p2.toNat 0).toNat : Int) = 93
        ·rw [iP h9] at hm;refine ae rfl (eQ h9) ?_;refine ak ?_;refine ah (((p1.getD p2.toNat 0).toNat : Int) == 93) () hm ?_;exact ls
        ·rw [iN h9] at hm;refine ag rfl (nB h9) ?_;refine am [42] ?_
         by_cases h10 : ((p1.getD p2.toNat 0).toNat : Int) = 60
         ·rw [iP h10] at hm;refine ae rfl (eQ h10) ?_;refine ak ?_;refine ah (((p1.getD p2.toNat 0).toNat : Int) == 60) () hm ?_;exact ls
         ·rw [iN h10] at hm;refine ag rfl (nB h10) ?_;refine am [43] ?_
          by_cases h11 : ((p1.getD p2.toNat 0).toNat : Int) = 62
          ·rw [iP h11] at hm;refine ae rfl (eQ h11) ?_;refine ak ?_;refine ah (((p1.getD p2.toNat 0).toNat : Int) == 62) () hm ?_;exact ls
          ·rw [iN h11] at hm;refine ag rfl (nB h11) ?_;refine am [44] ?_
           by_cases h12 : ((p1.getD p2.toNat 0).toNat : Int) = 44
           ·rw [iP h12] at hm;refine ae rfl (eQ h12) ?_;refine ak ?_;refine ah (((p1.getD p2.toNat 0).toNat : Int) == 44) () hm ?_;exact ls
           ·rw [iN h12] at hm;refine ag rfl (nB h12) ?_;refine am [45] ?_
            by_cases h13 : ((p1.getD p2.toNat 0).toNat : Int) = 59
            ·rw [iP h13] at hm;refine ae rfl (eQ h13) ?_;refine ak ?_;refine ah (((p1.getD p2.toNat 0).toNat : Int) == 59) () hm ?_;exact ls
            ·rw [iN h13] at hm;refine ag rfl (nB h13) ?_;refine am [46] ?_
             by_cases h14 : ((p1.getD p2.toNat 0).toNat : Int) = 58
             ·rw [iP h14] at hm;refine ae rfl (eQ h14) ?_;refine ak ?_;refine ah (((p1.getD p2.toNat 0).toNat : Int) == 58) () hm ?_;exact ls
             ·rw [iN h14] at hm;refine ag rfl (nB h14) ?_;refine am [47] ?_
              by_cases h15 : ((p1.getD p2.toNat 0).toNat : Int) = 43
              ·rw [iP h15] at hm;refine ae rfl (eQ h15) ?_;refine ak ?_;refine ah (((p1.getD p2.toNat 0).toNat : Int) == 43) () hm ?_;exact ls
              ·rw [iN h15] at hm;refine ag rfl (nB h15) ?_;refine am [48] ?_
               by_cases h16 : ((p1.getD p2.toNat 0).toNat : Int) = 45
               ·rw [iP h16] at hm;refine ae rfl (eQ h16) ?_;refine ak ?_;refine ah (((p1.getD p2.toNat 0).toNat : Int) == 45) () hm ?_;exact ls
               ·rw [iN h16] at hm;refine ag rfl (nB h16) ?_;refine am [49] ?_
                by_cases h17 : ((p1.getD p2.toNat 0).toNat : Int) = 42
                ·rw [iP h17] at hm;refine ae rfl (eQ h17) ?_;refine ak ?_;refine ah (((p1.getD p2.toNat 0).toNat : Int) == 42) () hm ?_;exact ls
                ·rw [iN h17] at hm;refine ag rfl (nB h17) ?_;refine am [50] ?_
                 by_cases h18 : ((p1.getD p2.toNat 0).toNat : Int) = 47
                 ·rw [iP h18] at hm;refine ae rfl (eQ h18) ?_;refine ak ?_;refine ah (((p1.getD p2.toNat 0).toNat : Int) == 47) () hm ?_;exact ls
                 ·rw [iN h18] at hm;refine ag rfl (nB h18) ?_;refine am [51] ?_
                  by_cases h19 : ((p1.getD p2.toNat 0).toNat : Int) = 37
                  ·rw [iP h19] at hm;refine ae rfl (eQ h19) ?_;refine ak ?_;refine ah (((p1.getD p2.toNat 0).toNat : Int) == 37) () hm ?_;exact ls
                  ·rw [iN h19] at hm;refine ag rfl (nB h19) ?_;refine am [52] ?_
                   by_cases h20 : ((p1.getD p2.toNat 0).toNat : Int) = 61
                   ·rw [iP h20] at hm;refine ae rfl (eQ h20) ?_;refine ak ?_;refine ah (((p1.getD p2.toNat 0).toNat : Int) == 61) () hm ?_;exact ls
                   ·rw [iN h20] at hm;refine ag rfl (nB h20) ?_;refine aR ?_;refine ah (((p1.getD p2.toNat 0).toNat : Int) == 94) () hm ?_;exact ls
  ·rintro b1 _ hm;replace hm : aj p1 p2 b1 = some r := hm;refine bl ?_;unfold aj at hm
   by_cases h2 : b1 = true
   ·rw [iP h2] at hm;refine ae rfl (h2) ?_;obtain ⟨hg3a, hm⟩ := gd hm;refine cR [5, 35, 54, 55, 56] fun k kp hk hp => ?_;refine ai 2 ?_;refine go ?_
    refine RS (mG rfl (by first | rfl | (simp only [bR, bT, tab, bX, reduceIte, ↓reduceIte, reduceCtorEq, Int.reduceToNat, Nat.reduceDiv, Nat.reduceMod, Nat.reduceLT, Nat.reduceLeDiff, Nat.reduceAdd, Nat.reduceSub, Nat.reduceMul, Nat.reduceEqDiff, Nat.reduceBEq, Nat.reduceBNe, Nat.reduceGT]; done)) (by first | kernel_rfl | exact of_decide_eq_true (by kernel_rfl)) (by first | kernel_rfl | exact of_decide_eq_true (by kernel_rfl)) (by first | assumption | omega)) ?_
    simp only [bR, bT, tab, bX, reduceIte, ↓reduceIte, reduceCtorEq, Int.reduceToNat, Nat.reduceDiv, Nat.reduceMod, Nat.reduceLT, Nat.reduceLeDiff, Nat.reduceAdd, Nat.reduceSub, Nat.reduceMul, Nat.reduceEqDiff, Nat.reduceBEq, Nat.reduceBNe, Nat.reduceGT];refine ab ?_;refine go ?_;refine hk _ _ ?_;clear hk hp k kp;refine ax ?_;refine ar (aB ?_)
    cases hm
    exact kr 2
   ·rw [iN h2] at hm;refine ag rfl (fB h2) ?_;refine ak ?_;refine af ?_;refine aw (hk1 _ _ ?_);refine am [5, 35] ?_;refine ax ?_
    cases hm
    exact kr 2
theorem f7 (p1 : List UInt8) (p2 : Int) (p3 : List aa) (v1_ : Nat) (r : (Int × Int × (List aa))) (hm : bD p1 p2 p3 = some r) : gI Tryd.prog 15 [.c (.optr 0 0)] [.box [.str p1, .int .i64 p2, .osl 1 v1_ 0 p3.length], .arr 4 v1_ 31 (p3.map aa.enc)] (fun p σ => ∃ w1_, (p = .c (.int .i64 r.1) ∧ σ = [.box [.str p1, .int .i64 r.2.1, .osl 1 w1_ 0 r.2.2.length], .arr 4 w1_ 31 (r.2.2.map aa.enc)])) (fun _ _ => False) := by
 refine aQ 80 [.tmp 2] Tryd.func15 rfl rfl rfl (by kernel_rfl) (by simp) ?_;refine c8 ?_;unfold bD at hm;refine am [2] ?_;refine am [7, 8, 9, 10, 11] ?_;refine aV (S := (Int × Int × (List UInt8) × Int)) (V := Unit) [2, 4, 5, 6, 12, 13, 14, 15, 16, 17, 18, 19, 20, 21, 22, 23, 24, 25, 26, 27, 28, 29, 30, 31, 32, 33, 34, 35, 36, 37, 38, 39, 40, 41, 42, 43, 44, 45, 46, 47, 48, 49, 50, 51, 52, 53, 54, 55, 56, 57, 58, 59, 60, 61, 62, 63, 64, 65, 66, 67, 68, 69] (fun (x1, x2, s3, x4) _ => []) (fun (x1, x2, s3, x4) _ => [.box [.str p1, .int .i64 x1, .osl 1 v1_ 0 p3.length], .arr 4 v1_ 31 (p3.map aa.enc), .box [.int .i64 x2, .int .i64 p2, .str s3, .int .i64 x4]]) (fun (x1, x2, s3, x4) => ay p2 p3 x1 x2 s3 x4 = some r) ?_ ?_
 ·skip;obtain ⟨hg2a, hm⟩ := gd hm
  refine mA [12, 13, 14, 15, 16, 17, 18, 19, 20] [0, 1, 3, 7, 0, 16, 48, 112, 255, 511] [false, false, false, false, false, false, false, false, true, true] ?_;refine aH ?_;refine aI [39, 40] fun k kp hk hp => ?_;refine go ?_;obtain ⟨y5, hc3, hm⟩ := bd hm;refine RP (fun _ => dx ((p1.getD p2.toNat 0).toNat : Int) _ hc3) ?_;refine ab ?_;refine go ?_;refine hk _ _ ?_;clear hk hp k kp
  by_cases h4 : y5 = true
  ·rw [iP h4] at hm;refine ae rfl (h4) ?_;refine aI [4, 38, 41, 42, 43] fun k kp hk hp => ?_;refine go ?_;obtain ⟨y6, hc5, hm⟩ := bd hm;refine RA (el p1 p2 p3 v1_ _ hc5) [0, 1] ?_;rintro p σ' ⟨rfl, rfl⟩ _;refine ab ?_;refine go ?_;refine hk _ _ ?_;clear hk hp k kp;refine am [44] ?_;refine aI [45, 46] fun k kp hk hp => ?_;refine go ?_;obtain ⟨y7, hc7, hm⟩ := bd hm;refine RP (fun _ => ef y6.1 _ hc7) ?_;refine ab ?_;refine go ?_;refine hk _ _ ?_;clear hk hp k kp
   by_cases h8 : y7 = true
   ·rw [iP h8] at hm;refine ae rfl (h8) ?_;refine aR ?_;refine af ?_;refine ah (y6.2, 1, y6.1, 0) () hm ?_;exact ls
   ·rw [iN h8] at hm;refine ag rfl (fB h8) ?_;refine am [47, 49, 50, 51] ?_
    by_cases h9 : (y6.1.length : Int) > 12
    ·rw [iP h9] at hm;refine ae rfl (dT h9) ?_;refine am [0, 3, 52] ?_;refine ax ?_;refine ar (aF ?_)
     cases hm
     exact kr 2
    ·rw [iN h9] at hm;refine ag rfl (dF h9) ?_;refine ak ?_;refine af ?_;refine ah (y6.2, 2, y6.1, 0) () hm ?_;exact ls
  ·rw [iN h4] at hm;refine ag rfl (fB h4) ?_;refine aI [4, 38, 54, 55] fun k kp hk hp => ?_;refine go ?_;obtain ⟨y8, hc10, hm⟩ := bd hm;refine RP (fun _ => dS ((p1.getD p2.toNat 0).toNat : Int) _ hc10) ?_;refine ab ?_;refine go ?_;refine hk _ _ ?_;clear hk hp k kp
   by_cases h11 : y8 = true
   ·rw [iP h11] at hm;refine ae rfl (h11) ?_;refine aI [53, 56, 57, 58] fun k kp hk hp => ?_;refine go ?_;obtain ⟨y9, hc12, hm⟩ := bd hm;refine RA (el p1 p2 p3 v1_ _ hc12) [0, 1] ?_;rintro p σ' ⟨rfl, rfl⟩ _;refine ab ?_;refine go ?_;refine hk _ _ ?_;clear hk hp k kp;refine aI [59, 60, 61, 62, 63, 64] fun k kp hk hp => ?_;refine go ?_;obtain ⟨y10, hc14, hm⟩ := bd hm;refine RP (fun _ => iH y9.1 _ hc14) ?_;refine ab ?_;refine go ?_;refine hk _ _ ?_;clear hk hp k kp;refine az fun k1 hk1 => ?_;refine am [6, 65] ?_
    by_cases h15 : y10.2 = true
    ·rw [iP h15] at hm;refine ag rfl (by rw [show y10.2 = true from (h15)]; rfl) ?_;refine ak ?_;refine aw (hk1 _ _ ?_);refine aR ?_;refine af ?_;refine ah (y9.2, 3, y9.1, y10.1) () hm ?_;exact ls
    ·rw [iN h15] at hm;refine ae rfl (by rw [show y10.2 = false from (fB h15)]; rfl) ?_;refine am [0, 3, 5, 66] ?_;refine ax ?_;refine aB (ar (aF ?_))
     cases hm
     exact kr 2
   ·rw [iN h11] at hm;refine ag rfl (fB h11) ?_;refine aI [21, 22, 23, 24, 53] fun k kp hk hp => ?_;refine go ?_;obtain ⟨y11, hc16, hm⟩ := bd hm;refine RA (fN p1 p2 p3 v1_ _ hc16) [0, 1] ?_;rintro p σ' ⟨rfl, rfl⟩ _;refine ab ?_;refine go ?_;refine hk _ _ ?_;clear hk hp k kp;refine az fun k2 hk2 => ?_;refine am [25, 26] ?_
    by_cases h18 : y11 = ([] : List UInt8)
    ·rw [iP h18] at hm;refine ae rfl (eQ h18) ?_;refine am [0, 3, 27] ?_;refine ax ?_;refine aB (ar (aF ?_))
     cases hm
     exact kr 2
    ·rw [iN h18] at hm;refine ag rfl (nB h18) ?_;refine ak ?_;refine aw (hk2 _ _ ?_);refine oT [0, 1, 3, 7, 0, 16, 48, 127, 255, 511, 1023] [false, false, false, false, false, false, false, true, true, true, true] ?_;refine af ?_;refine ah ((IntKind.wrap .i64 (p2 + (y11.length : Int))), 4, y11, 0) () hm ?_;exact ls
 ·rintro ⟨x1, x2, s3, x4⟩ _ hm;replace hm : ay p2 p3 x1 x2 s3 x4 = some r := hm;refine bl ?_;unfold ay at hm;obtain ⟨⟨hg1ax, hg1ay⟩, hm⟩ := gd hm;refine nc [0, 3, 70, 71, 72, 73, 74, 75, 76, 77, 78, 79] (by kernel_rfl) [1] [0, 0, 2, 6, 14, 0, 32, 126, 255, 511, 1023] [false, false, false, false, false, false, false, false, true, true, true] [false, false, false, false, false, false, false, true, false, false, false] [[0], [], [], [], [], [], [], [], [], [], []] (by kernel_rfl) fun k hk => ?_;refine gp ?_;refine hk _ _ ?_;clear hk k;refine bm [.box [.str p1, .int .i64 x1, .osl 1 (v1_ + 1) 0 (p3.length + 1)], .arr 4 (v1_ + 1) 31 ((p3 ++ (lit ([(aa.mk x2 p2 s3 x4)] : List aa))).map aa.enc), .box [.int .i64 x2, .int .i64 p2, .str s3, .int .i64 x4], .arr 4 0 31 ((lit ([(aa.mk x2 p2 s3 x4)] : List aa)).map aa.enc)] ?_;refine am [] ?_;refine ax ?_
  cases hm
  exact kr 2
theorem cX (p1 : List UInt8) (r : ((List aa) × aA)) (hm : cD p1 = some r) : bU Tryd.prog 7 [.c (.str p1)] (.t [.c (.tree 4 (r.1.map aa.enc)), .a [.int .i64 ((r.2).code), .int .i64 ((r.2).at_)]]) := by
 refine aQ 41 [.tmp 2, .cell 3 25] Tryd.func7 rfl rfl rfl (by kernel_rfl) (by simp) ?_;refine c8 ?_;unfold cD at hm;refine am [2] ?_;refine az fun k1 hk1 => ?_;refine am [7, 8] ?_
 by_cases h1 : (p1.length : Int) > 12000
 ·rw [iP h1] at hm;refine ae rfl (dT h1) ?_;refine am [0, 9, 10] ?_
  refine ee (d3 2 (.c (.tree 4 (([] : List _).map aa.enc))) rfl (by and_intros <;> trivial)) ?_
  refine jh ?_;refine ax ?_;refine aB ?_
  cases hm
  exact kr 0
 ·rw [iN h1] at hm;refine ag rfl (dF h1) ?_;refine ak ?_;refine aw (hk1 _ _ ?_);refine am [9, 11, 12, 13] ?_;refine nK (kX 1 2 4 31 (by decide) rfl rfl) ?_;refine aV (S := (Int × (List aa))) (V := Nat) [0, 2, 5, 6, 14, 15, 16, 17, 18, 19, 20, 21, 22, 23, 24, 25, 26, 27, 28, 29, 30, 31, 32, 33, 34, 35] (fun (x3, l4) v5 => []) (fun (x3, l4) v5 => [.box [.int .i64 0, .int .i64 0], .box [.str p1, .int .i64 x3, .osl 2 v5 0 l4.length], .arr 4 v5 31 (l4.map aa.enc)]) (fun (x3, l4) => dt x3 l4 = some r) ?_ ?_
  ·skip;refine aI [14, 15] fun k kp hk hp => ?_
   refine go ?_;obtain ⟨y6, hc2, hm⟩ := bd hm;refine RA (dR p1 0 [] 0 _ hc2) [1, 2] ?_;rintro p σ' ⟨rfl, rfl⟩ _;refine ab ?_;refine go ?_;refine hk _ _ ?_;clear hk hp k kp;refine aH ?_;obtain ⟨o1, hl1, hm1⟩ := bd hm;refine cG (S := (Int × (List aa))) (V := Nat) (O := (Int × (List aa)) ⊕ ((List aa) × aA)) [2, 5, 6, 16, 17, 18, 19, 20, 21, 22, 23, 24, 25, 26, 27, 28, 29, 30, 31, 32, 33, 34, 35] (fun (x19, l20) v21 => []) (fun (x19, l20) v21 => [.box [.int .i64 0, .int .i64 0], .box [.str p1, .int .i64 x19, .osl 2 v21 0 l20.length], .arr 4 v21 31 (l20.map aa.enc)]) _ _ 0 hl1 ?_ ?_
   ·exact ls
   ·rintro ⟨x19, l20⟩ v21 r1 hm hr1;replace hm : bw p1 x19 l20 = some r1 := hm;refine bl ?_;unfold bw at hm;refine az fun k2 hk2 => ?_;refine am [16, 17, 18, 19, 20, 21] ?_
    by_cases h4 : x19 < (p1.length : Int)
    ·rw [iP h4] at hm;refine ae rfl (dT h4) ?_;refine ak ?_;refine aw (hk2 _ _ ?_);refine az fun k3 hk3 => ?_;refine aH ?_;refine am [22, 25, 26, 27, 28] ?_;refine aI [29, 30] fun k kp hk hp => ?_;refine go ?_;obtain ⟨y22, hc5, hm⟩ := bd hm;refine RA (f7 p1 x19 l20 v21 _ hc5) [1, 2] ?_;rintro p σ' hq6 _;obtain ⟨v23, rfl, rfl⟩ := hq6;refine ab ?_;refine go ?_;refine hk _ _ ?_;clear hk hp k kp;refine am [31] ?_
     by_cases h7 : ¬ y22.1 = 0
     ·rw [iP h7] at hm;refine ae rfl (bne_iff_ne.2 h7) ?_;refine am [0, 4, 5, 6, 32, 33, 34, 35] ?_
      refine ee (d3 2 (.c (.tree 4 (([] : List _).map aa.enc))) rfl (by and_intros <;> trivial)) ?_
      refine jh ?_;have ho8 := aO hm hr1;subst ho8;replace hm : some ([], (aA.mk y22.1 x19)) = some r := hm1;refine ax ?_;refine ar (aB (bt (ar (aF ?_))))
      cases hm
      exact kr 0
     ·rw [iN h7] at hm;refine ag rfl (bne_eq_false_iff_eq.2 (Decidable.not_not.1 h7)) ?_;refine ak ?_;refine af ?_;refine aw (hk3 _ _ ?_);refine hI fun k kp hk hp => ?_;refine go ?_;obtain ⟨y24, hc9, hm⟩ := bd hm;refine RA (dR p1 y22.2.1 y22.2.2 v23 _ hc9) [1, 2] ?_;rintro p σ' ⟨rfl, rfl⟩ _;refine ab ?_;refine go ?_;refine hk _ _ ?_;clear hk hp k kp;refine an (y24, y22.2.2) v23 hm ?_;exact ls
    ·rw [iN h4] at hm;refine ag rfl (dF h4) ?_;refine cQ ?_;have ho11 := aO hm hr1;subst ho11;replace hm : dt x19 l20 = some r := hm1;refine cx (bB (aN ?_));refine ah (x19, l20) v21 hm ?_;exact ls
  ·rintro ⟨x3, l4⟩ v5 hm;replace hm : dt x3 l4 = some r := hm;refine bl ?_;unfold dt at hm;refine am [4, 36, 37, 38, 39, 40] ?_;refine nK (ku 2 rfl) ?_;refine ax ?_
   cases hm
   exact kr 0
theorem gB (p1 : List UInt8) (r : Bool) (hm : de p1 = some r) : bU Tryd.prog 12 [.c (.str p1)] (.c (.bool r)) := by
 refine aQ 39 [.tmp 2] Tryd.func12 rfl rfl rfl (by kernel_rfl) (by simp) ?_;refine c8 ?_;unfold de at hm;refine am [2] ?_;refine az fun k1 hk1 => ?_
 by_cases h1 : p1 = ([] : List UInt8)
 ·rw [iP h1] at hm;have h1b := eQ h1;refine eR h1b [4, 5, 6, 7, 8, 9, 10, 11, 12, 13, 14, 15, 16, 17, 18, 19] ?_;refine ae rfl rfl ?_;refine am [0, 20] ?_;refine ax ?_;refine aB ?_
  cases hm
  exact kr 0
 ·rw [iN h1] at hm;have h1b := nB h1;refine cR [4, 5, 6, 7, 8, 9, 10, 11, 12, 13, 14, 15, 16, 17, 18, 19] fun k kp hk hp => ?_;refine ai 8 ?_;refine gox h1b ?_
  by_cases h2 : (p1.length : Int) > 12
  ·rw [iP h2] at hm;have h2b := dT h2;refine ab ?_;refine gox (a2 h1b h2b) ?_;refine hk _ _ ?_;clear hk hp k kp;refine ae rfl rfl ?_;refine am [0, 20] ?_;refine ax ?_;refine aB ?_
   cases hm
   exact kr 0
  ·rw [iN h2] at hm;have h2b := dF h2;obtain ⟨hg3a, hm⟩ := gd hm;refine ab ?_;refine gox (a2 h1b h2b) ?_;obtain ⟨y1, hc4, hm⟩ := bd hm;refine RP (fun _ => dx ((p1.getD 0 0).toNat : Int) _ hc4) ?_
   by_cases h5 : y1 = true
   ·rw [iP h5] at hm;have h5b := h5
    have h5c : (!y1) = false := by rw [h5b]; rfl
    refine ab ?_;refine gox (a2 h1b (a2 h2b (a2 h5b h5c))) ?_;obtain ⟨y2, hc6, hm⟩ := bd hm;refine RP (fun _ => ef p1 _ hc6) ?_;refine ab ?_;refine gox (a2 h1b (a2 h2b (a2 h5b h5c))) ?_;refine hk _ _ ?_;clear hk hp k kp
    by_cases h7 : y2 = true
    ·rw [iP h7] at hm;refine ae rfl (h7) ?_;refine am [0, 20] ?_;refine ax ?_;refine aB ?_
     cases hm
     exact kr 0
    ·rw [iN h7] at hm;refine ag rfl (fB h7) ?_;refine ak ?_;refine aw (hk1 _ _ ?_);refine aV (S := Unit) (V := Unit) [0, 2, 3, 20, 21, 22, 23, 24, 25, 26, 27, 28, 29, 30, 31, 32, 33, 34, 35, 36, 37, 38] (fun _ _ => []) (fun _ _ => []) (fun _ => cV = some r) ?_ ?_
     ·skip;refine am [20, 21] ?_
      refine aH ?_;obtain ⟨o1, hl1, hm1⟩ := bd hm;refine cG (S := Int) (V := Unit) (O := Unit ⊕ Bool) [2, 3, 23, 24, 25, 26, 27, 28, 29, 30, 31, 32, 33, 34, 35, 36, 37, 38] (fun x5 _ => [(23, .c (.int .i64 x5))]) (fun x5 _ => []) _ _ () hl1 ?_ ?_
      ·exact ls
      ·rintro x5 _ r1 hm hr1;replace hm : cg p1 x5 = some r1 := hm;refine bl ?_;unfold cg at hm;refine am [] ?_;refine az fun k2 hk2 => ?_
       by_cases h8 : x5 < (p1.length : Int)
       ·rw [iP h8] at hm;refine ae rfl (dT h8) ?_;refine ak ?_;refine aw (hk2 _ _ ?_);refine az fun k3 hk3 => ?_;refine aH ?_;refine am [24, 25] ?_;obtain ⟨hg9a, hm⟩ := gd hm;refine aI [3, 26, 27, 28, 29, 30, 31, 32, 33, 34, 35, 36] fun k kp hk hp => ?_;refine go ?_;obtain ⟨y6, hc10, hm⟩ := bd hm;refine RP (fun _ => dx ((p1.getD x5.toNat 0).toNat : Int) _ hc10) ?_
        by_cases h11 : y6 = true
        ·rw [iP h11] at hm;have h11b := h11
         have h11c : (!y6) = false := by rw [h11b]; rfl
         refine ab ?_;refine gox (a2 h11b h11c) ?_;refine hk _ _ ?_;clear hk hp k kp;refine ag rfl rfl ?_;refine ak ?_;refine af ?_;refine aw (hk3 _ _ ?_);refine aR ?_;refine an (IntKind.wrap .i64 (x5 + 1)) () hm ?_;exact la
        ·rw [iN h11] at hm;have h11b := fB h11
         have h11c : (!y6) = true := by rw [h11b]; rfl
         refine ab ?_;refine gox (a2 h11b h11c) ?_;obtain ⟨y7, hc12, hm⟩ := bd hm;refine RP (fun _ => dS ((p1.getD x5.toNat 0).toNat : Int) _ hc12) ?_;refine ab ?_;refine gox (a2 h11b h11c) ?_;refine hk _ _ ?_;clear hk hp k kp
         by_cases h13 : y7 = true
         ·rw [iP h13] at hm;refine ag rfl (by rw [show y7 = true from (h13)]; rfl) ?_;refine ak ?_;refine af ?_;refine aw (hk3 _ _ ?_);refine aR ?_;refine an (IntKind.wrap .i64 (x5 + 1)) () hm ?_;exact la
         ·rw [iN h13] at hm;refine ae rfl (by rw [show y7 = false from (fB h13)]; rfl) ?_;refine am [0, 22, 23, 37] ?_;have ho14 := aO hm hr1;subst ho14;replace hm : some false = some r := hm1;refine ax ?_;refine ar (aB (bt (ar (aF ?_))))
          cases hm
          exact kr 0
       ·rw [iN h8] at hm;refine ag rfl (dF h8) ?_;refine cQ ?_;have ho15 := aO hm hr1;subst ho15;replace hm : cV = some r := hm1;refine cx (bB (aN ?_));refine ah () () hm ?_;exact ls
     ·rintro _ _ hm;replace hm : cV = some r := hm;refine bl ?_;unfold cV at hm;refine am [] ?_;refine ax ?_
      cases hm
      exact kr 0
   ·rw [iN h5] at hm;have h5b := fB h5
    have h5c : (!y1) = true := by rw [h5b]; rfl
    refine ab ?_;refine gox (a2 h1b (a2 h2b (a2 h5b h5c))) ?_;refine hk _ _ ?_;clear hk hp k kp;refine ae rfl rfl ?_;refine am [0, 20] ?_;refine ax ?_;refine aB ?_
    cases hm
    exact kr 0
theorem dU (r : Bool) (hm : ck  = some r) : bU Tryd.prog 6 [] (.c (.bool r)) := by
 refine aQ 36 [.tmp 0] Tryd.func6 rfl rfl rfl (by kernel_rfl) (by simp) ?_;refine c8 ?_;unfold ck at hm;refine am [0] ?_;refine aI [3, 4, 5, 6] fun k kp hk hp => ?_;refine go ?_;obtain ⟨y1, hc1, hm⟩ := bd hm;refine RP (fun _ => cX ([120, 49, 61, 49, 48, 35, 97, 10, 59] : List UInt8) _ hc1) ?_;refine ab ?_;refine go ?_;refine hk _ _ ?_;clear hk hp k kp;refine cR [1, 2, 7, 8, 9, 10, 11, 12, 13, 14, 15, 16, 17, 18, 19, 20, 21, 22, 23, 24, 25, 26, 27, 28, 29, 30, 31, 32, 33, 34, 35] fun k kp hk hp => ?_;refine ai 4 ?_;refine go ?_
 by_cases h2 : ((y1.2).code) = 0
 ·rw [iP h2] at hm;have h2b := eQ h2;refine ai 5 ?_;refine gox h2b ?_
  by_cases h3 : (y1.1.length : Int) = 4
  ·rw [iP h3] at hm;have h3b := eQ h3;obtain ⟨hg4a, hm⟩ := gd hm;refine ai 7 ?_;refine gox (a2 (em aa.enc y1.1 2) (a2 h2b h3b)) ?_
   by_cases h5 : ((y1.1.getD 2 default).n) = 10
   ·rw [iP h5] at hm;have h5b := eQ h5;obtain ⟨hg6a, hm⟩ := gd hm;refine ai 7 ?_;refine gox (a2 (em aa.enc y1.1 3) (a2 h2b (a2 h3b h5b))) ?_
    by_cases h7 : ((y1.1.getD 3 default).at_) = 8
    ·rw [iP h7] at hm;have h7b := eQ h7;refine ab ?_;refine gox (a2 h2b (a2 h3b (a2 h5b h7b))) ?_;obtain ⟨y2, hc8, hm⟩ := bd hm;refine RP (fun _ => ef ([110, 111, 100, 101] : List UInt8) _ hc8) ?_
     by_cases h9 : y2 = true
     ·rw [iP h9] at hm;have h9b := h9;refine ab ?_;refine gox (a2 h2b (a2 h3b (a2 h5b (a2 h7b h9b)))) ?_;obtain ⟨y3, hc10, hm⟩ := bd hm;refine RP (fun _ => gB ([110, 111, 100, 101] : List UInt8) _ hc10) ?_;refine ab ?_;refine gox (a2 h2b (a2 h3b (a2 h5b (a2 h7b h9b)))) ?_;refine hk _ _ ?_;clear hk hp k kp;refine ax ?_
      cases hm
      exact kr 0
     ·rw [iN h9] at hm;have h9b := fB h9;refine ab ?_;refine gox (a2 h2b (a2 h3b (a2 h5b (a2 h7b h9b)))) ?_;refine hk _ _ ?_;clear hk hp k kp;refine ax ?_
      cases hm
      exact kr 0
    ·rw [iN h7] at hm;have h7b := nB h7;refine ab ?_;refine gox (a2 h2b (a2 h3b (a2 h5b h7b))) ?_;refine hk _ _ ?_;clear hk hp k kp;refine ax ?_
     cases hm
     exact kr 0
   ·rw [iN h5] at hm;have h5b := nB h5;refine ab ?_;refine gox (a2 h2b (a2 h3b h5b)) ?_;refine hk _ _ ?_;clear hk hp k kp;refine ax ?_
    cases hm
    exact kr 0
  ·rw [iN h3] at hm;have h3b := nB h3;refine ab ?_;refine gox (a2 h2b h3b) ?_;refine hk _ _ ?_;clear hk hp k kp;refine ax ?_
   cases hm
   exact kr 0
 ·rw [iN h2] at hm;have h2b := nB h2;refine ab ?_;refine gox h2b ?_;refine hk _ _ ?_;clear hk hp k kp;refine ax ?_
  cases hm
  exact kr 0
end Pam
