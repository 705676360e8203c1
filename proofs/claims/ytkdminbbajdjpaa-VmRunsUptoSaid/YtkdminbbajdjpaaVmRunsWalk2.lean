/- the walk of ref_ImageFault, printed by a program of ours -/
import Derived.Test.YtkdminbbajdjpaaBase3
import Derived.Test.YtkdminbbajdjpaaVmRunsFun1
import Derived.Test.YtkdminbbajdjpaaVmRunsWalk1
set_option linter.all false
namespace Pam
open Go Go.Proofs
set_option maxRecDepth 100000 in
set_option maxHeartbeats 1000000 in
theorem ref_ImageFault_ok (p1 : TImage) (r : TFault) (hm : ref_ImageFault p1 = some r) : SpecF Try.prog 19 [.a [.int .i64 p1.cells, .int .i64 p1.regs, .int .i64 p1.cost, .tree 1 (p1.put.map (eK .i64)), .tree 1 (p1.bools.map (eK .i64)), .tree 1 (p1.get.map (eK .i64)), .tree 6 (p1.code.map TIns.enc)]] (.a [.int .i64 ((r).code), .int .i64 ((r).at_)]) := by
 refine Spec_ofD 127 [.cell 2 30] Try.func19 rfl rfl rfl (by kernel_rfl) (by simp) ?_
 refine W_eqf ?_
 unfold ref_ImageFault at hm
 refine W_rg [0] ?_
 refine W_seq_k fun k1 hk1 => ?_
 by_cases h1 : p1.cells < 1
 ·rw [if_pos h1] at hm
  have h1b : decide (p1.cells < 1) = true := decide_eq_true h1
  refine W_rgx h1b [8, 9, 10, 11, 12, 13, 14, 15, 16, 17, 18, 19, 20, 21, 22, 23, 24] ?_
  refine W_condt rfl rfl ?_
  refine W_regF [1, 25, 26] fun k kp hk hp => ?_
  refine go ?_
  obtain ⟨y1, hc2, hm⟩ := bd hm
  refine RP (fun _ => ref_F_ok 13 (-1) _ hc2) ?_
  refine RunRest_ops ?_
  refine go ?_
  refine hk _ _ ?_
  clear hk hp k kp
  refine W_ret ?_
  refine KThen_r ?_
  refine KBody_ret [] ?_
  obtain rfl := Option.some.inj hm
  exact en
 ·rw [if_neg h1] at hm
  have h1b : decide (p1.cells < 1) = false := decide_eq_false h1
  by_cases h3 : p1.cells > 6000
  ·rw [if_pos h3] at hm
   have h3b : decide (p1.cells > 6000) = true := decide_eq_true h3
   refine W_rgx (a2 h1b h3b) [8, 9, 10, 11, 12, 13, 14, 15, 16, 17, 18, 19, 20, 21, 22, 23, 24] ?_
   refine W_condt rfl rfl ?_
   refine W_regF [1, 25, 26] fun k kp hk hp => ?_
   refine go ?_
   obtain ⟨y2, hc4, hm⟩ := bd hm
   refine RP (fun _ => ref_F_ok 13 (-1) _ hc4) ?_
   refine RunRest_ops ?_
   refine go ?_
   refine hk _ _ ?_
   clear hk hp k kp
   refine W_ret ?_
   refine KThen_r ?_
   refine KBody_ret [] ?_
   obtain rfl := Option.some.inj hm
   exact en
  ·rw [if_neg h3] at hm
   have h3b : decide (p1.cells > 6000) = false := decide_eq_false h3
   by_cases h5 : p1.regs < 1
   ·rw [if_pos h5] at hm
    have h5b : decide (p1.regs < 1) = true := decide_eq_true h5
    refine W_rgx (a2 h1b (a2 h3b h5b)) [8, 9, 10, 11, 12, 13, 14, 15, 16, 17, 18, 19, 20, 21, 22, 23, 24] ?_
    refine W_condt rfl rfl ?_
    refine W_regF [1, 25, 26] fun k kp hk hp => ?_
    refine go ?_
    obtain ⟨y3, hc6, hm⟩ := bd hm
    refine RP (fun _ => ref_F_ok 13 (-1) _ hc6) ?_
    refine RunRest_ops ?_
    refine go ?_
    refine hk _ _ ?_
    clear hk hp k kp
    refine W_ret ?_
    refine KThen_r ?_
    refine KBody_ret [] ?_
    obtain rfl := Option.some.inj hm
    exact en
   ·rw [if_neg h5] at hm
    have h5b : decide (p1.regs < 1) = false := decide_eq_false h5
    refine W_rgx (a2 h1b (a2 h3b h5b)) [8, 9, 10, 11, 12, 13, 14, 15, 16, 17, 18, 19, 20, 21, 22, 23, 24] ?_
    by_cases h7 : p1.regs > 40
    ·rw [if_pos h7] at hm
     refine W_condt rfl (decide_eq_true h7) ?_
     refine W_regF [1, 25, 26] fun k kp hk hp => ?_
     refine go ?_
     obtain ⟨y4, hc8, hm⟩ := bd hm
     refine RP (fun _ => ref_F_ok 13 (-1) _ hc8) ?_
     refine RunRest_ops ?_
     refine go ?_
     refine hk _ _ ?_
     clear hk hp k kp
     refine W_ret ?_
     refine KThen_r ?_
     refine KBody_ret [] ?_
     obtain rfl := Option.some.inj hm
     exact en
    ·rw [if_neg h7] at hm
     refine W_condf rfl (decide_eq_false h7) ?_
     refine W_skip ?_
     refine KThen_n (hk1 _ _ ?_)
     refine W_seq_k fun k2 hk2 => ?_
     by_cases h9 : (p1.put.length : Int) > 6000
     ·rw [if_pos h9] at hm
      have h9b : decide ((p1.put.length : Int) > 6000) = true := decide_eq_true h9
      refine W_rgx h9b [25, 27, 28, 29, 30, 31, 32, 33, 34, 35, 36, 37, 38, 39, 40, 41, 42, 43, 44, 45, 46, 47] ?_
      refine W_condt rfl rfl ?_
      refine W_regF [1, 48, 49] fun k kp hk hp => ?_
      refine go ?_
      obtain ⟨y5, hc10, hm⟩ := bd hm
      refine RP (fun _ => ref_F_ok 7 (-1) _ hc10) ?_
      refine RunRest_ops ?_
      refine go ?_
      refine hk _ _ ?_
      clear hk hp k kp
      refine W_ret ?_
      refine KThen_r ?_
      refine KBody_ret [] ?_
      obtain rfl := Option.some.inj hm
      exact en
     ·rw [if_neg h9] at hm
      have h9b : decide ((p1.put.length : Int) > 6000) = false := decide_eq_false h9
      by_cases h11 : (p1.bools.length : Int) > 6000
      ·rw [if_pos h11] at hm
       have h11b : decide ((p1.bools.length : Int) > 6000) = true := decide_eq_true h11
       refine W_rgx (a2 h9b h11b) [25, 27, 28, 29, 30, 31, 32, 33, 34, 35, 36, 37, 38, 39, 40, 41, 42, 43, 44, 45, 46, 47] ?_
       refine W_condt rfl rfl ?_
       refine W_regF [1, 48, 49] fun k kp hk hp => ?_
       refine go ?_
       obtain ⟨y6, hc12, hm⟩ := bd hm
       refine RP (fun _ => ref_F_ok 7 (-1) _ hc12) ?_
       refine RunRest_ops ?_
       refine go ?_
       refine hk _ _ ?_
       clear hk hp k kp
       refine W_ret ?_
       refine KThen_r ?_
       refine KBody_ret [] ?_
       obtain rfl := Option.some.inj hm
       exact en
      ·rw [if_neg h11] at hm
       have h11b : decide ((p1.bools.length : Int) > 6000) = false := decide_eq_false h11
       by_cases h13 : (p1.get.length : Int) > 120000
       ·rw [if_pos h13] at hm
        have h13b : decide ((p1.get.length : Int) > 120000) = true := decide_eq_true h13
        refine W_rgx (a2 h9b (a2 h11b h13b)) [25, 27, 28, 29, 30, 31, 32, 33, 34, 35, 36, 37, 38, 39, 40, 41, 42, 43, 44, 45, 46, 47] ?_
        refine W_condt rfl rfl ?_
        refine W_regF [1, 48, 49] fun k kp hk hp => ?_
        refine go ?_
        obtain ⟨y7, hc14, hm⟩ := bd hm
        refine RP (fun _ => ref_F_ok 7 (-1) _ hc14) ?_
        refine RunRest_ops ?_
        refine go ?_
        refine hk _ _ ?_
        clear hk hp k kp
        refine W_ret ?_
        refine KThen_r ?_
        refine KBody_ret [] ?_
        obtain rfl := Option.some.inj hm
        exact en
       ·rw [if_neg h13] at hm
        have h13b : decide ((p1.get.length : Int) > 120000) = false := decide_eq_false h13
        refine W_rgx (a2 h9b (a2 h11b h13b)) [25, 27, 28, 29, 30, 31, 32, 33, 34, 35, 36, 37, 38, 39, 40, 41, 42, 43, 44, 45, 46, 47] ?_
        by_cases h15 : (p1.code.length : Int) > 200000
        ·rw [if_pos h15] at hm
         refine W_condt rfl (decide_eq_true h15) ?_
         refine W_regF [1, 48, 49] fun k kp hk hp => ?_
         refine go ?_
         obtain ⟨y8, hc16, hm⟩ := bd hm
         refine RP (fun _ => ref_F_ok 7 (-1) _ hc16) ?_
         refine RunRest_ops ?_
         refine go ?_
         refine hk _ _ ?_
         clear hk hp k kp
         refine W_ret ?_
         refine KThen_r ?_
         refine KBody_ret [] ?_
         obtain rfl := Option.some.inj hm
         exact en
        ·rw [if_neg h15] at hm
         refine W_condf rfl (decide_eq_false h15) ?_
         refine W_skip ?_
         refine KThen_n (hk2 _ _ ?_)
         refine W_rg [48, 50, 51, 52, 53, 54, 55, 56] ?_
         refine W_eqa [.box [.int .i64 p1.cells, .int .i64 p1.regs, .int .i64 p1.cost, .tree 1 (p1.put.map (eK .i64)), .tree 1 (p1.bools.map (eK .i64)), .tree 1 (p1.get.map (eK .i64)), .tree 6 (p1.code.map TIns.enc)], .box [.int .i64 0, .int .i64 0], .arr 1 0 22 ((lit ([p1.put, p1.bools, p1.get] : List (List Int))).map (eL 1 (eK .i64)))] ?_
         refine W_joinM (S := Unit) (V := Unit) [3, 4, 5, 57, 58, 59, 60, 61, 62, 63, 64, 65, 66, 67, 68, 69, 70, 71, 72, 73, 74, 75, 76, 77, 78, 79, 80, 81, 82, 83, 84, 85, 86, 87, 88, 89, 90] (fun _ _ => []) (fun _ _ => [.box [.int .i64 p1.cells, .int .i64 p1.regs, .int .i64 p1.cost, .tree 1 (p1.put.map (eK .i64)), .tree 1 (p1.bools.map (eK .i64)), .tree 1 (p1.get.map (eK .i64)), .tree 6 (p1.code.map TIns.enc)], .box [.int .i64 0, .int .i64 0], .arr 1 0 22 ((lit ([p1.put, p1.bools, p1.get] : List (List Int))).map (eL 1 (eK .i64)))]) (fun _ => ref_ImageFault_j1 p1 = some r) ?_ ?_
         ·skip
          refine W_rg [] ?_
          refine W_block ?_
          obtain ⟨o2, hl2, hm2⟩ := bd hm
          refine W_loopM (S := Int) (V := Unit) (O := Unit ⊕ TFault) [3, 4, 5, 57, 58, 59, 60, 61, 62, 63, 64, 65, 66, 67, 68, 69, 70, 71, 72, 73, 74, 75, 76, 77, 78, 79, 80, 81, 82, 83, 84, 85, 86, 87, 88, 89, 90] (fun x20 _ => [(3, .c (.osl 2 0 0 3)), (4, .c (.int .i64 x20))]) (fun x20 _ => [.box [.int .i64 p1.cells, .int .i64 p1.regs, .int .i64 p1.cost, .tree 1 (p1.put.map (eK .i64)), .tree 1 (p1.bools.map (eK .i64)), .tree 1 (p1.get.map (eK .i64)), .tree 6 (p1.code.map TIns.enc)], .box [.int .i64 0, .int .i64 0], .arr 1 0 22 ((lit ([p1.put, p1.bools, p1.get] : List (List Int))).map (eL 1 (eK .i64)))]) _ _ () hl2 ?_ ?_
          ·exact ls
          ·rintro x20 _ r2 hm hr2
           replace hm : ref_ImageFault_l2 p1 x20 = some r2 := hm
           refine W_eqm ?_
           unfold ref_ImageFault_l2 at hm
           refine W_seq_k fun k6 hk6 => ?_
           refine W_rg [57] ?_
           by_cases h30 : x20 < 3
           ·rw [if_pos h30] at hm
            refine W_condt rfl (decide_eq_true h30) ?_
            refine W_skip ?_
            refine KThen_n (hk6 _ _ ?_)
            refine W_joinM (S := Unit) (V := Unit) [3, 5, 58, 61, 62, 63, 64, 65, 66, 67, 68, 69, 70, 71, 72, 73, 74, 75, 76, 77, 78, 79, 80, 81, 82, 83, 84, 85, 86, 87, 88, 89, 90] (fun _ _ => [(3, .c (.osl 2 0 0 3))]) (fun _ _ => [.box [.int .i64 p1.cells, .int .i64 p1.regs, .int .i64 p1.cost, .tree 1 (p1.put.map (eK .i64)), .tree 1 (p1.bools.map (eK .i64)), .tree 1 (p1.get.map (eK .i64)), .tree 6 (p1.code.map TIns.enc)], .box [.int .i64 0, .int .i64 0], .arr 1 0 22 ((lit ([p1.put, p1.bools, p1.get] : List (List Int))).map (eL 1 (eK .i64)))]) (fun _ => ref_ImageFault_j3 x20 = some r2) ?_ ?_
            ·skip
             refine W_block ?_
             refine W_rg [58] ?_
             refine W_block ?_
             obtain ⟨o3, hl3, hm3⟩ := bd hm
             refine W_loopM (S := Int) (V := Unit) (O := Unit ⊕ TFault) [3, 5, 61, 62, 63, 64, 65, 66, 67, 68, 69, 70, 71, 72, 73, 74, 75, 76, 77, 78, 79, 80, 81, 82, 83, 84, 85, 86, 87, 88, 89, 90] (fun x23 _ => [(3, .c (.osl 2 0 0 3)), (5, .c (.int .i64 x23))]) (fun x23 _ => [.box [.int .i64 p1.cells, .int .i64 p1.regs, .int .i64 p1.cost, .tree 1 (p1.put.map (eK .i64)), .tree 1 (p1.bools.map (eK .i64)), .tree 1 (p1.get.map (eK .i64)), .tree 6 (p1.code.map TIns.enc)], .box [.int .i64 0, .int .i64 0], .arr 1 0 22 ((lit ([p1.put, p1.bools, p1.get] : List (List Int))).map (eL 1 (eK .i64)))]) _ _ () hl3 ?_ ?_
             ·exact ls
             ·rintro x23 _ r3 hm hr3
              replace hm : ref_ImageFault_l3 p1 x20 x23 = some r3 := hm
              refine W_eqm ?_
              unfold ref_ImageFault_l3 at hm
              refine W_seq_k fun k7 hk7 => ?_
              obtain ⟨hg31a, hm⟩ := gd hm
              refine W_rgx (em (eL 1 (eK .i64)) (lit ([p1.put, p1.bools, p1.get] : List (List Int))) x20.toNat) [61, 62, 63, 64, 65, 66] ?_
              by_cases h32 : x23 < (((lit ([p1.put, p1.bools, p1.get] : List (List Int))).getD x20.toNat default).length : Int)
              ·rw [if_pos h32] at hm
               refine W_condt rfl (decide_eq_true h32) ?_
               refine W_skip ?_
               refine KThen_n (hk7 _ _ ?_)
               refine W_seq_k fun k8 hk8 => ?_
               refine W_block ?_
               by_cases h33 : (((lit ([p1.put, p1.bools, p1.get] : List (List Int))).getD x20.toNat default).getD x23.toNat default) < 0
               ·rw [if_pos h33] at hm
                have h33b : decide ((((lit ([p1.put, p1.bools, p1.get] : List (List Int))).getD x20.toNat default).getD x23.toNat default) < 0) = true := decide_eq_true h33
                obtain ⟨hg34a, hm⟩ := gd hm
                refine W_agx (a2 (em (eL 1 (eK .i64)) (lit ([p1.put, p1.bools, p1.get] : List (List Int))) x20.toNat) (a2 (em (eK .i64) ((lit ([p1.put, p1.bools, p1.get] : List (List Int))).getD x20.toNat default) x23.toNat) h33b)) [67, 70, 71, 72, 73, 74, 75, 76, 77, 78, 79, 80, 81, 82, 83, 84, 85, 86, 87, 88] [0, 0, 3, 7, 0, 31, 63, 127, 255, 511, 511, 2047, 4095, 511, 16383, 32767, 511, 66047, 262143, 524287] [false, false, false, false, false, true, true, true, true, false, false, false, false, false, false, false, false, false, true, true] ?_
                refine W_condt rfl rfl ?_
                refine W_regF [1, 3, 4, 5, 89, 90] fun k kp hk hp => ?_
                refine go ?_
                obtain ⟨y24, hc35, hm⟩ := bd hm
                refine RP (fun _ => ref_F_ok 16 (-1) _ hc35) ?_
                refine RunRest_ops ?_
                refine go ?_
                refine hk _ _ ?_
                clear hk hp k kp
                have ho36 := out_eq hm hr3
                subst ho36
                replace hm : some (.inr (.inr (y24))) = some r2 := hm3
                have ho37 := out_eq hm hr2
                subst ho37
                replace hm : some (y24) = some r := hm2
                refine W_ret ?_
                refine KBlock_r ?_
                refine KThen_r ?_
                refine KLoopM_r ?_
                refine KBlock_r ?_
                refine KBlock_r ?_
                refine KJoinM_r ?_
                refine KLoopM_r ?_
                refine KBlock_r ?_
                refine KJoinM_r ?_
                refine KBody_ret [] ?_
                obtain rfl := Option.some.inj hm
                exact en
               ·rw [if_neg h33] at hm
                have h33b : decide ((((lit ([p1.put, p1.bools, p1.get] : List (List Int))).getD x20.toNat default).getD x23.toNat default) < 0) = false := decide_eq_false h33
                obtain ⟨hg38a, hm⟩ := gd hm
                refine W_agx (a2 (em (eL 1 (eK .i64)) (lit ([p1.put, p1.bools, p1.get] : List (List Int))) x20.toNat) (a2 (em (eK .i64) ((lit ([p1.put, p1.bools, p1.get] : List (List Int))).getD x20.toNat default) x23.toNat) h33b)) [67, 70, 71, 72, 73, 74, 75, 76, 77, 78, 79, 80, 81, 82, 83, 84, 85, 86, 87, 88] [0, 0, 3, 7, 0, 31, 63, 127, 255, 511, 511, 2047, 4095, 511, 16383, 32767, 511, 66047, 262143, 524287] [false, false, false, false, false, true, true, true, true, false, false, false, false, false, false, false, false, false, true, true] ?_
                by_cases h39 : (((lit ([p1.put, p1.bools, p1.get] : List (List Int))).getD x20.toNat default).getD x23.toNat default) ≥ p1.cells
                ·rw [if_pos h39] at hm
                 refine W_condt rfl (decide_eq_true h39) ?_
                 refine W_regF [1, 3, 4, 5, 89, 90] fun k kp hk hp => ?_
                 refine go ?_
                 obtain ⟨y25, hc40, hm⟩ := bd hm
                 refine RP (fun _ => ref_F_ok 16 (-1) _ hc40) ?_
                 refine RunRest_ops ?_
                 refine go ?_
                 refine hk _ _ ?_
                 clear hk hp k kp
                 have ho41 := out_eq hm hr3
                 subst ho41
                 replace hm : some (.inr (.inr (y25))) = some r2 := hm3
                 have ho42 := out_eq hm hr2
                 subst ho42
                 replace hm : some (y25) = some r := hm2
                 refine W_ret ?_
                 refine KBlock_r ?_
                 refine KThen_r ?_
                 refine KLoopM_r ?_
                 refine KBlock_r ?_
                 refine KBlock_r ?_
                 refine KJoinM_r ?_
                 refine KLoopM_r ?_
                 refine KBlock_r ?_
                 refine KJoinM_r ?_
                 refine KBody_ret [] ?_
                 obtain rfl := Option.some.inj hm
                 exact en
                ·rw [if_neg h39] at hm
                 refine W_condf rfl (decide_eq_false h39) ?_
                 refine W_skip ?_
                 refine KBlock_n ?_
                 refine KThen_n (hk8 _ _ ?_)
                 refine W_rn ?_
                 refine KLoopM_n (IntKind.wrap .i64 (x23 + 1)) () hm ?_
                 exact ls
              ·rw [if_neg h32] at hm
               refine W_condf rfl (decide_eq_false h32) ?_
               refine W_exit ?_
               have ho43 := out_eq hm hr3
               subst ho43
               replace hm : ref_ImageFault_j3 x20 = some r2 := hm3
               refine KThen_x ?_
               refine KLoopM_x ?_
               refine KBlock_hit ?_
               refine KBlock_n ?_
               refine KJoinM_n () () hm ?_
               exact ls
            ·rintro _ _ hm
             replace hm : ref_ImageFault_j3 x20 = some r2 := hm
             refine W_eqm ?_
             unfold ref_ImageFault_j3 at hm
             refine W_rn ?_
             refine KLoopM_n (IntKind.wrap .i64 (x20 + 1)) () hm ?_
             exact ls
           ·rw [if_neg h30] at hm
            refine W_condf rfl (decide_eq_false h30) ?_
            refine W_exit ?_
            have ho44 := out_eq hm hr2
            subst ho44
            replace hm : ref_ImageFault_j1 p1 = some r := hm2
            refine KThen_x ?_
            refine KLoopM_x ?_
            refine KBlock_hit ?_
            refine KJoinM_n () () hm ?_
            exact ls
         ·rintro _ _ hm
          replace hm : ref_ImageFault_j1 p1 = some r := hm
          refine W_eqm ?_
          unfold ref_ImageFault_j1 at hm
          refine W_joinM (S := Unit) (V := Unit) [6, 91, 92, 93, 94, 95, 96, 97, 98, 99, 100, 101, 102, 103, 104, 105, 106, 107] (fun _ _ => []) (fun _ _ => [.box [.int .i64 p1.cells, .int .i64 p1.regs, .int .i64 p1.cost, .tree 1 (p1.put.map (eK .i64)), .tree 1 (p1.bools.map (eK .i64)), .tree 1 (p1.get.map (eK .i64)), .tree 6 (p1.code.map TIns.enc)], .box [.int .i64 0, .int .i64 0], .arr 1 0 22 ((lit ([p1.put, p1.bools, p1.get] : List (List Int))).map (eL 1 (eK .i64)))]) (fun _ => ref_ImageFault_j2 p1 = some r) ?_ ?_
          ·skip
           refine W_rg [] ?_
           refine W_block ?_
           obtain ⟨o1, hl1, hm1⟩ := bd hm
           refine W_loopM (S := Int) (V := Unit) (O := Unit ⊕ TFault) [6, 91, 92, 93, 94, 95, 96, 97, 98, 99, 100, 101, 102, 103, 104, 105, 106, 107] (fun x14 _ => [(6, .c (.int .i64 x14))]) (fun x14 _ => [.box [.int .i64 p1.cells, .int .i64 p1.regs, .int .i64 p1.cost, .tree 1 (p1.put.map (eK .i64)), .tree 1 (p1.bools.map (eK .i64)), .tree 1 (p1.get.map (eK .i64)), .tree 6 (p1.code.map TIns.enc)], .box [.int .i64 0, .int .i64 0], .arr 1 0 22 ((lit ([p1.put, p1.bools, p1.get] : List (List Int))).map (eL 1 (eK .i64)))]) _ _ () hl1 ?_ ?_
           ·exact ls
           ·rintro x14 _ r1 hm hr1
            replace hm : ref_ImageFault_l1 p1 x14 = some r1 := hm
            refine W_eqm ?_
            unfold ref_ImageFault_l1 at hm
            refine W_seq_k fun k4 hk4 => ?_
            refine W_rg [91, 92, 93, 94] ?_
            by_cases h23 : x14 < (p1.code.length : Int)
            ·rw [if_pos h23] at hm
             refine W_condt rfl (decide_eq_true h23) ?_
             refine W_skip ?_
             refine KThen_n (hk4 _ _ ?_)
             refine W_seq_k fun k5 hk5 => ?_
             refine W_block ?_
             obtain ⟨hg24a, hm⟩ := gd hm
             refine W_anyF [95, 98, 99, 100, 101, 102, 103, 104] (by kernel_rfl) [0, 0, 2, 0, 14, 30, 63, 127] [false, false, false, false, false, false, true, true] (by kernel_rfl) fun k hk => ?_
             refine gax (em TIns.enc p1.code x14.toNat) ?_
             obtain ⟨y15, hc25, hm⟩ := bd hm
             refine AP (fun _ => ref_insOK_ok p1 (p1.code.getD x14.toNat default) _ hc25) ?_
             refine ga ?_
             refine hk _ _ ?_
             clear hk k
             by_cases h26 : y15 = true
             ·rw [if_pos h26] at hm
              refine W_condf rfl (by rw [show y15 = true from (h26)]; rfl) ?_
              refine W_skip ?_
              refine KBlock_n ?_
              refine KThen_n (hk5 _ _ ?_)
              refine W_rn ?_
              refine KLoopM_n (IntKind.wrap .i64 (x14 + 1)) () hm ?_
              exact ls
             ·rw [if_neg h26] at hm
              refine W_condt rfl (by rw [show y15 = false from (Bool.eq_false_iff.2 h26)]; rfl) ?_
              refine W_regF [1, 6, 105, 106, 107] fun k kp hk hp => ?_
              refine go ?_
              obtain ⟨y16, hc27, hm⟩ := bd hm
              refine RP (fun _ => ref_F_ok 4 x14 _ hc27) ?_
              refine RunRest_ops ?_
              refine go ?_
              refine hk _ _ ?_
              clear hk hp k kp
              have ho28 := out_eq hm hr1
              subst ho28
              replace hm : some (y16) = some r := hm1
              refine W_ret ?_
              refine KBlock_r ?_
              refine KThen_r ?_
              refine KLoopM_r ?_
              refine KBlock_r ?_
              refine KJoinM_r ?_
              refine KBody_ret [] ?_
              obtain rfl := Option.some.inj hm
              exact en
            ·rw [if_neg h23] at hm
             refine W_condf rfl (decide_eq_false h23) ?_
             refine W_exit ?_
             have ho29 := out_eq hm hr1
             subst ho29
             replace hm : ref_ImageFault_j2 p1 = some r := hm1
             refine KThen_x ?_
             refine KLoopM_x ?_
             refine KBlock_hit ?_
             refine KJoinM_n () () hm ?_
             exact ls
          ·rintro _ _ hm
           replace hm : ref_ImageFault_j2 p1 = some r := hm
           refine W_eqm ?_
           unfold ref_ImageFault_j2 at hm
           refine W_regF [108, 109, 110] fun k kp hk hp => ?_
           refine go ?_
           obtain ⟨y9, hc17, hm⟩ := bd hm
           refine RP (fun _ => ref_CostOf_ok p1.code _ hc17) ?_
           refine RunRest_ops ?_
           refine go ?_
           refine hk _ _ ?_
           clear hk hp k kp
           refine W_seq_k fun k3 hk3 => ?_
           by_cases h18 : ¬ p1.cost = y9
           ·rw [if_pos h18] at hm
            have h18b : (p1.cost != y9) = true := bne_iff_ne.2 h18
            refine W_rgx h18b [1, 7, 111, 112, 113, 114, 115, 116, 117, 118, 119, 120, 121, 122, 123] ?_
            refine W_condt rfl rfl ?_
            refine W_regF [124, 125] fun k kp hk hp => ?_
            refine go ?_
            obtain ⟨y10, hc19, hm⟩ := bd hm
            refine RP (fun _ => ref_F_ok 18 (-1) _ hc19) ?_
            refine RunRest_ops ?_
            refine go ?_
            refine hk _ _ ?_
            clear hk hp k kp
            refine W_ret ?_
            refine KThen_r ?_
            refine KBody_ret [] ?_
            obtain rfl := Option.some.inj hm
            exact en
           ·rw [if_neg h18] at hm
            have h18b : (p1.cost != y9) = false := bne_eq_false_iff_eq.2 (Decidable.not_not.1 h18)
            by_cases h20 : y9 = 0
            ·rw [if_pos h20] at hm
             have h20b : (y9 == 0) = true := beq_iff_eq.2 h20
             refine W_rgx (a2 h18b h20b) [1, 7, 111, 112, 113, 114, 115, 116, 117, 118, 119, 120, 121, 122, 123] ?_
             by_cases h21 : (p1.code.length : Int) > 0
             ·rw [if_pos h21] at hm
              refine W_condt rfl (decide_eq_true h21) ?_
              refine W_regF [124, 125] fun k kp hk hp => ?_
              refine go ?_
              obtain ⟨y11, hc22, hm⟩ := bd hm
              refine RP (fun _ => ref_F_ok 18 (-1) _ hc22) ?_
              refine RunRest_ops ?_
              refine go ?_
              refine hk _ _ ?_
              clear hk hp k kp
              refine W_ret ?_
              refine KThen_r ?_
              refine KBody_ret [] ?_
              obtain rfl := Option.some.inj hm
              exact en
             ·rw [if_neg h21] at hm
              refine W_condf rfl (decide_eq_false h21) ?_
              refine W_skip ?_
              refine KThen_n (hk3 _ _ ?_)
              refine W_rg [124, 126] ?_
              refine W_ret ?_
              refine KBody_ret [] ?_
              obtain rfl := Option.some.inj hm
              exact en
            ·rw [if_neg h20] at hm
             have h20b : (y9 == 0) = false := beq_eq_false_iff_ne.2 h20
             refine W_rgx (a2 h18b h20b) [1, 7, 111, 112, 113, 114, 115, 116, 117, 118, 119, 120, 121, 122, 123] ?_
             refine W_condf rfl rfl ?_
             refine W_skip ?_
             refine KThen_n (hk3 _ _ ?_)
             refine W_rg [124, 126] ?_
             refine W_ret ?_
             refine KBody_ret [] ?_
             obtain rfl := Option.some.inj hm
             exact en
end Pam

/- the walk of ref_BeginCode, printed by a program of ours -/
namespace Pam
open Go Go.Proofs
set_option maxRecDepth 100000 in
set_option maxHeartbeats 1000000 in
theorem ref_BeginCode_ok (p1 : TImage) (r : (Int × Int × Int × (List Int) × (List Int) × (List Int) × (List TIns) × Int × (List Int))) (hm : ref_BeginCode p1 = some r) : Spec Try.prog 47 [.a [.int .i64 p1.cells, .int .i64 p1.regs, .int .i64 p1.cost, .tree 1 (p1.put.map (eK .i64)), .tree 1 (p1.bools.map (eK .i64)), .tree 1 (p1.get.map (eK .i64)), .tree 6 (p1.code.map TIns.enc)]] [] (fun p σ => (p = .c (.optr 0 0) ∧ σ = [.box [.int .i64 r.1, .int .i64 r.2.1, .int .i64 r.2.2.1, .tree 1 (r.2.2.2.1.map (eK .i64)), .tree 1 (r.2.2.2.2.1.map (eK .i64)), .tree 1 (r.2.2.2.2.2.1.map (eK .i64)), .tree 6 (r.2.2.2.2.2.2.1.map TIns.enc), .osl 1 1 0 r.2.2.2.2.2.2.2.2.length, .int .i64 r.2.2.2.2.2.2.2.1], .arr 1 1 2 (r.2.2.2.2.2.2.2.2.map (eK .i64))])) (fun _ _ => False) := by
 refine Spec_ofD 9 [.tmp 2] Try.func47 rfl rfl rfl (by kernel_rfl) (by simp) ?_
 refine W_eqf ?_
 unfold ref_BeginCode at hm
 refine W_rg [0, 2] ?_
 obtain ⟨⟨hg1a, ⟨hg1bx, hg1by⟩⟩, hm⟩ := gd hm
 refine W_ag [1, 3, 4, 5, 6, 7, 8] [0, 0, 2, 6, 15, 31, 63] [false, false, false, false, true, true, true] ?_
 refine W_eqa [.box [.int .i64 p1.cells, .int .i64 p1.regs, .int .i64 p1.cost, .tree 1 (p1.put.map (eK .i64)), .tree 1 (p1.bools.map (eK .i64)), .tree 1 (p1.get.map (eK .i64)), .tree 6 (p1.code.map TIns.enc)], .arr 1 0 2 ((List.replicate p1.cells.toNat 0).map (eK .i64)), .box [.int .i64 p1.cells, .int .i64 p1.regs, .int .i64 p1.cost, .tree 1 (p1.put.map (eK .i64)), .tree 1 (p1.bools.map (eK .i64)), .tree 1 (p1.get.map (eK .i64)), .tree 6 (p1.code.map TIns.enc), .osl 1 0 0 p1.cells.toNat, .int .i64 0]] ?_
 refine W_ghost (Ghost_new 1 2 (by decide)) ?_
 simp only [bZ, bL, reduceIte, ↓reduceIte, reduceCtorEq, Int.reduceToNat, Nat.reduceDiv, Nat.reduceMod, Nat.reduceLT, Nat.reduceLeDiff, Nat.reduceAdd, Nat.reduceSub, Nat.reduceMul, Nat.reduceEqDiff, Nat.reduceBEq, Nat.reduceBNe, Nat.reduceGT, List.length_cons, List.length_nil, List.length_append, List.cons_append, List.nil_append]
 refine W_gh (Ghost_mv 3 1 (by decide) rfl rfl) ?_
 refine W_gh (Ghost_dead 0 (by simp)) ?_
 refine W_gh (Ghost_dn 0 2 (by decide) (Nat.le_of_ble_eq_true rfl) (Nat.le_of_ble_eq_true rfl) rfl rfl) ?_
 refine W_gh (Ghost_dn 1 3 (by decide) (Nat.le_of_ble_eq_true rfl) (Nat.le_of_ble_eq_true rfl) rfl rfl) ?_
 refine W_ret ?_
 refine KBody_ret [.box [.int .i64 p1.cells, .int .i64 p1.regs, .int .i64 p1.cost, .tree 1 (p1.put.map (eK .i64)), .tree 1 (p1.bools.map (eK .i64)), .tree 1 (p1.get.map (eK .i64)), .tree 6 (p1.code.map TIns.enc), .osl 1 1 0 p1.cells.toNat, .int .i64 0], .arr 1 1 2 ((List.replicate p1.cells.toNat 0).map (eK .i64))] ?_
 obtain rfl := Option.some.inj hm
 exact en
end Pam

/- the walk of ref_SameInts, printed by a program of ours -/
namespace Pam
open Go Go.Proofs
set_option maxRecDepth 100000 in
set_option maxHeartbeats 1000000 in
theorem ref_SameInts_ok (p1 : List Int) (p2 : List Int) (r : Bool) (hm : ref_SameInts p1 p2 = some r) : SpecF Try.prog 67 [.c (.tree 1 (p1.map (eK .i64))), .c (.tree 1 (p2.map (eK .i64)))] (.c (.bool r)) := by
 refine Spec_ofD 26 [.tmp 4] Try.func67 rfl rfl rfl (by kernel_rfl) (by simp) ?_
 refine W_eqf ?_
 unfold ref_SameInts at hm
 refine W_rg [4] ?_
 refine W_seq_k fun k1 hk1 => ?_
 refine W_rg [6, 7, 8, 9] ?_
 by_cases h1 : ¬ (p1.length : Int) = (p2.length : Int)
 ·rw [if_pos h1] at hm
  refine W_condt rfl (bne_iff_ne.2 h1) ?_
  refine W_rg [0, 1, 10] ?_
  refine W_ret ?_
  refine KThen_r ?_
  refine KBody_ret [] ?_
  obtain rfl := Option.some.inj hm
  exact en
 ·rw [if_neg h1] at hm
  refine W_condf rfl (bne_eq_false_iff_eq.2 (Decidable.not_not.1 h1)) ?_
  refine W_skip ?_
  refine KThen_n (hk1 _ _ ?_)
  refine W_joinM (S := Unit) (V := Unit) [0, 1, 4, 5, 10, 11, 12, 13, 14, 15, 16, 17, 18, 19, 20, 21, 22, 23, 24, 25] (fun _ _ => []) (fun _ _ => []) (fun _ => ref_SameInts_j1 = some r) ?_ ?_
  ·skip
   refine W_rg [10] ?_
   refine W_block ?_
   obtain ⟨o1, hl1, hm1⟩ := bd hm
   refine W_loopM (S := Int) (V := Unit) (O := Unit ⊕ Bool) [4, 5, 11, 12, 13, 14, 15, 16, 17, 18, 19, 20, 21, 22, 23, 24, 25] (fun x3 _ => [(5, .c (.int .i64 x3))]) (fun x3 _ => []) _ _ () hl1 ?_ ?_
   ·exact ls
   ·rintro x3 _ r1 hm hr1
    replace hm : ref_SameInts_l1 p1 p2 x3 = some r1 := hm
    refine W_eqm ?_
    unfold ref_SameInts_l1 at hm
    refine W_seq_k fun k2 hk2 => ?_
    refine W_rg [11, 12, 13] ?_
    by_cases h2 : x3 < (p1.length : Int)
    ·rw [if_pos h2] at hm
     refine W_condt rfl (decide_eq_true h2) ?_
     refine W_skip ?_
     refine KThen_n (hk2 _ _ ?_)
     refine W_seq_k fun k3 hk3 => ?_
     refine W_block ?_
     obtain ⟨⟨hg3a, hg3b⟩, hm⟩ := gd hm
     refine W_agx (a2 (em (eK .i64) p1 x3.toNat) (em (eK .i64) p2 x3.toNat)) [14, 17, 18, 19, 20, 21, 22, 23, 24] [0, 0, 3, 7, 0, 0, 48, 112, 255] [false, false, false, false, false, false, false, false, true] ?_
     by_cases h4 : ¬ (p1.getD x3.toNat default) = (p2.getD x3.toNat default)
     ·rw [if_pos h4] at hm
      refine W_condt rfl (bne_iff_ne.2 h4) ?_
      refine W_rg [0, 1, 5, 25] ?_
      have ho5 := out_eq hm hr1
      subst ho5
      replace hm : some false = some r := hm1
      refine W_ret ?_
      refine KBlock_r ?_
      refine KThen_r ?_
      refine KLoopM_r ?_
      refine KBlock_r ?_
      refine KJoinM_r ?_
      refine KBody_ret [] ?_
      obtain rfl := Option.some.inj hm
      exact en
     ·rw [if_neg h4] at hm
      refine W_condf rfl (bne_eq_false_iff_eq.2 (Decidable.not_not.1 h4)) ?_
      refine W_skip ?_
      refine KBlock_n ?_
      refine KThen_n (hk3 _ _ ?_)
      refine W_rn ?_
      refine KLoopM_n (IntKind.wrap .i64 (x3 + 1)) () hm ?_
      exact ls
    ·rw [if_neg h2] at hm
     refine W_condf rfl (decide_eq_false h2) ?_
     refine W_exit ?_
     have ho6 := out_eq hm hr1
     subst ho6
     replace hm : ref_SameInts_j1 = some r := hm1
     refine KThen_x ?_
     refine KLoopM_x ?_
     refine KBlock_hit ?_
     refine KJoinM_n () () hm ?_
     exact ls
  ·rintro _ _ hm
   replace hm : ref_SameInts_j1 = some r := hm
   refine W_eqm ?_
   unfold ref_SameInts_j1 at hm
   refine W_rg [] ?_
   refine W_ret ?_
   refine KBody_ret [] ?_
   obtain rfl := Option.some.inj hm
   exact en
end Pam

/- the walk of ref_SameImage, printed by a program of ours -/
namespace Pam
open Go Go.Proofs
set_option maxRecDepth 100000 in
set_option maxHeartbeats 1000000 in
theorem ref_SameImage_ok (p1 : TImage) (p2 : TImage) (r : Bool) (hm : ref_SameImage p1 p2 = some r) : SpecF Try.prog 22 [.a [.int .i64 p1.cells, .int .i64 p1.regs, .int .i64 p1.cost, .tree 1 (p1.put.map (eK .i64)), .tree 1 (p1.bools.map (eK .i64)), .tree 1 (p1.get.map (eK .i64)), .tree 6 (p1.code.map TIns.enc)], .a [.int .i64 p2.cells, .int .i64 p2.regs, .int .i64 p2.cost, .tree 1 (p2.put.map (eK .i64)), .tree 1 (p2.bools.map (eK .i64)), .tree 1 (p2.get.map (eK .i64)), .tree 6 (p2.code.map TIns.enc)]] (.c (.bool r)) := by
 refine Spec_ofD 76 [.tmp 4] Try.func22 rfl rfl rfl (by kernel_rfl) (by simp) ?_
 refine W_eqf ?_
 unfold ref_SameImage at hm
 refine W_rg [0, 1, 4] ?_
 refine W_seq_k fun k1 hk1 => ?_
 by_cases h1 : ¬ p1.cells = p2.cells
 ·rw [if_pos h1] at hm
  have h1b : (p1.cells != p2.cells) = true := bne_iff_ne.2 h1
  refine W_rgx h1b [6, 7, 8, 9, 10, 11, 12, 13, 14, 15, 16, 17, 18, 19, 20, 21, 22, 23, 24, 25, 26, 27, 28, 29, 30, 31, 32, 33, 34, 35, 36, 37, 38, 39, 40, 41, 42, 43, 44, 45, 46, 47, 48, 49, 50, 51, 52, 53, 54, 55, 56] ?_
  refine W_condt rfl rfl ?_
  refine W_rg [2, 3, 57] ?_
  refine W_ret ?_
  refine KThen_r ?_
  refine KBody_ret [] ?_
  obtain rfl := Option.some.inj hm
  exact en
 ·rw [if_neg h1] at hm
  have h1b : (p1.cells != p2.cells) = false := bne_eq_false_iff_eq.2 (Decidable.not_not.1 h1)
  by_cases h2 : ¬ p1.regs = p2.regs
  ·rw [if_pos h2] at hm
   have h2b : (p1.regs != p2.regs) = true := bne_iff_ne.2 h2
   refine W_rgx (a2 h1b h2b) [6, 7, 8, 9, 10, 11, 12, 13, 14, 15, 16, 17, 18, 19, 20, 21, 22, 23, 24, 25, 26, 27, 28, 29, 30, 31, 32, 33, 34, 35, 36, 37, 38, 39, 40, 41, 42, 43, 44, 45, 46, 47, 48, 49, 50, 51, 52, 53, 54, 55, 56] ?_
   refine W_condt rfl rfl ?_
   refine W_rg [2, 3, 57] ?_
   refine W_ret ?_
   refine KThen_r ?_
   refine KBody_ret [] ?_
   obtain rfl := Option.some.inj hm
   exact en
  ·rw [if_neg h2] at hm
   have h2b : (p1.regs != p2.regs) = false := bne_eq_false_iff_eq.2 (Decidable.not_not.1 h2)
   by_cases h3 : ¬ p1.cost = p2.cost
   ·rw [if_pos h3] at hm
    have h3b : (p1.cost != p2.cost) = true := bne_iff_ne.2 h3
    refine W_rgx (a2 h1b (a2 h2b h3b)) [6, 7, 8, 9, 10, 11, 12, 13, 14, 15, 16, 17, 18, 19, 20, 21, 22, 23, 24, 25, 26, 27, 28, 29, 30, 31, 32, 33, 34, 35, 36, 37, 38, 39, 40, 41, 42, 43, 44, 45, 46, 47, 48, 49, 50, 51, 52, 53, 54, 55, 56] ?_
    refine W_condt rfl rfl ?_
    refine W_rg [2, 3, 57] ?_
    refine W_ret ?_
    refine KThen_r ?_
    refine KBody_ret [] ?_
    obtain rfl := Option.some.inj hm
    exact en
   ·rw [if_neg h3] at hm
    have h3b : (p1.cost != p2.cost) = false := bne_eq_false_iff_eq.2 (Decidable.not_not.1 h3)
    refine W_regF [6, 7, 8, 9, 10, 11, 12, 13, 14, 15, 16, 17, 18, 19, 20, 21, 22, 23, 24, 25, 26, 27, 28, 29, 30, 31, 32, 33, 34, 35, 36, 37, 38, 39, 40, 41, 42, 43, 44, 45, 46, 47, 48, 49, 50, 51, 52, 53, 54, 55, 56] fun k kp hk hp => ?_
    refine gox (a2 h1b (a2 h2b h3b)) ?_
    obtain ⟨y1, hc4, hm⟩ := bd hm
    refine RP (fun _ => ref_SameInts_ok p1.put p2.put _ hc4) ?_
    by_cases h5 : y1 = true
    ·rw [if_pos h5] at hm
     have h5b : y1 = true := h5
     have h5c : (!y1) = false := by rw [h5b]; rfl
     refine RunRest_ops ?_
     refine gox (a2 h1b (a2 h2b (a2 h3b (a2 h5b h5c)))) ?_
     obtain ⟨y2, hc6, hm⟩ := bd hm
     refine RP (fun _ => ref_SameInts_ok p1.bools p2.bools _ hc6) ?_
     by_cases h7 : y2 = true
     ·rw [if_pos h7] at hm
      have h7b : y2 = true := h7
      have h7c : (!y2) = false := by rw [h7b]; rfl
      refine RunRest_ops ?_
      refine gox (a2 h1b (a2 h2b (a2 h3b (a2 h5b (a2 h5c (a2 h7b h7c)))))) ?_
      obtain ⟨y3, hc8, hm⟩ := bd hm
      refine RP (fun _ => ref_SameInts_ok p1.get p2.get _ hc8) ?_
      by_cases h9 : y3 = true
      ·rw [if_pos h9] at hm
       have h9b : y3 = true := h9
       have h9c : (!y3) = false := by rw [h9b]; rfl
       refine RunRest_ops ?_
       refine gox (a2 h1b (a2 h2b (a2 h3b (a2 h5b (a2 h5c (a2 h7b (a2 h7c (a2 h9b h9c)))))))) ?_
       refine hk _ _ ?_
       clear hk hp k kp
       by_cases h10 : ¬ (p1.code.length : Int) = (p2.code.length : Int)
       ·rw [if_pos h10] at hm
        refine W_condt rfl (bne_iff_ne.2 h10) ?_
        refine W_rg [2, 3, 57] ?_
        refine W_ret ?_
        refine KThen_r ?_
        refine KBody_ret [] ?_
        obtain rfl := Option.some.inj hm
        exact en
       ·rw [if_neg h10] at hm
        refine W_condf rfl (bne_eq_false_iff_eq.2 (Decidable.not_not.1 h10)) ?_
        refine W_skip ?_
        refine KThen_n (hk1 _ _ ?_)
        refine W_joinM (S := Unit) (V := Unit) [2, 3, 4, 5, 57, 58, 59, 60, 61, 62, 63, 64, 65, 66, 67, 68, 69, 70, 71, 72, 73, 74, 75] (fun _ _ => []) (fun _ _ => [.box [.int .i64 p1.cells, .int .i64 p1.regs, .int .i64 p1.cost, .tree 1 (p1.put.map (eK .i64)), .tree 1 (p1.bools.map (eK .i64)), .tree 1 (p1.get.map (eK .i64)), .tree 6 (p1.code.map TIns.enc)], .box [.int .i64 p2.cells, .int .i64 p2.regs, .int .i64 p2.cost, .tree 1 (p2.put.map (eK .i64)), .tree 1 (p2.bools.map (eK .i64)), .tree 1 (p2.get.map (eK .i64)), .tree 6 (p2.code.map TIns.enc)]]) (fun _ => ref_SameImage_j1 = some r) ?_ ?_
        ·skip
         refine W_rg [57] ?_
         refine W_block ?_
         obtain ⟨o1, hl1, hm1⟩ := bd hm
         refine W_loopM (S := Int) (V := Unit) (O := Unit ⊕ Bool) [4, 5, 58, 59, 60, 61, 62, 63, 64, 65, 66, 67, 68, 69, 70, 71, 72, 73, 74, 75] (fun x6 _ => [(5, .c (.int .i64 x6))]) (fun x6 _ => [.box [.int .i64 p1.cells, .int .i64 p1.regs, .int .i64 p1.cost, .tree 1 (p1.put.map (eK .i64)), .tree 1 (p1.bools.map (eK .i64)), .tree 1 (p1.get.map (eK .i64)), .tree 6 (p1.code.map TIns.enc)], .box [.int .i64 p2.cells, .int .i64 p2.regs, .int .i64 p2.cost, .tree 1 (p2.put.map (eK .i64)), .tree 1 (p2.bools.map (eK .i64)), .tree 1 (p2.get.map (eK .i64)), .tree 6 (p2.code.map TIns.enc)]]) _ _ () hl1 ?_ ?_
         ·exact ls
         ·rintro x6 _ r1 hm hr1
          replace hm : ref_SameImage_l1 p1 p2 x6 = some r1 := hm
          refine W_eqm ?_
          unfold ref_SameImage_l1 at hm
          refine W_seq_k fun k2 hk2 => ?_
          refine W_rg [58, 59, 60, 61] ?_
          by_cases h11 : x6 < (p1.code.length : Int)
          ·rw [if_pos h11] at hm
           refine W_condt rfl (decide_eq_true h11) ?_
           refine W_skip ?_
           refine KThen_n (hk2 _ _ ?_)
           refine W_seq_k fun k3 hk3 => ?_
           refine W_block ?_
           obtain ⟨⟨hg12a, hg12b⟩, hm⟩ := gd hm
           refine W_agx (a2 (em TIns.enc p1.code x6.toNat) (em TIns.enc p2.code x6.toNat)) [62, 65, 66, 67, 68, 69, 70, 71, 72, 73, 74] [0, 1, 0, 7, 15, 0, 32, 0, 224, 480, 1023] [false, false, false, false, false, false, false, false, false, false, true] ?_
           by_cases h13 : ((p1.code.getD x6.toNat default).op) = ((p2.code.getD x6.toNat default).op) ∧ ((p1.code.getD x6.toNat default).k) = ((p2.code.getD x6.toNat default).k) ∧ ((p1.code.getD x6.toNat default).r_) = ((p2.code.getD x6.toNat default).r_) ∧ ((p1.code.getD x6.toNat default).a) = ((p2.code.getD x6.toNat default).a) ∧ ((p1.code.getD x6.toNat default).b) = ((p2.code.getD x6.toNat default).b) ∧ ((p1.code.getD x6.toNat default).n) = ((p2.code.getD x6.toNat default).n)
           ·rw [if_pos h13] at hm
            refine W_condf rfl (by rw [show ((((p1.code.getD x6.toNat default).op) == ((p2.code.getD x6.toNat default).op)) && ((((p1.code.getD x6.toNat default).k) == ((p2.code.getD x6.toNat default).k)) && ((((p1.code.getD x6.toNat default).r_) == ((p2.code.getD x6.toNat default).r_)) && ((((p1.code.getD x6.toNat default).a) == ((p2.code.getD x6.toNat default).a)) && ((((p1.code.getD x6.toNat default).b) == ((p2.code.getD x6.toNat default).b)) && (((p1.code.getD x6.toNat default).n) == ((p2.code.getD x6.toNat default).n))))))) = true from (by simpa [Bool.and_eq_true] using h13)]; rfl) ?_
            refine W_skip ?_
            refine KBlock_n ?_
            refine KThen_n (hk3 _ _ ?_)
            refine W_rn ?_
            refine KLoopM_n (IntKind.wrap .i64 (x6 + 1)) () hm ?_
            exact ls
           ·rw [if_neg h13] at hm
            refine W_condt rfl (by rw [show ((((p1.code.getD x6.toNat default).op) == ((p2.code.getD x6.toNat default).op)) && ((((p1.code.getD x6.toNat default).k) == ((p2.code.getD x6.toNat default).k)) && ((((p1.code.getD x6.toNat default).r_) == ((p2.code.getD x6.toNat default).r_)) && ((((p1.code.getD x6.toNat default).a) == ((p2.code.getD x6.toNat default).a)) && ((((p1.code.getD x6.toNat default).b) == ((p2.code.getD x6.toNat default).b)) && (((p1.code.getD x6.toNat default).n) == ((p2.code.getD x6.toNat default).n))))))) = false from (Bool.eq_false_iff.2 (fun hh => h13 (by simpa [Bool.and_eq_true] using hh)))]; rfl) ?_
            refine W_rg [2, 3, 5, 75] ?_
            have ho14 := out_eq hm hr1
            subst ho14
            replace hm : some false = some r := hm1
            refine W_ret ?_
            refine KBlock_r ?_
            refine KThen_r ?_
            refine KLoopM_r ?_
            refine KBlock_r ?_
            refine KJoinM_r ?_
            refine KBody_ret [] ?_
            obtain rfl := Option.some.inj hm
            exact en
          ·rw [if_neg h11] at hm
           refine W_condf rfl (decide_eq_false h11) ?_
           refine W_exit ?_
           have ho15 := out_eq hm hr1
           subst ho15
           replace hm : ref_SameImage_j1 = some r := hm1
           refine KThen_x ?_
           refine KLoopM_x ?_
           refine KBlock_hit ?_
           refine KJoinM_n () () hm ?_
           exact ls
        ·rintro _ _ hm
         replace hm : ref_SameImage_j1 = some r := hm
         refine W_eqm ?_
         unfold ref_SameImage_j1 at hm
         refine W_rg [] ?_
         refine W_ret ?_
         refine KBody_ret [] ?_
         obtain rfl := Option.some.inj hm
         exact en
      ·rw [if_neg h9] at hm
       have h9b : y3 = false := Bool.eq_false_iff.2 h9
       have h9c : (!y3) = true := by rw [h9b]; rfl
       refine RunRest_ops ?_
       refine gox (a2 h1b (a2 h2b (a2 h3b (a2 h5b (a2 h5c (a2 h7b (a2 h7c (a2 h9b h9c)))))))) ?_
       refine hk _ _ ?_
       clear hk hp k kp
       refine W_condt rfl rfl ?_
       refine W_rg [2, 3, 57] ?_
       refine W_ret ?_
       refine KThen_r ?_
       refine KBody_ret [] ?_
       obtain rfl := Option.some.inj hm
       exact en
     ·rw [if_neg h7] at hm
      have h7b : y2 = false := Bool.eq_false_iff.2 h7
      have h7c : (!y2) = true := by rw [h7b]; rfl
      refine RunRest_ops ?_
      refine gox (a2 h1b (a2 h2b (a2 h3b (a2 h5b (a2 h5c (a2 h7b h7c)))))) ?_
      refine hk _ _ ?_
      clear hk hp k kp
      refine W_condt rfl rfl ?_
      refine W_rg [2, 3, 57] ?_
      refine W_ret ?_
      refine KThen_r ?_
      refine KBody_ret [] ?_
      obtain rfl := Option.some.inj hm
      exact en
    ·rw [if_neg h5] at hm
     have h5b : y1 = false := Bool.eq_false_iff.2 h5
     have h5c : (!y1) = true := by rw [h5b]; rfl
     refine RunRest_ops ?_
     refine gox (a2 h1b (a2 h2b (a2 h3b (a2 h5b h5c)))) ?_
     refine hk _ _ ?_
     clear hk hp k kp
     refine W_condt rfl rfl ?_
     refine W_rg [2, 3, 57] ?_
     refine W_ret ?_
     refine KThen_r ?_
     refine KBody_ret [] ?_
     obtain rfl := Option.some.inj hm
     exact en
end Pam

/- the walk of law_sameRows, printed by a program of ours -/
namespace Pam
open Go Go.Proofs
set_option maxRecDepth 100000 in
set_option maxHeartbeats 1000000 in
theorem law_sameRows_ok (p1 : List (List Int)) (p2 : List (List Int)) (r : Bool) (hm : law_sameRows p1 p2 = some r) : SpecF Try.prog 44 [.c (.tree 1 (p1.map (eL 1 (eK .i64)))), .c (.tree 1 (p2.map (eL 1 (eK .i64))))] (.c (.bool r)) := by
 refine Spec_ofD 27 [.tmp 4] Try.func44 rfl rfl rfl (by kernel_rfl) (by simp) ?_
 refine W_eqf ?_
 unfold law_sameRows at hm
 refine W_rg [4] ?_
 refine W_seq_k fun k1 hk1 => ?_
 refine W_rg [6, 7, 8, 9] ?_
 by_cases h1 : ¬ (p1.length : Int) = (p2.length : Int)
 ·rw [if_pos h1] at hm
  refine W_condt rfl (bne_iff_ne.2 h1) ?_
  refine W_rg [0, 1, 10] ?_
  refine W_ret ?_
  refine KThen_r ?_
  refine KBody_ret [] ?_
  obtain rfl := Option.some.inj hm
  exact en
 ·rw [if_neg h1] at hm
  refine W_condf rfl (bne_eq_false_iff_eq.2 (Decidable.not_not.1 h1)) ?_
  refine W_skip ?_
  refine KThen_n (hk1 _ _ ?_)
  refine W_joinM (S := Unit) (V := Unit) [0, 1, 4, 5, 10, 11, 12, 13, 14, 15, 16, 17, 18, 19, 20, 21, 22, 23, 24, 25, 26] (fun _ _ => []) (fun _ _ => []) (fun _ => law_sameRows_j1 = some r) ?_ ?_
  ·skip
   refine W_rg [10] ?_
   refine W_block ?_
   obtain ⟨o1, hl1, hm1⟩ := bd hm
   refine W_loopM (S := Int) (V := Unit) (O := Unit ⊕ Bool) [4, 5, 11, 12, 13, 14, 15, 16, 17, 18, 19, 20, 21, 22, 23, 24, 25, 26] (fun x3 _ => [(5, .c (.int .i64 x3))]) (fun x3 _ => []) _ _ () hl1 ?_ ?_
   ·exact ls
   ·rintro x3 _ r1 hm hr1
    replace hm : law_sameRows_l1 p1 p2 x3 = some r1 := hm
    refine W_eqm ?_
    unfold law_sameRows_l1 at hm
    refine W_seq_k fun k2 hk2 => ?_
    refine W_rg [11, 12, 13] ?_
    by_cases h2 : x3 < (p1.length : Int)
    ·rw [if_pos h2] at hm
     refine W_condt rfl (decide_eq_true h2) ?_
     refine W_skip ?_
     refine KThen_n (hk2 _ _ ?_)
     refine W_seq_k fun k3 hk3 => ?_
     refine W_block ?_
     obtain ⟨⟨hg3a, hg3b⟩, hm⟩ := gd hm
     refine W_anyF [14, 17, 18, 19, 20, 21, 22, 23, 24, 25] (by kernel_rfl) [0, 0, 3, 7, 0, 0, 48, 112, 255, 511] [false, false, false, false, false, false, false, false, true, true] (by kernel_rfl) fun k hk => ?_
     refine gax (a2 (em (eL 1 (eK .i64)) p1 x3.toNat) (em (eL 1 (eK .i64)) p2 x3.toNat)) ?_
     obtain ⟨y4, hc4, hm⟩ := bd hm
     refine AP (fun _ => ref_SameLongs_ok (p1.getD x3.toNat default) (p2.getD x3.toNat default) _ hc4) ?_
     refine ga ?_
     refine hk _ _ ?_
     clear hk k
     by_cases h5 : y4 = true
     ·rw [if_pos h5] at hm
      refine W_condf rfl (by rw [show y4 = true from (h5)]; rfl) ?_
      refine W_skip ?_
      refine KBlock_n ?_
      refine KThen_n (hk3 _ _ ?_)
      refine W_rn ?_
      refine KLoopM_n (IntKind.wrap .i64 (x3 + 1)) () hm ?_
      exact ls
     ·rw [if_neg h5] at hm
      refine W_condt rfl (by rw [show y4 = false from (Bool.eq_false_iff.2 h5)]; rfl) ?_
      refine W_rg [0, 1, 5, 26] ?_
      have ho6 := out_eq hm hr1
      subst ho6
      replace hm : some false = some r := hm1
      refine W_ret ?_
      refine KBlock_r ?_
      refine KThen_r ?_
      refine KLoopM_r ?_
      refine KBlock_r ?_
      refine KJoinM_r ?_
      refine KBody_ret [] ?_
      obtain rfl := Option.some.inj hm
      exact en
    ·rw [if_neg h2] at hm
     refine W_condf rfl (decide_eq_false h2) ?_
     refine W_exit ?_
     have ho7 := out_eq hm hr1
     subst ho7
     replace hm : law_sameRows_j1 = some r := hm1
     refine KThen_x ?_
     refine KLoopM_x ?_
     refine KBlock_hit ?_
     refine KJoinM_n () () hm ?_
     exact ls
  ·rintro _ _ hm
   replace hm : law_sameRows_j1 = some r := hm
   refine W_eqm ?_
   unfold law_sameRows_j1 at hm
   refine W_rg [] ?_
   refine W_ret ?_
   refine KBody_ret [] ?_
   obtain rfl := Option.some.inj hm
   exact en
end Pam

/- the walk of ref_In, printed by a program of ours -/
namespace Pam
open Go Go.Proofs
set_option maxRecDepth 100000 in
set_option maxHeartbeats 1000000 in
theorem ref_In_ok (p1 : List Int) (p2 : Int) (r : Bool) (hm : ref_In p1 p2 = some r) : SpecF Try.prog 93 [.c (.tree 1 (p1.map (eK .i64))), .c (.int .i64 p2)] (.c (.bool r)) := by
 refine Spec_ofD 18 [.tmp 4] Try.func93 rfl rfl rfl (by kernel_rfl) (by simp) ?_
 refine W_eqf ?_
 unfold ref_In at hm
 refine W_rg [4] ?_
 refine W_joinM (S := Unit) (V := Unit) [0, 1, 4, 5, 6, 7, 8, 9, 10, 11, 12, 13, 14, 15, 16, 17] (fun _ _ => []) (fun _ _ => []) (fun _ => ref_In_j1 = some r) ?_ ?_
 ·skip
  refine W_rg [] ?_
  refine W_block ?_
  obtain ⟨o1, hl1, hm1⟩ := bd hm
  refine W_loopM (S := Int) (V := Unit) (O := Unit ⊕ Bool) [4, 5, 6, 7, 8, 9, 10, 11, 12, 13, 14, 15, 16, 17] (fun x3 _ => [(5, .c (.int .i64 x3))]) (fun x3 _ => []) _ _ () hl1 ?_ ?_
  ·exact ls
  ·rintro x3 _ r1 hm hr1
   replace hm : ref_In_l1 p1 p2 x3 = some r1 := hm
   refine W_eqm ?_
   unfold ref_In_l1 at hm
   refine W_seq_k fun k1 hk1 => ?_
   refine W_rg [6, 7, 8] ?_
   by_cases h1 : x3 < (p1.length : Int)
   ·rw [if_pos h1] at hm
    refine W_condt rfl (decide_eq_true h1) ?_
    refine W_skip ?_
    refine KThen_n (hk1 _ _ ?_)
    refine W_seq_k fun k2 hk2 => ?_
    refine W_block ?_
    obtain ⟨hg2a, hm⟩ := gd hm
    refine W_rgx (em (eK .i64) p1 x3.toNat) [9, 12, 13, 14, 15, 16] ?_
    by_cases h3 : (p1.getD x3.toNat default) = p2
    ·rw [if_pos h3] at hm
     refine W_condt rfl (beq_iff_eq.2 h3) ?_
     refine W_rg [0, 1, 5, 17] ?_
     have ho4 := out_eq hm hr1
     subst ho4
     replace hm : some true = some r := hm1
     refine W_ret ?_
     refine KBlock_r ?_
     refine KThen_r ?_
     refine KLoopM_r ?_
     refine KBlock_r ?_
     refine KJoinM_r ?_
     refine KBody_ret [] ?_
     obtain rfl := Option.some.inj hm
     exact en
    ·rw [if_neg h3] at hm
     refine W_condf rfl (beq_eq_false_iff_ne.2 h3) ?_
     refine W_skip ?_
     refine KBlock_n ?_
     refine KThen_n (hk2 _ _ ?_)
     refine W_rn ?_
     refine KLoopM_n (IntKind.wrap .i64 (x3 + 1)) () hm ?_
     exact ls
   ·rw [if_neg h1] at hm
    refine W_condf rfl (decide_eq_false h1) ?_
    refine W_exit ?_
    have ho5 := out_eq hm hr1
    subst ho5
    replace hm : ref_In_j1 = some r := hm1
    refine KThen_x ?_
    refine KLoopM_x ?_
    refine KBlock_hit ?_
    refine KJoinM_n () () hm ?_
    exact ls
 ·rintro _ _ hm
  replace hm : ref_In_j1 = some r := hm
  refine W_eqm ?_
  unfold ref_In_j1 at hm
  refine W_rg [] ?_
  refine W_ret ?_
  refine KBody_ret [] ?_
  obtain rfl := Option.some.inj hm
  exact en
end Pam

/- the walk of ref_Apply, printed by a program of ours -/
namespace Pam
open Go Go.Proofs
set_option maxRecDepth 100000 in
set_option maxHeartbeats 1000000 in
theorem ref_Apply_ok (p1 : Int) (p2 : Int) (p3 : Int) (r : Int) (hm : ref_Apply p1 p2 p3 = some r) : SpecF Try.prog 87 [.c (.int .i64 p1), .c (.int .i64 p2), .c (.int .i64 p3)] (.c (.int .i64 r)) := by
 refine Spec_ofD 106 [.tmp 6] Try.func87 rfl rfl rfl (by kernel_rfl) (by simp) ?_
 refine W_eqf ?_
 unfold ref_Apply at hm
 refine W_rg [6] ?_
 refine W_rg [] ?_
 refine W_joinM (S := Bool) (V := Unit) [0, 1, 2, 6, 7, 8, 9, 10, 11, 12, 13, 14, 15, 16, 17, 18, 19, 20, 21, 22, 23, 24, 25, 26, 27, 28, 29, 30, 31, 32, 33, 34, 35, 36, 37, 38, 39, 40, 41, 42, 43, 44, 45, 46, 47, 48, 49, 50, 51, 52, 53, 54, 55, 56, 57, 58, 59, 60, 61, 62, 63, 64, 65, 66, 67, 68, 69, 70, 71, 72, 73, 74, 75, 76, 77, 78, 79, 80, 81, 82, 83, 84, 85, 86, 87, 88, 89, 90, 91, 92, 93, 94, 95, 96, 97, 98, 99, 100, 101, 102, 103, 104] (fun b1 _ => [(7, .c (.bool b1))]) (fun b1 _ => []) (fun b1 => ref_Apply_j1 b1 = some r) ?_ ?_
 ·skip
  refine W_rg [0] ?_
  refine W_block ?_
  refine W_rg [10] ?_
  by_cases h2 : p1 = 1
  ·rw [if_pos h2] at hm
   refine W_condt rfl (beq_iff_eq.2 h2) ?_
   refine W_rg [1, 2, 7, 8, 9, 11, 12, 13] ?_
   refine W_ret ?_
   refine KBlock_r ?_
   refine KJoinM_r ?_
   refine KBody_ret [] ?_
   obtain rfl := Option.some.inj hm
   exact en
  ·rw [if_neg h2] at hm
   refine W_condf rfl (beq_eq_false_iff_ne.2 h2) ?_
   refine W_rg [9, 15] ?_
   by_cases h3 : p1 = 2
   ·rw [if_pos h3] at hm
    refine W_condt rfl (beq_iff_eq.2 h3) ?_
    refine W_rg [1, 2, 7, 8, 14, 16, 17, 18] ?_
    refine W_ret ?_
    refine KBlock_r ?_
    refine KJoinM_r ?_
    refine KBody_ret [] ?_
    obtain rfl := Option.some.inj hm
    exact en
   ·rw [if_neg h3] at hm
    refine W_condf rfl (beq_eq_false_iff_ne.2 h3) ?_
    refine W_rg [14, 20] ?_
    by_cases h4 : p1 = 3
    ·rw [if_pos h4] at hm
     refine W_condt rfl (beq_iff_eq.2 h4) ?_
     refine W_rg [1, 2, 7, 8, 19, 21, 22, 23] ?_
     refine W_ret ?_
     refine KBlock_r ?_
     refine KJoinM_r ?_
     refine KBody_ret [] ?_
     obtain rfl := Option.some.inj hm
     exact en
    ·rw [if_neg h4] at hm
     refine W_condf rfl (beq_eq_false_iff_ne.2 h4) ?_
     refine W_rg [19, 25] ?_
     by_cases h5 : p1 = 13
     ·rw [if_pos h5] at hm
      refine W_condt rfl (beq_iff_eq.2 h5) ?_
      refine W_rg [1, 2, 7, 8, 24, 26, 27] ?_
      refine W_ret ?_
      refine KBlock_r ?_
      refine KJoinM_r ?_
      refine KBody_ret [] ?_
      obtain rfl := Option.some.inj hm
      exact en
     ·rw [if_neg h5] at hm
      refine W_condf rfl (beq_eq_false_iff_ne.2 h5) ?_
      refine W_rg [24, 29] ?_
      by_cases h6 : p1 = 4
      ·rw [if_pos h6] at hm
       refine W_condt rfl (beq_iff_eq.2 h6) ?_
       refine W_seq_k fun k2 hk2 => ?_
       refine W_rg [7, 8, 28, 30] ?_
       by_cases h7 : p3 = 0
       ·rw [if_pos h7] at hm
        refine W_condt rfl (beq_iff_eq.2 h7) ?_
        refine W_rg [1, 2, 31] ?_
        refine W_ret ?_
        refine KThen_r ?_
        refine KBlock_r ?_
        refine KJoinM_r ?_
        refine KBody_ret [] ?_
        obtain rfl := Option.some.inj hm
        exact en
       ·rw [if_neg h7] at hm
        refine W_condf rfl (beq_eq_false_iff_ne.2 h7) ?_
        refine W_skip ?_
        refine KThen_n (hk2 _ _ ?_)
        refine W_seq_k fun k3 hk3 => ?_
        refine W_rg [31, 32] ?_
        by_cases h8 : p3 = (-1)
        ·rw [if_pos h8] at hm
         refine W_condt rfl (beq_iff_eq.2 h8) ?_
         refine W_rg [1, 2, 33, 34, 35] ?_
         refine W_ret ?_
         refine KThen_r ?_
         refine KBlock_r ?_
         refine KJoinM_r ?_
         refine KBody_ret [] ?_
         obtain rfl := Option.some.inj hm
         exact en
        ·rw [if_neg h8] at hm
         refine W_condf rfl (beq_eq_false_iff_ne.2 h8) ?_
         refine W_skip ?_
         refine KThen_n (hk3 _ _ ?_)
         obtain ⟨hg9a, hm⟩ := gd hm
         refine W_rg [1, 2, 33, 36, 37, 38] ?_
         refine W_ret ?_
         refine KBlock_r ?_
         refine KJoinM_r ?_
         refine KBody_ret [] ?_
         obtain rfl := Option.some.inj hm
         exact en
      ·rw [if_neg h6] at hm
       refine W_condf rfl (beq_eq_false_iff_ne.2 h6) ?_
       refine W_rg [28, 40] ?_
       by_cases h10 : p1 = 5
       ·rw [if_pos h10] at hm
        refine W_condt rfl (beq_iff_eq.2 h10) ?_
        refine W_seq_k fun k4 hk4 => ?_
        by_cases h11 : p3 = 0
        ·rw [if_pos h11] at hm
         have h11b : (p3 == 0) = true := beq_iff_eq.2 h11
         refine W_rgx h11b [7, 8, 39, 41, 42, 43, 44, 45] ?_
         refine W_condt rfl rfl ?_
         refine W_rg [1, 2, 46] ?_
         refine W_ret ?_
         refine KThen_r ?_
         refine KBlock_r ?_
         refine KJoinM_r ?_
         refine KBody_ret [] ?_
         obtain rfl := Option.some.inj hm
         exact en
        ·rw [if_neg h11] at hm
         have h11b : (p3 == 0) = false := beq_eq_false_iff_ne.2 h11
         refine W_rgx h11b [7, 8, 39, 41, 42, 43, 44, 45] ?_
         by_cases h12 : p3 = (-1)
         ·rw [if_pos h12] at hm
          refine W_condt rfl (beq_iff_eq.2 h12) ?_
          refine W_rg [1, 2, 46] ?_
          refine W_ret ?_
          refine KThen_r ?_
          refine KBlock_r ?_
          refine KJoinM_r ?_
          refine KBody_ret [] ?_
          obtain rfl := Option.some.inj hm
          exact en
         ·rw [if_neg h12] at hm
          refine W_condf rfl (beq_eq_false_iff_ne.2 h12) ?_
          refine W_skip ?_
          refine KThen_n (hk4 _ _ ?_)
          obtain ⟨hg13a, hm⟩ := gd hm
          refine W_rg [1, 2, 46, 47, 48, 49, 50, 51, 52, 53] ?_
          refine W_ret ?_
          refine KBlock_r ?_
          refine KJoinM_r ?_
          refine KBody_ret [] ?_
          obtain rfl := Option.some.inj hm
          exact en
       ·rw [if_neg h10] at hm
        refine W_condf rfl (beq_eq_false_iff_ne.2 h10) ?_
        refine W_rg [39, 55] ?_
        by_cases h14 : p1 = 6
        ·rw [if_pos h14] at hm
         refine W_condt rfl (beq_iff_eq.2 h14) ?_
         refine W_seq_k fun k5 hk5 => ?_
         refine W_rg [7, 8, 54, 56, 57] ?_
         by_cases h15 : p3 < p2
         ·rw [if_pos h15] at hm
          refine W_condt rfl (decide_eq_true h15) ?_
          refine W_rg [1, 2, 58, 59] ?_
          refine W_ret ?_
          refine KThen_r ?_
          refine KBlock_r ?_
          refine KJoinM_r ?_
          refine KBody_ret [] ?_
          obtain rfl := Option.some.inj hm
          exact en
         ·rw [if_neg h15] at hm
          refine W_condf rfl (decide_eq_false h15) ?_
          refine W_skip ?_
          refine KThen_n (hk5 _ _ ?_)
          refine W_rg [1, 2, 58, 60] ?_
          refine W_ret ?_
          refine KBlock_r ?_
          refine KJoinM_r ?_
          refine KBody_ret [] ?_
          obtain rfl := Option.some.inj hm
          exact en
        ·rw [if_neg h14] at hm
         refine W_condf rfl (beq_eq_false_iff_ne.2 h14) ?_
         refine W_rg [54, 62] ?_
         by_cases h16 : p1 = 7
         ·rw [if_pos h16] at hm
          refine W_condt rfl (beq_iff_eq.2 h16) ?_
          refine W_seq_k fun k6 hk6 => ?_
          refine W_rg [7, 8, 61, 63, 64] ?_
          by_cases h17 : p3 > p2
          ·rw [if_pos h17] at hm
           refine W_condt rfl (decide_eq_true h17) ?_
           refine W_rg [1, 2, 65, 66] ?_
           refine W_ret ?_
           refine KThen_r ?_
           refine KBlock_r ?_
           refine KJoinM_r ?_
           refine KBody_ret [] ?_
           obtain rfl := Option.some.inj hm
           exact en
          ·rw [if_neg h17] at hm
           refine W_condf rfl (decide_eq_false h17) ?_
           refine W_skip ?_
           refine KThen_n (hk6 _ _ ?_)
           refine W_rg [1, 2, 65, 67] ?_
           refine W_ret ?_
           refine KBlock_r ?_
           refine KJoinM_r ?_
           refine KBody_ret [] ?_
           obtain rfl := Option.some.inj hm
           exact en
         ·rw [if_neg h16] at hm
          refine W_condf rfl (beq_eq_false_iff_ne.2 h16) ?_
          refine W_rg [61, 69] ?_
          by_cases h18 : p1 = 8
          ·rw [if_pos h18] at hm
           refine W_condt rfl (beq_iff_eq.2 h18) ?_
           refine W_rn ?_
           refine KBlock_n ?_
           refine KJoinM_n (decide (p2 < p3)) () hm ?_
           exact ls
          ·rw [if_neg h18] at hm
           refine W_condf rfl (beq_eq_false_iff_ne.2 h18) ?_
           refine W_rg [68, 74] ?_
           by_cases h19 : p1 = 9
           ·rw [if_pos h19] at hm
            refine W_condt rfl (beq_iff_eq.2 h19) ?_
            refine W_rn ?_
            refine KBlock_n ?_
            refine KJoinM_n (p2 == p3) () hm ?_
            exact ls
           ·rw [if_neg h19] at hm
            refine W_condf rfl (beq_eq_false_iff_ne.2 h19) ?_
            refine W_rg [73, 79] ?_
            by_cases h20 : p1 = 10
            ·rw [if_pos h20] at hm
             refine W_condt rfl (beq_iff_eq.2 h20) ?_
             by_cases h21 : ¬ p2 = 0
             ·rw [if_pos h21] at hm
              have h21b : (p2 != 0) = true := bne_iff_ne.2 h21
              refine W_rnx h21b ?_
              refine KBlock_n ?_
              refine KJoinM_n (p3 != 0) () hm ?_
              exact ls
             ·rw [if_neg h21] at hm
              have h21b : (p2 != 0) = false := bne_eq_false_iff_eq.2 (Decidable.not_not.1 h21)
              refine W_rnx h21b ?_
              refine KBlock_n ?_
              refine KJoinM_n false () hm ?_
              exact ls
            ·rw [if_neg h20] at hm
             refine W_condf rfl (beq_eq_false_iff_ne.2 h20) ?_
             refine W_rg [78, 87] ?_
             by_cases h22 : p1 = 11
             ·rw [if_pos h22] at hm
              refine W_condt rfl (beq_iff_eq.2 h22) ?_
              by_cases h23 : ¬ p2 = 0
              ·rw [if_pos h23] at hm
               have h23b : (p2 != 0) = true := bne_iff_ne.2 h23
               refine W_rnx h23b ?_
               refine KBlock_n ?_
               refine KJoinM_n true () hm ?_
               exact ls
              ·rw [if_neg h23] at hm
               have h23b : (p2 != 0) = false := bne_eq_false_iff_eq.2 (Decidable.not_not.1 h23)
               refine W_rnx h23b ?_
               refine KBlock_n ?_
               refine KJoinM_n (p3 != 0) () hm ?_
               exact ls
             ·rw [if_neg h22] at hm
              refine W_condf rfl (beq_eq_false_iff_ne.2 h22) ?_
              refine W_rg [86, 95] ?_
              by_cases h24 : p1 = 12
              ·rw [if_pos h24] at hm
               refine W_condt rfl (beq_iff_eq.2 h24) ?_
               refine W_rn ?_
               refine KBlock_n ?_
               refine KJoinM_n (!((p2 == 0) == (p3 == 0))) () hm ?_
               exact ls
              ·rw [if_neg h24] at hm
               refine W_condf rfl (beq_eq_false_iff_ne.2 h24) ?_
               refine W_rg [2, 8, 94, 102] ?_
               by_cases h25 : p1 = 14
               ·rw [if_pos h25] at hm
                refine W_condt rfl (beq_iff_eq.2 h25) ?_
                refine W_rn ?_
                refine KBlock_n ?_
                refine KJoinM_n (p2 == 0) () hm ?_
                exact ls
               ·rw [if_neg h25] at hm
                refine W_condf rfl (beq_eq_false_iff_ne.2 h25) ?_
                refine W_skip ?_
                refine KBlock_n ?_
                refine KJoinM_n false () hm ?_
                exact ls
 ·rintro b1 _ hm
  replace hm : ref_Apply_j1 b1 = some r := hm
  refine W_eqm ?_
  unfold ref_Apply_j1 at hm
  refine W_seq_k fun k1 hk1 => ?_
  refine W_rg [7] ?_
  by_cases h1 : b1 = true
  ·rw [if_pos h1] at hm
   refine W_condt rfl (h1) ?_
   refine W_rg [105] ?_
   refine W_ret ?_
   refine KThen_r ?_
   refine KBody_ret [] ?_
   obtain rfl := Option.some.inj hm
   exact en
  ·rw [if_neg h1] at hm
   refine W_condf rfl (Bool.eq_false_iff.2 h1) ?_
   refine W_skip ?_
   refine KThen_n (hk1 _ _ ?_)
   refine W_rg [105] ?_
   refine W_ret ?_
   refine KBody_ret [] ?_
   obtain rfl := Option.some.inj hm
   exact en
end Pam

/- the walk of ref_Going_one_3, printed by a program of ours -/
namespace Pam
open Go Go.Proofs
set_option maxRecDepth 100000 in
set_option maxHeartbeats 1000000 in
theorem ref_Going_one_3_ok (p1 : TIns) (p2 : Nat) (p3 : Int) (p4 : Int) (p5 : Int) (p6 : List Int) (p7 : List Int) (p8 : List Int) (p9 : List TIns) (p10 : Int) (p11 : List Int) (p12 : List Int) (v1_ : Nat) (v2_ : Nat) (r : (Bool × Int × (List Int) × (List Int))) (hm : ref_Going_one_3 p1 p2 p3 p4 p5 p6 p7 p8 p9 p10 p11 p12 = some r) : Spec Try.prog 122 [.c (.optr 0 0), .a [.int .i64 p1.op, .int .i64 p1.k, .int .i64 p1.r_, .int .i64 p1.a, .int .i64 p1.b, .int .i64 p1.n], .c (.osl 1 v1_ 0 p2)] [.box [.int .i64 p3, .int .i64 p4, .int .i64 p5, .tree 1 (p6.map (eK .i64)), .tree 1 (p7.map (eK .i64)), .tree 1 (p8.map (eK .i64)), .tree 6 (p9.map TIns.enc), .osl 2 v2_ 0 p12.length, .int .i64 p10], .arr 1 v1_ 2 (p11.map (eK .i64)), .arr 1 v2_ 2 (p12.map (eK .i64))] (fun p σ => (p = .c (.bool r.1) ∧ σ = [.box [.int .i64 p3, .int .i64 p4, .int .i64 p5, .tree 1 (p6.map (eK .i64)), .tree 1 (p7.map (eK .i64)), .tree 1 (p8.map (eK .i64)), .tree 6 (p9.map TIns.enc), .osl 2 v2_ 0 r.2.2.2.length, .int .i64 r.2.1], .arr 1 v1_ 2 (r.2.2.1.map (eK .i64)), .arr 1 v2_ 2 (r.2.2.2.map (eK .i64))])) (fun _ _ => False) := by
 refine Spec_ofD 194 [.tmp 6] Try.func122 rfl rfl rfl (by kernel_rfl) (by simp) ?_
 refine W_eqf ?_
 unfold ref_Going_one_3 at hm
 refine W_rg [1, 6] ?_
 refine W_rg [7, 8, 9, 10, 11, 12, 13] ?_
 refine W_seq_k fun k1 hk1 => ?_
 refine W_rg [14] ?_
 refine W_block ?_
 refine W_rg [17] ?_
 by_cases h1 : p1.op = 1
 ·rw [if_pos h1] at hm
  refine W_condt rfl (beq_iff_eq.2 h1) ?_
  obtain ⟨⟨hg2a, hg2b⟩, hm⟩ := gd hm
  refine W_rnx (em (eK .i64) p11 p1.r_.toNat) ?_
  refine KBlock_n ?_
  refine KThen_n (hk1 _ _ ?_)
  refine W_rg [0, 2, 4, 15, 16, 18, 19, 20, 21, 22, 23] ?_
  refine W_eqa [.box [.int .i64 p3, .int .i64 p4, .int .i64 p5, .tree 1 (p6.map (eK .i64)), .tree 1 (p7.map (eK .i64)), .tree 1 (p8.map (eK .i64)), .tree 6 (p9.map TIns.enc), .osl 2 v2_ 0 p12.length, .int .i64 (IntKind.wrap .i64 (p10 + 1))], .arr 1 v1_ 2 ((p11.set p1.r_.toNat p1.n).map (eK .i64)), .arr 1 v2_ 2 (p12.map (eK .i64)), .box [.int .i64 p1.op, .int .i64 p1.k, .int .i64 p1.r_, .int .i64 p1.a, .int .i64 p1.b, .int .i64 p1.n]] ?_
  refine W_ret ?_
  refine KBody_ret [.box [.int .i64 p3, .int .i64 p4, .int .i64 p5, .tree 1 (p6.map (eK .i64)), .tree 1 (p7.map (eK .i64)), .tree 1 (p8.map (eK .i64)), .tree 6 (p9.map TIns.enc), .osl 2 v2_ 0 p12.length, .int .i64 (IntKind.wrap .i64 (p10 + 1))], .arr 1 v1_ 2 ((p11.set p1.r_.toNat p1.n).map (eK .i64)), .arr 1 v2_ 2 (p12.map (eK .i64))] ?_
  obtain rfl := Option.some.inj hm
  exact en
 ·rw [if_neg h1] at hm
  refine W_condf rfl (beq_eq_false_iff_ne.2 h1) ?_
  refine W_rg [16, 25] ?_
  by_cases h3 : p1.op = 2
  ·rw [if_pos h3] at hm
   refine W_condt rfl (beq_iff_eq.2 h3) ?_
   obtain ⟨⟨hg4a, hg4b, hg4c⟩, hm⟩ := gd hm
   refine W_anx (a2 (em (eK .i64) p12 p1.n.toNat) (em (eK .i64) p11 p1.r_.toNat)) [0, 0, 2, 0, 8, 24, 56, 0, 128, 504, 1016, 2047, 4095] [false, false, false, false, false, false, false, false, false, false, false, true, true] ?_
   refine KBlock_n ?_
   refine KThen_n (hk1 _ _ ?_)
   refine W_rg [0, 2, 4, 15, 24, 26, 27, 28, 29, 30, 31, 32, 33, 34, 35, 36, 37] ?_
   refine W_eqa [.box [.int .i64 p3, .int .i64 p4, .int .i64 p5, .tree 1 (p6.map (eK .i64)), .tree 1 (p7.map (eK .i64)), .tree 1 (p8.map (eK .i64)), .tree 6 (p9.map TIns.enc), .osl 2 v2_ 0 p12.length, .int .i64 (IntKind.wrap .i64 (p10 + 1))], .arr 1 v1_ 2 ((p11.set p1.r_.toNat (p12.getD p1.n.toNat default)).map (eK .i64)), .arr 1 v2_ 2 (p12.map (eK .i64)), .box [.int .i64 p1.op, .int .i64 p1.k, .int .i64 p1.r_, .int .i64 p1.a, .int .i64 p1.b, .int .i64 p1.n]] ?_
   refine W_ret ?_
   refine KBody_ret [.box [.int .i64 p3, .int .i64 p4, .int .i64 p5, .tree 1 (p6.map (eK .i64)), .tree 1 (p7.map (eK .i64)), .tree 1 (p8.map (eK .i64)), .tree 6 (p9.map TIns.enc), .osl 2 v2_ 0 p12.length, .int .i64 (IntKind.wrap .i64 (p10 + 1))], .arr 1 v1_ 2 ((p11.set p1.r_.toNat (p12.getD p1.n.toNat default)).map (eK .i64)), .arr 1 v2_ 2 (p12.map (eK .i64))] ?_
   obtain rfl := Option.some.inj hm
   exact en
  ·rw [if_neg h3] at hm
   refine W_condf rfl (beq_eq_false_iff_ne.2 h3) ?_
   refine W_rg [24, 39] ?_
   by_cases h5 : p1.op = 4
   ·rw [if_pos h5] at hm
    refine W_condt rfl (beq_iff_eq.2 h5) ?_
    obtain ⟨⟨hg6a, hg6b, hg6c⟩, hm⟩ := gd hm
    refine W_anx (a2 (em (eK .i64) p11 p1.r_.toNat) (em (eK .i64) p12 p1.n.toNat)) [0, 1, 3, 7, 0, 16, 0, 0, 128, 448, 960, 2047, 4095] [false, false, false, false, false, false, false, false, false, false, false, true, true] ?_
    refine KBlock_n ?_
    refine KThen_n (hk1 _ _ ?_)
    refine W_rg [0, 2, 4, 15, 38, 40, 41, 42, 43, 44, 45, 46, 47, 48, 49, 50, 51] ?_
    refine W_eqa [.box [.int .i64 p3, .int .i64 p4, .int .i64 p5, .tree 1 (p6.map (eK .i64)), .tree 1 (p7.map (eK .i64)), .tree 1 (p8.map (eK .i64)), .tree 6 (p9.map TIns.enc), .osl 2 v2_ 0 p12.length, .int .i64 (IntKind.wrap .i64 (p10 + 1))], .arr 1 v1_ 2 (p11.map (eK .i64)), .arr 1 v2_ 2 ((p12.set p1.n.toNat (p11.getD p1.r_.toNat default)).map (eK .i64)), .box [.int .i64 p1.op, .int .i64 p1.k, .int .i64 p1.r_, .int .i64 p1.a, .int .i64 p1.b, .int .i64 p1.n]] ?_
    refine W_ret ?_
    refine KBody_ret [.box [.int .i64 p3, .int .i64 p4, .int .i64 p5, .tree 1 (p6.map (eK .i64)), .tree 1 (p7.map (eK .i64)), .tree 1 (p8.map (eK .i64)), .tree 6 (p9.map TIns.enc), .osl 2 v2_ 0 p12.length, .int .i64 (IntKind.wrap .i64 (p10 + 1))], .arr 1 v1_ 2 (p11.map (eK .i64)), .arr 1 v2_ 2 ((p12.set p1.n.toNat (p11.getD p1.r_.toNat default)).map (eK .i64))] ?_
    obtain rfl := Option.some.inj hm
    exact en
   ·rw [if_neg h5] at hm
    refine W_condf rfl (beq_eq_false_iff_ne.2 h5) ?_
    refine W_rg [38, 53] ?_
    by_cases h7 : p1.op = 3
    ·rw [if_pos h7] at hm
     refine W_condt rfl (beq_iff_eq.2 h7) ?_
     refine W_seq_k fun k2 hk2 => ?_
     by_cases h8 : (p11.getD p1.a.toNat default) < 0
     ·rw [if_pos h8] at hm
      have h8b : decide ((p11.getD p1.a.toNat default) < 0) = true := decide_eq_true h8
      obtain ⟨⟨hg9a, hg9b⟩, hm⟩ := gd hm
      refine W_agx (a2 (em (eK .i64) p11 p1.a.toNat) h8b) [15, 52, 54, 55, 56, 57, 58, 59, 60, 61, 62, 63, 64, 65, 66, 67, 68] [0, 0, 2, 7, 15, 31, 63, 127, 127, 383, 1023, 2047, 127, 4223, 16383, 32767] [false, false, false, true, true, true, true, false, false, false, false, false, false, false, true, true] ?_
      refine W_condt rfl rfl ?_
      refine W_rg [0, 2, 4, 69] ?_
      refine W_ret ?_
      refine KThen_r ?_
      refine KBlock_r ?_
      refine KThen_r ?_
      refine KBody_ret [.box [.int .i64 p3, .int .i64 p4, .int .i64 p5, .tree 1 (p6.map (eK .i64)), .tree 1 (p7.map (eK .i64)), .tree 1 (p8.map (eK .i64)), .tree 6 (p9.map TIns.enc), .osl 2 v2_ 0 p12.length, .int .i64 (IntKind.wrap .i64 (p10 + 1))], .arr 1 v1_ 2 (p11.map (eK .i64)), .arr 1 v2_ 2 (p12.map (eK .i64))] ?_
      obtain rfl := Option.some.inj hm
      exact en
     ·rw [if_neg h8] at hm
      have h8b : decide ((p11.getD p1.a.toNat default) < 0) = false := decide_eq_false h8
      obtain ⟨⟨hg10a, hg10b⟩, hm⟩ := gd hm
      refine W_agx (a2 (em (eK .i64) p11 p1.a.toNat) h8b) [15, 52, 54, 55, 56, 57, 58, 59, 60, 61, 62, 63, 64, 65, 66, 67, 68] [0, 0, 2, 7, 15, 31, 63, 127, 127, 383, 1023, 2047, 127, 4223, 16383, 32767] [false, false, false, true, true, true, true, false, false, false, false, false, false, false, true, true] ?_
      by_cases h11 : (p11.getD p1.a.toNat default) ≥ p1.b
      ·rw [if_pos h11] at hm
       refine W_condt rfl (decide_eq_true h11) ?_
       refine W_rg [0, 2, 4, 69] ?_
       refine W_ret ?_
       refine KThen_r ?_
       refine KBlock_r ?_
       refine KThen_r ?_
       refine KBody_ret [.box [.int .i64 p3, .int .i64 p4, .int .i64 p5, .tree 1 (p6.map (eK .i64)), .tree 1 (p7.map (eK .i64)), .tree 1 (p8.map (eK .i64)), .tree 6 (p9.map TIns.enc), .osl 2 v2_ 0 p12.length, .int .i64 (IntKind.wrap .i64 (p10 + 1))], .arr 1 v1_ 2 (p11.map (eK .i64)), .arr 1 v2_ 2 (p12.map (eK .i64))] ?_
       obtain rfl := Option.some.inj hm
       exact en
      ·rw [if_neg h11] at hm
       refine W_condf rfl (decide_eq_false h11) ?_
       refine W_skip ?_
       refine KThen_n (hk2 _ _ ?_)
       obtain ⟨⟨hg12a, hg12b, hg12c⟩, hm⟩ := gd hm
       refine W_anx (a2 (em (eK .i64) p11 p1.a.toNat) (a2 (em (eK .i64) p12 ((IntKind.wrap .i64 (p1.n + (p11.getD p1.a.toNat default))).toNat)) (em (eK .i64) p11 p1.r_.toNat))) [0, 0, 2, 0, 8, 24, 56, 0, 128, 0, 0, 1024, 3584, 7680, 16256, 32760, 65528, 131071, 262143] [false, false, false, false, false, false, false, false, false, false, false, false, false, false, false, false, false, true, true] ?_
       refine KBlock_n ?_
       refine KThen_n (hk1 _ _ ?_)
       refine W_rg [0, 2, 4, 69, 70, 71, 72, 73, 74, 75, 76, 77, 78, 79, 80, 81, 82, 83, 84, 85, 86, 87] ?_
       refine W_eqa [.box [.int .i64 p3, .int .i64 p4, .int .i64 p5, .tree 1 (p6.map (eK .i64)), .tree 1 (p7.map (eK .i64)), .tree 1 (p8.map (eK .i64)), .tree 6 (p9.map TIns.enc), .osl 2 v2_ 0 p12.length, .int .i64 (IntKind.wrap .i64 (p10 + 1))], .arr 1 v1_ 2 ((p11.set p1.r_.toNat (p12.getD ((IntKind.wrap .i64 (p1.n + (p11.getD p1.a.toNat default))).toNat) default)).map (eK .i64)), .arr 1 v2_ 2 (p12.map (eK .i64)), .box [.int .i64 p1.op, .int .i64 p1.k, .int .i64 p1.r_, .int .i64 p1.a, .int .i64 p1.b, .int .i64 p1.n]] ?_
       refine W_ret ?_
       refine KBody_ret [.box [.int .i64 p3, .int .i64 p4, .int .i64 p5, .tree 1 (p6.map (eK .i64)), .tree 1 (p7.map (eK .i64)), .tree 1 (p8.map (eK .i64)), .tree 6 (p9.map TIns.enc), .osl 2 v2_ 0 p12.length, .int .i64 (IntKind.wrap .i64 (p10 + 1))], .arr 1 v1_ 2 ((p11.set p1.r_.toNat (p12.getD ((IntKind.wrap .i64 (p1.n + (p11.getD p1.a.toNat default))).toNat) default)).map (eK .i64)), .arr 1 v2_ 2 (p12.map (eK .i64))] ?_
       obtain rfl := Option.some.inj hm
       exact en
    ·rw [if_neg h7] at hm
     refine W_condf rfl (beq_eq_false_iff_ne.2 h7) ?_
     refine W_rg [52, 89] ?_
     by_cases h13 : p1.op = 5
     ·rw [if_pos h13] at hm
      refine W_condt rfl (beq_iff_eq.2 h13) ?_
      refine W_seq_k fun k3 hk3 => ?_
      by_cases h14 : (p11.getD p1.a.toNat default) < 0
      ·rw [if_pos h14] at hm
       have h14b : decide ((p11.getD p1.a.toNat default) < 0) = true := decide_eq_true h14
       obtain ⟨⟨hg15a, hg15b⟩, hm⟩ := gd hm
       refine W_agx (a2 (em (eK .i64) p11 p1.a.toNat) h14b) [15, 88, 90, 91, 92, 93, 94, 95, 96, 97, 98, 99, 100, 101, 102, 103, 104] [0, 0, 2, 7, 15, 31, 63, 127, 127, 383, 1023, 2047, 127, 4223, 16383, 32767] [false, false, false, true, true, true, true, false, false, false, false, false, false, false, true, true] ?_
       refine W_condt rfl rfl ?_
       refine W_rg [0, 2, 4, 105] ?_
       refine W_ret ?_
       refine KThen_r ?_
       refine KBlock_r ?_
       refine KThen_r ?_
       refine KBody_ret [.box [.int .i64 p3, .int .i64 p4, .int .i64 p5, .tree 1 (p6.map (eK .i64)), .tree 1 (p7.map (eK .i64)), .tree 1 (p8.map (eK .i64)), .tree 6 (p9.map TIns.enc), .osl 2 v2_ 0 p12.length, .int .i64 (IntKind.wrap .i64 (p10 + 1))], .arr 1 v1_ 2 (p11.map (eK .i64)), .arr 1 v2_ 2 (p12.map (eK .i64))] ?_
       obtain rfl := Option.some.inj hm
       exact en
      ·rw [if_neg h14] at hm
       have h14b : decide ((p11.getD p1.a.toNat default) < 0) = false := decide_eq_false h14
       obtain ⟨⟨hg16a, hg16b⟩, hm⟩ := gd hm
       refine W_agx (a2 (em (eK .i64) p11 p1.a.toNat) h14b) [15, 88, 90, 91, 92, 93, 94, 95, 96, 97, 98, 99, 100, 101, 102, 103, 104] [0, 0, 2, 7, 15, 31, 63, 127, 127, 383, 1023, 2047, 127, 4223, 16383, 32767] [false, false, false, true, true, true, true, false, false, false, false, false, false, false, true, true] ?_
       by_cases h17 : (p11.getD p1.a.toNat default) ≥ p1.b
       ·rw [if_pos h17] at hm
        refine W_condt rfl (decide_eq_true h17) ?_
        refine W_rg [0, 2, 4, 105] ?_
        refine W_ret ?_
        refine KThen_r ?_
        refine KBlock_r ?_
        refine KThen_r ?_
        refine KBody_ret [.box [.int .i64 p3, .int .i64 p4, .int .i64 p5, .tree 1 (p6.map (eK .i64)), .tree 1 (p7.map (eK .i64)), .tree 1 (p8.map (eK .i64)), .tree 6 (p9.map TIns.enc), .osl 2 v2_ 0 p12.length, .int .i64 (IntKind.wrap .i64 (p10 + 1))], .arr 1 v1_ 2 (p11.map (eK .i64)), .arr 1 v2_ 2 (p12.map (eK .i64))] ?_
        obtain rfl := Option.some.inj hm
        exact en
       ·rw [if_neg h17] at hm
        refine W_condf rfl (decide_eq_false h17) ?_
        refine W_skip ?_
        refine KThen_n (hk3 _ _ ?_)
        obtain ⟨⟨hg18a, hg18b, hg18c⟩, hm⟩ := gd hm
        refine W_anx (a2 (em (eK .i64) p11 p1.a.toNat) (a2 (em (eK .i64) p11 p1.r_.toNat) (em (eK .i64) p12 ((IntKind.wrap .i64 (p1.n + (p11.getD p1.a.toNat default))).toNat)))) [0, 1, 3, 7, 0, 16, 0, 0, 128, 448, 960, 2032, 0, 0, 8192, 28672, 61440, 131071, 262143] [false, false, false, false, false, false, false, false, false, false, false, false, false, false, false, false, false, true, true] ?_
        refine KBlock_n ?_
        refine KThen_n (hk1 _ _ ?_)
        refine W_rg [0, 2, 4, 105, 106, 107, 108, 109, 110, 111, 112, 113, 114, 115, 116, 117, 118, 119, 120, 121, 122, 123] ?_
        refine W_eqa [.box [.int .i64 p3, .int .i64 p4, .int .i64 p5, .tree 1 (p6.map (eK .i64)), .tree 1 (p7.map (eK .i64)), .tree 1 (p8.map (eK .i64)), .tree 6 (p9.map TIns.enc), .osl 2 v2_ 0 p12.length, .int .i64 (IntKind.wrap .i64 (p10 + 1))], .arr 1 v1_ 2 (p11.map (eK .i64)), .arr 1 v2_ 2 ((p12.set ((IntKind.wrap .i64 (p1.n + (p11.getD p1.a.toNat default))).toNat) (p11.getD p1.r_.toNat default)).map (eK .i64)), .box [.int .i64 p1.op, .int .i64 p1.k, .int .i64 p1.r_, .int .i64 p1.a, .int .i64 p1.b, .int .i64 p1.n]] ?_
        refine W_ret ?_
        refine KBody_ret [.box [.int .i64 p3, .int .i64 p4, .int .i64 p5, .tree 1 (p6.map (eK .i64)), .tree 1 (p7.map (eK .i64)), .tree 1 (p8.map (eK .i64)), .tree 6 (p9.map TIns.enc), .osl 2 v2_ 0 p12.length, .int .i64 (IntKind.wrap .i64 (p10 + 1))], .arr 1 v1_ 2 (p11.map (eK .i64)), .arr 1 v2_ 2 ((p12.set ((IntKind.wrap .i64 (p1.n + (p11.getD p1.a.toNat default))).toNat) (p11.getD p1.r_.toNat default)).map (eK .i64))] ?_
        obtain rfl := Option.some.inj hm
        exact en
     ·rw [if_neg h13] at hm
      refine W_condf rfl (beq_eq_false_iff_ne.2 h13) ?_
      refine W_rg [0, 88, 125] ?_
      by_cases h19 : p1.op = 6
      ·rw [if_pos h19] at hm
       refine W_condt rfl (beq_iff_eq.2 h19) ?_
       obtain ⟨⟨hg20a, hg20b⟩, hm⟩ := gd hm
       refine W_any (by kernel_rfl) [0, 0, 2, 0, 8, 0, 0, 64, 224, 480, 1016, 2047, 4095] [false, false, false, false, false, false, false, false, false, false, false, true, true] (by kernel_rfl) fun k hk => ?_
       refine gax (em (eK .i64) p11 p1.a.toNat) ?_
       obtain ⟨y1, hc21, hm⟩ := bd hm
       refine AP (fun _ => ref_Apply_ok p1.k (p11.getD p1.a.toNat default) 0 _ hc21) ?_
       obtain ⟨⟨hg22a, hg22b⟩, hm⟩ := gd hm
       refine gax (em (eK .i64) p11 p1.r_.toNat) ?_
       refine hk _ _ ?_
       clear hk k
       refine KBlock_n ?_
       refine KThen_n (hk1 _ _ ?_)
       refine W_rg [2, 4, 15, 124, 126, 127, 128, 129, 130, 131, 132, 133, 134, 135, 136, 137] ?_
       refine W_eqa [.box [.int .i64 p3, .int .i64 p4, .int .i64 p5, .tree 1 (p6.map (eK .i64)), .tree 1 (p7.map (eK .i64)), .tree 1 (p8.map (eK .i64)), .tree 6 (p9.map TIns.enc), .osl 2 v2_ 0 p12.length, .int .i64 (IntKind.wrap .i64 (p10 + 1))], .arr 1 v1_ 2 ((p11.set p1.r_.toNat y1).map (eK .i64)), .arr 1 v2_ 2 (p12.map (eK .i64)), .box [.int .i64 p1.op, .int .i64 p1.k, .int .i64 p1.r_, .int .i64 p1.a, .int .i64 p1.b, .int .i64 p1.n]] ?_
       refine W_ret ?_
       refine KBody_ret [.box [.int .i64 p3, .int .i64 p4, .int .i64 p5, .tree 1 (p6.map (eK .i64)), .tree 1 (p7.map (eK .i64)), .tree 1 (p8.map (eK .i64)), .tree 6 (p9.map TIns.enc), .osl 2 v2_ 0 p12.length, .int .i64 (IntKind.wrap .i64 (p10 + 1))], .arr 1 v1_ 2 ((p11.set p1.r_.toNat y1).map (eK .i64)), .arr 1 v2_ 2 (p12.map (eK .i64))] ?_
       obtain rfl := Option.some.inj hm
       exact en
      ·rw [if_neg h19] at hm
       refine W_condf rfl (beq_eq_false_iff_ne.2 h19) ?_
       refine W_rg [124, 139] ?_
       by_cases h23 : p1.op = 7
       ·rw [if_pos h23] at hm
        refine W_condt rfl (beq_iff_eq.2 h23) ?_
        obtain ⟨⟨hg24a, hg24b, hg24c, hg24d⟩, hm⟩ := gd hm
        refine W_any (by kernel_rfl) [0, 0, 2, 0, 8, 0, 0, 64, 224, 480, 0, 0, 2048, 7168, 15360, 32760, 65535, 131071] [false, false, false, false, false, false, false, false, false, false, false, false, false, false, false, false, true, true] (by kernel_rfl) fun k hk => ?_
        refine gax (a2 (em (eK .i64) p11 p1.a.toNat) (em (eK .i64) p11 p1.b.toNat)) ?_
        obtain ⟨y2, hc25, hm⟩ := bd hm
        refine AP (fun _ => ref_Apply_ok p1.k (p11.getD p1.a.toNat default) (p11.getD p1.b.toNat default) _ hc25) ?_
        obtain ⟨⟨hg26a, hg26b⟩, hm⟩ := gd hm
        refine gax (em (eK .i64) p11 p1.r_.toNat) ?_
        refine hk _ _ ?_
        clear hk k
        refine KBlock_n ?_
        refine KThen_n (hk1 _ _ ?_)
        refine W_rg [2, 4, 15, 138, 140, 141, 142, 143, 144, 145, 146, 147, 148, 149, 150, 151, 152, 153, 154, 155, 156] ?_
        refine W_eqa [.box [.int .i64 p3, .int .i64 p4, .int .i64 p5, .tree 1 (p6.map (eK .i64)), .tree 1 (p7.map (eK .i64)), .tree 1 (p8.map (eK .i64)), .tree 6 (p9.map TIns.enc), .osl 2 v2_ 0 p12.length, .int .i64 (IntKind.wrap .i64 (p10 + 1))], .arr 1 v1_ 2 ((p11.set p1.r_.toNat y2).map (eK .i64)), .arr 1 v2_ 2 (p12.map (eK .i64)), .box [.int .i64 p1.op, .int .i64 p1.k, .int .i64 p1.r_, .int .i64 p1.a, .int .i64 p1.b, .int .i64 p1.n]] ?_
        refine W_ret ?_
        refine KBody_ret [.box [.int .i64 p3, .int .i64 p4, .int .i64 p5, .tree 1 (p6.map (eK .i64)), .tree 1 (p7.map (eK .i64)), .tree 1 (p8.map (eK .i64)), .tree 6 (p9.map TIns.enc), .osl 2 v2_ 0 p12.length, .int .i64 (IntKind.wrap .i64 (p10 + 1))], .arr 1 v1_ 2 ((p11.set p1.r_.toNat y2).map (eK .i64)), .arr 1 v2_ 2 (p12.map (eK .i64))] ?_
        obtain rfl := Option.some.inj hm
        exact en
       ·rw [if_neg h23] at hm
        refine W_condf rfl (beq_eq_false_iff_ne.2 h23) ?_
        refine W_rg [138, 158] ?_
        by_cases h27 : p1.op = 8
        ·rw [if_pos h27] at hm
         refine W_condt rfl (beq_iff_eq.2 h27) ?_
         obtain ⟨⟨hg28a, hg28b⟩, hm⟩ := gd hm
         refine W_rgx (em (eK .i64) p11 p1.r_.toNat) [15, 157, 159, 160, 161, 162, 163] ?_
         by_cases h29 : (p11.getD p1.r_.toNat default) = 0
         ·rw [if_pos h29] at hm
          refine W_condt rfl (beq_iff_eq.2 h29) ?_
          obtain ⟨⟨hg30a, hg30b⟩, hm⟩ := gd hm
          refine W_anx (a2 (em (eK .i64) p11 p1.b.toNat) (em (eK .i64) p11 p1.r_.toNat)) [0, 0, 2, 0, 0, 16, 56, 120, 255, 511] [false, false, false, false, false, false, false, false, true, true] ?_
          refine KBlock_n ?_
          refine KThen_n (hk1 _ _ ?_)
          refine W_rg [2, 4, 164, 165, 166, 167, 168, 169, 170, 171, 172, 173] ?_
          refine W_eqa [.box [.int .i64 p3, .int .i64 p4, .int .i64 p5, .tree 1 (p6.map (eK .i64)), .tree 1 (p7.map (eK .i64)), .tree 1 (p8.map (eK .i64)), .tree 6 (p9.map TIns.enc), .osl 2 v2_ 0 p12.length, .int .i64 (IntKind.wrap .i64 (p10 + 1))], .arr 1 v1_ 2 ((p11.set p1.r_.toNat (p11.getD p1.b.toNat default)).map (eK .i64)), .arr 1 v2_ 2 (p12.map (eK .i64)), .box [.int .i64 p1.op, .int .i64 p1.k, .int .i64 p1.r_, .int .i64 p1.a, .int .i64 p1.b, .int .i64 p1.n]] ?_
          refine W_ret ?_
          refine KBody_ret [.box [.int .i64 p3, .int .i64 p4, .int .i64 p5, .tree 1 (p6.map (eK .i64)), .tree 1 (p7.map (eK .i64)), .tree 1 (p8.map (eK .i64)), .tree 6 (p9.map TIns.enc), .osl 2 v2_ 0 p12.length, .int .i64 (IntKind.wrap .i64 (p10 + 1))], .arr 1 v1_ 2 ((p11.set p1.r_.toNat (p11.getD p1.b.toNat default)).map (eK .i64)), .arr 1 v2_ 2 (p12.map (eK .i64))] ?_
          obtain rfl := Option.some.inj hm
          exact en
         ·rw [if_neg h29] at hm
          refine W_condf rfl (beq_eq_false_iff_ne.2 h29) ?_
          obtain ⟨⟨hg31a, hg31b⟩, hm⟩ := gd hm
          refine W_anx (a2 (em (eK .i64) p11 p1.a.toNat) (em (eK .i64) p11 p1.r_.toNat)) [0, 0, 2, 0, 0, 16, 56, 120, 255, 511] [false, false, false, false, false, false, false, false, true, true] ?_
          refine KBlock_n ?_
          refine KThen_n (hk1 _ _ ?_)
          refine W_rg [2, 4, 164, 174, 175, 176, 177, 178, 179, 180, 181, 182] ?_
          refine W_eqa [.box [.int .i64 p3, .int .i64 p4, .int .i64 p5, .tree 1 (p6.map (eK .i64)), .tree 1 (p7.map (eK .i64)), .tree 1 (p8.map (eK .i64)), .tree 6 (p9.map TIns.enc), .osl 2 v2_ 0 p12.length, .int .i64 (IntKind.wrap .i64 (p10 + 1))], .arr 1 v1_ 2 ((p11.set p1.r_.toNat (p11.getD p1.a.toNat default)).map (eK .i64)), .arr 1 v2_ 2 (p12.map (eK .i64)), .box [.int .i64 p1.op, .int .i64 p1.k, .int .i64 p1.r_, .int .i64 p1.a, .int .i64 p1.b, .int .i64 p1.n]] ?_
          refine W_ret ?_
          refine KBody_ret [.box [.int .i64 p3, .int .i64 p4, .int .i64 p5, .tree 1 (p6.map (eK .i64)), .tree 1 (p7.map (eK .i64)), .tree 1 (p8.map (eK .i64)), .tree 6 (p9.map TIns.enc), .osl 2 v2_ 0 p12.length, .int .i64 (IntKind.wrap .i64 (p10 + 1))], .arr 1 v1_ 2 ((p11.set p1.r_.toNat (p11.getD p1.a.toNat default)).map (eK .i64)), .arr 1 v2_ 2 (p12.map (eK .i64))] ?_
          obtain rfl := Option.some.inj hm
          exact en
        ·rw [if_neg h27] at hm
         refine W_condf rfl (beq_eq_false_iff_ne.2 h27) ?_
         refine W_rg [15, 157, 184] ?_
         by_cases h32 : p1.op = 9
         ·rw [if_pos h32] at hm
          refine W_condt rfl (beq_iff_eq.2 h32) ?_
          obtain ⟨⟨hg33a, hg33b, hg33c, hg33d⟩, hm⟩ := gd hm
          refine W_anx (a2 (em (eK .i64) p11 p1.a.toNat) (em (eK .i64) p11 p1.r_.toNat)) [0, 0, 2, 0, 0, 16, 56, 120, 255, 511] [false, false, false, false, false, false, false, false, true, true] ?_
          refine KBlock_n ?_
          refine KThen_n (hk1 _ _ ?_)
          refine W_rg [2, 4, 183, 185, 186, 187, 188, 189, 190, 191, 192, 193] ?_
          refine W_eqa [.box [.int .i64 p3, .int .i64 p4, .int .i64 p5, .tree 1 (p6.map (eK .i64)), .tree 1 (p7.map (eK .i64)), .tree 1 (p8.map (eK .i64)), .tree 6 (p9.map TIns.enc), .osl 2 v2_ 0 p12.length, .int .i64 (IntKind.wrap .i64 (p10 + 1))], .arr 1 v1_ 2 ((p11.set p1.r_.toNat (p11.getD p1.a.toNat default)).map (eK .i64)), .arr 1 v2_ 2 (p12.map (eK .i64)), .box [.int .i64 p1.op, .int .i64 p1.k, .int .i64 p1.r_, .int .i64 p1.a, .int .i64 p1.b, .int .i64 p1.n]] ?_
          refine W_ret ?_
          refine KBody_ret [.box [.int .i64 p3, .int .i64 p4, .int .i64 p5, .tree 1 (p6.map (eK .i64)), .tree 1 (p7.map (eK .i64)), .tree 1 (p8.map (eK .i64)), .tree 6 (p9.map TIns.enc), .osl 2 v2_ 0 p12.length, .int .i64 (IntKind.wrap .i64 (p10 + 1))], .arr 1 v1_ 2 ((p11.set p1.r_.toNat (p11.getD p1.a.toNat default)).map (eK .i64)), .arr 1 v2_ 2 (p12.map (eK .i64))] ?_
          obtain rfl := Option.some.inj hm
          exact en
         ·rw [if_neg h32] at hm
          refine W_condf rfl (beq_eq_false_iff_ne.2 h32) ?_
          refine W_skip ?_
          refine KBlock_n ?_
          refine KThen_n (hk1 _ _ ?_)
          refine W_rg [2, 4, 183] ?_
          refine W_ret ?_
          refine KBody_ret [.box [.int .i64 p3, .int .i64 p4, .int .i64 p5, .tree 1 (p6.map (eK .i64)), .tree 1 (p7.map (eK .i64)), .tree 1 (p8.map (eK .i64)), .tree 6 (p9.map TIns.enc), .osl 2 v2_ 0 p12.length, .int .i64 (IntKind.wrap .i64 (p10 + 1))], .arr 1 v1_ 2 (p11.map (eK .i64)), .arr 1 v2_ 2 (p12.map (eK .i64))] ?_
          obtain rfl := Option.some.inj hm
          exact en
end Pam

/- the walk of ref_Going_all, printed by a program of ours -/
namespace Pam
open Go Go.Proofs
set_option maxRecDepth 100000 in
set_option maxHeartbeats 1000000 in
theorem ref_Going_all_ok (p1 : Int) (p2 : Int) (p3 : Int) (p4 : List Int) (p5 : List Int) (p6 : List Int) (p7 : List TIns) (p8 : Int) (p9 : List Int) (v1_ : Nat) (r : (Int × Int × (List Int))) (hm : ref_Going_all p1 p2 p3 p4 p5 p6 p7 p8 p9 = some r) : Spec Try.prog 94 [.c (.optr 0 0)] [.box [.int .i64 p1, .int .i64 p2, .int .i64 p3, .tree 1 (p4.map (eK .i64)), .tree 1 (p5.map (eK .i64)), .tree 1 (p6.map (eK .i64)), .tree 6 (p7.map TIns.enc), .osl 1 v1_ 0 p9.length, .int .i64 p8], .arr 1 v1_ 2 (p9.map (eK .i64))] (fun p σ => (p = .c (.int .i64 r.1) ∧ σ = [.box [.int .i64 p1, .int .i64 p2, .int .i64 p3, .tree 1 (p4.map (eK .i64)), .tree 1 (p5.map (eK .i64)), .tree 1 (p6.map (eK .i64)), .tree 6 (p7.map TIns.enc), .osl 1 v1_ 0 r.2.2.length, .int .i64 r.2.1], .arr 1 v1_ 2 (r.2.2.map (eK .i64))])) (fun _ _ => False) := by
 refine Spec_ofD 98 [.tmp 2] Try.func94 rfl rfl rfl (by kernel_rfl) (by simp) ?_
 refine W_eqf ?_
 unfold ref_Going_all at hm
 refine W_rg [2] ?_
 obtain ⟨⟨hg1a, ⟨hg1bx, hg1by⟩⟩, hm⟩ := gd hm
 refine W_rg [9, 10, 11, 12, 13, 14] ?_
 refine W_eqa [.box [.int .i64 p1, .int .i64 p2, .int .i64 p3, .tree 1 (p4.map (eK .i64)), .tree 1 (p5.map (eK .i64)), .tree 1 (p6.map (eK .i64)), .tree 6 (p7.map TIns.enc), .osl 1 v1_ 0 p9.length, .int .i64 p8], .arr 1 v1_ 2 (p9.map (eK .i64)), .arr 1 0 2 ((List.replicate p2.toNat 0).map (eK .i64))] ?_
 refine W_rg [15, 16, 17, 18, 19] ?_
 refine W_joinM (S := (Int × (List Int) × (List Int))) (V := Unit) [0, 2, 3, 4, 5, 6, 7, 8, 20, 21, 22, 23, 24, 25, 26, 27, 28, 29, 30, 31, 32, 33, 34, 35, 36, 37, 38, 39, 40, 41, 42, 43, 44, 45, 46, 47, 48, 49, 50, 51, 52, 53, 54, 55, 56, 57, 58, 59, 60, 61, 62, 63, 64, 65, 66, 67, 68, 69, 70, 71, 72, 73, 74, 75, 76, 77, 78, 79, 80, 81, 82, 83, 84, 85, 86, 87, 88, 89, 90, 91, 92, 93, 94, 95, 96, 97] (fun (x3, l4, l5) _ => []) (fun (x3, l4, l5) _ => [.box [.int .i64 p1, .int .i64 p2, .int .i64 p3, .tree 1 (p4.map (eK .i64)), .tree 1 (p5.map (eK .i64)), .tree 1 (p6.map (eK .i64)), .tree 6 (p7.map TIns.enc), .osl 1 v1_ 0 l4.length, .int .i64 x3], .arr 1 v1_ 2 (l4.map (eK .i64)), .arr 1 0 2 (l5.map (eK .i64))]) (fun (x3, l4, l5) => ref_Going_all_j1 x3 l4 l5 = some r) ?_ ?_
 ·skip
  refine W_rg [] ?_
  refine W_block ?_
  obtain ⟨o1, hl1, hm1⟩ := bd hm
  refine W_loopM (S := (Int × (List Int) × (List Int) × Int)) (V := Unit) (O := (Int × (List Int) × (List Int)) ⊕ (Int × Int × (List Int))) [2, 3, 5, 6, 7, 8, 20, 21, 22, 23, 24, 25, 26, 27, 28, 29, 30, 31, 32, 33, 34, 35, 36, 37, 38, 39, 40, 41, 42, 43, 44, 45, 46, 47, 48, 49, 50, 51, 52, 53, 54, 55, 56, 57, 58, 59, 60, 61, 62, 63, 64, 65, 66, 67, 68, 69, 70, 71, 72, 73, 74, 75, 76, 77, 78, 79, 80, 81, 82, 83, 84, 85, 86, 87, 88, 89, 90, 91, 92, 93, 94, 95, 96, 97] (fun (x20, l21, l22, x23) _ => [(3, .c (.osl 2 0 0 p2.toNat)), (5, .c (.int .i64 x23))]) (fun (x20, l21, l22, x23) _ => [.box [.int .i64 p1, .int .i64 p2, .int .i64 p3, .tree 1 (p4.map (eK .i64)), .tree 1 (p5.map (eK .i64)), .tree 1 (p6.map (eK .i64)), .tree 6 (p7.map TIns.enc), .osl 1 v1_ 0 l21.length, .int .i64 x20], .arr 1 v1_ 2 (l21.map (eK .i64)), .arr 1 0 2 (l22.map (eK .i64))]) _ _ () hl1 ?_ ?_
  ·exact ls
  ·rintro ⟨x20, l21, l22, x23⟩ _ r1 hm hr1
   replace hm : ref_Going_all_l1 p1 p2 p3 p4 p5 p6 p7 x20 l21 l22 x23 = some r1 := hm
   refine W_eqm ?_
   unfold ref_Going_all_l1 at hm
   refine W_seq_k fun k1 hk1 => ?_
   refine W_rg [20, 21, 22] ?_
   by_cases h2 : x23 < (p7.length : Int)
   ·rw [if_pos h2] at hm
    refine W_condt rfl (decide_eq_true h2) ?_
    refine W_skip ?_
    refine KThen_n (hk1 _ _ ?_)
    refine W_joinM (S := (Int × (List Int) × (List Int) × Int)) (V := Unit) [2, 3, 5, 6, 7, 8, 23, 26, 27, 28, 29, 30, 31, 32, 33, 34, 35, 36, 37, 38, 39, 40, 41, 42, 43, 44, 45, 46, 47, 48, 49, 50, 51, 52, 53, 54, 55, 56, 57, 58, 59, 60, 61, 62, 63, 64, 65, 66, 67, 68, 69, 70, 71, 72, 73, 74, 75, 76, 77, 78, 79, 80, 81, 82, 83, 84, 85, 86, 87, 88, 89, 90, 91, 92, 93, 94, 95, 96, 97] (fun (x26, l27, l28, x29) _ => [(3, .c (.osl 2 0 0 p2.toNat)), (5, .c (.int .i64 x29))]) (fun (x26, l27, l28, x29) _ => [.box [.int .i64 p1, .int .i64 p2, .int .i64 p3, .tree 1 (p4.map (eK .i64)), .tree 1 (p5.map (eK .i64)), .tree 1 (p6.map (eK .i64)), .tree 6 (p7.map TIns.enc), .osl 1 v1_ 0 l27.length, .int .i64 x26], .arr 1 v1_ 2 (l27.map (eK .i64)), .arr 1 0 2 (l28.map (eK .i64))]) (fun (x26, l27, l28, x29) => ref_Going_all_j2 x26 l27 l28 x29 = some r1) ?_ ?_
    ·skip
     refine W_block ?_
     refine W_seq_k fun k2 hk2 => ?_
     obtain ⟨hg3a, hm⟩ := gd hm
     refine W_rgx (em TIns.enc p7 x23.toNat) [23, 26, 27, 28, 29, 30] ?_
     by_cases h4 : ¬ ((p7.getD x23.toNat default).op) = 10
     ·rw [if_pos h4] at hm
      refine W_condt rfl (bne_iff_ne.2 h4) ?_
      refine W_seq_k fun k3 hk3 => ?_
      refine W_regF [31, 32, 33, 34, 35, 36, 37, 38] fun k kp hk hp => ?_
      refine gox (em TIns.enc p7 x23.toNat) ?_
      obtain ⟨y30, hc5, hm⟩ := bd hm
      refine RA (ref_Going_one_3_ok (p7.getD x23.toNat default) p2.toNat p1 p2 p3 p4 p5 p6 p7 x20 l22 l21 0 v1_ _ hc5) [0, 2, 1] ?_
      rintro p σ' hq6 _
      obtain ⟨rfl, rfl⟩ := hq6
      refine RunRest_ops ?_
      refine go ?_
      refine hk _ _ ?_
      clear hk hp k kp
      by_cases h7 : y30.1 = true
      ·rw [if_pos h7] at hm
       refine W_condf rfl (by rw [show y30.1 = true from (h7)]; rfl) ?_
       refine W_skip ?_
       refine KThen_n (hk3 _ _ ?_)
       refine W_exit ?_
       refine KThen_x ?_
       refine KBlock_hit ?_
       refine KJoinM_n (y30.2.1, y30.2.2.2, y30.2.2.1, x23) () hm ?_
       exact ls
      ·rw [if_neg h7] at hm
       refine W_condt rfl (by rw [show y30.1 = false from (Bool.eq_false_iff.2 h7)]; rfl) ?_
       refine W_rg [0, 3, 4, 5, 39, 40] ?_
       have ho8 := out_eq hm hr1
       subst ho8
       replace hm : some (x23, y30.2.1, y30.2.2.2) = some r := hm1
       refine W_ret ?_
       refine KThen_r ?_
       refine KThen_r ?_
       refine KBlock_r ?_
       refine KJoinM_r ?_
       refine KLoopM_r ?_
       refine KBlock_r ?_
       refine KJoinM_r ?_
       refine KBody_ret [.box [.int .i64 p1, .int .i64 p2, .int .i64 p3, .tree 1 (p4.map (eK .i64)), .tree 1 (p5.map (eK .i64)), .tree 1 (p6.map (eK .i64)), .tree 6 (p7.map TIns.enc), .osl 1 v1_ 0 y30.2.2.2.length, .int .i64 y30.2.1], .arr 1 v1_ 2 (y30.2.2.2.map (eK .i64))] ?_
       obtain rfl := Option.some.inj hm
       exact en
     ·rw [if_neg h4] at hm
      refine W_condf rfl (bne_eq_false_iff_eq.2 (Decidable.not_not.1 h4)) ?_
      refine W_skip ?_
      refine KThen_n (hk2 _ _ ?_)
      refine W_rg [31, 41, 42, 43, 44, 45, 46, 47] ?_
      refine W_rg [48] ?_
      refine W_joinM (S := Int) (V := Unit) [3, 6, 49, 50, 51, 52, 53, 54, 55, 56] (fun x31 _ => [(3, .c (.osl 2 0 0 p2.toNat)), (6, .c (.int .i64 x31))]) (fun x31 _ => [.box [.int .i64 p1, .int .i64 p2, .int .i64 p3, .tree 1 (p4.map (eK .i64)), .tree 1 (p5.map (eK .i64)), .tree 1 (p6.map (eK .i64)), .tree 6 (p7.map TIns.enc), .osl 1 v1_ 0 l21.length, .int .i64 (IntKind.wrap .i64 (x20 + 1))], .arr 1 v1_ 2 (l21.map (eK .i64)), .arr 1 0 2 (l22.map (eK .i64))]) (fun x31 => ref_Going_all_j3 p1 p2 p3 p4 p5 p6 p7 x20 l21 l22 x23 x31 = some r1) ?_ ?_
      ·skip
       refine W_block ?_
       obtain ⟨o4, hl4, hm4⟩ := bd hm
       refine W_loopM (S := Int) (V := Unit) (O := Int) [3, 6, 49, 50, 51, 52, 53, 54, 55, 56] (fun x94 _ => [(3, .c (.osl 2 0 0 p2.toNat)), (6, .c (.int .i64 x94))]) (fun x94 _ => [.box [.int .i64 p1, .int .i64 p2, .int .i64 p3, .tree 1 (p4.map (eK .i64)), .tree 1 (p5.map (eK .i64)), .tree 1 (p6.map (eK .i64)), .tree 6 (p7.map TIns.enc), .osl 1 v1_ 0 l21.length, .int .i64 (IntKind.wrap .i64 (x20 + 1))], .arr 1 v1_ 2 (l21.map (eK .i64)), .arr 1 0 2 (l22.map (eK .i64))]) _ _ () hl4 ?_ ?_
       ·exact ls
       ·rintro x94 _ r4 hm hr4
        replace hm : ref_Going_all_l4 p7 x94 = some r4 := hm
        refine W_eqm ?_
        unfold ref_Going_all_l4 at hm
        refine W_seq_k fun k7 hk7 => ?_
        obtain ⟨hg21a, hm⟩ := gd hm
        refine W_rgx (em TIns.enc p7 x94.toNat) [49, 50, 51, 52, 53] ?_
        by_cases h22 : ¬ ((p7.getD x94.toNat default).op) = 11
        ·rw [if_pos h22] at hm
         refine W_condt rfl (bne_iff_ne.2 h22) ?_
         refine W_skip ?_
         refine KThen_n (hk7 _ _ ?_)
         refine W_block ?_
         refine W_rn ?_
         refine KBlock_n ?_
         refine KLoopM_n (IntKind.wrap .i64 (x94 + 1)) () hm ?_
         exact ls
        ·rw [if_neg h22] at hm
         refine W_condf rfl (bne_eq_false_iff_eq.2 (Decidable.not_not.1 h22)) ?_
         refine W_exit ?_
         have ho23 := out_eq hm hr4
         subst ho23
         replace hm : ref_Going_all_j3 p1 p2 p3 p4 p5 p6 p7 x20 l21 l22 x23 x94 = some r1 := hm4
         refine KThen_x ?_
         refine KLoopM_x ?_
         refine KBlock_hit ?_
         refine KJoinM_n x94 () hm ?_
         exact ls
      ·rintro x31 _ hm
       replace hm : ref_Going_all_j3 p1 p2 p3 p4 p5 p6 p7 x20 l21 l22 x23 x31 = some r1 := hm
       refine W_eqm ?_
       unfold ref_Going_all_j3 at hm
       refine W_joinM (S := (Int × (List Int) × (List Int))) (V := Unit) [2, 3, 5, 7, 8, 57, 58, 59, 60, 61, 62, 63, 64, 65, 66, 67, 68, 69, 70, 71, 72, 73, 74, 75, 76, 77, 78, 79, 80, 81, 82, 83, 84, 85, 86, 87, 88, 89, 90, 91, 92, 93, 94, 95, 96] (fun (x34, l35, l36) _ => [(3, .c (.osl 2 0 0 p2.toNat))]) (fun (x34, l35, l36) _ => [.box [.int .i64 p1, .int .i64 p2, .int .i64 p3, .tree 1 (p4.map (eK .i64)), .tree 1 (p5.map (eK .i64)), .tree 1 (p6.map (eK .i64)), .tree 6 (p7.map TIns.enc), .osl 1 v1_ 0 l35.length, .int .i64 x34], .arr 1 v1_ 2 (l35.map (eK .i64)), .arr 1 0 2 (l36.map (eK .i64))]) (fun (x34, l35, l36) => ref_Going_all_j4 x31 x34 l35 l36 = some r1) ?_ ?_
       ·skip
        refine W_rg [] ?_
        refine W_block ?_
        obtain ⟨o2, hl2, hm2⟩ := bd hm
        refine W_loopM (S := (Int × (List Int) × (List Int) × Int)) (V := Unit) (O := (Int × (List Int) × (List Int)) ⊕ (Int × Int × (List Int))) [2, 3, 7, 8, 57, 58, 59, 60, 61, 62, 63, 64, 65, 66, 67, 68, 69, 70, 71, 72, 73, 74, 75, 76, 77, 78, 79, 80, 81, 82, 83, 84, 85, 86, 87, 88, 89, 90, 91, 92, 93, 94, 95, 96] (fun (x51, l52, l53, x54) _ => [(3, .c (.osl 2 0 0 p2.toNat)), (7, .c (.int .i64 x54))]) (fun (x51, l52, l53, x54) _ => [.box [.int .i64 p1, .int .i64 p2, .int .i64 p3, .tree 1 (p4.map (eK .i64)), .tree 1 (p5.map (eK .i64)), .tree 1 (p6.map (eK .i64)), .tree 6 (p7.map TIns.enc), .osl 1 v1_ 0 l52.length, .int .i64 x51], .arr 1 v1_ 2 (l52.map (eK .i64)), .arr 1 0 2 (l53.map (eK .i64))]) _ _ () hl2 ?_ ?_
        ·exact ls
        ·rintro ⟨x51, l52, l53, x54⟩ _ r2 hm hr2
         replace hm : ref_Going_all_l2 p1 p2 p3 p4 p5 p6 p7 x23 x31 x51 l52 l53 x54 = some r2 := hm
         refine W_eqm ?_
         unfold ref_Going_all_l2 at hm
         refine W_seq_k fun k4 hk4 => ?_
         refine W_rgx (em TIns.enc p7 x23.toNat) [57, 58, 59, 60, 61, 62] ?_
         by_cases h9 : x54 < ((p7.getD x23.toNat default).n)
         ·rw [if_pos h9] at hm
          refine W_condt rfl (decide_eq_true h9) ?_
          refine W_skip ?_
          refine KThen_n (hk4 _ _ ?_)
          refine W_joinM (S := (Int × (List Int) × (List Int))) (V := Unit) [2, 3, 8, 63, 66, 67, 68, 69, 70, 71, 72, 73, 74, 75, 76, 77, 78, 79, 80, 81, 82, 83, 84, 85, 86, 87, 88, 89, 90, 91, 92, 93, 94, 95, 96] (fun (x57, l58, l59) _ => [(3, .c (.osl 2 0 0 p2.toNat))]) (fun (x57, l58, l59) _ => [.box [.int .i64 p1, .int .i64 p2, .int .i64 p3, .tree 1 (p4.map (eK .i64)), .tree 1 (p5.map (eK .i64)), .tree 1 (p6.map (eK .i64)), .tree 6 (p7.map TIns.enc), .osl 1 v1_ 0 l58.length, .int .i64 x57], .arr 1 v1_ 2 (l58.map (eK .i64)), .arr 1 0 2 (l59.map (eK .i64))]) (fun (x57, l58, l59) => ref_Going_all_j5 x54 x57 l58 l59 = some r2) ?_ ?_
          ·skip
           refine W_block ?_
           obtain ⟨⟨hg10a, hg10b⟩, hm⟩ := gd hm
           refine W_rgx (a2 (em TIns.enc p7 x23.toNat) (em (eK .i64) l53 (((p7.getD x23.toNat default).r_).toNat))) [63, 66, 67, 68, 69, 70, 71, 72, 73] ?_
           refine W_eqa [.box [.int .i64 p1, .int .i64 p2, .int .i64 p3, .tree 1 (p4.map (eK .i64)), .tree 1 (p5.map (eK .i64)), .tree 1 (p6.map (eK .i64)), .tree 6 (p7.map TIns.enc), .osl 1 v1_ 0 l52.length, .int .i64 x51], .arr 1 v1_ 2 (l52.map (eK .i64)), .arr 1 0 2 ((l53.set (((p7.getD x23.toNat default).r_).toNat) x54).map (eK .i64))] ?_
           refine W_joinM (S := (Int × (List Int) × (List Int))) (V := Unit) [2, 3, 8, 74, 75, 76, 77, 78, 79, 80, 81, 82, 83, 84, 85, 86, 87, 88, 89] (fun (x62, l63, l64) _ => [(3, .c (.osl 2 0 0 p2.toNat))]) (fun (x62, l63, l64) _ => [.box [.int .i64 p1, .int .i64 p2, .int .i64 p3, .tree 1 (p4.map (eK .i64)), .tree 1 (p5.map (eK .i64)), .tree 1 (p6.map (eK .i64)), .tree 6 (p7.map TIns.enc), .osl 1 v1_ 0 l63.length, .int .i64 x62], .arr 1 v1_ 2 (l63.map (eK .i64)), .arr 1 0 2 (l64.map (eK .i64))]) (fun (x62, l63, l64) => ref_Going_all_j6 x54 x62 l63 l64 = some r2) ?_ ?_
           ·skip
            refine W_rg [74, 75] ?_
            refine W_block ?_
            obtain ⟨o3, hl3, hm3⟩ := bd hm
            refine W_loopM (S := (Int × (List Int) × (List Int) × Int)) (V := Unit) (O := (Int × (List Int) × (List Int)) ⊕ (Int × Int × (List Int))) [2, 3, 8, 76, 77, 78, 79, 80, 81, 82, 83, 84, 85, 86, 87, 88, 89] (fun (x79, l80, l81, x82) _ => [(3, .c (.osl 2 0 0 p2.toNat)), (8, .c (.int .i64 x82))]) (fun (x79, l80, l81, x82) _ => [.box [.int .i64 p1, .int .i64 p2, .int .i64 p3, .tree 1 (p4.map (eK .i64)), .tree 1 (p5.map (eK .i64)), .tree 1 (p6.map (eK .i64)), .tree 6 (p7.map TIns.enc), .osl 1 v1_ 0 l80.length, .int .i64 x79], .arr 1 v1_ 2 (l80.map (eK .i64)), .arr 1 0 2 (l81.map (eK .i64))]) _ _ () hl3 ?_ ?_
            ·exact ls
            ·rintro ⟨x79, l80, l81, x82⟩ _ r3 hm hr3
             replace hm : ref_Going_all_l3 p1 p2 p3 p4 p5 p6 p7 x31 x79 l80 l81 x82 = some r3 := hm
             refine W_eqm ?_
             unfold ref_Going_all_l3 at hm
             refine W_seq_k fun k5 hk5 => ?_
             refine W_rg [76, 77] ?_
             by_cases h11 : x82 < x31
             ·rw [if_pos h11] at hm
              refine W_condt rfl (decide_eq_true h11) ?_
              refine W_skip ?_
              refine KThen_n (hk5 _ _ ?_)
              refine W_seq_k fun k6 hk6 => ?_
              refine W_block ?_
              obtain ⟨hg12a, hm⟩ := gd hm
              refine W_regF [78, 81, 82, 83, 84, 85, 86, 87] fun k kp hk hp => ?_
              refine gox (em TIns.enc p7 x82.toNat) ?_
              obtain ⟨y83, hc13, hm⟩ := bd hm
              refine RA (ref_Going_one_3_ok (p7.getD x82.toNat default) p2.toNat p1 p2 p3 p4 p5 p6 p7 x79 l81 l80 0 v1_ _ hc13) [0, 2, 1] ?_
              rintro p σ' hq14 _
              obtain ⟨rfl, rfl⟩ := hq14
              refine RunRest_ops ?_
              refine go ?_
              refine hk _ _ ?_
              clear hk hp k kp
              by_cases h15 : y83.1 = true
              ·rw [if_pos h15] at hm
               refine W_condf rfl (by rw [show y83.1 = true from (h15)]; rfl) ?_
               refine W_skip ?_
               refine KBlock_n ?_
               refine KThen_n (hk6 _ _ ?_)
               refine W_rn ?_
               refine KLoopM_n (y83.2.1, y83.2.2.2, y83.2.2.1, (IntKind.wrap .i64 (x82 + 1))) () hm ?_
               exact ls
              ·rw [if_neg h15] at hm
               refine W_condt rfl (by rw [show y83.1 = false from (Bool.eq_false_iff.2 h15)]; rfl) ?_
               refine W_rg [0, 3, 4, 5, 6, 7, 8, 88, 89] ?_
               have ho16 := out_eq hm hr3
               subst ho16
               replace hm : some (.inr (.inr (x82, y83.2.1, y83.2.2.2))) = some r2 := hm3
               have ho17 := out_eq hm hr2
               subst ho17
               replace hm : some (.inr (.inr (x82, y83.2.1, y83.2.2.2))) = some r1 := hm2
               have ho18 := out_eq hm hr1
               subst ho18
               replace hm : some (x82, y83.2.1, y83.2.2.2) = some r := hm1
               refine W_ret ?_
               refine KBlock_r ?_
               refine KThen_r ?_
               refine KLoopM_r ?_
               refine KBlock_r ?_
               refine KJoinM_r ?_
               refine KBlock_r ?_
               refine KJoinM_r ?_
               refine KLoopM_r ?_
               refine KBlock_r ?_
               refine KJoinM_r ?_
               refine KBlock_r ?_
               refine KJoinM_r ?_
               refine KLoopM_r ?_
               refine KBlock_r ?_
               refine KJoinM_r ?_
               refine KBody_ret [.box [.int .i64 p1, .int .i64 p2, .int .i64 p3, .tree 1 (p4.map (eK .i64)), .tree 1 (p5.map (eK .i64)), .tree 1 (p6.map (eK .i64)), .tree 6 (p7.map TIns.enc), .osl 1 v1_ 0 y83.2.2.2.length, .int .i64 y83.2.1], .arr 1 v1_ 2 (y83.2.2.2.map (eK .i64))] ?_
               obtain rfl := Option.some.inj hm
               exact en
             ·rw [if_neg h11] at hm
              refine W_condf rfl (decide_eq_false h11) ?_
              refine W_exit ?_
              have ho19 := out_eq hm hr3
              subst ho19
              replace hm : ref_Going_all_j6 x54 x79 l80 l81 = some r2 := hm3
              refine KThen_x ?_
              refine KLoopM_x ?_
              refine KBlock_hit ?_
              refine KJoinM_n (x79, l80, l81) () hm ?_
              exact ls
           ·rintro ⟨x62, l63, l64⟩ _ hm
            replace hm : ref_Going_all_j6 x54 x62 l63 l64 = some r2 := hm
            refine W_eqm ?_
            unfold ref_Going_all_j6 at hm
            refine W_rn ?_
            refine KBlock_n ?_
            refine KJoinM_n ((IntKind.wrap .i64 (x62 + 1)), l63, l64) () hm ?_
            exact ls
          ·rintro ⟨x57, l58, l59⟩ _ hm
           replace hm : ref_Going_all_j5 x54 x57 l58 l59 = some r2 := hm
           refine W_eqm ?_
           unfold ref_Going_all_j5 at hm
           refine W_rn ?_
           refine KLoopM_n (x57, l58, l59, (IntKind.wrap .i64 (x54 + 1))) () hm ?_
           exact ls
         ·rw [if_neg h9] at hm
          refine W_condf rfl (decide_eq_false h9) ?_
          refine W_exit ?_
          have ho20 := out_eq hm hr2
          subst ho20
          replace hm : ref_Going_all_j4 x31 x51 l52 l53 = some r1 := hm2
          refine KThen_x ?_
          refine KLoopM_x ?_
          refine KBlock_hit ?_
          refine KJoinM_n (x51, l52, l53) () hm ?_
          exact ls
       ·rintro ⟨x34, l35, l36⟩ _ hm
        replace hm : ref_Going_all_j4 x31 x34 l35 l36 = some r1 := hm
        refine W_eqm ?_
        unfold ref_Going_all_j4 at hm
        refine W_rn ?_
        refine KBlock_n ?_
        refine KJoinM_n (x34, l35, l36, x31) () hm ?_
        exact ls
    ·rintro ⟨x26, l27, l28, x29⟩ _ hm
     replace hm : ref_Going_all_j2 x26 l27 l28 x29 = some r1 := hm
     refine W_eqm ?_
     unfold ref_Going_all_j2 at hm
     refine W_rn ?_
     refine KLoopM_n (x26, l27, l28, (IntKind.wrap .i64 (x29 + 1))) () hm ?_
     exact ls
   ·rw [if_neg h2] at hm
    refine W_condf rfl (decide_eq_false h2) ?_
    refine W_exit ?_
    have ho24 := out_eq hm hr1
    subst ho24
    replace hm : ref_Going_all_j1 x20 l21 l22 = some r := hm1
    refine KThen_x ?_
    refine KLoopM_x ?_
    refine KBlock_hit ?_
    refine KJoinM_n (x20, l21, l22) () hm ?_
    exact ls
 ·rintro ⟨x3, l4, l5⟩ _ hm
  replace hm : ref_Going_all_j1 x3 l4 l5 = some r := hm
  refine W_eqm ?_
  unfold ref_Going_all_j1 at hm
  refine W_rg [] ?_
  refine W_ret ?_
  refine KBody_ret [.box [.int .i64 p1, .int .i64 p2, .int .i64 p3, .tree 1 (p4.map (eK .i64)), .tree 1 (p5.map (eK .i64)), .tree 1 (p6.map (eK .i64)), .tree 6 (p7.map TIns.enc), .osl 1 v1_ 0 l4.length, .int .i64 x3], .arr 1 v1_ 2 (l4.map (eK .i64))] ?_
  obtain rfl := Option.some.inj hm
  exact en
end Pam

/- the walk of ref_Going_Row, printed by a program of ours -/
namespace Pam
open Go Go.Proofs
set_option maxRecDepth 100000 in
set_option maxHeartbeats 1000000 in
theorem ref_Going_Row_ok (p1 : List Int) (p2 : Int) (p3 : Int) (p4 : Int) (p5 : List Int) (p6 : List Int) (p7 : List Int) (p8 : List TIns) (p9 : Int) (p10 : List Int) (v1_ : Nat) (r : ((List Int) × TFault × Int × (List Int))) (hm : ref_Going_Row p1 p2 p3 p4 p5 p6 p7 p8 p9 p10 = some r) : Spec Try.prog 49 [.c (.optr 0 0), .c (.tree 1 (p1.map (eK .i64)))] [.box [.int .i64 p2, .int .i64 p3, .int .i64 p4, .tree 1 (p5.map (eK .i64)), .tree 1 (p6.map (eK .i64)), .tree 1 (p7.map (eK .i64)), .tree 6 (p8.map TIns.enc), .osl 1 v1_ 0 p10.length, .int .i64 p9], .arr 1 v1_ 2 (p10.map (eK .i64))] (fun p σ => ∃ w1_, (p = .t [.c (.tree 1 (r.1.map (eK .i64))), .a [.int .i64 ((r.2.1).code), .int .i64 ((r.2.1).at_)]] ∧ σ = [.box [.int .i64 p2, .int .i64 p3, .int .i64 p4, .tree 1 (p5.map (eK .i64)), .tree 1 (p6.map (eK .i64)), .tree 1 (p7.map (eK .i64)), .tree 6 (p8.map TIns.enc), .osl 1 w1_ 0 r.2.2.2.length, .int .i64 r.2.2.1], .arr 1 w1_ 2 (r.2.2.2.map (eK .i64))])) (fun _ _ => False) := by
 refine Spec_ofD 135 [.tmp 4, .cell 5 30] Try.func49 rfl rfl rfl (by kernel_rfl) (by simp) ?_
 refine W_eqf ?_
 unfold ref_Going_Row at hm
 refine W_rg [4] ?_
 refine W_seq_k fun k1 hk1 => ?_
 refine W_rg [13, 14, 15, 16, 17, 18, 19, 20] ?_
 by_cases h1 : ¬ (p1.length : Int) = (p5.length : Int)
 ·rw [if_pos h1] at hm
  refine W_condt rfl (bne_iff_ne.2 h1) ?_
  refine W_regF [0, 1, 21, 22] fun k kp hk hp => ?_
  refine go ?_
  obtain ⟨y1, hc2, hm⟩ := bd hm
  refine RP (fun _ => ref_F_ok 17 (-1) _ hc2) ?_
  refine RunRest_ops ?_
  refine go ?_
  refine hk _ _ ?_
  clear hk hp k kp
  refine W_ghost (Ghost_ntS 4 (.c (.tree 1 (([] : List _).map (eK .i64)))) rfl (by and_intros <;> trivial)) ?_
  refine W_eqn ?_
  refine W_ret ?_
  refine KThen_r ?_
  refine KBody_ret [.box [.int .i64 p2, .int .i64 p3, .int .i64 p4, .tree 1 (p5.map (eK .i64)), .tree 1 (p6.map (eK .i64)), .tree 1 (p7.map (eK .i64)), .tree 6 (p8.map TIns.enc), .osl 1 v1_ 0 p10.length, .int .i64 p9], .arr 1 v1_ 2 (p10.map (eK .i64))] ?_
  obtain rfl := Option.some.inj hm
  exact en
 ·rw [if_neg h1] at hm
  refine W_condf rfl (bne_eq_false_iff_eq.2 (Decidable.not_not.1 h1)) ?_
  refine W_skip ?_
  refine KThen_n (hk1 _ _ ?_)
  refine W_joinM (S := Unit) (V := Unit) [4, 6, 21, 23, 24, 25, 26, 27, 28, 29, 30, 31, 32, 33, 34, 35, 36, 37, 38, 39, 40, 41, 42, 43, 44, 45, 46, 47, 48, 49, 50, 51, 52, 53, 54, 55, 56, 57, 58] (fun _ _ => []) (fun _ _ => [.box [.int .i64 p2, .int .i64 p3, .int .i64 p4, .tree 1 (p5.map (eK .i64)), .tree 1 (p6.map (eK .i64)), .tree 1 (p7.map (eK .i64)), .tree 6 (p8.map TIns.enc), .osl 1 v1_ 0 p10.length, .int .i64 p9], .arr 1 v1_ 2 (p10.map (eK .i64)), .box [.int .i64 0, .int .i64 0]]) (fun _ => ref_Going_Row_j1 p1 p2 p3 p4 p5 p6 p7 p8 p9 p10 = some r) ?_ ?_
  ·skip
   refine W_rg [21] ?_
   refine W_block ?_
   obtain ⟨o3, hl3, hm3⟩ := bd hm
   refine W_loopM (S := Int) (V := Unit) (O := Unit ⊕ ((List Int) × TFault × Int × (List Int))) [4, 6, 23, 24, 25, 26, 27, 28, 29, 30, 31, 32, 33, 34, 35, 36, 37, 38, 39, 40, 41, 42, 43, 44, 45, 46, 47, 48, 49, 50, 51, 52, 53, 54, 55, 56, 57, 58] (fun x38 _ => [(6, .c (.int .i64 x38))]) (fun x38 _ => [.box [.int .i64 p2, .int .i64 p3, .int .i64 p4, .tree 1 (p5.map (eK .i64)), .tree 1 (p6.map (eK .i64)), .tree 1 (p7.map (eK .i64)), .tree 6 (p8.map TIns.enc), .osl 1 v1_ 0 p10.length, .int .i64 p9], .arr 1 v1_ 2 (p10.map (eK .i64)), .box [.int .i64 0, .int .i64 0]]) _ _ () hl3 ?_ ?_
   ·exact ls
   ·rintro x38 _ r3 hm hr3
    replace hm : ref_Going_Row_l3 p1 p5 p6 p9 p10 x38 = some r3 := hm
    refine W_eqm ?_
    unfold ref_Going_Row_l3 at hm
    refine W_seq_k fun k7 hk7 => ?_
    refine W_rg [23, 24, 25] ?_
    by_cases h14 : x38 < (p1.length : Int)
    ·rw [if_pos h14] at hm
     refine W_condt rfl (decide_eq_true h14) ?_
     refine W_skip ?_
     refine KThen_n (hk7 _ _ ?_)
     refine W_seq_k fun k8 hk8 => ?_
     refine W_block ?_
     by_cases h15 : ¬ (p1.getD x38.toNat default) = 0
     ·rw [if_pos h15] at hm
      have h15b : ((p1.getD x38.toNat default) != 0) = true := bne_iff_ne.2 h15
      by_cases h16 : ¬ (p1.getD x38.toNat default) = 1
      ·rw [if_pos h16] at hm
       have h16b : ((p1.getD x38.toNat default) != 1) = true := bne_iff_ne.2 h16
       obtain ⟨⟨hg17a, hg17b⟩, hm⟩ := gd hm
       refine W_anyF [26, 29, 30, 31, 32, 33, 34, 35, 36, 37, 38, 39, 40, 41, 42, 43, 44, 45, 46, 47, 48, 49, 50, 51, 52, 53, 54, 55] (by kernel_rfl) [0, 0, 3, 7, 15, 31, 63, 63, 255, 511, 1023, 2047, 4095, 8191, 16383, 32767, 65535, 131071, 8191, 270335, 794623, 1843199, 3940351, 8191, 16523263, 33300479, 67108863, 134217727] [false, false, true, true, true, true, false, false, true, true, true, true, true, false, false, false, false, false, false, false, false, false, false, false, false, false, true, true] (by kernel_rfl) fun k hk => ?_
       refine gax (a2 (em (eK .i64) p1 x38.toNat) (a2 (em (eK .i64) p5 x38.toNat) (a2 h15b h16b))) ?_
       obtain ⟨y39, hc18, hm⟩ := bd hm
       refine AP (fun _ => ref_In_ok p6 (p5.getD x38.toNat default) _ hc18) ?_
       refine gax (a2 h15b h16b) ?_
       refine hk _ _ ?_
       clear hk k
       by_cases h19 : y39 = true
       ·rw [if_pos h19] at hm
        refine W_condt rfl (h19) ?_
        refine W_regF [0, 1, 6, 56, 57, 58] fun k kp hk hp => ?_
        refine go ?_
        obtain ⟨y40, hc20, hm⟩ := bd hm
        refine RP (fun _ => ref_F_ok 17 x38 _ hc20) ?_
        refine RunRest_ops ?_
        refine go ?_
        refine hk _ _ ?_
        clear hk hp k kp
        refine W_ghost (Ghost_ntS 4 (.c (.tree 1 (([] : List _).map (eK .i64)))) rfl (by and_intros <;> trivial)) ?_
        refine W_eqn ?_
        have ho21 := out_eq hm hr3
        subst ho21
        replace hm : some ([], (y40), p9, p10) = some r := hm3
        refine W_ret ?_
        refine KBlock_r ?_
        refine KThen_r ?_
        refine KLoopM_r ?_
        refine KBlock_r ?_
        refine KJoinM_r ?_
        refine KBody_ret [.box [.int .i64 p2, .int .i64 p3, .int .i64 p4, .tree 1 (p5.map (eK .i64)), .tree 1 (p6.map (eK .i64)), .tree 1 (p7.map (eK .i64)), .tree 6 (p8.map TIns.enc), .osl 1 v1_ 0 p10.length, .int .i64 p9], .arr 1 v1_ 2 (p10.map (eK .i64))] ?_
        obtain rfl := Option.some.inj hm
        exact en
       ·rw [if_neg h19] at hm
        refine W_condf rfl (Bool.eq_false_iff.2 h19) ?_
        refine W_skip ?_
        refine KBlock_n ?_
        refine KThen_n (hk8 _ _ ?_)
        refine W_rn ?_
        refine KLoopM_n (IntKind.wrap .i64 (x38 + 1)) () hm ?_
        exact ls
      ·rw [if_neg h16] at hm
       have h16b : ((p1.getD x38.toNat default) != 1) = false := bne_eq_false_iff_eq.2 (Decidable.not_not.1 h16)
       obtain ⟨hg22a, hm⟩ := gd hm
       refine W_agx (a2 (em (eK .i64) p1 x38.toNat) (a2 h15b h16b)) [26, 29, 30, 31, 32, 33, 34, 35, 36, 37, 38, 39, 40, 41, 42, 43, 44, 45, 46, 47, 48, 49, 50, 51, 52, 53, 54, 55] [0, 0, 3, 7, 15, 31, 63, 63, 255, 511, 1023, 2047, 4095, 8191, 16383, 32767, 65535, 131071, 8191, 270335, 794623, 1843199, 3940351, 8191, 16523263, 33300479, 67108863, 134217727] [false, false, true, true, true, true, false, false, true, true, true, true, true, false, false, false, false, false, false, false, false, false, false, false, false, false, true, true] ?_
       refine W_condf rfl rfl ?_
       refine W_skip ?_
       refine KBlock_n ?_
       refine KThen_n (hk8 _ _ ?_)
       refine W_rn ?_
       refine KLoopM_n (IntKind.wrap .i64 (x38 + 1)) () hm ?_
       exact ls
     ·rw [if_neg h15] at hm
      have h15b : ((p1.getD x38.toNat default) != 0) = false := bne_eq_false_iff_eq.2 (Decidable.not_not.1 h15)
      obtain ⟨hg23a, hm⟩ := gd hm
      refine W_agx (a2 (em (eK .i64) p1 x38.toNat) h15b) [26, 29, 30, 31, 32, 33, 34, 35, 36, 37, 38, 39, 40, 41, 42, 43, 44, 45, 46, 47, 48, 49, 50, 51, 52, 53, 54, 55] [0, 0, 3, 7, 15, 31, 63, 63, 255, 511, 1023, 2047, 4095, 8191, 16383, 32767, 65535, 131071, 8191, 270335, 794623, 1843199, 3940351, 8191, 16523263, 33300479, 67108863, 134217727] [false, false, true, true, true, true, false, false, true, true, true, true, true, false, false, false, false, false, false, false, false, false, false, false, false, false, true, true] ?_
      refine W_condf rfl rfl ?_
      refine W_skip ?_
      refine KBlock_n ?_
      refine KThen_n (hk8 _ _ ?_)
      refine W_rn ?_
      refine KLoopM_n (IntKind.wrap .i64 (x38 + 1)) () hm ?_
      exact ls
    ·rw [if_neg h14] at hm
     refine W_condf rfl (decide_eq_false h14) ?_
     refine W_exit ?_
     have ho24 := out_eq hm hr3
     subst ho24
     replace hm : ref_Going_Row_j1 p1 p2 p3 p4 p5 p6 p7 p8 p9 p10 = some r := hm3
     refine KThen_x ?_
     refine KLoopM_x ?_
     refine KBlock_hit ?_
     refine KJoinM_n () () hm ?_
     exact ls
  ·rintro _ _ hm
   replace hm : ref_Going_Row_j1 p1 p2 p3 p4 p5 p6 p7 p8 p9 p10 = some r := hm
   refine W_eqm ?_
   unfold ref_Going_Row_j1 at hm
   refine W_rg [] ?_
   obtain ⟨⟨hg3ax, hg3ay⟩, hm⟩ := gd hm
   refine W_rg [59, 60, 61, 62, 63, 64] ?_
   refine W_eqa [.box [.int .i64 p2, .int .i64 p3, .int .i64 p4, .tree 1 (p5.map (eK .i64)), .tree 1 (p6.map (eK .i64)), .tree 1 (p7.map (eK .i64)), .tree 6 (p8.map TIns.enc), .osl 1 v1_ 0 p10.length, .int .i64 p9], .arr 1 v1_ 2 (p10.map (eK .i64)), .box [.int .i64 0, .int .i64 0], .arr 1 0 2 (p10.map (eK .i64))] ?_
   refine W_rg [65, 66, 67, 68] ?_
   refine W_joinM (S := (List Int)) (V := Unit) [1, 7, 9, 69, 70, 71, 72, 73, 74, 75, 76, 77, 78, 79, 80, 81, 82, 83, 84, 85, 86, 87, 88, 89, 90, 91] (fun l3 _ => [(7, .c (.osl 3 0 0 p10.length))]) (fun l3 _ => [.box [.int .i64 p2, .int .i64 p3, .int .i64 p4, .tree 1 (p5.map (eK .i64)), .tree 1 (p6.map (eK .i64)), .tree 1 (p7.map (eK .i64)), .tree 6 (p8.map TIns.enc), .osl 1 v1_ 0 l3.length, .int .i64 p9], .arr 1 v1_ 2 (l3.map (eK .i64)), .box [.int .i64 0, .int .i64 0], .arr 1 0 2 (p10.map (eK .i64))]) (fun l3 => ref_Going_Row_j2 p2 p3 p4 p5 p6 p7 p8 p9 p10 l3 = some r) ?_ ?_
   ·skip
    refine W_rg [] ?_
    refine W_block ?_
    obtain ⟨o2, hl2, hm2⟩ := bd hm
    refine W_loopM (S := ((List Int) × Int)) (V := Unit) (O := (List Int)) [7, 9, 69, 70, 71, 72, 73, 74, 75, 76, 77, 78, 79, 80, 81, 82, 83, 84, 85, 86, 87, 88, 89, 90, 91] (fun (l33, x34) _ => [(7, .c (.osl 3 0 0 p10.length)), (9, .c (.int .i64 x34))]) (fun (l33, x34) _ => [.box [.int .i64 p2, .int .i64 p3, .int .i64 p4, .tree 1 (p5.map (eK .i64)), .tree 1 (p6.map (eK .i64)), .tree 1 (p7.map (eK .i64)), .tree 6 (p8.map TIns.enc), .osl 1 v1_ 0 l33.length, .int .i64 p9], .arr 1 v1_ 2 (l33.map (eK .i64)), .box [.int .i64 0, .int .i64 0], .arr 1 0 2 (p10.map (eK .i64))]) _ _ () hl2 ?_ ?_
    ·exact ls
    ·rintro ⟨l33, x34⟩ _ r2 hm hr2
     replace hm : ref_Going_Row_l2 p1 p5 l33 x34 = some r2 := hm
     refine W_eqm ?_
     unfold ref_Going_Row_l2 at hm
     refine W_seq_k fun k5 hk5 => ?_
     refine W_rg [69, 70, 71] ?_
     by_cases h11 : x34 < (p1.length : Int)
     ·rw [if_pos h11] at hm
      refine W_condt rfl (decide_eq_true h11) ?_
      refine W_skip ?_
      refine KThen_n (hk5 _ _ ?_)
      refine W_seq_k fun k6 hk6 => ?_
      refine W_block ?_
      obtain ⟨⟨hg12a, hg12b, hg12c⟩, hm⟩ := gd hm
      refine W_anx (a2 (em (eK .i64) p5 x34.toNat) (a2 (em (eK .i64) p1 x34.toNat) (em (eK .i64) l33 ((p5.getD x34.toNat default).toNat)))) [0, 1, 3, 7, 0, 16, 48, 112, 240, 0, 1008, 2032, 0, 0, 12288, 28672, 65535, 131071] [false, false, false, false, false, false, false, false, false, false, false, false, false, false, false, false, true, true] ?_
      refine KBlock_n ?_
      refine KThen_n (hk6 _ _ ?_)
      refine W_rn ?_
      refine KLoopM_n ((l33.set ((p5.getD x34.toNat default).toNat) (p1.getD x34.toNat default)), (IntKind.wrap .i64 (x34 + 1))) () hm ?_
      exact ls
     ·rw [if_neg h11] at hm
      refine W_condf rfl (decide_eq_false h11) ?_
      refine W_exit ?_
      have ho13 := out_eq hm hr2
      subst ho13
      replace hm : ref_Going_Row_j2 p2 p3 p4 p5 p6 p7 p8 p9 p10 l33 = some r := hm2
      refine KThen_x ?_
      refine KLoopM_x ?_
      refine KBlock_hit ?_
      refine KJoinM_n l33 () hm ?_
      exact ls
   ·rintro l3 _ hm
    replace hm : ref_Going_Row_j2 p2 p3 p4 p5 p6 p7 p8 p9 p10 l3 = some r := hm
    refine W_eqm ?_
    unfold ref_Going_Row_j2 at hm
    refine W_seq_k fun k2 hk2 => ?_
    refine W_regF [92, 93] fun k kp hk hp => ?_
    refine go ?_
    obtain ⟨y4, hc4, hm⟩ := bd hm
    refine RA (ref_Going_all_ok p2 p3 p4 p5 p6 p7 p8 p9 l3 v1_ _ hc4) [0, 1] ?_
    rintro p σ' hq5 _
    obtain ⟨rfl, rfl⟩ := hq5
    refine RunRest_ops ?_
    refine go ?_
    refine hk _ _ ?_
    clear hk hp k kp
    refine W_rg [94] ?_
    by_cases h6 : y4.1 ≥ 0
    ·rw [if_pos h6] at hm
     refine W_condt rfl (decide_eq_true h6) ?_
     refine W_rg [0, 7, 8, 95, 96, 97, 98, 99, 100, 101, 102, 103] ?_
     refine W_regF [10, 104, 105] fun k kp hk hp => ?_
     refine go ?_
     obtain ⟨y5, hc7, hm⟩ := bd hm
     refine RP (fun _ => ref_F_ok 16 y4.1 _ hc7) ?_
     refine RunRest_ops ?_
     refine go ?_
     refine hk _ _ ?_
     clear hk hp k kp
     refine W_ghost (Ghost_ntS 4 (.c (.tree 1 (([] : List _).map (eK .i64)))) rfl (by and_intros <;> trivial)) ?_
     refine W_eqn ?_
     refine W_gh (Ghost_mv 1 3 (by decide) rfl rfl) ?_
     refine W_ret ?_
     refine KThen_r ?_
     refine KBody_ret [.box [.int .i64 p2, .int .i64 p3, .int .i64 p4, .tree 1 (p5.map (eK .i64)), .tree 1 (p6.map (eK .i64)), .tree 1 (p7.map (eK .i64)), .tree 6 (p8.map TIns.enc), .osl 1 (v1_ + 1) 0 p10.length, .int .i64 p9], .arr 1 (v1_ + 1) 2 (p10.map (eK .i64))] ?_
     obtain rfl := Option.some.inj hm
     exact en
    ·rw [if_neg h6] at hm
     refine W_condf rfl (decide_eq_false h6) ?_
     refine W_skip ?_
     refine KThen_n (hk2 _ _ ?_)
     refine W_rg [7, 8, 10, 95] ?_
     refine W_ghost (Ghost_nil 11 1 2 (by decide) rfl (Nat.le_of_ble_eq_true rfl)) ?_
     refine W_eql ?_
     refine W_joinM (S := (List Int)) (V := Nat) [0, 11, 12, 106, 107, 108, 109, 110, 111, 112, 113, 114, 115, 116, 117, 118, 119, 120, 121, 122, 123, 124, 125, 126, 127, 128, 129, 130, 131, 132] (fun l8 v9 => [(11, .c (.osl 4 v9 0 l8.length))]) (fun l8 v9 => [.box [.int .i64 p2, .int .i64 p3, .int .i64 p4, .tree 1 (p5.map (eK .i64)), .tree 1 (p6.map (eK .i64)), .tree 1 (p7.map (eK .i64)), .tree 6 (p8.map TIns.enc), .osl 1 v1_ 0 y4.2.2.length, .int .i64 y4.2.1], .arr 1 v1_ 2 (y4.2.2.map (eK .i64)), .box [.int .i64 0, .int .i64 0], .arr 1 0 2 (p10.map (eK .i64)), .arr 1 v9 2 (l8.map (eK .i64))]) (fun l8 => ref_Going_Row_j3 y4 l8 = some r) ?_ ?_
     ·skip
      refine W_rg [] ?_
      refine W_block ?_
      obtain ⟨o1, hl1, hm1⟩ := bd hm
      refine W_loopM (S := ((List Int) × Int)) (V := Nat) (O := (List Int)) [11, 12, 106, 107, 108, 109, 110, 111, 112, 113, 114, 115, 116, 117, 118, 119, 120, 121, 122, 123, 124, 125, 126, 127, 128, 129, 130, 131, 132] (fun (l22, x24) v23 => [(11, .c (.osl 4 v23 0 l22.length)), (12, .c (.int .i64 x24))]) (fun (l22, x24) v23 => [.box [.int .i64 p2, .int .i64 p3, .int .i64 p4, .tree 1 (p5.map (eK .i64)), .tree 1 (p6.map (eK .i64)), .tree 1 (p7.map (eK .i64)), .tree 6 (p8.map TIns.enc), .osl 1 v1_ 0 y4.2.2.length, .int .i64 y4.2.1], .arr 1 v1_ 2 (y4.2.2.map (eK .i64)), .box [.int .i64 0, .int .i64 0], .arr 1 0 2 (p10.map (eK .i64)), .arr 1 v23 2 (l22.map (eK .i64))]) _ _ 0 hl1 ?_ ?_
      ·exact ls
      ·rintro ⟨l22, x24⟩ v23 r1 hm hr1
       replace hm : ref_Going_Row_l1 p7 y4 l22 x24 = some r1 := hm
       refine W_eqm ?_
       unfold ref_Going_Row_l1 at hm
       refine W_seq_k fun k3 hk3 => ?_
       refine W_rg [106, 107, 108, 109, 110, 111, 112] ?_
       by_cases h8 : x24 < (p7.length : Int)
       ·rw [if_pos h8] at hm
        refine W_condt rfl (decide_eq_true h8) ?_
        refine W_skip ?_
        refine KThen_n (hk3 _ _ ?_)
        refine W_seq_k fun k4 hk4 => ?_
        refine W_block ?_
        obtain ⟨⟨hg9a, hg9b, ⟨hg9cx, hg9cy⟩⟩, hm⟩ := gd hm
        refine W_anx (a2 (em (eK .i64) p7 x24.toNat) (em (eK .i64) y4.2.2 ((p7.getD x24.toNat default).toNat))) [0, 0, 2, 6, 14, 0, 32, 96, 224, 480, 0, 2016, 4064, 8190, 16382, 32766, 65535, 131071] [false, false, false, false, false, false, false, false, false, false, false, false, false, false, false, false, true, true] ?_
        refine KBlock_n ?_
        refine KThen_n (hk4 _ _ ?_)
        refine W_rn ?_
        refine KLoopM_n ((l22 ++ (lit ([(y4.2.2.getD ((p7.getD x24.toNat default).toNat) default)] : List Int))), (IntKind.wrap .i64 (x24 + 1))) (v23 + 1) hm ?_
        exact ls
       ·rw [if_neg h8] at hm
        refine W_condf rfl (decide_eq_false h8) ?_
        refine W_exit ?_
        have ho10 := out_eq hm hr1
        subst ho10
        replace hm : ref_Going_Row_j3 y4 l22 = some r := hm1
        refine KThen_x ?_
        refine KLoopM_x ?_
        refine KBlock_hit ?_
        refine KJoinM_n l22 v23 hm ?_
        exact ls
     ·rintro l8 v9 hm
      replace hm : ref_Going_Row_j3 y4 l8 = some r := hm
      refine W_eqm ?_
      unfold ref_Going_Row_j3 at hm
      refine W_rg [11, 133, 134] ?_
      refine W_gh (Ghost_fr 4 rfl) ?_
      refine W_ret ?_
      refine KBody_ret [.box [.int .i64 p2, .int .i64 p3, .int .i64 p4, .tree 1 (p5.map (eK .i64)), .tree 1 (p6.map (eK .i64)), .tree 1 (p7.map (eK .i64)), .tree 6 (p8.map TIns.enc), .osl 1 v1_ 0 y4.2.2.length, .int .i64 y4.2.1], .arr 1 v1_ 2 (y4.2.2.map (eK .i64))] ?_
      obtain rfl := Option.some.inj hm
      exact en
end Pam

/- the walk of vm_VM_Cells, printed by a program of ours -/
namespace Pam
open Go Go.Proofs
set_option maxRecDepth 100000 in
set_option maxHeartbeats 1000000 in
theorem vm_VM_Cells_ok (p1 : Int) (p2 : Int) (p3 : Int) (p4 : List Int) (p5 : List Int) (p6 : List Int) (p7 : List TIns) (p8 : List Int) (p9 : Int) (p10 : List Int) (v1_ : Nat) (r : (List Int)) (hm : vm_VM_Cells p1 p2 p3 p4 p5 p6 p7 p8 p9 p10 = some r) : Spec Try.prog 51 [.c (.optr 0 0)] [.box [.int .i64 p1, .int .i64 p2, .int .i64 p3, .tree 1 (p4.map (eK .i64)), .tree 1 (p5.map (eK .i64)), .tree 1 (p6.map (eK .i64)), .tree 6 (p7.map TIns.enc), .osl 1 v1_ 0 p10.length, .tree 1 (p8.map (eK .i64)), .int .i64 p9], .arr 1 v1_ 2 (p10.map (eK .i64))] (fun p σ => (p = .c (.tree 1 (r.map (eK .i64))) ∧ σ = [.box [.int .i64 p1, .int .i64 p2, .int .i64 p3, .tree 1 (p4.map (eK .i64)), .tree 1 (p5.map (eK .i64)), .tree 1 (p6.map (eK .i64)), .tree 6 (p7.map TIns.enc), .osl 1 v1_ 0 p10.length, .tree 1 (p8.map (eK .i64)), .int .i64 p9], .arr 1 v1_ 2 (p10.map (eK .i64))])) (fun _ _ => False) := by
 refine Spec_ofD 8 [.tmp 2] Try.func51 rfl rfl rfl (by kernel_rfl) (by simp) ?_
 refine W_eqf ?_
 unfold vm_VM_Cells at hm
 refine W_rg [2] ?_
 refine W_regF [0, 3, 4, 5, 6, 7] fun k kp hk hp => ?_
 refine go ?_
 obtain ⟨y1, hc1, hm⟩ := bd hm
 refine RA (slices_Clone_int64_int64_ok p10 v1_ _ hc1) [1] ?_
 rintro p σ' hq2 _
 obtain ⟨rfl, rfl⟩ := hq2
 refine RunRest_ops ?_
 refine go ?_
 refine hk _ _ ?_
 clear hk hp k kp
 refine W_gh (Ghost_fr 2 rfl) ?_
 refine W_ret ?_
 refine KBody_ret [.box [.int .i64 p1, .int .i64 p2, .int .i64 p3, .tree 1 (p4.map (eK .i64)), .tree 1 (p5.map (eK .i64)), .tree 1 (p6.map (eK .i64)), .tree 6 (p7.map TIns.enc), .osl 1 v1_ 0 p10.length, .tree 1 (p8.map (eK .i64)), .int .i64 p9], .arr 1 v1_ 2 (p10.map (eK .i64))] ?_
 obtain rfl := Option.some.inj hm
 exact en
end Pam

/- the walk of ref_SameLongs_2, printed by a program of ours -/
namespace Pam
open Go Go.Proofs
set_option maxRecDepth 100000 in
set_option maxHeartbeats 1000000 in
theorem ref_SameLongs_2_ok (p1 : List Int) (p2 : List Int) (v0_ : Nat) (r : Bool) (hm : ref_SameLongs_2 p1 p2 = some r) : Spec Try.prog 41 [.c (.tree 1 (p1.map (eK .i64))), .c (.osl 0 v0_ 0 p2.length)] [.arr 1 v0_ 2 (p2.map (eK .i64))] (fun p σ => (p = .c (.bool r) ∧ σ = [.arr 1 v0_ 2 (p2.map (eK .i64))])) (fun _ _ => False) := by
 refine Spec_ofD 26 [.tmp 4] Try.func41 rfl rfl rfl (by kernel_rfl) (by simp) ?_
 refine W_eqf ?_
 unfold ref_SameLongs_2 at hm
 refine W_rg [4] ?_
 refine W_seq_k fun k1 hk1 => ?_
 refine W_rg [6, 7, 8, 9] ?_
 by_cases h1 : ¬ (p1.length : Int) = (p2.length : Int)
 ·rw [if_pos h1] at hm
  refine W_condt rfl (bne_iff_ne.2 h1) ?_
  refine W_rg [0, 1, 10] ?_
  refine W_ret ?_
  refine KThen_r ?_
  refine KBody_ret [.arr 1 v0_ 2 (p2.map (eK .i64))] ?_
  obtain rfl := Option.some.inj hm
  exact en
 ·rw [if_neg h1] at hm
  refine W_condf rfl (bne_eq_false_iff_eq.2 (Decidable.not_not.1 h1)) ?_
  refine W_skip ?_
  refine KThen_n (hk1 _ _ ?_)
  refine W_joinM (S := Unit) (V := Unit) [0, 1, 4, 5, 10, 11, 12, 13, 14, 15, 16, 17, 18, 19, 20, 21, 22, 23, 24, 25] (fun _ _ => []) (fun _ _ => [.arr 1 v0_ 2 (p2.map (eK .i64))]) (fun _ => ref_SameLongs_2_j1 = some r) ?_ ?_
  ·skip
   refine W_rg [10] ?_
   refine W_block ?_
   obtain ⟨o1, hl1, hm1⟩ := bd hm
   refine W_loopM (S := Int) (V := Unit) (O := Unit ⊕ Bool) [1, 4, 5, 11, 12, 13, 14, 15, 16, 17, 18, 19, 20, 21, 22, 23, 24, 25] (fun x3 _ => [(1, .c (.osl 0 v0_ 0 p2.length)), (5, .c (.int .i64 x3))]) (fun x3 _ => [.arr 1 v0_ 2 (p2.map (eK .i64))]) _ _ () hl1 ?_ ?_
   ·exact ls
   ·rintro x3 _ r1 hm hr1
    replace hm : ref_SameLongs_2_l1 p1 p2 x3 = some r1 := hm
    refine W_eqm ?_
    unfold ref_SameLongs_2_l1 at hm
    refine W_seq_k fun k2 hk2 => ?_
    refine W_rg [11, 12, 13] ?_
    by_cases h2 : x3 < (p1.length : Int)
    ·rw [if_pos h2] at hm
     refine W_condt rfl (decide_eq_true h2) ?_
     refine W_skip ?_
     refine KThen_n (hk2 _ _ ?_)
     refine W_seq_k fun k3 hk3 => ?_
     refine W_block ?_
     obtain ⟨⟨hg3a, hg3b⟩, hm⟩ := gd hm
     refine W_agx (a2 (em (eK .i64) p1 x3.toNat) (em (eK .i64) p2 x3.toNat)) [14, 17, 18, 19, 20, 21, 22, 23, 24] [0, 0, 3, 7, 0, 0, 48, 112, 255] [false, false, false, false, false, false, false, false, true] ?_
     by_cases h4 : ¬ (p1.getD x3.toNat default) = (p2.getD x3.toNat default)
     ·rw [if_pos h4] at hm
      refine W_condt rfl (bne_iff_ne.2 h4) ?_
      refine W_rg [0, 1, 5, 25] ?_
      have ho5 := out_eq hm hr1
      subst ho5
      replace hm : some false = some r := hm1
      refine W_ret ?_
      refine KBlock_r ?_
      refine KThen_r ?_
      refine KLoopM_r ?_
      refine KBlock_r ?_
      refine KJoinM_r ?_
      refine KBody_ret [.arr 1 v0_ 2 (p2.map (eK .i64))] ?_
      obtain rfl := Option.some.inj hm
      exact en
     ·rw [if_neg h4] at hm
      refine W_condf rfl (bne_eq_false_iff_eq.2 (Decidable.not_not.1 h4)) ?_
      refine W_skip ?_
      refine KBlock_n ?_
      refine KThen_n (hk3 _ _ ?_)
      refine W_rn ?_
      refine KLoopM_n (IntKind.wrap .i64 (x3 + 1)) () hm ?_
      exact ls
    ·rw [if_neg h2] at hm
     refine W_condf rfl (decide_eq_false h2) ?_
     refine W_exit ?_
     have ho6 := out_eq hm hr1
     subst ho6
     replace hm : ref_SameLongs_2_j1 = some r := hm1
     refine KThen_x ?_
     refine KLoopM_x ?_
     refine KBlock_hit ?_
     refine KJoinM_n () () hm ?_
     exact ls
  ·rintro _ _ hm
   replace hm : ref_SameLongs_2_j1 = some r := hm
   refine W_eqm ?_
   unfold ref_SameLongs_2_j1 at hm
   refine W_rg [] ?_
   refine W_ret ?_
   refine KBody_ret [.arr 1 v0_ 2 (p2.map (eK .i64))] ?_
   obtain rfl := Option.some.inj hm
   exact en
end Pam

/- the walk of law_VmRuns, printed by a program of ours -/
namespace Pam
open Go Go.Proofs
set_option maxRecDepth 100000 in
set_option maxHeartbeats 1000000 in
theorem law_VmRuns_ok (p1 : TImage) (p2 : List (List Int)) (r : Bool) (hm : law_VmRuns p1 p2 = some r) : SpecF Try.prog 10 [.a [.int .i64 p1.cells, .int .i64 p1.regs, .int .i64 p1.cost, .tree 1 (p1.put.map (eK .i64)), .tree 1 (p1.bools.map (eK .i64)), .tree 1 (p1.get.map (eK .i64)), .tree 6 (p1.code.map TIns.enc)], .c (.tree 1 (p2.map (eL 1 (eK .i64))))] (.c (.bool r)) := by
 refine Spec_ofD 108 [.tmp 4] Try.func10 rfl rfl rfl (by kernel_rfl) (by simp) ?_
 refine W_eqf ?_
 unfold law_VmRuns at hm
 refine W_rg [0, 4] ?_
 refine W_seq_k fun k1 hk1 => ?_
 refine W_regF [16] fun k kp hk hp => ?_
 refine go ?_
 obtain ⟨y1, hc1, hm⟩ := bd hm
 refine RP (fun _ => law_vmBegun_ok  _ hc1) ?_
 refine RunRest_ops ?_
 refine go ?_
 refine hk _ _ ?_
 clear hk hp k kp
 by_cases h2 : y1 = true
 ·rw [if_pos h2] at hm
  refine W_condf rfl (by rw [show y1 = true from (h2)]; rfl) ?_
  refine W_skip ?_
  refine KThen_n (hk1 _ _ ?_)
  refine W_seq_k fun k2 hk2 => ?_
  refine W_regF [17, 18, 19, 20, 21, 22] fun k kp hk hp => ?_
  refine go ?_
  obtain ⟨y2, hc3, hm⟩ := bd hm
  refine RP (fun _ => ref_GreatImage_ok p1 _ hc3) ?_
  by_cases h4 : y2 = true
  ·rw [if_pos h4] at hm
   have h4b : y2 = true := h4
   refine RunRest_ops ?_
   refine gox h4b ?_
   refine hk _ _ ?_
   clear hk hp k kp
   refine W_condt rfl rfl ?_
   refine W_rg [1, 2, 23] ?_
   refine W_ret ?_
   refine KThen_r ?_
   refine KBody_ret [] ?_
   obtain rfl := Option.some.inj hm
   exact en
  ·rw [if_neg h4] at hm
   have h4b : y2 = false := Bool.eq_false_iff.2 h4
   refine RunRest_ops ?_
   refine gox h4b ?_
   obtain ⟨y3, hc5, hm⟩ := bd hm
   refine RP (fun _ => law_rowsGreat_ok p2 _ hc5) ?_
   refine RunRest_ops ?_
   refine gox h4b ?_
   refine hk _ _ ?_
   clear hk hp k kp
   by_cases h6 : y3 = true
   ·rw [if_pos h6] at hm
    refine W_condt rfl (h6) ?_
    refine W_rg [1, 2, 23] ?_
    refine W_ret ?_
    refine KThen_r ?_
    refine KBody_ret [] ?_
    obtain rfl := Option.some.inj hm
    exact en
   ·rw [if_neg h6] at hm
    refine W_condf rfl (Bool.eq_false_iff.2 h6) ?_
    refine W_skip ?_
    refine KThen_n (hk2 _ _ ?_)
    refine W_regF [23, 24, 25] fun k kp hk hp => ?_
    refine go ?_
    obtain ⟨y4, hc7, hm⟩ := bd hm
    refine RP (fun _ => ref_CopyImage_ok p1 _ hc7) ?_
    refine RunRest_ops ?_
    refine go ?_
    refine hk _ _ ?_
    clear hk hp k kp
    refine W_regF [26, 27] fun k kp hk hp => ?_
    refine go ?_
    obtain ⟨y5, hc8, hm⟩ := bd hm
    refine RP (fun _ => law_copyRows_ok p2 _ hc8) ?_
    refine RunRest_ops ?_
    refine go ?_
    refine hk _ _ ?_
    clear hk hp k kp
    refine W_regF [28, 29, 30, 31, 32] fun k kp hk hp => ?_
    refine go ?_
    obtain ⟨y6, hc9, hm⟩ := bd hm
    refine RA (vm_New_ok (y4)  _ hc9) [] ?_
    rintro p σ' hq10 _
    rcases y6 with y7 | y8
    ·skip
     simp only [Sum.elim_inl, Sum.elim_inr] at hm hq10
     obtain ⟨rfl, rfl⟩ := hq10
     refine RunRest_ops ?_
     refine go ?_
     refine hk _ _ ?_
     clear hk hp k kp
     refine W_regF [33, 34] fun k kp hk hp => ?_
     refine go ?_
     obtain ⟨y9, hc11, hm⟩ := bd hm
     refine RP (fun _ => ref_ImageFault_ok p1 _ hc11) ?_
     refine RunRest_ops ?_
     refine go ?_
     refine hk _ _ ?_
     clear hk hp k kp
     refine W_seq_k fun k3 hk3 => ?_
     refine W_rg [8, 35, 36] ?_
     by_cases h12 : ((y7).code) = ((y9).code) ∧ ((y7).at_) = ((y9).at_)
     ·rw [if_pos h12] at hm
      refine W_condf rfl (by rw [show ((((y7).code) == ((y9).code)) && (((y7).at_) == ((y9).at_))) = true from (by simpa [Bool.and_eq_true] using h12)]; rfl) ?_
      refine W_skip ?_
      refine KThen_n (hk3 _ _ ?_)
      refine W_seq_k fun k4 hk4 => ?_
      by_cases h13 : ¬ ((y9).code) = 0
      ·rw [if_pos h13] at hm
       have h13b : (((y9).code) != 0) = true := bne_iff_ne.2 h13
       refine W_rgx h13b [9, 37, 38, 39, 40, 41, 42, 43, 44] ?_
       refine W_condt rfl rfl ?_
       refine W_rg [1, 2, 5, 6, 7, 45] ?_
       refine W_ret ?_
       refine KThen_r ?_
       refine KBody_ret [] ?_
       obtain rfl := Option.some.inj hm
       exact en
      ·rw [if_neg h13] at hm
       have h13b : (((y9).code) != 0) = false := bne_eq_false_iff_eq.2 (Decidable.not_not.1 h13)
       refine W_rgx h13b [9, 37, 38, 39, 40, 41, 42, 43, 44] ?_
       by_cases h14 : p1.cost > 20000
       ·rw [if_pos h14] at hm
        refine W_condt rfl (decide_eq_true h14) ?_
        refine W_rg [1, 2, 5, 6, 7, 45] ?_
        refine W_ret ?_
        refine KThen_r ?_
        refine KBody_ret [] ?_
        obtain rfl := Option.some.inj hm
        exact en
       ·rw [if_neg h14] at hm
        refine W_condf rfl (decide_eq_false h14) ?_
        refine W_skip ?_
        refine KThen_n (hk4 _ _ ?_)
        refine W_regF [45, 46, 47] fun k kp hk hp => ?_
        refine go ?_
        obtain ⟨y10, hc15, hm⟩ := bd hm
        refine RA (ref_BeginCode_ok p1  _ hc15) [] ?_
        rintro p σ' hq16 _
        obtain ⟨rfl, rfl⟩ := hq16
        refine RunRest_ops ?_
        refine go ?_
        refine hk _ _ ?_
        clear hk hp k kp
        refine W_joinM (S := Unit) (V := Unit) [4, 7, 10, 11, 12, 13, 14, 15, 48, 49, 50, 51, 52, 53, 54, 55, 56, 57, 58, 59, 60, 61, 62, 63, 64, 65, 66, 67, 68, 69, 70, 71, 72, 73, 74, 75, 76, 77, 78, 79, 80, 81, 82, 83, 84, 85, 86, 87, 88, 89, 90, 91, 92, 93, 94, 95, 96, 97, 98, 99] (fun _ _ => []) (fun _ _ => [.box [.int .i64 p1.cells, .int .i64 p1.regs, .int .i64 p1.cost, .tree 1 (p1.put.map (eK .i64)), .tree 1 (p1.bools.map (eK .i64)), .tree 1 (p1.get.map (eK .i64)), .tree 6 (p1.code.map TIns.enc)], .box [.int .i64 ((y4).cells), .int .i64 ((y4).regs), .int .i64 ((y4).cost), .tree 1 (((y4).put).map (eK .i64)), .tree 1 (((y4).bools).map (eK .i64)), .tree 1 (((y4).get).map (eK .i64)), .tree 6 (((y4).code).map TIns.enc)], .box [.int .i64 ((y7).code), .int .i64 ((y7).at_)], .box [.int .i64 ((y9).code), .int .i64 ((y9).at_)], .box [.int .i64 y10.1, .int .i64 y10.2.1, .int .i64 y10.2.2.1, .tree 1 (y10.2.2.2.1.map (eK .i64)), .tree 1 (y10.2.2.2.2.1.map (eK .i64)), .tree 1 (y10.2.2.2.2.2.1.map (eK .i64)), .tree 6 (y10.2.2.2.2.2.2.1.map TIns.enc), .osl 5 1 0 y10.2.2.2.2.2.2.2.2.length, .int .i64 y10.2.2.2.2.2.2.2.1], .arr 1 1 2 (y10.2.2.2.2.2.2.2.2.map (eK .i64))]) (fun _ => law_VmRuns_j1 p1 p2 y4 y5 = some r) ?_ ?_
        ·skip
         refine W_rg [] ?_
         refine W_block ?_
         obtain ⟨o1, hl1, hm1⟩ := bd hm
         refine W_loopM (S := Unit) (V := Unit) (O := Unit) [4, 11, 12, 13, 14, 15, 48, 49, 50, 51, 52, 53, 54, 55, 56, 57, 58, 59, 60, 61, 62, 63, 64, 65, 66, 67, 68, 69, 70, 71, 72, 73, 74, 75, 76, 77, 78, 79, 80, 81, 82, 83, 84, 85, 86, 87, 88, 89, 90, 91, 92, 93, 94, 95, 96, 97, 98, 99] (fun _ _ => [(11, .c (.int .i64 0))]) (fun _ _ => [.box [.int .i64 p1.cells, .int .i64 p1.regs, .int .i64 p1.cost, .tree 1 (p1.put.map (eK .i64)), .tree 1 (p1.bools.map (eK .i64)), .tree 1 (p1.get.map (eK .i64)), .tree 6 (p1.code.map TIns.enc)], .box [.int .i64 ((y4).cells), .int .i64 ((y4).regs), .int .i64 ((y4).cost), .tree 1 (((y4).put).map (eK .i64)), .tree 1 (((y4).bools).map (eK .i64)), .tree 1 (((y4).get).map (eK .i64)), .tree 6 (((y4).code).map TIns.enc)], .box [.int .i64 ((y7).code), .int .i64 ((y7).at_)], .box [.int .i64 ((y9).code), .int .i64 ((y9).at_)], .box [.int .i64 y10.1, .int .i64 y10.2.1, .int .i64 y10.2.2.1, .tree 1 (y10.2.2.2.1.map (eK .i64)), .tree 1 (y10.2.2.2.2.1.map (eK .i64)), .tree 1 (y10.2.2.2.2.2.1.map (eK .i64)), .tree 6 (y10.2.2.2.2.2.2.1.map TIns.enc), .osl 5 1 0 y10.2.2.2.2.2.2.2.2.length, .int .i64 y10.2.2.2.2.2.2.2.1], .arr 1 1 2 (y10.2.2.2.2.2.2.2.2.map (eK .i64))]) _ _ () hl1 ?_ ?_
         ·exact ls
         ·rintro _ _ r1 hm hr1
          replace hm : law_VmRuns_l1 p2 y5 = some r1 := hm
          refine W_eqm ?_
          unfold law_VmRuns_l1 at hm
          refine W_seq_k fun k5 hk5 => ?_
          refine W_rg [48, 49, 50] ?_
          by_cases h20 : 0 < (p2.length : Int)
          ·rw [if_pos h20] at hm
           refine W_condt rfl (decide_eq_true h20) ?_
           refine W_skip ?_
           refine KThen_n (hk5 _ _ ?_)
           refine W_seq_k fun k6 hk6 => ?_
           refine W_block ?_
           obtain ⟨hg21a, hm⟩ := gd hm
           refine W_regF [51, 54, 55, 56, 57, 58, 59, 60, 61, 62] fun k kp hk hp => ?_
           refine gox (em (eL 1 (eK .i64)) y5 0) ?_
           obtain ⟨y13, hc22, hm⟩ := bd hm
           refine RP (fun _ => vm_VM_Row_ok (y5.getD 0 default) _ hc22) ?_
           cases hm
          ·rw [if_neg h20] at hm
           refine W_condf rfl (decide_eq_false h20) ?_
           refine W_exit ?_
           have ho23 := out_eq hm hr1
           subst ho23
           replace hm : law_VmRuns_j1 p1 p2 y4 y5 = some r := hm1
           refine KThen_x ?_
           refine KLoopM_x ?_
           refine KBlock_hit ?_
           refine KJoinM_n () () hm ?_
           exact ls
        ·rintro _ _ hm
         replace hm : law_VmRuns_j1 p1 p2 y4 y5 = some r := hm
         refine W_eqm ?_
         unfold law_VmRuns_j1 at hm
         refine W_regF [1, 2, 5, 6, 100, 101, 102, 103, 104, 105, 106, 107] fun k kp hk hp => ?_
         refine go ?_
         obtain ⟨y11, hc17, hm⟩ := bd hm
         refine RP (fun _ => ref_SameImage_ok (y4) p1 _ hc17) ?_
         by_cases h18 : y11 = true
         ·rw [if_pos h18] at hm
          have h18b : y11 = true := h18
          refine RunRest_ops ?_
          refine gox h18b ?_
          obtain ⟨y12, hc19, hm⟩ := bd hm
          refine RP (fun _ => law_sameRows_ok y5 p2 _ hc19) ?_
          refine RunRest_ops ?_
          refine gox h18b ?_
          refine hk _ _ ?_
          clear hk hp k kp
          refine W_ret ?_
          refine KBody_ret [] ?_
          obtain rfl := Option.some.inj hm
          exact en
         ·rw [if_neg h18] at hm
          have h18b : y11 = false := Bool.eq_false_iff.2 h18
          refine RunRest_ops ?_
          refine gox h18b ?_
          refine hk _ _ ?_
          clear hk hp k kp
          refine W_ret ?_
          refine KBody_ret [] ?_
          obtain rfl := Option.some.inj hm
          exact en
     ·rw [if_neg h12] at hm
      refine W_condt rfl (by rw [show ((((y7).code) == ((y9).code)) && (((y7).at_) == ((y9).at_))) = false from (Bool.eq_false_iff.2 (fun hh => h12 (by simpa [Bool.and_eq_true] using hh)))]; rfl) ?_
      refine W_rg [1, 2, 5, 6, 7, 9, 37] ?_
      refine W_ret ?_
      refine KThen_r ?_
      refine KBody_ret [] ?_
      obtain rfl := Option.some.inj hm
      exact en
    ·skip
     simp only [Sum.elim_inl, Sum.elim_inr] at hm hq10
     obtain ⟨rfl, rfl⟩ := hq10
     refine RunRest_ops ?_
     refine go ?_
     refine hk _ _ ?_
     clear hk hp k kp
     refine W_regF [33, 34] fun k kp hk hp => ?_
     refine go ?_
     obtain ⟨y14, hc24, hm⟩ := bd hm
     refine RP (fun _ => ref_ImageFault_ok p1 _ hc24) ?_
     refine RunRest_ops ?_
     refine go ?_
     refine hk _ _ ?_
     clear hk hp k kp
     refine W_seq_k fun k7 hk7 => ?_
     refine W_rg [8, 35, 36] ?_
     by_cases h25 : ((y8.1).code) = ((y14).code) ∧ ((y8.1).at_) = ((y14).at_)
     ·rw [if_pos h25] at hm
      refine W_condf rfl (by rw [show ((((y8.1).code) == ((y14).code)) && (((y8.1).at_) == ((y14).at_))) = true from (by simpa [Bool.and_eq_true] using h25)]; rfl) ?_
      refine W_skip ?_
      refine KThen_n (hk7 _ _ ?_)
      refine W_seq_k fun k8 hk8 => ?_
      by_cases h26 : ¬ ((y14).code) = 0
      ·rw [if_pos h26] at hm
       have h26b : (((y14).code) != 0) = true := bne_iff_ne.2 h26
       refine W_rgx h26b [9, 37, 38, 39, 40, 41, 42, 43, 44] ?_
       refine W_condt rfl rfl ?_
       refine W_rg [1, 2, 5, 6, 7, 45] ?_
       refine W_ret ?_
       refine KThen_r ?_
       refine KBody_ret [] ?_
       obtain rfl := Option.some.inj hm
       exact en
      ·rw [if_neg h26] at hm
       have h26b : (((y14).code) != 0) = false := bne_eq_false_iff_eq.2 (Decidable.not_not.1 h26)
       refine W_rgx h26b [9, 37, 38, 39, 40, 41, 42, 43, 44] ?_
       by_cases h27 : p1.cost > 20000
       ·rw [if_pos h27] at hm
        refine W_condt rfl (decide_eq_true h27) ?_
        refine W_rg [1, 2, 5, 6, 7, 45] ?_
        refine W_ret ?_
        refine KThen_r ?_
        refine KBody_ret [] ?_
        obtain rfl := Option.some.inj hm
        exact en
       ·rw [if_neg h27] at hm
        refine W_condf rfl (decide_eq_false h27) ?_
        refine W_skip ?_
        refine KThen_n (hk8 _ _ ?_)
        refine W_regF [45, 46, 47] fun k kp hk hp => ?_
        refine go ?_
        obtain ⟨y15, hc28, hm⟩ := bd hm
        refine RA (ref_BeginCode_ok p1  _ hc28) [] ?_
        rintro p σ' hq29 _
        obtain ⟨rfl, rfl⟩ := hq29
        refine RunRest_ops ?_
        refine go ?_
        refine hk _ _ ?_
        clear hk hp k kp
        refine W_joinM (S := ((List Int) × Int × (List Int) × Int × (List Int))) (V := (Nat × Nat)) [4, 7, 10, 11, 12, 13, 14, 15, 48, 49, 50, 51, 52, 53, 54, 55, 56, 57, 58, 59, 60, 61, 62, 63, 64, 65, 66, 67, 68, 69, 70, 71, 72, 73, 74, 75, 76, 77, 78, 79, 80, 81, 82, 83, 84, 85, 86, 87, 88, 89, 90, 91, 92, 93, 94, 95, 96, 97, 98, 99] (fun (l20, x21, l22, x24, l25) (v23, v26) => []) (fun (l20, x21, l22, x24, l25) (v23, v26) => [.box [.int .i64 p1.cells, .int .i64 p1.regs, .int .i64 p1.cost, .tree 1 (p1.put.map (eK .i64)), .tree 1 (p1.bools.map (eK .i64)), .tree 1 (p1.get.map (eK .i64)), .tree 6 (p1.code.map TIns.enc)], .box [.int .i64 ((y4).cells), .int .i64 ((y4).regs), .int .i64 ((y4).cost), .tree 1 (((y4).put).map (eK .i64)), .tree 1 (((y4).bools).map (eK .i64)), .tree 1 (((y4).get).map (eK .i64)), .tree 6 (((y4).code).map TIns.enc)], .box [.int .i64 y8.2.1, .int .i64 y8.2.2.1, .int .i64 y8.2.2.2.1, .tree 1 (y8.2.2.2.2.1.map (eK .i64)), .tree 1 (y8.2.2.2.2.2.1.map (eK .i64)), .tree 1 (y8.2.2.2.2.2.2.1.map (eK .i64)), .tree 6 (y8.2.2.2.2.2.2.2.1.map TIns.enc), .osl 4 v23 0 l22.length, .tree 1 (l20.map (eK .i64)), .int .i64 x21], .box [.int .i64 y8.2.2.2.2.2.2.2.2.2.2.1, .int .i64 y8.2.2.2.2.2.2.2.2.2.2.2.1], .arr 1 v23 2 (l22.map (eK .i64)), .box [.int .i64 ((y8.1).code), .int .i64 ((y8.1).at_)], .box [.int .i64 ((y14).code), .int .i64 ((y14).at_)], .box [.int .i64 y15.1, .int .i64 y15.2.1, .int .i64 y15.2.2.1, .tree 1 (y15.2.2.2.1.map (eK .i64)), .tree 1 (y15.2.2.2.2.1.map (eK .i64)), .tree 1 (y15.2.2.2.2.2.1.map (eK .i64)), .tree 6 (y15.2.2.2.2.2.2.1.map TIns.enc), .osl 8 v26 0 l25.length, .int .i64 x24], .arr 1 v26 2 (l25.map (eK .i64))]) (fun (l20, x21, l22, x24, l25) => law_VmRuns_j2 p1 p2 y4 y5 l20 x21 l22 x24 l25 = some r) ?_ ?_
        ·skip
         refine W_rg [] ?_
         refine W_block ?_
         obtain ⟨o2, hl2, hm2⟩ := bd hm
         refine W_loopM (S := ((List Int) × Int × (List Int) × Int × (List Int) × Int)) (V := (Nat × Nat)) (O := ((List Int) × Int × (List Int) × Int × (List Int)) ⊕ Bool) [4, 11, 12, 13, 14, 15, 48, 49, 50, 51, 52, 53, 54, 55, 56, 57, 58, 59, 60, 61, 62, 63, 64, 65, 66, 67, 68, 69, 70, 71, 72, 73, 74, 75, 76, 77, 78, 79, 80, 81, 82, 83, 84, 85, 86, 87, 88, 89, 90, 91, 92, 93, 94, 95, 96, 97, 98, 99] (fun (l57, x58, l59, x61, l62, x64) (v60, v63) => [(11, .c (.int .i64 x64))]) (fun (l57, x58, l59, x61, l62, x64) (v60, v63) => [.box [.int .i64 p1.cells, .int .i64 p1.regs, .int .i64 p1.cost, .tree 1 (p1.put.map (eK .i64)), .tree 1 (p1.bools.map (eK .i64)), .tree 1 (p1.get.map (eK .i64)), .tree 6 (p1.code.map TIns.enc)], .box [.int .i64 ((y4).cells), .int .i64 ((y4).regs), .int .i64 ((y4).cost), .tree 1 (((y4).put).map (eK .i64)), .tree 1 (((y4).bools).map (eK .i64)), .tree 1 (((y4).get).map (eK .i64)), .tree 6 (((y4).code).map TIns.enc)], .box [.int .i64 y8.2.1, .int .i64 y8.2.2.1, .int .i64 y8.2.2.2.1, .tree 1 (y8.2.2.2.2.1.map (eK .i64)), .tree 1 (y8.2.2.2.2.2.1.map (eK .i64)), .tree 1 (y8.2.2.2.2.2.2.1.map (eK .i64)), .tree 6 (y8.2.2.2.2.2.2.2.1.map TIns.enc), .osl 4 v60 0 l59.length, .tree 1 (l57.map (eK .i64)), .int .i64 x58], .box [.int .i64 y8.2.2.2.2.2.2.2.2.2.2.1, .int .i64 y8.2.2.2.2.2.2.2.2.2.2.2.1], .arr 1 v60 2 (l59.map (eK .i64)), .box [.int .i64 ((y8.1).code), .int .i64 ((y8.1).at_)], .box [.int .i64 ((y14).code), .int .i64 ((y14).at_)], .box [.int .i64 y15.1, .int .i64 y15.2.1, .int .i64 y15.2.2.1, .tree 1 (y15.2.2.2.1.map (eK .i64)), .tree 1 (y15.2.2.2.2.1.map (eK .i64)), .tree 1 (y15.2.2.2.2.2.1.map (eK .i64)), .tree 6 (y15.2.2.2.2.2.2.1.map TIns.enc), .osl 8 v63 0 l62.length, .int .i64 x61], .arr 1 v63 2 (l62.map (eK .i64))]) _ _ (1, 1) hl2 ?_ ?_
         ·exact ls
         ·rintro ⟨l57, x58, l59, x61, l62, x64⟩ ⟨v60, v63⟩ r2 hm hr2
          replace hm : law_VmRuns_l2 p2 y5 y8 y15 l57 x58 l59 x61 l62 x64 = some r2 := hm
          refine W_eqm ?_
          unfold law_VmRuns_l2 at hm
          refine W_seq_k fun k9 hk9 => ?_
          refine W_rg [48, 49, 50] ?_
          by_cases h33 : x64 < (p2.length : Int)
          ·rw [if_pos h33] at hm
           refine W_condt rfl (decide_eq_true h33) ?_
           refine W_skip ?_
           refine KThen_n (hk9 _ _ ?_)
           refine W_seq_k fun k10 hk10 => ?_
           refine W_block ?_
           obtain ⟨hg34a, hm⟩ := gd hm
           refine W_regF [51, 54, 55, 56, 57, 58, 59, 60, 61, 62] fun k kp hk hp => ?_
           refine gox (em (eL 1 (eK .i64)) y5 x64.toNat) ?_
           obtain ⟨y65, hc35, hm⟩ := bd hm
           refine RA (vm_VM_Row_2_ok (y5.getD x64.toNat default) y8.2.1 y8.2.2.1 y8.2.2.2.1 y8.2.2.2.2.1 y8.2.2.2.2.2.1 y8.2.2.2.2.2.2.1 y8.2.2.2.2.2.2.2.1 l57 x58 l59 v60 _ hc35) [2, 4] ?_
           rintro p σ' hq36 _
           obtain ⟨v66, rfl, rfl⟩ := hq36
           refine RunRest_ops ?_
           refine go ?_
           refine hk _ _ ?_
           clear hk hp k kp
           obtain ⟨hg37a, hm⟩ := gd hm
           refine W_regF [63, 64, 65, 66, 67, 68, 69, 70, 71] fun k kp hk hp => ?_
           refine gox (em (eL 1 (eK .i64)) p2 x64.toNat) ?_
           obtain ⟨y67, hc38, hm⟩ := bd hm
           refine RA (ref_Going_Row_ok (p2.getD x64.toNat default) y15.1 y15.2.1 y15.2.2.1 y15.2.2.2.1 y15.2.2.2.2.1 y15.2.2.2.2.2.1 y15.2.2.2.2.2.2.1 x61 l62 v63 _ hc38) [7, 8] ?_
           rintro p σ' hq39 _
           obtain ⟨v68, rfl, rfl⟩ := hq39
           refine RunRest_ops ?_
           refine go ?_
           refine hk _ _ ?_
           clear hk hp k kp
           by_cases h40 : ((y65.2.1).code) = ((y67.2.1).code) ∧ ((y65.2.1).at_) = ((y67.2.1).at_)
           ·rw [if_pos h40] at hm
            have h40b : ((((y65.2.1).code) == ((y67.2.1).code)) && (((y65.2.1).at_) == ((y67.2.1).at_))) = true := by simpa [Bool.and_eq_true] using h40
            have h40c : (!((((y65.2.1).code) == ((y67.2.1).code)) && (((y65.2.1).at_) == ((y67.2.1).at_)))) = false := by rw [h40b]; rfl
            refine W_anyF [12, 13, 14, 15, 72, 73, 74, 75, 76, 77, 78, 79, 80, 81, 82, 83, 84, 85, 86, 87, 88, 89, 90, 91, 92, 93, 94, 95, 96, 97, 98] (by kernel_rfl) [0, 0, 3, 7, 15, 15, 63, 127, 255, 511, 1023, 2047, 1023, 5119, 13311, 29695, 65535, 131071, 262143, 524287, 1048575, 524287, 2621439, 6815743, 15204351, 33554431, 67108863, 134217727] [false, false, true, true, false, false, true, true, true, true, false, false, false, false, false, false, true, true, true, false, false, false, false, false, false, true, true, true] (by kernel_rfl) fun k hk => ?_
            refine gax (a2 h40b h40c) ?_
            obtain ⟨y69, hc41, hm⟩ := bd hm
            refine AP (fun _ => ref_SameLongs_ok y65.1 y67.1 _ hc41) ?_
            by_cases h42 : y69 = true
            ·rw [if_pos h42] at hm
             have h42b : y69 = true := h42
             have h42c : (!y69) = false := by rw [h42b]; rfl
             refine gax (a2 h40b (a2 h40c (a2 h42b h42c))) ?_
             obtain ⟨y70, hc43, hm⟩ := bd hm
             refine AnyCall_at (σ2 := [.box [.int .i64 p1.cells, .int .i64 p1.regs, .int .i64 p1.cost, .tree 1 (p1.put.map (eK .i64)), .tree 1 (p1.bools.map (eK .i64)), .tree 1 (p1.get.map (eK .i64)), .tree 6 (p1.code.map TIns.enc)], .box [.int .i64 ((y4).cells), .int .i64 ((y4).regs), .int .i64 ((y4).cost), .tree 1 (((y4).put).map (eK .i64)), .tree 1 (((y4).bools).map (eK .i64)), .tree 1 (((y4).get).map (eK .i64)), .tree 6 (((y4).code).map TIns.enc)], .box [.int .i64 y8.2.1, .int .i64 y8.2.2.1, .int .i64 y8.2.2.2.1, .tree 1 (y8.2.2.2.2.1.map (eK .i64)), .tree 1 (y8.2.2.2.2.2.1.map (eK .i64)), .tree 1 (y8.2.2.2.2.2.2.1.map (eK .i64)), .tree 6 (y8.2.2.2.2.2.2.2.1.map TIns.enc), .osl 4 v66 0 y65.2.2.2.2.length, .tree 1 (y65.2.2.1.map (eK .i64)), .int .i64 y65.2.2.2.1], .box [.int .i64 y8.2.2.2.2.2.2.2.2.2.2.1, .int .i64 y8.2.2.2.2.2.2.2.2.2.2.2.1], .arr 1 v66 2 (y65.2.2.2.2.map (eK .i64)), .box [.int .i64 ((y8.1).code), .int .i64 ((y8.1).at_)], .box [.int .i64 ((y14).code), .int .i64 ((y14).at_)], .box [.int .i64 y15.1, .int .i64 y15.2.1, .int .i64 y15.2.2.1, .tree 1 (y15.2.2.2.1.map (eK .i64)), .tree 1 (y15.2.2.2.2.1.map (eK .i64)), .tree 1 (y15.2.2.2.2.2.1.map (eK .i64)), .tree 6 (y15.2.2.2.2.2.2.1.map TIns.enc), .osl 8 v68 0 y67.2.2.2.length, .int .i64 y67.2.2.1], .arr 1 v68 2 (y67.2.2.2.map (eK .i64)), .box [.int .i64 ((y65.2.1).code), .int .i64 ((y65.2.1).at_)], .box [.int .i64 ((y67.2.1).code), .int .i64 ((y67.2.1).at_)]]) (res := .c (.int .i64 y70)) ⟨_, _, _, _, [2, 4], vm_VM_Steps_ok y8.2.1 y8.2.2.1 y8.2.2.2.1 y8.2.2.2.2.1 y8.2.2.2.2.2.1 y8.2.2.2.2.2.2.1 y8.2.2.2.2.2.2.2.1 y65.2.2.1 y65.2.2.2.1 y65.2.2.2.2 v66 _ hc43, by simp, by simp, rfl, rfl, by first | trivial | (simp [bX, eK, eB, eS, eL, s_cap, psUnder, PV.under, CV.under, obsBelow, OB.under, cvsBelow]; done), by first | trivial | (simp [bX, eK, eB, eS, eL, s_cap, psUnder, PV.under, CV.under, obsBelow, OB.under, cvsBelow]; done), fun q τ hq _ => by obtain ⟨rfl, rfl⟩ := hq; exact ⟨rfl, rfl⟩, fun _ _ h => h.elim⟩ (by first | trivial | exact dst_ok rfl) (by first | trivial | (intro _; first | trivial | simp [need]) | simp [need]) (by first | exact .inl rfl | exact .inr (by simp only [extB]; and_intros <;> first | rfl | trivial)) ?_
             by_cases h44 : ¬ y70 = y67.2.2.1
             ·rw [if_pos h44] at hm
              have h44b : (y70 != y67.2.2.1) = true := bne_iff_ne.2 h44
              refine gax (a2 h40b (a2 h40c (a2 h42b (a2 h42c h44b)))) ?_
              refine hk _ _ ?_
              clear hk k
              refine W_condt rfl rfl ?_
              refine W_rg [1, 2, 5, 6, 7, 10, 11, 99] ?_
              have ho45 := out_eq hm hr2
              subst ho45
              replace hm : some false = some r := hm2
              refine W_ret ?_
              refine KBlock_r ?_
              refine KThen_r ?_
              refine KLoopM_r ?_
              refine KBlock_r ?_
              refine KJoinM_r ?_
              refine KBody_ret [] ?_
              obtain rfl := Option.some.inj hm
              exact en
             ·rw [if_neg h44] at hm
              have h44b : (y70 != y67.2.2.1) = false := bne_eq_false_iff_eq.2 (Decidable.not_not.1 h44)
              refine gax (a2 h40b (a2 h40c (a2 h42b (a2 h42c h44b)))) ?_
              obtain ⟨y71, hc46, hm⟩ := bd hm
              refine AnyCall_at (σ2 := [.box [.int .i64 p1.cells, .int .i64 p1.regs, .int .i64 p1.cost, .tree 1 (p1.put.map (eK .i64)), .tree 1 (p1.bools.map (eK .i64)), .tree 1 (p1.get.map (eK .i64)), .tree 6 (p1.code.map TIns.enc)], .box [.int .i64 ((y4).cells), .int .i64 ((y4).regs), .int .i64 ((y4).cost), .tree 1 (((y4).put).map (eK .i64)), .tree 1 (((y4).bools).map (eK .i64)), .tree 1 (((y4).get).map (eK .i64)), .tree 6 (((y4).code).map TIns.enc)], .box [.int .i64 y8.2.1, .int .i64 y8.2.2.1, .int .i64 y8.2.2.2.1, .tree 1 (y8.2.2.2.2.1.map (eK .i64)), .tree 1 (y8.2.2.2.2.2.1.map (eK .i64)), .tree 1 (y8.2.2.2.2.2.2.1.map (eK .i64)), .tree 6 (y8.2.2.2.2.2.2.2.1.map TIns.enc), .osl 4 v66 0 y65.2.2.2.2.length, .tree 1 (y65.2.2.1.map (eK .i64)), .int .i64 y65.2.2.2.1], .box [.int .i64 y8.2.2.2.2.2.2.2.2.2.2.1, .int .i64 y8.2.2.2.2.2.2.2.2.2.2.2.1], .arr 1 v66 2 (y65.2.2.2.2.map (eK .i64)), .box [.int .i64 ((y8.1).code), .int .i64 ((y8.1).at_)], .box [.int .i64 ((y14).code), .int .i64 ((y14).at_)], .box [.int .i64 y15.1, .int .i64 y15.2.1, .int .i64 y15.2.2.1, .tree 1 (y15.2.2.2.1.map (eK .i64)), .tree 1 (y15.2.2.2.2.1.map (eK .i64)), .tree 1 (y15.2.2.2.2.2.1.map (eK .i64)), .tree 6 (y15.2.2.2.2.2.2.1.map TIns.enc), .osl 8 v68 0 y67.2.2.2.length, .int .i64 y67.2.2.1], .arr 1 v68 2 (y67.2.2.2.map (eK .i64)), .box [.int .i64 ((y65.2.1).code), .int .i64 ((y65.2.1).at_)], .box [.int .i64 ((y67.2.1).code), .int .i64 ((y67.2.1).at_)]]) (res := .c (.tree 1 (y71.map (eK .i64)))) ⟨_, _, _, _, [2, 4], vm_VM_Cells_ok y8.2.1 y8.2.2.1 y8.2.2.2.1 y8.2.2.2.2.1 y8.2.2.2.2.2.1 y8.2.2.2.2.2.2.1 y8.2.2.2.2.2.2.2.1 y65.2.2.1 y65.2.2.2.1 y65.2.2.2.2 v66 _ hc46, by simp, by simp, rfl, rfl, by first | trivial | (simp [bX, eK, eB, eS, eL, s_cap, psUnder, PV.under, CV.under, obsBelow, OB.under, cvsBelow]; done), by first | trivial | (simp [bX, eK, eB, eS, eL, s_cap, psUnder, PV.under, CV.under, obsBelow, OB.under, cvsBelow]; done), fun q τ hq _ => by obtain ⟨rfl, rfl⟩ := hq; exact ⟨rfl, rfl⟩, fun _ _ h => h.elim⟩ (by first | trivial | exact dst_ok rfl) (by first | trivial | (intro _; first | trivial | simp [need]) | simp [need]) (by first | exact .inl rfl | exact .inr (by simp only [extB]; and_intros <;> first | rfl | trivial)) ?_
              refine gax (a2 h40b (a2 h40c (a2 h42b (a2 h42c h44b)))) ?_
              obtain ⟨y72, hc47, hm⟩ := bd hm
              refine AnyCall_at (σ2 := [.box [.int .i64 p1.cells, .int .i64 p1.regs, .int .i64 p1.cost, .tree 1 (p1.put.map (eK .i64)), .tree 1 (p1.bools.map (eK .i64)), .tree 1 (p1.get.map (eK .i64)), .tree 6 (p1.code.map TIns.enc)], .box [.int .i64 ((y4).cells), .int .i64 ((y4).regs), .int .i64 ((y4).cost), .tree 1 (((y4).put).map (eK .i64)), .tree 1 (((y4).bools).map (eK .i64)), .tree 1 (((y4).get).map (eK .i64)), .tree 6 (((y4).code).map TIns.enc)], .box [.int .i64 y8.2.1, .int .i64 y8.2.2.1, .int .i64 y8.2.2.2.1, .tree 1 (y8.2.2.2.2.1.map (eK .i64)), .tree 1 (y8.2.2.2.2.2.1.map (eK .i64)), .tree 1 (y8.2.2.2.2.2.2.1.map (eK .i64)), .tree 6 (y8.2.2.2.2.2.2.2.1.map TIns.enc), .osl 4 v66 0 y65.2.2.2.2.length, .tree 1 (y65.2.2.1.map (eK .i64)), .int .i64 y65.2.2.2.1], .box [.int .i64 y8.2.2.2.2.2.2.2.2.2.2.1, .int .i64 y8.2.2.2.2.2.2.2.2.2.2.2.1], .arr 1 v66 2 (y65.2.2.2.2.map (eK .i64)), .box [.int .i64 ((y8.1).code), .int .i64 ((y8.1).at_)], .box [.int .i64 ((y14).code), .int .i64 ((y14).at_)], .box [.int .i64 y15.1, .int .i64 y15.2.1, .int .i64 y15.2.2.1, .tree 1 (y15.2.2.2.1.map (eK .i64)), .tree 1 (y15.2.2.2.2.1.map (eK .i64)), .tree 1 (y15.2.2.2.2.2.1.map (eK .i64)), .tree 6 (y15.2.2.2.2.2.2.1.map TIns.enc), .osl 8 v68 0 y67.2.2.2.length, .int .i64 y67.2.2.1], .arr 1 v68 2 (y67.2.2.2.map (eK .i64)), .box [.int .i64 ((y65.2.1).code), .int .i64 ((y65.2.1).at_)], .box [.int .i64 ((y67.2.1).code), .int .i64 ((y67.2.1).at_)]]) (res := .c (.bool y72)) ⟨_, _, _, _, [8], ref_SameLongs_2_ok y71 y67.2.2.2 v68 _ hc47, by simp, by simp, rfl, rfl, by first | trivial | (simp [bX, eK, eB, eS, eL, s_cap, psUnder, PV.under, CV.under, obsBelow, OB.under, cvsBelow]; done), by first | trivial | (simp [bX, eK, eB, eS, eL, s_cap, psUnder, PV.under, CV.under, obsBelow, OB.under, cvsBelow]; done), fun q τ hq _ => by obtain ⟨rfl, rfl⟩ := hq; exact ⟨rfl, rfl⟩, fun _ _ h => h.elim⟩ (by first | trivial | exact dst_ok rfl) (by first | trivial | (intro _; first | trivial | simp [need]) | simp [need]) (by first | exact .inl rfl | exact .inr (by simp only [extB]; and_intros <;> first | rfl | trivial)) ?_
              refine gax (a2 h40b (a2 h40c (a2 h42b (a2 h42c h44b)))) ?_
              refine hk _ _ ?_
              clear hk k
              by_cases h48 : y72 = true
              ·rw [if_pos h48] at hm
               refine W_condf rfl (by rw [show y72 = true from (h48)]; rfl) ?_
               refine W_skip ?_
               refine KBlock_n ?_
               refine KThen_n (hk10 _ _ ?_)
               refine W_rn ?_
               refine KLoopM_n (y65.2.2.1, y65.2.2.2.1, y65.2.2.2.2, y67.2.2.1, y67.2.2.2, (IntKind.wrap .i64 (x64 + 1))) (v66, v68) hm ?_
               exact ls
              ·rw [if_neg h48] at hm
               refine W_condt rfl (by rw [show y72 = false from (Bool.eq_false_iff.2 h48)]; rfl) ?_
               refine W_rg [1, 2, 5, 6, 7, 10, 11, 99] ?_
               have ho49 := out_eq hm hr2
               subst ho49
               replace hm : some false = some r := hm2
               refine W_ret ?_
               refine KBlock_r ?_
               refine KThen_r ?_
               refine KLoopM_r ?_
               refine KBlock_r ?_
               refine KJoinM_r ?_
               refine KBody_ret [] ?_
               obtain rfl := Option.some.inj hm
               exact en
            ·rw [if_neg h42] at hm
             have h42b : y69 = false := Bool.eq_false_iff.2 h42
             have h42c : (!y69) = true := by rw [h42b]; rfl
             refine gax (a2 h40b (a2 h40c (a2 h42b h42c))) ?_
             refine hk _ _ ?_
             clear hk k
             refine W_condt rfl rfl ?_
             refine W_rg [1, 2, 5, 6, 7, 10, 11, 99] ?_
             have ho50 := out_eq hm hr2
             subst ho50
             replace hm : some false = some r := hm2
             refine W_ret ?_
             refine KBlock_r ?_
             refine KThen_r ?_
             refine KLoopM_r ?_
             refine KBlock_r ?_
             refine KJoinM_r ?_
             refine KBody_ret [] ?_
             obtain rfl := Option.some.inj hm
             exact en
           ·rw [if_neg h40] at hm
            have h40b : ((((y65.2.1).code) == ((y67.2.1).code)) && (((y65.2.1).at_) == ((y67.2.1).at_))) = false := Bool.eq_false_iff.2 (fun hh => h40 (by simpa [Bool.and_eq_true] using hh))
            have h40c : (!((((y65.2.1).code) == ((y67.2.1).code)) && (((y65.2.1).at_) == ((y67.2.1).at_)))) = true := by rw [h40b]; rfl
            refine W_agx (a2 h40b h40c) [12, 13, 14, 15, 72, 73, 74, 75, 76, 77, 78, 79, 80, 81, 82, 83, 84, 85, 86, 87, 88, 89, 90, 91, 92, 93, 94, 95, 96, 97, 98] [0, 0, 3, 7, 15, 15, 63, 127, 255, 511, 1023, 2047, 1023, 5119, 13311, 29695, 65535, 131071, 262143, 524287, 1048575, 524287, 2621439, 6815743, 15204351, 33554431, 67108863, 134217727] [false, false, true, true, false, false, true, true, true, true, false, false, false, false, false, false, true, true, true, false, false, false, false, false, false, true, true, true] ?_
            refine W_condt rfl rfl ?_
            refine W_rg [1, 2, 5, 6, 7, 10, 11, 99] ?_
            have ho51 := out_eq hm hr2
            subst ho51
            replace hm : some false = some r := hm2
            refine W_ret ?_
            refine KBlock_r ?_
            refine KThen_r ?_
            refine KLoopM_r ?_
            refine KBlock_r ?_
            refine KJoinM_r ?_
            refine KBody_ret [] ?_
            obtain rfl := Option.some.inj hm
            exact en
          ·rw [if_neg h33] at hm
           refine W_condf rfl (decide_eq_false h33) ?_
           refine W_exit ?_
           have ho52 := out_eq hm hr2
           subst ho52
           replace hm : law_VmRuns_j2 p1 p2 y4 y5 l57 x58 l59 x61 l62 = some r := hm2
           refine KThen_x ?_
           refine KLoopM_x ?_
           refine KBlock_hit ?_
           refine KJoinM_n (l57, x58, l59, x61, l62) (v60, v63) hm ?_
           exact ls
        ·rintro ⟨l20, x21, l22, x24, l25⟩ ⟨v23, v26⟩ hm
         replace hm : law_VmRuns_j2 p1 p2 y4 y5 l20 x21 l22 x24 l25 = some r := hm
         refine W_eqm ?_
         unfold law_VmRuns_j2 at hm
         refine W_regF [1, 2, 5, 6, 100, 101, 102, 103, 104, 105, 106, 107] fun k kp hk hp => ?_
         refine go ?_
         obtain ⟨y27, hc30, hm⟩ := bd hm
         refine RP (fun _ => ref_SameImage_ok (y4) p1 _ hc30) ?_
         by_cases h31 : y27 = true
         ·rw [if_pos h31] at hm
          have h31b : y27 = true := h31
          refine RunRest_ops ?_
          refine gox h31b ?_
          obtain ⟨y28, hc32, hm⟩ := bd hm
          refine RP (fun _ => law_sameRows_ok y5 p2 _ hc32) ?_
          refine RunRest_ops ?_
          refine gox h31b ?_
          refine hk _ _ ?_
          clear hk hp k kp
          refine W_ret ?_
          refine KBody_ret [] ?_
          obtain rfl := Option.some.inj hm
          exact en
         ·rw [if_neg h31] at hm
          have h31b : y27 = false := Bool.eq_false_iff.2 h31
          refine RunRest_ops ?_
          refine gox h31b ?_
          refine hk _ _ ?_
          clear hk hp k kp
          refine W_ret ?_
          refine KBody_ret [] ?_
          obtain rfl := Option.some.inj hm
          exact en
     ·rw [if_neg h25] at hm
      refine W_condt rfl (by rw [show ((((y8.1).code) == ((y14).code)) && (((y8.1).at_) == ((y14).at_))) = false from (Bool.eq_false_iff.2 (fun hh => h25 (by simpa [Bool.and_eq_true] using hh)))]; rfl) ?_
      refine W_rg [1, 2, 5, 6, 7, 9, 37] ?_
      refine W_ret ?_
      refine KThen_r ?_
      refine KBody_ret [] ?_
      obtain rfl := Option.some.inj hm
      exact en
 ·rw [if_neg h2] at hm
  refine W_condt rfl (by rw [show y1 = false from (Bool.eq_false_iff.2 h2)]; rfl) ?_
  refine W_rg [1, 2, 17] ?_
  refine W_ret ?_
  refine KThen_r ?_
  refine KBody_ret [] ?_
  obtain rfl := Option.some.inj hm
  exact en
end Pam
