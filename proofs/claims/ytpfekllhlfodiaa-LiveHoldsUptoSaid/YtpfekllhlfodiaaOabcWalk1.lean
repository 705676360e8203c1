/- the walk of ref_Needs, printed by a program of ours -/
import Derived.Test.YtpfekllhlfodiaaOBase2
import Derived.Test.YtpfekllhlfodiaaOabcdFun1
import Derived.Test.YtpfekllhlfodiaaOabcdWalk1
set_option linter.all false
namespace Pam
open Go Go.Proofs
set_option maxRecDepth 100000 in
set_option maxHeartbeats 1000000 in
theorem j6 (p1 : ae) (r : (List Int)) (hm : ji p1 = some r) : bU Try.prog 59 [.a [.int .i64 p1.op, .int .i64 p1.k, .int .i64 p1.out_, .int .i64 p1.n, .tree 1 (p1.a.map (eK .i64)), .tree 4 (p1.e.map aI.enc)]] (.c (.tree 1 (r.map (eK .i64)))) := by
 refine aN 19 [.tmp 2] Try.func59 rfl rfl rfl (by kernel_rfl) (by simp) ?_;refine bu ?_;unfold ji at hm;refine ao [0, 2] ?_;refine aF (S := Unit) (V := Unit) [2, 3, 4, 5, 6, 7, 8, 9, 10, 11, 12, 13, 14, 15, 16] (fun _ _ => []) (fun _ _ => [.box [.int .i64 p1.op, .int .i64 p1.k, .int .i64 p1.out_, .int .i64 p1.n, .tree 1 (p1.a.map (eK .i64)), .tree 4 (p1.e.map aI.enc)]]) (fun _ => iS p1 = some r) ?_ ?_
 ·skip;refine bx [3, 4, 5, 6, 7, 8, 9, 10] fun k kp hk hp => ?_
  refine ap 4 ?_;refine go ?_
  by_cases h2 : p1.op = 13
  ·rw [if_pos h2] at hm;have h2b := beq_iff_eq.2 h2;refine aa ?_;refine gox h2b ?_;refine hk _ _ ?_;clear hk hp k kp
   by_cases h3 : (p1.a.length : Int) = 2
   ·rw [if_pos h3] at hm;refine ah rfl (beq_iff_eq.2 h3) ?_;obtain ⟨hg4a, hm⟩ := gd hm;refine bo (em (eK .i64) p1.a 0) [1, 11, 12, 13, 14, 15, 16] ?_;refine ff [.box [.int .i64 p1.op, .int .i64 p1.k, .int .i64 p1.out_, .int .i64 p1.n, .tree 1 (p1.a.map (eK .i64)), .tree 4 (p1.e.map aI.enc)], .arr 1 0 3 ((lit ([(p1.a.getD 0 default)] : List Int)).map (eK .i64))] ?_;refine e9 (bn 1 rfl) ?_;refine an ?_;refine ay ?_;refine ab [] ?_;obtain rfl := Option.some.inj hm;exact en
   ·rw [if_neg h3] at hm;refine aj rfl (beq_eq_false_iff_ne.2 h3) ?_;refine ar ?_;refine av () () hm ?_;exact ls
  ·rw [if_neg h2] at hm;have h2b := beq_eq_false_iff_ne.2 h2;refine aa ?_;refine gox h2b ?_;refine hk _ _ ?_;clear hk hp k kp;refine aj rfl rfl ?_;refine ar ?_;refine av () () hm ?_;exact ls
 ·rintro _ _ hm;replace hm : iS p1 = some r := hm;refine aD ?_;unfold iS at hm;refine aJ [1, 17, 18] fun k kp hk hp => ?_;refine go ?_;obtain ⟨y1, hc1, hm⟩ := bd hm;refine RP (fun _ => pm p1 _ hc1) ?_;refine aa ?_;refine go ?_;refine hk _ _ ?_;clear hk hp k kp;refine an ?_;refine ab [] ?_;obtain rfl := Option.some.inj hm;exact en
end Pam
