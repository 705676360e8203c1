/-
  Every call of SyntaxJoins returns true and leaves what it was handed as it was, where what it reads is of bulk at most 1048576.
-/
import Derived.Test.YtnogignohdjjjaaGreatDoorCards
import Derived.Test.YtnogignohdjjjaaGreatDoorTie
import Derived.Lay
import Derived.Deep.DeepHandedRow
import Derived.Deep.DeepWitnessRowRef
import Derived.Stop.Joined
import Derived.Test.YtnogignohdjjjaaGreatDoorJaRead1
import Derived.Test.YtnogignohdjjjaaGreatDoorJaWalk2
import Derived.Test.YtnogignohdjjjaaGreatDoorJaPlain1
set_option linter.all false
namespace Go.Proofs.YtnogignohdjjjaaGreatDoor.syntaxJoins
open Go Pam Go.ChangeShapes Go.RowKit
theorem own:ownKnob Tryz.prog.godebug=none:=by kernel_rfl
theorem laid:laidOutB Tryz.prog=true:=by kernel_rfl
set_option maxRecDepth 100000 in
theorem contract(H:Type)(enc:TypeId×Value→H)(W:World)(base:Nat)(args:Array Value)(ds gs:List (DataW H))(before:List MemPlace)
    (hval:∀ (j:Nat) t v,Tryz.f5.params[j]? = some t→args[j]? = some v→Value.okWide Tryz.prog W .any base t v)
    (hW:DataW.Whole enc Tryz.prog Tryz.f5.params.toList Rows.syntaxJoinsSpec.vars false W args.toList ds gs before) (hk:Rows.uptoSmall H (ds++gs)=true) :
    Calls Tryz.prog 5 args W fun e W'=>∃ v,e=.returned v∧Rows.syntaxJoinsSpec.post enc Tryz.prog Tryz.f5 false true false false W args v W':=by
  have hW':=hW
  obtain ⟨p,q,hA,hV,rfl,hfz,hnd⟩:=hW
  rw [Tryz.params5] at hA hval
  obtain ⟨v0,vs0,d0,ds0,p0,q0,hargs,rfl,rfl,h0,r0⟩:=trodAll_cons hA
  obtain ⟨v1,vs1,d1,ds1,p1,q1,rfl,rfl,rfl,h1,r1⟩:=trodAll_cons r0
  obtain ⟨rfl,rfl,rfl⟩:=trodAll_nil r1
  obtain rfl:args=#[v0,v1]:=by cases args;simp_all
  obtain ⟨rfl,rfl⟩:=trodVars_none hV
  simp only [List.append_nil] at hk
  have hk:=of_decide_eq_true hk
  obtain ⟨fu0,h0⟩:=h0
  have one0:=v7 (hval 0 9 v0 rfl rfl) (by kernel_rfl) (by kernel_rfl)
  obtain ⟨x0,a0,o0,s0⟩:=(vZ (B:=Aq) Tryz.underlying9) H enc _ _ _ h0
  have s0:szS x0≤Rows.uptoBulk d0:=s0
  obtain ⟨fu1,h1⟩:=h1
  have one1:=v7 (hval 1 9 v1 rfl rfl) (by kernel_rfl) (by kernel_rfl)
  obtain ⟨x1,a1,o1,s1⟩:=(vZ (B:=Aq) Tryz.underlying9) H enc _ _ _ h1
  have s1:szS x1≤Rows.uptoBulk d1:=s1
  simp only [Rows.uptoBulkAll] at hk
  obtain ⟨fuel,hm⟩:=nl x0 x1 o0 o1 (show szS x0+szS x1≤1048576 by omega)
  refine (tq (oD fuel x0 x1 true hm) W [v0,v1] ⟨ui one0 a0,ui one1 a1,trivial⟩).mono fun e W' hq=>?_
  obtain ⟨v,G',rfl,hv,hb⟩:=hq
  have hv:=jX hv;subst hv
  refine ⟨_,rfl,v6 (T:=4) laid ?_ rfl hW' hb (by kernel_rfl) Tryz.underlying4 rfl rfl rfl⟩
  rw [Tryz.params5]
  intro t ht
  simp only [List.mem_cons,List.not_mem_nil,or_false] at ht
  rcases ht with rfl|rfl<;>exact ⟨by kernel_rfl,of_decide_eq_true (by kernel_rfl)⟩
set_option maxRecDepth 100000 in
noncomputable def laidWorld(os:Os):World:=World.laidAll Tryz.prog os Rows.syntaxJoinsUptoRow.laid
set_option maxRecDepth 100000 in
theorem laid_met(os:Os)(args:Array Value):laidMet Tryz.prog Rows.syntaxJoinsUptoRow.laid ((laidWorld os).forCall (fun _ _=>0) ⟨#[],args,[]⟩).memory :=
  laidMet_laidAll _ (by kernel_rfl) (by kernel_rfl)
set_option maxRecDepth 100000 in
theorem reads(os:Os){H:Type}(enc:TypeId×Value→H):∃ places,DataW.whole enc Tryz.prog ((laidWorld os).forCall (fun _ _=>0) ⟨#[],#[.string ⟨#[]⟩,.string ⟨#[]⟩],[]⟩).memory Tryz.f5.params.toList Rows.syntaxJoinsSpec.vars false #[.string ⟨#[]⟩,.string ⟨#[]⟩].toList 12=some ([.lit (.string []),.lit (.string [])],[],places) :=
  ⟨[],by kernel_rfl⟩
set_option maxRecDepth 100000 in
theorem lifted(os:Os)(started:os.Started)(H:Type)(enc:TypeId×Value→H)(F:Stop.Interp) :
    ReturnsInHanded {} Tryz.checked os 5 .any ((Rows.OpenSpec.upto Rows.syntaxJoinsSpec).preRow enc Tryz.prog Tryz.f5 Rows.syntaxJoinsUptoRow.domain false Rows.syntaxJoinsUptoRow.laid) (((Rows.OpenSpec.upto Rows.syntaxJoinsSpec).at F).post enc Tryz.prog Tryz.f5 false true false false):=by
  obtain ⟨places,hx⟩:=reads os enc
  refine returnsInHanded_of_row (C:=Tryz.checked) (s:=Rows.OpenSpec.upto Rows.syntaxJoinsSpec) own started (by kernel_rfl) Tryz.func5
    (witness_row_atRef (enc:=enc) (C:=Tryz.checked) false (laidWorld os) #[.string ⟨#[]⟩,.string ⟨#[]⟩] (World.laidAll_os _ _ _) (by kernel_rfl) (by kernel_rfl) (by kernel_rfl)
      (OpenSpec.preRow_of_cond 12 hx (by kernel_rfl) (fun k hk=>by cases hk;kernel_rfl) (by kernel_rfl) (laid_met os _))) ?_
  intro W base args ds gs before hval hW _ hk _ _ _ _
  exact contract H enc W base args ds gs before hval hW (hk _ rfl)
theorem over:Rows.syntaxJoinsUptoRow.holds Tryz.pinned (Rows.OpenSpec.upto Rows.syntaxJoinsSpec) :=
  OpenClaim.holds_of_cond 5 Tryz.f5 rfl rfl rfl rfl rfl rfl rfl ⟨rfl,rfl,rfl,rfl,rfl⟩ rfl rfl rfl rfl rfl (by kernel_rfl) Tryz.func5 (by kernel_rfl)
    (of_decide_eq_true (by kernel_rfl)) (by unfold Func.isWrapper;first|(rw [if_pos (by decide +kernel)];kernel_rfl)|(rw [if_neg (by decide +kernel)];exact ⟨rfl,rfl⟩))
    (fun os started H enc _ F=>by rw [OpenClaim.pre_eq_preRow];exact lifted os started H enc F)
theorem said:Rows.SyntaxJoinsUptoSaid:=over
theorem plain (f:FuncId) (fn:Func) (hf:Tryz.pinned.checked.prog.funcNamed "loomwork/loomworklaw.SyntaxJoins"=some f) (hfn:Tryz.pinned.checked.prog.funcs[f]? = some fn) :
    true=Tryz.pinned.checked.prog.looks []∧∀ (j:Nat) t,fn.params[j]? = some t→Tryz.pinned.checked.prog.wantsStandIn t=false:=by
  obtain rfl:f=5:=Option.some.inj ((show Tryz.prog.funcNamed "loomwork/loomworklaw.SyntaxJoins"=some 5 by kernel_rfl).symm.trans hf) |>.symm
  obtain rfl:fn=Tryz.f5:=(Option.some.inj (Tryz.func5.symm.trans hfn)).symm
  refine ⟨by kernel_rfl,fun j t ht=>?_⟩
  rw [Tryz.params5] at ht
  have ht:=Array.mem_of_getElem? ht
  simp only [List.mem_toArray,List.mem_cons,List.not_mem_nil,or_false] at ht
  rcases ht with rfl|rfl
  · exact (show Tryz.prog.wantsStandIn 9=false by kernel_rfl)
  · exact (show Tryz.prog.wantsStandIn 9=false by kernel_rfl)
theorem proved:Rows.SyntaxJoinsUptoCardSaid :=
  Claim7.holds_tied_plain_at .later [] _ _ _ _ said (fun _ h=>by cases h) (by kernel_rfl) (fun _ h=>by cases h) syntaxJoinsUpto_row_tie rfl ⟨rfl,rfl⟩ (by kernel_rfl) rfl plain (by kernel_rfl)
end Go.Proofs.YtnogignohdjjjaaGreatDoor.syntaxJoins
