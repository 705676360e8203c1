/-
  Every call of RenderPrints returns true and leaves what it was handed as it was, where what it reads is of bulk at most 1048576.
-/
import Derived.Test.YtmlkpniimpahoaaGreatDoorSaTabs1
import Derived.Test.YtmlkpniimpahoaaGreatDoorCards
import Derived.Test.YtmlkpniimpahoaaGreatDoorTie
import Derived.Lay
import Derived.Deep.DeepHandedRow
import Derived.Deep.DeepWitnessRowRef
import Derived.Stop.Joined
import Derived.Test.YtmlkpniimpahoaaGreatDoorSaRead1
import Derived.Test.YtmlkpniimpahoaaGreatDoorSaWalk2
import Derived.Test.YtmlkpniimpahoaaGreatDoorSaPlain1
set_option linter.all false
namespace Go.Proofs.YtmlkpniimpahoaaGreatDoor.renderPrints
open Go Pam Go.ChangeShapes Go.RowKit
theorem own:ownKnob Tryz.prog.godebug=none:=by kernel_rfl
theorem laid:laidOutB Tryz.prog=true:=by kernel_rfl
set_option maxRecDepth 100000 in
theorem contract(H:Type)(enc:TypeId×Value→H)(W:World)(base:Nat)(args:Array Value)(ds gs:List (DataW H))(before:List MemPlace)
    (hval:∀ (j:Nat) t v,Tryz.f4.params[j]? = some t→args[j]? = some v→Value.okWide Tryz.prog W .any base t v)
    (hW:DataW.Whole enc Tryz.prog Tryz.f4.params.toList Rows.renderPrintsSpec.vars false W args.toList ds gs before) (hk:Rows.uptoSmall H (ds++gs)=true) (hlaid:laidMetH Tryz.prog Rows.renderPrintsUptoRow.laid W) :
    Calls Tryz.prog 4 args W fun e W'=>∃ v,e=.returned v∧Rows.renderPrintsSpec.post enc Tryz.prog Tryz.f4 false true false false W args v W':=by
  have hW':=hW
  obtain ⟨p,q,hA,hV,rfl,hfz,hnd⟩:=hW
  rw [Tryz.params4] at hA hval
  obtain ⟨v0,vs0,d0,ds0,p0,q0,hargs,rfl,rfl,h0,r0⟩:=trodAll_cons hA
  obtain ⟨rfl,rfl,rfl⟩:=trodAll_nil r0
  obtain rfl:args=#[v0]:=by cases args;simp_all
  obtain ⟨rfl,rfl⟩:=trodVars_none hV
  simp only [List.append_nil] at hk
  have hk:=of_decide_eq_true hk
  obtain ⟨fu0,h0⟩:=h0
  obtain ⟨cs0,rfl⟩:=Gm (hval 0 24 v0 rfl rfl) (by kernel_rfl)
  obtain ⟨x0,a0,o0,s0⟩:=(aB.read W) H enc _ _ _ h0
  have s0:aB.sz x0≤Rows.uptoBulk d0:=s0
  simp only [Rows.uptoBulkAll] at hk
  obtain ⟨fuel,hm⟩:=tk x0 o0 (show aB.sz x0≤1048576 by omega)
  refine (Bz (ux fuel x0 true hm) W (Tryz.tabs_of_laid (by kernel_rfl) hlaid) [.agg cs0] ⟨EP a0,trivial⟩).mono fun e W' hq=>?_
  obtain ⟨v,G',rfl,hv,hb⟩:=hq
  have hv:=py hv;subst hv
  refine ⟨_,rfl,DJ (T:=4) laid ?_ rfl hW' hb (by kernel_rfl) Tryz.underlying4 rfl rfl rfl⟩
  rw [Tryz.params4]
  intro t ht
  simp only [List.mem_cons,List.not_mem_nil,or_false] at ht
  rcases ht with rfl<;>exact ⟨by kernel_rfl,of_decide_eq_true (by kernel_rfl)⟩
set_option maxRecDepth 100000 in
noncomputable def laidWorld(os:Os):World:=World.laidAll Tryz.prog os Rows.renderPrintsUptoRow.laid
set_option maxRecDepth 100000 in
theorem laid_met(os:Os)(args:Array Value):laidMet Tryz.prog Rows.renderPrintsUptoRow.laid ((laidWorld os).forCall (fun _ _=>0) ⟨#[],args,[]⟩).memory :=
  laidMet_laidAll _ (by kernel_rfl) (by kernel_rfl)
set_option maxRecDepth 100000 in
theorem reads(os:Os){H:Type}(enc:TypeId×Value→H):∃ places,DataW.whole enc Tryz.prog ((laidWorld os).forCall (fun _ _=>0) ⟨#[],#[.agg #[.slice none 0 0]],[]⟩).memory Tryz.f4.params.toList Rows.renderPrintsSpec.vars false #[.agg #[.slice none 0 0]].toList 12=some ([.agg [.nil]],[],places) :=
  ⟨[],by kernel_rfl⟩
set_option maxRecDepth 100000 in
theorem lifted(os:Os)(started:os.Started)(H:Type)(enc:TypeId×Value→H)(F:Stop.Interp) :
    ReturnsInHanded {} Tryz.checked os 4 .any ((Rows.OpenSpec.upto Rows.renderPrintsSpec).preRow enc Tryz.prog Tryz.f4 Rows.renderPrintsUptoRow.domain false Rows.renderPrintsUptoRow.laid) (((Rows.OpenSpec.upto Rows.renderPrintsSpec).at F).post enc Tryz.prog Tryz.f4 false true false false):=by
  obtain ⟨places,hx⟩:=reads os enc
  refine returnsInHanded_of_row (C:=Tryz.checked) (s:=Rows.OpenSpec.upto Rows.renderPrintsSpec) own started (by kernel_rfl) Tryz.func4
    (witness_row_atRef (enc:=enc) (C:=Tryz.checked) false (laidWorld os) #[.agg #[.slice none 0 0]] (World.laidAll_os _ _ _) (by kernel_rfl) (by kernel_rfl) (by kernel_rfl)
      (OpenSpec.preRow_of_cond 12 hx (by kernel_rfl) (fun k hk=>by cases hk;kernel_rfl) (by kernel_rfl) (laid_met os _))) ?_
  intro W base args ds gs before hval hW _ hk _ hlaid _ _
  exact contract H enc W base args ds gs before hval hW (hk _ rfl) hlaid
theorem over:Rows.renderPrintsUptoRow.holds Tryz.pinned (Rows.OpenSpec.upto Rows.renderPrintsSpec) :=
  OpenClaim.holds_of_cond 4 Tryz.f4 rfl rfl rfl rfl rfl rfl rfl ⟨rfl,rfl,rfl,rfl,rfl⟩ rfl rfl rfl rfl rfl (by kernel_rfl) Tryz.func4 (by kernel_rfl)
    (of_decide_eq_true (by kernel_rfl)) (by unfold Func.isWrapper;first|(rw [if_pos (by decide +kernel)];kernel_rfl)|(rw [if_neg (by decide +kernel)];exact ⟨rfl,rfl⟩))
    (fun os started H enc _ F=>by rw [OpenClaim.pre_eq_preRow];exact lifted os started H enc F)
theorem said:Rows.RenderPrintsUptoSaid:=over
theorem plain (f:FuncId) (fn:Func) (hf:Tryz.pinned.checked.prog.funcNamed "loomwork/loomworklaw.RenderPrints"=some f) (hfn:Tryz.pinned.checked.prog.funcs[f]? = some fn) :
    true=Tryz.pinned.checked.prog.looks []∧∀ (j:Nat) t,fn.params[j]? = some t→Tryz.pinned.checked.prog.wantsStandIn t=false:=by
  obtain rfl:f=4:=Option.some.inj ((show Tryz.prog.funcNamed "loomwork/loomworklaw.RenderPrints"=some 4 by kernel_rfl).symm.trans hf) |>.symm
  obtain rfl:fn=Tryz.f4:=(Option.some.inj (Tryz.func4.symm.trans hfn)).symm
  refine ⟨by kernel_rfl,fun j t ht=>?_⟩
  rw [Tryz.params4] at ht
  have ht:=Array.mem_of_getElem? ht
  simp only [List.mem_toArray,List.mem_cons,List.not_mem_nil,or_false] at ht
  rcases ht with rfl
  · exact (show Tryz.prog.wantsStandIn 24=false by kernel_rfl)
theorem proved:Rows.RenderPrintsUptoCardSaid :=
  Claim7.holds_tied_plain_at .later [] _ _ _ _ said (fun _ h=>by cases h) (by kernel_rfl) (fun _ h=>by cases h) renderPrintsUpto_row_tie rfl ⟨rfl,rfl⟩ (by kernel_rfl) rfl plain (by kernel_rfl)
end Go.Proofs.YtmlkpniimpahoaaGreatDoor.renderPrints
