/-
  Every call of SyntaxStops returns true and leaves what it was handed as it was, where what it reads is of bulk at most 1048576.
-/
import Derived.Test.YtnogignohdjjjaaDoorCards
import Derived.Test.YtnogignohdjjjaaDoorTie
import Derived.Lay
import Derived.Deep.DeepHandedRow
import Derived.Deep.DeepWitnessRowRef
import Derived.Stop.Joined
import Derived.Test.YtnogignohdjjjaaDoorAaRead1
import Derived.Test.YtnogignohdjjjaaDoorAaWalk2
import Derived.Test.YtnogignohdjjjaaDoorAaPlain1
set_option linter.all false
namespace Go.Proofs.YtnogignohdjjjaaDoor.syntaxStops
open Go Pam Go.ChangeShapes Go.RowKit
theorem own:ownKnob Tryd.prog.godebug=none:=by kernel_rfl
theorem laid:laidOutB Tryd.prog=true:=by kernel_rfl
set_option maxRecDepth 100000 in
theorem contract(H:Type)(enc:TypeId×Value→H)(W:World)(base:Nat)(args:Array Value)(ds gs:List (DataW H))(before:List MemPlace)
    (hval:∀ (j:Nat) t v,Tryd.f3.params[j]? = some t→args[j]? = some v→Value.okWide Tryd.prog W .any base t v)
    (hW:DataW.Whole enc Tryd.prog Tryd.f3.params.toList Rows.syntaxStopsSpec.vars false W args.toList ds gs before) (hk:Rows.uptoSmall H (ds++gs)=true) :
    Calls Tryd.prog 3 args W fun e W'=>∃ v,e=.returned v∧Rows.syntaxStopsSpec.post enc Tryd.prog Tryd.f3 false true false false W args v W':=by
  have hW':=hW
  obtain ⟨p,q,hA,hV,rfl,hfz,hnd⟩:=hW
  rw [Tryd.params3] at hA hval
  obtain ⟨v0,vs0,d0,ds0,p0,q0,hargs,rfl,rfl,h0,r0⟩:=trodAll_cons hA
  obtain ⟨v1,vs1,d1,ds1,p1,q1,rfl,rfl,rfl,h1,r1⟩:=trodAll_cons r0
  obtain ⟨rfl,rfl,rfl⟩:=trodAll_nil r1
  obtain rfl:args=#[v0,v1]:=by cases args;simp_all
  obtain ⟨rfl,rfl⟩:=trodVars_none hV
  simp only [List.append_nil] at hk
  have hk:=of_decide_eq_true hk
  obtain ⟨fu0,h0⟩:=h0
  have one0:=ss (hval 0 9 v0 rfl rfl) (by kernel_rfl) (by kernel_rfl)
  obtain ⟨x0,a0,o0,s0⟩:=(uu (B:=vC) Tryd.underlying9) H enc _ _ _ h0
  have s0:szS x0≤Rows.uptoBulk d0:=s0
  obtain ⟨fu1,h1⟩:=h1
  have one1:=ss (hval 1 3 v1 rfl rfl) (by kernel_rfl) (by kernel_rfl)
  obtain ⟨x1,a1,o1,s1⟩:=(ut (B:=vC) Tryd.underlying3) H enc _ _ _ h1
  have s1:szI x1≤Rows.uptoBulk d1:=s1
  simp only [Rows.uptoBulkAll] at hk
  obtain ⟨fuel,hm⟩:=lb x0 x1 o0 o1 (show szS x0+szI x1≤1048576 by omega)
  refine (qf (l0 fuel x0 x1 true hm) W [v0,v1] ⟨qM one0 a0,qM one1 a1,trivial⟩).mono fun e W' hq=>?_
  obtain ⟨v,G',rfl,hv,hb⟩:=hq
  have hv:=it hv;subst hv
  refine ⟨_,rfl,sr (T:=4) laid ?_ rfl hW' hb (by kernel_rfl) Tryd.underlying4 rfl rfl rfl⟩
  rw [Tryd.params3]
  intro t ht
  simp only [List.mem_cons,List.not_mem_nil,or_false] at ht
  rcases ht with rfl|rfl<;>exact ⟨by kernel_rfl,of_decide_eq_true (by kernel_rfl)⟩
set_option maxRecDepth 100000 in
noncomputable def laidWorld(os:Os):World:=World.laidAll Tryd.prog os Rows.syntaxStopsUptoRow.laid
set_option maxRecDepth 100000 in
theorem laid_met(os:Os)(args:Array Value):laidMet Tryd.prog Rows.syntaxStopsUptoRow.laid ((laidWorld os).forCall (fun _ _=>0) ⟨#[],args,[]⟩).memory :=
  laidMet_laidAll _ (by kernel_rfl) (by kernel_rfl)
set_option maxRecDepth 100000 in
theorem reads(os:Os){H:Type}(enc:TypeId×Value→H):∃ places,DataW.whole enc Tryd.prog ((laidWorld os).forCall (fun _ _=>0) ⟨#[],#[.string ⟨#[]⟩,.int .i64 0],[]⟩).memory Tryd.f3.params.toList Rows.syntaxStopsSpec.vars false #[.string ⟨#[]⟩,.int .i64 0].toList 12=some ([.lit (.string []),.lit (.int .i64 0)],[],places) :=
  ⟨[],by kernel_rfl⟩
set_option maxRecDepth 100000 in
theorem lifted(os:Os)(started:os.Started)(H:Type)(enc:TypeId×Value→H)(F:Stop.Interp) :
    ReturnsInHanded {} Tryd.checked os 3 .any ((Rows.OpenSpec.upto Rows.syntaxStopsSpec).preRow enc Tryd.prog Tryd.f3 Rows.syntaxStopsUptoRow.domain false Rows.syntaxStopsUptoRow.laid) (((Rows.OpenSpec.upto Rows.syntaxStopsSpec).at F).post enc Tryd.prog Tryd.f3 false true false false):=by
  obtain ⟨places,hx⟩:=reads os enc
  refine returnsInHanded_of_row (C:=Tryd.checked) (s:=Rows.OpenSpec.upto Rows.syntaxStopsSpec) own started (by kernel_rfl) Tryd.func3
    (witness_row_atRef (enc:=enc) (C:=Tryd.checked) false (laidWorld os) #[.string ⟨#[]⟩,.int .i64 0] (World.laidAll_os _ _ _) (by kernel_rfl) (by kernel_rfl) (by kernel_rfl)
      (OpenSpec.preRow_of_cond 12 hx (by kernel_rfl) (fun k hk=>by cases hk;kernel_rfl) (by kernel_rfl) (laid_met os _))) ?_
  intro W base args ds gs before hval hW _ hk _ _ _ _
  exact contract H enc W base args ds gs before hval hW (hk _ rfl)
theorem over:Rows.syntaxStopsUptoRow.holds Tryd.pinned (Rows.OpenSpec.upto Rows.syntaxStopsSpec) :=
  OpenClaim.holds_of_cond 3 Tryd.f3 rfl rfl rfl rfl rfl rfl rfl ⟨rfl,rfl,rfl,rfl,rfl⟩ rfl rfl rfl rfl rfl (by kernel_rfl) Tryd.func3 (by kernel_rfl)
    (of_decide_eq_true (by kernel_rfl)) (by unfold Func.isWrapper;first|(rw [if_pos (by decide +kernel)];kernel_rfl)|(rw [if_neg (by decide +kernel)];exact ⟨rfl,rfl⟩))
    (fun os started H enc _ F=>by rw [OpenClaim.pre_eq_preRow];exact lifted os started H enc F)
theorem said:Rows.SyntaxStopsUptoSaid:=over
theorem plain (f:FuncId) (fn:Func) (hf:Tryd.pinned.checked.prog.funcNamed "loomwork/loomworklaw.SyntaxStops"=some f) (hfn:Tryd.pinned.checked.prog.funcs[f]? = some fn) :
    true=Tryd.pinned.checked.prog.looks []∧∀ (j:Nat) t,fn.params[j]? = some t→Tryd.pinned.checked.prog.wantsStandIn t=false:=by
  obtain rfl:f=3:=Option.some.inj ((show Tryd.prog.funcNamed "loomwork/loomworklaw.SyntaxStops"=some 3 by kernel_rfl).symm.trans hf) |>.symm
  obtain rfl:fn=Tryd.f3:=(Option.some.inj (Tryd.func3.symm.trans hfn)).symm
  refine ⟨by kernel_rfl,fun j t ht=>?_⟩
  rw [Tryd.params3] at ht
  have ht:=Array.mem_of_getElem? ht
  simp only [List.mem_toArray,List.mem_cons,List.not_mem_nil,or_false] at ht
  rcases ht with rfl|rfl
  · exact (show Tryd.prog.wantsStandIn 9=false by kernel_rfl)
  · exact (show Tryd.prog.wantsStandIn 3=false by kernel_rfl)
theorem proved:Rows.SyntaxStopsUptoCardSaid :=
  Claim7.holds_tied_plain_at .later [] _ _ _ _ said (fun _ h=>by cases h) (by kernel_rfl) (fun _ h=>by cases h) syntaxStopsUpto_row_tie rfl ⟨rfl,rfl⟩ (by kernel_rfl) rfl plain (by kernel_rfl)
end Go.Proofs.YtnogignohdjjjaaDoor.syntaxStops
