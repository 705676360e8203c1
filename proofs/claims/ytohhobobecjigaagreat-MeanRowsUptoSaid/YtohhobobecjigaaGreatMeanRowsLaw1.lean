/-
  Every call of MeanRows returns true and leaves what it was handed as it was, where what it reads is of bulk at most 1048576.
-/
import Derived.Test.YtohhobobecjigaaGreatQaRead1
import Derived.Test.YtohhobobecjigaaGreatQaWalk4
import Derived.Test.YtohhobobecjigaaGreatQaPlain2
set_option linter.all false
namespace Go.Proofs.YtohhobobecjigaaGreat.meanRows
open Go Pam Go.ChangeShapes Go.RowKit
theorem own:ownKnob Tryz.prog.godebug=none:=by kernel_rfl
theorem laid:laidOutB Tryz.prog=true:=by kernel_rfl
set_option maxRecDepth 100000 in
theorem contract(H:Type)(enc:TypeId×Value→H)(W:World)(base:Nat)(args:Array Value)(ds gs:List (DataW H))(before:List MemPlace)
    (hval:∀ (j:Nat) t v,Tryz.f3.params[j]? = some t→args[j]? = some v→Value.okWide Tryz.prog W .any base t v)
    (hW:DataW.Whole enc Tryz.prog Tryz.f3.params.toList Rows.meanRowsSpec.vars false W args.toList ds gs before) (hk:Rows.uptoSmall H (ds++gs)=true) :
    Calls Tryz.prog 3 args W fun e W'=>∃ v,e=.returned v∧Rows.meanRowsSpec.post enc Tryz.prog Tryz.f3 false true false false W args v W':=by
  have hW':=hW
  obtain ⟨p,q,hA,hV,rfl,hfz,hnd⟩:=hW
  rw [Tryz.params3] at hA hval
  obtain ⟨v0,vs0,d0,ds0,p0,q0,hargs,rfl,rfl,h0,r0⟩:=trodAll_cons hA
  obtain ⟨v1,vs1,d1,ds1,p1,q1,rfl,rfl,rfl,h1,r1⟩:=trodAll_cons r0
  obtain ⟨rfl,rfl,rfl⟩:=trodAll_nil r1
  obtain rfl:args=#[v0,v1]:=by cases args;simp_all
  obtain ⟨rfl,rfl⟩:=trodVars_none hV
  simp only [List.append_nil] at hk
  have hk:=of_decide_eq_true hk
  obtain ⟨fu0,h0⟩:=h0
  obtain ⟨cs0,rfl⟩:=Fi (hval 0 26 v0 rfl rfl) (by kernel_rfl)
  obtain ⟨x0,a0,o0,s0⟩:=(ab.read W) H enc _ _ _ h0
  have s0:ab.sz x0≤Rows.uptoBulk d0:=s0
  obtain ⟨fu1,h1⟩:=h1
  have one1:=Fh (hval 1 27 v1 rfl rfl) (by kernel_rfl) (by kernel_rfl)
  obtain ⟨x1,a1,o1,s1⟩:=(mL (B:=eW) (s:=1) Tryz.underlying27 (by kernel_rfl) (by first|decide|exact Nat.zero_lt_succ _) (fun _=>rfl) (mL (B:=eW) (s:=1) Tryz.underlying42 (by kernel_rfl) (by first|decide|exact Nat.zero_lt_succ _) (fun _=>rfl) (lP (B:=eW) Tryz.underlying2))) H enc _ _ _ h1
  have s1:(szL (szL szI)) x1≤Rows.uptoBulk d1:=s1
  simp only [Rows.uptoBulkAll] at hk
  obtain ⟨fuel,hm⟩:=tx x0 x1 o0 o1 (show ab.sz x0+(szL (szL szI)) x1≤1048576 by omega)
  refine (Ac (uT fuel x0 x1 true hm) W [.agg cs0,v1] ⟨DV a0,DW one1 a1,trivial⟩).mono fun e W' hq=>?_
  obtain ⟨v,G',rfl,hv,hb⟩:=hq
  have hv:=mJ hv;subst hv
  refine ⟨_,rfl,Cy (T:=4) laid ?_ rfl hW' hb (by kernel_rfl) Tryz.underlying4 rfl rfl rfl⟩
  rw [Tryz.params3]
  intro t ht
  simp only [List.mem_cons,List.not_mem_nil,or_false] at ht
  rcases ht with rfl|rfl<;>exact ⟨by kernel_rfl,of_decide_eq_true (by kernel_rfl)⟩
set_option maxRecDepth 100000 in
theorem lifted(os:Os)(started:os.Started)(H:Type)(enc:TypeId×Value→H)(F:Stop.Interp) :
    ReturnsInHanded {} Tryz.checked os 3 .any ((Rows.OpenSpec.upto Rows.meanRowsSpec).pre6 enc Tryz.prog Tryz.f3 Rows.meanRowsUptoRow.domain false) (((Rows.OpenSpec.upto Rows.meanRowsSpec).at F).post enc Tryz.prog Tryz.f3 false true false false):=by
  refine returnsInHanded_of_cond (C:=Tryz.checked) (s:=Rows.OpenSpec.upto Rows.meanRowsSpec) (k:=Rows.uptoSmall) rfl own started (by kernel_rfl) Tryz.func3
    (OpenSpec.witness (enc:=enc) (C:=Tryz.checked) (s:=Rows.OpenSpec.upto Rows.meanRowsSpec) (k:=Rows.uptoSmall) rfl false ⟨#[],#[.agg #[.slice none 0 0,.slice none 0 0,.slice none 0 0,.slice none 0 0],.slice none 0 0],[]⟩ 12 (by kernel_rfl) (by kernel_rfl) (by kernel_rfl)
      (x:=([.agg [.nil,.nil,.nil,.nil],.nil],[],[])) (by kernel_rfl) rfl (by kernel_rfl)) ?_
  intro W base args ds gs before hval hW _ hk _
  exact contract H enc W base args ds gs before hval hW hk
theorem over:Rows.meanRowsUptoRow.holds Tryz.pinned (Rows.OpenSpec.upto Rows.meanRowsSpec) :=
  OpenClaim.holds_of_cond 3 Tryz.f3 rfl rfl rfl rfl rfl rfl rfl ⟨rfl,rfl,rfl,rfl,rfl⟩ rfl rfl rfl rfl rfl (by kernel_rfl) Tryz.func3 (by kernel_rfl)
    (of_decide_eq_true (by kernel_rfl)) (by unfold Func.isWrapper;first|(rw [if_pos (by decide +kernel)];kernel_rfl)|(rw [if_neg (by decide +kernel)];exact ⟨rfl,rfl⟩))
    (fun os started H enc _ F=>lifted os started H enc F)
theorem proved:Rows.MeanRowsUptoSaid:=over
end Go.Proofs.YtohhobobecjigaaGreat.meanRows
